/- A part of the proofs over this program: T270, T271, T244, T95, T246, T247, T251W, T258, T273, T287, T288, T289, T290, T291. -/
import Derived.Test.YtnfoijopccdjeaaGreatG0
import Derived.Test.YtnfoijopccdjeaaGreatG1
import Derived.Test.YtnfoijopccdjeaaGreatG2
import Derived.Test.YtnfoijopccdjeaaGreatG3
import Derived.Test.YtnfoijopccdjeaaGreatP0
import Derived.Test.YtnfoijopccdjeaaGreatP1
import Derived.Test.YtnfoijopccdjeaaGreatP2
import Derived.Test.YtnfoijopccdjeaaGreatP3
import Derived.Test.YtnfoijopccdjeaaGreatP4
import Derived.Test.YtnfoijopccdjeaaGreatP5
import Derived.Test.YtnfoijopccdjeaaGreatP6
import Derived.Test.YtnfoijopccdjeaaGreatP7
set_option linter.all false
namespace Go.Proofs.YtnfoijopccdjeaaGreat
open Go.Gl
attribute [local irreducible] z18 AWP z33 z37 z34
def Nx (s:Sys) (a b:State):Prop:=(∃ x∈z145 s a,b=z76 s a x)∨(z145 s a=[]∧b=a)
inductive Rch (s:Sys) (a:State):State→Prop
 |base:Rch s a a
 |next {b c:State} : Rch s a b→Nx s b c→Rch s a c
theorem Nx.ok {s:Sys} (hs:s.ok) {a b:State} (ha:a.ok s) (h:Nx s a b):b.ok s:=by
 rcases h with ⟨x,hx,rfl⟩|⟨_,rfl⟩
 ·exact z311 hs ha (z653 x hx)
 ·exact ha
theorem Nx.ex (s:Sys) (a:State):∃ b,Nx s a b:=by
 cases h:z145 s a with
 |nil=>exact ⟨a,.inr ⟨h,rfl⟩⟩
 |cons x l=>exact ⟨_,.inl ⟨x,by rw [h];simp,rfl⟩⟩
theorem z627 (t:State):∀ (l:List State) (k:Int),0≤k→(z119 t l k=-1∧t ∉ l)∨∃ m:Nat,z119 t l k=k+m∧l[m]?=some t:=by
 intro l
 induction l with
 |nil=>intro k _;exact .inl ⟨rfl,by simp⟩
 |cons x l ih =>
  intro k hk
  simp only [z119]
  by_cases hx:x=t
  ·rw [if_pos hx]
   exact .inr ⟨0,by simp,by simp [hx]⟩
  ·rw [if_neg hx]
   rcases ih (k+1) (by omega) with ⟨h1,h2⟩|⟨m,h1,h2⟩
   ·exact .inl ⟨h1,by simp [h2];exact fun h=>hx h.symm⟩
   ·exact .inr ⟨m+1,by rw [h1];omega,by simpa using h2⟩
theorem nd_idx {α:Type} {l:List α} (h:l.Nodup) {i j:Nat} {x:α} (hi:l[i]?=some x) (hj:l[j]?=some x):i=j:=by
 obtain ⟨h1,e1⟩:=List.getElem?_eq_some_iff.1 hi
 obtain ⟨h2,e2⟩:=List.getElem?_eq_some_iff.1 hj
 exact (List.getElem_inj h).1 (e1.trans e2.symm)
theorem z557 {t:State} {l:List State} (h:l.Nodup) {m:Nat} (hm:l[m]?=some t):z119 t l 0=m:=by
 rcases z627 t l 0 (by omega) with ⟨_,h2⟩|⟨k,h1,h2⟩
 ·exact absurd (List.mem_of_getElem? hm) h2
 ·rw [h1,nd_idx h hm h2];omega
open Classical in
theorem z674 {N:List Int} {v w:Int} : w∈(if v∈N then N else N++[v])↔w∈N∨w=v:=by
 split
 ·rename_i h
  exact ⟨.inl,fun k=>k.elim id fun e=>e ▸ h⟩
 ·simp
open Classical in
theorem nd_put {N:List Int} {v:Int} (h:N.Nodup):(if v∈N then N else N++[v]).Nodup:=by
 split
 ·exact h
 ·rename_i hv
  rw [y75]
  exact ⟨h,by simp,fun a ha b hb e=>by rw [List.mem_singleton.1 hb] at e;exact hv (e ▸ ha)⟩
theorem z360 {α:Type} {S R:List α} {i:Nat} {x:α} (h:S[i]?=some x):(S++R)[i]?=some x:=by
 rw [y65 (List.getElem?_eq_some_iff.1 h).1];exact h
theorem z1130 {α:Type} {S:List α} {x:α} (h:S.Nodup) (hx:x ∉ S):(S++[x]).Nodup:=by
 rw [y75]
 exact ⟨h,by simp,fun a ha b hb e=>by rw [List.mem_singleton.1 hb] at e;exact hx (e ▸ ha)⟩
structure InnF (s:Sys) (st0:State) (n0:Nat) (P:List Stp) (S:List State) (N:List Int):Prop where
 snd:S.Nodup
 nnd:N.Nodup
 sin:∀ n∈N,0≤n∧∃ x∈P,S[n.toNat]?=some (z76 s st0 x)
 all:∀ x∈P,∃ n∈N,0≤n∧S[n.toNat]?=some (z76 s st0 x)
 new:∀ j:Nat,n0≤j→j < S.length→(j:Int)∈N
theorem InnF.put {s:Sys} {st0:State} {n0:Nat} {P:List Stp} {S:List State} {N:List Int} {x:Stp} {m:Nat} {R:List State} (h:InnF s st0 n0 P S N) (hS:(S++R).Nodup) (hm:(S++R)[m]?=some (z76 s st0 x)) (hn:∀ j:Nat,S.length≤j→j < (S++R).length→j=m):InnF s st0 n0 (P++[x]) (S++R) (open Classical in if (m:Int)∈N then N else N++[(m:Int)]):=by
 refine ⟨hS,nd_put h.nnd,fun n hn=>?_,fun y hy=>?_,fun j h1 h2=>z674.2 ?_⟩
 ·rcases z674.1 hn with hn|rfl
  ·obtain ⟨a,y,hy,e⟩:=h.sin n hn
   exact ⟨a,y,by simp [hy],z360 e⟩
  ·exact ⟨by omega,x,by simp,by simpa using hm⟩
 ·rcases List.mem_append.1 hy with hy|hy
  ·obtain ⟨n,a,b,e⟩:=h.all y hy
   exact ⟨n,z674.2 (.inl a),b,z360 e⟩
  ·rw [List.mem_singleton.1 hy]
   exact ⟨m,z674.2 (.inr rfl),by omega,by simpa using hm⟩
 ·by_cases hj:j < S.length
  ·exact .inl (h.new j h1 hj)
  ·exact .inr (by rw [hn j (by omega) h2])
theorem inn_F {s : Sys} {st0 : State} {n0 : Nat} : ∀ (L P : List Stp) (S : List State) (N : List Int), InnF s st0 n0 P S N → S.length ≤ 60 → match inn s st0 L S N with
  |some (S',N')=>InnF s st0 n0 (P++L) S' N'∧(∃ R,S'=S++R∧∀ t∈R,∃ x∈L,t=z76 s st0 x)
  |none=>∃ R,(S++R).Nodup∧61≤(S++R).length∧∀ t∈R,∃ x∈L,t=z76 s st0 x:=by
 intro L
 induction L with
 |nil =>
  intro P S N h _
  simp only [inn,y64]
  exact ⟨h,[],by simp,by simp⟩
 |cons x L ih =>
  intro P S N h h60
  have ih:=ih (P++[x])
  rw [List.append_assoc] at ih
  simp only [inn]
  rcases z627 (z76 s st0 x) S 0 (by omega) with ⟨h1,h2⟩|⟨m,h1,h2⟩
  ·rw [if_pos (by omega)]
   by_cases hq:60≤(S.length:Int)
   ·rw [if_pos hq]
    exact ⟨[z76 s st0 x],z1130 h.snd h2,by simp;omega,by simp⟩
   ·rw [if_neg hq]
    have hp:=h.put (x:=x) (m:=S.length) (R:=[z76 s st0 x]) (z1130 h.snd h2) (by simp) (fun j a b=>by simp at b;omega)
    have:=ih _ _ hp (by simp;omega)
    split at this
    ·rename_i S' N' e
     try rw [e]
     obtain ⟨a,R,rfl,c⟩:=this
     refine ⟨a,z76 s st0 x::R,by simp,fun t ht=>?_⟩
     rcases List.mem_cons.1 ht with rfl|ht
     ·exact ⟨x,by simp,rfl⟩
     ·obtain ⟨y,hy,e⟩:=c t ht
      exact ⟨y,by simp [hy],e⟩
    ·rename_i e
     try rw [e]
     obtain ⟨R,a,b,c⟩:=this
     refine ⟨z76 s st0 x::R,by simpa using a,by simpa using b,fun t ht=>?_⟩
     rcases List.mem_cons.1 ht with rfl|ht
     ·exact ⟨x,by simp,rfl⟩
     ·obtain ⟨y,hy,e⟩:=c t ht
      exact ⟨y,by simp [hy],e⟩
  ·have hml:=(List.getElem?_eq_some_iff.1 h2).1
   rw [h1,Int.zero_add,if_neg (by omega),if_neg (by omega)]
   have hp:=h.put (x:=x) (m:=m) (R:=[]) (by simpa using h.snd) (by simpa using h2) (fun j a b=>by simp at b;omega)
   rw [y64] at hp
   have:=ih _ _ hp h60
   split at this
   ·rename_i S' N' e
    try rw [e]
    obtain ⟨a,R,rfl,c⟩:=this
    refine ⟨a,R,rfl,fun t ht=>?_⟩
    obtain ⟨y,hy,e⟩:=c t ht
    exact ⟨y,by simp [hy],e⟩
   ·rename_i e
    try rw [e]
    obtain ⟨R,a,b,c⟩:=this
    refine ⟨R,a,b,fun t ht=>?_⟩
    obtain ⟨y,hy,e⟩:=c t ht
    exact ⟨y,by simp [hy],e⟩
theorem inn_len {s:Sys} {st0:State} : ∀ {L:List Stp} {S:List State} {N:List Int} {S' : List State} {N' : List Int},S.length≤60→inn s st0 L S N=some (S',N')→S'.length≤60:=by
 intro L
 induction L with
 |nil =>
  intro S N S' N' h e
  simp only [inn,Option.some.injEq,Prod.mk.injEq] at e
  rw [← e.1];exact h
 |cons x L ih =>
  intro S N S' N' h e
  simp only [inn] at e
  split at e
  ·split at e
   ·cases e
   ·exact ih (by simp;omega) e
  ·split at e
   ·cases e
   ·exact ih h e
structure RowF (s:Sys) (S:List State) (a:State) (r:List Int):Prop where
 nd:r.Nodup
 ne:r≠[]
 sin:∀ n∈r,0≤n∧∃ b,S[n.toNat]?=some b∧Nx s a b
 all:∀ b,Nx s a b→∃ n∈r,0≤n∧S[n.toNat]?=some b
theorem RowF.app {s:Sys} {S R:List State} {a:State} {r:List Int} (h:RowF s S a r):RowF s (S++R) a r :=
 ⟨h.nd,h.ne,fun n hn=>by obtain ⟨x,b,y,z⟩:=h.sin n hn;exact ⟨x,b,z360 y,z⟩,fun b hb=>by obtain ⟨n,x,y,z⟩:=h.all b hb;exact ⟨n,x,y,z360 z⟩⟩
structure GF (s:Sys) (st1:State) (S:List State) (G:List (List Int)) (i:Nat):Prop where
 snd:S.Nodup
 i0:S[0]?=some st1
 gl:G.length=i
 le:i≤S.length
 n60:S.length≤60
 rch:∀ t∈S,Rch s st1 t
 row:∀ k,k < i→∀ a,S[k]?=some a→RowF s S a (G.getD k [])
 par:∀ j:Nat,1≤j→j < S.length→∃ k,k < i∧(j:Int)∈G.getD k []
 ord:∀ c,c < i→∀ n∈G.getD c [],∀ j:Nat,1≤j→(j:Int)≤n→∃ k,k≤c∧(j:Int)∈G.getD k []
theorem z226 {α:Type} {G:List α} {r d:α} {k:Nat} (h:k < G.length):(G++[r]).getD k d=G.getD k d:=by
 rw [y67,y67,y65 h]
theorem z301 {α:Type} {G:List α} {r d:α} : (G++[r]).getD G.length d=r:=by
 rw [y67];simp
theorem GF.step {s:Sys} {st1:State} {S R:List State} {G:List (List Int)} {i:Nat} {st0:State} {N:List Int} (h:GF s st1 S G i) (hst:S[i]?=some st0) (hi:InnF s st0 S.length (z145 s st0) (S++R) N) (hR:∀ t∈R,∃ x∈z145 s st0,t=z76 s st0 x) (hl:(S++R).length≤60):GF s st1 (S++R) (G++[z205 (z145 s st0) N i]) (i+1):=by
 have hgl:=h.gl
 have hil:=(List.getElem?_eq_some_iff.1 hst).1
 have hrow:RowF s (S++R) st0 (z205 (z145 s st0) N i):=by
  unfold z205
  by_cases hz:z145 s st0=[]
  ·rw [if_pos hz]
   have hN:N=[]:=by
    cases N with
    |nil=>rfl
    |cons n N=>obtain ⟨_,x,hx,_⟩:=hi.sin n (by simp);rw [hz] at hx;cases hx
   rw [hN]
   refine ⟨by simp,by simp,fun n hn=>?_,fun b hb=>?_⟩
   ·simp only [List.nil_append,y54] at hn
    subst hn
    exact ⟨by omega,st0,z360 (by simpa using hst),.inr ⟨hz,rfl⟩⟩
   ·rcases hb with ⟨x,hx,_⟩|⟨_,rfl⟩
    ·rw [hz] at hx;cases hx
    ·exact ⟨i,by simp,by omega,z360 (by simpa using hst)⟩
  ·rw [if_neg hz]
   refine ⟨hi.nnd,fun e=>?_,fun n hn=>?_,fun b hb=>?_⟩
   ·obtain ⟨x,hx⟩:=List.exists_mem_of_ne_nil _ hz
    obtain ⟨n,hn,_⟩:=hi.all x hx
    rw [e] at hn;cases hn
   ·obtain ⟨a,x,hx,e⟩:=hi.sin n hn
    exact ⟨a,_,e,.inl ⟨x,hx,rfl⟩⟩
   ·rcases hb with ⟨x,hx,rfl⟩|⟨e,_⟩
    ·exact hi.all x hx
    ·exact absurd e hz
 have hnew:∀ j:Nat,S.length≤j→j < (S++R).length→(j:Int)∈z205 (z145 s st0) N i:=fun j a b=>by
  have:=hi.new j a b
  unfold z205
  split
  ·exact List.mem_append_left _ this
  ·exact this
 have hpar:∀ j:Nat,1≤j→j < (S++R).length→∃ k,k < i+1∧(j:Int)∈(G++[z205 (z145 s st0) N i]).getD k []:=fun j a b=>by
  by_cases hj:j < S.length
  ·obtain ⟨k,hk,e⟩:=h.par j a hj
   exact ⟨k,by omega,by rw [z226 (by omega)];exact e⟩
  ·exact ⟨i,by omega,by rw [← hgl,z301,hgl];exact hnew j (by omega) b⟩
 refine ⟨hi.snd,z360 h.i0,by simp [hgl],by simp;omega,hl,fun t ht=>?_,fun k hk a ha=>?_,hpar,fun c hc n hn j a b=>?_⟩
 ·rcases List.mem_append.1 ht with ht|ht
  ·exact h.rch t ht
  ·obtain ⟨x,hx,rfl⟩:=hR t ht
   exact .next (h.rch st0 (List.mem_of_getElem? hst)) (.inl ⟨x,hx,rfl⟩)
 ·by_cases hki:k < i
  ·have ha' : S[k]?=some a:=by rw [← ha,y65 (by omega)]
   rw [z226 (by omega)]
   exact (h.row k hki a ha').app
  ·have e:k=i:=by omega
   subst e
   have ha' : S[k]?=some a:=by rw [← ha,y65 (by omega)]
   rw [hst] at ha'
   simp only [Option.some.injEq] at ha'
   subst ha'
   rw [show (G++[z205 (z145 s st0) N k]).getD k []=z205 (z145 s st0) N k by rw [← hgl,z301,hgl]]
   exact hrow
 ·by_cases hci:c < i
  ·rw [z226 (by omega)] at hn
   obtain ⟨k,hk,e⟩:=h.ord c hci n hn j a b
   exact ⟨k,hk,by rw [z226 (by omega)];exact e⟩
  ·have e:c=i:=by omega
   subst e
   rw [show (G++[z205 (z145 s st0) N c]).getD c []=z205 (z145 s st0) N c by rw [← hgl,z301,hgl]] at hn
   obtain ⟨p,t,q,_⟩:=hrow.sin n hn
   have:=(List.getElem?_eq_some_iff.1 q).1
   obtain ⟨k,hk,e⟩:=hpar j a (by omega)
   exact ⟨k,by omega,e⟩
theorem grow_F {s : Sys} {st1 : State} : ∀ (f : Nat) (S : List State) (G : List (List Int)) (i : Nat), GF s st1 S G i → 61 ≤ f + i → match grow s f S G i with
  |some g=>GF s st1 g.st g.nx g.st.length
  |none=>∃ T:List State,T.Nodup∧61≤T.length∧∀ t∈T,Rch s st1 t:=by
 intro f
 induction f with
 |zero=>intro S G i h hf;have:=h.le;have:=h.n60;omega
 |succ f ih =>
  intro S G i h hf
  simp only [grow]
  cases hst:S[i]? with
  |none =>
   have:S.length≤i:=List.getElem?_eq_none_iff.1 hst
   have e:i=S.length:=by have:=h.le;omega
   subst e
   exact h
  |some st0 =>
   dsimp only
   have:=inn_F (s:=s) (st0:=st0) (n0:=S.length) (z145 s st0) [] S [] ⟨h.snd,by simp,by simp,by simp,fun j a b=>absurd b (by omega)⟩ h.n60
   rw [List.nil_append] at this
   split at this
   ·rename_i S' N' e
    rw [e]
    obtain ⟨a,R,rfl,c⟩:=this
    dsimp only
    have hl:(S++R).length≤60:=by
     have:=inn_len (L:=z145 s st0) (S:=S) (N:=[]) h.n60 e
     exact this
    exact ih _ _ _ (h.step hst a c hl) (by omega)
   ·rename_i e
    rw [e]
    obtain ⟨R,a,b,c⟩:=this
    refine ⟨S++R,a,b,fun t ht=>?_⟩
    rcases List.mem_append.1 ht with ht|ht
    ·exact h.rch t ht
    ·obtain ⟨x,hx,rfl⟩:=c t ht
     exact .next (h.rch st0 (List.mem_of_getElem? hst)) (.inl ⟨x,hx,rfl⟩)
end Go.Proofs.YtnfoijopccdjeaaGreat
namespace Go.Proofs.YtnfoijopccdjeaaGreat
open Go.Gl
attribute [local irreducible] z18 AWP z33 z37 z34
noncomputable def ini (s:Sys):State:=⟨List.replicate s.ps.length 0,s.init⟩
theorem ini_ok {s:Sys} (hs:s.ok):(ini s).ok s:=⟨by simp [ini],hs.init⟩
theorem Rch.ok {s:Sys} (hs:s.ok) {t:State} (h:Rch s (ini s) t):t.ok s:=by
 induction h with
 |base=>exact ini_ok hs
 |next _ hn ih=>exact Nx.ok hs ih hn
theorem build_F {s : Sys} (hs : sysB s = true) : match z91 s with
  |some g=>GF s (ini s) g.st g.nx g.st.length
  |none=>∃ T:List State,T.Nodup∧61≤T.length∧∀ t∈T,Rch s (ini s) t:=by
 unfold z91
 rw [if_pos hs]
 exact grow_F (s:=s) (st1:=ini s) 61 [ini s] [] 0 ⟨by simp,rfl,rfl,by simp,by simp,fun t ht=>by rw [List.mem_singleton.1 ht];exact .base,fun k hk=>absurd hk (by omega),fun j a b=>by simp at b;omega,fun c hc=>absurd hc (by omega)⟩ (by omega)
theorem z330 {s:Sys} {g:Graph} (h:z91 s=some g):sysB s=true∧GF s (ini s) g.st g.nx g.st.length:=by
 have hs:sysB s=true:=by
  unfold z91 at h
  split at h
  ·assumption
  ·cases h
 have:=build_F hs
 rw [h] at this
 exact ⟨hs,this⟩
theorem z976 {l:List Int} (h:ValsOk l):z282 l=true:=by
 unfold z282
 rw [y70,decide_eq_true_eq,Bool.not_eq_true',List.any_eq_false]
 exact ⟨by have:=h.1;omega,fun x hx=>by simpa [z123] using h.2 x hx⟩
theorem z896 {l:List Int} {n:Int} (h:l.Nodup) (hr:∀ x∈l,0≤x∧x < n):Distinct l n l.length:=by
 intro i hi _
 have:=hr l[i] (y44 _)
 refine ⟨⟨this.1,by omega⟩,fun hm=>?_⟩
 obtain ⟨j,hj,e⟩:=List.mem_take_iff_getElem.1 hm
 have:=(List.getElem_inj h).1 e
 omega
theorem GF.at' {s:Sys} {st1:State} {g:Graph} (h:GF s st1 g.st g.nx g.st.length) {i:Nat} (hi:i < g.st.length):RowF s g.st g.st[i] (g.nx.getD i []):=h.row i hi _ (y45 hi)
theorem z495 {s:Sys} {g:Graph} (h:z91 s=some g):GB g:=by
 obtain ⟨hs,hF⟩:=z330 h
 have hn:=hF.n60
 have hg:=hF.gl
 have h0:=(List.getElem?_eq_some_iff.1 hF.i0).1
 refine ⟨⟨by omega,hn⟩,hg,fun i hi h1 h2=>?_⟩
 have hr:=hF.at' h2
 rw [z17 h1] at hr
 have hd:=z896 (n:=g.st.length) hr.nd fun x hx=>by
  obtain ⟨a,b,c,_⟩:=hr.sin x hx
  have:=(List.getElem?_eq_some_iff.1 c).1
  exact ⟨a,by omega⟩
 have hl:=hd.le (by omega)
 have h00:g.nx[i].length≠0:=fun h=>hr.ne (y73 h)
 exact ⟨by omega,by omega,z976 (Rch.ok (y14 hs) (hF.rch _ (y44 _))).b,hd⟩
def Run (s:Sys) (σ:Nat→State):Prop:=σ 0=ini s∧∀ k,Nx s (σ k) (σ (k+1))
theorem z525 {s:Sys} {g:Graph} (h:z91 s=some g) {σ:Nat→State} (hr:Run s σ):∃ π,GPath g π∧∀ k,g.st[(π k).toNat]?=some (σ k):=by
 obtain ⟨hs,hF⟩:=z330 h
 have hm:∀ k,∃ i:Nat,g.st[i]?=some (σ k):=fun k=>by
  induction k with
  |zero=>exact ⟨0,by rw [hr.1];exact hF.i0⟩
  |succ k ih =>
   obtain ⟨i,hi⟩:=ih
   have hil:=(List.getElem?_eq_some_iff.1 hi).1
   obtain ⟨n,_,_,e⟩:=(hF.row i hil _ hi).all _ (hr.2 k)
   exact ⟨n.toNat,e⟩
 have hz:∀ k,g.st[(z119 (σ k) g.st 0).toNat]?=some (σ k):=fun k=>by
  obtain ⟨i,hi⟩:=hm k
  rw [z557 hF.snd hi];simpa using hi
 refine ⟨fun k=>z119 (σ k) g.st 0,⟨?_,fun k=>?_⟩,hz⟩
 ·show z119 (σ 0) g.st 0=0
  rw [hr.1,z557 hF.snd hF.i0];rfl
 ·have hil:=(List.getElem?_eq_some_iff.1 (hz k)).1
  obtain ⟨n,hn,n0,e⟩:=(hF.row _ hil _ (hz k)).all _ (hr.2 k)
  show z119 (σ (k+1)) g.st 0∈g.nx.getD (z119 (σ k) g.st 0).toNat []
  rw [z557 hF.snd e,Int.toNat_of_nonneg n0]
  exact hn
end Go.Proofs.YtnfoijopccdjeaaGreat
namespace Go.Proofs.YtnfoijopccdjeaaGreat
open Go.Gl
attribute [local irreducible] z18 AWP z33 z37 z34 RetS z40
theorem z401 (g:Graph) (hg:g.mx) (l:List Tree) (hl:Lmx l) (f:Tree) (hf:f.mx):CallsA Tryz.prog 11 [.agg g.cs,lst 3 Tree.cs' l,z20 Tree.cs' f] [] (.tup [.int (vdI g l f),.agg (vdT g l f).cs]) []:=(by refine y5 (z589 g hg l hl f hf) [] [0,1] rfl rfl rfl ?_ ?_<;>(repeat' first|exact y85 _|((apply z36 rfl rfl rfl);(focus ((repeat ((exact z24 (fun _=>rfl) _)));done));(focus (((simp;done));done)))|apply z38|apply z71|constructor))
theorem ngS_of {f:Tree} (h1:ngB f=true) (h2:((negT f).nrm false).fmB=true) (h3:(bscL ((negT f).nrm false)).length≤4):ngS f=true:=by
 have hf:(negT f).fmB=true:=by
  unfold ngB at h1
  exact (Bool.and_eq_true_iff.1 h1).2
 have e:ngT f=negT f:=by unfold ngT;rw [if_pos h1]
 unfold ngS tsB trO
 rw [h1,Bool.true_and,e,if_pos (by unfold bscB;exact y81 ⟨⟨hf,h2⟩,by omega⟩),Option.isSome_map]
 exact trS_some h3 _
end Go.Proofs.YtnfoijopccdjeaaGreat
namespace Go.Proofs.YtnfoijopccdjeaaGreat
open Go.Gl
attribute [local irreducible] z18 AWP z33 z37 z34
theorem un1_ngS {q k:Int} (hq:q=9∨q=10) (hk:k=0∨k=1∨k=2):(Tree.mk q 0 [.mk 2 k []]).fmB=true∧ngS (.mk q 0 [.mk 2 k []])=true:=by
 have e1:negT (.mk q 0 [.mk 2 k []])=notT (.mk q 0 [.mk 2 k []]):=by rcases hq with rfl|rfl<;>simp [negT,Tree.kind,notT]
 have e:(negT (.mk q 0 [.mk 2 k []])).nrm false=.mk (if q=9 then 8 else 7) 0 [if q=9 then notT truT else truT,notT (.mk 2 k [])]:=by
  rcases hq with rfl|rfl<;>simp [e1,notT,z434,z610,z608,z609]
 refine ⟨?_,ngS_of ?_ ?_ ?_⟩
 ·rcases hq with rfl|rfl<;>rcases hk with rfl|rfl|rfl<;>decide
 ·unfold ngB;rw [e1];rcases hq with rfl|rfl<;>rcases hk with rfl|rfl|rfl<;>decide
 ·rw [e];rcases hq with rfl|rfl<;>rcases hk with rfl|rfl|rfl<;>decide
 ·rw [e]
  rcases hq with rfl|rfl<;>simp [bscL,Tree.subs,Tree.subss,addT,z74,Tree.kind,truT,notT,List.filter_cons]
def lnx (a n:Nat) (i:Nat):Nat:=if i+1=n then a else i+1
theorem nxW_nat (a n i:Nat):(nxW n a i).toNat=lnx a n i:=by
 unfold nxW lnx;split<;>simp
theorem z944 {a n i:Nat} (ha:a < n) (hi:i < n):lnx a n i < n:=by
 unfold lnx;split<;>omega
theorem z1138 {a n:Nat} : ∀ (d i:Nat),i+(d+1)=n→itN (lnx a n) (d+1) i=a
 |0,i,h=>by show lnx a n i=a;unfold lnx;rw [if_pos (by omega)]
 |d+1,i,h=>by
  show itN (lnx a n) (d+1) (lnx a n i)=a
  have e:lnx a n i=i+1:=by unfold lnx;rw [if_neg (by omega)]
  rw [e]
  exact z1138 d (i+1) (by omega)
theorem lnx_inf {a n:Nat} (ha:a < n) (m:Nat):∃ k,m≤k∧itN (lnx a n) k 0=a:=by
 have h1:=z782 (nx:=lnx a n) (fun i hi=>z944 ha hi) (i:=0) (by omega) m
 refine ⟨m+(n - 1 - itN (lnx a n) m 0+1),by omega,?_⟩
 rw [z885]
 exact z1138 _ _ (by omega)
theorem tr_path {g:Graph} {t:Trace} (ht:trB g t=true):t.stem.length < t.all.length∧GPath g (fun k=>t.all.getD (itN (lnx t.stem.length t.all.length) k 0) 0):=by
 have h0:=ht
 unfold trB at h0
 simp only [y70,decide_eq_true_eq] at h0
 have hlen:t.stem.length < t.all.length:=by
  have e:t.all.length=t.stem.length+t.loop.length:=by unfold Trace.all;simp
  omega
 refine ⟨hlen,h0.2.2.1,fun k=>?_⟩
 have h1:=z782 (nx:=lnx t.stem.length t.all.length) (fun i hi=>z944 hlen hi) (i:=0) (by omega) k
 have h2:=(z647 ht h1).2
 rw [nxW_nat,← z684 (lnx t.stem.length t.all.length)] at h2
 exact h2
theorem run_of {g:Graph} {l:List Tree} {a:Aut} (h1:(glB g l && autB a)=true) {σ:Nat→Int} (s0:σ 0∈a.ini) (s1:∀ k,σ (k+1)∈(z48 g (g.st.map (z50 l)) a).getD (σ k).toNat []) (s2:∀ m,∃ k,m≤k∧a.acc.getD (σ k % a.acc.length).toNat false=true):ARun a (gW g l (fun k=>σ k / a.acc.length)) (fun k=>σ k % a.acc.length):=by
 obtain ⟨h3,hab⟩:=Bool.and_eq_true_iff.1 h1
 have hG:=(z89 g).1 (by unfold glB at h3;exact (Bool.and_eq_true_iff.1 h3).1)
 have hA:=z143.1 hab
 obtain ⟨f1,f2,f3,f4,f5⟩:=z197 hG hA (g.st.map (z50 l))
 have hn:(0:Int) < a.acc.length:=by have:=hA.1;omega
 have hin:=z1108 f1 s1 (f2 _ s0)
 have hst:=fun k=>z385 (hin k).1 (s1 k) hA
 obtain ⟨i0,hi0,ei0⟩:=List.mem_iff_getElem.1 s0
 have hr0:=(hA.2.2.1 i0 hi0 hi0).1
 rw [ei0] at hr0
 have hd0:=z1183 (b:=0) hn hr0.1 (show σ 0 < a.acc.length by omega)
 rw [Int.zero_mul,Int.zero_add] at hd0
 refine ⟨by show σ 0 % _∈_;rw [hd0.2];exact s0,fun k=>?_,s2⟩
 obtain ⟨i,to,e,c1,c2,c3,c4,c5,c6,c7,c8⟩:=hst k
 refine ⟨e,c3,c6.symm,c8.symm,?_⟩
 unfold gW
 show onB e ((g.st.map (z50 l)).getD (σ k / a.acc.length).toNat 0)=true
 rw [c5,y76];exact c4
theorem z1028 {g:Graph} {l:List Tree} {f:Tree} (hv:vdI g l f=1):¬ f.sem (gW g l (fun k=>(vdT g l f).all.getD (itN (lnx (vdT g l f).stem.length (vdT g l f).all.length) k 0) 0)) 0:=by
 obtain ⟨⟨hg,hf,hs⟩,_⟩:=z717.1 hv
 have hva:=z392 hs
 have h1:(glB g l && autB (ngA f))=true:=by rw [hg,hva];rfl
 have hx:(ftO g l (ngA f)).isSome=true:=by
  unfold vdI at hv
  rw [if_pos (by rw [hg,hf];rfl),if_pos hs] at hv
  by_cases h5:(ftO g l (ngA f)).isSome=true
  ·exact h5
  ·rw [if_neg h5] at hv;cases hv
 obtain ⟨⟨st,lp⟩,hsome⟩:=Option.isSome_iff_exists.1 hx
 have et:vdT g l f=⟨st,lp⟩:=by
  unfold vdT
  rw [if_pos (by rw [hg,hf];rfl),if_pos hs]
  unfold ftL
  rw [hsome];rfl
 rw [et]
 obtain ⟨s,q,F,rfl,rfl,_⟩:=z556 h1 hsome
 intro hsat
 have hG:=(z89 g).1 (by unfold glB at hg;exact (Bool.and_eq_true_iff.1 hg).1)
 have hL:=y8 (by unfold glB at hg;exact (Bool.and_eq_true_iff.1 hg).2)
 have hpos:=F.pos
 have e1:(Trace.mk (stL s (ngA f).acc.length) (stL q (ngA f).acc.length)).all=(s++q).map fun x=>x / ((ngA f).acc.length:Int):=by unfold Trace.all stL;simp
 have e2:(Trace.mk (stL s (ngA f).acc.length) (stL q (ngA f).acc.length)).all.length=(s++q).length:=by rw [e1];simp
 have e3:(Trace.mk (stL s (ngA f).acc.length) (stL q (ngA f).acc.length)).stem.length=s.length:=by show (stL s _).length=_;unfold stL;simp
 rw [e2,e3,e1] at hsat
 have hlt:s.length < (s++q).length:=by simp;omega
 have hin:∀ k,itN (lnx s.length (s++q).length) k 0 < (s++q).length:=fun k=>z782 (nx:=lnx s.length (s++q).length) (fun i hi=>z944 hlt hi) (by omega) k
 have hq0:(s++q).getD s.length 0=q.getD 0 0:=by
  rw [y67,y66 (y52 _),Nat.sub_self,← y67]
 have hrun:=run_of h1 (σ:=fun k=>(s++q).getD (itN (lnx s.length (s++q).length) k 0) 0) F.ini (fun k=>by
  show (s++q).getD (itN _ (k+1) 0) 0∈_
  rw [z684]
  have hk:=hin k
  generalize itN (lnx s.length (s++q).length) k 0=i at *
  unfold lnx
  split
  ·rename_i hi
   rw [hq0,show (s++q).getD i 0=q.getD (q.length - 1) 0 by
    rw [y67,y66 (by simp at hi;omega),← y67]
    congr 1
    simp at hi;omega]
   exact F.back
  ·exact F.path i (by omega)) (fun m=>by
  obtain ⟨k,k1,k2⟩:=lnx_inf hlt m
  refine ⟨k,k1,?_⟩
  show (ngA f).acc.getD ((s++q).getD (itN _ k 0) 0 % _).toNat false=true
  rw [k2,hq0];exact F.acc)
 have ew:gW g l (fun k=>(s++q).getD (itN (lnx s.length (s++q).length) k 0) 0 / ((ngA f).acc.length:Int))=gW g l (fun k=>((s++q).map fun x=>x / ((ngA f).acc.length:Int)).getD (itN (lnx s.length (s++q).length) k 0) 0):=by
  congr 1
  funext k
  rw [z17 (by simpa using hin k),z17 (by simpa using hin k),List.getElem_map]
 change ARun _ (gW g l (fun k=>(s++q).getD (itN (lnx s.length (s++q).length) k 0) 0 / ((ngA f).acc.length:Int))) _ at hrun
 rw [ew] at hrun
 have h2:=hs
 unfold ngS at h2
 rw [y70] at h2
 have ea:ngA f=trA (negT f):=by unfold ngA ngT;rw [if_pos h2.1,if_pos h2.1]
 have eb:ngT f=negT f:=by unfold ngT;rw [if_pos h2.1]
 have hz:=z356 h2.1
 rw [eb] at h2 hz
 rw [ea] at hrun hsat
 have:=(z648 _ (by omega) h2.2 (gW_nn hL _)).1 ⟨_,hrun⟩
 exact (z670 (y25 hf) _ _).1 this hsat
theorem z665 {g:Graph} (h:GB g):∀ r∈g.nx,InN g.nx.length r:=fun r hr=>by
 obtain ⟨i,hi,rfl⟩:=List.mem_iff_getElem.1 hr
 have:=(GB.row h i hi).2.2
 rw [h.2.1];exact this
theorem has0 {l:List Tree} (h:l.length=3) (st:State):hasB (z50 l st) 0=true↔(l.getD 0 (leaf 0 0)).ev st.b≠0:=by
 match l,h with
 |[a,b,c],_ =>
  unfold z50
  simp only [ltr,List.getD_cons_zero]
  by_cases h1:a.ev st.b=0<;>by_cases h2:b.ev st.b=0<;>by_cases h3:c.ev st.b=0<;>simp only [h1,h2,h3,if_true,if_false,ne_eq,not_true_eq_false,not_false_eq_true]<;>decide
theorem run_from (s:Sys) (a:State):∃ σ:Nat→State,σ 0=a∧∀ k,Nx s (σ k) (σ (k+1)) :=
 ⟨fun k=>Nat.rec a (fun _ b=>(Nx.ex s b).choose) k,rfl,fun k=>(Nx.ex s _).choose_spec⟩
theorem rch_run {s:Sys} {a b:State} (h:Rch s a b):∀ τ:Nat→State,τ 0=b→(∀ k,Nx s (τ k) (τ (k+1)))→∃ (σ:Nat→State) (d:Nat),σ 0=a∧(∀ k,Nx s (σ k) (σ (k+1)))∧∀ k,σ (d+k)=τ k:=by
 induction h with
 |base=>exact fun τ h0 h1=>⟨τ,0,h0,h1,fun k=>by rw [Nat.zero_add]⟩
 |@next b c _ hn ih =>
  intro τ h0 h1
  obtain ⟨σ,d,a1,a2,a3⟩:=ih (fun k=>Nat.casesOn k b τ) rfl (fun k=>by
   cases k with
   |zero=>show Nx s b (τ 0);rw [h0];exact hn
   |succ k=>exact h1 k)
  exact ⟨σ,d+1,a1,a2,fun k=>by rw [show d+1+k=d+(k+1) by omega,a3]⟩
theorem ord_walk {s:Sys} {st1:State} {g:Graph} (h:GF s st1 g.st g.nx g.st.length):∀ (d:Nat) (p:Nat→Int),p 0=0→(∀ k,k < d→p (k+1)∈g.nx.getD (p k).toNat [])→∀ j:Nat,(j:Int)≤p d→∃ (d' : Nat) (q:Nat→Int),d'≤d∧q 0=0∧q d'=(j:Int)∧∀ k,k < d'→q (k+1)∈g.nx.getD (q k).toNat []:=by
 have hn:0 < g.st.length:=(List.getElem?_eq_some_iff.1 h.i0).1
 intro d
 induction d with
 |zero =>
  intro p h0 _ j hj
  exact ⟨0,fun _=>0,y52 _,rfl,by show (0:Int)=j;omega,fun k hk=>absurd hk (by omega)⟩
 |succ d ih =>
  intro p h0 hp j hj
  by_cases hj0:j=0
  ·exact ⟨0,fun _=>0,by omega,rfl,by show (0:Int)=j;omega,fun k hk=>absurd hk (by omega)⟩
  ·have hin:∀ k,k≤d→0≤p k∧p k < g.st.length:=fun k=>by
    induction k with
    |zero=>intro _;rw [h0];omega
    |succ k ihk =>
     intro hk
     have a:=ihk (by omega)
     obtain ⟨b1,_,b2,_⟩:=(h.at' (show (p k).toNat < g.st.length by omega)).sin _ (hp k (by omega))
     have:=(List.getElem?_eq_some_iff.1 b2).1
     omega
   have hd:=hin d (y52 _)
   obtain ⟨k,hk,hm⟩:=h.ord (p d).toNat (by omega) _ (hp d (by omega)) j (by omega) hj
   obtain ⟨d',q,q1,q2,q3,q4⟩:=ih p h0 (fun k hk=>hp k (by omega)) k (by omega)
   refine ⟨d'+1,fun m=>if m≤d' then q m else (j:Int),by omega,by show (if 0≤d' then q 0 else _)=_;rw [if_pos (by omega)];exact q2,by show (if d'+1≤d' then _ else (j:Int))=_;rw [if_neg (by omega)],fun m hm2=>?_⟩
   by_cases hmd:m < d'
   ·show (if m+1≤d' then q (m+1) else (j:Int))∈g.nx.getD (if m≤d' then q m else (j:Int)).toNat []
    rw [if_pos (by omega),if_pos (by omega)]
    exact q4 m hmd
   ·have e:m=d':=by omega
    subst e
    show (if m+1≤m then q (m+1) else (j:Int))∈g.nx.getD (if m≤m then q m else (j:Int)).toNat []
    rw [if_neg (show ¬ m+1≤m by omega),if_pos (y52 m),q3,y76]
    exact hm
def badS (l:List Tree) (st:State):Bool:=decide ((l.getD 0 (leaf 0 0)).ev st.b=0)
theorem z820 {s:Sys} {l:List Tree} {g:Graph} (h:z91 s=some g) (hL:z111 l=true):(vdI g l (.mk 10 0 [.mk 2 0 []])=0∧idxF (badS l) g.st < 0)∨(vdI g l (.mk 10 0 [.mk 2 0 []])=1∧0≤idxF (badS l) g.st∧(shL g.nx [0] fun n=>decide (n=idxF (badS l) g.st)).length≤(vdT g l (.mk 10 0 [.mk 2 0 []])).stem.length+(vdT g l (.mk 10 0 [.mk 2 0 []])).loop.length):=by
 obtain ⟨hsB,hF⟩:=z330 h
 have hG:=z495 h
 have hLo:=y8 hL
 have hgl:glB g l=true:=by unfold glB;rw [(z89 g).2 hG,hL];rfl
 obtain ⟨n1,n2⟩:=un1_ngS (q:=10) (k:=0) (.inr rfl) (.inl rfl)
 have hsm:=z1062.2 ⟨hgl,n1,n2⟩
 have hc:=z1064 g l (.mk 10 0 [.mk 2 0 []])
 have hv:vdI g l (.mk 10 0 [.mk 2 0 []])=0∨vdI g l (.mk 10 0 [.mk 2 0 []])=1:=by omega
 rcases hv with hv|hv
 ·left
  refine ⟨hv,?_⟩
  have hh:=(z1063.1 hv).2
  rcases Int.lt_or_le (idxF (badS l) g.st) 0 with h1|h1
  ·exact h1
  ·exfalso
   have hlt:=z1157 _ _ h1
   have hat:=idxF_at _ _ ⟨[],[]⟩ h1
   rw [z17 hlt] at hat
   have hr:=hF.rch _ (y44 hlt)
   generalize g.st[(idxF (badS l) g.st).toNat]=b at *
   obtain ⟨τ,t0,t1⟩:=run_from s b
   obtain ⟨σ,d,a1,a2,a3⟩:=rch_run hr τ t0 t1
   obtain ⟨π,hp,he⟩:=z525 h ⟨a1,a2⟩
   have:=hh π hp
   rw [z935] at this
   have:=(z745 _ _ _).1 (this d (y53 _))
   have e:gW g l π d=z50 l b:=by
    unfold gW
    rw [y67,y51,he d,show σ d=b by rw [← t0,← a3 0];rfl];rfl
   rw [e,has0 hLo.1] at this
   exact this (of_decide_eq_true hat)
 ·right
  refine ⟨hv,?_⟩
  have ht:=z642 hv
  have hf:=z1028 hv
  generalize vdT g l (.mk 10 0 [.mk 2 0 []])=t at *
  obtain ⟨t1,t2⟩:=tr_path ht
  rw [z935] at hf
  obtain ⟨j,hj⟩:∃ j,¬ hasB (gW g l (fun k=>t.all.getD (itN (lnx t.stem.length t.all.length) k 0) 0) j) 0=true:=by
   refine y77 fun hno=>hf fun j _=>(z745 _ _ _).2 ?_
   exact y77 fun h2=>hno ⟨j,h2⟩
  have hm:=z782 (nx:=lnx t.stem.length t.all.length) (fun i hi=>z944 t1 hi) (i:=0) (by omega) j
  unfold gW at hj
  dsimp only at hj
  generalize itN (lnx t.stem.length t.all.length) j 0=m at *
  have hx:=(z647 ht hm).1
  have hxl:(t.all.getD m 0).toNat < g.st.length:=by omega
  rw [z17 (by simpa using hxl),List.getElem_map,has0 hLo.1] at hj
  have hbad:badS l g.st[(t.all.getD m 0).toNat]=true:=by
   unfold badS
   rw [decide_eq_true_iff]
   exact y77 fun h2=>hj h2
  have hidx:∃ i:Nat,idxF (badS l) g.st=i∧i≤(t.all.getD m 0).toNat:=by
   unfold idxF
   cases e:g.st.findIdx? (badS l) with
   |none =>
    rw [List.findIdx?_eq_none_iff] at e
    have:=e _ (y44 hxl)
    rw [hbad] at this;cases this
   |some i =>
    refine ⟨i,rfl,?_⟩
    rw [List.findIdx?_eq_some_iff_getElem] at e
    obtain ⟨_,_,e3⟩:=e
    refine Nat.le_of_not_lt fun hlt=>?_
    have:=e3 _ hlt
    rw [hbad] at this
    exact this rfl
  obtain ⟨i,e,hi⟩:=hidx
  rw [e]
  refine ⟨by omega,?_⟩
  have h00:t.all.getD 0 0=0:=t2.1
  obtain ⟨d',q,d1,d2,d3,d4⟩:=ord_walk hF m (fun k=>t.all.getD k 0) h00 (fun k hk=>by
   have:=(z647 ht (show k < t.all.length by omega)).2
   unfold nxW at this
   rw [if_neg (by omega)] at this
   exact this) i (by show (i:Int)≤t.all.getD m 0;omega)
  have hs:=z1101 (rows:=g.nx) (c:=0) (v:=(i:Int)) (z665 hG) (by have:=hG.1;have:=hG.2.1;omega) d2 d3 d4
  have hall:t.all.length=t.stem.length+t.loop.length:=by unfold Trace.all;simp
  omega
end Go.Proofs.YtnfoijopccdjeaaGreat
namespace Go.Proofs.YtnfoijopccdjeaaGreat
open Go.Gl
attribute [local irreducible] z18 AWP z33 z37 z34 RetS z40
theorem z921 {g:Graph} {l:List Tree} {f:Tree} (h:vdI g l f≠1):vdT g l f=⟨[],[]⟩:=by
 unfold vdI at h
 unfold vdT
 split
 ·rename_i h1
  rw [if_pos h1] at h
  split
  ·rename_i h2
   rw [if_pos h2] at h
   refine z694 ?_
   by_cases h5:(ftO g l (ngA f)).isSome=true
   ·rw [if_pos h5] at h;exact absurd rfl h
   ·exact (y71 _).mp h5
  ·rfl
 ·rfl
theorem z1060 {g:Graph} {l:List Tree} {f:Tree} : ∀ x∈(vdT g l f).all,0≤x∧x < g.st.length:=fun x hx=>by
 by_cases h:vdI g l f=1
 ·have ht:=z642 h
  unfold trB at ht
  simp only [y70] at ht
  obtain ⟨i,hi,rfl⟩:=List.mem_iff_getElem.1 hx
  exact z753 ht.2.1 i hi
 ·rw [z921 h] at hx;cases hx
theorem vdT_loop {g:Graph} {l:List Tree} {f:Tree} : (vdI g l f=1)↔0 < (vdT g l f).loop.length:=by
 constructor
 ·intro h
  have ht:=z642 h
  unfold trB at ht
  simp only [y70,decide_eq_true_eq] at ht
  omega
 ·intro h
  refine y77 fun h2=>?_
  rw [z921 h2] at h
  exact absurd h (by simp)
noncomputable def csO (s:Sys) (l:List Tree) (f:Tree):Option Graph:=if (sysB s && (z111 l && f.fmB))=true then z91 s else none
noncomputable def csV (s:Sys) (l:List Tree) (f:Tree):Int:=if (sysB s && (z111 l && f.fmB))=true then (match z91 s with|none=>2|some g=>vdI g l f) else 3
noncomputable def csA (s:Sys) (l:List Tree) (f:Tree):List State:=match csO s l f with|none=>[]|some g=>stsL g (vdT g l f).stem
noncomputable def csB (s:Sys) (l:List Tree) (f:Tree):List State:=match csO s l f with|none=>[]|some g=>stsL g (vdT g l f).loop
theorem z494 {s:Sys} {g:Graph} (h:z91 s=some g):(∀ t∈g.st,t.sm)∧g.st.length≤60∧g.nx.length≤60∧g.sm:=by
 obtain ⟨hsB,hF⟩:=z330 h
 have hs:=y14 hsB
 have h1:=hF.n60
 have h2:=hF.gl
 have h3:∀ t∈g.st,t.sm:=fun t ht=>(Rch.ok hs (hF.rch t ht)).sm hs
 exact ⟨h3,h1,by omega,⟨by omega,by omega,h3,fun r hr=>by
  obtain ⟨i,hi,rfl⟩:=List.mem_iff_getElem.1 hr
  have:=(GB.row (z495 h) i hi).2.1
  omega⟩⟩
theorem z881 (g : Graph) (hg : g.sm) (p : List Int) (hp : p.length ≤ 100000) (hin : ∀ x ∈ p, 0 ≤ x ∧ x < g.st.length) : CallsA Tryz.prog 50 [.agg g.cs, ints p] [] (.sref 0 0 (stsL g p).length) [.cells 2 ((stsL g p).map State.cs)] := z775 g hg p hp hin (stsL g p) (z218 g p) (fun i h h2 => by
  have hx:=hin _ (y44 h)
  simp only [stsL,List.getElem_map]
  rw [z17 (show (p[i]).toNat < g.st.length by omega),y45])
theorem z544 (g:Graph) (hg:g.sm) (p:List Int) (hp:p.length≤100000) (hin:∀ x∈p,0≤x∧x < g.st.length):CallsA Tryz.prog 50 [.agg g.cs,ints p] [] (lst 2 State.cs (stsL g p)) []:=(by refine y5 (z881 g hg p hp hin) [] [0] rfl rfl rfl ?_ ?_<;>(repeat' first|exact y85 _|((apply z36 rfl rfl rfl);(focus ((repeat ((exact z24 (fun _=>rfl) _)));done));(focus (((simp;done));done)))|constructor))
set_option maxHeartbeats 3200000 in
theorem z400 (s:Sys) (hs:s.s1) (l:List Tree) (hl:Lmx l) (f:Tree) (hf:f.mx):CallsA Tryz.prog 8 [.agg s.cs,lst 3 Tree.cs' l,z20 Tree.cs' f] [] (.tup [.int (csV s l f),lst 2 State.cs (csA s l f),lst 2 State.cs (csB s l f)]) []:=by
 have c1:=z209 s hs
 have c2:=z235 l hl.1 hl.2
 have c3:=z121 f hf
 cases hv:(sysB s && (z111 l && f.fmB)) with
 |false =>
  have e1:csV s l f=3:=by unfold csV;rw [hv];rfl
  have e0:csO s l f=none:=by unfold csO;rw [hv];rfl
  have e2:csA s l f=[]:=by unfold csA;rw [e0]
  have e3:csB s l f=[]:=by unfold csB;rw [e0]
  rw [e1,e2,e3]
  rw [y16 f] at *
  generalize sysB s=b1 at *
  generalize z111 l=b2 at *
  generalize f.fmB=b3 at *
  refine z7 z14 Tryz.func8 rfl rfl 49 Tryz.ntmps8 (by simp) ?_
  cases b1<;>cases b2<;>cases b3
  all_goals first|(exfalso;revert hv;decide)|skip
  all_goals
   repeat' ((first|(apply y4 ok;rfl)|(apply z4 (c1);rfl;rfl)|(apply z4 (c2);rfl;rfl)|(apply z4 (c3);rfl;rfl))<;>conv=>whnf)
   all_goals (refine rsD [] [] rfl ?_;(repeat' first|exact y85 _|exact z26|apply z71|constructor))
 |true =>
  obtain ⟨hsB,h2⟩:=Bool.and_eq_true_iff.1 hv
  obtain ⟨hLB,hfB⟩:=Bool.and_eq_true_iff.1 h2
  rw [hsB] at c1
  rw [hLB] at c2
  rw [hfB] at c3
  have c4:=z298 s hsB
  cases hb:z91 s with
  |none =>
   have e1:csV s l f=2:=by unfold csV;rw [hv,hb];rfl
   have e0:csO s l f=none:=by unfold csO;rw [hv,hb];rfl
   have e2:csA s l f=[]:=by unfold csA;rw [e0]
   have e3:csB s l f=[]:=by unfold csB;rw [e0]
   rw [hb] at c4
   rw [e1,e2,e3]
   rw [y16 f] at *
   generalize (none:Option Graph).getD ⟨[],[]⟩=g0 at *
   refine z7 z14 Tryz.func8 rfl rfl 49 Tryz.ntmps8 (by simp) ?_
   repeat' ((first|(apply y4 ok;rfl)|(apply z4 (c1);rfl;rfl)|(apply z4 (c2);rfl;rfl)|(apply z4 (c3);rfl;rfl)|(apply z4 (c4);rfl;rfl))<;>conv=>whnf)
   all_goals (refine rsD [] [] rfl ?_;(repeat' first|exact y85 _|exact z26|apply z71|constructor))
  |some g =>
   have e1:csV s l f=vdI g l f:=by unfold csV;rw [hv,hb];rfl
   have e0:csO s l f=some g:=by unfold csO;rw [hv,hb];rfl
   have e2:csA s l f=stsL g (vdT g l f).stem:=by unfold csA;rw [e0]
   have e3:csB s l f=stsL g (vdT g l f).loop:=by unfold csB;rw [e0]
   rw [hb] at c4
   rw [e1,e2,e3]
   obtain ⟨q1,q2,q3,q4⟩:=z494 hb
   have hin:=z1060 (g:=g) (l:=l) (f:=f)
   obtain ⟨z1,z2⟩:=z922 (g:=g) (l:=l) (f:=f)
   have c5:=z401 g q4.mx l hl f hf
   have c6:=z210 g q1 (by omega) (vdT g l f).stem (fun x hx=>hin x (by unfold Trace.all;simp [hx])) (by omega)
   have c7:=z210 g q1 (by omega) (vdT g l f).loop (fun x hx=>hin x (by unfold Trace.all;simp [hx])) (by omega)
   rw [show (some g).getD ⟨[],[]⟩=g from rfl,show (some g).isSome=true from rfl] at c4
   generalize stsL g (vdT g l f).stem=A at *
   generalize stsL g (vdT g l f).loop=B at *
   generalize vdT g l f=t at *
   generalize vdI g l f=v at *
   rw [y16 f] at *
   refine z7 z14 Tryz.func8 rfl rfl 49 Tryz.ntmps8 (by simp) ?_
   repeat' ((first|(apply y4 ok;rfl)|(apply z23;kernel_rfl)|(apply z4 (c1);rfl;rfl)|(apply z4 (c2);rfl;rfl)|(apply z4 (c3);rfl;rfl)|(apply z4 (c4);rfl;rfl)|(apply z4 (c5);rfl;rfl)|(apply z4 (c6);rfl;rfl)|(apply z4 (c7);rfl;rfl))<;>conv=>whnf)
   all_goals (refine rsD [] [] rfl ?_;(repeat' first|exact y85 _|constructor))
set_option maxHeartbeats 3200000 in
theorem z376 (s:Sys) (hs:s.s1) (l:List Tree) (hl:Lmx l) (f:Tree) (hf:f.mx):CallsA Tryz.prog 9 [.agg s.cs,lst 3 Tree.cs' l,z20 Tree.cs' f] [] (.tup [.int (csV s l f),lst 2 State.cs (csA s l f),lst 2 State.cs (csB s l f)]) []:=by
 have c1:=z342 s hs
 have c2:=z219 l hl.1 hl.2
 have c3:=z106 f hf
 cases hv:(sysB s && (z111 l && f.fmB)) with
 |false =>
  have e1:csV s l f=3:=by unfold csV;rw [hv];rfl
  have e0:csO s l f=none:=by unfold csO;rw [hv];rfl
  have e2:csA s l f=[]:=by unfold csA;rw [e0]
  have e3:csB s l f=[]:=by unfold csB;rw [e0]
  rw [e1,e2,e3]
  rw [y16 f] at *
  generalize sysB s=b1 at *
  generalize z111 l=b2 at *
  generalize f.fmB=b3 at *
  refine z7 z14 Tryz.func9 rfl rfl 53 Tryz.ntmps9 (by simp) ?_
  cases b1<;>cases b2<;>cases b3
  all_goals first|(exfalso;revert hv;decide)|skip
  all_goals
   repeat' ((first|(apply y4 ok;rfl)|(apply z4 (c1);rfl;rfl)|(apply z4 (c2);rfl;rfl)|(apply z4 (c3);rfl;rfl))<;>conv=>whnf)
   all_goals (refine rsD [] [2,3] rfl ?_;(repeat' first|exact y85 _|constructor))
 |true =>
  obtain ⟨hsB,h2⟩:=Bool.and_eq_true_iff.1 hv
  obtain ⟨hLB,hfB⟩:=Bool.and_eq_true_iff.1 h2
  rw [hsB] at c1
  rw [hLB] at c2
  rw [hfB] at c3
  have c4:=z707 s hs
  cases hb:z91 s with
  |none =>
   have e1:csV s l f=2:=by unfold csV;rw [hv,hb];rfl
   have e0:csO s l f=none:=by unfold csO;rw [hv,hb];rfl
   have e2:csA s l f=[]:=by unfold csA;rw [e0]
   have e3:csB s l f=[]:=by unfold csB;rw [e0]
   rw [hb] at c4
   rw [e1,e2,e3]
   rw [y16 f] at *
   generalize (none:Option Graph).getD ⟨[],[]⟩=g0 at *
   refine z7 z14 Tryz.func9 rfl rfl 53 Tryz.ntmps9 (by simp) ?_
   repeat' ((first|(apply y4 ok;rfl)|(apply z4 (c1);rfl;rfl)|(apply z4 (c2);rfl;rfl)|(apply z4 (c3);rfl;rfl)|(apply z4 (c4);rfl;rfl))<;>conv=>whnf)
   all_goals (refine rsD [] [3,4] rfl ?_;(repeat' first|exact y85 _|constructor))
  |some g =>
   have e1:csV s l f=vdI g l f:=by unfold csV;rw [hv,hb];rfl
   have e0:csO s l f=some g:=by unfold csO;rw [hv,hb];rfl
   have e2:csA s l f=stsL g (vdT g l f).stem:=by unfold csA;rw [e0]
   have e3:csB s l f=stsL g (vdT g l f).loop:=by unfold csB;rw [e0]
   rw [hb] at c4
   rw [e1,e2,e3]
   obtain ⟨q1,q2,q3,q4⟩:=z494 hb
   have hin:=z1060 (g:=g) (l:=l) (f:=f)
   obtain ⟨z1,z2⟩:=z922 (g:=g) (l:=l) (f:=f)
   have c5:=z658 g q4.mx l hl f hf
   have c6:=z544 g q4 (vdT g l f).stem (by omega) (fun x hx=>hin x (by unfold Trace.all;simp [hx]))
   have c7:=z544 g q4 (vdT g l f).loop (by omega) (fun x hx=>hin x (by unfold Trace.all;simp [hx]))
   rw [show (some g).getD ⟨[],[]⟩=g from rfl,show (some g).isSome=true from rfl] at c4
   generalize stsL g (vdT g l f).stem=A at *
   generalize stsL g (vdT g l f).loop=B at *
   generalize vdT g l f=t at *
   generalize vdI g l f=v at *
   rw [y16 f] at *
   refine z7 z14 Tryz.func9 rfl rfl 53 Tryz.ntmps9 (by simp) ?_
   repeat' ((first|(apply y4 ok;rfl)|(apply z23;kernel_rfl)|(apply z4 (c1);rfl;rfl)|(apply z4 (c2);rfl;rfl)|(apply z4 (c3);rfl;rfl)|(apply z4 (c4);rfl;rfl)|(apply z4 (c5);rfl;rfl)|(apply z4 (c6);rfl;rfl)|(apply z4 (c7);rfl;rfl))<;>conv=>whnf)
   all_goals (refine rsD [] [] rfl ?_;(repeat' first|exact y85 _|constructor))
def z84 (p:Proc):List AC:=[.int p.loc,.own 10 (p.es.map Edge.cs)]
def subE (e:Edge):Edge:=⟨e.fr,e.to,subZ e.gd,e.var,subZ e.val,e.sync⟩
def subP (p:Proc):Proc:=⟨p.loc,p.es.map subE⟩
def subS (s:Sys):Sys:=⟨s.init,s.ps.map subP⟩
theorem subS_s1 {s:Sys} (h:s.s1):(subS s).s1:=by
 refine ⟨h.init,by simpa [subS] using h.len,fun p hp=>?_⟩
 obtain ⟨q,hq,rfl⟩:=List.mem_map.1 hp
 have h2:=h.el q hq
 refine ⟨by simpa [subP] using h2.len,fun e he=>?_⟩
 obtain ⟨f,hf,rfl⟩:=List.mem_map.1 he
 have h3:=h2.el f hf
 exact ⟨Nat.le_trans (z842 _) h3.gd,Nat.le_trans (z842 _) h3.val⟩
set_option maxHeartbeats 6400000 in
theorem z1014 (s:Sys) (hs:s.s1):CallsA Tryz.prog 82 [.agg s.cs] [] (.agg [.sref 0 0 s.init.length,.sref 1 0 s.ps.length]) [.cells 1 (s.init.map enI),.cells 2 (s.ps.map fun p=>z84 (subP p))]:=by
 have hl:=hs.len
 have hi:=hs.init
 refine z7 z14 Tryz.func82 rfl rfl 70 Tryz.ntmps82 (by simp) ?_
 repeat' ((first|(apply y4 ok;rfl)|(apply y43;first|(dsimp only;omega)|exact z140 (fun _=>rfl)))<;>conv=>whnf)
 refine y84 (y87 2 rfl) ?_
 refine z64 (fun i:Nat=>([(1,.ptr 0 none 0),(2,.ptr 1 none 0),(3,.ptr 3 none 0),(4,.int i)],[.cells 2 [s.cs],.cells 2 [[.nils,.nils]],.cells 1 (s.init.map enI),.cells 2 [[.sref 2 0 s.init.length,.sref 4 0 i]],.cells 2 ((s.ps.take i).map fun p=>z84 (subP p))])) (fun i=>i≤s.ps.length) (fun i=>s.ps.length - i) 0 (by omega) (by refine swR [0,1,3,4,5] [] rfl rfl ?_;(repeat' first|exact y85 _|exact z49|exact z12 _|(refine z45 ?_;(omega))|apply y86|((refine z10 rfl ?_ ?_);(focus ((repeat' (first|exact z30|exact z5 (fun _=>rfl)));done)))|constructor)) ?_
 intro i hi
 by_cases hil:i < s.ps.length
 ·have gp:(s.ps.map Proc.cs)[i]?=some (Proc.cs s.ps[i]):=by rw [y51,y45 hil];rfl
  have hp:=hs.el _ (y44 hil)
  have hpl:=hp.len
  repeat' ((first|(apply y4 ok;rfl)|(refine z15 (i:=i) rfl gp ?_)|(apply y43;omega)|((apply z6)<;>intro _))<;>conv=>whnf)
  all_goals try (exfalso;omega)
  refine y84 (y87 10 rfl) ?_
  refine z64 (fun k:Nat=>([(1,.ptr 0 none 0),(2,.ptr 1 none 0),(3,.ptr 3 none 0),(4,.int i),(5,.ptr 5 none 0),(6,.int k)],[.cells 2 [s.cs],.cells 2 [[.nils,.nils]],.cells 1 (s.init.map enI),.cells 2 [[.sref 2 0 s.init.length,.sref 4 0 i]],.cells 2 ((s.ps.take i).map fun p=>z84 (subP p)),.cells 2 [[.int s.ps[i].loc,.sref 6 0 k]],.cells 10 ((s.ps[i].es.take k).map fun e=>(subE e).cs)])) (fun k=>k≤s.ps[i].es.length) (fun k=>s.ps[i].es.length - k) 0 (by omega) (by refine swR [0,1,2,3,4,5,6] [] rfl rfl ?_;(repeat' first|exact y85 _|exact z49|exact z12 _|apply y86|((refine z10 rfl ?_ ?_);(focus ((repeat' (first|exact z30|exact z5 (fun _=>rfl)));done)))|constructor)) ?_
  intro k hk
  by_cases hkl:k < s.ps[i].es.length
  ·have ge:(s.ps[i].es.map Edge.cs)[k]?=some (Edge.cs s.ps[i].es[k]):=by rw [y51,y45 hkl];rfl
   have he:=hp.el _ (y44 hkl)
   have h1:=he.gd
   have h2:=he.val
   have c1:=z618 s.ps[i].es[k].gd (by omega)
   have c2:=z618 s.ps[i].es[k].val (by omega)
   rw [y16,y16] at c1 c2
   repeat' ((first|(apply y4 ok;rfl)|(refine z15 (i:=i) rfl gp ?_)|(refine z15 (i:=k) rfl ge ?_)|(apply y43;first|omega|(unfold inI;omega)|((try dsimp only);simp only [y49,y48,y47,y46,y57,y58];omega)|exact ⟨rfl,z21 rfl z31⟩)|((apply z6)<;>intro _)|(apply z4 (c1);rfl;rfl)|(apply z4 (c2);rfl;rfl))<;>conv=>whnf)
   all_goals try (exfalso;omega)
   all_goals refine z27 (k+1) (by omega) (by omega) (by refine swR [0,1,2,3,4,5,9] [] rfl rfl ?_;(repeat' first|exact y85 _|exact z12 _|apply y86|((first|refine z43 rfl ?_ ?_|refine z10 rfl ?_ ?_);(focus ((repeat' (first|exact z5 (fun _=>rfl)|apply z28));done)))|refine z313 (by omega) (by omega) ?_|constructor))
  ·have ek:k=s.ps[i].es.length:=by omega
   subst ek
   rw [y55]
   have eown:z84 (subP s.ps[i])=[.int s.ps[i].loc,.own 10 (s.ps[i].es.map fun e=>(subE e).cs)]:=by
    unfold z84 subP
    dsimp only
    rw [List.map_map];rfl
   repeat' ((first|(apply y4 ok;rfl)|(refine z15 (i:=i) rfl gp ?_)|(apply y43;first|omega|(unfold inI;omega)|((try dsimp only);simp only [y49,y48,y47,y46,y57,y58];omega)|exact ⟨rfl,z21 rfl z31⟩)|(((with_reducible apply z9;omega));intro _)|((apply z6)<;>intro _))<;>conv=>whnf)
   all_goals try (exfalso;omega)
   all_goals refine z27 (i+1) (by omega) (by omega) (by
    refine Gl.Reach.trans (Gl.Reach.absorb (e:=[.int s.ps[i].loc,.sref 6 0 s.ps[i].es.length]) 8 6 i 1 rfl (snoc_at _ _ i (by simp;omega)) rfl rfl (by simp) rfl (z5 fun _=>rfl) rfl) ?_
    exact (by refine swR [0,1,2,3,8] [] rfl rfl ?_;(repeat' first|exact y85 _|exact z12 _|apply y86|((first|refine z69 rfl ?_ ?_|refine z10 rfl ?_ ?_);(focus ((repeat' (first|exact z5 (fun _=>rfl)|apply z96|apply z28));done)))|(refine z10 rfl ?_ ?_;(focus (refine z406 ?_ ?_ rfl<;>first|(simp;omega)|(apply z28;exact z5 fun _=>rfl))))|(refine z853 ?_ ?_;(focus (simp;omega)))|refine z313 (by omega) (by omega) ?_|constructor)<;>((unfold subP;dsimp only;rw [List.map_map];exact y85 _))))
 ·have e:i=s.ps.length:=by omega
  subst e
  rw [y55]
  repeat' ((first|(apply y4 ok;rfl)|(apply y43;omega)|(((with_reducible apply z9;omega));intro _)|((apply z6)<;>intro _))<;>conv=>whnf)
  all_goals try (exfalso;omega)
  all_goals (refine rsD [2,4] [] rfl ?_;(repeat' first|exact y85 _|exact z12 _|refine z10 rfl (z5 (fun _=>rfl)) ?_|constructor))
theorem z82 (l:List Proc):z62 (l.map z84)=l.map Proc.cs:=by
 rw [z167,List.map_map]
 refine List.map_congr_left fun p _=>?_
 show [AC.int p.loc,AC.list 10 _ (z62 (p.es.map Edge.cs))]=_
 rw [z24 (fun _=>rfl) p.es,y49]
 rfl
theorem l2Copy_c (s:Sys) (hs:s.s1):CallsA Tryz.prog 82 [.agg s.cs] [] (.agg [.sref 0 0 (subS s).init.length,.sref 1 0 (subS s).ps.length]) [.cells 1 ((subS s).init.map enI),.cells 2 ((subS s).ps.map z84)]:=by
 have:=z1014 s hs
 rw [show (s.ps.map fun p=>z84 (subP p))=(subS s).ps.map z84 by unfold subS;dsimp only;rw [List.map_map];rfl] at this
 rw [show (subS s).ps.length=s.ps.length by simp [subS]]
 exact this
theorem z741 {s:Sys} (h:s.s1) {k:Nat} {q:Proc} (hq:q.s1):(Sys.mk s.init (s.ps.set k q)).s1 :=
 ⟨h.init,by simpa using h.len,fun p hp=>by rcases List.mem_or_eq_of_mem_set hp with hp|rfl;exact h.el p hp;exact hq⟩
theorem z663 {q:Proc} (h:q.s1) {e:Edge} (he:e.s1):(Proc.mk q.loc (q.es.set 0 e)).s1 :=
 ⟨by simpa using h.len,fun p hp=>by rcases List.mem_or_eq_of_mem_set hp with hp|rfl;exact h.el p hp;exact he⟩
theorem z1076 (q:Proc):z165 (z84 q)=q.cs:=by
 have:=z82 [q]
 simp only [List.map_cons,List.map_nil,z62,List.cons.injEq,and_true] at this
 exact this
theorem z1205 (l:List Proc) (k:Nat) (X:List AC) (q:Proc) (es:List (List AC)) (n:Nat) (he:es=q.es.map Edge.cs):((l.map Proc.cs).set k X).set k (z165 ([AC.int q.loc,AC.sref 6 0 n].set 1 (AC.own 10 es)))=(l.set k q).map Proc.cs:=by
 rw [List.set_set,List.map_set]
 congr 1
 subst he
 exact z1076 q
theorem z310 (l:List Proc) (k:Nat) (X:List AC) (q:Proc) (es:List (List AC)) (n:Nat) (he:es=q.es.map Edge.cs):F2 (F2 LocLe) (((l.map Proc.cs).set k X).set k (z165 ([AC.int q.loc,AC.sref 6 0 n].set 1 (AC.own 10 es)))) ((l.set k q).map Proc.cs):=z46 (z1205 l k X q es n he)
theorem f2_app {a b c d:List (List AC)} (h:F2 (F2 LocLe) a b) (k:F2 (F2 LocLe) c d):F2 (F2 LocLe) (a++c) (b++d):=by
 induction h with
 |nil=>exact k
 |cons h _ ih=>exact .cons h ih
theorem z1133 (l:List Proc) (x:Int):F2 (F2 LocLe) (l.map Proc.cs++[z165 [AC.int x,AC.nils]]) ((l++[(⟨x,[]⟩:Proc)]).map Proc.cs):=by
 rw [y63]
 exact f2_app (z12 _) (.cons (.cons (y85 _) (.cons z26 .nil)) .nil)
theorem z963 (l:List Proc) (k:Nat) (hk:k < l.length) (X:List AC) (q:Proc) (x:Int) (n:Nat):F2 (F2 LocLe) (((l.map Proc.cs).set k X++[z165 [AC.int x,AC.nils]]).set k (z165 ([AC.int q.loc,AC.sref 6 0 n].set 1 (AC.own 10 (q.es.map Edge.cs))))) ((l.set k q++[(⟨x,[]⟩:Proc)]).map Proc.cs):=by
 rw [List.set_append_left _ _ (by simpa using hk),z1205 l k X q _ n rfl]
 exact z1133 _ x
set_option maxHeartbeats 12800000 in
theorem z883 (bs:List Int) (hb:BytesOk bs) (p:Int) (hp:few1 p) (s:Sys) (hs:s.sm):∃ (s' : Sys) (p' : Int),(s'.s1∧p≤p'∧p'≤p+200)∧CallsA Tryz.prog 38 [.ptr 0 none 0,.agg s.cs] [rdO bs p] (.agg s'.cs) [rdO bs p']:=by
 have hlen:=hs.len
 have cc:=l2Copy_c s hs.s1
 have hc:=subS_s1 hs.s1
 have hcl:(subS s).ps.length=s.ps.length:=by simp [subS]
 have hci:(subS s).init.length≤10:=hs.init
 generalize subS s=c at *
 obtain ⟨pk,⟨k0,k1⟩,ck⟩:=z79 bs hb p ((s.ps.length:Int)+1) (by omega) (by omega) (by omega)
 obtain ⟨v,⟨v0,v1⟩,cv⟩:=z79 bs hb (p+1) 50 (by omega) (by omega) (by omega)
 have hpz:pk=s.ps.length∨(0≤pk∧pk < s.ps.length):=by omega
 rcases hpz with hpk|⟨h0,h1⟩
 ·subst hpk
  by_cases e0:v=0
  ·subst e0
   refine ⟨⟨c.init++[0],c.ps⟩,p+1+1,⟨⟨by simp;omega,hc.len,hc.el⟩,by omega,by omega⟩,?_⟩
   refine z7 z14 Tryz.func38 rfl rfl 115 Tryz.ntmps38 (by simp) ?_
   repeat' ((first|(apply y4 ok;rfl)|(apply y43;first|omega|(unfold inI;omega)|((try dsimp only);simp only [y49,y48,y47,y46,y57,y58];omega)|exact ⟨rfl,z21 rfl z31⟩)|(((apply z9;omega));intro _)|((apply z6)<;>intro _)|((first|(apply z8 [] [3,4] cc;rfl;rfl)|(apply z8 [0] [] ck;rfl;rfl)|(apply z8 [0] [] cv;rfl;rfl));rfl;(focus ((repeat' first|exact z13|apply z11)<;>first|exact z42 rfl rfl|(refine z19 ?_;((exact z5 fun _=>rfl)))))))<;>conv=>whnf)
   all_goals try (exfalso;omega)
   all_goals refine y13 [0] [7,4] rfl rfl rfl ?_
   all_goals refine y12 (z38 (.cons ?_ (.cons ?_ .nil))) ?_
   all_goals first|((apply z36 rfl rfl rfl);(focus (repeat (first|exact z82 _|exact z24 (fun _=>rfl) _|apply z151|apply z188|rfl)));(focus ((simp;done)));(focus (first|exact y85 _|(refine z63 ?_ ?_;(focus ((simp;done)));(focus ((exact z46 (by rw [y56 (by simp),y63];rfl))))))))|(repeat' first|exact y85 _|apply y86|constructor)
  by_cases e1:v=1
  ·subst e1
   obtain ⟨x,mx,cx⟩:=z100 bs hb (p+1+1) (by omega) (by omega) [0,1,4,5] (by decide) (by decide)
   refine ⟨⟨c.init,c.ps++[⟨x,[]⟩]⟩,p+1+1+1,⟨⟨hc.init,by have:=hc.len;simp at *;omega,fun r hr=>by rcases List.mem_append.1 hr with hr|hr;exact hc.el r hr;rw [List.mem_singleton.1 hr];exact ⟨by simp,by simp⟩⟩,by omega,by omega⟩,?_⟩
   refine z7 z14 Tryz.func38 rfl rfl 115 Tryz.ntmps38 (by simp) ?_
   repeat' ((first|(apply y4 ok;rfl)|(apply z23;kernel_rfl)|(apply y43;first|omega|(unfold inI;omega)|((try dsimp only);simp only [y49,y48,y47,y46,y57,y58];omega)|exact ⟨rfl,z21 rfl z31⟩)|(((apply z9;omega));intro _)|((apply z6)<;>intro _)|((first|(apply z8 [] [3,4] cc;rfl;rfl)|(apply z8 [0] [] ck;rfl;rfl)|(apply z8 [0] [] cv;rfl;rfl)|(apply z8 [0,6] [] cx;rfl;rfl));rfl;(focus ((repeat' first|exact z13|apply z11)<;>first|exact z42 rfl rfl|(refine z19 ?_;((exact z5 fun _=>rfl)))))))<;>conv=>whnf)
   all_goals try (exfalso;omega)
   all_goals refine y13 [0] [3,8] rfl rfl rfl ?_
   all_goals refine y12 (z38 (.cons ?_ (.cons ?_ .nil))) ?_
   all_goals first|((apply z36 rfl rfl rfl);(focus (repeat (first|exact z82 _|exact z24 (fun _=>rfl) _|apply z151|apply z188|rfl)));(focus ((simp;done)));(focus (first|exact y85 _|(refine z63 ?_ ?_;(focus ((simp;done)));(focus ((rw [y56 (by simp)];exact z1133 _ _)))))))|(repeat' first|exact y85 _|apply y86|constructor)
  by_cases e6:v=6
  ·subst e6
   refine ⟨⟨[],[]⟩,p+1+1,⟨⟨by simp,by simp,by simp⟩,by omega,by omega⟩,?_⟩
   refine z7 z14 Tryz.func38 rfl rfl 115 Tryz.ntmps38 (by simp) ?_
   repeat' ((first|(apply y4 ok;rfl)|(apply y43;first|omega|(unfold inI;omega))|(((apply z9;omega));intro _)|((apply z6)<;>intro _)|((first|(apply z8 [] [3,4] cc;rfl;rfl)|(apply z8 [0] [] ck;rfl;rfl)|(apply z8 [0] [] cv;rfl;rfl));rfl;(focus ((repeat' first|exact z13|apply z11)<;>first|exact z42 rfl rfl|(refine z19 ?_;((exact z5 fun _=>rfl)))))))<;>conv=>whnf)
   all_goals try (exfalso;omega)
   all_goals (refine rsD [0] [] rfl ?_;(repeat' first|exact y85 _|exact z26|apply y86|apply z38|constructor))
  refine ⟨c,p+1+1,⟨hc,by omega,by omega⟩,?_⟩
  refine z7 z14 Tryz.func38 rfl rfl 115 Tryz.ntmps38 (by simp) ?_
  repeat' ((first|(apply y4 ok;rfl)|(apply y43;first|omega|(unfold inI;omega))|(((apply z9;omega));intro _)|((apply z6)<;>intro _)|((first|(apply z8 [] [3,4] cc;rfl;rfl)|(apply z8 [0] [] ck;rfl;rfl)|(apply z8 [0] [] cv;rfl;rfl));rfl;(focus ((repeat' first|exact z13|apply z11)<;>first|exact z42 rfl rfl|(refine z19 ?_;((exact z5 fun _=>rfl)))))))<;>conv=>whnf)
  all_goals try (exfalso;omega)
  all_goals refine y13 [0] [3,4] rfl rfl rfl ?_
  all_goals refine y12 (z38 (.cons ?_ (.cons ?_ .nil))) ?_
  all_goals first|((apply z36 rfl rfl rfl);(focus (repeat (first|exact z82 _|exact z24 (fun _=>rfl) _)));(focus ((simp;done)));(focus (exact y85 _)))|(repeat' first|exact y85 _|apply y86|constructor)
 ·obtain ⟨k,rfl⟩:∃ k:Nat,pk=k:=⟨pk.toNat,by omega⟩
  have hk:k < c.ps.length:=by omega
  have g0:(c.ps.map z84)[k]?=some (z84 c.ps[k]):=by rw [y51,y45 hk];rfl
  have hq:=hc.el _ (y44 hk)
  have hql:=hq.len
  have g2:((c.ps.map z84).set k [.int c.ps[k].loc,.sref 6 0 c.ps[k].es.length])[k]?=some [.int c.ps[k].loc,.sref 6 0 c.ps[k].es.length]:=by rw [List.getElem?_set_self (by simpa using hk)]
  generalize c.ps[k]=q at *
  have hcq:=z741 hc hq (k:=k)
  by_cases hm0:q.es.length=0
  ·by_cases e0:v=0
   ·subst e0
    refine ⟨⟨c.init++[0],c.ps.set k q⟩,p+1+1,⟨⟨by simp;omega,hcq.len,hcq.el⟩,by omega,by omega⟩,?_⟩
    refine z7 z14 Tryz.func38 rfl rfl 115 Tryz.ntmps38 (by simp) ?_
    repeat' ((first|((fail_if_success apply z183 3);apply y4 ok;rfl)|(apply y43;(unfold inI;omega))|((first|(apply z8 [] [3,4] cc;rfl;rfl)|(apply z8 [0] [] ck;rfl;rfl));rfl;(focus ((repeat' first|exact z13|apply z11)<;>first|exact z42 rfl rfl|(refine z19 ?_;((exact z5 fun _=>rfl)))))))<;>conv=>whnf)
    refine y84 (Gl.Reach.exposeD (e:=z84 q) 4 k 1 rfl g0 rfl rfl) ?_
    conv=>whnf
    rw [y49]
    repeat' ((first|(apply y4 ok;rfl)|(refine z15 (i:=k) rfl g2 ?_)|(apply y43;first|omega|((try dsimp only);simp only [y49,y48,y47,y46,y57,y58];omega)|exact ⟨rfl,z21 rfl z31⟩)|((apply z6)<;>intro _)|(apply z55 [0] [] cv;rfl;rfl;rfl))<;>conv=>whnf)
    all_goals try (exfalso;omega)
    all_goals refine y89 (e:=[.int q.loc,.sref 6 0 q.es.length]) 4 6 k 1 rfl g2 rfl rfl (by simp) rfl (by (exact z5 fun _=>rfl)) ?_
    all_goals refine y13 [0] [8,4] rfl rfl rfl ?_
    all_goals refine y12 (z38 (.cons ?_ (.cons ?_ .nil))) ?_
    all_goals first|((apply z36 rfl rfl rfl);(focus (repeat (first|exact z82 _|exact z24 (fun _=>rfl) _|apply z151|apply z188|apply z173|rfl)));(focus ((simp;done)));(focus ((refine z63 ?_ ?_;(focus ((simp;done)));(focus (first|exact z310 _ _ _ _ _ _ rfl|exact z46 (by rw [y56 (by simp),y63];rfl)))))))|(repeat' first|exact y85 _|apply y86|constructor)
   by_cases e1:v=1
   ·subst e1
    obtain ⟨x,mx,cx⟩:=z100 bs hb (p+1+1) (by omega) (by omega) [0,1,4,5] (by decide) (by decide)
    have g4:(((c.ps.map z84).set k [.int q.loc,.sref 6 0 q.es.length]).take c.ps.length++[[AC.int x,AC.nils]])[k]?=some [.int q.loc,.sref 6 0 q.es.length]:=by rw [y56 (by simp),y65 (by simpa using hk)];exact g2
    refine ⟨⟨c.init,c.ps.set k q++[⟨x,[]⟩]⟩,p+1+1+1,⟨⟨hcq.init,by have:=hcq.len;simp at *;omega,fun r hr=>by rcases List.mem_append.1 hr with hr|hr;exact hcq.el r hr;rw [List.mem_singleton.1 hr];exact ⟨by simp,by simp⟩⟩,by omega,by omega⟩,?_⟩
    refine z7 z14 Tryz.func38 rfl rfl 115 Tryz.ntmps38 (by simp) ?_
    repeat' ((first|((fail_if_success apply z183 3);apply y4 ok;rfl)|(apply y43;(unfold inI;omega))|((first|(apply z8 [] [3,4] cc;rfl;rfl)|(apply z8 [0] [] ck;rfl;rfl));rfl;(focus ((repeat' first|exact z13|apply z11)<;>first|exact z42 rfl rfl|(refine z19 ?_;((exact z5 fun _=>rfl)))))))<;>conv=>whnf)
    refine y84 (Gl.Reach.exposeD (e:=z84 q) 4 k 1 rfl g0 rfl rfl) ?_
    conv=>whnf
    rw [y49]
    repeat' ((first|(apply y4 ok;rfl)|(apply z23;kernel_rfl)|(refine z15 (i:=k) rfl g2 ?_)|((apply y43;((try dsimp only);simp only [List.length_set,y49,y48,y47,y57,y58];omega)))|(apply y43;first|omega|exact ⟨rfl,z21 rfl z31⟩)|((apply z6)<;>intro _)|((first|(apply z8 [0] [] cv;rfl;rfl)|(apply z8 [0,7] [] cx;rfl;rfl));rfl;(focus ((repeat' first|exact z13|apply z11)<;>first|exact z42 rfl rfl|(refine z19 ?_;((exact z5 fun _=>rfl)))))))<;>conv=>whnf)
    all_goals try (exfalso;omega)
    all_goals refine y89 (e:=[.int q.loc,.sref 6 0 q.es.length]) 9 6 k 1 rfl g4 rfl rfl (by simp) rfl (by (exact z5 fun _=>rfl)) ?_
    all_goals refine y13 [0] [3,9] rfl rfl rfl ?_
    all_goals refine y12 (z38 (.cons ?_ (.cons ?_ .nil))) ?_
    all_goals first|((apply z36 rfl rfl rfl);(focus (repeat (first|exact z82 _|exact z24 (fun _=>rfl) _|apply z151|apply z188|apply z173|rfl)));(focus ((simp;done)));(focus (first|exact y85 _|(refine z63 ?_ ?_;(focus ((simp;done)));(focus ((rw [y56 (by simp)];exact z963 _ _ hk _ _ _ _)))))))|(repeat' first|exact y85 _|apply y86|constructor)
   by_cases e6:v=6
   ·subst e6
    refine ⟨⟨[],[]⟩,p+1+1,⟨⟨by simp,by simp,by simp⟩,by omega,by omega⟩,?_⟩
    refine z7 z14 Tryz.func38 rfl rfl 115 Tryz.ntmps38 (by simp) ?_
    repeat' ((first|((fail_if_success apply z183 3);apply y4 ok;rfl)|(apply y43;(unfold inI;omega))|((first|(apply z8 [] [3,4] cc;rfl;rfl)|(apply z8 [0] [] ck;rfl;rfl));rfl;(focus ((repeat' first|exact z13|apply z11)<;>first|exact z42 rfl rfl|(refine z19 ?_;((exact z5 fun _=>rfl)))))))<;>conv=>whnf)
    refine y84 (Gl.Reach.exposeD (e:=z84 q) 4 k 1 rfl g0 rfl rfl) ?_
    conv=>whnf
    rw [y49]
    repeat' ((first|(apply y4 ok;rfl)|(refine z15 (i:=k) rfl g2 ?_)|(apply y43;omega)|((apply z6)<;>intro _)|(apply z55 [0] [] cv;rfl;rfl;rfl))<;>conv=>whnf)
    all_goals try (exfalso;omega)
    all_goals (refine rsD [0] [] rfl ?_;(repeat' first|exact y85 _|exact z26|apply y86|apply z38|constructor))
   refine ⟨⟨c.init,c.ps.set k q⟩,p+1+1,⟨hcq,by omega,by omega⟩,?_⟩
   refine z7 z14 Tryz.func38 rfl rfl 115 Tryz.ntmps38 (by simp) ?_
   repeat' ((first|((fail_if_success apply z183 3);apply y4 ok;rfl)|(apply y43;(unfold inI;omega))|((first|(apply z8 [] [3,4] cc;rfl;rfl)|(apply z8 [0] [] ck;rfl;rfl));rfl;(focus ((repeat' first|exact z13|apply z11)<;>first|exact z42 rfl rfl|(refine z19 ?_;((exact z5 fun _=>rfl)))))))<;>conv=>whnf)
   refine y84 (Gl.Reach.exposeD (e:=z84 q) 4 k 1 rfl g0 rfl rfl) ?_
   conv=>whnf
   rw [y49]
   repeat' ((first|(apply y4 ok;rfl)|(refine z15 (i:=k) rfl g2 ?_)|(apply y43;omega)|((apply z6)<;>intro _)|(apply z55 [0] [] cv;rfl;rfl;rfl))<;>conv=>whnf)
   all_goals try (exfalso;omega)
   all_goals refine y89 (e:=[.int q.loc,.sref 6 0 q.es.length]) 4 6 k 1 rfl g2 rfl rfl (by simp) rfl (by (exact z5 fun _=>rfl)) ?_
   all_goals refine y13 [0] [3,4] rfl rfl rfl ?_
   all_goals refine y12 (z38 (.cons ?_ (.cons ?_ .nil))) ?_
   all_goals first|((apply z36 rfl rfl rfl);(focus (repeat (first|exact z82 _|exact z24 (fun _=>rfl) _|apply z173)));(focus ((simp;done)));(focus (first|exact y85 _|(refine z63 ?_ ?_;(focus ((simp;done)));(focus (exact z310 _ _ _ _ _ _ rfl))))))|(repeat' first|exact y85 _|apply y86|constructor)
  ·have hes:0 < q.es.length:=by omega
   have ge:(q.es.map Edge.cs)[0]?=some (Edge.cs q.es[0]):=by rw [y51,y45 hes];rfl
   have he0:=hq.el _ (y44 hes)
   generalize q.es[0]=ed at *
   by_cases e0:v=0
   ·subst e0
    refine ⟨⟨c.init++[0],c.ps.set k q⟩,p+1+1,⟨⟨by simp;omega,hcq.len,hcq.el⟩,by omega,by omega⟩,?_⟩
    refine z7 z14 Tryz.func38 rfl rfl 115 Tryz.ntmps38 (by simp) ?_
    repeat' ((first|((fail_if_success apply z183 3);apply y4 ok;rfl)|(apply y43;(unfold inI;omega))|((first|(apply z8 [] [3,4] cc;rfl;rfl)|(apply z8 [0] [] ck;rfl;rfl));rfl;(focus ((repeat' first|exact z13|apply z11)<;>first|exact z42 rfl rfl|(refine z19 ?_;((exact z5 fun _=>rfl)))))))<;>conv=>whnf)
    refine y84 (Gl.Reach.exposeD (e:=z84 q) 4 k 1 rfl g0 rfl rfl) ?_
    conv=>whnf
    rw [y49]
    repeat' ((first|(apply y4 ok;rfl)|(refine z15 (i:=k) rfl g2 ?_)|(apply y43;first|omega|((try dsimp only);simp only [y49,y48,y47,y46,y57,y58];omega)|exact ⟨rfl,z21 rfl z31⟩)|((apply z6)<;>intro _)|(apply z55 [0] [] cv;rfl;rfl;rfl))<;>conv=>whnf)
    all_goals try (exfalso;omega)
    all_goals refine y89 (e:=[.int q.loc,.sref 6 0 q.es.length]) 4 6 k 1 rfl g2 rfl rfl (by simp) rfl (by (exact z5 fun _=>rfl)) ?_
    all_goals refine y13 [0] [8,4] rfl rfl rfl ?_
    all_goals refine y12 (z38 (.cons ?_ (.cons ?_ .nil))) ?_
    all_goals first|((apply z36 rfl rfl rfl);(focus (repeat (first|exact z82 _|exact z24 (fun _=>rfl) _|apply z151|apply z188|apply z173|rfl)));(focus ((simp;done)));(focus ((refine z63 ?_ ?_;(focus ((simp;done)));(focus (first|exact z310 _ _ _ _ _ _ rfl|exact z46 (by rw [y56 (by simp),y63];rfl)))))))|(repeat' first|exact y85 _|apply y86|constructor)
   by_cases e1:v=1
   ·subst e1
    obtain ⟨x,mx,cx⟩:=z100 bs hb (p+1+1) (by omega) (by omega) [0,1,4,5] (by decide) (by decide)
    have g4:(((c.ps.map z84).set k [.int q.loc,.sref 6 0 q.es.length]).take c.ps.length++[[AC.int x,AC.nils]])[k]?=some [.int q.loc,.sref 6 0 q.es.length]:=by rw [y56 (by simp),y65 (by simpa using hk)];exact g2
    refine ⟨⟨c.init,c.ps.set k q++[⟨x,[]⟩]⟩,p+1+1+1,⟨⟨hcq.init,by have:=hcq.len;simp at *;omega,fun r hr=>by rcases List.mem_append.1 hr with hr|hr;exact hcq.el r hr;rw [List.mem_singleton.1 hr];exact ⟨by simp,by simp⟩⟩,by omega,by omega⟩,?_⟩
    refine z7 z14 Tryz.func38 rfl rfl 115 Tryz.ntmps38 (by simp) ?_
    repeat' ((first|((fail_if_success apply z183 3);apply y4 ok;rfl)|(apply y43;(unfold inI;omega))|((first|(apply z8 [] [3,4] cc;rfl;rfl)|(apply z8 [0] [] ck;rfl;rfl));rfl;(focus ((repeat' first|exact z13|apply z11)<;>first|exact z42 rfl rfl|(refine z19 ?_;((exact z5 fun _=>rfl)))))))<;>conv=>whnf)
    refine y84 (Gl.Reach.exposeD (e:=z84 q) 4 k 1 rfl g0 rfl rfl) ?_
    conv=>whnf
    rw [y49]
    repeat' ((first|(apply y4 ok;rfl)|(apply z23;kernel_rfl)|(refine z15 (i:=k) rfl g2 ?_)|((apply y43;((try dsimp only);simp only [List.length_set,y49,y48,y47,y57,y58];omega)))|(apply y43;first|omega|exact ⟨rfl,z21 rfl z31⟩)|((apply z6)<;>intro _)|((first|(apply z8 [0] [] cv;rfl;rfl)|(apply z8 [0,7] [] cx;rfl;rfl));rfl;(focus ((repeat' first|exact z13|apply z11)<;>first|exact z42 rfl rfl|(refine z19 ?_;((exact z5 fun _=>rfl)))))))<;>conv=>whnf)
    all_goals try (exfalso;omega)
    all_goals refine y89 (e:=[.int q.loc,.sref 6 0 q.es.length]) 9 6 k 1 rfl g4 rfl rfl (by simp) rfl (by (exact z5 fun _=>rfl)) ?_
    all_goals refine y13 [0] [3,9] rfl rfl rfl ?_
    all_goals refine y12 (z38 (.cons ?_ (.cons ?_ .nil))) ?_
    all_goals first|((apply z36 rfl rfl rfl);(focus (repeat (first|exact z82 _|exact z24 (fun _=>rfl) _|apply z151|apply z188|apply z173|rfl)));(focus ((simp;done)));(focus (first|exact y85 _|(refine z63 ?_ ?_;(focus ((simp;done)));(focus ((rw [y56 (by simp)];exact z963 _ _ hk _ _ _ _)))))))|(repeat' first|exact y85 _|apply y86|constructor)
   by_cases e6:v=6
   ·subst e6
    refine ⟨⟨[],[]⟩,p+1+1,⟨⟨by simp,by simp,by simp⟩,by omega,by omega⟩,?_⟩
    refine z7 z14 Tryz.func38 rfl rfl 115 Tryz.ntmps38 (by simp) ?_
    repeat' ((first|((fail_if_success apply z183 3);apply y4 ok;rfl)|(apply y43;(unfold inI;omega))|((first|(apply z8 [] [3,4] cc;rfl;rfl)|(apply z8 [0] [] ck;rfl;rfl));rfl;(focus ((repeat' first|exact z13|apply z11)<;>first|exact z42 rfl rfl|(refine z19 ?_;((exact z5 fun _=>rfl)))))))<;>conv=>whnf)
    refine y84 (Gl.Reach.exposeD (e:=z84 q) 4 k 1 rfl g0 rfl rfl) ?_
    conv=>whnf
    rw [y49]
    repeat' ((first|(apply y4 ok;rfl)|(refine z15 (i:=k) rfl g2 ?_)|(apply y43;omega)|((apply z6)<;>intro _)|(apply z55 [0] [] cv;rfl;rfl;rfl))<;>conv=>whnf)
    all_goals try (exfalso;omega)
    all_goals (refine rsD [0] [] rfl ?_;(repeat' first|exact y85 _|exact z26|apply y86|apply z38|constructor))
   by_cases e2:v=2
   ·subst e2
    obtain ⟨t1,p1,⟨q1,q2,q3⟩,ce⟩:=z779 bs hb (p+1+1) ⟨by omega,by omega⟩
    obtain ⟨t2,p2,⟨r1,r2,r3⟩,cm⟩:=z357 bs hb p1 ⟨by omega,by omega⟩ t1 (by omega)
    rw [y16] at ce cm
    rw [y16] at cm
    refine ⟨⟨c.init,c.ps.set k ⟨q.loc,q.es.set 0 ⟨ed.fr,ed.to,t2,ed.var,ed.val,ed.sync⟩⟩⟩,p2,⟨z741 hc (z663 hq ⟨by show t2.sz≤1000;omega,he0.val⟩),by omega,by omega⟩,?_⟩
    refine z7 z14 Tryz.func38 rfl rfl 115 Tryz.ntmps38 (by simp) ?_
    repeat' ((first|((fail_if_success apply z183 3);apply y4 ok;rfl)|(apply y43;(unfold inI;omega))|((first|(apply z8 [] [3,4] cc;rfl;rfl)|(apply z8 [0] [] ck;rfl;rfl));rfl;(focus ((repeat' first|exact z13|apply z11)<;>first|exact z42 rfl rfl|(refine z19 ?_;((exact z5 fun _=>rfl)))))))<;>conv=>whnf)
    refine y84 (Gl.Reach.exposeD (e:=z84 q) 4 k 1 rfl g0 rfl rfl) ?_
    conv=>whnf
    rw [y49]
    repeat' ((first|(apply y4 ok;rfl)|(apply z23;kernel_rfl)|(refine z15 (i:=k) rfl g2 ?_)|(refine z15 (i:=0) rfl ge ?_)|(apply y43;omega)|((apply z6)<;>intro _)|((first|(apply z55 [0] [] cv;rfl;rfl)|(apply z55 [0] [] ce;rfl;rfl)|(apply z55 [0] [] cm;rfl;rfl));rfl))<;>conv=>whnf)
    all_goals try (exfalso;omega)
    all_goals refine y89 (e:=[.int q.loc,.sref 6 0 q.es.length]) 4 6 k 1 rfl g2 rfl rfl (by simp) rfl (by (exact z490 (z5 fun _=>rfl) rfl)) ?_
    all_goals refine y13 [0] [3,4] rfl rfl rfl ?_
    all_goals refine y12 (z38 (.cons ?_ (.cons ?_ .nil))) ?_
    all_goals first|((apply z36 rfl rfl rfl);(focus (repeat (first|exact z82 _|exact z24 (fun _=>rfl) _|apply z173)));(focus ((simp;done)));(focus (first|exact y85 _|(refine z63 ?_ ?_;(focus ((simp;done)));(focus ((exact z310 _ _ _ (⟨q.loc,q.es.set 0 ⟨ed.fr,ed.to,t2,ed.var,ed.val,ed.sync⟩⟩) _ _ (by rw [List.map_set];rfl))))))))|(repeat' first|exact y85 _|apply y86|constructor)
   by_cases e3:v=3
   ·subst e3
    obtain ⟨x,mx,cx⟩:=z100 bs hb (p+1+1) (by omega) (by omega) [-1,3,0,-2] (by decide) (by decide)
    refine ⟨⟨c.init,c.ps.set k ⟨q.loc,q.es.set 0 ⟨ed.fr,ed.to,ed.gd,x,ed.val,ed.sync⟩⟩⟩,p+1+1+1,⟨z741 hc (z663 hq ⟨he0.gd,he0.val⟩),by omega,by omega⟩,?_⟩
    refine z7 z14 Tryz.func38 rfl rfl 115 Tryz.ntmps38 (by simp) ?_
    repeat' ((first|((fail_if_success apply z183 3);apply y4 ok;rfl)|(apply y43;(unfold inI;omega))|((first|(apply z8 [] [3,4] cc;rfl;rfl)|(apply z8 [0] [] ck;rfl;rfl));rfl;(focus ((repeat' first|exact z13|apply z11)<;>first|exact z42 rfl rfl|(refine z19 ?_;((exact z5 fun _=>rfl)))))))<;>conv=>whnf)
    refine y84 (Gl.Reach.exposeD (e:=z84 q) 4 k 1 rfl g0 rfl rfl) ?_
    conv=>whnf
    rw [y49]
    repeat' ((first|(apply y4 ok;rfl)|(apply z23;kernel_rfl)|(refine z15 (i:=k) rfl g2 ?_)|(refine z15 (i:=0) rfl ge ?_)|(apply y43;omega)|((apply z6)<;>intro _)|((first|(apply z8 [0] [] cv;rfl;rfl)|(apply z8 [0,7] [] cx;rfl;rfl));rfl;(focus ((repeat' first|exact z13|apply z11)<;>first|exact z42 rfl rfl|(refine z19 ?_;((exact z5 fun _=>rfl)))))))<;>conv=>whnf)
    all_goals try (exfalso;omega)
    all_goals refine y89 (e:=[.int q.loc,.sref 6 0 q.es.length]) 4 6 k 1 rfl g2 rfl rfl (by simp) rfl (by (exact z490 (z5 fun _=>rfl) rfl)) ?_
    all_goals refine y13 [0] [3,4] rfl rfl rfl ?_
    all_goals refine y12 (z38 (.cons ?_ (.cons ?_ .nil))) ?_
    all_goals first|((apply z36 rfl rfl rfl);(focus (repeat (first|exact z82 _|exact z24 (fun _=>rfl) _|apply z173)));(focus ((simp;done)));(focus (first|exact y85 _|(refine z63 ?_ ?_;(focus ((simp;done)));(focus ((exact z310 _ _ _ (⟨q.loc,q.es.set 0 ⟨ed.fr,ed.to,ed.gd,x,ed.val,ed.sync⟩⟩) _ _ (by rw [List.map_set];rfl))))))))|(repeat' first|exact y85 _|apply y86|constructor)
   by_cases e4:v=4
   ·subst e4
    obtain ⟨x,mx,cx⟩:=z100 bs hb (p+1+1) (by omega) (by omega) [3,-3,2,-9223372036854775808] (by decide) (by decide)
    refine ⟨⟨c.init,c.ps.set k ⟨q.loc,q.es.set 0 ⟨ed.fr,ed.to,ed.gd,ed.var,ed.val,x⟩⟩⟩,p+1+1+1,⟨z741 hc (z663 hq ⟨he0.gd,he0.val⟩),by omega,by omega⟩,?_⟩
    refine z7 z14 Tryz.func38 rfl rfl 115 Tryz.ntmps38 (by simp) ?_
    repeat' ((first|((fail_if_success apply z183 3);apply y4 ok;rfl)|(apply y43;(unfold inI;omega))|((first|(apply z8 [] [3,4] cc;rfl;rfl)|(apply z8 [0] [] ck;rfl;rfl));rfl;(focus ((repeat' first|exact z13|apply z11)<;>first|exact z42 rfl rfl|(refine z19 ?_;((exact z5 fun _=>rfl)))))))<;>conv=>whnf)
    refine y84 (Gl.Reach.exposeD (e:=z84 q) 4 k 1 rfl g0 rfl rfl) ?_
    conv=>whnf
    rw [y49]
    repeat' ((first|(apply y4 ok;rfl)|(apply z23;kernel_rfl)|(refine z15 (i:=k) rfl g2 ?_)|(refine z15 (i:=0) rfl ge ?_)|(apply y43;omega)|((apply z6)<;>intro _)|((first|(apply z8 [0] [] cv;rfl;rfl)|(apply z8 [0,7] [] cx;rfl;rfl));rfl;(focus ((repeat' first|exact z13|apply z11)<;>first|exact z42 rfl rfl|(refine z19 ?_;((exact z5 fun _=>rfl)))))))<;>conv=>whnf)
    all_goals try (exfalso;omega)
    all_goals refine y89 (e:=[.int q.loc,.sref 6 0 q.es.length]) 4 6 k 1 rfl g2 rfl rfl (by simp) rfl (by (exact z490 (z5 fun _=>rfl) rfl)) ?_
    all_goals refine y13 [0] [3,4] rfl rfl rfl ?_
    all_goals refine y12 (z38 (.cons ?_ (.cons ?_ .nil))) ?_
    all_goals first|((apply z36 rfl rfl rfl);(focus (repeat (first|exact z82 _|exact z24 (fun _=>rfl) _|apply z173)));(focus ((simp;done)));(focus (first|exact y85 _|(refine z63 ?_ ?_;(focus ((simp;done)));(focus ((exact z310 _ _ _ (⟨q.loc,q.es.set 0 ⟨ed.fr,ed.to,ed.gd,ed.var,ed.val,x⟩⟩) _ _ (by rw [List.map_set];rfl))))))))|(repeat' first|exact y85 _|apply y86|constructor)
   by_cases e5:v=5
   ·subst e5
    obtain ⟨x,mx,cx⟩:=z100 bs hb (p+1+1) (by omega) (by omega) [-1,4,0,9223372036854775807] (by decide) (by decide)
    refine ⟨⟨c.init,c.ps.set k ⟨q.loc,q.es.set 0 ⟨ed.fr,x,ed.gd,ed.var,ed.val,ed.sync⟩⟩⟩,p+1+1+1,⟨z741 hc (z663 hq ⟨he0.gd,he0.val⟩),by omega,by omega⟩,?_⟩
    refine z7 z14 Tryz.func38 rfl rfl 115 Tryz.ntmps38 (by simp) ?_
    repeat' ((first|((fail_if_success apply z183 3);apply y4 ok;rfl)|(apply y43;(unfold inI;omega))|((first|(apply z8 [] [3,4] cc;rfl;rfl)|(apply z8 [0] [] ck;rfl;rfl));rfl;(focus ((repeat' first|exact z13|apply z11)<;>first|exact z42 rfl rfl|(refine z19 ?_;((exact z5 fun _=>rfl)))))))<;>conv=>whnf)
    refine y84 (Gl.Reach.exposeD (e:=z84 q) 4 k 1 rfl g0 rfl rfl) ?_
    conv=>whnf
    rw [y49]
    repeat' ((first|(apply y4 ok;rfl)|(apply z23;kernel_rfl)|(refine z15 (i:=k) rfl g2 ?_)|(refine z15 (i:=0) rfl ge ?_)|(apply y43;omega)|((apply z6)<;>intro _)|((first|(apply z8 [0] [] cv;rfl;rfl)|(apply z8 [0,7] [] cx;rfl;rfl));rfl;(focus ((repeat' first|exact z13|apply z11)<;>first|exact z42 rfl rfl|(refine z19 ?_;((exact z5 fun _=>rfl)))))))<;>conv=>whnf)
    all_goals try (exfalso;omega)
    all_goals refine y89 (e:=[.int q.loc,.sref 6 0 q.es.length]) 4 6 k 1 rfl g2 rfl rfl (by simp) rfl (by (exact z490 (z5 fun _=>rfl) rfl)) ?_
    all_goals refine y13 [0] [3,4] rfl rfl rfl ?_
    all_goals refine y12 (z38 (.cons ?_ (.cons ?_ .nil))) ?_
    all_goals first|((apply z36 rfl rfl rfl);(focus (repeat (first|exact z82 _|exact z24 (fun _=>rfl) _|apply z173)));(focus ((simp;done)));(focus (first|exact y85 _|(refine z63 ?_ ?_;(focus ((simp;done)));(focus ((exact z310 _ _ _ (⟨q.loc,q.es.set 0 ⟨ed.fr,x,ed.gd,ed.var,ed.val,ed.sync⟩⟩) _ _ (by rw [List.map_set];rfl))))))))|(repeat' first|exact y85 _|apply y86|constructor)
   refine ⟨⟨c.init,c.ps.set k q⟩,p+1+1,⟨hcq,by omega,by omega⟩,?_⟩
   refine z7 z14 Tryz.func38 rfl rfl 115 Tryz.ntmps38 (by simp) ?_
   repeat' ((first|((fail_if_success apply z183 3);apply y4 ok;rfl)|(apply y43;(unfold inI;omega))|((first|(apply z8 [] [3,4] cc;rfl;rfl)|(apply z8 [0] [] ck;rfl;rfl));rfl;(focus ((repeat' first|exact z13|apply z11)<;>first|exact z42 rfl rfl|(refine z19 ?_;((exact z5 fun _=>rfl)))))))<;>conv=>whnf)
   refine y84 (Gl.Reach.exposeD (e:=z84 q) 4 k 1 rfl g0 rfl rfl) ?_
   conv=>whnf
   rw [y49]
   repeat' ((first|(apply y4 ok;rfl)|(refine z15 (i:=k) rfl g2 ?_)|(apply y43;omega)|((apply z6)<;>intro _)|(apply z55 [0] [] cv;rfl;rfl;rfl))<;>conv=>whnf)
   all_goals try (exfalso;omega)
   all_goals refine y89 (e:=[.int q.loc,.sref 6 0 q.es.length]) 4 6 k 1 rfl g2 rfl rfl (by simp) rfl (by (exact z5 fun _=>rfl)) ?_
   all_goals refine y13 [0] [3,4] rfl rfl rfl ?_
   all_goals refine y12 (z38 (.cons ?_ (.cons ?_ .nil))) ?_
   all_goals first|((apply z36 rfl rfl rfl);(focus (repeat (first|exact z82 _|exact z24 (fun _=>rfl) _|apply z173)));(focus ((simp;done)));(focus (first|exact y85 _|(refine z63 ?_ ?_;(focus ((simp;done)));(focus (exact z310 _ _ _ _ _ _ rfl))))))|(repeat' first|exact y85 _|apply y86|constructor)
set_option maxHeartbeats 3200000 in
theorem z800 (bs:List Int) (hb:CodeOk bs):∃ (s:Sys) (l:List Tree) (f:Tree),(s.s1∧Lab.d l∧f.sz≤22)∧CallsA Tryz.prog 7 [lst 1 enU bs] [] (.tup [.agg s.cs,lst 3 Tree.cs' l,z20 Tree.cs' f]) []:=by
 have co:=z1017 bs hb.len
 have hbt:=hb.take
 generalize bs.take 2000=b0 at *
 obtain ⟨l,p1,⟨l1,l2,l3,l4⟩,c1⟩:=z876 b0 hbt 0 ⟨by omega,by omega⟩
 obtain ⟨f0,p2,⟨a1,a2,a3⟩,c2⟩:=z773 b0 hbt p1 ⟨by omega,by omega⟩
 obtain ⟨f,p3,⟨b1,b2,b3⟩,cm⟩:=z880 b0 hbt p2 ⟨by omega,by omega⟩ f0 (by omega)
 obtain ⟨s0,p4,⟨d1,d2,d3⟩,c3⟩:=z882 b0 hbt p3 ⟨by omega,by omega⟩
 obtain ⟨s,p5,⟨e1,e2,e3⟩,c4⟩:=z883 b0 hbt p4 ⟨by omega,by omega⟩ s0 d1
 refine ⟨s,l,f,⟨e1,⟨l1,l2⟩,by omega⟩,?_⟩
 rw [y16 f] at *
 rw [y16 f0] at *
 refine z7 z14 Tryz.func7 rfl rfl 22 Tryz.ntmps7 (by simp) ?_
 repeat' ((first|(apply y4 ok;rfl)|(apply z23;kernel_rfl)|((first|(apply z55 [] [2] co;rfl;rfl)|(apply z55 [2] [] c1;rfl;rfl)|(apply z55 [2] [] c2;rfl;rfl)|(apply z55 [2] [] cm;rfl;rfl)|(apply z55 [2] [] c3;rfl;rfl)|(apply z55 [2] [] c4;rfl;rfl));rfl))<;>conv=>whnf)
 all_goals (refine rsD [] [] rfl ?_;(repeat' first|exact y85 _|constructor))
theorem z802 (s:Sys) (l:List Tree) (f:Tree):csV s l f=3∨(csV s l f=2∧z91 s=none)∨∃ g,z91 s=some g∧csV s l f=vdI g l f∧csA s l f=stsL g (vdT g l f).stem∧csB s l f=stsL g (vdT g l f).loop∧z111 l=true∧f.fmB=true:=by
 cases hv:(sysB s && (z111 l && f.fmB)) with
 |false=>left;unfold csV;rw [hv];rfl
 |true =>
  right
  cases hb:z91 s with
  |none=>left;exact ⟨by unfold csV;rw [hv,hb];rfl,rfl⟩
  |some g =>
   right
   obtain ⟨_,h2⟩:=Bool.and_eq_true_iff.1 hv
   obtain ⟨h3,h4⟩:=Bool.and_eq_true_iff.1 h2
   have e0:csO s l f=some g:=by unfold csO;rw [hv,hb];rfl
   exact ⟨g,rfl,by unfold csV;rw [hv,hb];rfl,by unfold csA;rw [e0],by unfold csB;rw [e0],h3,h4⟩
theorem z1084 {g:Graph} {p:List Int} {i:Nat} (hi:i < p.length) {u:Nat} (hu:p[i]=u) (hul:u < g.st.length):((stsL g p).map State.cs)[i]?=some (State.cs g.st[u]):=by
 rw [y51,y45 (by rw [z218];exact hi)]
 simp only [stsL,List.getElem_map,Option.map_some]
 rw [hu,y76,z17 hul]
set_option maxHeartbeats 6400000 in
theorem z465 (c:List Int) (hc:CodeOk c):CallsA Tryz.prog 3 [lst 1 enU c] [] (.bool true) []:=by
 obtain ⟨s,l,f,⟨hs,hl,hf⟩,cd⟩:=z800 c hc
 have hlm:=hl.mx
 have hlen:=hc.len
 unfold maxLen at hlen
 have hfm:f.mx:=z85 f (by unfold maxLen;omega)
 have k1:=z400 s hs l hlm f hfm
 have k2:=z376 s hs l hlm f hfm
 have k3:=z438 s hs
 rcases z802 s l f with hv|⟨hv,hb⟩|⟨g,hb,hv,hA,hB,h1,h2⟩
 ·rw [hv] at k1 k2
  generalize csA s l f=A at *
  generalize csB s l f=B at *
  rw [y16 f] at *
  refine z7 z14 Tryz.func3 rfl rfl 176 Tryz.ntmps3 (by simp) ?_
  repeat' ((first|(apply y4 ok;rfl)|((first|apply z6|apply z53)<;>intro _)|(apply z4 (cd);rfl;rfl)|(apply z4 (k1);rfl;rfl)|(apply z4 (k2);rfl;rfl))<;>conv=>whnf)
  all_goals first|(exfalso;omega)|(refine rsD [] [] rfl ?_;(repeat' first|exact y85 _|constructor))
  all_goals exact z138 (by simp)
 ·rw [hv] at k1 k2
  rw [hb] at k3
  generalize (none:Option Graph).getD ⟨[],[]⟩=g0 at *
  generalize csA s l f=A at *
  generalize csB s l f=B at *
  rw [y16 f] at *
  refine z7 z14 Tryz.func3 rfl rfl 176 Tryz.ntmps3 (by simp) ?_
  repeat' ((first|(apply y4 ok;rfl)|((first|apply z6|apply z53)<;>intro _)|(apply z4 (cd);rfl;rfl)|(apply z4 (k1);rfl;rfl)|(apply z4 (k2);rfl;rfl)|(apply z4 (k3);rfl;rfl))<;>conv=>whnf)
  all_goals first|(exfalso;omega)|(refine rsD [] [] rfl ?_;(repeat' first|exact y85 _|constructor))
  all_goals exact z138 (by simp)
 ·rw [hb,show (some g).getD ⟨[],[]⟩=g from rfl,show (some g).isSome=true from rfl] at k3
  obtain ⟨q1,q2,q3,q4⟩:=z494 hb
  have k4:=z401 g q4.mx l hlm f hfm
  have hin:=z1060 (g:=g) (l:=l) (f:=f)
  have hlp:=vdT_loop (g:=g) (l:=l) (f:=f)
  obtain ⟨z1,z2⟩:=z922 (g:=g) (l:=l) (f:=f)
  have hv3:vdI g l f≠3:=fun h=>z1061.1 h ⟨by unfold glB;rw [(z89 g).2 (z495 hb),h1];rfl,h2⟩
  rw [hv,hA,hB] at k1 k2
  generalize vdT g l f=t at *
  generalize vdI g l f=v at *
  have la:=z218 g t.stem
  have lb:=z218 g t.loop
  have hga:=fun i (hi:i < t.stem.length) u hu hul=>z1084 (g:=g) hi (u:=u) hu hul
  have hgb:=fun i (hi:i < t.loop.length) u hu hul=>z1084 (g:=g) hi (u:=u) hu hul
  generalize stsL g t.stem=A at *
  generalize stsL g t.loop=B at *
  rw [y16 f] at *
  refine z7 z14 Tryz.func3 rfl rfl 176 Tryz.ntmps3 (by simp) ?_
  repeat' ((first|(apply y4 ok;rfl)|((first|apply z6|apply z53)<;>intro _)|(apply z4 (cd);rfl;rfl)|(apply z4 (k1);rfl;rfl)|(apply z4 (k2);rfl;rfl)|(apply z4 (k3);rfl;rfl)|(apply z4 (k4);rfl;rfl))<;>conv=>whnf)
  all_goals first|(exfalso;omega)|(refine rsD [] [] rfl ?_;(repeat' first|exact y85 _|constructor))|skip
  refine z64 (fun i:Nat=>([(6,.int v),(7,lst 2 State.cs A),(8,lst 2 State.cs B),(11,lst 2 State.cs B),(12,.ptr 0 none 0),(15,.ptr 1 none 0),(16,.int i)],[.cells 2 [g.cs],.cells 2 [t.cs]])) (fun i=>i≤B.length) (fun i=>B.length - i) 0 (y53 _) (by refine swR [2,3] [] rfl rfl ?_;(repeat' first|exact y85 _|apply y86|constructor)) ?_
  intro i hi
  by_cases hil:i < B.length
  ·have hil2:i < t.loop.length:=by omega
   have hx:=hin t.loop[i] (by unfold Trace.all;simp)
   obtain ⟨u,hu⟩:∃ u:Nat,t.loop[i]=u:=⟨t.loop[i].toNat,by omega⟩
   have hul:u < g.st.length:=by omega
   have gb:=hgb i hil2 u hu hul
   have gt:(t.loop.map enI)[i]?=some (enI (u:Int)):=by rw [y51,y45 hil2,hu];rfl
   have gs:(g.st.map State.cs)[u]?=some (State.cs g.st[u]):=by rw [y51,y45 hul];rfl
   have cs:=z265 g.st[u] g.st[u] (q1 _ (y44 hul)) (q1 _ (y44 hul))
   rw [y81 rfl] at cs
   generalize g.st[u]=st at *
   repeat' ((first|(apply y4 ok;rfl)|(apply z23;kernel_rfl)|(refine z15 (i:=i) rfl gb ?_)|(refine z15 (i:=i) rfl gt ?_)|(refine z15 (i:=u) rfl gs ?_)|(apply y43;first|omega|(unfold inI;omega))|((apply z6)<;>intro _)|(apply z4 (cs);rfl;rfl))<;>conv=>whnf)
   all_goals try (exfalso;omega)
   all_goals refine z27 (i+1) hil (by omega) (by refine swR [0,1] [] rfl rfl ?_;(repeat' first|exact y85 _|apply y86|constructor))
  ·repeat' ((first|(apply y4 ok;rfl)|(apply y43;omega)|(((with_reducible apply z9;omega));intro _)|((apply z6)<;>intro _))<;>conv=>whnf)
   all_goals try (exfalso;omega)
   refine z64 (fun i:Nat=>([(6,.int v),(7,lst 2 State.cs A),(8,lst 2 State.cs B),(12,.ptr 0 none 0),(15,.ptr 1 none 0),(17,.int i)],[.cells 2 [g.cs],.cells 2 [t.cs]])) (fun i=>i≤A.length) (fun i=>A.length - i) 0 (y53 _) (by refine swR [0,1] [] rfl rfl ?_;(repeat' first|exact y85 _|apply y86|constructor)) ?_
   intro j hj
   by_cases hjl:j < A.length
   ·have hil2:j < t.stem.length:=by omega
    have hx:=hin t.stem[j] (by unfold Trace.all;simp)
    obtain ⟨u,hu⟩:∃ u:Nat,t.stem[j]=u:=⟨t.stem[j].toNat,by omega⟩
    have hul:u < g.st.length:=by omega
    have gb:=hga j hil2 u hu hul
    have gt:(t.stem.map enI)[j]?=some (enI (u:Int)):=by rw [y51,y45 hil2,hu];rfl
    have gs:(g.st.map State.cs)[u]?=some (State.cs g.st[u]):=by rw [y51,y45 hul];rfl
    have cs:=z265 g.st[u] g.st[u] (q1 _ (y44 hul)) (q1 _ (y44 hul))
    rw [y81 rfl] at cs
    generalize g.st[u]=st at *
    repeat' ((first|(apply y4 ok;rfl)|(apply z23;kernel_rfl)|(refine z15 (i:=j) rfl gb ?_)|(refine z15 (i:=j) rfl gt ?_)|(refine z15 (i:=u) rfl gs ?_)|(apply y43;first|omega|(unfold inI;omega))|((apply z6)<;>intro _)|(apply z4 (cs);rfl;rfl))<;>conv=>whnf)
    all_goals try (exfalso;omega)
    all_goals refine z27 (j+1) hjl (by omega) (by refine swR [0,1] [] rfl rfl ?_;(repeat' first|exact y85 _|apply y86|constructor))
   ·have hlp2:v=1↔0 < B.length:=by omega
    repeat' ((first|(apply y4 ok;rfl)|(apply y43;omega)|((first|(with_reducible apply z9;omega)|(with_reducible apply z90;omega));intro _)|((apply z6)<;>intro _))<;>conv=>whnf)
    all_goals first|(exfalso;omega)|(refine rsD [] [] rfl ?_;(repeat' constructor))
    all_goals refine z138 ?_
    all_goals rw [show decide (v=1)=decide (0 < (B.length:Int)) by rw [decide_eq_decide];omega]
    all_goals exact beq_self_eq_true _
theorem pathF_ok (v x:Int):CallsA Tryz.prog 204 [.int x,.pt [.int v]] [] (.bool (decide (x=v))) []:=by
 refine z7 z14 Tryz.func204 rfl rfl 7 Tryz.ntmps204 (by simp) ?_
 repeat' (((apply y4 ok;rfl))<;>conv=>whnf)
 all_goals (refine rsD [] [] rfl ?_;(repeat' first|exact y85 _|constructor))
theorem shV_len {rows:List (List Int)} {v:Int} (hr:∀ r∈rows,InN rows.length r) (h0:0 < rows.length) (hv:0≤v):(shL rows [0] fun n=>decide (n=v)).length≤rows.length+1∧∀ x∈shL rows [0] fun n=>decide (n=v),0≤x∧x < rows.length:=by
 have hin:InN rows.length [0]:=fun y hy=>by rw [List.mem_singleton.1 hy];omega
 have hnd : [(0:Int)].Nodup:=by simp
 by_cases hm:v∈bfsL rows [0]
 ·rw [z1100 hnd hm]
  have hq:=z243 hr hin hnd rows.length
  have hvm:v∈(srS rows [0] rows.length).1:=by rw [z353 hnd];exact hm
  have hvr:=hq.inn v hvm
  have hP:∀ x∈srP rows [0],x≤rows.length - 1:=srS_max hr hin hnd rows.length
  refine ⟨by have:=z445 (srP rows [0]) rows.length v [];simpa using this,fun x hx=>⟨z812 _ v [] hv (by simp) x hx,?_⟩⟩
  have:=z813 hP rows.length v [] (by omega) (by omega) (by simp) x hx
  omega
 ·have e:shL rows [0] (fun n=>decide (n=v))=[]:=by
   unfold shL
   rw [List.find?_eq_none.2]
   intro x hx
   have:x∈bfsL rows [0]:=by
    have h2:srQ rows [0]=bfsL rows [0]:=z353 hnd _
    rw [← h2];exact hx
   simp only [decide_eq_true_eq]
   rintro rfl
   exact hm this
  rw [e]
  simp
set_option maxHeartbeats 3200000 in
theorem path_new (g:Graph) (hG:GB g) (v:Int):CallsA Tryz.prog 143 [.agg g.cs,.int 0,.int v] [] (.sref 0 0 (shL g.nx [0] fun n=>decide (n=v)).length) [.cells 1 ((shL g.nx [0] fun n=>decide (n=v)).map enI)]:=by
 have h1:=hG.1
 have h2:=hG.2.1
 have c:=z377 g.nx [0] (z665 hG) (fun y hy=>by rw [List.mem_singleton.1 hy];omega) (by simp) (by omega) (fun r hr=>by
  obtain ⟨i,hi,rfl⟩:=List.mem_iff_getElem.1 hr
  have:=(GB.row hG i hi).2.1
  omega) (fun n=>decide (n=v)) 204 [.int v] (fun x _ _=>pathF_ok v x)
 generalize (shL g.nx [0] fun n=>decide (n=v))=L at *
 refine z7 z14 Tryz.func143 rfl rfl 13 Tryz.ntmps143 (by simp) ?_
 repeat' ((first|(apply y4 ok;rfl)|(apply z80 [] [1,2] [3] c;(focus ((repeat' first|exact z60|apply z39)<;>rfl));rfl;rfl;(focus ((repeat' first|exact z13|apply z11)<;>(refine z19 ?_;((exact z5 fun _=>rfl)))));((refine .inr ⟨rfl,?_⟩;repeat' first|exact True.intro|apply y43|exact z146 (fun _=>rfl) _))))<;>conv=>whnf)
 all_goals (refine rsD [3] [] rfl ?_;(repeat' first|exact y85 _|exact z12 _|refine z10 rfl (z5 (fun _=>rfl)) ?_|constructor))
theorem path_ok (g:Graph) (hG:GB g) (v:Int):CallsA Tryz.prog 143 [.agg g.cs,.int 0,.int v] [] (ints (shL g.nx [0] fun n=>decide (n=v))) []:=(by refine y5 (path_new g hG v) [] [0] rfl rfl rfl ?_ ?_<;>(repeat' first|exact y85 _|((apply z36 rfl rfl rfl);(focus ((repeat ((exact z24 (fun _=>rfl) _)));done));(focus (((simp;done));done)))|constructor))
theorem z686 (c:List AC) (l:List State) (hl:l.length≤maxLen) (p:State→Bool) (f:FuncId) (hf:∀ x∈l,CallsA Tryz.prog f [z20 State.cs x,.pt c] [] (.bool (p x)) []):CallsA Tryz.prog 107 [lst 2 State.cs l,.fn (.func f) [] [.pt c]] [] (.int (idxF p l)) []:=by
 unfold maxLen at hl
 refine z16 z14 Tryz.func107 rfl rfl 19 Tryz.ntmps107 (by simp) ?_
 repeat' (((apply y4 ok;rfl))<;>conv=>whnf)
 refine z108 (fun k:Nat=>([(0,lst 2 State.cs l),(1,.fn (.func f) [] [.pt c]),(7,.int l.length),(8,.int k)],[])) (fun k=>k≤l.length∧∀ j (hj:j < l.length),j < k→p l[j]=false) (fun k=>l.length - k) 0 (by simp)
  ⟨[],rfl,by decide,rfl,⟨⟨rfl,rfl⟩,⟨rfl,rfl⟩,⟨rfl,rfl⟩,⟨rfl,rfl⟩,trivial⟩,trivial⟩ ?_
 intro k hk
 repeat' ((first|(apply y4 ok;rfl)|(apply y43;first|omega|(unfold inI;omega))|(((with_reducible apply z9;omega));intro _)|((first|apply z6|apply z95)<;>intro _)|(apply z4 (hf l[k] (y44 _));rfl;rfl))<;>conv=>whnf)
 ·rename_i h h1
  exact z47 rfl rfl (by rw [z129 (by omega) h1 hk.2];rfl)
 ·rename_i h h1
  refine z97 (k+1) [] ⟨by omega,fun j hj hjk=>?_⟩ (by omega) ⟨rfl,by decide,rfl,⟨⟨rfl,rfl⟩,⟨rfl,rfl⟩,⟨rfl,rfl⟩,⟨rfl,rfl⟩,trivial⟩,trivial⟩
  rcases y69 j k with h2|h2
  ·exact hk.2 j hj h2
  ·obtain rfl:j=k:=by omega
   exact h1
 ·exact z47 rfl rfl (by rw [z118 fun j hj=>hk.2 j hj (by omega)];rfl)
noncomputable def ckV (g:Graph) (p:State→Bool):Int:=if idxF p g.st < 0 then 0 else 1
noncomputable def ckP (g:Graph) (p:State→Bool):List State:=if idxF p g.st < 0 then [] else stsL g (shL g.nx [0] fun n=>decide (n=idxF p g.st))
set_option maxHeartbeats 3200000 in
theorem check_ok (s:Sys) (hs:s.s1) (g:Graph) (hb:z91 s=some g) (f:FuncId) (c:List AC) (p:State→Bool) (hf:∀ x∈g.st,CallsA Tryz.prog f [z20 State.cs x,.pt c] [] (.bool (p x)) []):CallsA Tryz.prog 72 [.agg s.cs,.bool true,.fn (.func f) [] [.pt c]] [] (.tup [.int (ckV g p),lst 2 State.cs (ckP g p)]) []:=by
 obtain ⟨q1,q2,q3,q4⟩:=z494 hb
 have hsB:=(z330 hb).1
 have hG:=z495 hb
 have c1:=z209 s hs
 rw [hsB] at c1
 have c2:=z298 s hsB
 rw [hb,show (some g).getD ⟨[],[]⟩=g from rfl,show (some g).isSome=true from rfl] at c2
 have c3:=z686 c g.st (by unfold maxLen;omega) p f hf
 have hlt:=z1157 p g.st
 by_cases hneg:idxF p g.st < 0
 ·have e1:ckV g p=0:=if_pos hneg
  have e2:ckP g p=[]:=if_pos hneg
  rw [e1,e2]
  generalize idxF p g.st=ix at *
  refine z7 z14 Tryz.func72 rfl rfl 36 Tryz.ntmps72 (by simp) ?_
  repeat' ((first|(apply y4 ok;rfl)|((apply z6)<;>intro _)|(apply z4 (c1);rfl;rfl)|(apply z4 (c2);rfl;rfl)|(apply z4 (c3);rfl;rfl))<;>conv=>whnf)
  all_goals first|(exfalso;omega)|(refine rsD [] [] rfl ?_;(repeat' first|exact y85 _|exact z26|apply z71|constructor))
 ·have e1:ckV g p=1:=if_neg hneg
  have e2:ckP g p=stsL g (shL g.nx [0] fun n=>decide (n=idxF p g.st)):=if_neg hneg
  rw [e1,e2]
  generalize idxF p g.st=ix at *
  have c4:=path_ok g hG ix
  have h1:=hG.1
  have h2:=hG.2.1
  obtain ⟨b1,b2⟩:=shV_len (z665 hG) (by omega) (v:=ix) (by omega)
  have c5:=z210 g q1 (by omega) (shL g.nx [0] fun n=>decide (n=ix)) (fun x hx=>by have:=b2 x hx;omega) (by omega)
  generalize stsL g (shL g.nx [0] fun n=>decide (n=ix))=R at *
  generalize (shL g.nx [0] fun n=>decide (n=ix))=L at *
  refine z7 z14 Tryz.func72 rfl rfl 36 Tryz.ntmps72 (by simp) ?_
  repeat' ((first|(apply y4 ok;rfl)|(apply z23;kernel_rfl)|((apply z6)<;>intro _)|(apply z4 (c1);rfl;rfl)|(apply z4 (c2);rfl;rfl)|(apply z4 (c3);rfl;rfl)|(apply z4 (c4);rfl;rfl)|(apply z4 (c5);rfl;rfl))<;>conv=>whnf)
  all_goals first|(exfalso;omega)|(refine rsD [] [] rfl ?_;(repeat' first|exact y85 _|constructor))
theorem z808 (e:Tree) (he:e.good) (st:State) (hv:ValsOk st.b):CallsA Tryz.prog 74 [z20 State.cs st,.pt [.int e.kind,.int e.val,lst 3 Tree.cs' e.kids]] [] (.bool (decide (e.ev st.b=0))) []:=by
 have c:=z699 st.b hv e he
 rw [y16] at c
 unfold z20
 generalize e.ev st.b=z at *
 refine z7 z14 Tryz.func74 rfl rfl 9 Tryz.ntmps74 (by simp) ?_
 repeat' ((first|(apply y4 ok;rfl)|(apply z4 (c);rfl;rfl))<;>conv=>whnf)
 all_goals (refine rsD [] [] rfl ?_;(repeat' first|exact y85 _|constructor))
theorem z905 (s:Sys) (hs:s.s1) (g:Graph) (hb:z91 s=some g) (e:Tree) (he:e.exprB=true) (hm:e.mx):CallsA Tryz.prog 28 [.agg s.cs,z20 Tree.cs' e] [] (.tup [.int (ckV g fun st=>decide (e.ev st.b=0)),lst 2 State.cs (ckP g fun st=>decide (e.ev st.b=0))]) []:=by
 obtain ⟨hsB,hF⟩:=z330 hb
 have c1:=z229 e hm
 rw [he] at c1
 have c2:=check_ok s hs g hb 74 [.int e.kind,.int e.val,lst 3 Tree.cs' e.kids] (fun st=>decide (e.ev st.b=0)) (fun st hst=>z808 e (y27 he) st (Rch.ok (y14 hsB) (hF.rch st hst)).b)
 generalize ckV g (fun st=>decide (e.ev st.b=0))=V at *
 generalize ckP g (fun st=>decide (e.ev st.b=0))=R at *
 rw [y16] at *
 refine z7 z14 Tryz.func28 rfl rfl 13 Tryz.ntmps28 (by simp) ?_
 repeat' ((((fail_if_success apply z153 1);(fail_if_success apply z114 1);apply y4 ok;rfl))<;>conv=>whnf)
 refine y84 (st':=mkSt _ [(2,.ptr 0 none 0),(3,.pt [.int e.kind,.int e.val,lst 3 Tree.cs' e.kids]),(4,.int 0),(5,.nils)] [.cells 2 [s.cs]]) (by refine swR [0] [1] rfl rfl ?_;(repeat' first|exact y85 _|apply y86|constructor)) ?_
 repeat' ((first|(apply y4 ok;rfl)|(apply z23;kernel_rfl)|(apply z4 (c1);rfl;rfl)|(apply z4 (c2);rfl;rfl))<;>conv=>whnf)
 all_goals (refine rsD [] [] rfl ?_;(repeat' first|exact y85 _|constructor))
end Go.Proofs.YtnfoijopccdjeaaGreat
