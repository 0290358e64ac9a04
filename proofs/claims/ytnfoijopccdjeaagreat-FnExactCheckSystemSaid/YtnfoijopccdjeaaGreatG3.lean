/- A part of the proofs over this program: D25, D26, D28, D29, D30, D32, D27, D31, D33, D36, D37, D38, D39, D40, GlV, D34, D41, D42, D43, GlRZ, D44, D46, D48. -/
import Derived.Test.YtnfoijopccdjeaaGreatG0
import Derived.Test.YtnfoijopccdjeaaGreatG1
import Derived.Test.YtnfoijopccdjeaaGreatG2
set_option linter.all false
namespace Go.Gl
def visP (u:Int) (x:List Int×List Int) (v:Int):List Int×List Int:=if v∈x.1 then x else (x.1++[v],x.2.set v.toNat u)
def visPs (u:Int) (x:List Int×List Int) (l:List Int):List Int×List Int:=l.foldl (visP u) x
theorem z362 {u:Int} {x:List Int×List Int} {v:Int} (h:v ∉ x.1):visP u x v=(x.1++[v],x.2.set v.toNat u):=by unfold visP;rw [if_neg h]
theorem z361 {u:Int} {x:List Int×List Int} {v:Int} (h:v∈x.1):visP u x v=x:=by unfold visP;rw [if_pos h]
theorem z608 {u:Int} {x:List Int×List Int} {l:List Int} {k:Nat} (h:k < l.length):visPs u x (l.take (k+1))=visP u (visPs u x (l.take k)) l[k]:=by
 unfold visPs
 rw [y57 h,y69];rfl
theorem z650 (u:Int) (x:List Int×List Int) (v:Int):(visP u x v).1=z197 x.1 v:=by
 unfold visP z197;split<;>rfl
theorem z500 (u:Int) (l:List Int):∀ x:List Int×List Int,(visPs u x l).1=z90 x.1 l:=by
 induction l with
 |nil=>intro x;rfl
 |cons v l ih =>
  intro x
  show (visPs u (visP u x v) l).1=z90 (z197 x.1 v) l
  rw [ih,z650]
structure PJ (N:Nat) (x:List Int×List Int):Prop where
 len:x.2.length=N
 inn:InN N x.1
 nd:x.1.Nodup
 pre:∀ k (h:k < x.1.length),x.2.getD (x.1[k]).toNat 0=-1∨∃ j,∃ h' : j < x.1.length,j < k∧x.2.getD (x.1[k]).toNat 0=x.1[j]
theorem PJ.visP {N:Nat} {x:List Int×List Int} (h:PJ N x) {i:Nat} (hi:i < x.1.length) {u v:Int} (hu:u=x.1[i]) (hv:0≤v∧v < N):PJ N (visP u x v):=by
 by_cases hm:v∈x.1
 ·rw [z361 hm];exact h
 ·rw [z362 hm]
  refine ⟨by simp [h.len],fun y hy=>?_,?_,fun k hk=>?_⟩
  ·rcases List.mem_append.1 hy with h1|h1
   ·exact h.inn y h1
   ·rw [List.mem_singleton.1 h1];exact hv
  ·rw [y82]
   exact ⟨h.nd,by simp,fun a ha b hb=>by rintro rfl;rw [List.mem_singleton.1 hb] at ha;exact hm ha⟩
  ·have hk' : k < x.1.length+1:=by simpa using hk
   have hl:=h.len
   by_cases hkl:k < x.1.length
   ·have e:(x.1++[v])[k]=x.1[k]:=List.getElem_append_left hkl
    dsimp only
    rw [e]
    have hne:v≠x.1[k]:=fun e=>hm (e ▸ y51 hkl)
    have hin:=h.inn _ (y51 hkl)
    have e2:(x.2.set v.toNat u).getD (x.1[k]).toNat 0=x.2.getD (x.1[k]).toNat 0:=by
     rw [y74,List.getElem?_set_ne (by omega),← y74]
    rw [e2]
    rcases h.pre k hkl with h1|⟨j,hj,h1,h2⟩
    ·exact .inl h1
    ·exact .inr ⟨j,by simp;omega,h1,by rw [h2,List.getElem_append_left hj]⟩
   ·obtain rfl:k=x.1.length:=by omega
    right
    refine ⟨i,by simp;omega,hi,?_⟩
    dsimp only
    rw [List.getElem_append_left hi]
    simp only [List.getElem_append_right (y59 _),Nat.sub_self,List.getElem_cons_zero]
    rw [z18 (by simp;omega),List.getElem_set_self,hu]
theorem PJ.visPs {N:Nat} {u:Int} (l:List Int):∀ {x:List Int×List Int} (_:PJ N x) {i:Nat} (hi:i < x.1.length) (_:u=x.1[i]) (_:InN N l),PJ N (visPs u x l)∧∃ h' : i < (Go.Gl.visPs u x l).1.length,(Go.Gl.visPs u x l).1[i]=u:=by
 induction l with
 |nil=>intro x h i hi hu hl;exact ⟨h,hi,hu.symm⟩
 |cons v l ih =>
  intro x h i hi hu hl
  have h1:=h.visP hi hu (hl v (by simp))
  obtain ⟨t,ht⟩:=z499 x.1 v
  have hf:=z650 u x v
  rw [ht] at hf
  have hi1:i < (Go.Gl.visP u x v).1.length:=by rw [hf,y54];omega
  exact ih h1 hi1 (by simp only [hf,List.getElem_append_left hi];exact hu) fun y hy=>hl y (by simp [hy])
def srS (rows:List (List Int)) (ini:List Int):Nat→List Int×List Int
 |0=>(ini,List.replicate rows.length (-1))
 |i+1=>if h:i < (srS rows ini i).1.length then visPs (srS rows ini i).1[i] (srS rows ini i) (rows.getD ((srS rows ini i).1[i]).toNat []) else srS rows ini i
def srQ (rows:List (List Int)) (ini:List Int):List Int:=(srS rows ini rows.length).1
def srP (rows:List (List Int)) (ini:List Int):List Int:=(srS rows ini rows.length).2
section
variable {rows:List (List Int)} {ini:List Int}
theorem z339 (hr:∀ r∈rows,InN rows.length r) (hi:InN rows.length ini) (hn:ini.Nodup) (i:Nat):PJ rows.length (srS rows ini i):=by
 induction i with
 |zero =>
  refine ⟨by simp [srS],hi,hn,fun k hk=>.inl ?_⟩
  have:=hi _ (y51 hk)
  show (List.replicate rows.length (-1)).getD _ 0=_
  rw [z18 (by simp;have:(srS rows ini 0).1[k]=ini[k]:=rfl;omega)]
  simp
 |succ i ih =>
  rw [srS];split
  ·rename_i h
   exact (PJ.visPs _ ih h rfl (z233 hr _)).1
  ·exact ih
theorem z1073 {l:List Int} : ∀ {out:List Int},(out++l).Nodup→z90 out l=out++l:=by
 induction l with
 |nil=>intro out _;simp [z90]
 |cons v l ih =>
  intro out h
  show z90 (z197 out v) l=_
  have hv:v ∉ out:=fun hm=>by
   rw [y82] at h
   exact h.2.2 v hm v (by simp) rfl
  have:z197 out v=out++[v]:=by unfold z197;rw [if_neg hv]
  rw [this,ih (by simpa using h)]
  simp
theorem z664 (hn:ini.Nodup) (i:Nat):(srS rows ini i).1=bfs rows ini i:=by
 induction i with
 |zero =>
  show ini=z90 [] ini
  rw [z1073 (by simpa using hn)];rfl
 |succ i ih =>
  rw [srS,bfs]
  by_cases h:i < (srS rows ini i).1.length
  ·have h2:i < (bfs rows ini i).length:=by rw [← ih];exact h
   rw [dif_pos h,dif_pos h2,z500]
   simp only [ih]
  ·have h2:¬ i < (bfs rows ini i).length:=by rw [← ih];exact h
   rw [dif_neg h,dif_neg h2,ih]
theorem z1104 {i j:Nat} (h:(srS rows ini i).1.length≤i) (hij:i≤j):srS rows ini j=srS rows ini i:=by
  induction j with
  | zero => obtain rfl : i = 0 := by omega
            rfl
  | succ j ih =>
    rcases y76 j i with h1|h1
    · obtain rfl:i=j+1:=by omega
      rfl
    · have e:=ih h1
      rw [srS,dif_neg (by rw [e];omega),e]
theorem z854 (hr:∀ r∈rows,InN rows.length r) (hi:InN rows.length ini) (hn:ini.Nodup) (i:Nat):(srS rows ini i).1.length≤rows.length :=
 z185 _ _ (z339 hr hi hn i).nd (z339 hr hi hn i).inn
theorem z1103 {i:Nat} (h:(srS rows ini i).1.length≤i) (hil:i≤rows.length):srS rows ini i=(srQ rows ini,srP rows ini):=(z1104 h hil).symm
end
def bkw (P:List Int):Nat→Int→List Int→List Int
 |0,v,tl=>v::tl
 |f+1,v,tl=>if 0≤P.getD v.toNat 0 then bkw P f (P.getD v.toNat 0) (v::tl) else v::tl
def BackOk (P:List Int):Nat→Int→Prop
 |0,v=>(0≤v∧v < P.length)∧P.getD v.toNat 0 < 0
 |f+1,v=>(0≤v∧v < P.length)∧(P.getD v.toNat 0 < 0∨BackOk P f (P.getD v.toNat 0))
theorem BackOk.up {P:List Int} : ∀ {f:Nat} {v:Int},BackOk P f v→BackOk P (f+1) v
 |0,_,h=>⟨h.1,.inl h.2⟩
 |_+1,_,h=>⟨h.1,h.2.imp id fun h=>h.up⟩
theorem BackOk.le {P:List Int} {f g:Nat} {v:Int} (h:BackOk P f v) (hg:f≤g):BackOk P g v:=by
  induction g with
  | zero => obtain rfl : f = 0 := by omega
            exact h
  | succ g ih =>
    rcases y76 g f with h1|h1
    · obtain rfl:f=g+1:=by omega
      exact h
    · exact (ih h1).up
theorem PJ.back {N:Nat} {x:List Int×List Int} (h:PJ N x):∀ (k:Nat) (hk:k < x.1.length),BackOk x.2 k x.1[k]:=by
 intro k
 induction k using Nat.strongRecOn with
 |ind k ih =>
  intro hk
  have hin:=h.inn _ (y51 hk)
  rw [← h.len] at hin
  rcases h.pre k hk with h1|⟨j,hj,h1,h2⟩
  ·exact (show BackOk x.2 0 x.1[k] from ⟨hin,by omega⟩).le (y60 _)
  ·have h3:=(ih j h1 hj).le (show j≤k - 1 by omega)
   rw [← h2] at h3
   generalize x.1[k]=v at *
   obtain ⟨m,rfl⟩:∃ m,k=m+1:=⟨k - 1,by omega⟩
   exact ⟨hin,.inr h3⟩
theorem z572 (P:List Int):∀ (f:Nat) (v:Int) (tl:List Int),(bkw P f v tl).length≤f+1+tl.length
 |0,v,tl=>by rw [bkw,y64];omega
 |f+1,v,tl=>by
  rw [bkw];split
  ·have:=z572 P f (P.getD v.toNat 0) (v::tl)
   simp only [y64] at this
   omega
  ·rw [y64];omega
end Go.Gl
namespace Go.Gl
def cycT (rows:List (List Int)) (P:List Int) (v:Int):List Int→List Int
 |[]=>[]
 |u::t=>if v∈rows.getD u.toNat [] then bkw P rows.length u [] else cycT rows P v t
def cycL (rows:List (List Int)) (v:Int):List Int:=if v∈rows.getD v.toNat [] then [v] else cycT rows (srP rows [v]) v (srQ rows [v])
def finT (rows:List (List Int)) (acc:List Bool) (P:List Int):List Int→Option (List Int×List Int)
 |[]=>none
 |u::t=>if acc.getD (u % acc.length).toNat false=true then (if 0 < (cycL rows u).length then some (bkw P rows.length u [],cycL rows u) else finT rows acc P t) else finT rows acc P t
def stL (l:List Int) (n:Nat):List Int:=l.map fun x=>x / n
def finS (rows:List (List Int)) (ini:List Int) (acc:List Bool):Option (List Int×List Int):=finT rows acc (srP rows ini) (srQ rows ini)
theorem z967 (rows:List (List Int)) (P:List Int) (v:Int):∀ l,(cycT rows P v l).length≤rows.length+1
 |[]=>y60 _
 |u::t=>by
  rw [cycT];split
  ·exact z572 _ _ _ _
  ·exact z967 rows P v t
theorem z711 (rows:List (List Int)) (v:Int):(cycL rows v).length≤rows.length+1:=by
 unfold cycL;split
 ·simp
 ·exact z967 _ _ _ _
theorem z571 (P:List Int):∀ (f:Nat) (v:Int) (tl:List Int),1≤(bkw P f v tl).length
 |0,v,tl=>by rw [bkw,y64];omega
 |f+1,v,tl=>by
  rw [bkw];split
  ·exact z571 P f _ _
  ·rw [y64];omega
theorem z968 {P:List Int} : ∀ (f:Nat) (v:Int) (tl:List Int),0≤v→(∀ x∈tl,0≤x)→∀ x∈bkw P f v tl,0≤x
 |0,v,tl,h0,h,x,hx=>by
  rw [bkw] at hx
  rcases List.mem_cons.1 hx with rfl|h1
  ·exact h0
  ·exact h x h1
 |f+1,v,tl,h0,h,x,hx=>by
  rw [bkw] at hx
  split at hx
  ·rename_i h2
   exact z968 f _ _ h2 (fun y hy=>by
    rcases List.mem_cons.1 hy with rfl|h1
    ·exact h0
    ·exact h y h1) x hx
  ·rcases List.mem_cons.1 hx with rfl|h1
   ·exact h0
   ·exact h x h1
theorem z1195 (rows:List (List Int)) (P:List Int) (v:Int):∀ l:List Int,(∀ x∈l,0≤x)→∀ x∈cycT rows P v l,0≤x
 |[],_,x,hx=>by cases hx
 |u::t,h,x,hx=>by
  rw [cycT] at hx
  split at hx
  ·exact z968 _ _ _ (h u (by simp)) (fun y hy=>by cases hy) x hx
  ·exact z1195 rows P v t (fun y hy=>h y (by simp [hy])) x hx
theorem z614 {rows:List (List Int)} {ini:List Int} (hr:∀ r∈rows,InN rows.length r) (hi:InN rows.length ini) (hn:ini.Nodup):InN rows.length (srQ rows ini):=(z339 hr hi hn _).inn
theorem z1106 {rows:List (List Int)} {ini:List Int} (hr:∀ r∈rows,InN rows.length r) (hi:InN rows.length ini) (hn:ini.Nodup):(srP rows ini).length=rows.length:=(z339 hr hi hn _).len
theorem z855 {rows:List (List Int)} {ini:List Int} (hr:∀ r∈rows,InN rows.length r) (hi:InN rows.length ini) (hn:ini.Nodup):(srQ rows ini).length≤rows.length:=z854 hr hi hn _
theorem z665 {rows:List (List Int)} {ini:List Int} (hr:∀ r∈rows,InN rows.length r) (hi:InN rows.length ini) (hn:ini.Nodup) (k:Nat) (hk:k < (srQ rows ini).length):BackOk (srP rows ini) rows.length (srQ rows ini)[k] :=
 ((z339 hr hi hn rows.length).back k hk).le (by have:=z855 hr hi hn;omega)
theorem z290 {N:Nat} {v:Int} (h:0≤v∧v < N):InN N [v]:=fun x hx=>by rw [List.mem_singleton.1 hx];exact h
theorem z1198 {rows:List (List Int)} (hr:∀ r∈rows,InN rows.length r) {v:Int} (hv:0≤v∧v < rows.length):∀ x∈cycL rows v,0≤x:=by
 unfold cycL;split
 ·intro x hx;rw [List.mem_singleton.1 hx];exact hv.1
 ·exact z1195 _ _ _ _ fun x hx=>(z614 hr (z290 hv) (by simp) x hx).1
theorem z929 {M u:Int} (hu:u≤M):∀ (l:List Int) (x:List Int×List Int),(∀ y∈x.2,y≤M)→∀ y∈(visPs u x l).2,y≤M
 |[],_,h=>h
 |v::l,x,h=>by
  refine z929 hu l (visP u x v) fun y hy=>?_
  unfold visP at hy
  split at hy
  ·exact h y hy
  ·rcases List.mem_or_eq_of_mem_set hy with h1|rfl
   ·exact h y h1
   ·exact hu
theorem z1102 {rows:List (List Int)} {ini:List Int} (hr:∀ r∈rows,InN rows.length r) (hi:InN rows.length ini) (hn:ini.Nodup) (i:Nat):∀ y∈(srS rows ini i).2,y≤rows.length:=by
 induction i with
 |zero =>
  intro y hy
  have:=List.eq_of_mem_replicate (show y∈List.replicate rows.length (-1) from hy)
  omega
 |succ i ih =>
  rw [srS];split
  ·rename_i h
   have:=(z339 hr hi hn i).inn _ (y51 h)
   exact z929 (by omega) _ _ ih
  ·exact ih
theorem z969 {P:List Int} {M:Int} (hP:∀ x∈P,x≤M):∀ (f:Nat) (v:Int) (tl:List Int),v≤M→0≤M→(∀ x∈tl,x≤M)→∀ x∈bkw P f v tl,x≤M
 |0,v,tl,h0,_,h,x,hx=>by
  rw [bkw] at hx
  rcases List.mem_cons.1 hx with rfl|h1
  ·exact h0
  ·exact h x h1
 |f+1,v,tl,h0,hM,h,x,hx=>by
  have h2:∀ y∈v::tl,y≤M:=fun y hy=>by
   rcases List.mem_cons.1 hy with rfl|h1
   ·exact h0
   ·exact h y h1
  rw [bkw] at hx
  split at hx
  ·refine z969 hP f _ _ ?_ hM h2 x hx
   by_cases hl:v.toNat < P.length
   ·rw [z18 hl];exact hP _ (y51 _)
   ·rw [y74,y75 (by omega)];exact hM
  ·exact h2 x hx
theorem z1196 (rows:List (List Int)) {P:List Int} {M:Int} (hP:∀ x∈P,x≤M) (hM:0≤M) (v:Int):∀ l:List Int,(∀ x∈l,x≤M)→∀ x∈cycT rows P v l,x≤M
 |[],_,x,hx=>by cases hx
 |u::t,h,x,hx=>by
  rw [cycT] at hx
  split at hx
  ·exact z969 hP _ _ _ (h u (by simp)) hM (fun y hy=>by cases hy) x hx
  ·exact z1196 rows hP hM v t (fun y hy=>h y (by simp [hy])) x hx
theorem z1199 {rows:List (List Int)} (hr:∀ r∈rows,InN rows.length r) {v:Int} (hv:0≤v∧v < rows.length):∀ x∈cycL rows v,x≤rows.length:=by
 unfold cycL;split
 ·intro x hx;rw [List.mem_singleton.1 hx];omega
 ·exact z1196 _ (z1102 hr (z290 hv) (by simp) _) (by omega) _ _ fun x hx=>by
   have:=z614 hr (z290 hv) (by simp) x hx
   omega
structure TS where
 num:Nat→Int
 low:Nat→Int
 part:Nat→Int
 stk:List Nat
 cnt:Nat
 prt:Nat
def z198 (u:Nat) (s:TS):TS:={ s with num:=upd s.num u (s.cnt+1),low:=upd s.low u (s.cnt+1),stk:=s.stk++[u],cnt:=s.cnt+1 }
def tLow (u:Nat) (m:Int) (s:TS):TS:={ s with low:=upd s.low u (min (s.low u) m) }
def tPop (u:Nat) (s:TS):TS:={ s with part:=fun x=>if x∈s.stk.dropWhile (· != u) then (s.prt:Int) else s.part x,stk:=s.stk.takeWhile (· != u),prt:=s.prt+1 }
def tEnd (u:Nat) (s:TS):TS:=if s.low u=s.num u then tPop u s else s
def z368 (rec:Nat→TS→TS) (u:Nat) (s:TS) (v:Int):TS:=if s.num v.toNat=0 then tLow u ((rec v.toNat s).low v.toNat) (rec v.toNat s) else if s.part v.toNat < 0 then tLow u (s.num v.toNat) s else s
def z229 (rows:List (List Int)):Nat→Nat→TS→TS
 |0,_,s=>s
 |f+1,u,s=>tEnd u ((rows.getD u []).foldl (z368 (z229 rows f) u) (z198 u s))
def z367:TS:=⟨fun _=>0,fun _=>0,fun _=>-1,[],0,0⟩
def tTop (rows:List (List Int)) (s:TS) (u:Nat):TS:=if s.num u=0 then z229 rows rows.length u s else s
def tAll (rows:List (List Int)):TS:=(List.range rows.length).foldl (tTop rows) z367
inductive RN (rows:List (List Int)) (x:Nat):Nat→Prop
 |refl:RN rows x x
 |step {y z:Nat} : RN rows x y→(z:Int)∈rows.getD y []→RN rows x z
theorem RN.trans {rows:List (List Int)} {x y z:Nat} (h:RN rows x y) (k:RN rows y z):RN rows x z:=by
 induction k with
 |refl=>exact h
 |step _ e ih=>exact .step ih e
theorem RN.edge {rows:List (List Int)} {x y:Nat} (h:(y:Int)∈rows.getD x []):RN rows x y:=.step .refl h
theorem RN.inv {rows:List (List Int)} {p:Nat→Prop} (hp:∀ x y:Nat,p x→(y:Int)∈rows.getD x []→p y) {x y:Nat} (h:RN rows x y) (hx:p x):p y:=by
 induction h with
 |refl=>exact hx
 |step _ e ih=>exact hp _ _ ih e
def unvN (N:Nat) (num:Nat→Int):Nat:=((List.range N).filter fun x=>decide (num x=0)).length
structure TI (rows:List (List Int)) (s:TS) (g:List Nat):Prop where
 srt:s.stk.Pairwise fun x y=>s.num x < s.num y
 stk:∀ x,x∈s.stk↔s.num x≠0∧s.part x=-1
 lt:∀ x,s.num x≠0→x < rows.length
 nn:∀ x,0≤s.num x∧s.num x≤s.cnt
 pw:∀ x,s.part x=-1∨(0≤s.part x∧s.part x < s.prt)
 unv:∀ x,s.num x=0→s.part x=-1
 gs:∀ x∈g,x∈s.stk
 blk:∀ x y:Nat,s.num x≠0→x ∉ g→(y:Int)∈rows.getD x []→s.num y≠0
 up:∀ x∈s.stk,∀ y∈s.stk,s.num x≤s.num y→RN rows x y
 gr:∀ y∈s.stk,∃ x∈g,s.num x≤s.num y∧RN rows y x
 cl:∀ x y:Nat,0≤s.part x→(y:Int)∈rows.getD x []→0≤s.part y
 sc:∀ x y:Nat,0≤s.part x→(s.part y=s.part x↔RN rows x y∧RN rows y x)
 ct:s.cnt+unvN rows.length s.num=rows.length
structure TP (rows:List (List Int)) (s s' : TS) (g:List Nat) (u:Nat):Prop where
 inv:TI rows s' g
 keep:∀ x,s.num x≠0→s'.num x=s.num x∧s'.low x=s.low x∧s'.part x=s.part x
 pref:∃ B,s'.stk=s.stk++B
 num:s'.num u=s.cnt+1
 cnt:s.cnt < s'.cnt
 prt:s'.prt+s.cnt≤s.prt+s'.cnt
 low:s'.low u=s'.num u∨∃ y∈s'.stk,s'.low u=s'.num y∧RN rows u y
 edge:∀ x∈s'.stk,x ∉ s.stk→∀ y∈s.stk,(y:Int)∈rows.getD x []→s'.low u≤s.num y
structure TL (rows:List (List Int)) (s0 s:TS) (g:List Nat) (u:Nat) (dn:List Int):Prop where
 inv:TI rows s (u::g)
 keep:∀ x,s0.num x≠0→s.num x=s0.num x∧s.low x=s0.low x∧s.part x=s0.part x
 pref:∃ B,s.stk=s0.stk++u::B
 num:s.num u=s0.cnt+1
 cnt:s0.cnt < s.cnt
 prt:s.prt+s0.cnt+1≤s0.prt+s.cnt
 low:∃ y∈s.stk,s.low u=s.num y∧RN rows u y
 lown:s.low u≤s.num u
 seen:∀ y∈dn,s.num y.toNat≠0
 edge1:∀ y∈dn,y.toNat∈s0.stk→s.low u≤s0.num y.toNat
 edge2:∀ x∈s.stk,x ∉ s0.stk→x≠u→∀ y∈s0.stk,(y:Int)∈rows.getD x []→s.low u≤s0.num y
section
variable {rows:List (List Int)} {s s' s0:TS} {g:List Nat} {u v:Nat}
theorem TI.nd (h:TI rows s g):s.stk.Nodup:=h.srt.imp fun {a b} hab he=>by rw [he] at hab;omega
theorem unv_upd {N:Nat} {num:Nat→Int} {u:Nat} {n:Int} (hu:u < N) (h0:num u=0) (hn:n≠0):unvN N (upd num u n)+1=unvN N num:=by
 unfold unvN
 induction N with
 |zero=>omega
 |succ N ih =>
  rw [y68,List.filter_append,List.filter_append,y54,y54]
  by_cases h:u=N
  ·subst h
   have e:(List.range u).filter (fun x=>decide (upd num u n x=0))=(List.range u).filter (fun x=>decide (num x=0)):=by
    refine List.filter_congr fun x hx=>?_
    have:=List.mem_range.1 hx
    rw [z47 _ _ (by omega)]
   rw [e]
   simp [z31,h0,hn]
  ·have:=ih (by omega)
   have e:([N].filter fun x=>decide (upd num u n x=0))=([N].filter fun x=>decide (num x=0)):=by
    simp only [List.filter_cons,List.filter_nil,z47 num n (show N≠u by omega)]
   rw [e]
   omega
theorem TI.enter (h:TI rows s g) (hu:s.num u=0) (hN:u < rows.length) (hg:∀ x∈g,RN rows x u):TI rows (z198 u s) (u::g):=by
 have hus:u ∉ s.stk:=fun hm=>((h.stk u).1 hm).1 hu
 have hne:∀ x∈s.stk,x≠u:=fun x hx e=>hus (e ▸ hx)
 have hnum:∀ x,x≠u→(z198 u s).num x=s.num x:=fun x hx=>z47 _ _ hx
 have hnu:(z198 u s).num u=s.cnt+1:=z31 _ _ _
 have hst:∀ x,x∈(z198 u s).stk↔x∈s.stk∨x=u:=fun x=>by simp [z198]
 have hnz:∀ x,s.num x≠0→(z198 u s).num x≠0:=fun x hx=>by
  by_cases e:x=u
  ·subst e;exact absurd hu hx
  ·rw [hnum x e];exact hx
 refine ⟨?_,fun x=>?_,fun x hx=>?_,fun x=>?_,h.pw,fun x hx=>?_,fun x hx=>?_,fun x y hx hxg he=>?_,fun x hx y hy hxy=>?_,fun y hy=>?_,h.cl,h.sc,?_⟩
 ·show (s.stk++[u]).Pairwise _
  rw [List.pairwise_append]
  refine ⟨h.srt.imp_of_mem fun ha hb hab=>by rw [hnum _ (hne _ ha),hnum _ (hne _ hb)];exact hab,by simp,fun a ha b hb=>?_⟩
  rw [List.mem_singleton.1 hb,hnum _ (hne a ha),hnu]
  have:=(h.nn a).2
  omega
 ·rw [hst]
  by_cases e:x=u
  ·subst e
   have:=(h.nn x).2
   simp only [or_true,true_iff]
   exact ⟨by rw [hnu];omega,h.unv x hu⟩
  ·rw [hnum x e]
   simp only [e,or_false]
   exact h.stk x
 ·by_cases e:x=u
  ·rw [e];exact hN
  ·rw [hnum x e] at hx;exact h.lt x hx
 ·show 0≤(z198 u s).num x∧(z198 u s).num x≤((s.cnt+1:Nat):Int)
  by_cases e:x=u
  ·rw [e,hnu];omega
  ·rw [hnum x e];have:=h.nn x;omega
 ·by_cases e:x=u
  ·subst e;exact h.unv x hu
  ·rw [hnum x e] at hx;exact h.unv x hx
 ·rw [hst]
  rcases List.mem_cons.1 hx with e|hx
  ·exact .inr e
  ·exact .inl (h.gs x hx)
 ·have e:x≠u:=fun e=>hxg (by simp [e])
  rw [hnum x e] at hx
  exact hnz y (h.blk x y hx (fun hm=>hxg (by simp [hm])) he)
 ·rcases (hst x).1 hx with hx1|rfl
  ·rcases (hst y).1 hy with hy1|rfl
   ·rw [hnum _ (hne x hx1),hnum _ (hne y hy1)] at hxy
    exact h.up x hx1 y hy1 hxy
   ·obtain ⟨z,hz,_,hr⟩:=h.gr x hx1
    exact hr.trans (hg z hz)
  ·rcases (hst y).1 hy with hy|rfl
   ·rw [hnu,hnum _ (hne y hy)] at hxy
    have:=(h.nn y).2
    omega
   ·exact .refl
 ·rcases (hst y).1 hy with hy|rfl
  ·obtain ⟨z,hz,h1,hr⟩:=h.gr y hy
   exact ⟨z,by simp [hz],by rw [hnum _ (hne y hy),hnum _ (hne z (h.gs z hz))];exact h1,hr⟩
  ·exact ⟨y,by simp,Int.le_refl _,.refl⟩
 ·have:=unv_upd (num:=s.num) (n:=s.cnt+1) hN hu (by omega)
  have h2:=h.ct
  show s.cnt+1+unvN rows.length (upd s.num u (s.cnt+1))=_
  omega
theorem TI.low {m:Int} (h:TI rows s g):TI rows (tLow u m s) g:=⟨h.srt,h.stk,h.lt,h.nn,h.pw,h.unv,h.gs,h.blk,h.up,h.gr,h.cl,h.sc,h.ct⟩
theorem TL.start (h:TI rows s g) (hu:s.num u=0) (hN:u < rows.length) (hg:∀ x∈g,RN rows x u):TL rows s (z198 u s) g u []:=by
 have hne:∀ x,s.num x≠0→x≠u:=fun x hx e=>hx (e ▸ hu)
 refine ⟨h.enter hu hN hg,fun x hx=>⟨z47 _ _ (hne x hx),z47 _ _ (hne x hx),rfl⟩,⟨[],rfl⟩,z31 _ _ _,Nat.lt_succ_self _,?_,⟨u,by simp [z198],?_,.refl⟩,?_,by simp,by simp,fun x hx hx2 hxu=>?_⟩
 ·show s.prt+s.cnt+1≤s.prt+(s.cnt+1);omega
 ·show upd s.low u _ u=upd s.num u _ u;rw [z31,z31]
 ·show upd s.low u _ u≤upd s.num u _ u;rw [z31,z31];exact Int.le_refl _
 ·have:x∈s.stk++[u]:=hx
  rcases List.mem_append.1 this with h1|h1
  ·exact absurd h1 hx2
  ·exact absurd (List.mem_singleton.1 h1) hxu
theorem z450 (u:Nat) (m:Int) (s:TS):(tLow u m s).low u=min (s.low u) m:=z31 _ _ _
theorem low_ne {u x:Nat} (m:Int) (s:TS) (h:x≠u):(tLow u m s).low x=s.low x:=z47 _ _ h
theorem TL.edge {dn : List Int} {rec : Nat → TS → TS} (h : TL rows s0 s g u dn) (h0 : TI rows s0 g) (hu0 : s0.num u = 0) {v : Int} (hv : v ∈ rows.getD u []) (hvN : 0 ≤ v ∧ v < rows.length)
    (hrec:s.num v.toNat=0→TP rows s (rec v.toNat s) (u::g) v.toNat):TL rows s0 (z368 rec u s v) g u (dn++[v]):=by
  obtain ⟨w,rfl⟩:∃ w:Nat,v=w:=⟨v.toNat,by omega⟩
  simp only [y83] at hrec
  have hs0:∀ x∈s0.stk,x∈s.stk:=fun x hx=>by obtain ⟨B,e⟩:=h.pref;rw [e];simp [hx]
  have hnu:s.num u≠0:=by rw [h.num];omega
  unfold z368
  simp only [y83]
  by_cases hw:s.num w=0
  · rw [if_pos hw]
    have hp:=hrec hw
    generalize rec w s=s' at *
    obtain ⟨B,hB⟩:=h.pref
    obtain ⟨B',hB'⟩:=hp.pref
    have hls:∀ x∈s.stk,x∈s'.stk:=fun x hx=>by rw [hB'];simp [hx]
    have hku:=hp.keep u hnu
    refine ⟨hp.inv.low,fun x hx=>?_,⟨B++B',?_⟩,?_,?_,?_,?_,?_,fun y hy=>?_,fun y hy hy2=>?_,fun x hx hx2 hxu y hy he=>?_⟩
    · have hxu:x≠u:=fun e=>hx (e ▸ hu0)
      obtain ⟨a1,a2,a3⟩:=h.keep x hx
      obtain ⟨b1,b2,b3⟩:=hp.keep x (by rw [a1];exact hx)
      exact ⟨b1.trans a1,by rw [low_ne _ _ hxu,b2,a2],b3.trans a3⟩
    · show s'.stk=_;rw [hB',hB];simp
    · show s'.num u=_;rw [hku.1,h.num]
    · have:=h.cnt;have:=hp.cnt;show s0.cnt < s'.cnt;omega
    · have:=h.prt;have:=hp.prt;show s'.prt+s0.cnt+1≤s0.prt+s'.cnt;omega
    · rw [z450]
      obtain ⟨y,hy,h1,h2⟩:=h.low
      have hyz:s.num y≠0:=((h.inv.stk y).1 hy).1
      have hyk:=hp.keep y hyz
      rcases Int.le_total (s'.low u) (s'.low w) with hle|hle
      · exact ⟨y,hls y hy,by rw [Int.min_eq_left hle,hku.2.1,h1];exact hyk.1.symm,h2⟩
      · rcases hp.low with h3|⟨z,hz,h3,h4⟩
        · have h5:=hp.num
          have h6:=(h.inv.nn y).2
          refine ⟨y,hls y hy,?_,h2⟩
          show _=s'.num y
          rw [hyk.1,← h1,← hku.2.1]
          have:s'.low u=s.num y:=by rw [hku.2.1,h1]
          omega
        · exact ⟨z,hz,by rw [Int.min_eq_right hle];exact h3,(RN.edge hv).trans h4⟩
    · rw [z450]
      have:=h.lown
      have e:(tLow u (s'.low w) s').num u=s.num u:=hku.1
      rw [e,hku.2.1];omega
    · rcases List.mem_append.1 hy with hy|hy
      · have h1:=h.seen y hy
        show s'.num _≠0
        rw [(hp.keep _ h1).1];exact h1
      · rw [List.mem_singleton.1 hy]
        show s'.num w≠0
        rw [hp.num];omega
    · rw [z450]
      rcases List.mem_append.1 hy with hy|hy
      · have:=h.edge1 y hy hy2
        rw [hku.2.1];omega
      · rw [List.mem_singleton.1 hy] at hy2
        have:=((h.inv.stk w).1 (hs0 w hy2)).1
        exact absurd hw this
    · rw [z450]
      by_cases hxs:x∈s.stk
      · have:=h.edge2 x hxs hx2 hxu y hy he
        rw [hku.2.1];omega
      · have h1:=hp.edge x hx hxs y (hs0 y hy) he
        have h2:=(h.keep y ((h0.stk y).1 hy).1).1
        omega
  · rw [if_neg hw]
    have base:∀ m:Int,(∃ y∈s.stk,m=s.num y∧RN rows u y)→(w∈s0.stk→m≤s0.num w)→TL rows s0 (tLow u m s) g u (dn++[(w:Int)]):=by
      intro m hm hmw
      refine ⟨h.inv.low,fun x hx=>?_,h.pref,h.num,h.cnt,h.prt,?_,?_,fun y hy=>?_,fun y hy hy2=>?_,fun x hx hx2 hxu y hy he=>?_⟩
      · have hxu:x≠u:=fun e=>hx (e ▸ hu0)
        obtain ⟨a1,a2,a3⟩:=h.keep x hx
        exact ⟨a1,by rw [low_ne _ _ hxu,a2],a3⟩
      · rw [z450]
        rcases Int.le_total (s.low u) m with hle|hle
        · rw [Int.min_eq_left hle];exact h.low
        · rw [Int.min_eq_right hle];exact hm
      · rw [z450];have:=h.lown;show _≤s.num u;omega
      · rcases List.mem_append.1 hy with hy|hy
        · exact h.seen y hy
        · rw [List.mem_singleton.1 hy];exact hw
      · rw [z450]
        rcases List.mem_append.1 hy with hy|hy
        · have:=h.edge1 y hy hy2;omega
        · rw [List.mem_singleton.1 hy] at hy2 ⊢
          have:=hmw hy2
          simp only [y83];omega
      · rw [z450];have:=h.edge2 x hx hx2 hxu y hy he;omega
    by_cases hpt:s.part w < 0
    · rw [if_pos hpt]
      have hws:w∈s.stk:=(h.inv.stk w).2 ⟨hw,by have:=h.inv.pw w;omega⟩
      refine base _ ⟨w,hws,rfl,.edge hv⟩ fun hm=>?_
      rw [(h.keep w ((h0.stk w).1 hm).1).1]
      exact Int.le_refl _
    · rw [if_neg hpt]
      refine ⟨h.inv,h.keep,h.pref,h.num,h.cnt,h.prt,h.low,h.lown,fun y hy=>?_,fun y hy hy2=>?_,h.edge2⟩
      · rcases List.mem_append.1 hy with hy|hy
        · exact h.seen y hy
        · rw [List.mem_singleton.1 hy];exact hw
      · rcases List.mem_append.1 hy with hy|hy
        · exact h.edge1 y hy hy2
        · rw [List.mem_singleton.1 hy] at hy2
          have h1:=((h0.stk w).1 hy2)
          have h2:=(h.keep w h1.1).2.2
          have h3:=h1.2
          omega
theorem z937 {A B:List Nat} {u:Nat} (h:u ∉ A):(A++u::B).takeWhile (· != u)=A∧(A++u::B).dropWhile (· != u)=u::B:=by
 induction A with
 |nil=>simp
 |cons a A ih =>
  have hau:a≠u:=fun e=>h (by simp [e])
  obtain ⟨h1,h2⟩:=ih fun hm=>h (by simp [hm])
  have hb:(a != u)=true:=by simpa using hau
  simp only [List.cons_append,List.takeWhile_cons,List.dropWhile_cons,hb,if_true,h1,h2,and_self]
theorem TL.fin (h:TL rows s0 s g u (rows.getD u [])) (h0:TI rows s0 g) (hu0:s0.num u=0):TP rows s0 (tEnd u s) g u:=by
 obtain ⟨B,hB⟩:=h.pref
 have hs0:∀ x∈s0.stk,x∈s.stk:=fun x hx=>by rw [hB];simp [hx]
 have hu_s0:u ∉ s0.stk:=fun hm=>((h0.stk u).1 hm).1 hu0
 have hus:u∈s.stk:=by rw [hB];simp
 have hk:∀ x∈s0.stk,s.num x=s0.num x:=fun x hx=>(h.keep x ((h0.stk x).1 hx).1).1
 have hsrt:=h.inv.srt
 rw [hB,List.pairwise_append,List.pairwise_cons] at hsrt
 have hblk:∀ x y:Nat,s.num x≠0→x ∉ g→(y:Int)∈rows.getD x []→s.num y≠0:=fun x y hx hxg he=>by
  by_cases e:x=u
  ·subst e;have:=h.seen _ he;simpa using this
  ·exact h.inv.blk x y hx (by simp [e,hxg]) he
 have hnd:=h.inv.nd
 rw [hB,y82] at hnd
 have hedge:∀ x∈s.stk,x ∉ s0.stk→∀ y∈s0.stk,(y:Int)∈rows.getD x []→s.low u≤s0.num y:=fun x hx hx2 y hy he=>by
  by_cases e:x=u
  ·subst e;have:=h.edge1 _ he (by simpa using hy);simpa using this
  ·exact h.edge2 x hx hx2 e y hy he
 unfold tEnd
 by_cases hl:s.low u=s.num u
 ·rw [if_pos hl]
  have hcut:=z937 (A:=s0.stk) (B:=B) hu_s0
  have hstk:(tPop u s).stk=s0.stk:=by show s.stk.takeWhile _=_;rw [hB];exact hcut.1
  have hpart:∀ x,(tPop u s).part x=if x∈u::B then (s.prt:Int) else s.part x:=fun x=>by
   show (if x∈s.stk.dropWhile _ then _ else _)=_
   rw [hB,hcut.2]
  have hnum:∀ x,(tPop u s).num x=s.num x:=fun _=>rfl
  have hBs:∀ x∈u::B,x∈s.stk∧x ∉ s0.stk:=fun x hx=>⟨by rw [hB];exact List.mem_append_right _ hx,fun hm=>hnd.2.2 x hm x hx rfl⟩
  have hBp:∀ x∈u::B,s.part x=-1:=fun x hx=>((h.inv.stk x).1 (hBs x hx).1).2
  have hgB:∀ x∈u::B,x ∉ g:=fun x hx hm=>(hBs x hx).2 (h0.gs x hm)
  have h0B:∀ x∈s0.stk,x ∉ u::B:=fun x hx hm=>(hBs x hm).2 hx
  have hcl:∀ x y:Nat,0≤(tPop u s).part x→(y:Int)∈rows.getD x []→0≤(tPop u s).part y:=by
   intro x y hx he
   rw [hpart] at hx ⊢
   by_cases hyB:y∈u::B
   ·rw [if_pos hyB];omega
   ·rw [if_neg hyB]
    by_cases hxB:x∈u::B
    ·have hxs:=(hBs x hxB).1
     have hy:=hblk x y ((h.inv.stk x).1 hxs).1 (hgB x hxB) he
     rcases h.inv.pw y with h1|h1
     ·have hys:y∈s.stk:=(h.inv.stk y).2 ⟨hy,h1⟩
      rw [hB] at hys
      rcases List.mem_append.1 hys with h2|h2
      ·have h3:=hedge x hxs (hBs x hxB).2 y h2 he
       have h4:=hsrt.2.2 y h2 u (by simp)
       rw [hk y h2] at h4
       omega
      ·exact absurd h2 hyB
     ·exact h1.1
    ·rw [if_neg hxB] at hx
     exact h.inv.cl x y hx he
  have hreach:∀ x y:Nat,0≤(tPop u s).part x→RN rows x y→0≤(tPop u s).part y:=fun x y hx hr=>hr.inv hcl hx
  have hreach0:∀ x y:Nat,0≤s.part x→RN rows x y→0≤s.part y:=fun x y hx hr=>hr.inv h.inv.cl hx
  have hdown:∀ z∈u::B,RN rows u z:=fun z hz=>by
   refine h.inv.up u hus z (hBs z hz).1 ?_
   rcases List.mem_cons.1 hz with rfl|hz
   ·exact Int.le_refl _
   ·have:=hsrt.2.1.1 z hz;omega
  have hback:∀ z∈u::B,RN rows z u:=fun z hz=>by
   obtain ⟨x,hx,_,hr⟩:=h.inv.gr z (hBs z hz).1
   rcases List.mem_cons.1 hx with rfl|hx
   ·exact hr
   ·have h1:=hreach z x (by rw [hpart,if_pos hz];omega) hr
    have hx0:=h0.gs x hx
    rw [hpart,if_neg (h0B x hx0)] at h1
    have:=((h.inv.stk x).1 (hs0 x hx0)).2
    omega
  refine ⟨⟨?_,fun x=>?_,h.inv.lt,h.inv.nn,fun x=>?_,fun x hx=>?_,fun x hx=>?_,hblk,fun x hx y hy hxy=>?_,fun y hy=>?_,hcl,fun x y hx=>?_,h.inv.ct⟩,fun x hx=>?_,⟨[],by rw [hstk];simp⟩,h.num,h.cnt,?_,.inl hl,fun x hx hx2=>absurd (hstk ▸ hx) hx2⟩
  ·rw [hstk];exact hsrt.1
  ·rw [hstk,hpart]
   constructor
   ·intro hx
    rw [if_neg (h0B x hx)]
    exact (h.inv.stk x).1 (hs0 x hx)
   ·rintro ⟨h1,h2⟩
    split at h2
    ·omega
    ·rename_i hxB
     have:=(h.inv.stk x).2 ⟨h1,h2⟩
     rw [hB] at this
     rcases List.mem_append.1 this with h3|h3
     ·exact h3
     ·exact absurd h3 hxB
  ·rw [hpart]
   show _∨_∧_ < ((s.prt+1:Nat):Int)
   split
   ·right;omega
   ·have:=h.inv.pw x;omega
  ·rw [hpart,if_neg]
   ·exact h.inv.unv x hx
   ·intro hm;exact ((h.inv.stk x).1 (hBs x hm).1).1 hx
  ·rw [hstk];exact h0.gs x hx
  ·rw [hstk] at hx hy;exact h.inv.up x (hs0 x hx) y (hs0 y hy) hxy
  ·rw [hstk] at hy
   obtain ⟨x,hx,h1,h2⟩:=h0.gr y hy
   exact ⟨x,hx,by rw [hnum,hnum,hk y hy,hk x (h0.gs x hx)];exact h1,h2⟩
  ·rw [hpart x,hpart y]
   rw [hpart] at hx
   by_cases hxB:x∈u::B
   ·rw [if_pos hxB]
    by_cases hyB:y∈u::B
    ·rw [if_pos hyB]
     exact ⟨fun _=>⟨(hback x hxB).trans (hdown y hyB),(hback y hyB).trans (hdown x hxB)⟩,fun _=>rfl⟩
    ·rw [if_neg hyB]
     constructor
     ·intro e;have:=h.inv.pw y;omega
     ·rintro ⟨r1,r2⟩
      have h1:=hreach x y (by rw [hpart,if_pos hxB];omega) r1
      rw [hpart,if_neg hyB] at h1
      have h2:=hreach0 y x h1 r2
      have:=hBp x hxB
      omega
   ·rw [if_neg hxB] at hx ⊢
    by_cases hyB:y∈u::B
    ·rw [if_pos hyB]
     constructor
     ·intro e;have:=h.inv.pw x;omega
     ·rintro ⟨r1,_⟩
      have h2:=hreach0 x y hx r1
      have:=hBp y hyB
      omega
    ·rw [if_neg hyB];exact h.inv.sc x y hx
  ·obtain ⟨a1,a2,a3⟩:=h.keep x hx
   refine ⟨a1,a2,?_⟩
   rw [hpart,if_neg]
   ·exact a3
   ·intro hm
    have h1:=hBp x hm
    exact (hBs x hm).2 ((h0.stk x).2 ⟨hx,by rw [← a3];exact h1⟩)
  ·have:=h.prt;show s.prt+1+s0.cnt≤s0.prt+s.cnt;omega
 ·rw [if_neg hl]
  have hlt:s.low u < s.num u:=by have:=h.lown;omega
  refine ⟨⟨h.inv.srt,h.inv.stk,h.inv.lt,h.inv.nn,h.inv.pw,h.inv.unv,fun x hx=>h.inv.gs x (by simp [hx]),hblk,h.inv.up,fun y hy=>?_,h.inv.cl,h.inv.sc,h.inv.ct⟩,h.keep,⟨u::B,hB⟩,h.num,h.cnt,by have:=h.prt;omega,.inr h.low,hedge⟩
  obtain ⟨x,hx,h1,h2⟩:=h.inv.gr y hy
  rcases List.mem_cons.1 hx with rfl|hx
  ·obtain ⟨z,hz,h3,h4⟩:=h.low
   have hz0:z∈s0.stk:=by
    rw [hB] at hz
    rcases List.mem_append.1 hz with h5|h5
    ·exact h5
    ·rcases List.mem_cons.1 h5 with rfl|h5
     ·omega
     ·have:=hsrt.2.1.1 z h5;omega
   obtain ⟨t,ht,h5,h6⟩:=h0.gr z hz0
   refine ⟨t,ht,?_,(h2.trans h4).trans h6⟩
   rw [hk t (h0.gs t ht)]
   have:=hk z hz0
   omega
  ·exact ⟨x,hx,h1,h2⟩
end
theorem z1087 {N:Nat} {num:Nat→Int} {u:Nat} (hu:u < N) (h0:num u=0):0 < unvN N num:=by
 unfold unvN
 exact List.length_pos_iff.2 (List.ne_nil_of_mem (List.mem_filter.2 ⟨List.mem_range.2 hu,by simpa using h0⟩))
theorem z649 {rows:List (List Int)} (hr:∀ r∈rows,InN rows.length r):∀ (f:Nat) (s:TS) (g:List Nat) (u:Nat),unvN rows.length s.num≤f→TI rows s g→s.num u=0→u < rows.length→(∀ x∈g,RN rows x u)→TP rows s (z229 rows f u s) g u
 |0,s,g,u,hf,_,h0,hN,_=>by have:=z1087 (num:=s.num) hN h0;omega
 |f+1,s,g,u,hf,h,h0,hN,hg=>by
  have fold:∀ (l dn:List Int) (t:TS),(∀ v∈l,v∈rows.getD u [])→TL rows s t g u dn→TL rows s (l.foldl (z368 (z229 rows f) u) t) g u (dn++l):=by
   intro l
   induction l with
   |nil=>intro dn t _ ht;simpa using ht
   |cons v l ih =>
    intro dn t hl ht
    have hv:=hl v (by simp)
    have hvN:=z233 hr u v hv
    have:=ht.edge h h0 hv hvN (rec:=z229 rows f) fun hv0=>by
     refine z649 hr f t (u::g) v.toNat ?_ ht.inv hv0 (by omega) fun x hx=>?_
     ·have h1:=ht.cnt;have h2:=ht.inv.ct;have h3:=h.ct;omega
     ·have he:RN rows u v.toNat:=.edge (by rw [Int.toNat_of_nonneg hvN.1];exact hv)
      rcases List.mem_cons.1 hx with rfl|hx
      ·exact he
      ·exact (hg x hx).trans he
    have h2:=ih (dn++[v]) _ (fun y hy=>hl y (by simp [hy])) this
    rw [List.append_assoc] at h2
    exact h2
  have h1:=fold (rows.getD u []) [] _ (fun _ h=>h) (TL.start h h0 hN hg)
  rw [List.nil_append] at h1
  exact h1.fin h h0
theorem z1231 {rows : List (List Int)} (hr : ∀ r ∈ rows, InN rows.length r) {f : Nat} {s : TS} {g : List Nat} {u : Nat} (hf : unvN rows.length s.num ≤ f + 1) (h : TI rows s g) (h0 : s.num u = 0) (hN : u < rows.length) (hg : ∀ x ∈ g, RN rows x u) :
    ∀ k,k≤(rows.getD u []).length→TL rows s (((rows.getD u []).take k).foldl (z368 (z229 rows f) u) (z198 u s)) g u ((rows.getD u []).take k)
  | 0,_=>TL.start h h0 hN hg
  | k+1,hk=>by
    have ht:=z1231 hr hf h h0 hN hg k (by omega)
    have hv:(rows.getD u [])[k]∈rows.getD u []:=y51 _
    have hvN:=z233 hr u _ hv
    rw [y57 hk,y69]
    refine ht.edge h h0 hv hvN fun hv0=>?_
    refine z649 hr f _ (u::g) _ ?_ ht.inv hv0 (by omega) fun x hx=>?_
    · have h1:=ht.cnt;have h2:=ht.inv.ct;have h3:=h.ct;omega
    · have he:RN rows u ((rows.getD u [])[k]).toNat:=.edge (by rw [Int.toNat_of_nonneg hvN.1];exact hv)
      rcases List.mem_cons.1 hx with rfl|hx
      · exact he
      · exact (hg x hx).trans he
theorem TI.init (rows:List (List Int)):TI rows z367 []:=by
 refine ⟨.nil,fun x=>by simp [z367],fun x hx=>absurd rfl hx,fun x=>by simp [z367],fun x=>.inl rfl,fun _ _=>rfl,by simp,fun x y hx=>absurd rfl hx,by simp [z367],by simp [z367],fun x y hx=>?_,fun x y hx=>?_,?_⟩
 ·have:(0:Int)≤-1:=hx;omega
 ·have:(0:Int)≤-1:=hx;omega
 ·show 0+unvN rows.length (fun _=>0)=_
  unfold unvN
  rw [List.filter_eq_self.2 (by simp)]
  simp
structure TT (rows:List (List Int)) (s:TS) (k:Nat):Prop where
 inv:TI rows s []
 vis:∀ x,x < k→s.num x≠0
 prt:s.prt≤s.cnt
theorem TT.step {rows:List (List Int)} (hr:∀ r∈rows,InN rows.length r) {s:TS} {k:Nat} (hk:k < rows.length) (h:TT rows s k):TT rows (tTop rows s k) (k+1):=by
 unfold tTop
 by_cases h0:s.num k=0
 ·rw [if_pos h0]
  have hp:=z649 hr rows.length s [] k (by have:=h.inv.ct;omega) h.inv h0 hk (by simp)
  refine ⟨hp.inv,fun x hx=>?_,?_⟩
  ·by_cases e:x=k
   ·subst e;rw [hp.num];omega
   ·have h1:=h.vis x (by omega)
    rw [(hp.keep x h1).1];exact h1
  ·have:=hp.prt;have:=h.prt;omega
 ·rw [if_neg h0]
  refine ⟨h.inv,fun x hx=>?_,h.prt⟩
  by_cases e:x=k
  ·subst e;exact h0
  ·exact h.vis x (by omega)
theorem z660 {rows:List (List Int)} (hr:∀ r∈rows,InN rows.length r):∀ k,k≤rows.length→TT rows ((List.range k).foldl (tTop rows) z367) k
 |0,_=>⟨TI.init rows,fun x hx=>by omega,y59 _⟩
 |k+1,hk=>by
  rw [y68,y69]
  exact (z660 hr k (by omega)).step hr (by omega)
theorem tAll_ok {rows:List (List Int)} (hr:∀ r∈rows,InN rows.length r):(∀ x,x < rows.length→0≤(tAll rows).part x∧(tAll rows).part x < rows.length)∧∀ x y,x < rows.length→((tAll rows).part y=(tAll rows).part x↔RN rows x y∧RN rows y x):=by
 have h:=z660 hr rows.length (y59 _)
 have hp:∀ x,x < rows.length→0≤(tAll rows).part x:=fun x hx=>by
  have h1:=h.vis x hx
  rcases h.inv.pw x with h2|h2
  ·obtain ⟨z,hz,_⟩:=h.inv.gr x ((h.inv.stk x).2 ⟨h1,h2⟩)
   cases hz
  ·exact h2.1
 refine ⟨fun x hx=>⟨hp x hx,?_⟩,fun x y hx=>h.inv.sc x y (hp x hx)⟩
 have h2:=h.inv.pw x
 have h3:=h.prt
 have h4:=h.inv.ct
 have h5:=hp x hx
 have h6:(tAll rows).part x < (tAll rows).prt:=by
  rcases h2 with h2|h2
  ·have:(tAll rows).part x=-1:=h2
   omega
  ·exact h2.2
 have h7:(tAll rows).prt≤(tAll rows).cnt:=h3
 have h8:(tAll rows).cnt+unvN rows.length (tAll rows).num=rows.length:=h4
 omega
theorem RN.rp {rows:List (List Int)} {x y:Nat} (h:RN rows x y):RP rows [(x:Int)] y:=by
 induction h with
 |refl=>exact .base (by simp)
 |step _ e ih=>exact .step ih (by simpa using e)
theorem RP.rn {rows:List (List Int)} (hr:∀ r∈rows,InN rows.length r) {x:Nat} {y:Int} (h:RP rows [(x:Int)] y):0≤y∧RN rows x y.toNat:=by
 induction h with
 |base hb=>rw [List.mem_singleton.1 hb];exact ⟨by omega,.refl⟩
 |step _ e ih =>
  have:=z233 hr _ _ e
  exact ⟨this.1,.step ih.2 (by rw [Int.toNat_of_nonneg this.1];exact e)⟩
theorem cyc_iff {rows:List (List Int)} (hr:∀ r∈rows,InN rows.length r) {x:Nat} (hx:x < rows.length):Cyc rows x↔(x:Int)∈rows.getD x []∨∃ y,y < rows.length∧y≠x∧RN rows x y∧RN rows y x:=by
 constructor
 ·rintro ⟨y,hy,h⟩
  have hyN:=z233 hr _ _ hy
  obtain ⟨w,rfl⟩:∃ w:Nat,y=w:=⟨y.toNat,by omega⟩
  have h2:=(RP.rn hr h).2
  simp only [y83] at h2 hy
  by_cases e:w=x
  ·subst e;exact .inl hy
  ·exact .inr ⟨w,by omega,e,.edge hy,h2⟩
 ·rintro (h|⟨y,hy,hne,h1,h2⟩)
  ·exact ⟨x,by simpa using h,.base (by simp)⟩
  ·have key:∀ z,RN rows x z→z=x∨∃ w:Nat,(w:Int)∈rows.getD x []∧RN rows w z:=by
    intro z hz
    induction hz with
    |refl=>exact .inl rfl
    |step _ e ih =>
     rcases ih with rfl|⟨w,hw,ih⟩
     ·exact .inr ⟨_,e,.refl⟩
     ·exact .inr ⟨w,hw,.step ih e⟩
   rcases key y h1 with h3|⟨w,hw,h3⟩
   ·exact absurd h3 hne
   ·exact ⟨w,by simpa using hw,(h3.trans h2).rp⟩
end Go.Gl
namespace Go.Gl
def z242:Nat→List Int→List (List Int×Int)
 |_,[]=>[]
 |k,p::L=>([p],(k:Int))::z242 (k+1) L
theorem z564:∀ (k:Nat) (L:List Int),(z242 k L).length=L.length
 |_,[]=>rfl
 |k,p::L=>by rw [z242,y64,z564,y64]
theorem z537 (p:Int):∀ (k:Nat) (L:List Int),mget (z242 k L) [p]=if p∈L then some ((k+L.idxOf p:Nat):Int) else none
 |_,[]=>rfl
 |k,q::L=>by
  rw [z242,mget,z537 p (k+1) L]
  by_cases h:p=q
  ·subst h;simp
  ·have h2:¬ [p]=[q]:=by simpa using h
   have h3:¬ q=p:=fun e=>h e.symm
   rw [if_neg h2]
   simp only [List.mem_cons,h,false_or,List.idxOf_cons]
   have h4:(q == p)=false:=by simpa using h3
   rw [h4]
   by_cases hm:p∈L
   ·rw [if_pos hm,if_pos hm]
    simp only [cond_false]
    congr 2;omega
   ·rw [if_neg hm,if_neg hm]
theorem z769 {p:Int} (n:Int):∀ (k:Nat) (L:List Int),p ∉ L→mput (z242 k L) [p] n=z242 k L++[([p],n)]
 |_,[],_=>rfl
 |k,q::L,h=>by
  have h1:p≠q:=fun e=>h (by simp [e])
  rw [z242,mput,if_neg (by simpa using h1),z769 n (k+1) L (fun hm=>h (by simp [hm]))];rfl
theorem z807 (p:Int):∀ (k:Nat) (L:List Int),z242 k (L++[p])=z242 k L++[([p],((k+L.length:Nat):Int))]
 |k,[]=>rfl
 |k,q::L=>by
  rw [List.cons_append,z242,z807 p (k+1) L,z242,List.cons_append,y64]
  congr 4;omega
def metL (P:List Int) (i:Nat):List Int:=z90 [] (P.take i)
def nmI (P:List Int) (i:Nat):Int:=(((metL P P.length).idxOf (P.getD i 0):Nat):Int)
theorem z388 {P:List Int} {i:Nat} (h:i < P.length):metL P (i+1)=z197 (metL P i) P[i]:=by
 unfold metL z90
 rw [y57 h,y69];rfl
theorem z949 {P:List Int} {i j:Nat} (h:i≤j) (hj:j≤P.length):∃ t,metL P j=metL P i++t:=by
  induction j with
  | zero => obtain rfl : i = 0 := by omega
            exact ⟨[],by simp⟩
  | succ j ih =>
    rcases y76 j i with h1|h1
    · obtain rfl:i=j+1:=by omega
      exact ⟨[],by simp⟩
    · obtain ⟨t,ht⟩:=ih h1 (by omega)
      rw [z388 (by omega)]
      obtain ⟨t2,ht2⟩:=z499 (metL P j) P[j]
      exact ⟨t++t2,by rw [ht2,ht];simp⟩
theorem z683 {P:List Int} {i:Nat} (h:i < P.length):P[i]∈metL P (i+1):=by
 rw [z388 h];unfold z197;split
 ·assumption
 ·simp
theorem z684 {P:List Int} {i:Nat} (h:i < P.length):P[i]∈metL P P.length:=by
 obtain ⟨t,ht⟩:=z949 (P:=P) (i:=i+1) (j:=P.length) h (y59 _)
 rw [ht];exact List.mem_append_left _ (z683 h)
theorem nmI_at {P:List Int} {i:Nat} (h:i < P.length):nmI P i=(((metL P (i+1)).idxOf P[i]:Nat):Int):=by
 unfold nmI
 obtain ⟨t,ht⟩:=z949 (P:=P) (i:=i+1) (j:=P.length) h (y59 _)
 rw [ht,z18 h,List.idxOf_append,if_pos (z683 h)]
theorem z950 (P:List Int):∀ i,i≤P.length→(metL P i).length≤i
 |0,_=>by simp [metL,z90]
 |i+1,h=>by
  have ih:=z950 P i (by omega)
  rw [z388 (by omega)]
  unfold z197;split
  ·omega
  ·rw [y54,List.length_singleton];omega
theorem nmI_lt {P:List Int} {i:Nat} (h:i < P.length):0≤nmI P i∧nmI P i < P.length:=by
 have h1:=List.idxOf_lt_length_of_mem (z684 h)
 have h2:=z950 P P.length (y59 _)
 unfold nmI
 rw [z18 h];omega
theorem nmI_eq {P:List Int} {i j:Nat} (hi:i < P.length) (hj:j < P.length):nmI P i=nmI P j↔P[i]=P[j]:=by
 unfold nmI
 rw [z18 hi,z18 hj]
 constructor
 ·intro h
  have h1:=List.idxOf_lt_length_of_mem (z684 hi)
  have e1:=List.getElem_idxOf h1
  have h2:=List.idxOf_lt_length_of_mem (z684 hj)
  have e2:=List.getElem_idxOf h2
  rw [← e1,← e2]
  congr 1;omega
 ·intro h;rw [h]
def cmpL (rows:List (List Int)):List Int:=(List.range rows.length).map fun i=>nmI ((List.range rows.length).map (tAll rows).part) i
theorem z408 (rows:List (List Int)):(cmpL rows).length=rows.length:=by simp [cmpL]
theorem z906 {rows:List (List Int)} {i:Nat} (h:i < rows.length):(cmpL rows).getD i 0=nmI ((List.range rows.length).map (tAll rows).part) i:=by
 rw [z18 (by rw [z408];exact h)];simp [cmpL]
theorem z1202 {rows:List (List Int)} : InN rows.length (cmpL rows):=by
 intro x hx
 obtain ⟨i,hi,rfl⟩:=List.mem_map.1 hx
 have:=nmI_lt (P:=(List.range rows.length).map (tAll rows).part) (i:=i) (by simpa using hi)
 simpa using this
theorem z905 {rows:List (List Int)} (hr:∀ r∈rows,InN rows.length r) {x y:Nat} (hx:x < rows.length) (hy:y < rows.length):(cmpL rows).getD y 0=(cmpL rows).getD x 0↔RN rows x y∧RN rows y x:=by
 rw [z906 hx,z906 hy,nmI_eq (by simpa using hy) (by simpa using hx),← (tAll_ok hr).2 x y hx]
 simp
def cntL (P:List Int) (i:Nat) (v:Nat):Nat:=(P.take i).countP fun p=>decide (p=(v:Int))
theorem z815 {P:List Int} {i:Nat} (h:i < P.length) (v:Nat):cntL P (i+1) v=cntL P i v+if P[i]=(v:Int) then 1 else 0:=by
 unfold cntL
 rw [y57 h,List.countP_append]
 by_cases e:P[i]=(v:Int)<;>simp [e]
theorem cntL_le (P:List Int) (i v:Nat):cntL P i v≤i:=by
 unfold cntL
 have:=List.countP_le_length (p:=fun p:Int=>decide (p=(v:Int))) (l:=P.take i)
 rw [y55] at this;omega
theorem cntL_pos {P:List Int} {i j v:Nat} (hj:j < i) (hp:j < P.length) (e:P[j]=(v:Int)):0 < cntL P i v:=by
 unfold cntL
 rw [List.countP_pos_iff]
 exact ⟨P[j],List.mem_take_iff_getElem.2 ⟨j,by omega,rfl⟩,by simp [e]⟩
theorem z714 {P:List Int} {v:Nat} : ∀ i,i≤P.length→(1 < cntL P i v↔∃ a b,a < b∧∃ h:b < i,∃ h2:b < P.length,∃ h3:a < P.length,P[a]=(v:Int)∧P[b]=(v:Int))
 |0,_=>by simp [cntL]
 |i+1,hi=>by
  rw [z815 (by omega)]
  constructor
  ·intro h
   by_cases e:P[i]=(v:Int)
   ·rw [if_pos e] at h
    have h0:0 < cntL P i v:=by omega
    unfold cntL at h0
    rw [List.countP_pos_iff] at h0
    obtain ⟨x,hx,hx2⟩:=h0
    obtain ⟨a,ha,rfl⟩:=List.mem_take_iff_getElem.1 hx
    exact ⟨a,i,by omega,by omega,by omega,by omega,by simpa using hx2,e⟩
   ·rw [if_neg e] at h
    obtain ⟨a,b,h1,h2,h3,h4,h5⟩:=(z714 (P:=P) (v:=v) i (by omega)).1 (by omega)
    exact ⟨a,b,h1,by omega,h3,h4,h5⟩
  ·rintro ⟨a,b,h1,h2,h3,h4,h5,h6⟩
   by_cases hb:b=i
   ·subst hb
    rw [if_pos h6]
    have:=cntL_pos h1 h4 h5
    omega
   ·have:=(z714 (P:=P) (v:=v) i (by omega)).2 ⟨a,b,h1,by omega,h3,h4,h5,h6⟩
    omega
noncomputable def cycD (rows:List (List Int)) (x:Nat):Bool:=by classical exact decide (Cyc rows x)
theorem z327 {rows:List (List Int)} {x:Nat} : cycD rows x=true↔Cyc rows x:=by unfold cycD;simp
noncomputable def cycB (rows:List (List Int)):List Bool:=(List.range rows.length).map (cycD rows)
theorem cycB_len (rows:List (List Int)):(cycB rows).length=rows.length:=by simp [cycB]
theorem cyc_cnt {rows:List (List Int)} (hr:∀ r∈rows,InN rows.length r) {x:Nat} (hx:x < rows.length):cycD rows x=(decide (1 < cntL (cmpL rows) rows.length ((cmpL rows).getD x 0).toNat) || decide ((x:Int)∈rows.getD x [])):=by
 have hc:=z1202 (rows:=rows) _ (z396 (Q:=cmpL rows) (k:=x) (by rw [z408];exact hx))
 have hv:(((cmpL rows).getD x 0).toNat:Int)=(cmpL rows).getD x 0:=Int.toNat_of_nonneg hc.1
 rw [Bool.eq_iff_iff,z327,cyc_iff hr hx,Bool.or_eq_true,decide_eq_true_iff,decide_eq_true_iff,z714 _ (by rw [z408];exact y59 _),hv]
 have hat:∀ a (h:a < (cmpL rows).length),(cmpL rows)[a]=(cmpL rows).getD a 0:=fun a h=>(z18 h).symm
 have hlen:=z408 rows
 constructor
 ·rintro (h|⟨y,hy,hne,h1,h2⟩)
  ·exact .inr h
  ·left
   have he:=(z905 hr hx hy).2 ⟨h1,h2⟩
   rcases Nat.lt_or_gt_of_ne hne with h3|h3
   ·exact ⟨y,x,h3,hx,by omega,by omega,by rw [hat];exact he,by rw [hat]⟩
   ·exact ⟨x,y,h3,hy,by omega,by omega,by rw [hat],by rw [hat];exact he⟩
 ·rintro (⟨a,b,hab,h2,h3,h4,h5,h6⟩|h)
  ·right
   rw [hat] at h5 h6
   have ha:=(z905 hr hx (show a < rows.length by omega)).1 h5
   have hb:=(z905 hr hx (show b < rows.length by omega)).1 h6
   by_cases e:a=x
   ·exact ⟨b,by omega,by omega,hb⟩
   ·exact ⟨a,by omega,e,ha⟩
  ·exact .inl h
def frm (N:Nat) (Q P:List Int):List Int:=(List.range N).map fun v:Nat=>if (v:Int)∈Q then P.getD v 0 else -2
theorem z889 (N:Nat) (Q P:List Int):(frm N Q P).length=N:=by simp [frm]
theorem frm_nil (N:Nat) (P:List Int):frm N [] P=List.replicate N (-2):=by
 apply y81 (by simp [frm])
 intro i h1 h2
 simp [frm]
theorem frm_set {N:Nat} {Q P:List Int} {v u:Int} (hv:0≤v∧v < N) (hP:P.length=N):(frm N Q P).set v.toNat u=frm N (Q++[v]) (P.set v.toNat u):=by
 apply y81 (by simp [frm])
 intro i h1 h2
 have hi:i < N:=by simpa [frm] using h2
 rw [List.getElem_set]
 by_cases e:v.toNat=i
 ·have e2:(i:Int)=v:=by omega
  rw [if_pos e]
  simp only [frm,List.getElem_map,List.getElem_range]
  rw [if_pos (by simp [e2]),z18 (by simp;omega),List.getElem_set,if_pos e]
 ·have e2:(i:Int)≠v:=by omega
  rw [if_neg e]
  simp only [frm,List.getElem_map,List.getElem_range,List.mem_append,y61,e2,or_false]
  split
  ·rw [z18 (by omega),z18 (by simp;omega),List.getElem_set,if_neg e]
  ·rfl
section
variable {rows:List (List Int)} {ini:List Int}
theorem z1074 (u:Int) (l:List Int):∀ x:List Int×List Int,∃ t,(visPs u x l).1=x.1++t:=by
 intro x;rw [z500];exact z607 _ _
theorem z853 {i j:Nat} (h:i≤j):∃ t,(srS rows ini j).1=(srS rows ini i).1++t:=by
  induction j with
  | zero => obtain rfl : i = 0 := by omega
            exact ⟨[],by simp⟩
  | succ j ih =>
    rcases y76 j i with h1|h1
    · obtain rfl:i=j+1:=by omega
      exact ⟨[],by simp⟩
    · obtain ⟨t,ht⟩:=ih h1
      rw [srS];split
      · obtain ⟨t2,ht2⟩:=z1074 (srS rows ini j).1[j] (rows.getD ((srS rows ini j).1[j]).toNat []) (srS rows ini j)
        exact ⟨t++t2,by rw [ht2,ht];simp⟩
      · exact ⟨t,ht⟩
theorem z609 {u v:Int} (hv:0≤v):∀ (l:List Int) (x:List Int×List Int),(∀ y∈l,0≤y)→v∈x.1→(visPs u x l).2.getD v.toNat 0=x.2.getD v.toNat 0
 |[],_,_,_=>rfl
 |w::l,x,hl,hm=>by
  show (visPs u (visP u x w) l).2.getD v.toNat 0=_
  have hm2:v∈(visP u x w).1:=by rw [z650];exact z726.2 (.inl hm)
  rw [z609 hv l _ (fun y hy=>hl y (by simp [hy])) hm2]
  by_cases h:w∈x.1
  ·rw [z361 h]
  ·rw [z362 h]
   have hw:=hl w (by simp)
   have:v≠w:=fun e=>h (e ▸ hm)
   dsimp only
   rw [y74,List.getElem?_set_ne (by omega),← y74]
theorem srS_keep (hr:∀ r∈rows,InN rows.length r) {i j:Nat} (h:i≤j) {v:Int} (hv:0≤v) (hm:v∈(srS rows ini i).1):(srS rows ini j).2.getD v.toNat 0=(srS rows ini i).2.getD v.toNat 0:=by
  induction j with
  | zero => obtain rfl : i = 0 := by omega
            rfl
  | succ j ih =>
    rcases y76 j i with h1|h1
    · obtain rfl:i=j+1:=by omega
      rfl
    · obtain ⟨t,ht⟩:=z853 (rows:=rows) (ini:=ini) h1
      rw [srS];split
      · rw [z609 hv _ _ (fun y hy=>(z233 hr _ y hy).1) (by rw [ht];simp [hm])]
        exact ih h1
      · exact ih h1
theorem z1105 (hr:∀ r∈rows,InN rows.length r) (hi:InN rows.length ini) (hn:ini.Nodup) {i:Nat} (hil:i≤rows.length):∀ (f:Nat) (v:Int) (tl:List Int),v∈(srS rows ini i).1→bkw (srS rows ini i).2 f v tl=bkw (srP rows ini) f v tl
 |0,_,_,_=>rfl
 |f+1,v,tl,hm=>by
  have hJ:=z339 hr hi hn i
  have hv:=hJ.inn v hm
  have e:(srP rows ini).getD v.toNat 0=(srS rows ini i).2.getD v.toNat 0:=srS_keep hr hil hv.1 hm
  rw [bkw,bkw,e]
  split
  ·rename_i h
   refine z1105 hr hi hn hil f _ _ ?_
   obtain ⟨k,hk,rfl⟩:=List.mem_iff_getElem.1 hm
   rcases hJ.pre k hk with h1|⟨j,hj,_,h2⟩
   ·omega
   ·rw [h2];exact y51 _
  ·rfl
def shL (rows:List (List Int)) (ini:List Int) (G:Int→Bool):List Int:=match (srQ rows ini).find? G with
 |none=>[]
 |some v=>bkw (srP rows ini) rows.length v []
theorem z1116 (hr : ∀ r ∈ rows, InN rows.length r) (hi : InN rows.length ini) (hn : ini.Nodup) {G : Int → Bool} {i : Nat} (hil : i < (srS rows ini i).1.length) (hG : G (srS rows ini i).1[i] = true) (hk : ∀ k (_ : k < i), G ((srS rows ini i).1[k]) = false) :
    shL rows ini G=bkw (srS rows ini i).2 rows.length (srS rows ini i).1[i] []:=by
  have hle:i≤rows.length:=Nat.le_of_lt (Nat.lt_of_lt_of_le hil (z854 hr hi hn i))
  obtain ⟨t,ht⟩:=z853 (rows:=rows) (ini:=ini) hle
  have:(srQ rows ini).find? G=some (srS rows ini i).1[i]:=by
    show (srS rows ini rows.length).1.find? G=_
    rw [ht,List.find?_append]
    have:(srS rows ini i).1.find? G=some (srS rows ini i).1[i]:=by
      rw [List.find?_eq_some_iff_getElem]
      exact ⟨hG,i,hil,rfl,fun j hj=>by rw [hk j hj];rfl⟩
    rw [this];rfl
  unfold shL
  rw [this]
  exact (z1105 hr hi hn hle _ _ _ (y51 _)).symm
theorem shL_none {G:Int→Bool} {i:Nat} (hil:(srS rows ini i).1.length≤i) (hle:i≤rows.length) (hk:∀ k (h:k < (srS rows ini i).1.length),G ((srS rows ini i).1[k])=false):shL rows ini G=[]:=by
 have e:=z1103 (ini:=ini) hil hle
 have:(srQ rows ini).find? G=none:=by
  rw [List.find?_eq_none]
  intro x hx
  have e1:(srS rows ini i).1=srQ rows ini:=by rw [e]
  rw [← e1] at hx
  obtain ⟨k,hk',rfl⟩:=List.mem_iff_getElem.1 hx
  rw [hk k hk'];simp
 unfold shL
 rw [this]
def aroL (rows:List (List Int)) (v:Int):List Int:=if v∈rows.getD v.toNat [] then [v] else shL rows [v] fun n=>decide (n≠v) && decide (v∈rows.getD n.toNat [])
theorem aroL_eq (v:Int):aroL rows v=cycL rows v:=by
 unfold aroL cycL
 split
 ·rfl
 ·rename_i h
  unfold shL
  have key:∀ l:List Int,(match l.find? (fun n=>decide (n≠v) && decide (v∈rows.getD n.toNat [])) with|none=>[]|some u=>bkw (srP rows [v]) rows.length u [])=cycT rows (srP rows [v]) v l:=by
   intro l
   induction l with
   |nil=>rfl
   |cons u l ih =>
    rw [List.find?_cons,cycT]
    by_cases hu:v∈rows.getD u.toNat []
    ·have hne:u≠v:=fun e=>by rw [e] at hu;exact h hu
     rw [y89 hu,y89 hne,if_pos hu];rfl
    ·rw [y90 hu,Bool.and_false,if_neg hu]
     exact ih
  exact key _
theorem RP.head {v u:Int} (h:RP rows [v] u):u=v∨∃ y,y∈rows.getD v.toNat []∧RP rows [y] u:=by
 induction h with
 |base hb=>exact .inl (List.mem_singleton.1 hb)
 |step _ e ih =>
  rcases ih with rfl|⟨y,hy,h2⟩
  ·exact .inr ⟨_,e,.base (by simp)⟩
  ·exact .inr ⟨y,hy,.step h2 e⟩
theorem z712 (hr:∀ r∈rows,InN rows.length r) {v:Int} (hv:0≤v∧v < rows.length):0 < (cycL rows v).length↔Cyc rows v:=by
 have hq:∀ x,x∈srQ rows [v]↔RP rows [v] x:=fun x=>by
  have:=z664 (rows:=rows) (ini:=[v]) (by simp) rows.length
  show x∈(srS rows [v] rows.length).1↔_
  rw [this]
  exact z917 hr (z290 hv) x
 unfold cycL
 split
 ·rename_i h
  exact ⟨fun _=>⟨v,h,.base (by simp)⟩,fun _=>by simp⟩
 ·rename_i h
  have key:∀ l:List Int,0 < (cycT rows (srP rows [v]) v l).length↔∃ u∈l,v∈rows.getD u.toNat []:=by
   intro l
   induction l with
   |nil=>simp [cycT]
   |cons u l ih =>
    rw [cycT]
    split
    ·rename_i hu
     exact ⟨fun _=>⟨u,by simp,hu⟩,fun _=>z571 _ _ _ _⟩
    ·rename_i hu
     rw [ih]
     constructor
     ·rintro ⟨w,h1,h2⟩;exact ⟨w,by simp [h1],h2⟩
     ·rintro ⟨w,h1,h2⟩
      rcases List.mem_cons.1 h1 with rfl|h1
      ·exact absurd h2 hu
      ·exact ⟨w,h1,h2⟩
  rw [key]
  constructor
  ·rintro ⟨u,hu,hvu⟩
   rcases RP.head ((hq u).1 hu) with rfl|⟨y,hy,h2⟩
   ·exact absurd hvu h
   ·exact ⟨y,hy,.step h2 hvu⟩
  ·rintro ⟨y,hy,h1⟩
   cases h1 with
   |base hb=>exact absurd (List.mem_singleton.1 hb ▸ hy) h
   |step h2 h3=>exact ⟨_,(hq _).2 (RP.trans (.base (by simp)) hy h2),h3⟩
noncomputable def lasL (rows:List (List Int)) (ini:List Int) (G:Int→Bool):Option (List Int×List Int):=((bfsL rows ini).find? fun v=>G v && cycD rows v.toNat).map fun v=>(bkw (srP rows ini) rows.length v [],cycL rows v)
theorem z322 (hr:∀ r∈rows,InN rows.length r) (hi:InN rows.length ini) (hn:ini.Nodup) (acc:List Bool):lasL rows ini (fun v=>acc.getD (v % acc.length).toNat false)=finS rows ini acc:=by
 have e:bfsL rows ini=srQ rows ini:=(z664 hn rows.length).symm
 have hin:=z614 hr hi hn
 unfold lasL finS
 rw [e]
 generalize srQ rows ini=Q at *
 clear e
 induction Q with
 |nil=>rfl
 |cons u Q ih =>
  have hu:=hin u (by simp)
  have hc:cycD rows u.toNat=decide (0 < (cycL rows u).length):=by
   rw [Bool.eq_iff_iff,z327,decide_eq_true_iff,z712 hr hu,Int.toNat_of_nonneg hu.1]
  have ih:=ih fun x hx=>hin x (by simp [hx])
  rw [List.find?_cons,finT]
  dsimp only
  rw [hc]
  by_cases ha:acc.getD (u % acc.length).toNat false=true
  ·rw [if_pos ha,ha,Bool.true_and]
   by_cases hl:0 < (cycL rows u).length
   ·rw [if_pos hl,y89 hl];rfl
   ·rw [if_neg hl,y90 hl]
    exact ih
  ·rw [if_neg ha,(y78 _).mp ha,Bool.false_and]
   exact ih
theorem shL_to (hn:ini.Nodup) {v:Int} (hv:v∈bfsL rows ini):shL rows ini (fun n=>decide (n=v))=bkw (srP rows ini) rows.length v []:=by
 have e:bfsL rows ini=srQ rows ini:=(z664 hn rows.length).symm
 rw [e] at hv
 unfold shL
 cases h:(srQ rows ini).find? (fun n=>decide (n=v)) with
 |none=>rw [List.find?_eq_none] at h;have:=h v hv;simp at this
 |some u=>have:=List.find?_some h;rw [of_decide_eq_true this]
end
end Go.Gl
namespace Go.Gl
theorem z662 (l:List Int) (i j:Nat):(swp l i j).length=l.length:=by unfold swp;simp
theorem swp_at (l:List Int) {i j k:Nat} (hi:i < l.length) (hj:j < l.length) (hk:k < l.length):(swp l i j)[k]'(by rw [z662];exact hk)=if k=j then l[i] else if k=i then l[j] else l[k]:=by
 unfold swp
 rw [List.getElem_set]
 by_cases h:j=k
 ·rw [if_pos h,if_pos h.symm,z18 hi]
 ·rw [if_neg h,if_neg (fun e=>h e.symm),List.getElem_set]
  by_cases h2:i=k
  ·rw [if_pos h2,if_pos h2.symm,z18 hj]
  ·rw [if_neg h2,if_neg (fun e=>h2 e.symm)]
def chn (P:List Int):Nat→Int→List Int
 |0,v=>[v]
 |f+1,v=>v::if 0≤P.getD v.toNat 0 then chn P f (P.getD v.toNat 0) else []
theorem z1213 (P:List Int):∀ (f:Nat) (v:Int) (tl:List Int),bkw P f v tl=(chn P f v).reverse++tl
 |0,v,tl=>rfl
 |f+1,v,tl=>by
  rw [bkw,chn]
  split
  ·rw [z1213 P f];simp
  ·simp
theorem z1203 (P:List Int) (f:Nat) (v:Int):1≤(chn P f v).length:=by cases f<;>simp [chn]
theorem z1127:∀ (f i j:Nat) (l:List Int),i+j+1=l.length→j+1≤2 * f+1+i→∀ k (h:k < (revG f i j l).length) (h' : k < l.length),(revG f i j l)[k]=if i≤k∧k≤j then l[l.length - 1 - k]'(by omega) else l[k]
 |0,i,j,l,hij,hf,k,h,h'=>by
  show l[k]=_
  split
  ·congr 1;omega
  ·rfl
 |f+1,i,j,l,hij,hf,k,h,h'=>by
  by_cases hlt:i < j
  ·have e:revG (f+1) i j l=revG f (i+1) (j - 1) (swp l i j):=by rw [revG,if_pos hlt]
   have hk:k < (revG f (i+1) (j - 1) (swp l i j)).length:=by rw [← e];exact h
   have ih:=z1127 f (i+1) (j - 1) (swp l i j) (by rw [z662];omega) (by omega) k hk (by rw [z662];exact h')
   have e2:(revG (f+1) i j l)[k]=(revG f (i+1) (j - 1) (swp l i j))[k]:=by simp only [e]
   rw [e2,ih]
   simp only [z662]
   by_cases h1:i+1≤k∧k≤j - 1
   ·rw [if_pos h1,if_pos (by omega),swp_at l (by omega) (by omega) (by omega),if_neg (by omega),if_neg (by omega)]
   ·rw [if_neg h1,swp_at l (by omega) (by omega) h']
    by_cases h2:k=j
    ·rw [if_pos h2,if_pos (by omega)];congr 1;omega
    ·rw [if_neg h2]
     by_cases h3:k=i
     ·rw [if_pos h3,if_pos (by omega)];congr 1;omega
     ·rw [if_neg h3,if_neg (by omega)]
  ·have e:revG (f+1) i j l=l:=by rw [revG,if_neg hlt]
   have e2:(revG (f+1) i j l)[k]=l[k]:=by simp only [e]
   rw [e2]
   split
   ·congr 1;omega
   ·rfl
theorem rvs_eq (l:List Int):rvs l=l.reverse:=by
 by_cases h0:l.length=0
 ·have:l=[]:=y80 h0
  subst this;rfl
 ·apply y81 (by rw [z677,List.length_reverse])
  intro k h1 h2
  have hk:k < l.length:=by rw [z677] at h1;exact h1
  have:=z1127 l.length 0 (l.length - 1) l (by omega) (by omega) k h1 hk
  rw [List.getElem_reverse]
  refine this.trans ?_
  rw [if_pos (by omega)]
def rkStep (R:List Int) (z:Bool) (o v:Int):Int:=if o < R.getD v.toNat 0+(if z=true then 1 else 0) then R.getD v.toNat 0+(if z=true then 1 else 0) else o
def rkOf (R:List Int) (z:Bool) (row:List Int):Int:=row.foldl (rkStep R z) 0
def Bd (M:Int) (R:List Int):Prop:=∀ x∈R,-1≤x∧x≤M
theorem Bd.getD {M:Int} {R:List Int} (h:Bd M R) (hM:0≤M) (i:Nat) : -1≤R.getD i 0∧R.getD i 0≤M:=by
 by_cases hl:i < R.length
 ·rw [z18 hl];exact h _ (y51 _)
 ·rw [y74,y75 (by omega)];exact ⟨by show -1≤(0:Int);omega,hM⟩
theorem Bd.mono {M M' : Int} {R:List Int} (h:Bd M R) (hM:M≤M'):Bd M' R:=fun x hx=>by have:=h x hx;omega
theorem Bd.set {M:Int} {R:List Int} (h:Bd M R) {i:Nat} {v:Int} (hv : -1≤v∧v≤M):Bd M (R.set i v):=fun x hx=>by
 rcases List.mem_or_eq_of_mem_set hx with h1|rfl
 ·exact h x h1
 ·exact hv
def wtA (acc:List Bool) (u:Int):Int:=if acc.getD (u % acc.length).toNat false=true then 1 else 0
def Wt (rows:List (List Int)) (acc:List Bool):Nat→Int→Int
 |0,_=>0
 |k+1,u=>(rows.getD u.toNat []).foldl (fun o v=>max o (Wt rows acc k v+wtA acc u)) 0
theorem z435 (f:Int→Int):∀ (l:List Int) (o:Int),o≤l.foldl (fun o v=>max o (f v)) o∧∀ v∈l,f v≤l.foldl (fun o v=>max o (f v)) o
 |[],o=>⟨Int.le_refl _,by simp⟩
 |x::l,o=>by
  obtain ⟨h1,h2⟩:=z435 f l (max o (f x))
  rw [List.foldl_cons]
  refine ⟨by omega,fun v hv=>?_⟩
  rcases List.mem_cons.1 hv with rfl|hv
  ·omega
  ·exact h2 v hv
section
variable {rows:List (List Int)} {ini:List Int} {acc:List Bool}
theorem Wt_nn (k:Nat) (u:Int):0≤Wt rows acc k u:=by
 cases k with
 |zero=>exact Int.le_refl _
 |succ k=>rw [Wt];exact (z435 _ _ _).1
def IncW (rows:List (List Int)) (acc:List Bool) (k:Nat) (u:Int):Prop:=Wt rows acc k u < Wt rows acc (k+1) u
structure ChW (rows:List (List Int)) (acc:List Bool) (k:Nat) (c:Nat→Int):Prop where
 step:∀ i,i < k→c i∈rows.getD (c (i+1)).toNat []∧Wt rows acc (i+2) (c (i+1))=Wt rows acc (i+1) (c i)+wtA acc (c (i+1))
 inc:∀ i,i≤k→IncW rows acc i (c i)
theorem ChW.reach {k:Nat} {c:Nat→Int} (h:ChW rows acc k c) {i:Nat} : ∀ d,i+d≤k→RP rows [c (i+d)] (c i)
 |0,_=>.base (by simp)
 |d+1,hd=>RP.trans (.base (by simp [Nat.add_assoc])) (h.step (i+d) (by omega)).1 (h.reach d (by omega))
theorem ChW.flat {k:Nat} {c:Nat→Int} (h:ChW rows acc k c) {j:Nat} : ∀ d,j+d≤k→(∀ l,j < l→l≤j+d→wtA acc (c l)=0)→Wt rows acc (j+d+1) (c (j+d))=Wt rows acc (j+1) (c j)
 |0,_,_=>rfl
 |d+1,hd,hl=>by
  have h1:=(h.step (j+d) (by omega)).2
  have h2:=h.flat d (by omega) fun l h1 h2=>hl l h1 (by omega)
  have h3:=hl (j+d+1) (by omega) (by omega)
  have e:j+(d+1)=j+d+1:=by omega
  rw [e,h1,h3,h2];omega
end
theorem rkOf_eq (R:List Int) (z:Bool) (row:List Int):rkOf R z row=row.foldl (fun o v=>max o (R.getD v.toNat 0+if z=true then 1 else 0)) 0:=by
 unfold rkOf
 congr 1
 funext o v
 unfold rkStep
 split<;>omega
theorem getD_set (R:List Int) (i j:Nat) (v:Int) (hi:i < R.length):(R.set i v).getD j 0=if i=j then v else R.getD j 0:=by
 rw [y74,List.getElem?_set]
 simp only [hi,if_true]
 split
 ·rfl
 ·rw [← y74]
structure RkI (rows:List (List Int)) (ini:List Int) (acc:List Bool) (t:Nat) (R:List Int):Prop where
 len:R.length=rows.length
 lo:∀ u,RP rows ini u→Wt rows acc t u≤R.getD u.toNat 0
 hi:∀ u,RP rows ini u→R.getD u.toNat 0≤Wt rows acc (bfsL rows ini).length u
section
variable {rows:List (List Int)} {ini:List Int} {acc:List Bool}
def rkU (rows:List (List Int)) (acc:List Bool) (R:List Int) (u:Int):Int:=rkOf R (acc.getD (u % acc.length).toNat false) (rows.getD u.toNat [])
end
end Go.Gl
namespace Go.Gl
section
variable {rows:List (List Int)} {ini:List Int}
theorem z775 {G:Int→Bool} {p q:List Int} (h:lasL rows ini G=some (p,q)):∃ v,v∈bfsL rows ini∧G v=true∧cycD rows v.toNat=true∧p=bkw (srP rows ini) rows.length v []∧q=cycL rows v:=by
 unfold lasL at h
 rw [Option.map_eq_some_iff] at h
 obtain ⟨v,hv,he⟩:=h
 have h1:=List.find?_some hv
 have h2:=List.mem_of_find?_eq_some hv
 obtain ⟨h3,h4⟩:=Bool.and_eq_true_iff.1 h1
 cases he
 exact ⟨v,h2,h3,h4,rfl,rfl⟩
theorem z776 {G:Int→Bool} : lasL rows ini G=none↔∀ v∈bfsL rows ini,¬ (G v=true∧cycD rows v.toNat=true):=by
 unfold lasL
 rw [Option.map_eq_none_iff,List.find?_eq_none]
 simp only [y77]
theorem z881 (hr : ∀ r ∈ rows, InN rows.length r) (hi : InN rows.length ini) (hn : ini.Nodup) {G : Int → Bool} {p q : List Int} (h : lasL rows ini G = some (p, q)) :
    (∀ x∈p,0≤x∧x≤rows.length)∧(∀ x∈q,0≤x∧x≤rows.length)∧p.length≤rows.length+1∧q.length≤rows.length+1∧1≤p.length∧1≤q.length:=by
  obtain ⟨v,hv,_,hc,rfl,rfl⟩:=z775 h
  have hvN:=z642 hr hi _ v hv
  have h1:=z572 (srP rows ini) rows.length v []
  refine ⟨fun x hx=>⟨z968 _ _ _ hvN.1 (by simp) x hx,z969 (z1102 hr hi hn rows.length) _ _ _ (by omega) (by omega) (by simp) x hx⟩,fun x hx=>⟨z1198 hr hvN x hx,z1199 hr hvN x hx⟩,by rw [y65] at h1;omega,z711 _ _,z571 _ _ _ _,?_⟩
  have:=(z712 hr hvN).2 (by have:=z327.1 hc;rwa [Int.toNat_of_nonneg hvN.1] at this)
  omega
end
end Go.Gl
namespace Go.Gl
section
variable {rows:List (List Int)} {ini:List Int}
def PE (rows:List (List Int)) (ini:List Int) (x:List Int×List Int):Prop:=∀ v∈x.1,(x.2.getD v.toNat 0=-1∧v∈ini)∨(x.2.getD v.toNat 0∈x.1∧v∈rows.getD (x.2.getD v.toNat 0).toNat [])
theorem visP_PE {x:List Int×List Int} {u v:Int} (hJ:PJ rows.length x) (h:PE rows ini x) (hu:u∈x.1) (hv:v∈rows.getD u.toNat []) (hvN:0≤v∧v < rows.length):PE rows ini (visP u x v):=by
 unfold visP
 split
 ·exact h
 ·rename_i hm
  intro w hw
  dsimp only at hw ⊢
  have hl:=hJ.len
  rw [getD_set _ _ _ _ (by omega)]
  rcases List.mem_append.1 hw with h1|h1
  ·have hwN:=hJ.inn w h1
   have hne:¬ v.toNat=w.toNat:=fun e=>hm (by
    have:v=w:=by omega
    rw [this];exact h1)
   rw [if_neg hne]
   rcases h w h1 with h2|h2
   ·exact .inl h2
   ·exact .inr ⟨List.mem_append.2 (.inl h2.1),h2.2⟩
  ·rw [List.mem_singleton.1 h1,if_pos rfl]
   exact .inr ⟨List.mem_append.2 (.inl hu),hv⟩
theorem z930 {u:Int} : ∀ (l:List Int) (x:List Int×List Int),PJ rows.length x→PE rows ini x→(∃ i,∃ h:i < x.1.length,u=x.1[i])→(∀ v∈l,v∈rows.getD u.toNat []∧0≤v∧v < rows.length)→PE rows ini (visPs u x l)
 |[],_,_,h,_,_=>h
 |v::l,x,hJ,h,hu,hl=>by
  obtain ⟨i,hi,rfl⟩:=hu
  have hv:=hl v (by simp)
  have h1:=visP_PE hJ h (y51 hi) hv.1 hv.2
  have hJ2:=hJ.visP hi rfl hv.2
  refine z930 l (visP x.1[i] x v) hJ2 h1 ?_ fun w hw=>hl w (by simp [hw])
  have hm:x.1[i]∈(visP x.1[i] x v).1:=by
   unfold visP
   split
   ·exact y51 hi
   ·exact List.mem_append.2 (.inl (y51 hi))
  obtain ⟨j,hj,e⟩:=List.mem_iff_getElem.1 hm
  exact ⟨j,hj,e.symm⟩
theorem srS_PE (hr:∀ r∈rows,InN rows.length r) (hi:InN rows.length ini) (hn:ini.Nodup) (i:Nat):PE rows ini (srS rows ini i):=by
 induction i with
 |zero =>
  intro v hv
  have hv:v∈ini:=hv
  have:=hi v hv
  refine .inl ⟨?_,hv⟩
  show (List.replicate rows.length (-1)).getD _ 0=_
  rw [z18 (by simp;omega)];simp
 |succ i ih =>
  rw [srS];split
  ·rename_i h
   exact z930 _ _ (z339 hr hi hn i) ih ⟨i,h,rfl⟩ fun v hv=>⟨hv,z233 hr _ v hv⟩
  ·exact ih
theorem bkw_path {P Q:List Int} (hE:PE rows ini (Q,P)) (hQ:∀ v∈Q,0≤v):∀ (f:Nat) (v:Int) (tl:List Int),v∈Q→BackOk P f v→∃ s,bkw P f v tl=s++v::tl∧PathP rows (s++[v])∧(s++[v]).getD 0 0∈ini:=by
 have one:∀ v,v∈Q→P.getD v.toNat 0 < 0→PathP rows ([]++[v])∧(([]:List Int)++[v]).getD 0 0∈ini:=fun v hv h=>by
  refine ⟨fun i hi=>by simp at hi,?_⟩
  rcases hE v hv with h1|h1
  ·exact h1.2
  ·have:=hQ _ h1.1
   dsimp only at this;omega
 intro f
 induction f with
 |zero =>
  intro v tl hv hB
  exact ⟨[],rfl,one v hv hB.2⟩
 |succ f ih =>
  intro v tl hv hB
  rw [bkw]
  split
  ·rename_i h0
   rcases hE v hv with h1|h1
   ·dsimp only at h1;omega
   ·dsimp only at h1
    rcases hB.2 with h2|h2
    ·omega
    ·obtain ⟨s,e1,e2,e3⟩:=ih _ (v::tl) h1.1 h2
     refine ⟨s++[P.getD v.toNat 0],by rw [e1];simp,?_,?_⟩
     ·intro i hi'
      simp only [y54,List.length_singleton] at hi'
      rcases y76 (i+1) (s++[P.getD v.toNat 0]).length with h3|h3
      ·rw [z158 h3,z158 (by omega)];exact e2 i h3
      ·have hsl:(s++[P.getD v.toNat 0]).length=s.length+1:=by simp
       have ei:i=s.length:=by omega
       have g1:((s++[P.getD v.toNat 0])++[v]).getD (i+1) 0=v:=by rw [show i+1=(s++[P.getD v.toNat 0]).length by omega,z18 (by simp)];simp
       have g2:((s++[P.getD v.toNat 0])++[v]).getD i 0=P.getD v.toNat 0:=by rw [z158 (by omega),ei,z18 (by simp)];simp
       rw [g1,g2];exact h1.2
     ·rw [z158 (by simp)];exact e3
  ·rename_i h0
   exact ⟨[],rfl,one v hv (by omega)⟩
theorem z939 (hr:∀ r∈rows,InN rows.length r) (hi:InN rows.length ini) (hn:ini.Nodup) {v:Int} (hv:v∈srQ rows ini):∃ s,bkw (srP rows ini) rows.length v []=s++[v]∧PathP rows (s++[v])∧(s++[v]).getD 0 0∈ini:=by
 obtain ⟨k,hk,rfl⟩:=List.mem_iff_getElem.1 hv
 exact bkw_path (Q:=srQ rows ini) (P:=srP rows ini) (srS_PE hr hi hn rows.length) (fun v hv=>(z614 hr hi hn v hv).1) _ _ [] hv (z665 hr hi hn k hk)
theorem z1197 (hr:∀ r∈rows,InN rows.length r) {v:Int} (hv:0≤v∧v < rows.length) (h:0 < (cycL rows v).length):PathP rows (cycL rows v)∧(cycL rows v).getD 0 0=v∧v∈rows.getD ((cycL rows v).getD ((cycL rows v).length - 1) 0).toNat []:=by
 unfold cycL at h ⊢
 split
 ·rename_i h1
  exact ⟨fun i hi=>by simp at hi,rfl,h1⟩
 ·rename_i h1
  rw [if_neg h1] at h
  have key:∀ l:List Int,(∀ u∈l,u∈srQ rows [v])→0 < (cycT rows (srP rows [v]) v l).length→PathP rows (cycT rows (srP rows [v]) v l)∧(cycT rows (srP rows [v]) v l).getD 0 0=v∧v∈rows.getD ((cycT rows (srP rows [v]) v l).getD ((cycT rows (srP rows [v]) v l).length - 1) 0).toNat []:=by
   intro l
   induction l with
   |nil=>intro _ h;simp [cycT] at h
   |cons u t ih =>
    intro hl h
    rw [cycT] at h ⊢
    split
    ·rename_i h2
     obtain ⟨s,e1,e2,e3⟩:=z939 hr (z290 hv) (by simp) (hl u (by simp))
     rw [e1]
     refine ⟨e2,List.mem_singleton.1 e3,?_⟩
     have:(s++[u]).getD ((s++[u]).length - 1) 0=u:=by rw [z18 (by simp)];simp
     rw [this];exact h2
    ·rename_i h2
     rw [if_neg h2] at h
     exact ih (fun w hw=>hl w (by simp [hw])) h
  exact key _ (fun _ h=>h) h
theorem las_path (hr:∀ r∈rows,InN rows.length r) (hi:InN rows.length ini) (hn:ini.Nodup) {G:Int→Bool} {p q:List Int} (h:lasL rows ini G=some (p,q)):∃ v s,G v=true∧p=s++[v]∧PathP rows (s++q)∧(s++q).getD 0 0∈ini∧q.getD 0 0=v∧0 < q.length∧v∈rows.getD (q.getD (q.length - 1) 0).toNat []:=by
 obtain ⟨v,hv,hG,hc,rfl,rfl⟩:=z775 h
 have hvN:=z642 hr hi _ v hv
 have hq:=(z712 hr hvN).2 (by have:=z327.1 hc;rwa [Int.toNat_of_nonneg hvN.1] at this)
 have hvQ:v∈srQ rows ini:=by
  have e:bfsL rows ini=srQ rows ini:=(z664 hn rows.length).symm
  rw [← e];exact hv
 obtain ⟨s,e1,e2,e3⟩:=z939 hr hi hn hvQ
 obtain ⟨c1,c2,c3⟩:=z1197 hr hvN hq
 refine ⟨v,s,hG,e1,?_,?_,c2,hq,c3⟩
 ·intro i hi'
  rw [y54] at hi'
  have hsv:∀ j,j < s.length→(s++[v]).getD j 0=(s++cycL rows v).getD j 0:=fun j hj=>by rw [y74,y74,y72 hj,y72 hj]
  have hsq:∀ j,(s++cycL rows v).getD (s.length+j) 0=(cycL rows v).getD j 0:=fun j=>by
   rw [y74,y74,y73 (by omega),show s.length+j - s.length=j by omega]
  rcases y76 (i+1) s.length with h1|h1
  ·rw [← hsv _ h1,← hsv i (by omega)]
   exact e2 i (by simp;omega)
  ·rcases y76 i s.length with h2|h2
   ·have ei:i+1=s.length+0:=by omega
    rw [ei,hsq,c2,← hsv i h2]
    have:=e2 i (by simp;omega)
    have g1:(s++[v]).getD (i+1) 0=v:=by rw [show i+1=s.length by omega,z18 (by simp)];simp
    rwa [g1] at this
   ·obtain ⟨j,rfl⟩:∃ j,i=s.length+j:=⟨i - s.length,by omega⟩
    rw [show s.length+j+1=s.length+(j+1) by omega,hsq,hsq]
    exact c1 j (by omega)
 ·cases s with
  |nil =>
   rw [List.nil_append,c2];exact e3
  |cons a s=>exact e3
end
end Go.Gl
namespace Go.Gl
def negT (t:Tree):Tree:=if t.kind=3 then t.kids.getD 0 dftT else notT t
theorem y38 (t:Tree):∀ d e:Int,d≤e→t.shapeF d=true→t.shapeF e=true:=by
 induction t using y32 with|h t ih=>?_
 intro d e h hs
 rw [y37] at hs ⊢
 exact ⟨⟨by omega,hs.1.2⟩,fun u hu=>ih u hu (d - 1) (e - 1) (by omega) (hs.2 u hu)⟩
theorem Tree.counts_eq (l:List Tree) (d:Int):Tree.counts l d=(l.map fun t=>t.count d).sum:=by
 induction l with
 |nil=>simp [Tree.counts]
 |cons t l ih=>simp [Tree.counts,ih]
theorem y20 (t:Tree) (d:Int):t.count d=if 0 < d then 1+(t.kids.map fun t=>t.count (d - 1)).sum else 1:=by
 cases t with
 |mk k v l=>simp only [Tree.count,Tree.kids,Tree.counts_eq]
theorem y21 (t:Tree):∀ d e:Int,d≤e→t.shapeF d=true→t.count d=t.count e:=by
 induction t using y32 with|h t ih=>?_
 intro d e h hs
 rw [y37] at hs
 rw [y20 t d,y20 t e,if_pos (by omega),if_pos (by omega)]
 congr 2
 exact List.map_congr_left fun u hu=>ih u hu (d - 1) (e - 1) (by omega) (hs.2 u hu)
theorem fm_kid {t:Tree} (h:t.fmB=true) (hk:t.kind=3):∃ a v,t=.mk 3 v [a]∧a.fmB=true:=by
 have hg:=y29 h
 rw [y26,y77,decide_eq_true_eq] at h
 obtain ⟨h1,h2⟩:=h
 cases y27 hg with
 |tr=>simp [Tree.kind] at hk
 |«at» v _ _=>simp [Tree.kind] at hk
 |bin k a b hk2 _ _=>simp only [Tree.kind] at hk;omega
 |un k a _ _ =>
  simp only [Tree.kind] at hk
  subst hk
  refine ⟨a,0,rfl,?_⟩
  rw [y37] at h1
  have h3:=h1.2 a (by simp [Tree.kids])
  rw [y20,if_pos (by omega)] at h2
  simp [Tree.kids] at h2
  have h4:=y21 a 5 6 (by omega) h3
  rw [y26,y77,decide_eq_true_eq]
  exact ⟨y38 a 5 6 (by omega) h3,by omega⟩
theorem z879 (t:Tree):(negT t).sz≤t.sz+1:=by
 unfold negT
 split
 ·rw [y44 t]
  cases t.kids with
  |nil=>simp [dftT,z508]
  |cons a l=>simp;omega
 ·simp [notT,z337];omega
def z277:Nat→List (List Int)→List (List Int×Int)
 |_,[]=>[]
 |k,r::L=>(r,(k:Int))::z277 (k+1) L
theorem z626 (p:List Int):∀ (k:Nat) (L:List (List Int)),mget (z277 k L) p=if p∈L then some ((k+L.idxOf p:Nat):Int) else none
 |_,[]=>by simp [z277,mget]
 |k,r::L=>by
  rw [z277,mget]
  by_cases h:p=r
  ·subst h;simp
  ·rw [if_neg h,z626 p (k+1) L]
   by_cases h2:p∈L
   ·have h4:(r == p)=false:=by simpa using fun e=>h e.symm
    rw [if_pos h2,if_pos (y79 _ h2),List.idxOf_cons,h4]
    simp only [cond_false]
    congr 2;omega
   ·rw [if_neg h2,if_neg (by simp [h,h2])]
theorem z625 {p:List Int} (n:Int):∀ (k:Nat) (L:List (List Int)),p ∉ L→mput (z277 k L) p n=z277 k L++[(p,n)]
 |_,[],_=>rfl
 |k,r::L,h=>by
  rw [z277,mput,if_neg (fun e=>h (by simp [e])),z625 n (k+1) L (fun e=>h (y79 _ e))]
  rfl
theorem z806 (p:List Int):∀ (k:Nat) (L:List (List Int)),z277 k (L++[p])=z277 k L++[(p,((k+L.length:Nat):Int))]
 |_,[]=>by simp [z277]
 |k,r::L=>by
  rw [List.cons_append,z277,z277,z806 p (k+1) L,List.cons_append]
  congr 4
  simp;omega
def enP (r:List Int):List AC:=[.int (r.getD 0 0),.int (r.getD 1 0)]
def RowP (n:Nat) (U:List Int) (r:List Int):Prop:=∃ (s ph:Nat),r=[(s:Int),(ph:Int)]∧s < 2 ^ n∧(U.length=0∧ph=0∨ph < U.length)
theorem z946 {B:List Tree} {U:List Int} {s ph:Nat} (h:U.length=0∧ph=0∨ph < U.length):∃ q:Nat,(phB B U s ph).1=q∧(U.length=0∧q=0∨q < U.length):=by
 unfold phB
 by_cases h0:U.length=0
 ·rw [if_pos h0];exact ⟨0,rfl,.inl ⟨h0,rfl⟩⟩
 ·rw [if_neg h0]
  split
  ·refine ⟨(ph+1) % U.length,by simp,.inr (Nat.mod_lt _ (by omega))⟩
  ·exact ⟨ph,rfl,.inr (by omega)⟩
theorem z681 (L:List (List Int)) (p:List Int):L.length≤(z124 L p).length∧(z124 L p).length≤L.length+1∧z189 L p < (z124 L p).length:=by
 unfold z124 z189
 by_cases h:p∈L
 ·rw [if_pos h];exact ⟨y59 _,Nat.le_succ _,List.idxOf_lt_length_of_mem h⟩
 ·rw [if_neg h,List.idxOf_eq_length h];simp
theorem z1135 {L:List (List Int)} {p r:List Int} (h:r∈z124 L p):r∈L∨r=p:=by
 unfold z124 at h
 split at h
 ·exact .inl h
 ·rcases List.mem_append.1 h with h|h
  ·exact .inl h
  ·exact .inr (List.mem_singleton.1 h)
def EdP (B:List Tree) (n:Nat) (e:Edg):Prop:=(0≤e.src∧e.src < n)∧(0≤e.dst∧e.dst < n)∧∃ s,e.care=((letB B s).1:Int)∧e.val=((letB B s).2:Int)
theorem EdP.mono {B:List Tree} {n m:Nat} {e:Edg} (h:EdP B n e) (hm:n≤m):EdP B m e:=⟨by have:=h.1;omega,by have:=h.2.1;omega,h.2.2⟩
structure ExI (B:List Tree) (U:List Int) (n0 i:Nat) (x:TrS):Prop where
 rows:∀ r∈x.L,RowP B.length U r
 base:n0≤x.L.length
 acc:x.acc.length=i
 le:i≤x.L.length
 edl:x.ed.length≤i * 2 ^ B.length
 ln:x.L.length≤n0+i * 2 ^ B.length
 ed:∀ e∈x.ed,EdP B x.L.length e
theorem z965 {B : List Tree} {U : List Int} {s : Int} {q i : Nat} (hq : U.length = 0 ∧ q = 0 ∨ q < U.length) : ∀ (l : List Nat) (y : List (List Int) × List Edg), (∀ t ∈ l, t < 2 ^ B.length) → (∀ r ∈ y.1, RowP B.length U r) → i < y.1.length → (∀ e ∈ y.2, EdP B y.1.length e) →
  (∀ r∈(l.foldl (z101 B s q i (letB B s).1 (letB B s).2) y).1,RowP B.length U r)∧y.1.length≤(l.foldl (z101 B s q i (letB B s).1 (letB B s).2) y).1.length∧(l.foldl (z101 B s q i (letB B s).1 (letB B s).2) y).1.length≤y.1.length+l.length ∧
  (l.foldl (z101 B s q i (letB B s).1 (letB B s).2) y).2.length≤y.2.length+l.length∧∀ e∈(l.foldl (z101 B s q i (letB B s).1 (letB B s).2) y).2,EdP B (l.foldl (z101 B s q i (letB B s).1 (letB B s).2) y).1.length e
 |[],y,_,h1,_,h2=>⟨h1,y59 _,y59 _,y59 _,h2⟩
 |t::l,y,hl,h1,hi,h2=>by
  rw [List.foldl_cons,y64]
  have hst : (∀ r ∈ (z101 B s q i (letB B s).1 (letB B s).2 y t).1, RowP B.length U r) ∧ y.1.length ≤ (z101 B s q i (letB B s).1 (letB B s).2 y t).1.length ∧ (z101 B s q i (letB B s).1 (letB B s).2 y t).1.length ≤ y.1.length + 1 ∧
    (z101 B s q i (letB B s).1 (letB B s).2 y t).2.length≤y.2.length+1∧∀ e∈(z101 B s q i (letB B s).1 (letB B s).2 y t).2,EdP B (z101 B s q i (letB B s).1 (letB B s).2 y t).1.length e:=by
   unfold z101
   split
   ·obtain ⟨p1,p2,p3⟩:=z681 y.1 [(t:Int),(q:Int)]
    refine ⟨fun r hr=>?_,p1,p2,by simp,fun e he=>?_⟩
    ·rcases z1135 hr with h|h
     ·exact h1 r h
     ·rw [h];exact ⟨t,q,rfl,hl t (by simp),hq⟩
    ·rcases List.mem_append.1 he with h|h
     ·exact (h2 e h).mono p1
     ·rw [List.mem_singleton.1 h]
      refine ⟨⟨?_,?_⟩,⟨?_,?_⟩,s,rfl,rfl⟩
      ·show (0:Int)≤(i:Int);omega
      ·show (i:Int) < ((z124 y.1 [(t:Int),(q:Int)]).length:Int);omega
      ·show (0:Int)≤(z189 y.1 [(t:Int),(q:Int)]:Int);omega
      ·show (z189 y.1 [(t:Int),(q:Int)]:Int) < ((z124 y.1 [(t:Int),(q:Int)]).length:Int);omega
   ·exact ⟨h1,y59 _,by omega,by omega,h2⟩
  obtain ⟨a1,a2,a3,a4,a5⟩:=hst
  have hi2:i < (z101 B s q i (letB B s).1 (letB B s).2 y t).1.length:=by omega
  obtain ⟨b1,b2,b3,b4,b5⟩:=z965 hq l (z101 B s q i (letB B s).1 (letB B s).2 y t) (fun x hx=>hl x (y79 _ hx)) a1 hi2 a5
  exact ⟨b1,by omega,by omega,by omega,b5⟩
theorem ExI.step {B:List Tree} {U:List Int} {n0 i:Nat} {x:TrS} (h:ExI B U n0 i x) (hi:i < x.L.length):ExI B U n0 (i+1) (z184 B U i x)∧x.L.length≤(z184 B U i x).L.length:=by
 obtain ⟨s,ph,er,hs,hp⟩:=h.rows (x.L.getD i []) (by rw [z18 hi];exact y51 _)
 obtain ⟨q,eq,hq⟩:=z946 (B:=B) (s:=s) hp
 have e:z184 B U i x=⟨((List.range (2 ^ B.length)).foldl (z101 B s q i (letB B s).1 (letB B s).2) (x.L,x.ed)).1,x.acc++[(phB B U s ph).2],((List.range (2 ^ B.length)).foldl (z101 B s q i (letB B s).1 (letB B s).2) (x.L,x.ed)).2⟩:=by
  unfold z184
  dsimp only
  rw [er,← eq];rfl
 have hf:=z965 (B:=B) (U:=U) (s:=(s:Int)) (i:=i) hq (List.range (2 ^ B.length)) (x.L,x.ed) (fun t ht=>List.mem_range.1 ht) h.rows hi h.ed
 rw [e]
 generalize (List.range (2 ^ B.length)).foldl (z101 B s q i (letB B s).1 (letB B s).2) (x.L,x.ed)=y at *
 rw [List.length_range] at hf
 dsimp only at hf
 obtain ⟨a1,a2,a3,a4,a5⟩:=hf
 have h1:=h.base;have h2:=h.acc;have h3:=h.edl;have h4:=h.ln
 refine ⟨⟨a1,?_,?_,?_,?_,?_,a5⟩,a2⟩
 ·show n0≤y.1.length;omega
 ·show (x.acc++[_]).length=i+1;simp [h2]
 ·show i+1≤y.1.length;omega
 ·show y.2.length≤(i+1) * 2 ^ B.length;rw [Nat.add_mul];omega
 ·show y.1.length≤n0+(i+1) * 2 ^ B.length;rw [Nat.add_mul];omega
theorem z1137 {c a m:Nat} (h:a &&& c=a):(a ||| m) &&& (c ||| m)=a ||| m∧a &&& (c ||| m)=a:=by
 have hb:∀ i,(a.testBit i && c.testBit i)=a.testBit i:=fun i=>by have:=congrArg (fun x=>x.testBit i) h;simpa [Nat.testBit_and] using this
 constructor
 ·apply Nat.eq_of_testBit_eq
  intro i
  have:=hb i
  simp only [Nat.testBit_and,Nat.testBit_or]
  cases ha:a.testBit i<;>cases hc:c.testBit i<;>cases hm:m.testBit i<;>simp_all
 ·apply Nat.eq_of_testBit_eq
  intro i
  have:=hb i
  simp only [Nat.testBit_and,Nat.testBit_or]
  cases ha:a.testBit i<;>cases hc:c.testBit i<;>cases hm:m.testBit i<;>simp_all
theorem letB_sub (B:List Tree) (s:Int):(letB B s).2 &&& (letB B s).1=(letB B s).2:=by
 have:∀ n:Nat,((List.range n).foldl (atoI B s) (0,0)).2 &&& ((List.range n).foldl (atoI B s) (0,0)).1=((List.range n).foldl (atoI B s) (0,0)).2:=by
  intro n
  induction n with
  |zero=>show (0:Nat) &&& 0=0;rfl
  |succ n ih =>
   rw [y68,y69]
   show (atoI B s _ n).2 &&& (atoI B s _ n).1=(atoI B s _ n).2
   generalize (List.range n).foldl (atoI B s) (0,0)=p at *
   unfold atoI
   split
   ·dsimp only
    split
    ·exact (z1137 ih).1
    ·exact (z1137 ih).2
   ·exact ih
 exact this _
theorem Tree.count_sz (t:Tree):∀ d:Int,t.shapeF d=true→t.count d=1+(t.sz:Int):=by
 induction t using y32 with|h t ih=>?_
 intro d hs
 rw [y37] at hs
 rw [y20,if_pos (by omega),y44]
 have key:∀ l:List Tree,(∀ u∈l,u.count (d - 1)=1+(u.sz:Int))→(l.map fun t=>t.count (d - 1)).sum=(l.length:Int)+((l.map Tree.sz).sum:Nat):=by
  intro l
  induction l with
  |nil=>intro _;rfl
  |cons a l ihl =>
   intro h
   have h1:=h a (by simp)
   have h2:=ihl fun u hu=>h u (by simp [hu])
   simp only [List.map_cons,List.sum_cons,y64]
   rw [h1,h2];omega
 rw [key t.kids fun u hu=>ih u hu (d - 1) (hs.2 u hu)]
 omega
theorem fm_sz {t:Tree} (h:t.fmB=true):t.sz≤11:=by
 rw [y26,y77,decide_eq_true_eq] at h
 have:=Tree.count_sz t 6 h.1
 omega
end Go.Gl
namespace Go.Gl
open Go.RowKit Go.WideShapes Go.ChangeShapes
variable {P:Program}
def OpensD {α:Type} (P:Program) (t:TypeId) (enc:α→List AC) (ok:α→Prop):Prop:=∀ k,Opens P t (fun xs=>∃ a,xs=enc a∧ok a) k
theorem z446 {t:TypeId} (ht:P.underlying t=some (.int .i64)) {enc:Int→List AC} (he:∀ n,enc n=[.int n]):OpensD P t enc (fun n=>(Lit.int .i64 n).wf=true):=fun k =>
 (z1139 ht k).imp fun xs ⟨n,h1,h2⟩=>⟨n,h1.trans (he n).symm,h2⟩
theorem z638 {α:Type} {enc:α→List AC} {ok:α→Prop} : (es:List (List AC))→(∀ y∈es,∃ a,y=enc a∧ok a)→∃ l:List α,es=l.map enc∧∀ a∈l,ok a
 |[],_=>⟨[],rfl,fun _ h=>by cases h⟩
 |e::es,h=>by
  obtain ⟨a,h1,h2⟩:=h e (by simp)
  obtain ⟨l,h3,h4⟩:=z638 es fun y hy=>h y (by simp [hy])
  exact ⟨a::l,by rw [h1,h3];rfl,fun b hb=>by
   rcases List.mem_cons.1 hb with rfl|hb
   ·exact h2
   ·exact h4 b hb⟩
theorem z621 {α : Type} {t e : TypeId} {enc : α → List AC} {ok : α → Prop} {n k : Nat} (ht : P.underlying t = some (.slice e)) (hc : P.cellsOf e = n) (hn : 0 < n) (h : Opens P e (fun xs => ∃ a, xs = enc a ∧ ok a) k) :
    Opens P t (fun xs=>∃ l:List α,xs=[.list n l.length (l.map enc)]∧l.length≤maxLen∧∀ a∈l,ok a) (k+1) :=
  (z875 ht hc hn h).imp fun xs ⟨es,h1,h2,h3⟩=>by
    obtain ⟨l,rfl,h4⟩:=z638 es h3
    exact ⟨l,by rw [h1];simp,by simpa using h2,h4⟩
theorem z682 {α : Type} {t e : TypeId} {enc : α → List AC} {ok : α → Prop} (n : Nat) (ht : P.underlying t = some (.slice e)) (hc : P.cellsOf e = n) (hn : 0 < n) (h : OpensD P e enc ok) {encL : List α → List AC} (he : ∀ l, encL l = [.list n l.length (l.map enc)]) :
    OpensD P t encL (fun l=>l.length≤maxLen∧∀ a∈l,ok a)
  | 0=>z237
  | k+1=>(z621 ht hc hn (h k)).imp fun xs ⟨l,h1,h2⟩=>⟨l,h1.trans (he l).symm,h2⟩
theorem OpensD.imp {α β:Type} {t:TypeId} {enc:α→List AC} {ok:α→Prop} {enc' : β→List AC} {ok' : β→Prop} (h:OpensD P t enc ok) (hi:∀ a,ok a→∃ b,enc a=enc' b∧ok' b):OpensD P t enc' ok':=fun k =>
 (h k).imp fun xs ⟨a,h1,h2⟩=>by
  obtain ⟨b,h3,h4⟩:=hi a h2
  exact ⟨b,h1.trans h3,h4⟩
theorem z622 {α β γ : Type} {t : TypeId} {F1 F2 : Field} {e1 : α → List AC} {ok1 : α → Prop} {e2 : β → List AC} {ok2 : β → Prop} {enc : γ → List AC} (mk : α → β → γ) (ht : P.underlying t = some (.struct #[F1, F2])) (o1 : F1.offset = 0) (o2 : F2.offset = 0 + P.cellsOf F1.type) (hs : P.cellsOf F1.type + (P.cellsOf F2.type + 0) = P.cellsOf t)
    (h1:OpensD P F1.type e1 ok1) (h2:OpensD P F2.type e2 ok2) (he:∀ a b,enc (mk a b)=e1 a++(e2 b++[])):OpensD P t enc (fun x=>∃ a b,x=mk a b∧ok1 a∧ok2 b)
  | 0=>z237
  | k + 1 => z289 (fs := [F1, F2]) ht (by simpa using hs) ⟨o1, _, (fun xs => ∃ b, xs = e2 b ++ [] ∧ ok2 b), h1 k, ⟨o2, _, _, h2 k, rfl (a := ([] : List AC)), by
      rintro _ _ ⟨b,rfl,h⟩ rfl
      exact ⟨b,rfl,h⟩⟩,by
      rintro _ _ ⟨a,rfl,h⟩ ⟨b,rfl,h'⟩
      exact ⟨mk a b,(he a b).symm,a,b,rfl,h,h'⟩⟩
theorem z1011 {α β γ δ : Type} {t : TypeId} {F1 F2 F3 : Field} {e1 : α → List AC} {ok1 : α → Prop} {e2 : β → List AC} {ok2 : β → Prop} {e3 : γ → List AC} {ok3 : γ → Prop} {enc : δ → List AC} (mk : α → β → γ → δ) (ht : P.underlying t = some (.struct #[F1, F2, F3])) (o1 : F1.offset = 0) (o2 : F2.offset = 0 + P.cellsOf F1.type) (o3 : F3.offset = 0 + P.cellsOf F1.type + P.cellsOf F2.type)
    (hs:P.cellsOf F1.type+(P.cellsOf F2.type+(P.cellsOf F3.type+0))=P.cellsOf t) {k:Nat}
    (h1:Opens P F1.type (fun xs=>∃ a,xs=e1 a∧ok1 a) k) (h2:Opens P F2.type (fun xs=>∃ a,xs=e2 a∧ok2 a) k) (h3:Opens P F3.type (fun xs=>∃ a,xs=e3 a∧ok3 a) k) (he:∀ a b c,enc (mk a b c)=e1 a++(e2 b++(e3 c++[]))):Opens P t (fun xs=>∃ x,xs=enc x∧∃ a b c,x=mk a b c∧ok1 a∧ok2 b∧ok3 c) (k+1) :=
  z289 (fs := [F1, F2, F3]) ht (by simpa using hs) ⟨o1, _, (fun xs => ∃ b c, xs = e2 b ++ (e3 c ++ []) ∧ ok2 b ∧ ok3 c), h1, ⟨o2, _, (fun xs => ∃ b, xs = e3 b ++ [] ∧ ok3 b), h2, ⟨o3, _, _, h3, rfl (a := ([] : List AC)), by
      rintro _ _ ⟨b,rfl,h⟩ rfl
      exact ⟨b,rfl,h⟩⟩,by
      rintro _ _ ⟨b,rfl,h⟩ ⟨c,rfl,h'⟩
      exact ⟨b,c,rfl,h,h'⟩⟩,by
      rintro _ _ ⟨a,rfl,h⟩ ⟨b,c,rfl,h',h''⟩
      exact ⟨mk a b c,(he a b c).symm,a,b,c,rfl,h,h',h''⟩⟩
theorem OpensD.of_succ {α:Type} {t:TypeId} {enc:α→List AC} {ok:α→Prop} (h:∀ k,Opens P t (fun xs=>∃ a,xs=enc a∧ok a) (k+1)):OpensD P t enc ok
 |0=>z237
 |k+1=>h k
def ArgD {α:Type} (P:Program) (t:TypeId) (enc:α→AC) (ok:α→Prop):Prop:=ArgOk P t fun x _=>∃ a,x=enc a∧ok a
theorem ArgOk.imp {t:TypeId} {R R' : AC→Nat→Prop} (h:ArgOk P t R) (hi:∀ x m,R x m→R' x m):ArgOk P t R':=fun H enc b hB W r b0 v d ps hv hk=>by
 obtain ⟨x,m,h1,h2⟩:=h H enc b hB W r b0 v d ps hv hk
 exact ⟨x,m,hi _ _ h1,h2⟩
theorem z1221 {α:Type} {t e:TypeId} {enc:α→List AC} {ok:α→Prop} {enc1:α→AC} (ht:P.underlying t=some (.slice e)) (h:OpensD P t enc ok) (he:∀ a,enc a=[enc1 a]):ArgD P t enc1 ok :=
 (z921 ht h).imp fun x m ⟨⟨a,h1,h2⟩,_⟩=>⟨a,by rw [he] at h1;exact (List.cons.inj h1).1,h2⟩
theorem z575 {α:Type} {t:TypeId} {fs:Array Field} {enc:α→List AC} {ok:α→Prop} (ht:P.underlying t=some (.struct fs)) (h:OpensD P t enc ok):ArgD P t (fun a=>.agg (enc a)) ok :=
 (z823 ht h).imp fun x m ⟨xs,h1,⟨a,h2,h3⟩,_⟩=>⟨a,by rw [h1,h2],h3⟩
theorem ArgD.imp {α β:Type} {t:TypeId} {enc:α→AC} {ok:α→Prop} {enc' : β→AC} {ok' : β→Prop} (h:ArgD P t enc ok) (hi:∀ a,ok a→∃ b,enc a=enc' b∧ok' b):ArgD P t enc' ok' :=
 ArgOk.imp h fun x m ⟨a,h1,h2⟩=>by
  obtain ⟨b,h3,h4⟩:=hi a h2
  exact ⟨b,h1.trans h3,h4⟩
theorem ArgsOk.imp : {ts:List TypeId}→{R R' : List AC→Nat→Prop}→ArgsOk P ts R→(∀ xs m,R xs m→R' xs m)→ArgsOk P ts R'
 |[],_,_,h,hi=>hi _ _ h
 |_::_,_,_,⟨R1,R2,h1,h2,h3⟩,hi=>⟨R1,R2,h1,h2,fun a m as n ha has=>hi _ _ (h3 a m as n ha has)⟩
theorem args_nil:ArgsOk P [] (fun xs _=>xs=[]):=rfl
theorem z574 {α:Type} {t:TypeId} {ts:List TypeId} {enc:α→AC} {ok:α→Prop} {R:List AC→Prop} (h:ArgD P t enc ok) (k:ArgsOk P ts (fun xs _=>R xs)):ArgsOk P (t::ts) (fun xs _=>∃ a ys,xs=enc a::ys∧ok a∧R ys) :=
 ⟨_,_,h,k,fun _ _ as _ ⟨b,h1,h2⟩ h3=>⟨b,as,by rw [h1],h2,h3⟩⟩
theorem z306 {H:Type} : (l:List (DataW H))→z439 SizeOf.sizeOf l+1≤SizeOf.sizeOf l
 |[]=>by simp [z439]
 |d::r=>by
  have:=z306 r
  simp only [z439,List.cons.sizeOf_spec]
  omega
theorem z912 {H:Type} : Bulk (H:=H) SizeOf.sizeOf where
 lit l:=by simp only [DataW.lit.sizeOf_spec];omega
 nil:=by simp
 slice es sp:=by
  have:=z306 es
  simp only [DataW.slice.sizeOf_spec];omega
 agg ps:=by
  have:=z306 ps
  simp only [DataW.agg.sizeOf_spec];omega
end Go.Gl
namespace Go.Gl
section
variable {rows:List (List Int)} {ini:List Int} {acc:List Bool}
def GrowR (rows:List (List Int)) (ini:List Int) (acc:List Bool) (R:List Int):Prop:=∀ u,RP rows ini u→R.getD u.toNat 0≤rkU rows acc R u
structure RoundI (rows:List (List Int)) (ini:List Int) (acc:List Bool) (t:Nat) (R:List Int) (c:Bool):Prop where
 rk:RkI rows ini acc t R
 gr:GrowR rows ini acc R
 off:∀ j:Nat,¬ RP rows ini j→R.getD j 0=0
 fin:c=false→∀ u,RP rows ini u→R.getD u.toNat 0=Wt rows acc (bfsL rows ini).length u
 lt:c=true→t≤(bfsL rows ini).length
theorem RoundI.init (hr:∀ r∈rows,InN rows.length r) (hin:InN rows.length ini):RoundI rows ini acc 0 (List.replicate rows.length 0) true:=by
 have h0:∀ j:Nat,(List.replicate rows.length (0:Int)).getD j 0=0:=fun j=>by
  rw [y74,List.getElem?_replicate];split<;>rfl
 refine ⟨⟨by simp,fun u hu=>by rw [h0];exact Int.le_refl _,fun u hu=>by rw [h0];exact Wt_nn _ _⟩,fun u hu=>?_,fun j _=>h0 j,(fun h=>by cases h),fun _=>y60 _⟩
 rw [h0]
 unfold rkU
 rw [rkOf_eq]
 exact (z435 _ _ _).1
end
end Go.Gl
namespace Go.Gl
def rowS (L:List (List Int)) (k:Nat):Int:=(L.getD k []).getD 0 0
def rowQ (L:List (List Int)) (k:Nat):Int:=(L.getD k []).getD 1 0
def EdX (B:List Tree) (U:List Int) (L:List (List Int)) (e:Edg) (k t:Nat):Prop :=
 e.src=(k:Int)∧e.care=((letB B (rowS L k)).1:Int)∧e.val=((letB B (rowS L k)).2:Int)∧∃ j:Nat,e.dst=j∧j < L.length∧L.getD j []=[(t:Int),(phB B U (rowS L k) (rowQ L k)).1]
theorem z215 {α:Type} {L suf:List α} {k:Nat} {d:α} (h:k < L.length):(L++suf).getD k d=L.getD k d:=by
 rw [y74,y74,y72 h]
theorem EdX.pre {B:List Tree} {U:List Int} {L suf:List (List Int)} {e:Edg} {k t:Nat} (hk:k < L.length) (h:EdX B U L e k t):EdX B U (L++suf) e k t:=by
 unfold EdX rowS rowQ at *
 rw [z215 hk]
 obtain ⟨h1,h2,h3,j,h4,h5,h6⟩:=h
 exact ⟨h1,h2,h3,j,h4,by simp;omega,by rw [z215 h5];exact h6⟩
theorem z1134 (L:List (List Int)) (p:List Int):(∃ suf,z124 L p=L++suf)∧(z124 L p).getD (z189 L p) []=p:=by
 unfold z124 z189
 by_cases h:p∈L
 ·rw [if_pos h]
  refine ⟨⟨[],by simp⟩,?_⟩
  rw [z18 (List.idxOf_lt_length_of_mem h)]
  exact List.getElem_idxOf _
 ·rw [if_neg h,List.idxOf_eq_length h]
  exact ⟨⟨[p],rfl⟩,by simp [y74]⟩
theorem z1193 {B : List Tree} {U : List Int} {s p : Int} {q : Int} {i : Nat} (hq : (phB B U s p).1 = q) : ∀ (l : List Nat) (y : List (List Int) × List Edg), i < y.1.length → rowS y.1 i = s → rowQ y.1 i = p →
  (∃ suf,(l.foldl (z101 B s q i (letB B s).1 (letB B s).2) y).1=y.1++suf)∧(∀ e∈y.2,e∈(l.foldl (z101 B s q i (letB B s).1 (letB B s).2) y).2) ∧
  (∀ e∈(l.foldl (z101 B s q i (letB B s).1 (letB B s).2) y).2,e∈y.2∨∃ t∈l,folB B s t=true∧EdX B U (l.foldl (z101 B s q i (letB B s).1 (letB B s).2) y).1 e i t) ∧
  (∀ t∈l,folB B s t=true→∃ e∈(l.foldl (z101 B s q i (letB B s).1 (letB B s).2) y).2,EdX B U (l.foldl (z101 B s q i (letB B s).1 (letB B s).2) y).1 e i t)
 |[],y,_,_,_=>⟨⟨[],by simp⟩,fun _ h=>h,fun _ h=>.inl h,fun _ h=>by cases h⟩
 |t::l,y,hi,h1,h2=>by
  rw [List.foldl_cons]
  by_cases hf:folB B s t=true
  ·have he:z101 B s q i (letB B s).1 (letB B s).2 y t=(z124 y.1 [(t:Int),q],y.2++[⟨i,(letB B s).1,(letB B s).2,z189 y.1 [(t:Int),q]⟩]):=if_pos hf
   obtain ⟨⟨suf,hs⟩,hg⟩:=z1134 y.1 [(t:Int),q]
   have hlt:=(z681 y.1 [(t:Int),q]).2.2
   rw [he]
   have hi2:i < (z124 y.1 [(t:Int),q]).length:=by rw [hs];simp;omega
   have r1:rowS (z124 y.1 [(t:Int),q]) i=s:=by unfold rowS;rw [hs,z215 hi];exact h1
   have r2:rowQ (z124 y.1 [(t:Int),q]) i=p:=by unfold rowQ;rw [hs,z215 hi];exact h2
   obtain ⟨⟨suf2,a1⟩,a2,a3,a4⟩:=z1193 hq l (z124 y.1 [(t:Int),q],y.2++[⟨i,(letB B s).1,(letB B s).2,z189 y.1 [(t:Int),q]⟩]) hi2 r1 r2
   have hx:EdX B U (z124 y.1 [(t:Int),q]) ⟨i,(letB B s).1,(letB B s).2,z189 y.1 [(t:Int),q]⟩ i t:=by
    refine ⟨rfl,by rw [r1],by rw [r1],z189 y.1 [(t:Int),q],rfl,hlt,?_⟩
    rw [r1,r2,hq];exact hg
   have hx2:=EdX.pre (suf:=suf2) hi2 hx
   rw [← a1] at hx2
   refine ⟨⟨suf++suf2,by rw [a1,hs,List.append_assoc]⟩,fun e h=>a2 e (List.mem_append.2 (.inl h)),fun e h=>?_,fun u hu hfu=>?_⟩
   ·rcases a3 e h with h|⟨u,hu,hfu,hxu⟩
    ·rcases List.mem_append.1 h with h|h
     ·exact .inl h
     ·rw [List.mem_singleton.1 h]
      exact .inr ⟨t,by simp,hf,hx2⟩
    ·exact .inr ⟨u,y79 _ hu,hfu,hxu⟩
   ·rcases List.mem_cons.1 hu with rfl|hu
    ·exact ⟨_,a2 _ (List.mem_append.2 (.inr (List.mem_singleton.2 rfl))),hx2⟩
    ·exact a4 u hu hfu
  ·have he:z101 B s q i (letB B s).1 (letB B s).2 y t=y:=if_neg hf
   rw [he]
   obtain ⟨a1,a2,a3,a4⟩:=z1193 hq l y hi h1 h2
   refine ⟨a1,a2,fun e h=>(a3 e h).imp id fun ⟨u,hu,h⟩=>⟨u,y79 _ hu,h⟩,fun u hu hfu=>?_⟩
   rcases List.mem_cons.1 hu with rfl|hu
   ·exact absurd hfu hf
   ·exact a4 u hu hfu
structure TInv (B:List Tree) (U:List Int) (i:Nat) (x:TrS):Prop where
 le:i≤x.L.length
 e1:∀ e∈x.ed,∃ k t:Nat,k < i∧t < 2 ^ B.length∧folB B (rowS x.L k) t=true∧EdX B U x.L e k t
 e2:∀ k t:Nat,k < i→t < 2 ^ B.length→folB B (rowS x.L k) t=true→∃ e∈x.ed,EdX B U x.L e k t
 al:x.acc.length=i
 ac:∀ k,k < i→x.acc.getD k false=(phB B U (rowS x.L k) (rowQ x.L k)).2
theorem TInv.step {B:List Tree} {U:List Int} {i:Nat} {x:TrS} (h:TInv B U i x) (hi:i < x.L.length):TInv B U (i+1) (z184 B U i x)∧∃ suf,(z184 B U i x).L=x.L++suf:=by
 have e:z184 B U i x=⟨((List.range (2 ^ B.length)).foldl (z101 B (rowS x.L i) (phB B U (rowS x.L i) (rowQ x.L i)).1 i (letB B (rowS x.L i)).1 (letB B (rowS x.L i)).2) (x.L,x.ed)).1,x.acc++[(phB B U (rowS x.L i) (rowQ x.L i)).2],((List.range (2 ^ B.length)).foldl (z101 B (rowS x.L i) (phB B U (rowS x.L i) (rowQ x.L i)).1 i (letB B (rowS x.L i)).1 (letB B (rowS x.L i)).2) (x.L,x.ed)).2⟩:=rfl
 have hx:=z1193 (B:=B) (U:=U) (s:=rowS x.L i) (p:=rowQ x.L i) (i:=i) rfl (List.range (2 ^ B.length)) (x.L,x.ed) hi rfl rfl
 rw [e]
 generalize (List.range (2 ^ B.length)).foldl (z101 B (rowS x.L i) (phB B U (rowS x.L i) (rowQ x.L i)).1 i (letB B (rowS x.L i)).1 (letB B (rowS x.L i)).2) (x.L,x.ed)=y at *
 obtain ⟨⟨suf,a1⟩,a2,a3,a4⟩:=hx
 dsimp only at a1 a2 a3 a4
 have hrow:∀ k,k < x.L.length→rowS y.1 k=rowS x.L k∧rowQ y.1 k=rowQ x.L k:=fun k hk=>by
  unfold rowS rowQ;rw [a1,z215 hk];exact ⟨rfl,rfl⟩
 have hle:=h.le
 refine ⟨⟨?_,?_,?_,?_,?_⟩,suf,a1⟩
 ·show i+1≤y.1.length;rw [a1];simp;omega
 ·intro e he
  rcases a3 e he with h1|⟨t,ht,hf,hx⟩
  ·obtain ⟨k,t,hk,ht,hf,hx⟩:=h.e1 e h1
   refine ⟨k,t,by omega,ht,?_,?_⟩
   ·show folB B (rowS y.1 k) t=true;rw [(hrow k (by omega)).1];exact hf
   ·show EdX B U y.1 e k t;rw [a1];exact hx.pre (by omega)
  ·exact ⟨i,t,by omega,List.mem_range.1 ht,by show folB B (rowS y.1 i) t=true;rw [(hrow i hi).1];exact hf,hx⟩
 ·intro k t hk ht hf
  change folB B (rowS y.1 k) t=true at hf
  by_cases hki:k=i
  ·subst hki
   rw [(hrow k hi).1] at hf
   exact a4 t (List.mem_range.2 ht) hf
  ·rw [(hrow k (by omega)).1] at hf
   obtain ⟨e,he,hx⟩:=h.e2 k t (by omega) ht hf
   exact ⟨e,a2 e he,by show EdX B U y.1 e k t;rw [a1];exact hx.pre (by omega)⟩
 ·show (x.acc++[_]).length=i+1;simp [h.al]
 ·intro k hk
  show (x.acc++[_]).getD k false=(phB B U (rowS y.1 k) (rowQ y.1 k)).2
  by_cases hki:k=i
  ·subst hki
   rw [(hrow k hi).1,(hrow k hi).2,y74,y73 (by rw [h.al];exact y59 _),h.al]
   simp
  ·rw [(hrow k (by omega)).1,(hrow k (by omega)).2,z215 (by rw [h.al];omega)]
   exact h.ac k (by omega)
theorem goS_T {B:List Tree} {U:List Int} : ∀ (f i:Nat) (x y:TrS),TInv B U i x→goS B U f i x=some y→TInv B U y.L.length y∧∃ suf,y.L=x.L++suf
 |0,i,x,y,_,h=>by simp [goS] at h
 |f+1,i,x,y,hI,h=>by
  rw [goS] at h
  split at h
  ·rename_i hi
   split at h
   ·cases h
   ·obtain ⟨h1,suf,h2⟩:=hI.step hi
    obtain ⟨h3,suf2,h4⟩:=goS_T f (i+1) _ y h1 h
    exact ⟨h3,suf++suf2,by rw [h4,h2,List.append_assoc]⟩
  ·cases h
   have:i=x.L.length:=by have:=hI.le;omega
   rw [this] at hI
   exact ⟨hI,[],by simp⟩
theorem trS_T {B:List Tree} {g:Tree} {y:TrS} (h:trS B g=some y):TInv B (untB B) y.L.length y∧∃ suf,y.L=iniS B g++suf :=
 goS_T 65 0 ⟨iniS B g,[],[]⟩ y ⟨y60 _,fun e he=>by (cases he),fun k t hk=>absurd hk (Nat.not_lt_zero _),rfl,fun k hk=>absurd hk (Nat.not_lt_zero _)⟩ h
theorem z487 (n i:Nat):hasB (n:Int) (i:Int)=n.testBit i:=by
 unfold hasB
 rw [Nat.testBit_eq_decide_div_mod_eq]
 have e:((n:Int) / 2 ^ ((i:Int).toNat)).toNat=n / 2 ^ i:=by
  rw [y83]
  have:((n:Int) / 2 ^ i)=((n / 2 ^ i:Nat):Int):=by norm_cast
  rw [this,y83]
 rw [e,show (1:Int).toNat=1 from rfl,Nat.and_one_is_mod,decide_eq_decide]
 omega
theorem z1214 (f:Nat→Bool):∀ n:Nat,∃ s,s < 2 ^ n∧∀ i,i < n→s.testBit i=f i
 |0=>⟨0,by simp,fun i h=>by omega⟩
 |n+1=>by
  obtain ⟨s,h1,h2⟩:=z1214 f n
  have hp:2 ^ (n+1)=2 ^ n+2 ^ n:=by rw [Nat.pow_succ];omega
  cases hf:f n with
  |false =>
   refine ⟨s,by omega,fun i hi=>?_⟩
   rcases y76 i n with h|h
   ·exact h2 i h
   ·obtain rfl:i=n:=by omega
    rw [hf];exact Nat.testBit_lt_two_pow h1
  |true =>
   refine ⟨2 ^ n+s,by omega,fun i hi=>?_⟩
   rcases y76 i n with h|h
   ·rw [Nat.testBit_two_pow_add_gt h];exact h2 i h
   ·obtain rfl:i=n:=by omega
    rw [Nat.testBit_two_pow_add_eq,Nat.testBit_lt_two_pow h1,hf];rfl
structure BOk (B:List Tree):Prop where
 nd:B.Nodup
 cl:∀ x∈B,In (·∈B) x
 bk:∀ x∈B,z75 x=true
 av:∀ v,Tree.mk 2 v []∈B→0≤v∧v≤2
section
variable {B:List Tree}
theorem BOk.at_ (hB:BOk B) {x:Tree} (hx:x∈B) (hk:x.kind=2):∃ b:Nat,x=.mk 2 (b:Int) []:=by
 cases hB.cl x hx with
 |«at» v hv=>exact ⟨v.toNat,by have:=hB.av v hv;rw [Int.toNat_of_nonneg this.1]⟩
 |tr=>simp [Tree.kind] at hk
 |nt=>simp [Tree.kind] at hk
 |na v _=>simp [Tree.kind] at hk
 |an _ _=>simp [Tree.kind] at hk
 |or _ _=>simp [Tree.kind] at hk
 |nx _ _=>simp [Tree.kind] at hk
 |un _ _ _=>simp [Tree.kind] at hk
 |re _ _ _=>simp [Tree.kind] at hk
theorem z1158 (B : List Tree) (s : Int) (n : Nat) : (∀ b, ((List.range n).foldl (atoI B s) (0, 0)).1.testBit b = true ↔ ∃ i, i < n ∧ (B.getD i dftT).kind = 2 ∧ (B.getD i dftT).val.toNat = b) ∧
  (∀ b,((List.range n).foldl (atoI B s) (0,0)).2.testBit b=true↔∃ i,i < n∧(B.getD i dftT).kind=2∧(B.getD i dftT).val.toNat=b∧hasB s i=true):=by
 induction n with
 |zero=>simp
 |succ n ih =>
  rw [y68,y69]
  simp only [List.foldl_cons,List.foldl_nil]
  generalize (List.range n).foldl (atoI B s) (0,0)=p at *
  have key:∀ (P:Nat→Prop),(∃ i,i < n+1∧P i)↔(∃ i,i < n∧P i)∨P n:=fun P=>by
   constructor
   ·rintro ⟨i,h1,h2⟩
    rcases y76 i n with h|h
    ·exact .inl ⟨i,h,h2⟩
    ·obtain rfl:i=n:=by omega
     exact .inr h2
   ·rintro (⟨i,h1,h2⟩|h)
    ·exact ⟨i,by omega,h2⟩
    ·exact ⟨n,by omega,h⟩
  have k1:=fun b=>key fun i=>(B.getD i dftT).kind=2∧(B.getD i dftT).val.toNat=b
  have k2:=fun b=>key fun i=>(B.getD i dftT).kind=2∧(B.getD i dftT).val.toNat=b∧hasB s i=true
  constructor
  ·intro b
   rw [k1,← ih.1 b]
   unfold atoI
   generalize B.getD n dftT=f
   by_cases hk:f.kind=2
   ·rw [if_pos hk,Nat.testBit_or,Nat.testBit_two_pow]
    simp [hk]
   ·rw [if_neg hk];simp [hk]
  ·intro b
   rw [k2,← ih.2 b]
   unfold atoI
   generalize B.getD n dftT=f
   by_cases hk:f.kind=2
   ·rw [if_pos hk]
    by_cases hh:hasB s n=true
    ·simp only [hh,if_true]
     rw [Nat.testBit_or,Nat.testBit_two_pow]
     simp [hk]
    ·simp only [hh]
     simp
   ·rw [if_neg hk];simp [hk]
theorem z1157 (hB:BOk B) (s w:Int) (hw:0≤w):(w.toNat &&& (letB B s).1=(letB B s).2)↔∀ i,i < B.length→∀ v,B.getD i dftT=.mk 2 v []→hasB w v=hasB s i:=by
 obtain ⟨b1,b2⟩:=z1158 B s B.length
 obtain ⟨W,rfl⟩:=Int.eq_ofNat_of_zero_le hw
 have h1:∀ b,(letB B s).1.testBit b=true↔∃ i,i < B.length∧(B.getD i dftT).kind=2∧(B.getD i dftT).val.toNat=b:=b1
 have h2:∀ b,(letB B s).2.testBit b=true↔∃ i,i < B.length∧(B.getD i dftT).kind=2∧(B.getD i dftT).val.toNat=b∧hasB s i=true:=b2
 have hat:∀ i,i < B.length→(B.getD i dftT).kind=2→∃ b:Nat,B.getD i dftT=.mk 2 (b:Int) []:=fun i hi hk=>hB.at_ (by rw [z18 hi];exact y51 _) hk
 have huni:∀ i j,i < B.length→j < B.length→(B.getD i dftT).kind=2→(B.getD j dftT).kind=2→(B.getD i dftT).val.toNat=(B.getD j dftT).val.toNat→i=j:=fun i j hi hj k1 k2 e=>by
  obtain ⟨b,e1⟩:=hat i hi k1
  obtain ⟨c,e2⟩:=hat j hj k2
  rw [e1,e2] at e
  simp only [Tree.val,y83] at e
  have e3:B[i]=B[j]:=by rw [← z18 (d:=dftT) hi,← z18 (d:=dftT) hj,e1,e2,e]
  have hp:=List.pairwise_iff_getElem.1 (List.nodup_iff_pairwise_ne.1 hB.nd)
  rcases Nat.lt_trichotomy i j with h|h|h
  ·exact absurd e3 (hp i j hi hj h)
  ·exact h
  ·exact absurd e3.symm (hp j i hj hi h)
 rw [y83]
 constructor
 ·intro he i hi v hv
  obtain ⟨b,e1⟩:=hat i hi (by rw [hv];rfl)
  have ev:v=(b:Int):=by rw [hv] at e1;cases e1;rfl
  subst ev
  rw [z487]
  have hb:=congrArg (fun x=>x.testBit b) he
  simp only [Nat.testBit_and] at hb
  have c1:(letB B s).1.testBit b=true:=(h1 b).2 ⟨i,hi,by rw [hv];rfl,by rw [hv];simp [Tree.val]⟩
  rw [c1,Bool.and_true] at hb
  rw [hb,Bool.eq_iff_iff,h2 b]
  constructor
  ·rintro ⟨j,hj,k1,k2,k3⟩
   rw [← huni j i hj hi k1 (by rw [hv];rfl) (by rw [k2,hv];simp [Tree.val])];exact k3
  ·intro h
   exact ⟨i,hi,by rw [hv];rfl,by rw [hv];simp [Tree.val],h⟩
 ·intro h
  apply Nat.eq_of_testBit_eq
  intro b
  rw [Nat.testBit_and,Bool.eq_iff_iff,y77,h1 b,h2 b]
  constructor
  ·rintro ⟨hw,i,hi,k1,k2⟩
   obtain ⟨c,e1⟩:=hat i hi k1
   have hc:c=b:=by rw [e1] at k2;simpa [Tree.val] using k2
   refine ⟨i,hi,k1,k2,?_⟩
   rw [← h i hi _ e1,z487,hc];exact hw
  ·rintro ⟨i,hi,k1,k2,k3⟩
   obtain ⟨c,e1⟩:=hat i hi k1
   have hc:c=b:=by rw [e1] at k2;simpa [Tree.val] using k2
   refine ⟨?_,i,hi,k1,k2⟩
   rw [← hc,← z487,h i hi _ e1];exact k3
theorem z648 {B:Tree→Prop} {σ τ:Tree→Bool} (h:∀ x,B x→σ x=τ x) {t:Tree} (ht:In B t):t.vl σ=t.vl τ:=by
 induction ht with
 |tr=>rw [z497,z497]
 |«at» v hb=>rw [z460,z460];exact h _ hb
 |nt=>rw [z270,z270,z497,z497]
 |na v hb=>rw [z270,z270,z460,z460,h _ hb]
 |an _ _ iha ihb=>rw [z606,z606,iha,ihb]
 |or _ _ iha ihb=>rw [z976,z976,iha,ihb]
 |nx hb _ _=>rw [z977,z977];exact h _ hb
 |un hb _ _ _ _=>rw [z974,z974];exact h _ hb
 |re hb _ _ _ _=>rw [z975,z975];exact h _ hb
theorem z630 {x:Tree} (hx:x∈B):∃ i,∃ h:i < B.length,B[i]=x:=List.mem_iff_getElem.1 hx
theorem z372 (hB:BOk B) (s:Int) {i:Nat} (hi:i < B.length):sgB B s B[i]=hasB s i:=by
 unfold sgB;rw [plc_at hB.nd hi]
theorem fits_of (hB:BOk B) {w:Nat→Int} (hw:∀ k,0≤w k) {s:Nat→Int} (hf:∀ k,folB B (s k) (s (k+1))=true) (hl:∀ k,(w k).toNat &&& (letB B (s k)).1=(letB B (s k)).2):Fits w (·∈B) (fun k=>sgB B (s k)):=by
 have hI:∀ k i (hi:i < B.length),folV B (s k) (s (k+1)) B[i] (sgB B (s k) B[i]) (sgB B (s (k+1)) B[i])=sgB B (s k) B[i]:=fun k i hi=>by
  have h1:=hf k
  unfold folB at h1
  rw [y85] at h1
  have h2:=h1 i (List.mem_range.2 hi)
  unfold folI at h2
  rw [z18 hi] at h2
  rw [z372 hB _ hi,z372 hB _ hi]
  exact eq_of_beq h2
 refine ⟨fun k v hb=>?_,fun k a hb=>?_,fun k a b hb=>?_,fun k a b hb=>?_⟩
 ·obtain ⟨i,hi,e⟩:=z630 hb
  have h1:=(z1157 hB (s k) (w k) (hw k)).1 (hl k) i hi v (by rw [z18 hi];exact e)
  show sgB B (s k) _=_
  rw [← e,z372 hB _ hi];exact h1.symm
 ·obtain ⟨i,hi,e⟩:=z630 hb
  have h1:=hI k i hi
  rw [e] at h1
  simp [folV,kidV,Tree.kind,Tree.kids] at h1
  exact h1.symm
 ·obtain ⟨i,hi,e⟩:=z630 hb
  have h1:=hI k i hi
  rw [e] at h1
  simp [folV,kidV,Tree.kind,Tree.kids] at h1
  exact h1.symm
 ·obtain ⟨i,hi,e⟩:=z630 hb
  have h1:=hI k i hi
  rw [e] at h1
  simp [folV,kidV,Tree.kind,Tree.kids] at h1
  exact h1.symm
theorem fol_of (hB:BOk B) {w:Nat→Int} (hw:∀ k,0≤w k) {σ:Nat→Tree→Bool} (hF:Fits w (·∈B) σ) {s:Nat→Int} (hs:∀ k,∀ x∈B,sgB B (s k) x=σ k x) (k:Nat):folB B (s k) (s (k+1))=true∧(w k).toNat &&& (letB B (s k)).1=(letB B (s k)).2:=by
 have hv:∀ k t,In (·∈B) t→vlB B (s k) t=t.vl (σ k):=fun k t ht=>z648 (hs k) ht
 constructor
 ·unfold folB
  rw [y85]
  intro i hi
  have hi:=List.mem_range.1 hi
  unfold folI
  rw [z18 hi,← z372 hB _ hi,← z372 hB _ hi]
  have hx:B[i]∈B:=y51 hi
  have hin:=hB.cl _ hx
  have hbk:=hB.bk _ hx
  generalize B[i]=x at *
  rw [beq_iff_eq]
  cases hin with
  |tr=>simp [z75,Tree.kind] at hbk
  |«at» v _=>simp [folV,Tree.kind]
  |nt=>simp [z75,Tree.kind] at hbk
  |na v _=>simp [z75,Tree.kind] at hbk
  |an _ _=>simp [z75,Tree.kind] at hbk
  |or _ _=>simp [z75,Tree.kind] at hbk
  |nx hb ha =>
   have h1:=hF.nx k _ hb
   rw [← hs k _ hx,← hv (k+1) _ ha] at h1
   simp [folV,kidV,Tree.kind,Tree.kids]
   exact h1.symm
  |un hb ha hb2 =>
   have h1:=hF.un k _ _ hb
   rw [← hs k _ hx,← hs (k+1) _ hx,← hv k _ ha,← hv k _ hb2] at h1
   simp [folV,kidV,Tree.kind,Tree.kids]
   exact h1.symm
  |re hb ha hb2 =>
   have h1:=hF.re k _ _ hb
   rw [← hs k _ hx,← hs (k+1) _ hx,← hv k _ ha,← hv k _ hb2] at h1
   simp [folV,kidV,Tree.kind,Tree.kids]
   exact h1.symm
 ·refine (z1157 hB (s k) (w k) (hw k)).2 fun i hi v hv=>?_
  have hx:B[i]∈B:=y51 hi
  rw [z18 hi] at hv
  rw [← z372 hB _ hi,hv,hs k _ (hv ▸ hx),hF.at_ k v (hv ▸ hx)]
end
end Go.Gl
namespace Go.Gl
section
variable {n:Nat} {p:Nat→Nat} {F:Nat→Nat→Bool}
theorem ph_all (hp:∀ k,p k < n) (hs:∀ k,p (k+1)=if F k (p k)=true then (p k+1) % n else p k) (hi:∀ m,∃ k,m≤k∧p k=0∧F k 0=true) (j:Nat) (hj:j < n) (m:Nat):∃ k,m≤k∧p k=j∧F k j=true:=by
 by_cases h0:j=0
 ·subst h0;exact hi m
 obtain ⟨a,ha,pa,fa⟩:=hi m
 obtain ⟨b,hb,pb,fb⟩:=hi (a+1)
 refine y84 fun hno=>?_
 have hnf:∀ k,m≤k→p k=j→F k j=false:=fun k hk hpk=>by
  cases h:F k j with
  |false=>rfl
  |true=>exact absurd ⟨k,hk,hpk,h⟩ hno
 have key:∀ d,1≤p (a+1+d)∧p (a+1+d)≤j:=by
  intro d
  induction d with
  |zero =>
   have h1:=hs a
   rw [pa,fa,if_pos rfl,Nat.zero_add,Nat.mod_eq_of_lt (by omega)] at h1
   rw [Nat.add_zero,h1];omega
  |succ d ih =>
   have h1:=hs (a+1+d)
   rw [show a+1+(d+1)=a+1+d+1 by omega,h1]
   by_cases hpj:p (a+1+d)=j
   ·have h2:=hnf (a+1+d) (by omega) hpj
    rw [hpj,h2,if_neg (by simp)];omega
   ·split
    ·rw [Nat.mod_eq_of_lt (by omega)];omega
    ·exact ih
 have:=key (b - (a+1))
 rw [show a+1+(b - (a+1))=b by omega] at this
 omega
theorem ph_adv (hs:∀ k,p (k+1)=if F k (p k)=true then (p k+1) % n else p k):∀ (d m:Nat),F (m+d) (p m)=true→∃ k,m≤k∧p k=p m∧F k (p m)=true
 |0,m,h=>⟨m,y59 _,rfl,h⟩
 |d+1,m,h=>by
  by_cases hf:F m (p m)=true
  ·exact ⟨m,y59 _,rfl,hf⟩
  ·have h1:=hs m
   rw [if_neg hf] at h1
   obtain ⟨k,k1,k2,k3⟩:=ph_adv hs d (m+1) (by rw [h1,show m+1+d=m+(d+1) by omega];exact h)
   rw [h1] at k2 k3
   exact ⟨k,by omega,k2,k3⟩
theorem ph_inf (hp:∀ k,p k < n) (hs:∀ k,p (k+1)=if F k (p k)=true then (p k+1) % n else p k) (hi:∀ j,j < n→∀ m,∃ k,m≤k∧F k j=true) (m:Nat):∃ k,m≤k∧p k=0∧F k 0=true:=by
 have adv:∀ m,∃ k,m≤k∧p k=p m∧F k (p m)=true:=fun m=>by
  obtain ⟨k,k1,k2⟩:=hi (p m) (hp m) m
  exact ph_adv hs (k - m) m (by rw [show m+(k - m)=k by omega];exact k2)
 have zero:∀ d m,p m+d=n→∃ k,m≤k∧p k=0:=by
  intro d
  induction d with
  |zero=>intro m h;have:=hp m;omega
  |succ d ih =>
   intro m h
   obtain ⟨k,k1,k2,k3⟩:=adv m
   have h1:=hs k
   rw [k2,k3,if_pos rfl] at h1
   by_cases hd:d=0
   ·rw [show p m+1=n by omega,Nat.mod_self] at h1
    exact ⟨k+1,by omega,h1⟩
   ·rw [Nat.mod_eq_of_lt (by omega)] at h1
    obtain ⟨k',a1,a2⟩:=ih (k+1) (by omega)
    exact ⟨k',by omega,a2⟩
 obtain ⟨k,k1,k2⟩:=zero (n - p m) m (by have:=hp m;omega)
 obtain ⟨k',a1,a2,a3⟩:=adv k
 rw [k2] at a2 a3
 exact ⟨k',by omega,a2,a3⟩
end
theorem z428 (B:List Tree) (U:List Int) (s:Int) (p:Nat) (hp:p < U.length):phB B U s p=(((if fulB B s (U.getD p 0)=true then (p+1) % U.length else p:Nat):Int),fulB B s (U.getD p 0) && decide (p=0)):=by
 unfold phB
 rw [if_neg (by omega),y83]
 cases fulB B s (U.getD p 0) with
 |true =>
  simp only [if_true,Bool.true_and]
  refine Prod.ext (by simp) ?_
  rw [decide_eq_decide];omega
 |false=>simp
theorem unt_idx {B:List Tree} {a b:Tree} (hB:BOk B) (h:Tree.mk 7 0 [a,b]∈B):∃ j,∃ hj:j < (untB B).length,∀ s:Int,fulB B s ((untB B).getD j 0)=(!sgB B s (.mk 7 0 [a,b]) || b.vl (sgB B s)):=by
 obtain ⟨i,hi,e⟩:=z630 h
 have hm:(i:Int)∈untB B:=by
  unfold untB
  refine List.mem_map.2 ⟨i,List.mem_filter.2 ⟨List.mem_range.2 hi,?_⟩,rfl⟩
  rw [z18 hi,e];simp [Tree.kind]
 obtain ⟨j,hj,e2⟩:=List.mem_iff_getElem.1 hm
 refine ⟨j,hj,fun s=>?_⟩
 rw [z18 hj,e2]
 unfold fulB
 rw [y83,z18 hi,e,← e,z372 hB _ hi]
 congr 1
 rw [e]
 simp [kidV,Tree.kids,vlB]
theorem unt_ful {B:List Tree} (hB:BOk B) {j:Nat} (hj:j < (untB B).length):∃ a b,Tree.mk 7 0 [a,b]∈B∧∀ s:Int,fulB B s ((untB B).getD j 0)=(!sgB B s (.mk 7 0 [a,b]) || b.vl (sgB B s)):=by
 obtain ⟨i,e,hil,hk⟩:∃ i:Nat,(untB B).getD j 0=i∧i < B.length∧(B.getD i dftT).kind=7:=by
  have hm:∀ x∈untB B,∃ i:Nat,x=i∧i < B.length∧(B.getD i dftT).kind=7:=fun x hx=>by
   unfold untB at hx
   obtain ⟨i,hi,rfl⟩:=List.mem_map.1 hx
   obtain ⟨h1,h2⟩:=List.mem_filter.1 hi
   exact ⟨i,rfl,List.mem_range.1 h1,of_decide_eq_true h2⟩
  exact hm _ (by rw [z18 hj];exact y51 _)
 rw [z18 hil] at hk
 have hx:B[i]∈B:=y51 hil
 have hin:=hB.cl _ hx
 have key:∃ a b,B[i]=.mk 7 0 [a,b]:=by
  generalize B[i]=x at *
  cases hin with
  |un _ _ _=>exact ⟨_,_,rfl⟩
  |tr=>simp [Tree.kind] at hk
  |«at» v _=>simp [Tree.kind] at hk
  |nt=>simp [Tree.kind] at hk
  |na v _=>simp [Tree.kind] at hk
  |an _ _=>simp [Tree.kind] at hk
  |or _ _=>simp [Tree.kind] at hk
  |nx _ _=>simp [Tree.kind] at hk
  |re _ _ _=>simp [Tree.kind] at hk
 obtain ⟨a,b,ex⟩:=key
 refine ⟨a,b,ex ▸ hx,fun s=>?_⟩
 rw [e]
 unfold fulB
 rw [y83,z18 hil,ex,← ex,z372 hB _ hil]
 congr 1
 rw [ex]
 simp [kidV,Tree.kids,vlB]
def TRun (y:TrS) (n0:Nat) (w:Nat→Int) (ρ:Nat→Nat):Prop :=
 ρ 0 < n0∧(∀ k,∃ e∈y.ed,e.src=(ρ k:Int)∧e.dst=(ρ (k+1):Int)∧(((w k).toNat &&& e.care.toNat:Nat):Int)=e.val)∧∀ m,∃ k,m≤k∧y.acc.getD (ρ k) false=true
theorem z954 {B:List Tree} {g:Tree} {r:List Int} : r∈iniS B g↔∃ s:Nat,s < 2 ^ B.length∧vlB B s g=true∧r=[(s:Int),0]:=by
 unfold iniS
 rw [y66]
 constructor
 ·rintro ⟨s,hs,rfl⟩
  obtain ⟨h1,h2⟩:=List.mem_filter.1 hs
  exact ⟨s,List.mem_range.1 h1,h2,rfl⟩
 ·rintro ⟨s,h1,h2,rfl⟩
  exact ⟨s,List.mem_filter.2 ⟨List.mem_range.2 h1,h2⟩,rfl⟩
theorem tr_sound {B:List Tree} {g:Tree} {y:TrS} (hB:BOk B) (hg:In (·∈B) g) (hy:trS B g=some y) {w:Nat→Int} (hw:∀ k,0≤w k) {ρ:Nat→Nat} (hr:TRun y (iniS B g).length w ρ):g.sem w 0:=by
 obtain ⟨hT,suf,hL⟩:=trS_T hy
 obtain ⟨r0,r1,r2⟩:=hr
 have step:∀ k,ρ k < y.L.length∧folB B (rowS y.L (ρ k)) (rowS y.L (ρ (k+1)))=true∧rowQ y.L (ρ (k+1))=(phB B (untB B) (rowS y.L (ρ k)) (rowQ y.L (ρ k))).1∧(w k).toNat &&& (letB B (rowS y.L (ρ k))).1=(letB B (rowS y.L (ρ k))).2:=fun k=>by
  obtain ⟨e,he,e1,e2,e3⟩:=r1 k
  obtain ⟨k',t,h1,h2,h3,x1,x2,x3,j,x4,x5,x6⟩:=hT.e1 e he
  have ek:k'=ρ k:=by omega
  subst ek
  have ej:j=ρ (k+1):=by omega
  subst ej
  have f1:rowS y.L (ρ (k+1))=t:=by unfold rowS;rw [x6];rfl
  have f2:rowQ y.L (ρ (k+1))=(phB B (untB B) (rowS y.L (ρ k)) (rowQ y.L (ρ k))).1:=by
   conv=>lhs;unfold rowQ
   rw [x6];rfl
  refine ⟨h1,by rw [f1];exact h3,f2,?_⟩
  rw [x2,x3] at e3
  exact_mod_cast e3
 have hrow0:y.L.getD (ρ 0) []∈iniS B g:=by
  rw [hL,z215 r0,z18 r0];exact y51 _
 obtain ⟨s0,_,hv0,e0⟩:=z954.1 hrow0
 have q0:rowQ y.L (ρ 0)=0:=by unfold rowQ;rw [e0];rfl
 have v0:vlB B (rowS y.L (ρ 0)) g=true:=by unfold rowS;rw [e0];exact hv0
 have hF:=fits_of hB hw (s:=fun k=>rowS y.L (ρ k)) (fun k=>(step k).2.1) (fun k=>(step k).2.2.2)
 refine z1037 hF ?_ hg 0 v0
 intro a b hb m
 obtain ⟨j,hj,hful⟩:=unt_idx hB hb
 have hpos:0 < (untB B).length:=by omega
 have hph:∀ k,∃ p:Nat,rowQ y.L (ρ k)=p∧p < (untB B).length:=by
  intro k
  induction k with
  |zero=>exact ⟨0,q0,hpos⟩
  |succ k ih =>
   obtain ⟨p,p1,p2⟩:=ih
   have h1:=(step k).2.2.1
   rw [p1,z428 _ _ _ _ p2] at h1
   refine ⟨_,h1,?_⟩
   split
   ·exact Nat.mod_lt _ hpos
   ·exact p2
 have hpk:∀ k,rowQ y.L (ρ k)=((rowQ y.L (ρ k)).toNat:Nat)∧(rowQ y.L (ρ k)).toNat < (untB B).length:=fun k=>by
  obtain ⟨p,p1,p2⟩:=hph k
  rw [p1];simp;exact p2
 have hst:∀ k,(rowQ y.L (ρ (k+1))).toNat=if fulB B (rowS y.L (ρ k)) ((untB B).getD (rowQ y.L (ρ k)).toNat 0)=true then ((rowQ y.L (ρ k)).toNat+1) % (untB B).length else (rowQ y.L (ρ k)).toNat:=fun k=>by
  have h1:=(step k).2.2.1
  rw [(hpk k).1,z428 _ _ _ _ (hpk k).2] at h1
  rw [h1];simp only [y83]
 have hinf:∀ m,∃ k,m≤k∧(rowQ y.L (ρ k)).toNat=0∧fulB B (rowS y.L (ρ k)) ((untB B).getD 0 0)=true:=fun m=>by
  obtain ⟨k,k1,k2⟩:=r2 m
  rw [hT.ac _ (step k).1,(hpk k).1,z428 _ _ _ _ (hpk k).2] at k2
  simp only [y77,decide_eq_true_eq] at k2
  exact ⟨k,k1,k2.2,by rw [k2.2] at k2;exact k2.1⟩
 obtain ⟨k,k1,k2,k3⟩:=ph_all (F:=fun k j=>fulB B (rowS y.L (ρ k)) ((untB B).getD j 0)) (fun k=>(hpk k).2) hst hinf j hj m
 refine ⟨k,k1,?_⟩
 have h3:fulB B (rowS y.L (ρ k)) ((untB B).getD j 0)=true:=k3
 rw [hful,Bool.or_eq_true,Bool.not_eq_true'] at h3
 exact h3
theorem z843 {B:List Tree} {g:Tree} {y:TrS} (hB:BOk B) (hNB:∀ x∈B,NF x) (hNg:NF g) (hg:In (·∈B) g) (hy:trS B g=some y) {w:Nat→Int} (hw:∀ k,0≤w k) (hs:g.sem w 0):∃ ρ,TRun y (iniS B g).length w ρ:=by
 obtain ⟨hT,suf,hL⟩:=trS_T hy
 have hsel:∀ k,∃ s:Nat,s < 2 ^ B.length∧∀ i (hi:i < B.length),hasB s i=semA w k B[i]:=fun k=>by
  obtain ⟨s,h1,h2⟩:=z1214 (fun i=>semA w k (B.getD i dftT)) B.length
  exact ⟨s,h1,fun i hi=>by rw [z487,h2 i hi,z18 hi]⟩
 obtain ⟨s,hsp⟩:=Classical.axiomOfChoice hsel
 have hag:∀ k,∀ x∈B,sgB B (s k:Int) x=semA w k x:=fun k x hx=>by
  obtain ⟨i,hi,e⟩:=z630 hx
  rw [← e,z372 hB _ hi];exact (hsp k).2 i hi
 have hfl:=fol_of hB hw (z1121 hNB) (s:=fun k=>(s k:Int)) hag
 have v0:vlB B (s 0:Int) g=true:=by
  have h1:vlB B (s 0:Int) g=g.vl (semA w 0):=z648 (hag 0) hg
  rw [h1,z348 hNg]
  unfold semA
  simp [hs]
 -- the states of the run
 have hex:∀ (j:Nat) (k:Nat),j < y.L.length→rowS y.L j=(s k:Int)→∃ j' : Nat,j' < y.L.length∧y.L.getD j' []=[(s (k+1):Int),(phB B (untB B) (rowS y.L j) (rowQ y.L j)).1]∧∃ e∈y.ed,e.src=(j:Int)∧e.dst=(j' : Int)∧(((w k).toNat &&& e.care.toNat:Nat):Int)=e.val:=fun j k hj hjs=>by
  obtain ⟨e,he,x1,x2,x3,j',x4,x5,x6⟩:=hT.e2 j (s (k+1)) hj (hsp (k+1)).1 (by rw [hjs];exact (hfl k).1)
  refine ⟨j',x5,x6,e,he,x1,x4,?_⟩
  rw [x2,x3,hjs,y83,(hfl k).2]
 have h0:∃ j0:Nat,j0 < (iniS B g).length∧y.L.getD j0 []=[(s 0:Int),0]:=by
  have hm : [(s 0:Int),0]∈iniS B g:=z954.2 ⟨s 0,(hsp 0).1,v0,rfl⟩
  obtain ⟨j0,hj0,e⟩:=List.mem_iff_getElem.1 hm
  exact ⟨j0,hj0,by rw [hL,z215 hj0,z18 hj0];exact e⟩
 obtain ⟨j0,hj0,e0⟩:=h0
 have hj0L:j0 < y.L.length:=by rw [hL];simp;omega
 let R:Nat→Nat:=fun k=>Nat.rec j0 (fun k j=>if h:j < y.L.length∧rowS y.L j=(s k:Int) then (hex j k h.1 h.2).choose else 0) k
 have hRs:∀ k (h:R k < y.L.length∧rowS y.L (R k)=(s k:Int)),R (k+1)=(hex (R k) k h.1 h.2).choose:=fun k h=>dif_pos h
 have hR:∀ k,R k < y.L.length∧rowS y.L (R k)=(s k:Int):=by
  intro k
  induction k with
  |zero=>exact ⟨hj0L,by show rowS y.L j0=_;unfold rowS;rw [e0];rfl⟩
  |succ k ih =>
   have h1:=(hex (R k) k ih.1 ih.2).choose_spec
   rw [← hRs k ih] at h1
   exact ⟨h1.1,by unfold rowS;rw [h1.2.1];rfl⟩
 have hstep:=fun k=>by
  have h1:=(hex (R k) k (hR k).1 (hR k).2).choose_spec
  rw [← hRs k (hR k)] at h1
  exact h1
 refine ⟨R,hj0,fun k=>(hstep k).2.2,?_⟩
 have hq:∀ k,rowQ y.L (R (k+1))=(phB B (untB B) (rowS y.L (R k)) (rowQ y.L (R k))).1:=fun k=>by
  have h1:=(hstep k).2.1
  conv=>lhs;unfold rowQ
  rw [h1];rfl
 intro m
 by_cases hpos:0 < (untB B).length
 ·have hph:∀ k,∃ p:Nat,rowQ y.L (R k)=p∧p < (untB B).length:=by
   intro k
   induction k with
   |zero=>exact ⟨0,by show rowQ y.L j0=_;unfold rowQ;rw [e0];rfl,hpos⟩
   |succ k ih =>
    obtain ⟨p,p1,p2⟩:=ih
    have h1:=hq k
    rw [p1,z428 _ _ _ _ p2] at h1
    refine ⟨_,h1,?_⟩
    split
    ·exact Nat.mod_lt _ hpos
    ·exact p2
  have hpk:∀ k,rowQ y.L (R k)=((rowQ y.L (R k)).toNat:Nat)∧(rowQ y.L (R k)).toNat < (untB B).length:=fun k=>by
   obtain ⟨p,p1,p2⟩:=hph k
   rw [p1];simp;exact p2
  have hst:∀ k,(rowQ y.L (R (k+1))).toNat=if fulB B (rowS y.L (R k)) ((untB B).getD (rowQ y.L (R k)).toNat 0)=true then ((rowQ y.L (R k)).toNat+1) % (untB B).length else (rowQ y.L (R k)).toNat:=fun k=>by
   have h1:=hq k
   rw [(hpk k).1,z428 _ _ _ _ (hpk k).2] at h1
   rw [h1];simp only [y83]
  have hall:∀ j,j < (untB B).length→∀ m,∃ k,m≤k∧fulB B (rowS y.L (R k)) ((untB B).getD j 0)=true:=fun j hj m=>by
   obtain ⟨a,b,hab,hful⟩:=unt_ful hB hj
   obtain ⟨k,k1,k2⟩:=z1122 hNB a b hab m
   refine ⟨k,k1,?_⟩
   rw [hful,(hR k).2,hag k _ hab]
   have hbv:b.vl (sgB B (s k:Int))=b.vl (semA w k):=by
    have:In (·∈B) b:=by
     have:=hB.cl _ hab
     cases this;assumption
    exact z648 (hag k) this
   rw [hbv,Bool.or_eq_true,Bool.not_eq_true']
   exact k2
  obtain ⟨k,k1,k2,k3⟩:=ph_inf (F:=fun k j=>fulB B (rowS y.L (R k)) ((untB B).getD j 0)) (fun k=>(hpk k).2) hst hall m
  refine ⟨k,k1,?_⟩
  rw [hT.ac _ (hR k).1,(hpk k).1,z428 _ _ _ _ (hpk k).2,k2]
  simp only [decide_true,Bool.and_true]
  exact k3
 ·refine ⟨m,y59 _,?_⟩
  rw [hT.ac _ (hR m).1]
  unfold phB
  rw [if_pos (by omega)]
end Go.Gl
namespace Go.Gl
variable {P:Program}
end Go.Gl
namespace Go.Gl
def stH (h:Nat→Bool→Bool) (nx:Nat→Nat) (i:Nat) (S:List Bool):Bool:=h i (gB S (nx i))
section
variable {n:Nat} {nx:Nat→Nat} (hnx:∀ i,i < n→nx i < n)
include hnx
def unF (A B:Nat→Bool) (i:Nat) (x:Bool):Bool:=B i || (A i && x)
def reF (A B:Nat→Bool) (i:Nat) (x:Bool):Bool:=B i && (A i || x)
end
noncomputable def opW (n:Nat) (nx:Nat→Nat) (L:List Int) (k v:Int) (ks:List (List Bool)):List Bool :=
 if k=7 then lim false (stH (unF (gB (ks.getD 0 [])) (gB (ks.getD 1 []))) nx) n
 else if k=8 then lim true (stH (reF (gB (ks.getD 0 [])) (gB (ks.getD 1 []))) nx) n
 else if k=9 then lim false (stH (unF (fun _=>true) (gB (ks.getD 0 []))) nx) n
 else if k=10 then lim true (stH (reF (fun _=>false) (gB (ks.getD 0 []))) nx) n
 else if k=6 then (List.range n).map fun i=>gB (ks.getD 0 []) (nx i)
 else (List.range n).map (ptB L k v (ks.getD 0 []) (ks.getD 1 []))
mutual
noncomputable def Tree.satW (n:Nat) (nx:Nat→Nat) (L:List Int) (t:Tree):List Bool:=match t with
 |.mk k v l=>opW n nx L k v (Tree.satWs n nx L l)
noncomputable def Tree.satWs (n:Nat) (nx:Nat→Nat) (L:List Int) (l:List Tree):List (List Bool):=match l with
 |[]=>[]
 |t::r=>Tree.satW n nx L t::Tree.satWs n nx L r
end
section
variable (n:Nat) (nx:Nat→Nat) (L:List Int) (v:Int) (ks:List (List Bool))
end
end Go.Gl
set_option linter.all false
namespace Go.Gl
def Par (Q P:List Int) (k j:Nat):Prop:=∃ x y,Q[k]?=some x∧Q[j]?=some y∧P.getD x.toNat 0=y
structure LJ (rows:List (List Int)) (N:Nat) (Q P:List Int) (i:Nat):Prop where
 len:P.length=N
 inn:InN N Q
 nd:Q.Nodup
 root:∀ x,Q[0]?=some x→P.getD x.toNat 0=-1
 pre:∀ k x,Q[k]?=some x→k=0∨∃ j,j < k∧Par Q P k j
 mono:∀ k k' j j',k≤k'→Par Q P k j→Par Q P k' j'→j≤j'
 low:∀ k j,Par Q P k j→j≤i
 cov:∀ c,c < i→∀ x,Q[c]?=some x→∀ y∈rows.getD x.toNat [],∃ k,Q[k]?=some y∧(k=0∨∃ j,j≤c∧Par Q P k j)
theorem get_inj {Q:List Int} (h:Q.Nodup) {i j:Nat} {x:Int} (hi:Q[i]?=some x) (hj:Q[j]?=some x):i=j:=by
 obtain ⟨h1,e1⟩:=List.getElem?_eq_some_iff.1 hi
 obtain ⟨h2,e2⟩:=List.getElem?_eq_some_iff.1 hj
 exact (List.getElem_inj h).1 (e1.trans e2.symm)
theorem z488 {Q:List Int} {v:Int} {k:Nat} {x:Int} (h:(Q++[v])[k]?=some x):(k < Q.length∧Q[k]?=some x)∨(k=Q.length∧x=v):=by
 by_cases hk:k < Q.length
 ·rw [y72 hk] at h;exact .inl ⟨hk,h⟩
 ·have hl:=(List.getElem?_eq_some_iff.1 h).1
  have e:k=Q.length:=by simp at hl;omega
  subst e
  simp at h
  exact .inr ⟨rfl,h.symm⟩
theorem z352 {Q:List Int} {v:Int} {k:Nat} {x:Int} (h:Q[k]?=some x):(Q++[v])[k]?=some x:=by
 rw [y72 (List.getElem?_eq_some_iff.1 h).1];exact h
theorem LJ.new {rows:List (List Int)} {N:Nat} {Q P:List Int} {i:Nat} (h:LJ rows N Q P i) {u v:Int} (hu:Q[i]?=some u) (hv:0≤v∧v < N) (hm:v ∉ Q):LJ rows N (Q++[v]) (P.set v.toNat u) i∧Par (Q++[v]) (P.set v.toNat u) Q.length i∧∀ k j,Par Q P k j→Par (Q++[v]) (P.set v.toNat u) k j:=by
 have hil:=(List.getElem?_eq_some_iff.1 hu).1
 have hnn:∀ {k x},Q[k]?=some x→0≤x∧x≠v:=fun hx=>⟨(h.inn _ (List.mem_of_getElem? hx)).1,fun e=>hm (e ▸ List.mem_of_getElem? hx)⟩
 have hold:∀ {x:Int},0≤x→x≠v→(P.set v.toNat u).getD x.toNat 0=P.getD x.toNat 0:=fun h0 hne=>by
  rw [y74,List.getElem?_set_ne (by omega),← y74]
 have hnew:(P.set v.toNat u).getD v.toNat 0=u:=by
  rw [y74,List.getElem?_set_self (by have:=h.len;omega)];rfl
 have hnd:(Q++[v]).Nodup:=by
  rw [y82]
  exact ⟨h.nd,by simp,fun a ha b hb e=>by rw [List.mem_singleton.1 hb] at e;exact hm (e ▸ ha)⟩
 have fwd:∀ k j,Par Q P k j→Par (Q++[v]) (P.set v.toNat u) k j:=fun k j ⟨x,y,hx,hy,e⟩=>⟨x,y,z352 hx,z352 hy,by rw [hold (hnn hx).1 (hnn hx).2];exact e⟩
 have bwd:∀ k j,Par (Q++[v]) (P.set v.toNat u) k j→(k < Q.length∧Par Q P k j)∨(k=Q.length∧j=i):=by
  rintro k j ⟨x,y,hx,hy,e⟩
  rcases z488 hx with ⟨hk,hx1⟩|⟨rfl,rfl⟩
  ·rw [hold (hnn hx1).1 (hnn hx1).2] at e
   left
   refine ⟨hk,?_⟩
   rcases z488 hy with ⟨hj,hy1⟩|⟨hj,hy1⟩
   ·exact ⟨x,y,hx1,hy1,e⟩
   ·exfalso
    rcases h.pre k x hx1 with h0|⟨j',_,x',y',hx',hy',e'⟩
    ·subst h0
     have:=h.root x hx1;omega
    ·rw [hx1] at hx'
     cases hx'
     exact hm (by rw [← hy1,← e,e'];exact List.mem_of_getElem? hy')
  ·rw [hnew] at e
   right
   refine ⟨rfl,get_inj hnd hy ?_⟩
   rw [← e];exact z352 hu
 have self:Par (Q++[v]) (P.set v.toNat u) Q.length i:=⟨v,u,by simp,z352 hu,hnew⟩
 refine ⟨⟨by simp [h.len],fun y hy=>?_,hnd,fun x hx=>?_,fun k x hx=>?_,fun k k' j j' hk h1 h2=>?_,fun k j h1=>?_,fun c hc x hx y hy=>?_⟩,self,fwd⟩
 ·rcases List.mem_append.1 hy with h1|h1
  ·exact h.inn y h1
  ·rw [List.mem_singleton.1 h1];exact hv
 ·rcases z488 hx with ⟨hk,hx⟩|⟨h0,_⟩
  ·rw [hold (hnn hx).1 (hnn hx).2];exact h.root x hx
  ·omega
 ·rcases z488 hx with ⟨hk,hx⟩|⟨rfl,rfl⟩
  ·rcases h.pre k x hx with h0|⟨j,hj,hp⟩
   ·exact .inl h0
   ·exact .inr ⟨j,hj,fwd k j hp⟩
  ·exact .inr ⟨i,hil,self⟩
 ·rcases bwd k j h1 with ⟨a,b⟩|⟨a,b⟩<;>rcases bwd k' j' h2 with ⟨c,d⟩|⟨c,d⟩
  ·exact h.mono k k' j j' hk b d
  ·rw [d];exact h.low k j b
  ·omega
  ·omega
 ·rcases bwd k j h1 with ⟨a,b⟩|⟨a,b⟩
  ·exact h.low k j b
  ·omega
 ·have hcl:c < Q.length:=by omega
  have hx' : Q[c]?=some x:=by rw [y72 hcl] at hx;exact hx
  obtain ⟨k,hk,h1⟩:=h.cov c hc x hx' y hy
  refine ⟨k,z352 hk,?_⟩
  rcases h1 with h1|⟨j,hj,hp⟩
  ·exact .inl h1
  ·exact .inr ⟨j,hj,fwd k j hp⟩
theorem LJ.row {rows : List (List Int)} {N : Nat} {i : Nat} {u : Int} : ∀ (l : List Int) (x : List Int × List Int), LJ rows N x.1 x.2 i → x.1[i]? = some u → InN N l →
  LJ rows N (visPs u x l).1 (visPs u x l).2 i∧(visPs u x l).1[i]?=some u∧(∀ (k:Nat) (y:Int),x.1[k]?=some y→(visPs u x l).1[k]?=some y)∧(∀ k j,Par x.1 x.2 k j→Par (visPs u x l).1 (visPs u x l).2 k j)∧∀ y∈l,∃ k:Nat,(visPs u x l).1[k]?=some y∧(k=0∨∃ j,j≤i∧Par (visPs u x l).1 (visPs u x l).2 k j):=by
 intro l
 induction l with
 |nil=>intro x h hu _;exact ⟨h,hu,fun _ _ h=>h,fun _ _ h=>h,fun y hy=>by cases hy⟩
 |cons v l ih =>
  intro x h hu hl
  show LJ rows N (visPs u (visP u x v) l).1 (visPs u (visP u x v) l).2 i∧_
  have hv:=hl v (by simp)
  have one:LJ rows N (visP u x v).1 (visP u x v).2 i∧(visP u x v).1[i]?=some u∧(∀ (k:Nat) (y:Int),x.1[k]?=some y→(visP u x v).1[k]?=some y)∧(∀ k j,Par x.1 x.2 k j→Par (visP u x v).1 (visP u x v).2 k j)∧∃ k:Nat,(visP u x v).1[k]?=some v∧(k=0∨∃ j,j≤i∧Par (visP u x v).1 (visP u x v).2 k j):=by
   by_cases hm:v∈x.1
   ·rw [z361 hm]
    refine ⟨h,hu,fun _ _ h=>h,fun _ _ h=>h,?_⟩
    obtain ⟨k,hk,e⟩:=List.mem_iff_getElem.1 hm
    have hk' : x.1[k]?=some v:=by rw [y52 hk,e]
    refine ⟨k,hk',?_⟩
    rcases h.pre k v hk' with h0|⟨j,_,hp⟩
    ·exact .inl h0
    ·exact .inr ⟨j,h.low k j hp,hp⟩
   ·rw [z362 hm]
    obtain ⟨a,b,c⟩:=h.new hu hv hm
    exact ⟨a,z352 hu,fun k y hy=>z352 hy,c,x.1.length,by simp,.inr ⟨i,y59 _,b⟩⟩
  obtain ⟨a1,a2,a3,a4,k,a5,a6⟩:=one
  obtain ⟨b1,b2,b3,b4,b5⟩:=ih _ a1 a2 fun y hy=>hl y (by simp [hy])
  refine ⟨b1,b2,fun k y hy=>b3 k y (a3 k y hy),fun k j hp=>b4 k j (a4 k j hp),fun y hy=>?_⟩
  rcases List.mem_cons.1 hy with rfl|hy
  ·refine ⟨k,b3 _ _ a5,?_⟩
   rcases a6 with a6|⟨j,hj,hp⟩
   ·exact .inl a6
   ·exact .inr ⟨j,hj,b4 _ _ hp⟩
  ·exact b5 y hy
theorem LJ.up {rows:List (List Int)} {N:Nat} {Q P:List Int} {i:Nat} (h:LJ rows N Q P i) (hc:∀ x,Q[i]?=some x→∀ y∈rows.getD x.toNat [],∃ k,Q[k]?=some y∧(k=0∨∃ j,j≤i∧Par Q P k j)):LJ rows N Q P (i+1) :=
 ⟨h.len,h.inn,h.nd,h.root,h.pre,h.mono,fun k j hp=>by have:=h.low k j hp;omega,fun c hc2 x hx y hy=>by
  by_cases e:c < i
  ·exact h.cov c e x hx y hy
  ·have e2:c=i:=by omega
   subst e2
   exact hc x hx y hy⟩
section
variable {rows:List (List Int)} {N:Nat} {Q P:List Int} {n:Nat} (h:LJ rows N Q P n)
include h
theorem LJ.chn0 {x:Int} (hx:Q[0]?=some x) (f:Nat):(chn P f x).length=1:=by
 cases f with
 |zero=>rfl
 |succ f=>rw [chn,if_neg (by rw [h.root x hx];omega)];rfl
theorem LJ.chnS {k j f:Nat} {x y:Int} (hx:Q[k]?=some x) (hy:Q[j]?=some y) (hp:Par Q P k j) (f:Nat):(chn P (f+1) x).length=(chn P f y).length+1:=by
 obtain ⟨x',y',hx',hy',e⟩:=hp
 rw [hx] at hx';cases hx'
 rw [hy] at hy';cases hy'
 have:=h.inn _ (List.mem_of_getElem? hy)
 rw [chn,e,if_pos this.1];rfl
theorem LJ.chn_le:∀ (k' k:Nat),k≤k'→∀ (x x' : Int),Q[k]?=some x→Q[k']?=some x'→∀ f f',k≤f→k'≤f'→(chn P f x).length≤(chn P f' x').length:=by
 intro k'
 induction k' using Nat.strongRecOn with|_ k' ih=>?_
 intro k hk x x' hx hx' f f' hf hf'
 rcases h.pre k x hx with rfl|⟨j,hj,hp⟩
 ·rw [h.chn0 hx];exact z1203 _ _ _
 ·rcases h.pre k' x' hx' with rfl|⟨j',hj',hp'⟩
  ·omega
  ·obtain ⟨f,rfl⟩:∃ m,f=m+1:=⟨f - 1,by omega⟩
   obtain ⟨f',rfl⟩:∃ m,f'=m+1:=⟨f' - 1,by omega⟩
   have hm:=h.mono k k' j j' hk hp hp'
   obtain ⟨_,y,_,hy,_⟩:=id hp
   obtain ⟨_,y',_,hy',_⟩:=id hp'
   rw [h.chnS (f:=0) hx hy hp,h.chnS (f:=0) hx' hy' hp']
   have:=ih j' hj' j hm y y' hy hy' f f' (by omega) (by omega)
   omega
theorem LJ.walk (hn:Q.length≤n) {p:Nat→Int} (h0:Q[0]?=some (p 0)):∀ d,(∀ k,k < d→p (k+1)∈rows.getD (p k).toNat [])→∃ k,Q[k]?=some (p d)∧∀ f,k≤f→(chn P f (p d)).length≤d+1:=by
 intro d
 induction d with
 |zero=>intro _;exact ⟨0,h0,fun f _=>by rw [h.chn0 h0];omega⟩
 |succ d ih =>
  intro hp
  obtain ⟨c,hc,hl⟩:=ih fun k hk=>hp k (by omega)
  have hcl:=(List.getElem?_eq_some_iff.1 hc).1
  obtain ⟨k,hk,h1⟩:=h.cov c (by omega) _ hc _ (hp d (by omega))
  refine ⟨k,hk,fun f hf=>?_⟩
  by_cases hk0:k=0
  ·subst hk0
   rw [h.chn0 hk];omega
  ·rcases h1 with h1|⟨j,hj,hpr⟩
   ·exact absurd h1 hk0
   ·obtain ⟨_,y,_,hy,_⟩:=id hpr
    obtain ⟨f,rfl⟩:∃ m,f=m+1:=⟨f - 1,by omega⟩
    have hjk:j≤f:=by
     rcases h.pre k _ hk with e|⟨j2,hj2,hp2⟩
     ·exact absurd e hk0
     ·have:=h.mono k k j j2 (y59 _) hpr hp2
      omega
    rw [h.chnS (f:=0) hk hy hpr]
    have:=h.chn_le c j hj y (p d) hy hc f c hjk (y59 _)
    have:=hl c (y59 _)
    omega
end
end Go.Gl
