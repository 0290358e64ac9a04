/- A part of the proofs over this program: T186, T187, T238, T67, T68, T210, T200, T162, T163, T164, T170, T201, T29A, T29C, T202, T166, T204, T212, T98, T211, T214, T242, T243, T250W, T248, T249, T250, T55F, T62F, T55G, T62G, T240, T244, T252. -/
import Derived.Test.YtjhgpfaodkchjaaGreatG0
import Derived.Test.YtjhgpfaodkchjaaGreatG1
import Derived.Test.YtjhgpfaodkchjaaGreatG2
import Derived.Test.YtjhgpfaodkchjaaGreatG3
import Derived.Test.YtjhgpfaodkchjaaGreatP0
import Derived.Test.YtjhgpfaodkchjaaGreatP1
import Derived.Test.YtjhgpfaodkchjaaGreatP2
import Derived.Test.YtjhgpfaodkchjaaGreatP3
import Derived.Test.YtjhgpfaodkchjaaGreatP4
import Derived.Test.YtjhgpfaodkchjaaGreatP5
import Derived.Test.YtjhgpfaodkchjaaGreatP6
set_option linter.all false
namespace Go.Proofs.YtjhgpfaodkchjaaGreat
open Go.Gl
attribute [local irreducible] z20 AWP z31 z38 z34 RetS z45
theorem z681 (a:Aut) (hA:AutP a) (x:Int) (h0:0≤x):CallsA Tryz.prog 96 [.int x,.pt a.cs,.pt [.int a.acc.length]] [] (.bool (a.acc.getD (x % a.acc.length).toNat false)) []:=by
 have hac:=hA.1
 have hm0:0≤x % (a.acc.length:Int):=Int.emod_nonneg _ (by omega)
 have hm1:x % (a.acc.length:Int) < a.acc.length:=Int.emod_lt_of_pos _ (by omega)
 have hga:(a.acc.map enB)[(x % (a.acc.length:Int)).toNat]?=some (enB (a.acc.getD (x % (a.acc.length:Int)).toNat false)):=by
  rw [y46,y40 (by omega),z17 (by omega)];rfl
 refine z10 z19 Tryz.func96 rfl rfl 12 Tryz.ntmps96 (by simp) ?_
 repeat' ((first|(apply y79 ok;rfl)|(apply z36;kernel_rfl)|(refine z21 (i:=(x % (a.acc.length:Int)).toNat) rfl hga ?_)|(apply y38;omega))<;>conv=>whnf)
 all_goals (refine rsD [] [] rfl ?_;(repeat' first|exact y81 _|constructor))
set_option maxHeartbeats 1600000 in
theorem z336 (l:List Int) (n:Nat) (hl:l.length≤1000000) (hn:1≤n) (h0:∀ x∈l,0≤x) (h1:∀ x∈l,x≤1000000000):CallsA Tryz.prog 97 [ints l,.pt [.int n]] [] (.sref 0 0 l.length) [.cells 1 ((stL l n).map enI)]:=by
 refine z10 z19 Tryz.func97 rfl rfl 25 Tryz.ntmps97 (by simp) ?_
 repeat' ((first|(apply y79 ok;rfl)|(apply y38;(dsimp only;omega)))<;>conv=>whnf)
 obtain ⟨qm,hqm⟩:∃ qm:Nat→Nat→Int,qm=fun i j=>if j < i then l.getD j 0 / n else 0:=⟨_,rfl⟩
 have q0:qm 0=fun _=>0:=by rw [hqm];rfl
 have qE:fnL l.length (qm l.length)=stL l n:=by
  apply y70 (by simp [fnL,stL])
  intro i h1 h2
  have hi' : i < l.length:=by rw [z106] at h1;exact h1
  rw [z429,hqm]
  dsimp only
  rw [if_pos hi',z17 hi'];simp [stL]
 have qS:∀ i (h:i < l.length),qm (i+1)=upd (qm i) i (l[i] / n):=fun i h=>by
  funext j
  by_cases h2:j=i
  ·subst h2;rw [z25,hqm];dsimp only;rw [if_pos (by omega),z17 h]
  ·rw [z50 _ _ h2,hqm];dsimp only;split<;>split<;>first|rfl|omega
 clear hqm
 refine z85 (fun i:Nat=>([(1,.pt [.int n]),(4,.sref 0 0 l.length),(10,ints l),(11,.int l.length),(12,.int i)],[.cells 1 ((fnL l.length (qm i)).map enI)])) (fun i=>i≤l.length) (fun i=>l.length - i) 0 (y48 _) (by refine swR [0] [] rfl rfl ?_;(repeat' first|exact y81 _|refine z15 rfl (z70 rfl) ?_|constructor)<;>((refine z60 ?_;rw [q0];exact z317 _))) ?_
 intro i hi
 by_cases hi2:i < l.length
 ·have g1:=z166 (qm i) hi2
  have l1:=z106 l.length (qm i)
  have e1:=z143 (N:=l.length) (u:=i) (qm i) (l[i] / n)
  rw [← qS i hi2] at e1
  have gk:(l.map enI)[i]?=some (enI l[i]):=by rw [y46,y40 hi2];rfl
  have b0:=h0 _ (y39 hi2)
  have b1:=h1 _ (y39 hi2)
  generalize l[i]=v at *
  have d0:0≤v / (n:Int):=Int.ediv_nonneg b0 (by omega)
  have d1:v / (n:Int)≤v:=Int.ediv_le_self _ b0
  repeat' ((first|(apply y79 ok;rfl)|(refine z21 (i:=i) rfl gk ?_)|(refine z21 (i:=i) rfl g1 ?_)|(apply y38;first|omega|(unfold inI;omega))|((apply z7)<;>intro _))<;>conv=>whnf)
  all_goals try (exfalso;omega)
  all_goals refine z44 (i+1) hi2 (by omega) (by refine swR [0] [] rfl rfl ?_;(repeat' first|exact y81 _|refine z71 rfl (z6 (fun _=>rfl)) ?_|constructor)<;>((refine z60 ?_;exact e1)))
 obtain rfl:i=l.length:=by omega
 rw [qE]
 repeat' ((first|(apply y79 ok;rfl)|(apply y38;omega)|((first|(with_reducible apply z13;omega)|(apply z13;omega));intro _)|((apply z7)<;>intro _))<;>conv=>whnf)
 all_goals try (exfalso;omega)
 all_goals (refine rsD [0] [] rfl ?_;(repeat' first|exact y81 _|exact z16 _|refine z15 rfl (z6 (fun _=>rfl)) ?_|constructor))
noncomputable def ftO (g:Graph) (l:List Tree) (a:Aut):Option (List Int×List Int):=if (glB g l && autB a)=true then trcO g (g.st.map (z42 l)) a else none
noncomputable def ftL (g:Graph) (l:List Tree) (a:Aut):Trace:=let t:=(ftO g l a).getD ([],[]);⟨t.1,t.2⟩
set_option maxHeartbeats 6400000 in
theorem z425 (g:Graph) (hg:g.mx) (l:List Tree) (hl:Lmx l) (a:Aut) (ha:a.mx):CallsA Tryz.prog 38 [.agg g.cs,lst 3 Tree.cs' l,.agg a.cs] [] (.tup [.agg [.sref 0 0 (ftL g l a).stem.length,.sref 1 0 (ftL g l a).loop.length],.bool (ftO g l a).isSome]) [.cells 1 ((ftL g l a).stem.map enI),.cells 1 ((ftL g l a).loop.map enI)]:=by
 have k0:=z619 g hg l hl a ha
 by_cases hgl:(glB g l && autB a)=true
 ·rw [hgl] at k0
  obtain ⟨h1,hab⟩:=Bool.and_eq_true_iff.1 hgl
  have hG:=(z99 g).1 (by unfold glB at h1;exact (Bool.and_eq_true_iff.1 h1).1)
  have hL:=y7 (by unfold glB at h1;exact (Bool.and_eq_true_iff.1 h1).2)
  have hA:=z274.1 hab
  have k1:=z598 g hG l hL a hA
  obtain ⟨f1,f2,f3,f4,f5⟩:=z422 hG hA (g.st.map (z42 l))
  have hnd:=hA.2.2.1.nd
  have hac:=hA.1
  have k2:=z1120 (z58 g (g.st.map (z42 l)) a) a.ini f1 f2 hnd (by omega) f4 (fun v=>a.acc.getD (v % a.acc.length).toNat false) 96 a.cs [.int a.acc.length] (fun x h0 _=>z681 a hA x h0)
  unfold ftL ftO
  rw [if_pos hgl]
  unfold lasR at k2
  unfold trcO
  rw [z475 f1 f2 hnd] at k2
  have hlen:(z58 g (g.st.map (z42 l)) a).length=g.st.length * a.acc.length:=by unfold z58;rw [z129,Nat.mul_comm]
  have hF:∀ p q,finS (z58 g (g.st.map (z42 l)) a) a.ini a.acc=some (p,q)→(∀ x∈p,0≤x∧x≤100000)∧(∀ x∈q,0≤x∧x≤100000)∧p.length≤100000∧q.length≤100000:=by
   intro p q h
   rw [← z475 f1 f2 hnd] at h
   obtain ⟨b1,b2,b3,b4,_⟩:=lasL_bd f1 f2 hnd h
   exact ⟨fun x hx=>by have:=b1 x hx;omega,fun x hx=>by have:=b2 x hx;omega,by omega,by omega⟩
  generalize z58 g (g.st.map (z42 l)) a=rows at *
  cases hfin:finS rows a.ini a.acc with
  |none =>
   rw [hfin] at k2
   change CallsA _ _ _ _ (.tup [.sref 0 0 0,.sref 1 0 0,.bool false]) [.cells 1 [],.cells 1 []] at k2
   show CallsA _ _ _ _ (.tup [.agg [.sref 0 0 0,.sref 1 0 0],.bool false]) [.cells 1 [],.cells 1 []]
   refine z10 z19 Tryz.func38 rfl rfl 50 Tryz.ntmps38 (by simp) ?_
   repeat' ((first|(apply y79 ok;rfl)|(apply z8 (k0);rfl;rfl)|(apply z8 (k1);rfl;rfl)|(apply z112 [] [1,3] [4,5] k2;(focus ((repeat' first|exact z79|apply z49)<;>rfl));rfl;rfl;(focus ((repeat' first|exact z18|apply z14)<;>(refine z23 ?_;(exact z39))));((refine .inr ⟨rfl,?_⟩;repeat' first|exact True.intro|apply y38|exact rfl))))<;>conv=>whnf)
   all_goals (refine y84 1 ?_;refine y84 1 ?_;refine rsD [6,7] [] rfl ?_;(repeat' first|exact y81 _|exact z59|refine z15 rfl (z39) ?_|apply z61|apply z115|constructor))
  |some pq =>
   obtain ⟨p,q⟩:=pq
   rw [hfin] at k2
   obtain ⟨b1,b2,b3,b4⟩:=hF p q hfin
   change CallsA _ _ _ _ (.tup [.sref 0 0 (p.take (p.length - 1)).length,.sref 1 0 q.length,.bool true]) [.cells 1 ((p.take (p.length - 1)).map enI),.cells 1 (q.map enI)] at k2
   have s1:=z336 (p.take (p.length - 1)) a.acc.length (by rw [y43];omega) (by omega) (fun x hx=>(b1 x (List.mem_of_mem_take hx)).1) (fun x hx=>by have:=(b1 x (List.mem_of_mem_take hx)).2;omega)
   have s2:=z336 q a.acc.length (by omega) (by omega) (fun x hx=>(b2 x hx).1) (fun x hx=>by have:=(b2 x hx).2;omega)
   have e1:(stL (p.take (p.length - 1)) a.acc.length).length=(p.take (p.length - 1)).length:=by simp [stL]
   have e2:(stL q a.acc.length).length=q.length:=by simp [stL]
   show CallsA _ _ _ _ (.tup [.agg [.sref 0 0 (stL (p.take (p.length - 1)) a.acc.length).length,.sref 1 0 (stL q a.acc.length).length],.bool true]) [.cells 1 ((stL (p.take (p.length - 1)) a.acc.length).map enI),.cells 1 ((stL q a.acc.length).map enI)]
   rw [e1,e2]
   generalize stL (p.take (p.length - 1)) a.acc.length=S1 at *
   generalize stL q a.acc.length=S2 at *
   generalize p.take (p.length - 1)=p' at *
   refine z10 z19 Tryz.func38 rfl rfl 50 Tryz.ntmps38 (by simp) ?_
   repeat' ((first|(apply y79 ok;rfl)|(apply z8 (k0);rfl;rfl)|(apply z8 (k1);rfl;rfl)|((first|(apply z112 [] [1,3] [4,5] k2;(focus ((repeat' first|exact z79|apply z49)<;>rfl));rfl)|(apply z112 [] [3,4] [6] s1;(focus ((repeat' first|exact z79|apply z49)<;>first|exact z162 rfl rfl rfl|rfl));rfl)|(apply z112 [] [3,5] [7] s2;(focus ((repeat' first|exact z79|apply z49)<;>first|exact z162 rfl rfl rfl|rfl));rfl));rfl;(focus ((repeat' first|exact z18|apply z14)<;>(refine z23 ?_;((exact z6 fun _=>rfl)))));((refine .inr ⟨rfl,?_⟩;repeat' first|exact True.intro|apply y38|exact z102 (fun _=>rfl) _))))<;>conv=>whnf)
   all_goals (refine rsD [6,7] [] rfl ?_;(repeat' first|exact y81 _|exact z16 _|refine z15 rfl (z6 (fun _=>rfl)) ?_|constructor))
 ·have hgl:=(y67 _).mp hgl
  rw [hgl] at k0
  have e1:ftO g l a=none:=by unfold ftO;rw [hgl];rfl
  unfold ftL
  rw [e1]
  show CallsA _ _ _ _ (.tup [.agg [.sref 0 0 0,.sref 1 0 0],.bool false]) [.cells 1 [],.cells 1 []]
  refine z10 z19 Tryz.func38 rfl rfl 50 Tryz.ntmps38 (by simp) ?_
  repeat' ((first|(apply y79 ok;rfl)|(apply z8 (k0);rfl;rfl))<;>conv=>whnf)
  all_goals (refine y84 1 ?_;refine y84 1 ?_;refine rsD [3,4] [] rfl ?_;(repeat' first|exact y81 _|exact z59|refine z15 rfl (z39) ?_|apply z61|apply z115|constructor))
end Go.Proofs.YtjhgpfaodkchjaaGreat
namespace Go.Proofs.YtjhgpfaodkchjaaGreat
open Go.Gl
attribute [local irreducible] z20 AWP z31 z38 z34
end Go.Proofs.YtjhgpfaodkchjaaGreat
namespace Go.Proofs.YtjhgpfaodkchjaaGreat
open Go.Gl
attribute [local irreducible] z20 AWP z31 z38 z34 RetS z45
def nxW (N s:Nat) (i:Nat):Int:=if i+1=N then (s:Int) else ((i+1:Nat):Int)
def pushW (a:Aut) (word:List Int) (s i:Nat):List (Nat×Int):=a.ed.flatMap (z458 a.acc.length i (word.getD i 0) (nxW word.length s i))
def accW (a:Aut) (word:List Int) (s:Nat):List (List Int):=build (word.length * a.acc.length) ((List.range word.length).flatMap (pushW a word s))
theorem nxW_in {N s i:Nat} (hs:s < N) (hi:i < N):0≤nxW N s i∧nxW N s i≤N - 1:=by unfold nxW;split<;>omega
theorem back_ok (L:List Int) (hL:L.length≤maxLen):CallsA Tryz.prog 78 [ints L] [] (.fn (.func 155) [] [.ptr 0 none 0]) [.cells 1 [[ints L]]]:=by
 refine z10 z19 Tryz.func78 rfl rfl 4 Tryz.ntmps78 (by simp) ?_
 repeat' (((apply y79 ok;rfl))<;>conv=>whnf)
 all_goals (refine rsD [0] [] rfl ?_;(repeat' first|exact y81 _|apply y82|constructor))
def BackR {α:Type} (M:Nat) (Gc:Ghost) (wc:World) (rest:α→List AObj) (L:List Int) (env:List (Nat×AC)) (x:α) (a:Act) (w:World):Prop :=
 ∃ G,SubM M Gc G∧Le wc w∧Rel G (mkSt 19 env (.cells 1 [[ints L]]::rest x)) a w
def IsSt {α:Type} (rest:α→List AObj) (L:List Int) (x:α) (env' : List (Nat×AC)) (st:St):Prop:=st=mkSt 19 env' (.cells 1 [[ints L]]::rest x)
theorem BackR.step {α : Type} {M : Nat} {Gc : Ghost} {wc : World} {rest : α → List AObj} {L : List Int} {env env' : List (Nat × AC)} {x : α} {a : Act} {w : World} {c : Code}
    (h:BackR M Gc wc rest L env x a w) (hc:AWP Tryz.prog M c (z497 (IsSt rest L x env') (fun _ _=>False)) (mkSt 19 env (.cells 1 [[ints L]]::rest x))) {K:Act→World→Prop} {Q:Exit→Act→World→Prop}
    (hk:∀ a w,BackR M Gc wc rest L env' x a w→K a w):c.wpIn Fence.wide 0 Tryz.prog (Exit.then K Q) a w:=by
  obtain ⟨G,h1,h2,h3⟩:=h
  refine wpIn_mono (hc.at_ h3) ?_
  rintro ex a' w' ⟨G',st',k1,k2,k3,k4⟩
  cases ex with
  | normal =>
    have k3:st'=_:=k3
    subst k3
    exact hk _ _ ⟨G',h1.trans k1,h2.trans k2,k4⟩
  | _=>exact k3.elim
theorem BackR.less {α:Type} {M:Nat} {Gc:Ghost} {wc:World} {rest:α→List AObj} {L:List Int} {env env' : List (Nat×AC)} {x:α} {a:Act} {w:World} (h:BackR M Gc wc rest L env x a w) (he:z548 (fun s y=>z94 env s=y) env'):BackR M Gc wc rest L env' x a w:=by
 obtain ⟨G,h1,h2,h3⟩:=h
 refine ⟨G,h1,h2,h3.wf,fun s=>?_,h3.size,h3.defers⟩
 rcases z270 env' _ he s with e|e
 ·show V _ _ _ (z94 env' s) _
  rw [e];simp [V]
 ·have:=h3.env s
  show V _ _ _ (z94 env' s) _
  rw [← e];exact this
theorem z703 {F:Fence} {n:Nat} {P:Program} {ops:Array Oper} {Q:Exit→Act→World→Prop} {l:List Oper} {a:Act} {w:World} (h:wpListIn F n P ops Q (l++[]) a w):wpListIn F n P ops Q l a w:=by rwa [y60] at h
theorem BackR.val {α:Type} {M:Nat} {Gc:Ghost} {wc:World} {rest:α→List AObj} {L:List Int} {env:List (Nat×AC)} {x:α} {a:Act} {w:World} (h:BackR M Gc wc rest L env x a w) {s:Nat} {v:Value} (he:z94 env s=.raw v):a.tmps.getD s undef=v:=by
 obtain ⟨G,_,_,hR⟩:=h
 have:=hR.env s
 rw [show (mkSt 19 env (.cells 1 [[ints L]]::rest x)).env s=z94 env s from rfl,he] at this
 simpa only [V] using this
set_option maxHeartbeats 1600000 in
theorem back1:z951 Tryz.prog 155:=by
 intro α M rest okI L l Gc wc lb x0 hL hlen hy h0 hWc hlbs hlb
 unfold maxLen at hL
 refine callsIn_of_wp_marks (n:=0) Tryz.func155 rfl trivial ?_
 have hvs:(#[Value.func (.yield l) #[] #[]]++lb).size=2:=by simp [hlbs]
 have hinit:BackR M Gc.split wc rest L [(0,.raw (.func (.yield l) #[] #[])),(1,.ptr 0 none 0)] x0 { tmps:=(#[Value.func (.yield l) #[] #[]]++lb)++Array.replicate (19 - (#[Value.func (.yield l) #[] #[]]++lb).size) undef,defers:=[] } wc:=by
  refine ⟨Gc.split,SubM.refl _ _,Le.refl _,hWc.split,fun s=>?_,by show Array.size _=19;simp [hlbs],Marks.nil _⟩
  refine z436 (G:=Gc) (h:=hp wc) (fun _ _ _ _ e=>z412 e) (fun _ _ e=>e) ?_
  refine z1156 (args:=[.raw (.func (.yield l) #[] #[]),.ptr 0 none 0]) hvs ?_ 19 s
  exact z564 (xs:=[.raw (.func (.yield l) #[] #[])]) rfl (by simp [VL,V]) hlb
 refine wpIn_seq (hinit.step (env':=[(3,.int (L.length - 1)),(6,.int (L.length - 1)),(5,.int L.length),(4,ints L),(0,.raw (.func (.yield l) #[] #[])),(1,.ptr 0 none 0)]) ?_ fun a1 w1 hB1=>?_)
 ·repeat' ((first|(apply y79 ok;rfl)|(apply y38;(unfold inI;omega)))<;>conv=>whnf)
  all_goals rfl
 refine wpIn_block (wpIn_loop (fun a w=>∃ k x,k≤L.length∧okI k x∧BackR M Gc.split wc rest L [(3,.int ((k:Int) - 1)),(0,.raw (.func (.yield l) #[] #[])),(1,.ptr 0 none 0)] x a w) (fun a _=>match a.tmps.getD 3 undef with
  |.int _ i=>(i+1).toNat
  |_=>0) ⟨L.length,x0,y47 _,h0,hB1.less ⟨rfl,rfl,rfl,trivial⟩⟩ ?_)
 rintro a w ⟨k,x,hk,hok,hB⟩
 have hμ:(match a.tmps.getD 3 undef with
  |.int _ i=>(i+1).toNat
  |_=>0)=k:=by
  rw [hB.val (s:=3) rfl];simp
 rw [hμ]
 refine wpIn_seq (wpIn_seq (hB.step (env':=[(8,.raw (.bool (decide ((0:Int)≤(k:Int) - 1)))),(7,.int ((k:Int) - 1)),(3,.int ((k:Int) - 1)),(0,.raw (.func (.yield l) #[] #[])),(1,.ptr 0 none 0)]) ?_ fun a2 w2 hB2=>?_))
 ·repeat' (((apply y79 ok;rfl))<;>conv=>whnf)
  all_goals rfl
 have h8:a2.eval (.tmp 8)=.bool (decide ((0:Int)≤(k:Int) - 1)):=hB2.val (s:=8) rfl
 by_cases hk0:k=0
 ·subst hk0
  refine wpIn_cond_false (h8.trans (by simp)) (wpIn_exit ?_)
  obtain ⟨G,s1,s2,hR⟩:=hB2
  obtain ⟨Ds,d1,d2,d3,d4,d5,d6⟩:=z528 hWc s1.1 hR
  show LeavesInM Fence.wide 0 _ _ a2.tmps _ a2.defers .returning w2
  rw [d1]
  exact z294 Ds w2 d2 d3 ⟨.tuple #[],by rw [z420,show Tryz.f155.results=#[] from rfl];simp,.tuple #[],Gc.join G Ds,x,rfl,hok,⟨d4,fun o t ho e=>by rw [d5];exact s1.2 o t ho e⟩,s2.trans (z635 Ds w2),d6.wf⟩
 obtain ⟨j,rfl⟩:∃ j,k=j+1:=⟨k - 1,by omega⟩
 refine wpIn_cond_true (h8.trans (by rw [y76 (by omega)])) (wpIn_skip ?_)
 have hjL:j < L.length:=by omega
 have gL:(L.map enI)[j]?=some (enI L[j]):=by rw [y46,y40 hjL];rfl
 have hB3:BackR M Gc.split wc rest L [(3,.int (j:Int)),(0,.raw (.func (.yield l) #[] #[])),(1,.ptr 0 none 0)] x a2 w2:=hB2.less ⟨by show AC.int _=_;congr 3;omega,rfl,rfl,trivial⟩
 refine wpIn_seq (wpIn_block (wpIn_seq (wpIn_region_list ?_)))
 rw [← List.take_append_drop 6 (Array.toList _)]
 obtain ⟨G,s1,s2,hR⟩:=hB3
 generalize hz:L[j]=z at gL
 refine z503 (ro:=none) z19 _ _ _ _ (fun env' objs'=>objs'=.cells 1 [[ints L]]::rest x∧z548 (fun s y=>z94 env' s=y) [(16,.int z),(12,.int (j:Int)),(11,.raw (.func (.yield l) #[] #[])),(3,.int (j:Int)),(0,.raw (.func (.yield l) #[] #[])),(1,.ptr 0 none 0)]) (.inl rfl) ?_ M G a2 w2 hR ?_
 ·conv=>whnf
  repeat' ((first|(refine z21 (i:=j) rfl gL ?_)|(apply y38;omega))<;>conv=>whnf)
  all_goals exact ⟨rfl,rfl,rfl,rfl,rfl,rfl,rfl,trivial⟩
 rintro G1 env1 objs1 a3 w3 t1 t2 ⟨rfl,hE⟩ t4
 have hB4:BackR M Gc.split wc rest L env1 x a3 w3:=⟨G1,s1.trans t1,s2.trans t2,t4⟩
 have hB5:=hB4.less hE
 have v16:a3.eval (.tmp 16)=.int .i64 z:=hB5.val (s:=16) rfl
 have v12:a3.eval (.tmp 12)=.int .i64 (j:Int):=hB5.val (s:=12) rfl
 have v11:a3.eval (.tmp 11)=.func (.yield l) #[] #[]:=hB5.val (s:=11) rfl
 obtain ⟨f,tm,asg,bo,hyr,hyR⟩:=hy j x G1 w3 hjL hok (s1.trans t1) (s2.trans t2) t4.wf
 rw [hz] at hyr
 refine wpListIn_plain rfl fun Kk hKk=>?_
 unfold Oper.wpIn
 refine ⟨fun _ _=>trivial,?_⟩
 have hex : (execOp a3.eval ⟨some 17, .call ⟨.value (.tmp 11), #[.tmp 12, .tmp 16], #[3, 3]⟩, 4, "iter.go:29", #[], none⟩).run Tryz.prog w3 = .ok (.round l f tm asg bo) w3 := by
  show (do let d ← resolve a3.eval ⟨.value (.tmp 11),#[.tmp 12,.tmp 16],#[3,3]⟩ 4;invoke d.target d.args:Sem Next).run Tryz.prog w3=_
  simp only [resolve,v11,Deferred.ofValue,Sem.run_bind,Sem.run_pure,Result.andThen,invoke]
  rw [show (#[]++(#[Operand.tmp 12,.tmp 16].map a3.eval):Array Value)=#[.int .i64 (j:Int),.int .i64 z] by simp [v12,v16]]
  exact hyr
 show Oper.uponIn Fence.wide 0 _ _ _ _ _ ((execOp a3.eval ⟨some 17, .call ⟨.value (.tmp 11), #[.tmp 12, .tmp 16], #[3, 3]⟩, 4, "iter.go:29", #[], none⟩).run Tryz.prog w3)
 rw [hex]
 refine ⟨(fun h=>by cases h),hyR.mono ?_⟩
 rintro e w4 ⟨rfl,G2,y,u1,u2,u3,u4⟩
 refine hKk _ _ ?_
 have hall:=y12 (M:=M) t4.wf (Nat.le_of_eq (hlen x)) u2
 have hB6:BackR M Gc.split wc rest L ((17,.raw (.bool true))::[(16,.int z),(12,.int (j:Int)),(11,.raw (.func (.yield l) #[] #[])),(3,.int (j:Int)),(0,.raw (.func (.yield l) #[] #[])),(1,.ptr 0 none 0)]) y (a3.put (some 17) (.bool true)) w4:=by
  refine ⟨G2,(s1.trans t1).trans u2,(s2.trans t2).trans u3,u4,z684 (n:=19) (by decide) t4.size (fun s=>?_) (by simp [V]),by rw [z191];exact t4.size,by rw [z135];exact t4.defers.mono u2.1.S⟩
  rcases z270 _ _ hE s with e|e
  ·rw [e];simp [V]
  ·rw [← e];exact z116 u2.1.S hall (t4.env s)
 obtain ⟨G3,p1,p2,p3⟩:=hB6
 refine z703 ?_
 refine z503 (ro:=none) z19 _ [] _ _ (fun env' objs'=>objs'=.cells 1 [[ints L]]::rest y∧z548 (fun s y=>z94 env' s=y) [(18,.raw (.bool false)),(3,.int (j:Int)),(0,.raw (.func (.yield l) #[] #[])),(1,.ptr 0 none 0)]) (.inl rfl) ?_ M G3 _ w4 p3 ?_
 ·conv=>whnf
  repeat' ((fail)<;>conv=>whnf)
  all_goals exact ⟨rfl,rfl,rfl,rfl,rfl,trivial⟩
 rintro G4 env4 objs4 a5 w5 q1 q2 ⟨rfl,hE4⟩ q4
 have hB7:BackR M Gc.split wc rest L env4 y a5 w5:=⟨G4,p1.trans q1,p2.trans q2,q4⟩
 have hB8:=hB7.less hE4
 have v18:a5.eval (.tmp 18)=.bool false:=hB8.val (s:=18) rfl
 show Code.wpIn Fence.wide 0 _ _ _ a5 w5
 refine wpIn_cond_false v18 (wpIn_skip ?_)
 show Code.wpIn Fence.wide 0 _ _ _ a5 w5
 refine wpIn_mono (hB8.step (env':=[(3,.int ((j:Int) - 1)),(10,.int ((j:Int) - 1)),(9,.int (j:Int)),(18,.raw (.bool false)),(3,.int (j:Int)),(0,.raw (.func (.yield l) #[] #[])),(1,.ptr 0 none 0)]) (K:=fun a w=>BackR M Gc.split wc rest L [(3,.int ((j:Int) - 1)),(10,.int ((j:Int) - 1)),(9,.int (j:Int)),(18,.raw (.bool false)),(3,.int (j:Int)),(0,.raw (.func (.yield l) #[] #[])),(1,.ptr 0 none 0)] y a w) (Q:=fun _ _ _=>False) ?_ fun _ _ h=>h) ?_
 ·repeat' ((first|(apply y79 ok;rfl)|(apply y38;(unfold inI;omega)))<;>conv=>whnf)
  all_goals rfl
 rintro ex a6 w6 hB9
 cases ex with
 |normal =>
  have hB9:BackR M Gc.split wc rest L _ y a6 w6:=hB9
  refine ⟨⟨j,y,by omega,u1,hB9.less ⟨rfl,rfl,rfl,trivial⟩⟩,?_⟩
  show (match a6.tmps.getD 3 undef with
   |.int _ i=>(i+1).toNat
   |_=>0) < j+1
  rw [hB9.val (s:=3) rfl]
  show ((j:Int) - 1+1).toNat < j+1
  omega
 |_=>exact hB9.elim
def NoAcc (rows:List (List Int)) (ini:List Int) (acc:List Bool):Prop:=∀ x,RP rows ini x→Cyc rows x→acc.getD (x % acc.length).toNat false=false
section
variable {rows:List (List Int)} {ini:List Int} {acc:List Bool} {R:List Int}
theorem z948 (k:Nat):∀ u,Wt rows acc k u≤k:=by
 induction k with
 |zero=>intro u;exact Int.le_refl _
 |succ k ih =>
  intro u
  rw [Wt]
  refine z199 (by omega) fun v hv=>?_
  have:=ih v
  have:wtA acc u≤1:=by unfold wtA;split<;>omega
  omega
theorem z838 (z:Int):(rkL rows ini acc z).length=rows.length:=by simp [rkL]
theorem rkL_get (z:Int) {u:Int} (hu:0≤u∧u < rows.length):rk (rkL rows ini acc z) u=if RP rows ini u then Wt rows acc (bfsL rows ini).length u else z:=by
 unfold rk
 rw [z17 (by rw [z838];omega)]
 simp only [rkL,List.getElem_map,List.getElem_range,Int.toNat_of_nonneg hu.1]
theorem rkL_at (z:Int) {i:Nat} (hi:i < rows.length):(rkL rows ini acc z).getD i 0=if RP rows ini (i:Int) then Wt rows acc (bfsL rows ini).length i else z:=by
 have:=rkL_get (rows:=rows) (ini:=ini) (acc:=acc) z (u:=(i:Int)) ⟨by omega,by omega⟩
 unfold rk at this
 rwa [y72] at this
end
end Go.Proofs.YtjhgpfaodkchjaaGreat
namespace Go.Proofs.YtjhgpfaodkchjaaGreat
open Go.Gl
attribute [local irreducible] z20 AWP z31 z38 z34 RetS z45
attribute [local irreducible] EndR
theorem z714 {g:Graph} {ls:List Int} {a:Aut} (hr:∀ r∈z58 g ls a,InN (z58 g ls a).length r) (hi:InN (z58 g ls a).length a.ini) (hn:a.ini.Nodup) (h:trcO g ls a=none):NoAcc (z58 g ls a) a.ini a.acc:=by
 unfold trcO at h
 rw [Option.map_eq_none_iff,← z475 hr hi hn,z754] at h
 intro x hx hc
 have hxN:=RP.in hr hi hx
 have:=h x ((z146 hr hi x).2 hx)
 cases hb:a.acc.getD (x % a.acc.length).toNat false with
 |false=>rfl
 |true =>
  exfalso
  apply this
  refine ⟨hb,z398.2 ?_⟩
  rw [Int.toNat_of_nonneg hxN.1];exact hc
set_option maxHeartbeats 6400000 in
theorem z766 (g:Graph) (hg:g.mx) (l:List Tree) (hl:Lmx l) (a:Aut) (ha:a.mx):CallsA Tryz.prog 32 [.agg g.cs,lst 3 Tree.cs' l,.agg a.cs] [] (.tup [.agg [.sref 0 0 (mkR g l a).length],.bool (mkOk g l a)]) [.cells 1 ((mkR g l a).map enI)]:=by
 have k0:=z619 g hg l hl a ha
 by_cases hgl:(glB g l && autB a)=true
 ·rw [hgl] at k0
  obtain ⟨h1,hab⟩:=Bool.and_eq_true_iff.1 hgl
  have hG:=(z99 g).1 (by unfold glB at h1;exact (Bool.and_eq_true_iff.1 h1).1)
  have hL:=y7 (by unfold glB at h1;exact (Bool.and_eq_true_iff.1 h1).2)
  have hA:=z274.1 hab
  have k1:CallsA Tryz.prog 38 [.agg g.cs,lst 3 Tree.cs' l,.agg a.cs] [] (.tup [.agg (ftL g l a).cs,.bool (ftO g l a).isSome]) []:=(by refine y4 (z425 g hg l hl a ha) [] [0,1] rfl rfl rfl ?_ ?_<;>(repeat' first|exact y81 _|((apply z57 rfl rfl rfl);(focus ((repeat ((exact z47 (fun _=>rfl) _)));done));(focus (((simp;done));done)))|apply z61|apply z115|constructor))
  have k2:=z598 g hG l hL a hA
  obtain ⟨f1,f2,f3,f4,f5⟩:=z422 hG hA (g.st.map (z42 l))
  have hnd:=hA.2.2.1.nd
  have hac:=hA.1
  have hft:ftO g l a=trcO g (g.st.map (z42 l)) a:=by unfold ftO;rw [if_pos hgl]
  have hmk:mkOk g l a=!(trcO g (g.st.map (z42 l)) a).isSome:=by unfold mkOk;rw [hgl];rfl
  have hno:=z714 (g:=g) (ls:=g.st.map (z42 l)) (a:=a) f1 f2 hnd
  have hmR:mkR g l a=if mkOk g l a=true then z853 (z58 g (g.st.map (z42 l)) a) a.ini a.acc else []:=rfl
  rw [hft] at k1
  rw [hmk] at hmR ⊢
  generalize ftL g l a=tl at *
  generalize mkR g l a=MR at *
  generalize trcO g (g.st.map (z42 l)) a=tO at *
  cases tO with
  |some p =>
   have e:MR=[]:=hmR
   subst e
   show CallsA _ _ _ _ (.tup [.agg [.sref 0 0 0],.bool false]) [.cells 1 []]
   refine z10 z19 Tryz.func32 rfl rfl 122 Tryz.ntmps32 (by simp) ?_
   repeat' ((first|(apply y79 ok;rfl)|(apply z8 (k0);rfl;rfl)|(apply z8 (k1);rfl;rfl))<;>conv=>whnf)
   all_goals (refine y84 1 ?_;refine rsD [4] [] rfl ?_;(repeat' first|exact y81 _|exact z59|refine z15 rfl (z39) ?_|apply z61|apply z115|constructor))
  |none =>
   have hno:=hno rfl
   have e:MR=z853 (z58 g (g.st.map (z42 l)) a) a.ini a.acc:=hmR
   rw [makeR_eq f1 f2 hno] at e
   subst e
   generalize hrows:z58 g (g.st.map (z42 l)) a=rows at *
   clear hmR hmk hft hrows
   have k3':=z649 rows a.ini f1 f2 (by omega) f4 f5
   rw [← z597 rows a.ini] at k3'
   have k3:CallsA Tryz.prog 76 [lst 1 encL rows,ints a.ini] [] (lst 1 enB (z238 rows a.ini)) []:=(by refine y4 (k3') [] [0] rfl rfl rfl ?_ ?_<;>(repeat' first|exact y81 _|((apply z57 rfl rfl rfl);(focus ((repeat ((exact z47 (fun _=>rfl) _)));done));(focus (((simp;done));done)))|constructor))
   clear k3'
   have k4:CallsA Tryz.prog 77 [lst 1 encL rows,ints a.ini] [] (ints (bfsL rows a.ini)) []:=(by refine y4 (z742 rows a.ini f1 f2 (by omega) f4 (by omega)) [] [0] rfl rfl rfl ?_ ?_<;>(repeat' first|exact y81 _|((apply z57 rfl rfl rfl);(focus ((repeat ((exact z47 (fun _=>rfl) _)));done));(focus (((simp;done));done)))|constructor))
   have hQl:=z694 f1 f2 rows.length
   show CallsA _ _ _ _ (.tup [.agg [.sref 0 0 (rkL rows a.ini a.acc (-1)).length],.bool true]) [.cells 1 ((rkL rows a.ini a.acc (-1)).map enI)]
   refine z10 z19 Tryz.func32 rfl rfl 122 Tryz.ntmps32 (by simp) ?_
   repeat' ((first|(apply y79 ok;rfl)|(apply y38;(dsimp only;omega))|(apply z8 (k0);rfl;rfl)|(apply z8 (k1);rfl;rfl)|(apply z8 (k2);rfl;rfl)|(apply z8 (k3);rfl;rfl)|(apply z8 (k4);rfl;rfl))<;>conv=>whnf)
   have hQ4:(bfsL rows a.ini).length≤3840:=by unfold bfsL;omega
   have k5:=back_ok (bfsL rows a.ini) (by unfold maxLen;omega)
   have hRI:=RoundI.init (rows:=rows) (ini:=a.ini) (acc:=a.acc) f1 f2
   refine z85 (fun x:Nat×List Int×Bool=>([(5,.ptr 0 none 0),(6,.ptr 1 none 0),(10,.ptr 2 none 0),(11,.ptr 3 none 0),(13,lst 1 enB (z238 rows a.ini)),(14,.ptr 5 none 0),(15,ints (bfsL rows a.ini)),(16,.ptr 6 none 0)],[.cells 3 [a.cs],.cells 1 [[.nils]],.cells 1 [[.int a.acc.length]],.cells 1 [[lst 1 encL rows]],.cells 1 (x.2.1.map enI),.cells 1 [[.sref 4 0 rows.length]],.cells 1 [[.bool x.2.2]]])) (fun x=>RoundI rows a.ini a.acc x.1 x.2.1 x.2.2) (fun x=>match x.2.2 with
    |true=>(bfsL rows a.ini).length+1 - x.1+1
    |false=>0) (0,List.replicate rows.length 0,true) hRI (by refine swR [1,2,4,5,6,7,8] [] rfl rfl ?_;(repeat' first|exact y81 _|apply y82|refine z15 rfl (z70 rfl) ?_|constructor)<;>((refine z60 ?_;rw [y72,List.map_replicate];rfl))) ?_
   rintro ⟨t,R,c⟩ hI
   dsimp only at hI
   dsimp only
   have hRl:=hI.rk.len
   cases c with
   |false =>
    obtain ⟨qm,hqm⟩:∃ qm:Nat→Nat→Int,qm=fun (i j:Nat)=>if j < i∧¬ RP rows a.ini (j:Int) then -1 else R.getD j 0:=⟨_,rfl⟩
    have q0:fnL rows.length (qm 0)=R:=by
     apply y70 (by rw [z106];exact hRl.symm)
     intro i h1 h2
     rw [z429,hqm]
     dsimp only
     rw [if_neg (by omega),z17 h2]
    have qE:fnL rows.length (qm rows.length)=rkL rows a.ini a.acc (-1):=by
     apply y70 (by rw [z106,z838])
     intro i h1 h2
     have hi' : i < rows.length:=by rw [z106] at h1;exact h1
     rw [z429,← z17 (d:=0) h2,rkL_at _ hi',hqm]
     dsimp only
     by_cases hp:RP rows a.ini (i:Int)
     ·rw [if_neg (by simp [hp]),if_pos hp]
      have:=hI.fin rfl (i:Int) hp
      rwa [y72] at this
     ·rw [if_pos ⟨hi',hp⟩,if_neg hp]
    have qT:∀ i:Nat,¬ RP rows a.ini (i:Int)→qm (i+1)=upd (qm i) i (-1):=fun i hp=>by
     funext j
     by_cases h2:j=i
     ·subst h2;rw [z25,hqm];dsimp only;rw [if_pos ⟨by omega,hp⟩]
     ·rw [z50 _ _ h2,hqm];dsimp only
      by_cases h3:j < i
      ·simp only [show j < i+1 by omega,h3]
      ·simp only [show ¬ j < i+1 by omega,h3]
    have qF:∀ i:Nat,RP rows a.ini (i:Int)→qm (i+1)=qm i:=fun i hp=>by
     funext j
     rw [hqm];dsimp only
     by_cases h2:j=i
     ·subst h2;rw [if_neg (by simp [hp]),if_neg (by simp [hp])]
     ·by_cases h3:j < i
      ·simp only [show j < i+1 by omega,h3]
      ·simp only [show ¬ j < i+1 by omega,h3]
    clear hqm
    have hbl:=z597 rows a.ini
    repeat' (((apply y79 ok;rfl))<;>conv=>whnf)
    refine z85 (fun i:Nat=>([(6,.ptr 0 none 0),(13,lst 1 enB (z238 rows a.ini)),(14,.ptr 1 none 0),(107,.int rows.length),(108,.int i)],[.cells 1 [[.nils]],.cells 1 [[.sref 2 0 rows.length]],.cells 1 ((fnL rows.length (qm i)).map enI)])) (fun i=>i≤rows.length) (fun i=>rows.length - i) 0 (y48 _) (by refine swR [1,5,4] [] rfl rfl ?_;(repeat' first|exact y81 _|apply y82|refine z15 rfl (z6 (fun _=>rfl)) ?_|constructor)<;>((refine z60 ?_;rw [q0]))) ?_
    intro i hi
    by_cases hil:i < rows.length
    ·have gm:((z238 rows a.ini).map enB)[i]?=some (enB (decide (RP rows a.ini (i:Int)))):=by
      rw [y46,y40 (by omega)]
      simp [z238]
     have g1:=z166 (qm i) hil
     have l1:=z106 rows.length (qm i)
     by_cases hp:RP rows a.ini (i:Int)
     ·rw [y76 hp] at gm
      have e:=qF i hp
      generalize z238 rows a.ini=rb at *
      repeat' ((first|(apply y79 ok;rfl)|(refine z21 (i:=i) rfl gm ?_)|(apply y38;first|omega|(unfold inI;omega))|((apply z7)<;>intro _))<;>conv=>whnf)
      all_goals try (exfalso;omega)
      all_goals refine z44 (i+1) hil (by show rows.length - (i+1) < rows.length - i;omega) (by refine swR [0,1,2] [] rfl rfl ?_;(repeat' first|exact y81 _|apply y82|refine z15 rfl (z6 (fun _=>rfl)) ?_|constructor)<;>((rw [e];(repeat' (exact z16 _)))))
     ·rw [y77 hp] at gm
      have e1:=z143 (N:=rows.length) (u:=i) (qm i) (-1)
      rw [← qT i hp] at e1
      generalize z238 rows a.ini=rb at *
      repeat' ((first|(apply y79 ok;rfl)|(refine z21 (i:=i) rfl gm ?_)|(refine z21 (i:=i) rfl g1 ?_)|(apply y38;first|omega|(unfold inI;omega))|((apply z7)<;>intro _))<;>conv=>whnf)
      all_goals try (exfalso;omega)
      all_goals refine z44 (i+1) hil (by show rows.length - (i+1) < rows.length - i;omega) (by refine swR [0,1,2] [] rfl rfl ?_;(repeat' first|exact y81 _|apply y82|refine z71 rfl (z6 (fun _=>rfl)) ?_|constructor)<;>((refine z60 ?_;exact e1)))
    obtain rfl:i=rows.length:=by omega
    rw [qE,z838]
    repeat' ((first|(apply y79 ok;rfl)|(apply y38;omega)|((first|(with_reducible apply z13;omega)|(apply z13;omega));intro _)|((first|apply z7|apply z103)<;>intro _))<;>conv=>whnf)
    all_goals try (exfalso;omega)
    all_goals (refine rsD [2] [] rfl ?_;(repeat' first|exact y81 _|exact z16 _|refine z15 rfl (z6 (fun _=>rfl)) ?_|constructor))
   |true =>
    have hps:=hI.pass f1 f2 hno
    have hlt:=hI.lt rfl
    repeat' ((first|(apply y79 ok;rfl)|(apply z41 [] [7] k5;rfl;rfl;rfl))<;>conv=>whnf)
    refine y80 (SealW.reach (env:=[(5,.ptr 1 none 0),(6,.ptr 2 none 0),(10,.ptr 3 none 0),(11,.ptr 4 none 0),(13,lst 1 enB (z238 rows a.ini)),(14,.ptr 6 none 0),(15,ints (bfsL rows a.ini)),(16,.ptr 7 none 0),(59,.fn (.func 155) [] [.ptr 0 none 0])]) (objs:=[.cells 1 [[ints (bfsL rows a.ini)]],.cells 3 [a.cs],.cells 1 [[.nils]],.cells 1 [[.int a.acc.length]],.cells 1 [[lst 1 encL rows]],.cells 1 (R.map enI),.cells 1 [[.sref 5 0 rows.length]],.cells 1 [[.bool false]]]) [7,0,1,2,3,4,5,6] [] rfl rfl rfl rfl ?_ ?_) ?_
    ·(repeat' first|exact y81 _|constructor)
    ·(repeat' first|exact y81 _|exact z16 _|apply y82|refine z15 rfl (z6 (fun _=>rfl)) ?_|constructor)
    refine z695 (M:=8) (L:=bfsL rows a.ini) back1 ⟨_,_,Tryz.func155,rfl,rfl⟩ rfl (Nat.le_of_ble_eq_true rfl) (Nat.le_of_ble_eq_true rfl) (by unfold maxLen;omega) (by kernel_rfl) (by decide)
     (fun x:List Int×Bool=>[.cells 3 [a.cs],.cells 1 [[.nils]],.cells 1 [[.int a.acc.length]],.cells 1 [[lst 1 encL rows]],.cells 1 (x.1.map enI),.cells 1 [[.sref 5 0 rows.length]],.cells 1 [[.bool x.2]]])
     (fun k x=>pst rows a.acc (bfsL rows a.ini) R k=x) (R,false) rfl (fun _=>rfl) (z913 _ _) ?_ ?_
    ·intro k x hk hx
     have hpi:=pst_inv (acc:=a.acc) f1 f2 hno hI.rk (k+1)
     have hpg:=z650 f1 f2 hRl hI.gr ((bfsL rows a.ini).length - (k+1)) (k+1) (by omega)
     have hst:=z912 (rows:=rows) (acc:=a.acc) (R:=R) hk
     rw [hx] at hpi hpg hst
     obtain ⟨R1,c1⟩:=x
     dsimp only at hpi hpg ⊢
     have hu:=(z146 f1 f2 _).1 (y39 hk)
     generalize (bfsL rows a.ini)[k]=u at *
     have huN:=RP.in f1 f2 hu
     have hRl1:=hpi.len
     rw [z468] at hst
     dsimp only at hst
     have hgu:=hpg u hu
     have hle:=z1079 (acc:=a.acc) (R:=R1) hu hpi.hi
     have hWs:=z948 (rows:=rows) (acc:=a.acc) ((bfsL rows a.ini).length+1) u
     have hrowR:∀ v∈rows.getD u.toNat [],RP rows a.ini v:=fun v hv=>.step hu hv
     have hv0:∀ v∈rows.getD u.toNat [],0≤R1.getD v.toNat 0∧R1.getD v.toNat 0≤4000:=fun v hv=>by
      have h1:=hpi.lo v (hrowR v hv)
      have h2:=hpi.hi v (hrowR v hv)
      have h3:=z1032 (rows:=rows) (acc:=a.acc) t v
      have h4:=z948 (rows:=rows) (acc:=a.acc) (bfsL rows a.ini).length v
      omega
     have hrk:rkU rows a.acc R1 u=rkP R1 (rows.getD u.toNat [])+(if a.acc.getD (u % a.acc.length).toNat false=true∧0 < (rows.getD u.toNat []).length then 1 else 0):=rk_impl fun v hv=>(hv0 v hv).1
     have hm0:0≤u % (a.acc.length:Int):=Int.emod_nonneg _ (by omega)
     have hm1:u % (a.acc.length:Int) < a.acc.length:=Int.emod_lt_of_pos _ (by omega)
     have ga:(a.acc.map enB)[(u % (a.acc.length:Int)).toNat]?=some (enB (a.acc.getD (u % (a.acc.length:Int)).toNat false)):=by
      rw [y46,y40 (by omega),z17 (by omega)];rfl
     have grow:(rows.map encL)[u.toNat]?=some (encL (rows.getD u.toNat [])):=by
      rw [y46,y40 (by omega),z17 (by omega)];rfl
     have gu:(R1.map enI)[u.toNat]?=some (enI (R1.getD u.toNat 0)):=by
      rw [y46,y40 (by omega),z17 (by omega)];rfl
     have hrb:(rows.getD u.toNat []).length≤1000000000:=by rw [z17 (by omega)];exact f4 _ (y39 _)
     have hrN:∀ v∈rows.getD u.toNat [],0≤v∧v < rows.length:=fun v hv=>RP.in f1 f2 (hrowR v hv)
     clear hrowR hle hpg hpi hx hps hI hRI hQl
     rw [hrk] at hst hgu
     clear hrk
     generalize rows.getD u.toNat []=row at *
     generalize a.acc.getD (u % (a.acc.length:Int)).toNat false=z at *
     have hpr:∀ j,0≤rkP R1 (row.take j)∧rkP R1 (row.take j)≤4000:=fun j=>⟨(z107 _ _ _).1,z199 (by omega) fun v hv=>(hv0 v (List.mem_of_mem_take hv)).2⟩
     repeat' ((first|(apply y79 ok;rfl)|(refine z21 (i:=u.toNat) rfl grow ?_)|(apply y38;omega))<;>conv=>whnf)
     refine z85 (fun j:Nat=>([(5,.ptr 1 none 0),(10,.ptr 3 none 0),(11,.ptr 4 none 0),(14,.ptr 6 none 0),(16,.ptr 7 none 0),(18,.int u),(19,.int (rkP R1 (row.take j))),(65,ints row),(66,.int row.length),(67,.int j)],[.cells 1 [[ints (bfsL rows a.ini)]],.cells 3 [a.cs],.cells 1 [[.nils]],.cells 1 [[.int a.acc.length]],.cells 1 [[lst 1 encL rows]],.cells 1 (R1.map enI),.cells 1 [[.sref 5 0 rows.length]],.cells 1 [[.bool c1]]])) (fun j=>j≤row.length) (fun j=>row.length - j) 0 (y48 _) (by refine swR [0,1,2,3,4,5,6,7] [] rfl rfl ?_;(repeat' first|exact y81 _|exact z16 _|apply y82|refine z15 rfl (z6 (fun _=>rfl)) ?_|constructor)) ?_
     intro j hj
     by_cases hjl:j < row.length
     ·have gv:(row.map enI)[j]?=some (enI row[j]):=by rw [y46,y40 hjl];rfl
      have hvN:=hrN _ (y39 hjl)
      have gR:(R1.map enI)[(row[j]).toNat]?=some (enI (R1.getD (row[j]).toNat 0)):=by
       rw [y46,y40 (by omega),z17 (by omega)];rfl
      have ht:=rkP_take (R:=R1) hjl
      have hp1:=hpr j
      have hv1:=hv0 _ (y39 hjl)
      generalize row[j]=v at *
      generalize rkP R1 (row.take j)=q1 at *
      generalize R1.getD v.toNat 0=rv at *
      repeat' ((first|(apply y79 ok;rfl)|(apply z36;kernel_rfl)|(refine z21 (i:=j) rfl gv ?_)|(refine z21 (i:=v.toNat) rfl gR ?_)|(apply y38;first|omega|(unfold inI;omega))|((first|(with_reducible apply z137;omega)|(apply z13;omega));intro _)|((first|apply z7|apply z40|apply z105)<;>intro _))<;>conv=>whnf)
      all_goals try (exfalso;omega)
      all_goals refine z44 (j+1) (by show j+1≤_;omega) (by show row.length - (j+1) < row.length - j;omega) (by refine swR [0,1,2,3,4,5,6,7] [] rfl rfl ?_;(repeat' first|exact y81 _|exact z16 _|(refine z149 ?_;omega)|apply y82|refine z15 rfl (z6 (fun _=>rfl)) ?_|constructor)<;>((rw [ht];(repeat' (fail)))))
     obtain rfl:j=row.length:=by omega
     rw [y51]
     have hp1:=hpr row.length
     rw [y51] at hp1
     clear hpr hv0 hrN
     generalize rkP R1 row=q at *
     have gs:∀ v,(R1.map enI).set u.toNat (enI v)=(R1.set u.toNat v).map enI:=fun v=>by rw [List.map_set]
     generalize R1.getD u.toNat 0=ru at *
     by_cases hz:z=true∧0 < row.length
     ·rw [if_pos hz] at hst hgu
      obtain ⟨rfl,hrl⟩:=hz
      by_cases hc:ru < q+1
      ·rw [if_pos hc] at hst
       have gs1:=gs (q+1)
       repeat' ((first|(apply y79 ok;rfl)|(apply z36;kernel_rfl)|(refine z21 (i:=u.toNat) rfl grow ?_)|(refine z21 (i:=(u % (a.acc.length:Int)).toNat) rfl ga ?_)|(refine z21 (i:=u.toNat) rfl gu ?_)|(apply y38;first|omega|(unfold inI;omega))|((first|(with_reducible apply z13;omega)|(apply z13;omega));intro _)|((first|apply z7|apply z40)<;>intro _))<;>conv=>whnf)
       all_goals try (exfalso;omega)
       all_goals exact EndR.mk (R1.set u.toNat (q+1),true) hst (by refine swR [0,1,2,3,4,5,6,7] [] rfl rfl ?_;(repeat' first|exact y81 _|apply y82|refine z71 rfl (z6 (fun _=>rfl)) ?_|refine z445 (by omega) ?_|constructor)<;>((refine z60 ?_;exact gs1)))
      ·rw [if_neg hc] at hst
       repeat' ((first|(apply y79 ok;rfl)|(apply z36;kernel_rfl)|(refine z21 (i:=u.toNat) rfl grow ?_)|(refine z21 (i:=(u % (a.acc.length:Int)).toNat) rfl ga ?_)|(refine z21 (i:=u.toNat) rfl gu ?_)|(apply y38;first|omega|(unfold inI;omega))|((first|(with_reducible apply z13;omega)|(apply z13;omega));intro _)|((first|apply z7|apply z40)<;>intro _))<;>conv=>whnf)
       all_goals try (exfalso;omega)
       all_goals exact EndR.mk (R1,c1) hst (by refine swR [0,1,2,3,4,5,6,7] [] rfl rfl ?_;(repeat' first|exact y81 _|exact z16 _|apply y82|refine z15 rfl (z6 (fun _=>rfl)) ?_|constructor))
     ·rw [if_neg hz,Int.add_zero] at hst hgu
      cases z with
      |true =>
       have hrl:row.length=0:=by
        rcases Nat.eq_zero_or_pos row.length with h|h
        ·exact h
        ·exact absurd ⟨rfl,h⟩ hz
       by_cases hc:ru < q
       ·rw [if_pos hc] at hst
        have gs1:=gs (q)
        repeat' ((first|(apply y79 ok;rfl)|(apply z36;kernel_rfl)|(refine z21 (i:=u.toNat) rfl grow ?_)|(refine z21 (i:=(u % (a.acc.length:Int)).toNat) rfl ga ?_)|(refine z21 (i:=u.toNat) rfl gu ?_)|(apply y38;omega)|((first|(with_reducible apply z13;omega)|(apply z13;omega));intro _)|((first|apply z7|apply z40)<;>intro _))<;>conv=>whnf)
        all_goals try (exfalso;omega)
        all_goals exact EndR.mk (R1.set u.toNat (q),true) hst (by refine swR [0,1,2,3,4,5,6,7] [] rfl rfl ?_;(repeat' first|exact y81 _|apply y82|refine z71 rfl (z6 (fun _=>rfl)) ?_|refine z445 (by omega) ?_|constructor)<;>((refine z60 ?_;exact gs1)))
       ·rw [if_neg hc] at hst
        repeat' ((first|(apply y79 ok;rfl)|(apply z36;kernel_rfl)|(refine z21 (i:=u.toNat) rfl grow ?_)|(refine z21 (i:=(u % (a.acc.length:Int)).toNat) rfl ga ?_)|(refine z21 (i:=u.toNat) rfl gu ?_)|(apply y38;omega)|((first|(with_reducible apply z13;omega)|(apply z13;omega));intro _)|((first|apply z7|apply z40)<;>intro _))<;>conv=>whnf)
        all_goals try (exfalso;omega)
        all_goals exact EndR.mk (R1,c1) hst (by refine swR [0,1,2,3,4,5,6,7] [] rfl rfl ?_;(repeat' first|exact y81 _|exact z16 _|apply y82|refine z15 rfl (z6 (fun _=>rfl)) ?_|constructor))
      |false =>
       by_cases hc:ru < q
       ·rw [if_pos hc] at hst
        have gs1:=gs (q)
        repeat' ((first|(apply y79 ok;rfl)|(apply z36;kernel_rfl)|(refine z21 (i:=(u % (a.acc.length:Int)).toNat) rfl ga ?_)|(refine z21 (i:=u.toNat) rfl gu ?_)|(apply y38;omega)|((first|(with_reducible apply z13;omega)|(apply z13;omega));intro _)|((first|apply z7|apply z40)<;>intro _))<;>conv=>whnf)
        all_goals try (exfalso;omega)
        all_goals exact EndR.mk (R1.set u.toNat (q),true) hst (by refine swR [0,1,2,3,4,5,6,7] [] rfl rfl ?_;(repeat' first|exact y81 _|apply y82|refine z71 rfl (z6 (fun _=>rfl)) ?_|refine z445 (by omega) ?_|constructor)<;>((refine z60 ?_;exact gs1)))
       ·rw [if_neg hc] at hst
        repeat' ((first|(apply y79 ok;rfl)|(apply z36;kernel_rfl)|(refine z21 (i:=(u % (a.acc.length:Int)).toNat) rfl ga ?_)|(refine z21 (i:=u.toNat) rfl gu ?_)|(apply y38;omega)|((first|(with_reducible apply z13;omega)|(apply z13;omega));intro _)|((first|apply z7|apply z40)<;>intro _))<;>conv=>whnf)
        all_goals try (exfalso;omega)
        all_goals exact EndR.mk (R1,c1) hst (by refine swR [0,1,2,3,4,5,6,7] [] rfl rfl ?_;(repeat' first|exact y81 _|exact z16 _|apply y82|refine z15 rfl (z6 (fun _=>rfl)) ?_|constructor))
    ·intro x hx
     rw [z911] at hx
     rw [hx] at hps
     obtain ⟨R1,c1⟩:=x
     dsimp only at hps ⊢
     conv=>whnf
     repeat' (((apply y79 ok;rfl))<;>conv=>whnf)
     have hμ:∀ c:Bool,(match c with
      |true=>(bfsL rows a.ini).length+1 - (t+1)+1
      |false=>0) < (bfsL rows a.ini).length+1 - t+1:=by
      intro c
      cases c
      ·show 0 < _;omega
      ·show (bfsL rows a.ini).length+1 - (t+1)+1 < _;omega
     all_goals refine z44 (t+1,R1,c1) hps (hμ c1) (by refine swR [1,2,3,4,5,6,8] [] rfl rfl ?_;(repeat' first|exact y81 _|exact z16 _|apply y82|refine z15 rfl (z6 (fun _=>rfl)) ?_|constructor))
 ·have e:mkOk g l a=false:=by unfold mkOk;rw [(y67 _).mp hgl];rfl
  have e2:mkR g l a=[]:=by unfold mkR;rw [e];rfl
  rw [e,e2]
  rw [(y67 _).mp hgl] at k0
  show CallsA _ _ _ _ (.tup [.agg [.sref 0 0 0],.bool false]) [.cells 1 []]
  refine z10 z19 Tryz.func32 rfl rfl 122 Tryz.ntmps32 (by simp) ?_
  repeat' ((first|(apply y79 ok;rfl)|(apply z8 (k0);rfl;rfl))<;>conv=>whnf)
  all_goals (refine y84 1 ?_;refine rsD [3] [] rfl ?_;(repeat' first|exact y81 _|exact z59|refine z15 rfl (z39) ?_|apply z61|apply z115|constructor))
end Go.Proofs.YtjhgpfaodkchjaaGreat
namespace Go.Proofs.YtjhgpfaodkchjaaGreat
open Go.Gl
attribute [local irreducible] z20 AWP z31 z38 z34
end Go.Proofs.YtjhgpfaodkchjaaGreat
namespace Go.Proofs.YtjhgpfaodkchjaaGreat
open Go.Gl
attribute [local irreducible] z20 AWP z31 z38 z34 RetS z45
theorem z1104 {g:Graph} {ls:List Int} {a:Aut} (hr:∀ r∈z58 g ls a,InN (z58 g ls a).length r) (hi:InN (z58 g ls a).length a.ini) (hn:a.ini.Nodup) (h:NoAcc (z58 g ls a) a.ini a.acc):trcO g ls a=none:=by
 unfold trcO
 rw [Option.map_eq_none_iff,← z475 hr hi hn,z754]
 rintro v hv ⟨h1,h2⟩
 have hvN:=z621 hr hi _ v hv
 have hc:=z398.1 h2
 rw [Int.toNat_of_nonneg hvN.1] at hc
 have:=h v ((z146 hr hi v).1 hv) hc
 rw [h1] at this;cases this
theorem z554 {N:Nat} {ps:List (Nat×Int)} {r:Nat} {y:Int} : y∈(build N ps).getD r []↔r < N∧(r,y)∈ps:=by
 by_cases h:r < N
 ·rw [z17 (by rw [z129];exact h),z405 (by rw [z129];exact h)]
  simp only [y55,List.mem_filter,beq_iff_eq,h,true_and]
  constructor
  ·rintro ⟨⟨p,v⟩,⟨h1,h2⟩,h3⟩
   dsimp only at h2 h3
   subst h2;subst h3;exact h1
  ·intro h1;exact ⟨(r,y),⟨h1,rfl⟩,rfl⟩
 ·have e:(build N ps).getD r []=[]:=by rw [y63,y64 (by rw [z129];omega)];rfl
  rw [e];simp [h]
theorem z1087 {g:Graph} {ls:List Int} {a:Aut} {i:Nat} {to:Int} {e:Trans} (hsrc:e.src.toNat < a.acc.length) (hi:i < g.st.length) (hto:to∈g.nx.getD i []) (he:e∈a.ed) (hon:onB e (ls.getD i 0)=true):to * a.acc.length+e.dst∈(z58 g ls a).getD (i * a.acc.length+e.src.toNat) []:=by
 unfold z58
 refine z554.2 ⟨?_,List.mem_flatMap.2 ⟨i,List.mem_range.2 hi,?_⟩⟩
 ·have h1:(i+1) * a.acc.length≤g.st.length * a.acc.length:=Nat.mul_le_mul_right _ hi
  rw [Nat.add_mul,Nat.one_mul,Nat.mul_comm g.st.length] at h1
  omega
 ·unfold z739
  refine List.mem_flatMap.2 ⟨to,hto,List.mem_flatMap.2 ⟨e,he,?_⟩⟩
  unfold z458
  rw [if_pos hon];simp
section
variable {g:Graph} {ls:List Int} {a:Aut} {t:Trace}
end
end Go.Proofs.YtjhgpfaodkchjaaGreat
namespace Go.Proofs.YtjhgpfaodkchjaaGreat
open Go.Gl
attribute [local irreducible] z20 AWP z31 z38 z34 RetS z45
theorem z914 {g:Graph} {ls:List Int} {a:Aut} {x y:Int} (hx:0≤x) (h:y∈(z58 g ls a).getD x.toNat []) (hA:AutP a):∃ (i:Nat) (to:Int) (e:Trans),i < g.st.length∧to∈g.nx.getD i []∧e∈a.ed∧onB e (ls.getD i 0)=true∧x / a.acc.length=i∧x % a.acc.length=e.src∧y / a.acc.length=to∧y % a.acc.length=e.dst:=by
 unfold z58 at h
 obtain ⟨_,h⟩:=z554.1 h
 unfold z737 at h
 obtain ⟨i,hi,h⟩:=List.mem_flatMap.1 h
 unfold z739 at h
 obtain ⟨to,hto,h⟩:=List.mem_flatMap.1 h
 unfold z738 at h
 obtain ⟨e,he,h⟩:=List.mem_flatMap.1 h
 unfold z458 at h
 split at h
 ·rename_i hon
  simp only [y50,Prod.mk.injEq] at h
  obtain ⟨h1,h2⟩:=h
  have hE:=hA.2.2.2 e he
  unfold z430 at hE
  have hac:=hA.1
  have hn:(a.acc.length:Int)≠0:=by omega
  have hm:((i * a.acc.length:Nat):Int)=(i:Int) * a.acc.length:=by simp
  have hxe:x=(i:Int) * a.acc.length+e.src:=by omega
  have d1:∀ (b q:Int),0≤q→q < a.acc.length→(b * a.acc.length+q) / (a.acc.length:Int)=b∧(b * a.acc.length+q) % (a.acc.length:Int)=q:=fun b q q0 q1 =>
   ⟨by rw [Int.add_comm,Int.add_mul_ediv_right _ _ hn,Int.ediv_eq_zero_of_lt q0 q1,Int.zero_add],by rw [Int.add_comm,Int.add_mul_emod_self_right,Int.emod_eq_of_lt q0 q1]⟩
  have k1:=d1 i e.src hE.1.1 (by omega)
  have k2:=d1 to e.dst hE.2.1.1 (by omega)
  exact ⟨i,to,e,List.mem_range.1 hi,hto,he,hon,by rw [hxe];exact k1.1,by rw [hxe];exact k1.2,by rw [h2];exact k2.1,by rw [h2];exact k2.2⟩
 ·cases h
structure FndP (g:Graph) (ls:List Int) (a:Aut) (s q:List Int):Prop where
 inn:∀ x∈s++q,0≤x
 path:PathP (z58 g ls a) (s++q)
 ini:(s++q).getD 0 0∈a.ini
 pos:0 < q.length
 back:q.getD 0 0∈(z58 g ls a).getD (q.getD (q.length - 1) 0).toNat []
 acc:a.acc.getD (q.getD 0 0 % a.acc.length).toNat false=true
section
variable {g:Graph} {ls:List Int} {a:Aut} {s q:List Int}
theorem FndP.step (h:FndP g ls a s q) {k:Nat} (hk:k < (s++q).length):(s++q).getD (nxW (s++q).length s.length k).toNat 0∈(z58 g ls a).getD ((s++q).getD k 0).toNat []:=by
 have hl:(s++q).length=s.length+q.length:=by simp
 have hsq:∀ j,(s++q).getD (s.length+j) 0=q.getD j 0:=fun j=>by
  rw [y63,y63,y62 (by omega),show s.length+j - s.length=j by omega]
 have hp:=h.pos
 unfold nxW
 split
 ·rename_i e
  rw [y72,show s.length=s.length+0 by omega,hsq,show k=s.length+(q.length - 1) by omega,hsq]
  exact h.back
 ·rw [y72];exact h.path k (by omega)
theorem FndP.word (hA:AutP a) (h:FndP g ls a s q) {w:List Int} (hw:w.length=(s++q).length) (hwl:∀ k,k < w.length→w.getD k 0=ls.getD ((s++q).getD k 0 / a.acc.length).toNat 0):∃ x,RP (accW a w s.length) a.ini x∧Cyc (accW a w s.length) x∧a.acc.getD (x % a.acc.length).toNat false=true:=by
 have hac:=hA.1
 have hn:(a.acc.length:Int)≠0:=by omega
 have hl:(s++q).length=s.length+q.length:=by simp
 have hp:=h.pos
 have hsq0:(s++q).getD s.length 0=q.getD 0 0:=by
  rw [y63,y63,y62 (y47 _),Nat.sub_self]
 obtain ⟨P,hP⟩:∃ P:Nat→Int,P=fun (k:Nat)=>(k:Int) * a.acc.length+(s++q).getD k 0 % a.acc.length:=⟨_,rfl⟩
 have hP0:∀ k,0≤P k:=fun k=>by
  rw [hP]
  have:=Int.mul_nonneg (show (0:Int)≤k by omega) (show (0:Int)≤a.acc.length by omega)
  have:=Int.emod_nonneg ((s++q).getD k 0) hn
  dsimp only;omega
 have hPm:∀ k,P k % (a.acc.length:Int)=(s++q).getD k 0 % a.acc.length:=fun k=>by
  rw [hP];dsimp only
  rw [Int.add_comm,Int.add_mul_emod_self_right,Int.emod_emod_of_dvd _ (Int.dvd_refl _)]
 have edge:∀ k,k < w.length→P (nxW w.length s.length k).toNat∈(accW a w s.length).getD (P k).toNat []:=fun k hk=>by
  have hst:=h.step (k:=k) (by omega)
  rw [← hw] at hst
  have hx0:=h.inn ((s++q).getD k 0) (by rw [z17 (by omega)];exact y39 _)
  obtain ⟨i,to,e,h1,h2,h3,h4,h5,h6,h7,h8⟩:=z914 hx0 hst hA
  have hE:=hA.2.2.2 e h3
  unfold z430 at hE
  have hnx:=nxW_in (N:=w.length) (s:=s.length) (i:=k) (by omega) hk
  have hon:onB e (w.getD k 0)=true:=by rw [hwl k hk,h5,y72];exact h4
  have hm:((k * a.acc.length:Nat):Int)=(k:Int) * a.acc.length:=by simp
  have e1:(P k).toNat=k * a.acc.length+e.src.toNat:=by
   rw [hP];dsimp only;rw [h6];omega
  have e2:P (nxW w.length s.length k).toNat=nxW w.length s.length k * a.acc.length+e.dst:=by
   rw [hP];dsimp only;rw [h8,Int.toNat_of_nonneg hnx.1]
  rw [e1,e2]
  unfold accW
  refine z554.2 ⟨?_,List.mem_flatMap.2 ⟨k,List.mem_range.2 hk,?_⟩⟩
  ·have h9:(k+1) * a.acc.length≤w.length * a.acc.length:=Nat.mul_le_mul_right _ hk
   rw [Nat.add_mul,Nat.one_mul] at h9
   omega
  ·unfold pushW
   refine List.mem_flatMap.2 ⟨e,h3,?_⟩
   unfold z458
   rw [if_pos hon];simp
 have rp:∀ k,k < w.length→RP (accW a w s.length) a.ini (P k):=by
  intro k
  induction k with
  |zero =>
   intro _
   refine .base ?_
   have hi:=h.ini
   obtain ⟨j,hj,e⟩:=List.mem_iff_getElem.1 hi
   have h5:=(hA.2.2.1 j hj hj).1
   rw [e] at h5
   have:P 0=(s++q).getD 0 0:=by rw [hP];dsimp only;rw [Int.emod_eq_of_lt h5.1 (by omega)];simp
   rw [this];exact hi
  |succ k ih =>
   intro hk
   have:=edge k (by omega)
   unfold nxW at this
   rw [if_neg (by omega),y72] at this
   exact .step (ih (by omega)) this
 have round:∀ d k,k+d+1=w.length→s.length≤k→RP (accW a w s.length) [P k] (P s.length):=by
  intro d
  induction d with
  |zero =>
   intro k hk _
   have:=edge k (by omega)
   unfold nxW at this
   rw [if_pos (by omega),y72] at this
   exact .step (.base (by simp)) this
  |succ d ih =>
   intro k hk hs
   have:=edge k (by omega)
   unfold nxW at this
   rw [if_neg (by omega),y72] at this
   exact RP.trans (.base (by simp)) this (ih (k+1) (by omega) (by omega))
 refine ⟨P s.length,rp _ (by omega),⟨_,edge s.length (by omega),?_⟩,by rw [hPm,hsq0];exact h.acc⟩
 unfold nxW
 split
 ·rw [y72];exact .base (by simp)
 ·rw [y72];exact round (w.length - (s.length+1) - 1) (s.length+1) (by omega) (by omega)
end
end Go.Proofs.YtjhgpfaodkchjaaGreat
namespace Go.Proofs.YtjhgpfaodkchjaaGreat
open Go.Gl
attribute [local irreducible] z20 AWP z31 z38 z34
def GPath (g:Graph) (π:Nat→Int):Prop:=π 0=0∧∀ k,π (k+1)∈g.nx.getD (π k).toNat []
def gW (g:Graph) (l:List Tree) (π:Nat→Int) (k:Nat):Int:=(g.st.map (z42 l)).getD (π k).toNat 0
theorem GPath.inn {g:Graph} (hG:GB g) {π:Nat→Int} (h:GPath g π):∀ k,0≤π k∧π k < g.st.length
 |0=>by have:=hG.1;rw [h.1];omega
 |k+1=>by
  have ih:=GPath.inn hG h k
  have hl:=hG.2.1
  have h1:=h.2 k
  rw [z17 (by omega)] at h1
  exact (hG.row _ (by omega)).2.2 _ h1
theorem divmod {n b q:Int} (hn:0 < n) (q0:0≤q) (q1:q < n):(b * n+q) / n=b∧(b * n+q) % n=q :=
 ⟨by rw [Int.add_comm,Int.add_mul_ediv_right _ _ (by omega),Int.ediv_eq_zero_of_lt q0 q1,Int.zero_add],by rw [Int.add_comm,Int.add_mul_emod_self_right,Int.emod_eq_of_lt q0 q1]⟩
def ARun (a:Aut) (w:Nat→Int) (ρ:Nat→Int):Prop:=ρ 0∈a.ini∧(∀ k,∃ e∈a.ed,e.src=ρ k∧e.dst=ρ (k+1)∧onB e (w k)=true)∧∀ m,∃ k,m≤k∧a.acc.getD (ρ k).toNat false=true
theorem fto_iff {g:Graph} {l:List Tree} {a:Aut} (h1:(glB g l && autB a)=true):(ftO g l a).isSome=true↔∃ π ρ:Nat→Int,GPath g π∧ARun a (gW g l π) ρ:=by
 obtain ⟨h3,hab⟩:=Bool.and_eq_true_iff.1 h1
 have hG:=(z99 g).1 (by unfold glB at h3;exact (Bool.and_eq_true_iff.1 h3).1)
 have hA:=z274.1 hab
 obtain ⟨f1,f2,f3,f4,f5⟩:=z422 hG hA (g.st.map (z42 l))
 have hnd:=hA.2.2.1.nd
 have hac:=hA.1
 have hn:(0:Int) < a.acc.length:=by omega
 have hini:=fun x hx=>(show InN (z58 g (g.st.map (z42 l)) a).length a.ini from f2) x hx
 have e1:ftO g l a=trcO g (g.st.map (z42 l)) a:=by unfold ftO;rw [if_pos h1]
 have e2:(ftO g l a).isSome=true↔∃ x,RP (z58 g (g.st.map (z42 l)) a) a.ini x∧a.acc.getD (x % a.acc.length).toNat false=true∧Cyc (z58 g (g.st.map (z42 l)) a) x:=by
  rw [e1]
  constructor
  ·intro h
   refine Classical.byContradiction fun hno=>?_
   have:NoAcc (z58 g (g.st.map (z42 l)) a) a.ini a.acc:=fun x hx hc=>by
    cases hb:a.acc.getD (x % a.acc.length).toNat false with
    |false=>rfl
    |true=>exact absurd ⟨x,hx,hb,hc⟩ hno
   rw [z1104 f1 f2 hnd this] at h
   cases h
  ·rintro ⟨x,hx,hb,hc⟩
   cases ht:trcO g (g.st.map (z42 l)) a with
   |some p=>rfl
   |none =>
    have:=z714 f1 f2 hnd ht x hx hc
    rw [hb] at this;cases this
 have e3:=inf_iff (acc:=fun x=>a.acc.getD (x % a.acc.length).toNat false=true) f1 f2
 rw [e2,← e3]
 constructor
 ·rintro ⟨σ,s0,s1,s2⟩
  have hin:=runInN f1 s1 (f2 _ s0)
  have hst:=fun k=>z914 (hin k).1 (s1 k) hA
  obtain ⟨i0,hi0,ei0⟩:=List.mem_iff_getElem.1 s0
  have hr0:=(hA.2.2.1 i0 hi0 hi0).1
  rw [ei0] at hr0
  have hd0:=divmod (b:=0) hn hr0.1 (show σ 0 < a.acc.length by omega)
  rw [Int.zero_mul,Int.zero_add] at hd0
  refine ⟨fun k=>σ k / a.acc.length,fun k=>σ k % a.acc.length,⟨hd0.1,fun k=>?_⟩,by show σ 0 % _∈_;rw [hd0.2];exact s0,fun k=>?_,s2⟩
  ·obtain ⟨i,to,e,c1,c2,c3,c4,c5,c6,c7,c8⟩:=hst k
   show σ (k+1) / _∈g.nx.getD (σ k / a.acc.length).toNat []
   rw [c7,c5,y72];exact c2
  ·obtain ⟨i,to,e,c1,c2,c3,c4,c5,c6,c7,c8⟩:=hst k
   refine ⟨e,c3,c6.symm,c8.symm,?_⟩
   unfold gW
   show onB e ((g.st.map (z42 l)).getD (σ k / a.acc.length).toNat 0)=true
   rw [c5,y72];exact c4
 ·rintro ⟨π,ρ,hp,r0,r1,r2⟩
  have hin:=hp.inn hG
  have hrr:∀ k,0≤ρ k∧ρ k < a.acc.length:=fun k=>by
   obtain ⟨e,he,c1,c2,_⟩:=r1 k
   have hE:=hA.2.2.2 e he
   unfold z430 at hE
   omega
  refine ⟨fun k=>π k * a.acc.length+ρ k,?_,fun k=>?_,fun m=>?_⟩
  ·show π 0 * _+ρ 0∈_
   rw [hp.1,Int.zero_mul,Int.zero_add];exact r0
  ·obtain ⟨e,he,c1,c2,c3⟩:=r1 k
   have hE:=hA.2.2.2 e he
   unfold z430 at hE
   have h4:=z1087 (g:=g) (ls:=g.st.map (z42 l)) (a:=a) (i:=(π k).toNat) (to:=π (k+1)) (e:=e) (by omega) (by have:=hin k;omega) (hp.2 k) he c3
   show π (k+1) * _+ρ (k+1)∈(z58 g (g.st.map (z42 l)) a).getD (π k * a.acc.length+ρ k).toNat []
   rw [c2] at h4
   have h5:(π k * a.acc.length+ρ k).toNat=(π k).toNat * a.acc.length+e.src.toNat:=by
    rw [c1]
    obtain ⟨i,hi⟩:=Int.eq_ofNat_of_zero_le (hin k).1
    obtain ⟨r,hr⟩:=Int.eq_ofNat_of_zero_le (hrr k).1
    rw [hi,hr,y72,y72]
    norm_cast
   rw [h5];exact h4
  ·obtain ⟨k,k1,k2⟩:=r2 m
   refine ⟨k,k1,?_⟩
   show a.acc.getD ((π k * a.acc.length+ρ k) % a.acc.length).toNat false=true
   rw [(divmod hn (hrr k).1 (hrr k).2).2];exact k2
end Go.Proofs.YtjhgpfaodkchjaaGreat
namespace Go.Proofs.YtjhgpfaodkchjaaGreat
open Go.Gl
attribute [local irreducible] z20 AWP z31 z38 z34 RetS z45
theorem z918 {g:Graph} {l:List Tree} {a:Aut} (h1:glB g l=true) (h2:autB a=true):mkOk g l a=true↔¬ ∃ π ρ:Nat→Int,GPath g π∧ARun a (gW g l π) ρ:=by
 have h:(glB g l && autB a)=true:=by rw [h1,h2];rfl
 have e1:ftO g l a=trcO g (g.st.map (z42 l)) a:=by unfold ftO;rw [if_pos h]
 rw [← fto_iff h,e1]
 unfold mkOk
 rw [h,Bool.true_and]
 simp
end Go.Proofs.YtjhgpfaodkchjaaGreat
namespace Go.Proofs.YtjhgpfaodkchjaaGreat
open Go.Gl
attribute [local irreducible] z20 AWP z31 z38 z34
theorem quo_word {g:Graph} {l:List Tree} {bl:List Int} (hG:GB g) (hp:Part bl g.st.length) (hs:Stb g.nx g.st.length (fun i=>bl.getD i 0)) (hL:∀ i j,i < g.st.length→j < g.st.length→bl.getD i 0=bl.getD j 0→lsT g l i=lsT g l j) (w:Nat→Int):(∃ π,GPath g π∧gW g l π=w)↔∃ π,GPath (quoG g bl) π∧gW (quoG g bl) l π=w:=by
 have hQ:(quoG g bl).st.length=(fstB bl g.st.length).length:=z469 _ _ _
 have hN:(quoG g bl).nx=quoN g.nx g.st.length bl:=rfl
 have h0:bl.getD 0 0=0:=by
  have:=hp.rng 0 hG.1.1
  have e:mstD bl 0=0:=rfl
  omega
 have hw:∀ (i:Nat),i < g.st.length→((quoG g bl).st.map (z42 l)).getD (bl.getD i 0).toNat 0=(g.st.map (z42 l)).getD i 0:=fun i hi=>by
  have hb:=hp.lt hi
  rw [z1117 (by rw [hQ];exact hb),lsT_quo hb,z1117 hi]
  exact hL _ _ (hp.fst_lt hb) hi (hp.rep hi)
 constructor
 ·rintro ⟨π,hπ,rfl⟩
  have hin:=hπ.inn hG
  refine ⟨fun k=>bl.getD (π k).toNat 0,⟨?_,fun k=>?_⟩,funext fun k=>?_⟩
  ·show bl.getD (π 0).toNat 0=0
   rw [hπ.1];exact h0
  ·have:=hin k
   show _∈(quoG g bl).nx.getD (bl.getD (π k).toNat 0).toNat []
   rw [hN,z735 hG.inG hp hs (by omega)]
   exact ⟨π (k+1),hπ.2 k,rfl⟩
  ·have:=hin k
   exact hw _ (by omega)
 ·rintro ⟨σ,hσ,rfl⟩
  classical
  let π:Nat→Int:=fun k=>Nat.rec 0 (fun k x=>if h:∃ p:Int,p∈g.nx.getD x.toNat []∧bl.getD p.toNat 0=σ (k+1) then h.choose else 0) k
  have step:∀ k,(0≤π k∧π k < g.st.length)→bl.getD (π k).toNat 0=σ k→π (k+1)∈g.nx.getD (π k).toNat []∧bl.getD (π (k+1)).toNat 0=σ (k+1):=fun k hin e=>by
   have h:∃ p:Int,p∈g.nx.getD (π k).toNat []∧bl.getD p.toNat 0=σ (k+1):=by
    rw [← z735 hG.inG hp hs (by omega),e,← hN]
    exact hσ.2 k
   have e2:π (k+1)=h.choose:=dif_pos h
   rw [e2];exact h.choose_spec
  have hall:∀ k,(0≤π k∧π k < g.st.length)∧bl.getD (π k).toNat 0=σ k:=by
   intro k
   induction k with
   |zero =>
    have h1:=hG.1
    refine ⟨⟨Int.le_refl _,by show (0:Int) < _;omega⟩,?_⟩
    rw [hσ.1];exact h0
   |succ k ih =>
    obtain ⟨h1,h2⟩:=step k ih.1 ih.2
    have h3:=ih.1
    have hl:=hG.2.1
    rw [z17 (by omega)] at h1
    exact ⟨(hG.row _ (by omega)).2.2 _ h1,h2⟩
  refine ⟨π,⟨rfl,fun k=>(step k (hall k).1 (hall k).2).1⟩,funext fun k=>?_⟩
  have:=hall k
  show (g.st.map (z42 l)).getD (π k).toNat 0=((quoG g bl).st.map (z42 l)).getD (σ k).toNat 0
  rw [← hw _ (by omega),this.2]
theorem mk_words {g h:Graph} {l:List Tree} (e:glB g l=glB h l) (hw:glB g l=true→∀ w,(∃ π,GPath g π∧gW g l π=w)↔∃ π,GPath h π∧gW h l π=w) (a:Aut):mkOk g l a=mkOk h l a:=by
 by_cases h1:(glB g l && autB a)=true
 ·obtain ⟨h2,h3⟩:=Bool.and_eq_true_iff.1 h1
  rw [Bool.eq_iff_iff,z918 h2 h3,z918 (by rw [← e];exact h2) h3]
  constructor
  ·rintro hn ⟨π,ρ,hp,hr⟩
   obtain ⟨σ,hs,ew⟩:=(hw h2 _).2 ⟨π,hp,rfl⟩
   exact hn ⟨σ,ρ,hs,by rw [ew];exact hr⟩
  ·rintro hn ⟨π,ρ,hp,hr⟩
   obtain ⟨σ,hs,ew⟩:=(hw h2 _).1 ⟨π,hp,rfl⟩
   exact hn ⟨σ,ρ,hs,by rw [ew];exact hr⟩
 ·unfold mkOk
  rw [← e,(y67 _).mp h1,Bool.false_and,Bool.false_and]
end Go.Proofs.YtjhgpfaodkchjaaGreat
namespace Go.Proofs.YtjhgpfaodkchjaaGreat
open Go.Gl
section
attribute [local irreducible] z20
end
end Go.Proofs.YtjhgpfaodkchjaaGreat
namespace Go.Proofs.YtjhgpfaodkchjaaGreat
open Go.Gl
attribute [local irreducible] z20 AWP z31 z38 z34
structure FmOk (t:Tree):Prop where
 mx:t.mx
 sz:t.sz≤1048576
theorem FmOk.of {t:Tree} (h:t.mx) (h1:t.sz≤1048576):FmOk t:=⟨h,h1⟩
end Go.Proofs.YtjhgpfaodkchjaaGreat
namespace Go.Proofs.YtjhgpfaodkchjaaGreat
open Go.Gl
section
attribute [local irreducible] z20 AWP z31 z38 z34
end
end Go.Proofs.YtjhgpfaodkchjaaGreat
namespace Go.Proofs.YtjhgpfaodkchjaaGreat
open Go.Gl
attribute [local irreducible] z20 AWP z31 z38 z34
end Go.Proofs.YtjhgpfaodkchjaaGreat
namespace Go.Proofs.YtjhgpfaodkchjaaGreat
open Go.Gl
attribute [local irreducible] z20 AWP z31 z38 z34 RetS z45
noncomputable def cyB (g:Graph) (l:List Tree) (f:Tree):Bool:=ngS f && mkOk g l (ngA f)
noncomputable def cyR (g:Graph) (l:List Tree) (f:Tree):List Int:=if ngS f=true then mkR g l (ngA f) else []
theorem z542 (g:Graph) (hg:g.mx) (l:List Tree) (hl:Lmx l) (f:Tree) (hf:f.mx):CallsA Tryz.prog 11 [.agg g.cs,lst 3 Tree.cs' l,z43 Tree.cs' f] [] (.tup [.agg [.sref 0 0 (Cert.mk (cyR g l f)).ranks.length],.bool (cyB g l f)]) [.cells 1 ((Cert.mk (cyR g l f)).ranks.map enI)]:=by
 have cN:=z580 f hf
 have cM:=z766 g hg l hl (ngA f) (ngA_mx f)
 show CallsA _ _ _ _ (.tup [.agg [.sref 0 0 (cyR g l f).length],_]) [.cells 1 ((cyR g l f).map enI)]
 unfold cyB cyR
 generalize mkOk g l (ngA f)=q at *
 generalize mkR g l (ngA f)=R at *
 generalize ngA f=a at *
 generalize ngS f=z at *
 rw [y14 f] at *
 cases z
 ·refine z10 z19 Tryz.func11 rfl rfl 24 Tryz.ntmps11 (by simp) ?_
  repeat' ((first|(apply y79 ok;rfl)|(apply z8 (cN);rfl;rfl))<;>conv=>whnf)
  all_goals (refine y84 1 ?_;refine rsD [4] [] rfl ?_;(repeat' first|exact y81 _|exact z59|refine z15 rfl (z39) ?_|apply z61|apply z115|constructor))
 ·refine z10 z19 Tryz.func11 rfl rfl 24 Tryz.ntmps11 (by simp) ?_
  repeat' ((first|(apply y79 ok;rfl)|(apply z8 (cN);rfl;rfl)|(apply z11 [] [4] cM;rfl;rfl;rfl;(focus ((repeat' first|exact z18|apply z14)<;>(refine z23 ?_;((exact z6 fun _=>rfl)))))))<;>conv=>whnf)
  all_goals (refine rsD [4] [] rfl ?_;(repeat' first|exact y81 _|exact z16 _|refine z15 rfl (z6 (fun _=>rfl)) ?_|constructor))
set_option maxHeartbeats 3200000 in
theorem z1159 (bs:List Int) (hb:CodeOk bs):∃ (g:Graph) (l:List Tree) (f:Tree),(g.d∧Lab.d l∧f.sz≤22)∧CallsA Tryz.prog 21 [lst 1 enU bs] [] (.tup [.agg g.cs,lst 3 Tree.cs' l,z43 Tree.cs' f]) []:=by
 have co:=z608 bs hb.len
 have hbt:=hb.take
 generalize bs.take 2000=b0 at *
 obtain ⟨l,p1,⟨l1,l2,l3,l4⟩,c1⟩:=z855 b0 hbt 0 ⟨by omega,by omega⟩
 obtain ⟨f0,p2,⟨a1,a2,a3⟩,c2⟩:=z756 b0 hbt p1 ⟨by omega,by omega⟩
 obtain ⟨f,p3,⟨b1,b2,b3⟩,cm⟩:=z857 b0 hbt p2 ⟨by omega,by omega⟩ f0 (by omega)
 obtain ⟨g0,g,p4,p5,cg0,cg,hg,q1,q2⟩:=z1110 b0 hbt p3 ⟨by omega,by omega⟩
 refine ⟨g,l,f,⟨hg,⟨l1,l2⟩,by omega⟩,?_⟩
 rw [y14 f] at *
 rw [y14 f0] at *
 refine z10 z19 Tryz.func21 rfl rfl 22 Tryz.ntmps21 (by simp) ?_
 repeat' ((first|(apply y79 ok;rfl)|(apply z36;kernel_rfl)|((first|(apply z41 [] [2] co;rfl;rfl)|(apply z41 [2] [] c1;rfl;rfl)|(apply z41 [2] [] c2;rfl;rfl)|(apply z41 [2] [] cm;rfl;rfl)|(apply z41 [2] [] cg0;rfl;rfl)|(apply z41 [2] [] cg;rfl;rfl));rfl))<;>conv=>whnf)
 all_goals (refine rsD [] [] rfl ?_;(repeat' first|exact y81 _|constructor))
theorem z335 (g:Graph) (hg:g.mx) (l:List Tree) (hl:Lmx l) (f:Tree) (hf:f.mx):CallsA Tryz.prog 11 [.agg g.cs,lst 3 Tree.cs' l,z43 Tree.cs' f] [] (.tup [.agg (Cert.mk (cyR g l f)).cs,.bool (cyB g l f)]) []:=(by refine y4 (z542 g hg l hl f hf) [] [0] rfl rfl rfl ?_ ?_<;>(repeat' first|exact y81 _|((apply z57 rfl rfl rfl);(focus ((repeat ((exact z47 (fun _=>rfl) _)));done));(focus (((simp;done));done)))|apply z61|apply z115|constructor))
end Go.Proofs.YtjhgpfaodkchjaaGreat
