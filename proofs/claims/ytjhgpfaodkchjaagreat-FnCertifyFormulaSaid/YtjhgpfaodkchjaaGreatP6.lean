/- A part of the proofs over this program: T200, T181, T182, T183, T113, T184, T185, T64, T65, T66, T154, T155, T156, T157. -/
import Derived.Test.YtjhgpfaodkchjaaGreatG0
import Derived.Test.YtjhgpfaodkchjaaGreatG1
import Derived.Test.YtjhgpfaodkchjaaGreatG2
import Derived.Test.YtjhgpfaodkchjaaGreatG3
import Derived.Test.YtjhgpfaodkchjaaGreatP0
import Derived.Test.YtjhgpfaodkchjaaGreatP1
import Derived.Test.YtjhgpfaodkchjaaGreatP2
import Derived.Test.YtjhgpfaodkchjaaGreatP3
import Derived.Test.YtjhgpfaodkchjaaGreatP4
import Derived.Test.YtjhgpfaodkchjaaGreatP5
set_option linter.all false
namespace Go.Proofs.YtjhgpfaodkchjaaGreat
open Go.Gl
attribute [local irreducible] z18 AWP z41 z46 z44 RetS z51
theorem back_ok (L:List Int) (hL:L.length≤maxLen):CallsA Tryz.prog 78 [ints L] [] (.fn (.func 155) [] [.ptr 0 none 0]) [.cells 1 [[ints L]]]:=by
 refine z7 z14 Tryz.func78 rfl rfl 4 Tryz.ntmps78 (by simp) ?_
 repeat' (((apply y81 ok;rfl))<;>conv=>whnf)
 all_goals (refine rsD [0] [] rfl ?_;(repeat' first|exact y83 _|apply y84|constructor))
def BackR {α:Type} (M:Nat) (Gc:Ghost) (wc:World) (rest:α→List AObj) (L:List Int) (env:List (Nat×AC)) (x:α) (a:Act) (w:World):Prop :=
 ∃ G,SubM M Gc G∧Le wc w∧Rel G (mkSt 19 env (.cells 1 [[ints L]]::rest x)) a w
def IsSt {α:Type} (rest:α→List AObj) (L:List Int) (x:α) (env' : List (Nat×AC)) (st:St):Prop:=st=mkSt 19 env' (.cells 1 [[ints L]]::rest x)
theorem BackR.step {α : Type} {M : Nat} {Gc : Ghost} {wc : World} {rest : α → List AObj} {L : List Int} {env env' : List (Nat × AC)} {x : α} {a : Act} {w : World} {c : Code}
    (h:BackR M Gc wc rest L env x a w) (hc:AWP Tryz.prog M c (z483 (IsSt rest L x env') (fun _ _=>False)) (mkSt 19 env (.cells 1 [[ints L]]::rest x))) {K:Act→World→Prop} {Q:Exit→Act→World→Prop}
    (hk:∀ a w,BackR M Gc wc rest L env' x a w→K a w):c.wpIn Fence.wide 0 Tryz.prog (Exit.then K Q) a w:=by
  obtain ⟨G,h1,h2,h3⟩:=h
  refine wpIn_mono (hc.at_ h3) ?_
  rintro ex a' w' ⟨G',st',k1,k2,k3,k4⟩
  cases ex with
  | normal =>
    have k3:st'=_:=k3
    subst k3
    exact hk _ _ ⟨G',h1.trans k1,h2.trans k2,k4⟩
  | _=>exact k3.elim
theorem BackR.less {α:Type} {M:Nat} {Gc:Ghost} {wc:World} {rest:α→List AObj} {L:List Int} {env env' : List (Nat×AC)} {x:α} {a:Act} {w:World} (h:BackR M Gc wc rest L env x a w) (he:z532 (fun s y=>z88 env s=y) env'):BackR M Gc wc rest L env' x a w:=by
 obtain ⟨G,h1,h2,h3⟩:=h
 refine ⟨G,h1,h2,h3.wf,fun s=>?_,h3.size,h3.defers⟩
 rcases z258 env' _ he s with e|e
 ·show V _ _ _ (z88 env' s) _
  rw [e];simp [V]
 ·have:=h3.env s
  show V _ _ _ (z88 env' s) _
  rw [← e];exact this
theorem z677 {F:Fence} {n:Nat} {P:Program} {ops:Array Oper} {Q:Exit→Act→World→Prop} {l:List Oper} {a:Act} {w:World} (h:wpListIn F n P ops Q (l++[]) a w):wpListIn F n P ops Q l a w:=by rwa [y62] at h
theorem BackR.val {α:Type} {M:Nat} {Gc:Ghost} {wc:World} {rest:α→List AObj} {L:List Int} {env:List (Nat×AC)} {x:α} {a:Act} {w:World} (h:BackR M Gc wc rest L env x a w) {s:Nat} {v:Value} (he:z88 env s=.raw v):a.tmps.getD s undef=v:=by
 obtain ⟨G,_,_,hR⟩:=h
 have:=hR.env s
 rw [show (mkSt 19 env (.cells 1 [[ints L]]::rest x)).env s=z88 env s from rfl,he] at this
 simpa only [V] using this
set_option maxHeartbeats 1600000 in
theorem back1:z922 Tryz.prog 155:=by
 intro α M rest okI L l Gc wc lb x0 hL hlen hy h0 hWc hlbs hlb
 unfold maxLen at hL
 refine callsIn_of_wp_marks (n:=0) Tryz.func155 rfl trivial ?_
 have hvs:(#[Value.func (.yield l) #[] #[]]++lb).size=2:=by simp [hlbs]
 have hinit:BackR M Gc.split wc rest L [(0,.raw (.func (.yield l) #[] #[])),(1,.ptr 0 none 0)] x0 { tmps:=(#[Value.func (.yield l) #[] #[]]++lb)++Array.replicate (19 - (#[Value.func (.yield l) #[] #[]]++lb).size) undef,defers:=[] } wc:=by
  refine ⟨Gc.split,SubM.refl _ _,Le.refl _,hWc.split,fun s=>?_,by show Array.size _=19;simp [hlbs],Marks.nil _⟩
  refine z428 (G:=Gc) (h:=hp wc) (fun _ _ _ _ e=>z403 e) (fun _ _ e=>e) ?_
  refine z1118 (args:=[.raw (.func (.yield l) #[] #[]),.ptr 0 none 0]) hvs ?_ 19 s
  exact z549 (xs:=[.raw (.func (.yield l) #[] #[])]) rfl (by simp [VL,V]) hlb
 refine wpIn_seq (hinit.step (env':=[(3,.int (L.length - 1)),(6,.int (L.length - 1)),(5,.int L.length),(4,ints L),(0,.raw (.func (.yield l) #[] #[])),(1,.ptr 0 none 0)]) ?_ fun a1 w1 hB1=>?_)
 ·repeat' ((first|(apply y81 ok;rfl)|(apply y41;(unfold inI;omega)))<;>conv=>whnf)
  all_goals rfl
 refine wpIn_block (wpIn_loop (fun a w=>∃ k x,k≤L.length∧okI k x∧BackR M Gc.split wc rest L [(3,.int ((k:Int) - 1)),(0,.raw (.func (.yield l) #[] #[])),(1,.ptr 0 none 0)] x a w) (fun a _=>match a.tmps.getD 3 undef with
  |.int _ i=>(i+1).toNat
  |_=>0) ⟨L.length,x0,y50 _,h0,hB1.less ⟨rfl,rfl,rfl,trivial⟩⟩ ?_)
 rintro a w ⟨k,x,hk,hok,hB⟩
 have hμ:(match a.tmps.getD 3 undef with
  |.int _ i=>(i+1).toNat
  |_=>0)=k:=by
  rw [hB.val (s:=3) rfl];simp
 rw [hμ]
 refine wpIn_seq (wpIn_seq (hB.step (env':=[(8,.raw (.bool (decide ((0:Int)≤(k:Int) - 1)))),(7,.int ((k:Int) - 1)),(3,.int ((k:Int) - 1)),(0,.raw (.func (.yield l) #[] #[])),(1,.ptr 0 none 0)]) ?_ fun a2 w2 hB2=>?_))
 ·repeat' (((apply y81 ok;rfl))<;>conv=>whnf)
  all_goals rfl
 have h8:a2.eval (.tmp 8)=.bool (decide ((0:Int)≤(k:Int) - 1)):=hB2.val (s:=8) rfl
 by_cases hk0:k=0
 ·subst hk0
  refine wpIn_cond_false (h8.trans (by simp)) (wpIn_exit ?_)
  obtain ⟨G,s1,s2,hR⟩:=hB2
  obtain ⟨Ds,d1,d2,d3,d4,d5,d6⟩:=z516 hWc s1.1 hR
  show LeavesInM Fence.wide 0 _ _ a2.tmps _ a2.defers .returning w2
  rw [d1]
  exact z284 Ds w2 d2 d3 ⟨.tuple #[],by rw [z412,show Tryz.f155.results=#[] from rfl];simp,.tuple #[],Gc.join G Ds,x,rfl,hok,⟨d4,fun o t ho e=>by rw [d5];exact s1.2 o t ho e⟩,s2.trans (z611 Ds w2),d6.wf⟩
 obtain ⟨j,rfl⟩:∃ j,k=j+1:=⟨k - 1,by omega⟩
 refine wpIn_cond_true (h8.trans (by rw [y78 (by omega)])) (wpIn_skip ?_)
 have hjL:j < L.length:=by omega
 have gL:(L.map enI)[j]?=some (enI L[j]):=by rw [y49,y43 hjL];rfl
 have hB3:BackR M Gc.split wc rest L [(3,.int (j:Int)),(0,.raw (.func (.yield l) #[] #[])),(1,.ptr 0 none 0)] x a2 w2:=hB2.less ⟨by show AC.int _=_;congr 3;omega,rfl,rfl,trivial⟩
 refine wpIn_seq (wpIn_block (wpIn_seq (wpIn_region_list ?_)))
 rw [← List.take_append_drop 6 (Array.toList _)]
 obtain ⟨G,s1,s2,hR⟩:=hB3
 generalize hz:L[j]=z at gL
 refine z488 (ro:=none) z14 _ _ _ _ (fun env' objs'=>objs'=.cells 1 [[ints L]]::rest x∧z532 (fun s y=>z88 env' s=y) [(16,.int z),(12,.int (j:Int)),(11,.raw (.func (.yield l) #[] #[])),(3,.int (j:Int)),(0,.raw (.func (.yield l) #[] #[])),(1,.ptr 0 none 0)]) (.inl rfl) ?_ M G a2 w2 hR ?_
 ·conv=>whnf
  repeat' ((first|(refine z13 (i:=j) rfl gL ?_)|(apply y41;omega))<;>conv=>whnf)
  all_goals exact ⟨rfl,rfl,rfl,rfl,rfl,rfl,rfl,trivial⟩
 rintro G1 env1 objs1 a3 w3 t1 t2 ⟨rfl,hE⟩ t4
 have hB4:BackR M Gc.split wc rest L env1 x a3 w3:=⟨G1,s1.trans t1,s2.trans t2,t4⟩
 have hB5:=hB4.less hE
 have v16:a3.eval (.tmp 16)=.int .i64 z:=hB5.val (s:=16) rfl
 have v12:a3.eval (.tmp 12)=.int .i64 (j:Int):=hB5.val (s:=12) rfl
 have v11:a3.eval (.tmp 11)=.func (.yield l) #[] #[]:=hB5.val (s:=11) rfl
 obtain ⟨f,tm,asg,bo,hyr,hyR⟩:=hy j x G1 w3 hjL hok (s1.trans t1) (s2.trans t2) t4.wf
 rw [hz] at hyr
 refine wpListIn_plain rfl fun Kk hKk=>?_
 unfold Oper.wpIn
 refine ⟨fun _ _=>trivial,?_⟩
 have hex : (execOp a3.eval ⟨some 17, .call ⟨.value (.tmp 11), #[.tmp 12, .tmp 16], #[3, 3]⟩, 4, "iter.go:29", #[], none⟩).run Tryz.prog w3 = .ok (.round l f tm asg bo) w3 := by
  show (do let d ← resolve a3.eval ⟨.value (.tmp 11),#[.tmp 12,.tmp 16],#[3,3]⟩ 4;invoke d.target d.args:Sem Next).run Tryz.prog w3=_
  simp only [resolve,v11,Deferred.ofValue,Sem.run_bind,Sem.run_pure,Result.andThen,invoke]
  rw [show (#[]++(#[Operand.tmp 12,.tmp 16].map a3.eval):Array Value)=#[.int .i64 (j:Int),.int .i64 z] by simp [v12,v16]]
  exact hyr
 show Oper.uponIn Fence.wide 0 _ _ _ _ _ ((execOp a3.eval ⟨some 17, .call ⟨.value (.tmp 11), #[.tmp 12, .tmp 16], #[3, 3]⟩, 4, "iter.go:29", #[], none⟩).run Tryz.prog w3)
 rw [hex]
 refine ⟨(fun h=>by cases h),hyR.mono ?_⟩
 rintro e w4 ⟨rfl,G2,y,u1,u2,u3,u4⟩
 refine hKk _ _ ?_
 have hall:=y12 (M:=M) t4.wf (Nat.le_of_eq (hlen x)) u2
 have hB6:BackR M Gc.split wc rest L ((17,.raw (.bool true))::[(16,.int z),(12,.int (j:Int)),(11,.raw (.func (.yield l) #[] #[])),(3,.int (j:Int)),(0,.raw (.func (.yield l) #[] #[])),(1,.ptr 0 none 0)]) y (a3.put (some 17) (.bool true)) w4:=by
  refine ⟨G2,(s1.trans t1).trans u2,(s2.trans t2).trans u3,u4,z658 (n:=19) (by decide) t4.size (fun s=>?_) (by simp [V]),by rw [z188];exact t4.size,by rw [z129];exact t4.defers.mono u2.1.S⟩
  rcases z258 _ _ hE s with e|e
  ·rw [e];simp [V]
  ·rw [← e];exact z112 u2.1.S hall (t4.env s)
 obtain ⟨G3,p1,p2,p3⟩:=hB6
 refine z677 ?_
 refine z488 (ro:=none) z14 _ [] _ _ (fun env' objs'=>objs'=.cells 1 [[ints L]]::rest y∧z532 (fun s y=>z88 env' s=y) [(18,.raw (.bool false)),(3,.int (j:Int)),(0,.raw (.func (.yield l) #[] #[])),(1,.ptr 0 none 0)]) (.inl rfl) ?_ M G3 _ w4 p3 ?_
 ·conv=>whnf
  repeat' ((fail)<;>conv=>whnf)
  all_goals exact ⟨rfl,rfl,rfl,rfl,rfl,trivial⟩
 rintro G4 env4 objs4 a5 w5 q1 q2 ⟨rfl,hE4⟩ q4
 have hB7:BackR M Gc.split wc rest L env4 y a5 w5:=⟨G4,p1.trans q1,p2.trans q2,q4⟩
 have hB8:=hB7.less hE4
 have v18:a5.eval (.tmp 18)=.bool false:=hB8.val (s:=18) rfl
 show Code.wpIn Fence.wide 0 _ _ _ a5 w5
 refine wpIn_cond_false v18 (wpIn_skip ?_)
 show Code.wpIn Fence.wide 0 _ _ _ a5 w5
 refine wpIn_mono (hB8.step (env':=[(3,.int ((j:Int) - 1)),(10,.int ((j:Int) - 1)),(9,.int (j:Int)),(18,.raw (.bool false)),(3,.int (j:Int)),(0,.raw (.func (.yield l) #[] #[])),(1,.ptr 0 none 0)]) (K:=fun a w=>BackR M Gc.split wc rest L [(3,.int ((j:Int) - 1)),(10,.int ((j:Int) - 1)),(9,.int (j:Int)),(18,.raw (.bool false)),(3,.int (j:Int)),(0,.raw (.func (.yield l) #[] #[])),(1,.ptr 0 none 0)] y a w) (Q:=fun _ _ _=>False) ?_ fun _ _ h=>h) ?_
 ·repeat' ((first|(apply y81 ok;rfl)|(apply y41;(unfold inI;omega)))<;>conv=>whnf)
  all_goals rfl
 rintro ex a6 w6 hB9
 cases ex with
 |normal =>
  have hB9:BackR M Gc.split wc rest L _ y a6 w6:=hB9
  refine ⟨⟨j,y,by omega,u1,hB9.less ⟨rfl,rfl,rfl,trivial⟩⟩,?_⟩
  show (match a6.tmps.getD 3 undef with
   |.int _ i=>(i+1).toNat
   |_=>0) < j+1
  rw [hB9.val (s:=3) rfl]
  show ((j:Int) - 1+1).toNat < j+1
  omega
 |_=>exact hB9.elim
theorem z310 (N:Nat):List.replicate N [AC.int 0]=(fnL N fun _=>0).map enI:=by
 apply y72 (by simp [fnL])
 intro i h1 h2
 simp [fnL,enI]
theorem z744 {N:Nat} {f g:Nat→Int} (h:∀ i,i < N→f i=g i):fnL N f=fnL N g:=List.map_congr_left fun i hi=>h i (List.mem_range.1 hi)
theorem z422 {N i:Nat} (f:Nat→Int) (h:i < (fnL N f).length):(fnL N f)[i]=f i:=by simp [fnL]
set_option maxHeartbeats 12800000 in
theorem z573 (rows:List (List Int)) (hr:∀ r∈rows,InN rows.length r) (hN:rows.length≤100000) (hrl:∀ r∈rows,r.length≤1000000000):CallsA Tryz.prog 245 [lst 1 encL rows] [] (.sref 0 0 rows.length) [.cells 1 ((cmpL rows).map enI)]:=by
 refine z7 z14 Tryz.func245 rfl rfl 77 Tryz.ntmps245 (by simp) ?_
 repeat' ((first|(apply y81 ok;rfl)|(apply z31;kernel_rfl)|(apply y41;(dsimp only;omega)))<;>conv=>whnf)
 obtain ⟨qm,hqm⟩:∃ qm:Nat→Nat→Int,qm=fun i j=>if j < i then -1 else 0:=⟨_,rfl⟩
 have q0:qm 0=fun _=>0:=by rw [hqm];rfl
 have qE:fnL rows.length (qm rows.length)=fnL rows.length fun _=>-1:=z744 fun i hi=>by rw [hqm];dsimp only;rw [if_pos hi]
 have qS:∀ i,qm (i+1)=upd (qm i) i (-1):=fun i=>by
  funext j
  by_cases h:j=i
  ·subst h;rw [z27,hqm];dsimp only;rw [if_pos (by omega)]
  ·rw [z47 _ _ h,hqm];dsimp only;split<;>split<;>first|rfl|omega
 clear hqm
 refine z64 (fun i:Nat=>([(1,.ptr 0 none 0),(3,.int rows.length),(4,.ptr 4 none 0),(5,.ptr 5 none 0),(6,.ptr 6 none 0),(27,.int rows.length),(28,.int i)],[.cells 1 [[lst 1 encL rows]],.cells 1 ((fnL rows.length fun _=>0).map enI),.cells 1 ((fnL rows.length fun _=>0).map enI),.cells 1 ((fnL rows.length (qm i)).map enI),.cells 1 [[.sref 1 0 rows.length]],.cells 1 [[.sref 2 0 rows.length]],.cells 1 [[.sref 3 0 rows.length]]])) (fun i=>i≤rows.length) (fun i=>rows.length - i) 0 (y51 _) (by refine swR [0,1,2,3,4,5,6] [] rfl rfl ?_;(repeat' first|exact y83 _|apply y84|refine z8 rfl (z79 rfl) ?_|constructor)<;>(first|(refine z49 ?_;exact z310 _)|(refine z49 ?_;rw [q0];exact z310 _))) ?_
 intro i hi
 by_cases hi2:i < rows.length
 ·have g1:=z161 (qm i) hi2
  have l1:=z100 rows.length (qm i)
  have e1:=z141 (N:=rows.length) (u:=i) (qm i) (-1)
  rw [← qS] at e1
  repeat' ((first|(apply y81 ok;rfl)|(refine z13 (i:=i) rfl g1 ?_)|(apply y41;first|omega|(unfold inI;omega))|((apply z6)<;>intro _))<;>conv=>whnf)
  all_goals try (exfalso;omega)
  all_goals refine z26 (i+1) hi2 (by omega) (by refine swR [0,1,2,3,4,5,6] [] rfl rfl ?_;(repeat' first|exact y83 _|exact z11 _|apply y84|refine z61 rfl (z5 (fun _=>rfl)) ?_|refine z8 rfl (z5 (fun _=>rfl)) ?_|constructor)<;>((refine z49 ?_;exact e1)))
 obtain rfl:i=rows.length:=by omega
 rw [qE]
 clear qE qS q0
 repeat' ((first|(apply y81 ok;rfl)|(apply y41;omega)|(((apply z9;omega));intro _)|((apply z6)<;>intro _))<;>conv=>whnf)
 all_goals try (exfalso;omega)
 obtain ⟨S,hS⟩:∃ S:Nat→TS,S=fun k=>(List.range k).foldl (tTop rows) z356:=⟨_,rfl⟩
 have hTT:∀ k,k≤rows.length→TT rows (S k) k:=fun k hk=>by rw [hS];exact z614 hr k hk
 have hS0:S 0=z356:=by rw [hS];rfl
 have hSs:∀ k,S (k+1)=tTop rows (S k) k:=fun k=>by
  rw [hS];show (List.range (k+1)).foldl _ _=_
  rw [y59,y60];rfl
 have hSE:S rows.length=tAll rows:=by rw [hS];rfl
 clear hS
 refine z64 (fun k:Nat=>([(1,.ptr 6 none 0),(4,.ptr 1 none 0),(6,.ptr 8 none 0),(11,.ptr 7 none 0),(36,.int rows.length),(37,.int k)],z1065 rows (S k))) (fun k=>k≤rows.length) (fun k=>rows.length - k) 0 (y51 _) (by refine swR [8,4,1,5,2,7,0,10,6,3,9] [] rfl rfl ?_;(repeat' first|exact y83 _|apply y84|refine z8 rfl (z5 (fun _=>rfl)) ?_|constructor)<;>(first|(rw [hS0];exact y83 _)|(rw [hS0];exact z11 _)|(rw [hS0];exact z369))) ?_
 intro k hk
 have hT:=hTT k hk
 have hTn:∀ h:k < rows.length,TT rows (S (k+1)) (k+1):=fun h=>hTT (k+1) h
 by_cases hk2:k < rows.length
 ·have hs2:=hSs k
  generalize hS1:S k=s1 at *
  generalize hS2:S (k+1)=s2 at *
  have g1:=z161 s1.num hk2
  have l1:=z100 rows.length s1.num
  unfold tTop at hs2
  by_cases h0:s1.num k=0
  ·rw [if_pos h0] at hs2
   have cV:=z924 rows hr hN hrl rows.length s1 [] k (by have:=hT.inv.ct;omega) hT.inv h0 hk2 (by simp) hT.prt
   rw [← hs2] at cV
   repeat' ((first|(apply y81 ok;rfl)|(refine z13 (i:=k) rfl g1 ?_)|(apply y41;first|omega|(unfold inI;omega))|((apply z6)<;>intro _)|(apply z133 [0,1,2,3,4,5,6,7,8,9,10] [] cV;rfl;(focus ((repeat' first|exact z45|apply z55)<;>first|rfl|(refine z77 rfl ?_;((exact z5 fun _=>rfl)))));rfl;(focus ((repeat' first|exact z16|apply z15)<;>first|exact z52 rfl rfl|(refine z19 ?_;((exact z5 fun _=>rfl)))))))<;>conv=>whnf)
   all_goals try (exfalso;omega)
   all_goals refine z26 (k+1) hk2 (by omega) ?_
   all_goals dsimp only
   all_goals rw [hS2]
   all_goals exact (by refine swR [0,1,2,3,4,5,6,7,8,9,10] [] rfl rfl ?_;(repeat' first|exact y83 _|exact z11 _|apply y84|refine z8 rfl (z5 (fun _=>rfl)) ?_|constructor))
  ·rw [if_neg h0] at hs2
   repeat' ((first|(apply y81 ok;rfl)|(refine z13 (i:=k) rfl g1 ?_)|(apply y41;first|omega|(unfold inI;omega))|((apply z6)<;>intro _))<;>conv=>whnf)
   all_goals try (exfalso;omega)
   all_goals refine z26 (k+1) hk2 (by omega) ?_
   all_goals dsimp only
   all_goals rw [hS2,hs2]
   all_goals exact (by refine swR [0,1,2,3,4,5,6,7,8,9,10] [] rfl rfl ?_;(repeat' first|exact y83 _|exact z11 _|apply y84|refine z8 rfl (z5 (fun _=>rfl)) ?_|constructor))
 obtain rfl:k=rows.length:=by omega
 rw [hSE]
 clear hTT hS0 hSs hSE hTn hT
 have hcmp:cmpL rows=(List.range rows.length).map fun i=>nmI (fnL rows.length (tAll rows).part) i:=rfl
 obtain ⟨P,hP⟩:∃ P,P=fnL rows.length (tAll rows).part:=⟨_,rfl⟩
 rw [← hP] at hcmp
 have hPl:P.length=rows.length:=by rw [hP,z100]
 generalize tAll rows=s0 at *
 obtain ⟨pm,hpm⟩:∃ pm:Nat→Nat→Int,pm=fun i j=>if j < i then nmI P j else s0.part j:=⟨_,rfl⟩
 have q0:pm 0=s0.part:=by rw [hpm];funext j;simp
 have qE:fnL rows.length (pm rows.length)=cmpL rows:=by
  rw [hcmp]
  exact z744 fun i hi=>by rw [hpm];dsimp only;rw [if_pos hi]
 have qA:∀ i (h:i < rows.length),pm i i=P[i]'(by omega):=fun i h=>by
  rw [hpm];dsimp only;rw [if_neg (by omega)]
  simp only [hP,z422]
 have qS:∀ i,pm (i+1)=upd (pm i) i (nmI P i):=fun i=>by
  funext j
  by_cases h:j=i
  ·subst h;rw [z27,hpm];dsimp only;rw [if_pos (by omega)]
  ·rw [z47 _ _ h,hpm];dsimp only;split<;>split<;>first|rfl|omega
 clear hpm hcmp
 repeat' ((first|(apply y81 ok;rfl)|(apply y41;omega)|(((apply z9;omega));intro _)|((apply z6)<;>intro _))<;>conv=>whnf)
 all_goals try (exfalso;omega)
 refine z64 (fun i:Nat=>([(6,.ptr 1 none 0),(13,.mref 0),(50,.sref 2 0 rows.length),(51,.int rows.length),(52,.int i)],[.mp 0 (z237 0 (metL P i)),.cells 1 [[.sref 2 0 rows.length]],.cells 1 ((fnL rows.length (pm i)).map enI)])) (fun i=>i≤rows.length) (fun i=>rows.length - i) 0 (y51 _) (by refine swR [11,8,9] [] rfl rfl ?_;(repeat' first|exact y83 _|apply y84|refine z8 rfl (z5 (fun _=>rfl)) ?_|constructor)<;>(first|(rw [q0];exact z11 _)|rfl)) ?_
 intro i hi
 by_cases hi2:i < rows.length
 ·have g1:=z161 (pm i) hi2
  have l1:=z100 rows.length (pm i)
  have e1:=z141 (N:=rows.length) (u:=i) (pm i) (nmI P i)
  rw [← qS] at e1
  rw [qA i hi2] at g1
  have hiP:i < P.length:=by omega
  have m1:=z515 P[i] 0 (metL P i)
  have m2:=z515 P[i] 0 (metL P (i+1))
  rw [if_pos (z634 hiP),Nat.zero_add,← nmI_at hiP] at m2
  have m3:=z371 hiP
  have m4:=z533 0 (metL P i)
  by_cases hp:P[i]∈metL P i
  ·rw [if_pos hp] at m1
   have m5:metL P (i+1)=metL P i:=by rw [m3];unfold z162;rw [if_pos hp]
   rw [m5] at m2
   generalize hes:z237 0 (metL P i)=es at *
   generalize hes2:z237 0 (metL P (i+1))=es2 at *
   have m6:es2=es:=by rw [← hes2,m5,hes]
   generalize nmI P i=nm at *
   generalize P[i]=p at *
   repeat' ((first|(apply y81 ok;rfl)|(refine z13 (i:=i) rfl g1 ?_)|(rw [m2])|(apply y41;first|omega|(unfold inI;omega))|((apply z6)<;>intro _))<;>conv=>whnf)
   all_goals try (exfalso;omega)
   all_goals refine z26 (i+1) hi2 (by omega) ?_
   all_goals dsimp only
   all_goals rw [hes2,m6]
   all_goals exact (by refine swR [0,1,2] [] rfl rfl ?_;(repeat' first|exact y83 _|apply y84|refine z61 rfl (z5 (fun _=>rfl)) ?_|constructor)<;>(first|(refine z49 ?_;exact e1)|rfl))
  ·rw [if_neg hp] at m1
   have m5:metL P (i+1)=metL P i++[P[i]]:=by rw [m3];unfold z162;rw [if_neg hp]
   have m6:mput (z237 0 (metL P i)) [P[i]] (z237 0 (metL P i)).length=z237 0 (metL P (i+1)):=by
    rw [z721 _ _ _ hp,m5,z749,z533,Nat.zero_add]
   generalize hes:z237 0 (metL P i)=es at *
   generalize hes2:z237 0 (metL P (i+1))=es2 at *
   generalize nmI P i=nm at *
   generalize P[i]=p at *
   repeat' ((first|(apply y81 ok;rfl)|(refine z13 (i:=i) rfl g1 ?_)|(rw [m6])|(rw [m2])|(rw [m1])|(apply y41;first|omega|(unfold inI;omega))|((apply z6)<;>intro _))<;>conv=>whnf)
   all_goals try (exfalso;omega)
   all_goals refine z26 (i+1) hi2 (by omega) ?_
   all_goals dsimp only
   all_goals rw [hes2]
   all_goals exact (by refine swR [0,1,2] [] rfl rfl ?_;(repeat' first|exact y83 _|apply y84|refine z61 rfl (z5 (fun _=>rfl)) ?_|constructor)<;>(first|(refine z49 ?_;exact e1)|rfl))
 obtain rfl:i=rows.length:=by omega
 rw [qE]
 repeat' ((first|(apply y81 ok;rfl)|(apply y41;omega)|(((apply z9;omega));intro _)|((first|apply z6|apply z89)<;>intro _))<;>conv=>whnf)
 all_goals try (exfalso;omega)
 all_goals (refine rsD [2] [] rfl ?_;(repeat' first|exact y83 _|exact z11 _|refine z8 rfl (z5 (fun _=>rfl)) ?_|constructor))
def fnB (N:Nat) (f:Nat→Bool):List Bool:=(List.range N).map f
theorem z1110 (N:Nat) (f:Nat→Bool):(fnB N f).length=N:=by simp [fnB]
theorem z1111 {N u:Nat} (f:Nat→Bool) (h:u < N):((fnB N f).map enB)[u]?=some (enB (f u)):=by
 unfold fnB
 rw [y49,y49,List.getElem?_range h];rfl
theorem z905 {N u:Nat} (f:Nat→Bool) (x:Bool):((fnB N f).map enB).set u (enB x)=(fnB N (upd f u x)).map enB:=by
 rw [← List.map_set]
 congr 1
 apply y72 (by simp [fnB])
 intro i h1 h2
 rw [List.getElem_set]
 simp only [fnB,List.getElem_map,List.getElem_range]
 split
 ·rename_i e;subst e;rw [z27]
 ·rename_i e;rw [z47 _ _ (fun h=>e h.symm)]
theorem z904 (N:Nat):List.replicate N [AC.bool false]=(fnB N fun _=>false).map enB:=by
 apply y72 (by simp [fnB])
 intro i h1 h2
 simp [fnB,enB]
set_option maxHeartbeats 12800000 in
theorem z983 (rows:List (List Int)) (hr:∀ r∈rows,InN rows.length r) (hN:rows.length≤100000) (hrl:∀ r∈rows,r.length≤1000000000):CallsA Tryz.prog 175 [lst 1 encL rows] [] (.sref 0 0 rows.length) [.cells 1 ((cycB rows).map enB)]:=by
 have cC:=z573 rows hr hN hrl
 have hPl:=z389 rows
 have hPi:=z1129 (rows:=rows)
 have hcy:=fun x hx=>cyc_cnt hr (x:=x) hx
 have hcl:=fun x (hx:x < rows.length)=>z850 hx
 have ccB:cycB rows=fnB rows.length (cycD rows):=rfl
 rw [ccB]
 generalize cmpL rows=P at *
 refine z7 z14 Tryz.func175 rfl rfl 56 Tryz.ntmps175 (by simp) ?_
 repeat' ((first|(apply y81 ok;rfl)|(apply y41;(dsimp only;omega))|(apply z10 [] [0] cC;rfl;rfl;rfl;(focus ((repeat' first|exact z16|apply z15)<;>(refine z19 ?_;((exact z5 fun _=>rfl)))))))<;>conv=>whnf)
 obtain ⟨cm,hcm⟩:∃ cm:Nat→Nat→Int,cm=fun i v=>((cntL P i v:Nat):Int):=⟨_,rfl⟩
 have c0:cm 0=fun _=>0:=by rw [hcm];funext v;simp [cntL]
 have cS:∀ i (h:i < P.length),cm (i+1)=upd (cm i) (P[i]).toNat (cm i (P[i]).toNat+1):=fun i h=>by
  have hp:=hPi _ (y42 h)
  funext v
  rw [hcm]
  dsimp only
  rw [z757 h]
  by_cases e:v=(P[i]).toNat
  ·rw [e,z27,if_pos (by omega)];omega
  ·rw [z47 _ _ e,if_neg (by omega)];omega
 have cE:∀ v,cm rows.length v=((cntL P rows.length v:Nat):Int):=fun v=>by rw [hcm]
 have cB:∀ i v,0≤cm i v∧cm i v≤i:=fun i v=>by rw [hcm];have:=cntL_le P i v;dsimp only;omega
 clear hcm
 refine z64 (fun i:Nat=>([(0,lst 1 encL rows),(3,.sref 0 0 rows.length),(4,.sref 1 0 rows.length),(14,.sref 0 0 rows.length),(15,.int rows.length),(16,.int i)],[.cells 1 (P.map enI),.cells 1 ((fnL rows.length (cm i)).map enI)])) (fun i=>i≤rows.length) (fun i=>rows.length - i) 0 (y51 _) (by refine swR [0,1] [] rfl rfl ?_;(repeat' first|exact y83 _|exact z11 _|((refine z8 rfl ?_ ?_);(focus ((repeat' (first|exact z79 rfl|exact z5 (fun _=>rfl)));done)))|constructor)<;>((refine z49 ?_;rw [c0];exact z310 _))) ?_
 intro i hi
 by_cases hi2:i < rows.length
 ·have hiP:i < P.length:=by omega
  have hp:=hPi _ (y42 hiP)
  have gp:(P.map enI)[i]?=some (enI P[i]):=by rw [y49,y43 hiP];rfl
  have cS2:=cS i hiP
  generalize P[i]=p at *
  obtain ⟨v,rfl⟩:∃ v:Nat,p=v:=⟨p.toNat,by omega⟩
  rw [y74] at cS2
  have hv:v < rows.length:=by omega
  have gv:=z161 (cm i) hv
  have l1:=z100 rows.length (cm i)
  have e1:=z141 (N:=rows.length) (u:=v) (cm i) (cm i v+1)
  rw [← cS2] at e1
  have b1:=cB i v
  repeat' ((first|(apply y81 ok;rfl)|(refine z13 (i:=i) rfl gp ?_)|(refine z13 (i:=v) rfl gv ?_)|(apply y41;first|omega|(unfold inI;omega))|((apply z6)<;>intro _))<;>conv=>whnf)
  all_goals try (exfalso;omega)
  all_goals refine z26 (i+1) hi2 (by omega) (by refine swR [0,1] [] rfl rfl ?_;(repeat' first|exact y83 _|exact z11 _|refine z61 rfl (z5 (fun _=>rfl)) ?_|refine z8 rfl (z5 (fun _=>rfl)) ?_|constructor)<;>((refine z49 ?_;exact e1)))
 obtain rfl:i=rows.length:=by omega
 repeat' ((first|(apply y81 ok;rfl)|(apply y41;first|omega|(dsimp only;omega))|(((apply z9;omega));intro _)|((apply z6)<;>intro _))<;>conv=>whnf)
 all_goals try (exfalso;omega)
 obtain ⟨bm,hbm⟩:∃ bm:Nat→Nat→Bool,bm=fun i j=>if j < i then cycD rows j else false:=⟨_,rfl⟩
 have b0:bm 0=fun _=>false:=by rw [hbm];rfl
 have bE:fnB rows.length (bm rows.length)=fnB rows.length (cycD rows):=List.map_congr_left fun i hi=>by
  have:=List.mem_range.1 hi
  rw [hbm];dsimp only;rw [if_pos this]
 have bS:∀ i,bm (i+1)=upd (bm i) i (cycD rows i):=fun i=>by
  funext j
  by_cases h:j=i
  ·subst h;rw [z27,hbm];dsimp only;rw [if_pos (by omega)]
  ·rw [z47 _ _ h,hbm];dsimp only;split<;>split<;>first|rfl|omega
 clear hbm
 refine z64 (fun i:Nat=>([(0,lst 1 encL rows),(3,.sref 0 0 rows.length),(4,.sref 1 0 rows.length),(7,.sref 2 0 rows.length),(31,.int rows.length),(32,.int i)],[.cells 1 (P.map enI),.cells 1 ((fnL rows.length (cm rows.length)).map enI),.cells 1 ((fnB rows.length (bm i)).map enB)])) (fun i=>i≤rows.length) (fun i=>rows.length - i) 0 (y51 _) (by refine swR [0,1,2] [] rfl rfl ?_;(repeat' first|exact y83 _|exact z11 _|((refine z8 rfl ?_ ?_);(focus ((repeat' (first|exact z79 rfl|exact z5 (fun _=>rfl)));done)))|constructor)<;>((refine z49 ?_;rw [b0];exact z904 _))) ?_
 intro i hi
 by_cases hi2:i < rows.length
 ·have hiP:i < P.length:=by omega
  have hp:=hPi _ (y42 hiP)
  have gp:(P.map enI)[i]?=some (enI P[i]):=by rw [y49,y43 hiP];rfl
  have hc:=hcy i hi2
  have e1:=z905 (N:=rows.length) (u:=i) (bm i) (cycD rows i)
  rw [← bS] at e1
  rw [z17 hiP] at hc
  generalize P[i]=p at *
  obtain ⟨v,rfl⟩:∃ v:Nat,p=v:=⟨p.toNat,by omega⟩
  rw [y74] at hc
  have hv:v < rows.length:=by omega
  have gv:=z161 (cm rows.length) hv
  have l1:=z100 rows.length (cm rows.length)
  have l2:=z1110 rows.length (bm i)
  have g2:=z1111 (bm i) hi2
  have gr:=z499 hi2
  have hrow:(rows.getD i []).length≤1000000000:=by rw [z17 hi2];exact hrl _ (y42 _)
  have cct:=z172 (rows.getD i []) (by unfold maxLen;omega) i
  rw [cE] at gv
  generalize cycD rows i=cy at *
  generalize rows.getD i []=row at *
  generalize cntL P rows.length v=cn at *
  by_cases h1:1 < cn
  ·rw [y78 h1,Bool.true_or] at hc
   subst hc
   repeat' ((first|(apply y81 ok;rfl)|(refine z13 (i:=i) rfl gp ?_)|(refine z13 (i:=v) rfl gv ?_)|(refine z13 (i:=i) rfl g2 ?_)|(refine z13 (i:=i) rfl gr ?_)|(apply y41;first|omega|(unfold inI;omega))|((apply z6)<;>intro _)|(apply z4 (cct);rfl;rfl))<;>conv=>whnf)
   all_goals try (exfalso;omega)
   all_goals refine z26 (i+1) hi2 (by omega) (by refine swR [0,1,2] [] rfl rfl ?_;(repeat' first|exact y83 _|exact z11 _|refine z61 rfl (z5 (fun _=>rfl)) ?_|refine z8 rfl (z5 (fun _=>rfl)) ?_|constructor)<;>((refine z49 ?_;exact e1)))
  ·rw [y79 h1,Bool.false_or] at hc
   rw [← hc] at cct
   repeat' ((first|(apply y81 ok;rfl)|(refine z13 (i:=i) rfl gp ?_)|(refine z13 (i:=v) rfl gv ?_)|(refine z13 (i:=i) rfl g2 ?_)|(refine z13 (i:=i) rfl gr ?_)|(apply y41;first|omega|(unfold inI;omega))|((apply z6)<;>intro _)|(apply z4 (cct);rfl;rfl))<;>conv=>whnf)
   all_goals try (exfalso;omega)
   all_goals refine z26 (i+1) hi2 (by omega) (by refine swR [0,1,2] [] rfl rfl ?_;(repeat' first|exact y83 _|exact z11 _|refine z61 rfl (z5 (fun _=>rfl)) ?_|refine z8 rfl (z5 (fun _=>rfl)) ?_|constructor)<;>((refine z49 ?_;exact e1)))
 obtain rfl:i=rows.length:=by omega
 rw [bE]
 repeat' ((first|(apply y81 ok;rfl)|(apply y41;omega)|((first|(with_reducible apply z9;omega)|(apply z9;omega));intro _)|((apply z6)<;>intro _))<;>conv=>whnf)
 all_goals try (exfalso;omega)
 all_goals (refine rsD [2] [] rfl ?_;(repeat' first|exact y83 _|exact z11 _|refine z8 rfl (z5 (fun _=>rfl)) ?_|constructor))
def inM (Q:List Int) (i:Nat):Bool:=decide ((i:Int)∈Q)
theorem inM_upd (Q:List Int) (w:Nat):inM (Q++[(w:Int)])=upd (inM Q) w true:=by
 funext j
 by_cases h:j=w
 ·subst h;rw [z27];unfold inM;simp
 ·rw [z47 _ _ h];unfold inM;congr 1
  have:¬ (j:Int)=w:=by omega
  simp [this]
theorem inM_nil:inM []=fun _=>false:=by funext j;simp [inM]
@[reducible] def findF:AC:=.fn (.func 154) [] [.ptr 0 none 0,.ptr 2 none 0]
@[reducible] def z1066 (N:Nat) (Q:List Int):List AObj:=[.cells 1 [[.sref 1 0 N]],.cells 1 ((fnB N (inM Q)).map enB),.cells 1 [[.own 1 (Q.map enI)]]]
set_option maxHeartbeats 3200000 in
theorem z745 (N : Nat) (hN : N ≤ 100000) (Q : List Int) (hQ : Q.length ≤ 100000) (v : Int) (hv : 0 ≤ v ∧ v < N) :
    CallsA Tryz.prog 154 [.int v,.ptr 0 none 0,.ptr 2 none 0] (z1066 N Q) (.tup []) (z1066 N (z162 Q v)):=by
  obtain ⟨w,rfl⟩:∃ w:Nat,v=w:=⟨v.toNat,by omega⟩
  have hw:w < N:=by omega
  have g1:=z1111 (inM Q) hw
  have l1:=z1110 N (inM Q)
  unfold z162
  by_cases h:(w:Int)∈Q
  · rw [if_pos h]
    have e:inM Q w=true:=by unfold inM;simp [h]
    rw [e] at g1
    refine z7 z14 Tryz.func154 rfl rfl 16 Tryz.ntmps154 (by simp) ?_
    repeat' ((first|(apply y81 ok;rfl)|(refine z13 (i:=w) rfl g1 ?_)|(apply y41;omega))<;>conv=>whnf)
    all_goals (refine rsD [0,1,2] [] rfl ?_;(repeat' first|exact y83 _|exact z11 _|apply y84|refine z8 rfl (z5 (fun _=>rfl)) ?_|constructor))
  · rw [if_neg h]
    have e:inM Q w=false:=by unfold inM;simp [h]
    rw [e] at g1
    have e1:=z905 (N:=N) (u:=w) (inM Q) true
    rw [← inM_upd] at e1
    have e2:(List.map enI Q).take (List.map enI Q).length++[enI (w:Int)]=(Q++[(w:Int)]).map enI:=by
      rw [y54];simp
    refine z7 z14 Tryz.func154 rfl rfl 16 Tryz.ntmps154 (by simp) ?_
    repeat' ((first|((fail_if_success apply z150 2);(fail_if_success apply z109 2);apply y81 ok;rfl)|(refine z13 (i:=w) rfl g1 ?_)|(apply y41;omega))<;>conv=>whnf)
    all_goals
      refine y82 (Gl.Reach.expose 2 0 0 rfl rfl rfl (z153 (fun _=>rfl) _) rfl) ?_
      conv=>whnf
      repeat' ((first|(apply y81 ok;rfl)|(apply y41;first|((try dsimp only);simp only [y47,y46,y45,y44,y56,y57];omega)|exact ⟨rfl,z21 rfl z29⟩))<;>conv=>whnf)
      refine Gl.RetS.absorb 2 5 0 0 rfl rfl rfl rfl (by simp) rfl (z97 (fun e he=>(z5 (fun _=>rfl)) e (List.mem_of_mem_take he)) (z204 rfl z24)) ?_
      conv=>whnf
      (refine rsD [0,1,2] [] rfl ?_;(repeat' first|exact y83 _|apply y84|refine z61 rfl (z5 (fun _=>rfl)) ?_|constructor))
      all_goals first|(refine z49 ?_;exact e1)|exact y8 (congrArg (AC.own 1) e2)
set_option maxHeartbeats 6400000 in
theorem z715 (rows : List (List Int)) (ini : List Int) (hr : ∀ r ∈ rows, InN rows.length r) (hi : InN rows.length ini) (hN : rows.length ≤ 100000) (hrl : ∀ r ∈ rows, r.length ≤ 1000000000) (hil : ini.length ≤ 1000000000) :
    CallsA Tryz.prog 77 [lst 1 encL rows,ints ini] [] (.sref 0 0 (bfsL rows ini).length) [.cells 1 ((bfsL rows ini).map enI)]:=by
  have hvl:∀ l:List Int,InN rows.length l→(z74 [] l).length≤100000:=fun l hl=>by
    have:=z146 rows.length (z74 [] l) (z144 (by simp)) (z223 (fun x hx=>by cases hx) hl)
    omega
  refine z7 z14 Tryz.func77 rfl rfl 50 Tryz.ntmps77 (by simp) ?_
  repeat' ((first|(apply y81 ok;rfl)|(apply y41;(dsimp only;omega)))<;>conv=>whnf)
  refine z64 (fun i:Nat=>([(0,lst 1 encL rows),(6,.ptr 2 none 0),(7,findF),(17,ints ini),(18,.int ini.length),(19,.int i)],z1066 rows.length (z74 [] (ini.take i)))) (fun i=>i≤ini.length) (fun i=>ini.length - i) 0 (y51 _) (by refine swR [1,0,2] [] rfl rfl ?_;(repeat' first|exact y83 _|apply y84|refine z8 rfl (z79 rfl) ?_|constructor)<;>(first|exact z369|(refine z49 ?_;show _=(fnB rows.length (inM [])).map enB;rw [inM_nil];exact z904 _))) ?_
  intro i hil1
  by_cases hil2:i < ini.length
  · have gk:(ini.map enI)[i]?=some (enI ini[i]):=by rw [y49,y43 hil2];rfl
    have hv:=hi _ (y42 hil2)
    have hQl:=hvl (ini.take i) fun x hx=>hi x (List.mem_of_mem_take hx)
    have e1:=z243 (out:=[]) hil2
    generalize ini[i]=v at *
    have cf:=z745 rows.length hN (z74 [] (ini.take i)) hQl v hv
    rw [← e1] at cf
    repeat' ((first|(apply y81 ok;rfl)|(refine z13 (i:=i) rfl gk ?_)|(apply y41;first|omega|(unfold inI;omega))|((apply z6)<;>intro _)|(apply z133 [0,1,2] [] cf;rfl;(focus ((repeat' first|exact z45|apply z55)<;>first|rfl|(refine z77 rfl ?_;((exact z5 fun _=>rfl)))));rfl;(focus ((repeat' first|exact z16|apply z15)<;>first|exact z52 rfl rfl|(refine z19 ?_;((exact z5 fun _=>rfl)))))))<;>conv=>whnf)
    all_goals try (exfalso;omega)
    all_goals refine z26 (i+1) hil2 (by omega) (by refine swR [0,1,2] [] rfl rfl ?_;(repeat' first|exact y83 _|exact z11 _|apply y84|refine z8 rfl (z5 (fun _=>rfl)) ?_|constructor))
  obtain rfl:i=ini.length:=by omega
  rw [y54]
  repeat' ((first|(apply y81 ok;rfl)|(apply y41;omega)|(((with_reducible apply z9;omega));intro _)|((apply z6)<;>intro _))<;>conv=>whnf)
  all_goals try (exfalso;omega)
  refine z64 (fun i:Nat=>([(0,lst 1 encL rows),(6,.ptr 2 none 0),(7,findF),(10,.int i)],z1066 rows.length (bfs rows ini i))) (fun i=>i≤rows.length) (fun i=>rows.length - i) 0 (y51 _) (by refine swR [0,1,2] [] rfl rfl ?_;(repeat' first|exact y83 _|exact z11 _|apply y84|refine z8 rfl (z5 (fun _=>rfl)) ?_|constructor)) ?_
  intro i hi1
  have hQl:=z299 hr hi i
  have hQi:=z395 hr hi i
  refine y82 (Gl.Reach.expose 2 0 0 rfl rfl rfl (z153 (fun _=>rfl) _) rfl) ?_
  by_cases hi2:i < (bfs rows ini i).length
  · have hx:=hQi _ (y42 hi2)
    have gx:((bfs rows ini i).map enI)[i]?=some (enI (bfs rows ini i)[i]):=by rw [y49,y43 hi2];rfl
    have hnx:bfs rows ini (i+1)=z74 (bfs rows ini i) (rows.getD ((bfs rows ini i)[i]).toNat []):=by rw [bfs,dif_pos hi2]
    have hnd:=z541 (rows:=rows) (ini:=ini) i
    generalize hQ' : bfs rows ini (i+1)=Q' at *
    generalize (bfs rows ini i)[i]=x at *
    generalize hQ:bfs rows ini i=Q at *
    obtain ⟨u,rfl⟩:∃ u:Nat,x=u:=⟨x.toNat,by omega⟩
    rw [y74] at hnx
    have hu:u < rows.length:=by omega
    have gr:=z499 hu
    have hrow:=z198 hr (u:Int)
    rw [y74] at hrow
    have hrowl:(rows.getD u []).length≤1000000000:=by rw [z17 hu];exact hrl _ (y42 _)
    generalize rows.getD u []=row at *
    repeat' ((first|(apply y81 ok;rfl)|(refine z13 (i:=i) rfl gx ?_)|(refine z13 (i:=u) rfl gr ?_)|(apply y41;omega)|((apply z6)<;>intro _))<;>conv=>whnf)
    all_goals first|(exfalso;simp at *;omega)|skip
    all_goals
      refine y82 (Gl.Reach.absorb 2 3 0 0 rfl rfl rfl rfl (by simp) rfl (z5 fun _=>rfl) rfl) ?_
      refine z64 (fun j:Nat=>([(0,lst 1 encL rows),(6,.ptr 2 none 0),(7,findF),(10,.int i),(39,ints row),(40,.int row.length),(41,.int j)],z1066 rows.length (z74 Q (row.take j)))) (fun j=>j≤row.length) (fun j=>row.length - j) 0 (y51 _) (by refine swR [0,1,2] [] rfl rfl ?_;(repeat' first|exact y83 _|exact z11 _|apply y84|refine z8 rfl (z5 (fun _=>rfl)) ?_|constructor)) ?_
      intro j hj
      by_cases hj2:j < row.length
      · have gj:(row.map enI)[j]?=some (enI row[j]):=by rw [y49,y43 hj2];rfl
        have hv:=hrow _ (y42 hj2)
        have hWl:(z74 Q (row.take j)).length≤100000:=by
          have:=z146 rows.length (z74 Q (row.take j)) (z144 hnd) (z223 hQi fun x hx=>hrow x (List.mem_of_mem_take hx))
          omega
        have e1:=z243 (out:=Q) hj2
        generalize row[j]=v at *
        have cf:=z745 rows.length hN (z74 Q (row.take j)) hWl v hv
        rw [← e1] at cf
        repeat' ((first|(apply y81 ok;rfl)|(refine z13 (i:=j) rfl gj ?_)|(apply y41;first|omega|(unfold inI;omega))|((apply z6)<;>intro _)|(apply z133 [0,1,2] [] cf;rfl;(focus ((repeat' first|exact z45|apply z55)<;>first|rfl|(refine z77 rfl ?_;((exact z5 fun _=>rfl)))));rfl;(focus ((repeat' first|exact z16|apply z15)<;>first|exact z52 rfl rfl|(refine z19 ?_;((exact z5 fun _=>rfl)))))))<;>conv=>whnf)
        all_goals try (exfalso;omega)
        all_goals refine z26 (j+1) hj2 (by omega) (by refine swR [0,1,2] [] rfl rfl ?_;(repeat' first|exact y83 _|exact z11 _|apply y84|refine z8 rfl (z5 (fun _=>rfl)) ?_|constructor))
      obtain rfl:j=row.length:=by omega
      rw [y54,← hnx]
      repeat' ((first|(apply y81 ok;rfl)|(apply y41;first|omega|(unfold inI;omega))|(((with_reducible apply z9;omega));intro _)|((apply z6)<;>intro _))<;>conv=>whnf)
      all_goals try (exfalso;omega)
      all_goals refine z26 (i+1) (by omega) (by omega) ?_
      all_goals dsimp only
      all_goals rw [hQ']
      all_goals exact (by refine swR [0,1,2] [] rfl rfl ?_;(repeat' first|exact y83 _|exact z11 _|apply y84|refine z8 rfl (z5 (fun _=>rfl)) ?_|constructor))
  · have hE:=z918 hr hi (i:=i) (by omega) hi1
    rw [← hE]
    repeat' ((first|(apply y81 ok;rfl)|(apply y41;omega)|((apply z6)<;>intro _))<;>conv=>whnf)
    all_goals first|(exfalso;simp at *;omega)|skip
    all_goals (refine rsD [3] [] rfl ?_;(repeat' first|exact z11 _|(refine z50 ?_;((simp;done)))|refine z8 rfl (z5 (fun _=>rfl)) ?_|constructor))
theorem swp_map (l:List Int) (i j:Nat):((l.map enI).set i (enI (l.getD j 0))).set j (enI (l.getD i 0))=(swp l i j).map enI:=by
 unfold swp;rw [List.map_set,List.map_set]
set_option maxHeartbeats 1600000 in
theorem z579 (l:List Int) (h1:1≤l.length) (h2:l.length≤1048576):CallsA Tryz.prog 246 [.sref 0 0 l.length] [.cells 1 (l.map enI)] (.tup []) [.cells 1 ((rvs l).map enI)]:=by
 have hR:revG l.length 0 (l.length - 1) l=rvs l:=rfl
 generalize rvs l=R at *
 generalize hn:l.length=n at *
 refine z7 z14 Tryz.func246 rfl rfl 28 Tryz.ntmps246 (by simp) ?_
 repeat' ((first|(apply y81 ok;rfl)|(apply y41;(unfold inI;omega)))<;>conv=>whnf)
 refine z64 (fun x:Nat×Nat×List Int=>([(0,.sref 0 0 n),(2,.int x.1),(3,.int x.2.1)],[.cells 1 (x.2.2.map enI)])) (fun x=>x.1≤n∧x.2.1 < n∧x.2.2.length=n∧revG (n - x.1) x.1 x.2.1 x.2.2=R) (fun x=>n - x.1) (0,n - 1,l) ⟨by simp,by show n - 1 < n;omega,hn,hR⟩ (by refine swR [0] [] rfl rfl ?_;(repeat' first|exact y83 _|exact z11 _|refine z8 rfl (z5 (fun _=>rfl)) ?_|constructor)<;>((rw [show ((n - 1:Nat):Int)=(n:Int) - 1 by omega];exact y83 _))) ?_
 rintro ⟨i,j,l'⟩ ⟨i1,i2,i3,i4⟩
 dsimp only at i1 i2 i3 i4 ⊢
 by_cases hij:i < j
 ·rw [show n - i=(n - (i+1))+1 by omega,revG,if_pos hij] at i4
  have gi:(l'.map enI)[i]?=some (enI (l'.getD i 0)):=by rw [y49,y43 (by omega),z17 (by omega)];rfl
  have gj:(l'.map enI)[j]?=some (enI (l'.getD j 0)):=by rw [y49,y43 (by omega),z17 (by omega)];rfl
  have gj2:((l'.map enI).set i (enI (l'.getD j 0)))[j]?=some (enI (l'.getD j 0)):=by rw [List.getElem?_set_ne (by omega)];exact gj
  have es:=swp_map l' i j
  repeat' ((first|(apply y81 ok;rfl)|(apply z31;kernel_rfl)|(refine z13 (i:=i) rfl gi ?_)|(refine z13 (i:=j) rfl gj ?_)|(refine z13 (i:=j) rfl gj2 ?_)|(apply y41;first|omega|(unfold inI;omega))|((apply z6)<;>intro _))<;>conv=>whnf)
  all_goals try (exfalso;omega)
  all_goals refine z26 (i+1,j - 1,swp l' i j) ⟨by show i+1≤n;omega,by show j - 1 < n;omega,by show (swp l' i j).length=n;simp [swp,i3],i4⟩ (by show n - (i+1) < n - i;omega) (by refine swR [0] [] rfl rfl ?_;(repeat' first|exact y83 _|((refine z61 rfl ?_ ?_);(focus ((repeat' (first|exact z5 (fun _=>rfl)|(refine z1113 ?_ _ rfl)));done)))|constructor)<;>(first|(rw [show ((j - 1:Nat):Int)=(j:Int) - 1 by omega];exact y83 _)|exact z49 es))
 ·have:revG (n - i) i j l'=l':=by cases n - i<;>simp [revG,hij]
  rw [this] at i4
  subst i4
  repeat' ((first|(apply y81 ok;rfl)|(apply y41;omega)|(((apply z9;omega));intro _)|((apply z6)<;>intro _))<;>conv=>whnf)
  all_goals try (exfalso;omega)
  all_goals (refine rsD [0] [] rfl ?_;(repeat' first|exact y83 _|exact z11 _|refine z8 rfl (z5 (fun _=>rfl)) ?_|constructor))
theorem z420 {N w:Nat} (Q P:List Int) (hw:w < N):((frm N Q P).map enI)[w]?=some (enI (if (w:Int)∈Q then P.getD w 0 else -2)):=by
 unfold frm
 rw [y49,y49,List.getElem?_range hw];rfl
theorem z468 {N w:Nat} {Q P:List Int} {u:Int} (hw:w < N) (hP:P.length=N):((frm N Q P).map enI).set w (enI u)=(frm N (Q++[(w:Int)]) (P.set w u)).map enI:=by
 have:=frm_set (N:=N) (Q:=Q) (P:=P) (v:=(w:Int)) (u:=u) ⟨by omega,by omega⟩ hP
 rw [y74] at this
 rw [← this,List.map_set]
set_option maxHeartbeats 12800000 in
theorem z624 (rows : List (List Int)) (ini : List Int) (hr : ∀ r ∈ rows, InN rows.length r) (hi : InN rows.length ini) (hn : ini.Nodup) (hN : rows.length ≤ 100000) (hrl : ∀ r ∈ rows, r.length ≤ 1000000000) (G : Int → Bool) (f : FuncId) (c1 : List AC) (hf : ∀ x : Int, 0 ≤ x → x < rows.length → CallsA Tryz.prog f (.int x :: [.pt c1]) [] (.bool (G x)) []) :
    CallsA Tryz.prog 176 [lst 1 encL rows,ints ini,.fn (.func f) [] [.pt c1]] [] (.sref 0 0 (shL rows ini G).length) [.cells 1 ((shL rows ini G).map enI)]:=by
  have hil:ini.length≤100000:=by have:=z146 rows.length ini hn hi;omega
  refine z7 z14 Tryz.func176 rfl rfl 99 Tryz.ntmps176 (by simp) ?_
  repeat' ((first|(apply y81 ok;rfl)|(apply y41;(dsimp only;omega)))<;>conv=>whnf)
  obtain ⟨qm,hqm⟩:∃ qm:Nat→Nat→Int,qm=fun i j=>if j < i then -2 else 0:=⟨_,rfl⟩
  have q0:qm 0=fun _=>0:=by rw [hqm];rfl
  have qE:(fnL rows.length (qm rows.length)).map enI=(frm rows.length [] (List.replicate rows.length (-1))).map enI:=by
    rw [z1106]
    congr 1
    apply y72 (by simp [fnL])
    intro i h1 h2
    rw [z422,hqm]
    have hi' : i < rows.length:=by rw [z100] at h1;exact h1
    dsimp only
    rw [if_pos hi'];simp
  have qS:∀ i,qm (i+1)=upd (qm i) i (-2):=fun i=>by
    funext j
    by_cases h:j=i
    · subst h;rw [z27,hqm];dsimp only;rw [if_pos (by omega)]
    · rw [z47 _ _ h,hqm];dsimp only;split<;>split<;>first|rfl|omega
  clear hqm
  refine z64 (fun i:Nat=>([(0,lst 1 encL rows),(1,ints ini),(2,.fn (.func f) [] [.pt c1]),(7,.sref 0 0 rows.length),(21,.int rows.length),(22,.int i)],[.cells 1 ((fnL rows.length (qm i)).map enI)])) (fun i=>i≤rows.length) (fun i=>rows.length - i) 0 (y51 _) (by refine swR [0] [] rfl rfl ?_;(repeat' first|exact y83 _|refine z8 rfl (z79 rfl) ?_|constructor)<;>((refine z49 ?_;rw [q0];exact z310 _))) ?_
  intro i hi1
  by_cases hi2:i < rows.length
  · have g1:=z161 (qm i) hi2
    have l1:=z100 rows.length (qm i)
    have e1:=z141 (N:=rows.length) (u:=i) (qm i) (-2)
    rw [← qS] at e1
    repeat' ((first|(apply y81 ok;rfl)|(refine z13 (i:=i) rfl g1 ?_)|(apply y41;first|omega|(unfold inI;omega))|((apply z6)<;>intro _))<;>conv=>whnf)
    all_goals try (exfalso;omega)
    all_goals refine z26 (i+1) hi2 (by omega) (by refine swR [0] [] rfl rfl ?_;(repeat' first|exact y83 _|refine z61 rfl (z5 (fun _=>rfl)) ?_|constructor)<;>((refine z49 ?_;exact e1)))
  obtain rfl:i=rows.length:=by omega
  rw [qE]
  clear qE qS q0
  repeat' ((first|(apply y81 ok;rfl)|(apply y41;omega)|(((apply z9;omega));intro _)|((apply z6)<;>intro _))<;>conv=>whnf)
  all_goals try (exfalso;omega)
  refine y82 (y85 1 rfl) ?_
  have hrep:(List.replicate rows.length (-1:Int)).length=rows.length:=by simp
  have hrs:∀ w,(List.replicate rows.length (-1:Int)).set w (-1)=List.replicate rows.length (-1):=fun w=>by
    apply y72 (by simp)
    intro i h1 h2
    rw [List.getElem_set]
    split<;>simp
  have hS0:(frm rows.length ini (List.replicate rows.length (-1)))=frm rows.length (srS rows ini 0).1 (srS rows ini 0).2:=rfl
  generalize List.replicate rows.length (-1:Int)=P0 at *
  refine z64 (fun k:Nat=>([(0,lst 1 encL rows),(2,.fn (.func f) [] [.pt c1]),(7,.sref 0 0 rows.length),(9,.sref 1 0 (ini.take k).length),(29,ints ini),(30,.int ini.length),(31,.int k)],[.cells 1 ((frm rows.length (ini.take k) P0).map enI),.cells 1 ((ini.take k).map enI)])) (fun k=>k≤ini.length) (fun k=>ini.length - k) 0 (y51 _) (by refine swR [0,1] [] rfl rfl ?_;(repeat' first|exact y83 _|exact z37|exact z11 _|((refine z8 rfl ?_ ?_);(focus ((repeat' (first|exact z24|exact z5 (fun _=>rfl)));done)))|constructor)) ?_
  intro k hk
  by_cases hk2:k < ini.length
  · have gk:(ini.map enI)[k]?=some (enI ini[k]):=by rw [y49,y43 hk2];rfl
    have hv:=hi _ (y42 hk2)
    have et:ini.take (k+1)=ini.take k++[ini[k]]:=y48 hk2
    have htl:(ini.take k).length≤100000:=by rw [y46];omega
    generalize hQ' : ini.take (k+1)=Q' at *
    generalize hQ:ini.take k=Q at *
    generalize ini[k]=v at *
    obtain ⟨w,rfl⟩:∃ w:Nat,v=w:=⟨v.toNat,by omega⟩
    have hw:w < rows.length:=by omega
    have g1:=z420 Q P0 hw
    have l1:=z419 rows.length Q P0
    have e1:=z468 (Q:=Q) (u:=-1) hw hrep
    rw [hrs,← et] at e1
    subst et
    repeat' ((first|(apply y81 ok;rfl)|(refine z13 (i:=k) rfl gk ?_)|(refine z13 (i:=w) rfl g1 ?_)|(apply y41;first|omega|(unfold inI;omega)|((try dsimp only);simp only [y47,y46,y45,y44,y56,y57];omega)|exact ⟨rfl,z21 rfl z29⟩)|((apply z6)<;>intro _))<;>conv=>whnf)
    all_goals try (exfalso;omega)
    all_goals refine z26 (k+1) hk2 (by omega) ?_
    all_goals dsimp only
    all_goals rw [hQ']
    all_goals exact (by refine swR [0,3] [] rfl rfl ?_;(repeat' first|exact y83 _|(refine z50 ?_;((simp;done)))|((first|refine z33 rfl ?_ ?_|refine z61 rfl ?_ ?_);(focus ((repeat' (first|exact z5 (fun _=>rfl)|apply z22));done)))|(refine z76 ?_ ?_;(focus (omega)))|constructor)<;>((refine z49 ?_;exact e1)))
  obtain rfl:k=ini.length:=by omega
  rw [y54,hS0]
  repeat' ((first|(apply y81 ok;rfl)|(apply y41;omega)|((first|(with_reducible apply z9;omega)|(apply z9;omega));intro _)|((apply z6)<;>intro _))<;>conv=>whnf)
  all_goals try (exfalso;omega)
  refine z64 (fun i:Nat=>([(0,lst 1 encL rows),(2,.fn (.func f) [] [.pt c1]),(7,.sref 0 0 rows.length),(9,.sref 1 0 (srS rows ini i).1.length),(12,.int i)],[.cells 1 ((frm rows.length (srS rows ini i).1 (srS rows ini i).2).map enI),.cells 1 ((srS rows ini i).1.map enI)])) (fun i=>i≤rows.length∧∀ k (_:k < i) (h:k < (srS rows ini i).1.length),G ((srS rows ini i).1[k])=false) (fun i=>rows.length+1 - i) 0 ⟨y51 _,fun k h=>by omega⟩ (by refine swR [0,1] [] rfl rfl ?_;(repeat' first|exact y83 _|exact z11 _|refine z8 rfl (z5 (fun _=>rfl)) ?_|constructor)<;>(fail)) ?_
  rintro i ⟨hi1,hno⟩
  have hJ:=z325 hr hi hn i
  have hQl:=z617 hr hi hn i
  by_cases hi2:i < (srS rows ini i).1.length
  · have hx:=hJ.inn _ (y42 hi2)
    have cf:=hf _ hx.1 hx.2
    have gx:((srS rows ini i).1.map enI)[i]?=some (enI (srS rows ini i).1[i]):=by rw [y49,y43 hi2];rfl
    have hnx:srS rows ini (i+1)=visPs (srS rows ini i).1[i] (srS rows ini i) (rows.getD ((srS rows ini i).1[i]).toNat []):=by rw [srS,dif_pos hi2]
    have hfnd:=fun h=>z705 hr hi hn (G:=G) hi2 h (fun k hk=>hno k hk (by omega))
    have hpre:=z350 (srS rows ini i).1[i] (rows.getD ((srS rows ini i).1[i]).toNat []) (srS rows ini i)
    by_cases hG:G (srS rows ini i).1[i]=true
    · rw [hfnd hG,z858,y62]
      have hq0:∃ k,∃ h:k < (srS rows ini i).1.length,(srS rows ini i).1[k]=(srS rows ini i).1[i]∧k≤rows.length:=⟨i,hi2,rfl,hi1⟩
      rw [hG] at cf
      clear hfnd hnx hpre hno
      generalize hS:srS rows ini i=S at *
      obtain ⟨Q,P⟩:=S
      dsimp only at *
      have hi4:i < Q.length:=hi2
      generalize Q[i]=x at *
      repeat' ((first|(apply y81 ok;rfl)|(refine z13 (i:=i) rfl gx ?_)|(apply y41;omega)|((apply z6)<;>intro _)|(apply z4 (cf);rfl;rfl))<;>conv=>whnf)
      all_goals try (exfalso;omega)
      all_goals
        refine y82 (y85 1 rfl) ?_
        have hB1:=z1130 P rows.length x
        generalize hB:chn P rows.length x=B at *
        refine z64 (fun y:Nat×List Int×Int=>([(7,.sref 0 0 rows.length),(13,.int y.2.2),(14,.sref 1 0 y.2.1.length)],[.cells 1 ((frm rows.length Q P).map enI),.cells 1 (y.2.1.map enI)])) (fun y=>y.2.1.length+y.1≤rows.length+1∧((0≤y.2.2∧y.2.1++chn P (y.1 - 1) y.2.2=B∧1≤y.1∧∃ k,∃ h:k < Q.length,Q[k]=y.2.2∧k+1≤y.1)∨(y.2.2=-1∧y.2.1=B))) (fun y=>y.1+(if 0≤y.2.2 then 1 else 0)) (rows.length+1,[],x) ⟨by simp,.inl ⟨hx.1,by simpa using hB,by omega,by obtain ⟨k,h,h1,h2⟩:=hq0;exact ⟨k,h,h1,by omega⟩⟩⟩ (by refine swR [0,2] [] rfl rfl ?_;(repeat' first|exact y83 _|exact z37|exact z11 _|((refine z8 rfl ?_ ?_);(focus ((repeat' (first|exact z24|exact z5 (fun _=>rfl)));done)))|constructor)) ?_
        rintro ⟨fu,ac,u⟩ ⟨q1,q2⟩
        dsimp only at q1 q2 ⊢
        rcases q2 with ⟨q2,q3,q4,k,hk,q5,q6⟩|⟨rfl,rfl⟩
        · have huN:=hJ.inn u (q5 ▸ y42 hk)
          obtain ⟨w,rfl⟩:∃ w:Nat,u=w:=⟨u.toNat,by omega⟩
          have hw:w < rows.length:=by omega
          have gw:=z420 Q P hw
          rw [if_pos (q5 ▸ y42 hk)] at gw
          have lw:=z419 rows.length Q P
          have hp:=hJ.pre k hk
          rw [q5,y74] at hp
          dsimp only at hp
          obtain ⟨fu,rfl⟩:∃ m,fu=m+1:=⟨fu - 1,by omega⟩
          rw [Nat.add_sub_cancel] at q3
          have hnext:P.getD w 0=-1∧ac++[(w:Int)]=B∨(0≤P.getD w 0∧(ac++[(w:Int)])++chn P (fu - 1) (P.getD w 0)=B∧1≤fu∧∃ k,∃ h:k < Q.length,Q[k]=P.getD w 0∧k+1≤fu):=by
            rcases hp with hp|⟨j,hj,hjk,hp⟩
            · left
              refine ⟨hp,?_⟩
              rw [← q3]
              cases fu with
              | zero=>rfl
              | succ fu =>
                rw [chn,y74,if_neg (by omega)]
            · right
              have:=hJ.inn _ (y42 hj)
              refine ⟨by omega,?_,by omega,j,hj,hp.symm,by omega⟩
              obtain ⟨fu,rfl⟩:∃ m,fu=m+1:=⟨fu - 1,by omega⟩
              rw [chn,y74,if_pos (by omega)] at q3
              rw [← q3]
              simp
          have hvb : -1≤P.getD w 0∧P.getD w 0 < rows.length:=by
            rcases hnext with ⟨h,_⟩|⟨h,_,_,j,hj,hp2,_⟩
            · omega
            · have:=hJ.inn _ (y42 hj)
              omega
          clear hp
          generalize P.getD w 0=v at *
          repeat' ((first|(apply y81 ok;rfl)|(refine z13 (i:=w) rfl gw ?_)|(apply y41;first|omega|((try dsimp only);simp only [y47,y46,y45,y44,y56,y57];omega)|exact ⟨rfl,z21 rfl z29⟩))<;>conv=>whnf)
          all_goals refine z26 (fu,ac++[(w:Int)],v) ⟨by simp only [y45,List.length_singleton];omega,?_⟩ ?_ (by refine swR [0,3] [] rfl rfl ?_;(repeat' first|exact y83 _|exact z11 _|(refine z50 ?_;((simp;done)))|((first|refine z33 rfl ?_ ?_|refine z8 rfl ?_ ?_);(focus ((repeat' (first|exact z5 (fun _=>rfl)|apply z22));done)))|(refine z76 ?_ ?_;(focus (omega)))|constructor))
          all_goals dsimp only
          all_goals first|(rcases hnext with ⟨h1,h2⟩|h1<;>first|exact .inr ⟨h1,h2⟩|exact .inl h1)|(rw [if_pos (show (0:Int)≤w by omega)];split<;>omega)
        · have cr:=z579 ac (by omega) (by omega)
          have cc:=z347 (rvs ac) (by rw [z407];omega)
          have el:=z407 ac
          rw [← rvs_eq]
          generalize rvs ac=D at *
          rw [el] at cc ⊢
          repeat' ((first|(apply y81 ok;rfl)|((first|(apply z133 [1] [] cr;rfl;(focus ((repeat' first|exact z45|apply z55)<;>(refine z77 rfl ?_;((exact z5 fun _=>rfl))))))|(apply z133 [1] [] cc;rfl;(focus ((repeat' first|exact z45|apply z55)<;>(refine z77 rfl ?_;((exact z5 fun _=>rfl)))))));rfl;(focus ((repeat' first|exact z16|apply z15)<;>(refine z19 ?_;((exact z5 fun _=>rfl)))))))<;>conv=>whnf)
          all_goals (refine rsD [1] [] rfl ?_;(repeat' first|exact y83 _|exact z11 _|refine z8 rfl (z5 (fun _=>rfl)) ?_|constructor))
    · have hG:=(y69 _).mp hG
      rw [hG] at cf
      have hno2:∀ k (_:k < i+1) (h:k < (srS rows ini (i+1)).1.length),G ((srS rows ini (i+1)).1[k])=false:=by
        obtain ⟨t,ht⟩:=z616 (rows:=rows) (ini:=ini) (show i≤i+1 by omega)
        intro k hk h
        have hki:k < (srS rows ini i).1.length:=by omega
        have e:(srS rows ini (i+1)).1[k]=(srS rows ini i).1[k]:=by
          simp only [ht,List.getElem_append_left hki]
        rw [e]
        by_cases hk3:k < i
        · exact hno k hk3 hki
        · obtain rfl:k=i:=by omega
          exact hG
      have hile:i+1≤rows.length:=by omega
      have hJv:=fun l hl=>PJ.visPs (N:=rows.length) l hJ hi2 rfl hl
      clear hfnd hpre hno
      generalize hS' : srS rows ini (i+1)=S' at *
      generalize hS:srS rows ini i=S at *
      obtain ⟨Q,P⟩:=S
      dsimp only at *
      have hi4:i < Q.length:=hi2
      generalize hxx:Q[i]=x at *
      obtain ⟨u,rfl⟩:∃ u:Nat,x=u:=⟨x.toNat,by omega⟩
      rw [y74] at hnx
      have hu:u < rows.length:=by omega
      have gr:=z499 hu
      have hrow:=z198 hr (u:Int)
      rw [y74] at hrow
      have hrowl:(rows.getD u []).length≤1000000000:=by rw [z17 hu];exact hrl _ (y42 _)
      generalize rows.getD u []=row at *
      repeat' ((first|(apply y81 ok;rfl)|(refine z13 (i:=i) rfl gx ?_)|(refine z13 (i:=u) rfl gr ?_)|(apply y41;omega)|((apply z6)<;>intro _)|(apply z4 (cf);rfl;rfl))<;>conv=>whnf)
      all_goals try (exfalso;omega)
      all_goals
        refine z64 (fun j:Nat=>([(0,lst 1 encL rows),(2,.fn (.func f) [] [.pt c1]),(7,.sref 0 0 rows.length),(9,.sref 1 0 (visPs (u:Int) (Q,P) (row.take j)).1.length),(12,.int i),(76,ints row),(77,.int row.length),(78,.int j)],[.cells 1 ((frm rows.length (visPs (u:Int) (Q,P) (row.take j)).1 (visPs (u:Int) (Q,P) (row.take j)).2).map enI),.cells 1 ((visPs (u:Int) (Q,P) (row.take j)).1.map enI)])) (fun j=>j≤row.length) (fun j=>row.length - j) 0 (y51 _) (by refine swR [0,1] [] rfl rfl ?_;(repeat' first|exact y83 _|exact z11 _|refine z8 rfl (z5 (fun _=>rfl)) ?_|constructor)<;>(fail)) ?_
        intro j hj
        obtain ⟨hJj,hij,hxj⟩:=hJv (row.take j) (fun x hx=>hrow x (List.mem_of_mem_take hx))
        have hQjl:(visPs (u:Int) (Q,P) (row.take j)).1.length≤rows.length:=z146 _ _ hJj.nd hJj.inn
        have gxj:((visPs (u:Int) (Q,P) (row.take j)).1.map enI)[i]?=some (enI (u:Int)):=by
          rw [y49,y43 hij,hxj];rfl
        by_cases hj2:j < row.length
        · have gj:(row.map enI)[j]?=some (enI row[j]):=by rw [y49,y43 hj2];rfl
          have hv:=hrow _ (y42 hj2)
          have et:=z399 (u:=(u:Int)) (x:=(Q,P)) hj2
          have hge:=hJj.pre
          generalize hT' : visPs (u:Int) (Q,P) (row.take (j+1))=T' at *
          generalize hT:visPs (u:Int) (Q,P) (row.take j)=T at *
          generalize row[j]=v at *
          obtain ⟨w,rfl⟩:∃ w:Nat,v=w:=⟨v.toNat,by omega⟩
          have hw:w < rows.length:=by omega
          have gw:=z420 T.1 T.2 hw
          have lw:=z419 rows.length T.1 T.2
          have hTl:=hJj.len
          by_cases hm:(w:Int)∈T.1
          · rw [z351 hm] at et
            rw [if_pos hm] at gw
            have hwv : -1≤T.2.getD w 0:=by
              obtain ⟨k,hk,ek⟩:=List.mem_iff_getElem.1 hm
              have h1:=hge k hk
              rw [ek,y74] at h1
              rcases h1 with h1|⟨y,hy,_,h1⟩
              · omega
              · have:=hJj.inn _ (y42 hy);omega
            generalize T.2.getD w 0=pv at *
            repeat' ((first|(apply y81 ok;rfl)|(refine z13 (i:=j) rfl gj ?_)|(refine z13 (i:=w) rfl gw ?_)|(apply y41;first|omega|(unfold inI;omega))|(((apply z9;omega));intro _)|((apply z6)<;>intro _))<;>conv=>whnf)
            all_goals try (exfalso;omega)
            all_goals refine z26 (j+1) hj2 (by omega) ?_
            all_goals dsimp only
            all_goals rw [hT',et]
            all_goals exact (by refine swR [0,1] [] rfl rfl ?_;(repeat' first|exact y83 _|exact z11 _|refine z8 rfl (z5 (fun _=>rfl)) ?_|constructor))
          · rw [z352 hm,y74] at et
            rw [if_neg hm] at gw
            have e1:=z468 (Q:=T.1) (u:=(u:Int)) hw hTl
            repeat' ((first|(apply y81 ok;rfl)|(refine z13 (i:=j) rfl gj ?_)|(refine z13 (i:=w) rfl gw ?_)|(refine z13 (i:=i) rfl gxj ?_)|(apply y41;first|omega|(unfold inI;omega)|((try dsimp only);simp only [y47,y46,y45,y44,y56,y57];omega)|exact ⟨rfl,z21 rfl z29⟩)|((apply z6)<;>intro _))<;>conv=>whnf)
            all_goals try (exfalso;omega)
            all_goals refine z26 (j+1) hj2 (by omega) ?_
            all_goals dsimp only
            all_goals rw [hT',et]
            all_goals dsimp only
            all_goals exact (by refine swR [0,3] [] rfl rfl ?_;(repeat' first|exact y83 _|(refine z50 ?_;((simp;done)))|((first|refine z33 rfl ?_ ?_|refine z61 rfl ?_ ?_);(focus ((repeat' (first|exact z5 (fun _=>rfl)|apply z22));done)))|(refine z76 ?_ ?_;(focus (omega)))|constructor)<;>((refine z49 ?_;exact e1)))
        obtain rfl:j=row.length:=by omega
        rw [y54,← hnx] at *
        repeat' ((first|(apply y81 ok;rfl)|(apply y41;first|omega|(unfold inI;omega))|((first|(with_reducible apply z9;omega)|(apply z9;omega));intro _)|((apply z6)<;>intro _))<;>conv=>whnf)
        all_goals try (exfalso;omega)
        all_goals refine z26 (i+1) ⟨hile,by rw [hS'];exact hno2⟩ (by omega) ?_
        all_goals dsimp only
        all_goals rw [hS']
        all_goals exact (by refine swR [0,1] [] rfl rfl ?_;(repeat' first|exact y83 _|exact z11 _|refine z8 rfl (z5 (fun _=>rfl)) ?_|constructor))
  · rw [z881 (G:=G) (by omega) hi1 (fun k hk=>hno k (by omega) hk)]
    repeat' ((first|(apply y81 ok;rfl)|(apply y41;omega)|(((apply z9;omega));intro _)|((apply z6)<;>intro _))<;>conv=>whnf)
    all_goals try (exfalso;omega)
    all_goals (refine y86 1 ?_;refine rsD [2] [] rfl ?_;(repeat' first|exact z37|refine z8 rfl (z24) ?_|constructor))
set_option maxHeartbeats 12800000 in
theorem z623 (rows : List (List Int)) (ini : List Int) (hr : ∀ r ∈ rows, InN rows.length r) (hi : InN rows.length ini) (hn : ini.Nodup) (hN : rows.length ≤ 100000) (hrl : ∀ r ∈ rows, r.length ≤ 1000000000) (G : Int → Bool) (f : FuncId) (c1 c2 : List AC) (hf : ∀ x : Int, 0 ≤ x → x < rows.length → CallsA Tryz.prog f (.int x :: [.pt c1, .pt c2]) [] (.bool (G x)) []) :
    CallsA Tryz.prog 176 [lst 1 encL rows,ints ini,.fn (.func f) [] [.pt c1,.pt c2]] [] (.sref 0 0 (shL rows ini G).length) [.cells 1 ((shL rows ini G).map enI)]:=by
  have hil:ini.length≤100000:=by have:=z146 rows.length ini hn hi;omega
  refine z7 z14 Tryz.func176 rfl rfl 99 Tryz.ntmps176 (by simp) ?_
  repeat' ((first|(apply y81 ok;rfl)|(apply y41;(dsimp only;omega)))<;>conv=>whnf)
  obtain ⟨qm,hqm⟩:∃ qm:Nat→Nat→Int,qm=fun i j=>if j < i then -2 else 0:=⟨_,rfl⟩
  have q0:qm 0=fun _=>0:=by rw [hqm];rfl
  have qE:(fnL rows.length (qm rows.length)).map enI=(frm rows.length [] (List.replicate rows.length (-1))).map enI:=by
    rw [z1106]
    congr 1
    apply y72 (by simp [fnL])
    intro i h1 h2
    rw [z422,hqm]
    have hi' : i < rows.length:=by rw [z100] at h1;exact h1
    dsimp only
    rw [if_pos hi'];simp
  have qS:∀ i,qm (i+1)=upd (qm i) i (-2):=fun i=>by
    funext j
    by_cases h:j=i
    · subst h;rw [z27,hqm];dsimp only;rw [if_pos (by omega)]
    · rw [z47 _ _ h,hqm];dsimp only;split<;>split<;>first|rfl|omega
  clear hqm
  refine z64 (fun i:Nat=>([(0,lst 1 encL rows),(1,ints ini),(2,.fn (.func f) [] [.pt c1,.pt c2]),(7,.sref 0 0 rows.length),(21,.int rows.length),(22,.int i)],[.cells 1 ((fnL rows.length (qm i)).map enI)])) (fun i=>i≤rows.length) (fun i=>rows.length - i) 0 (y51 _) (by refine swR [0] [] rfl rfl ?_;(repeat' first|exact y83 _|refine z8 rfl (z79 rfl) ?_|constructor)<;>((refine z49 ?_;rw [q0];exact z310 _))) ?_
  intro i hi1
  by_cases hi2:i < rows.length
  · have g1:=z161 (qm i) hi2
    have l1:=z100 rows.length (qm i)
    have e1:=z141 (N:=rows.length) (u:=i) (qm i) (-2)
    rw [← qS] at e1
    repeat' ((first|(apply y81 ok;rfl)|(refine z13 (i:=i) rfl g1 ?_)|(apply y41;first|omega|(unfold inI;omega))|((apply z6)<;>intro _))<;>conv=>whnf)
    all_goals try (exfalso;omega)
    all_goals refine z26 (i+1) hi2 (by omega) (by refine swR [0] [] rfl rfl ?_;(repeat' first|exact y83 _|refine z61 rfl (z5 (fun _=>rfl)) ?_|constructor)<;>((refine z49 ?_;exact e1)))
  obtain rfl:i=rows.length:=by omega
  rw [qE]
  clear qE qS q0
  repeat' ((first|(apply y81 ok;rfl)|(apply y41;omega)|(((apply z9;omega));intro _)|((apply z6)<;>intro _))<;>conv=>whnf)
  all_goals try (exfalso;omega)
  refine y82 (y85 1 rfl) ?_
  have hrep:(List.replicate rows.length (-1:Int)).length=rows.length:=by simp
  have hrs:∀ w,(List.replicate rows.length (-1:Int)).set w (-1)=List.replicate rows.length (-1):=fun w=>by
    apply y72 (by simp)
    intro i h1 h2
    rw [List.getElem_set]
    split<;>simp
  have hS0:(frm rows.length ini (List.replicate rows.length (-1)))=frm rows.length (srS rows ini 0).1 (srS rows ini 0).2:=rfl
  generalize List.replicate rows.length (-1:Int)=P0 at *
  refine z64 (fun k:Nat=>([(0,lst 1 encL rows),(2,.fn (.func f) [] [.pt c1,.pt c2]),(7,.sref 0 0 rows.length),(9,.sref 1 0 (ini.take k).length),(29,ints ini),(30,.int ini.length),(31,.int k)],[.cells 1 ((frm rows.length (ini.take k) P0).map enI),.cells 1 ((ini.take k).map enI)])) (fun k=>k≤ini.length) (fun k=>ini.length - k) 0 (y51 _) (by refine swR [0,1] [] rfl rfl ?_;(repeat' first|exact y83 _|exact z37|exact z11 _|((refine z8 rfl ?_ ?_);(focus ((repeat' (first|exact z24|exact z5 (fun _=>rfl)));done)))|constructor)) ?_
  intro k hk
  by_cases hk2:k < ini.length
  · have gk:(ini.map enI)[k]?=some (enI ini[k]):=by rw [y49,y43 hk2];rfl
    have hv:=hi _ (y42 hk2)
    have et:ini.take (k+1)=ini.take k++[ini[k]]:=y48 hk2
    have htl:(ini.take k).length≤100000:=by rw [y46];omega
    generalize hQ' : ini.take (k+1)=Q' at *
    generalize hQ:ini.take k=Q at *
    generalize ini[k]=v at *
    obtain ⟨w,rfl⟩:∃ w:Nat,v=w:=⟨v.toNat,by omega⟩
    have hw:w < rows.length:=by omega
    have g1:=z420 Q P0 hw
    have l1:=z419 rows.length Q P0
    have e1:=z468 (Q:=Q) (u:=-1) hw hrep
    rw [hrs,← et] at e1
    subst et
    repeat' ((first|(apply y81 ok;rfl)|(refine z13 (i:=k) rfl gk ?_)|(refine z13 (i:=w) rfl g1 ?_)|(apply y41;first|omega|(unfold inI;omega)|((try dsimp only);simp only [y47,y46,y45,y44,y56,y57];omega)|exact ⟨rfl,z21 rfl z29⟩)|((apply z6)<;>intro _))<;>conv=>whnf)
    all_goals try (exfalso;omega)
    all_goals refine z26 (k+1) hk2 (by omega) ?_
    all_goals dsimp only
    all_goals rw [hQ']
    all_goals exact (by refine swR [0,3] [] rfl rfl ?_;(repeat' first|exact y83 _|(refine z50 ?_;((simp;done)))|((first|refine z33 rfl ?_ ?_|refine z61 rfl ?_ ?_);(focus ((repeat' (first|exact z5 (fun _=>rfl)|apply z22));done)))|(refine z76 ?_ ?_;(focus (omega)))|constructor)<;>((refine z49 ?_;exact e1)))
  obtain rfl:k=ini.length:=by omega
  rw [y54,hS0]
  repeat' ((first|(apply y81 ok;rfl)|(apply y41;omega)|((first|(with_reducible apply z9;omega)|(apply z9;omega));intro _)|((apply z6)<;>intro _))<;>conv=>whnf)
  all_goals try (exfalso;omega)
  refine z64 (fun i:Nat=>([(0,lst 1 encL rows),(2,.fn (.func f) [] [.pt c1,.pt c2]),(7,.sref 0 0 rows.length),(9,.sref 1 0 (srS rows ini i).1.length),(12,.int i)],[.cells 1 ((frm rows.length (srS rows ini i).1 (srS rows ini i).2).map enI),.cells 1 ((srS rows ini i).1.map enI)])) (fun i=>i≤rows.length∧∀ k (_:k < i) (h:k < (srS rows ini i).1.length),G ((srS rows ini i).1[k])=false) (fun i=>rows.length+1 - i) 0 ⟨y51 _,fun k h=>by omega⟩ (by refine swR [0,1] [] rfl rfl ?_;(repeat' first|exact y83 _|exact z11 _|refine z8 rfl (z5 (fun _=>rfl)) ?_|constructor)<;>(fail)) ?_
  rintro i ⟨hi1,hno⟩
  have hJ:=z325 hr hi hn i
  have hQl:=z617 hr hi hn i
  by_cases hi2:i < (srS rows ini i).1.length
  · have hx:=hJ.inn _ (y42 hi2)
    have cf:=hf _ hx.1 hx.2
    have gx:((srS rows ini i).1.map enI)[i]?=some (enI (srS rows ini i).1[i]):=by rw [y49,y43 hi2];rfl
    have hnx:srS rows ini (i+1)=visPs (srS rows ini i).1[i] (srS rows ini i) (rows.getD ((srS rows ini i).1[i]).toNat []):=by rw [srS,dif_pos hi2]
    have hfnd:=fun h=>z705 hr hi hn (G:=G) hi2 h (fun k hk=>hno k hk (by omega))
    have hpre:=z350 (srS rows ini i).1[i] (rows.getD ((srS rows ini i).1[i]).toNat []) (srS rows ini i)
    by_cases hG:G (srS rows ini i).1[i]=true
    · rw [hfnd hG,z858,y62]
      have hq0:∃ k,∃ h:k < (srS rows ini i).1.length,(srS rows ini i).1[k]=(srS rows ini i).1[i]∧k≤rows.length:=⟨i,hi2,rfl,hi1⟩
      rw [hG] at cf
      clear hfnd hnx hpre hno
      generalize hS:srS rows ini i=S at *
      obtain ⟨Q,P⟩:=S
      dsimp only at *
      have hi4:i < Q.length:=hi2
      generalize Q[i]=x at *
      repeat' ((first|(apply y81 ok;rfl)|(refine z13 (i:=i) rfl gx ?_)|(apply y41;omega)|((apply z6)<;>intro _)|(apply z4 (cf);rfl;rfl))<;>conv=>whnf)
      all_goals try (exfalso;omega)
      all_goals
        refine y82 (y85 1 rfl) ?_
        have hB1:=z1130 P rows.length x
        generalize hB:chn P rows.length x=B at *
        refine z64 (fun y:Nat×List Int×Int=>([(7,.sref 0 0 rows.length),(13,.int y.2.2),(14,.sref 1 0 y.2.1.length)],[.cells 1 ((frm rows.length Q P).map enI),.cells 1 (y.2.1.map enI)])) (fun y=>y.2.1.length+y.1≤rows.length+1∧((0≤y.2.2∧y.2.1++chn P (y.1 - 1) y.2.2=B∧1≤y.1∧∃ k,∃ h:k < Q.length,Q[k]=y.2.2∧k+1≤y.1)∨(y.2.2=-1∧y.2.1=B))) (fun y=>y.1+(if 0≤y.2.2 then 1 else 0)) (rows.length+1,[],x) ⟨by simp,.inl ⟨hx.1,by simpa using hB,by omega,by obtain ⟨k,h,h1,h2⟩:=hq0;exact ⟨k,h,h1,by omega⟩⟩⟩ (by refine swR [0,2] [] rfl rfl ?_;(repeat' first|exact y83 _|exact z37|exact z11 _|((refine z8 rfl ?_ ?_);(focus ((repeat' (first|exact z24|exact z5 (fun _=>rfl)));done)))|constructor)) ?_
        rintro ⟨fu,ac,u⟩ ⟨q1,q2⟩
        dsimp only at q1 q2 ⊢
        rcases q2 with ⟨q2,q3,q4,k,hk,q5,q6⟩|⟨rfl,rfl⟩
        · have huN:=hJ.inn u (q5 ▸ y42 hk)
          obtain ⟨w,rfl⟩:∃ w:Nat,u=w:=⟨u.toNat,by omega⟩
          have hw:w < rows.length:=by omega
          have gw:=z420 Q P hw
          rw [if_pos (q5 ▸ y42 hk)] at gw
          have lw:=z419 rows.length Q P
          have hp:=hJ.pre k hk
          rw [q5,y74] at hp
          dsimp only at hp
          obtain ⟨fu,rfl⟩:∃ m,fu=m+1:=⟨fu - 1,by omega⟩
          rw [Nat.add_sub_cancel] at q3
          have hnext:P.getD w 0=-1∧ac++[(w:Int)]=B∨(0≤P.getD w 0∧(ac++[(w:Int)])++chn P (fu - 1) (P.getD w 0)=B∧1≤fu∧∃ k,∃ h:k < Q.length,Q[k]=P.getD w 0∧k+1≤fu):=by
            rcases hp with hp|⟨j,hj,hjk,hp⟩
            · left
              refine ⟨hp,?_⟩
              rw [← q3]
              cases fu with
              | zero=>rfl
              | succ fu =>
                rw [chn,y74,if_neg (by omega)]
            · right
              have:=hJ.inn _ (y42 hj)
              refine ⟨by omega,?_,by omega,j,hj,hp.symm,by omega⟩
              obtain ⟨fu,rfl⟩:∃ m,fu=m+1:=⟨fu - 1,by omega⟩
              rw [chn,y74,if_pos (by omega)] at q3
              rw [← q3]
              simp
          have hvb : -1≤P.getD w 0∧P.getD w 0 < rows.length:=by
            rcases hnext with ⟨h,_⟩|⟨h,_,_,j,hj,hp2,_⟩
            · omega
            · have:=hJ.inn _ (y42 hj)
              omega
          clear hp
          generalize P.getD w 0=v at *
          repeat' ((first|(apply y81 ok;rfl)|(refine z13 (i:=w) rfl gw ?_)|(apply y41;first|omega|((try dsimp only);simp only [y47,y46,y45,y44,y56,y57];omega)|exact ⟨rfl,z21 rfl z29⟩))<;>conv=>whnf)
          all_goals refine z26 (fu,ac++[(w:Int)],v) ⟨by simp only [y45,List.length_singleton];omega,?_⟩ ?_ (by refine swR [0,3] [] rfl rfl ?_;(repeat' first|exact y83 _|exact z11 _|(refine z50 ?_;((simp;done)))|((first|refine z33 rfl ?_ ?_|refine z8 rfl ?_ ?_);(focus ((repeat' (first|exact z5 (fun _=>rfl)|apply z22));done)))|(refine z76 ?_ ?_;(focus (omega)))|constructor))
          all_goals dsimp only
          all_goals first|(rcases hnext with ⟨h1,h2⟩|h1<;>first|exact .inr ⟨h1,h2⟩|exact .inl h1)|(rw [if_pos (show (0:Int)≤w by omega)];split<;>omega)
        · have cr:=z579 ac (by omega) (by omega)
          have cc:=z347 (rvs ac) (by rw [z407];omega)
          have el:=z407 ac
          rw [← rvs_eq]
          generalize rvs ac=D at *
          rw [el] at cc ⊢
          repeat' ((first|(apply y81 ok;rfl)|((first|(apply z133 [1] [] cr;rfl;(focus ((repeat' first|exact z45|apply z55)<;>(refine z77 rfl ?_;((exact z5 fun _=>rfl))))))|(apply z133 [1] [] cc;rfl;(focus ((repeat' first|exact z45|apply z55)<;>(refine z77 rfl ?_;((exact z5 fun _=>rfl)))))));rfl;(focus ((repeat' first|exact z16|apply z15)<;>(refine z19 ?_;((exact z5 fun _=>rfl)))))))<;>conv=>whnf)
          all_goals (refine rsD [1] [] rfl ?_;(repeat' first|exact y83 _|exact z11 _|refine z8 rfl (z5 (fun _=>rfl)) ?_|constructor))
    · have hG:=(y69 _).mp hG
      rw [hG] at cf
      have hno2:∀ k (_:k < i+1) (h:k < (srS rows ini (i+1)).1.length),G ((srS rows ini (i+1)).1[k])=false:=by
        obtain ⟨t,ht⟩:=z616 (rows:=rows) (ini:=ini) (show i≤i+1 by omega)
        intro k hk h
        have hki:k < (srS rows ini i).1.length:=by omega
        have e:(srS rows ini (i+1)).1[k]=(srS rows ini i).1[k]:=by
          simp only [ht,List.getElem_append_left hki]
        rw [e]
        by_cases hk3:k < i
        · exact hno k hk3 hki
        · obtain rfl:k=i:=by omega
          exact hG
      have hile:i+1≤rows.length:=by omega
      have hJv:=fun l hl=>PJ.visPs (N:=rows.length) l hJ hi2 rfl hl
      clear hfnd hpre hno
      generalize hS' : srS rows ini (i+1)=S' at *
      generalize hS:srS rows ini i=S at *
      obtain ⟨Q,P⟩:=S
      dsimp only at *
      have hi4:i < Q.length:=hi2
      generalize hxx:Q[i]=x at *
      obtain ⟨u,rfl⟩:∃ u:Nat,x=u:=⟨x.toNat,by omega⟩
      rw [y74] at hnx
      have hu:u < rows.length:=by omega
      have gr:=z499 hu
      have hrow:=z198 hr (u:Int)
      rw [y74] at hrow
      have hrowl:(rows.getD u []).length≤1000000000:=by rw [z17 hu];exact hrl _ (y42 _)
      generalize rows.getD u []=row at *
      repeat' ((first|(apply y81 ok;rfl)|(refine z13 (i:=i) rfl gx ?_)|(refine z13 (i:=u) rfl gr ?_)|(apply y41;omega)|((apply z6)<;>intro _)|(apply z4 (cf);rfl;rfl))<;>conv=>whnf)
      all_goals try (exfalso;omega)
      all_goals
        refine z64 (fun j:Nat=>([(0,lst 1 encL rows),(2,.fn (.func f) [] [.pt c1,.pt c2]),(7,.sref 0 0 rows.length),(9,.sref 1 0 (visPs (u:Int) (Q,P) (row.take j)).1.length),(12,.int i),(76,ints row),(77,.int row.length),(78,.int j)],[.cells 1 ((frm rows.length (visPs (u:Int) (Q,P) (row.take j)).1 (visPs (u:Int) (Q,P) (row.take j)).2).map enI),.cells 1 ((visPs (u:Int) (Q,P) (row.take j)).1.map enI)])) (fun j=>j≤row.length) (fun j=>row.length - j) 0 (y51 _) (by refine swR [0,1] [] rfl rfl ?_;(repeat' first|exact y83 _|exact z11 _|refine z8 rfl (z5 (fun _=>rfl)) ?_|constructor)<;>(fail)) ?_
        intro j hj
        obtain ⟨hJj,hij,hxj⟩:=hJv (row.take j) (fun x hx=>hrow x (List.mem_of_mem_take hx))
        have hQjl:(visPs (u:Int) (Q,P) (row.take j)).1.length≤rows.length:=z146 _ _ hJj.nd hJj.inn
        have gxj:((visPs (u:Int) (Q,P) (row.take j)).1.map enI)[i]?=some (enI (u:Int)):=by
          rw [y49,y43 hij,hxj];rfl
        by_cases hj2:j < row.length
        · have gj:(row.map enI)[j]?=some (enI row[j]):=by rw [y49,y43 hj2];rfl
          have hv:=hrow _ (y42 hj2)
          have et:=z399 (u:=(u:Int)) (x:=(Q,P)) hj2
          have hge:=hJj.pre
          generalize hT' : visPs (u:Int) (Q,P) (row.take (j+1))=T' at *
          generalize hT:visPs (u:Int) (Q,P) (row.take j)=T at *
          generalize row[j]=v at *
          obtain ⟨w,rfl⟩:∃ w:Nat,v=w:=⟨v.toNat,by omega⟩
          have hw:w < rows.length:=by omega
          have gw:=z420 T.1 T.2 hw
          have lw:=z419 rows.length T.1 T.2
          have hTl:=hJj.len
          by_cases hm:(w:Int)∈T.1
          · rw [z351 hm] at et
            rw [if_pos hm] at gw
            have hwv : -1≤T.2.getD w 0:=by
              obtain ⟨k,hk,ek⟩:=List.mem_iff_getElem.1 hm
              have h1:=hge k hk
              rw [ek,y74] at h1
              rcases h1 with h1|⟨y,hy,_,h1⟩
              · omega
              · have:=hJj.inn _ (y42 hy);omega
            generalize T.2.getD w 0=pv at *
            repeat' ((first|(apply y81 ok;rfl)|(refine z13 (i:=j) rfl gj ?_)|(refine z13 (i:=w) rfl gw ?_)|(apply y41;first|omega|(unfold inI;omega))|(((apply z9;omega));intro _)|((apply z6)<;>intro _))<;>conv=>whnf)
            all_goals try (exfalso;omega)
            all_goals refine z26 (j+1) hj2 (by omega) ?_
            all_goals dsimp only
            all_goals rw [hT',et]
            all_goals exact (by refine swR [0,1] [] rfl rfl ?_;(repeat' first|exact y83 _|exact z11 _|refine z8 rfl (z5 (fun _=>rfl)) ?_|constructor))
          · rw [z352 hm,y74] at et
            rw [if_neg hm] at gw
            have e1:=z468 (Q:=T.1) (u:=(u:Int)) hw hTl
            repeat' ((first|(apply y81 ok;rfl)|(refine z13 (i:=j) rfl gj ?_)|(refine z13 (i:=w) rfl gw ?_)|(refine z13 (i:=i) rfl gxj ?_)|(apply y41;first|omega|(unfold inI;omega)|((try dsimp only);simp only [y47,y46,y45,y44,y56,y57];omega)|exact ⟨rfl,z21 rfl z29⟩)|((apply z6)<;>intro _))<;>conv=>whnf)
            all_goals try (exfalso;omega)
            all_goals refine z26 (j+1) hj2 (by omega) ?_
            all_goals dsimp only
            all_goals rw [hT',et]
            all_goals dsimp only
            all_goals exact (by refine swR [0,3] [] rfl rfl ?_;(repeat' first|exact y83 _|(refine z50 ?_;((simp;done)))|((first|refine z33 rfl ?_ ?_|refine z61 rfl ?_ ?_);(focus ((repeat' (first|exact z5 (fun _=>rfl)|apply z22));done)))|(refine z76 ?_ ?_;(focus (omega)))|constructor)<;>((refine z49 ?_;exact e1)))
        obtain rfl:j=row.length:=by omega
        rw [y54,← hnx] at *
        repeat' ((first|(apply y81 ok;rfl)|(apply y41;first|omega|(unfold inI;omega))|((first|(with_reducible apply z9;omega)|(apply z9;omega));intro _)|((apply z6)<;>intro _))<;>conv=>whnf)
        all_goals try (exfalso;omega)
        all_goals refine z26 (i+1) ⟨hile,by rw [hS'];exact hno2⟩ (by omega) ?_
        all_goals dsimp only
        all_goals rw [hS']
        all_goals exact (by refine swR [0,1] [] rfl rfl ?_;(repeat' first|exact y83 _|exact z11 _|refine z8 rfl (z5 (fun _=>rfl)) ?_|constructor))
  · rw [z881 (G:=G) (by omega) hi1 (fun k hk=>hno k (by omega) hk)]
    repeat' ((first|(apply y81 ok;rfl)|(apply y41;omega)|(((apply z9;omega));intro _)|((apply z6)<;>intro _))<;>conv=>whnf)
    all_goals try (exfalso;omega)
    all_goals (refine y86 1 ?_;refine rsD [2] [] rfl ?_;(repeat' first|exact z37|refine z8 rfl (z24) ?_|constructor))
theorem z1082 (v x:Int):CallsA Tryz.prog 177 [.int x,.pt [.int v]] [] (.bool (decide (x=v))) []:=by
 refine z7 z14 Tryz.func177 rfl rfl 7 Tryz.ntmps177 (by simp) ?_
 repeat' (((apply y81 ok;rfl))<;>conv=>whnf)
 all_goals (refine rsD [] [] rfl ?_;(repeat' first|exact y83 _|constructor))
theorem z999 (rows:List (List Int)) (hrl:∀ r∈rows,r.length≤1000000000) (v x:Int) (hx:0≤x∧x < rows.length):CallsA Tryz.prog 247 [.int x,.pt [.int v],.pt [lst 1 encL rows]] [] (.bool (decide (x≠v) && decide (v∈rows.getD x.toNat []))) []:=by
 obtain ⟨u,rfl⟩:∃ u:Nat,x=u:=⟨x.toNat,by omega⟩
 rw [y74]
 have hu:u < rows.length:=by omega
 have gr:=z499 hu
 have hrow:(rows.getD u []).length≤1000000000:=by rw [z17 hu];exact hrl _ (y42 _)
 have cct:=z172 (rows.getD u []) (by unfold maxLen;omega) v
 generalize rows.getD u []=row at *
 refine z7 z14 Tryz.func247 rfl rfl 16 Tryz.ntmps247 (by simp) ?_
 by_cases h:(u:Int)=v
 ·rw [y79 (by simp [h]),Bool.false_and]
  repeat' ((first|(apply y81 ok;rfl)|(apply z31;kernel_rfl)|(refine z13 (i:=u) rfl gr ?_)|(apply y41;omega)|((apply z35)<;>intro _)|(apply z4 (cct);rfl;rfl))<;>conv=>whnf)
  all_goals try (exfalso;omega)
  all_goals (refine rsD [] [] rfl ?_;(repeat' first|exact y83 _|constructor))
 ·rw [y78 h,Bool.true_and]
  repeat' ((first|(apply y81 ok;rfl)|(apply z31;kernel_rfl)|(refine z13 (i:=u) rfl gr ?_)|(apply y41;omega)|((apply z35)<;>intro _)|(apply z4 (cct);rfl;rfl))<;>conv=>whnf)
  all_goals try (exfalso;omega)
  all_goals (refine rsD [] [] rfl ?_;(repeat' first|exact y83 _|constructor))
set_option maxHeartbeats 3200000 in
theorem z998 (rows : List (List Int)) (v : Int) (hr : ∀ r ∈ rows, InN rows.length r) (hv : 0 ≤ v ∧ v < rows.length) (hN : rows.length ≤ 100000) (hrl : ∀ r ∈ rows, r.length ≤ 1000000000) :
    CallsA Tryz.prog 178 [lst 1 encL rows,.int v] [] (.sref 0 0 (aroL rows v).length) [.cells 1 ((aroL rows v).map enI)]:=by
  obtain ⟨u,rfl⟩:∃ u:Nat,v=u:=⟨v.toNat,by omega⟩
  have hu:u < rows.length:=by omega
  have gr:=z499 hu
  have hrow:(rows.getD u []).length≤1000000000:=by rw [z17 hu];exact hrl _ (y42 _)
  have cct:=z172 (rows.getD u []) (by unfold maxLen;omega) (u:Int)
  have csh:=z623 rows [(u:Int)] hr (z330 hv) (by simp) hN hrl (fun n=>decide (n≠(u:Int)) && decide ((u:Int)∈rows.getD n.toNat [])) 247 [.int (u:Int)] [lst 1 encL rows] (fun x h0 h1=>z999 rows hrl u x ⟨h0,h1⟩)
  unfold aroL
  rw [y74]
  by_cases h:(u:Int)∈rows.getD u []
  · rw [if_pos h]
    rw [y78 h] at cct
    generalize rows.getD u []=row at *
    refine z7 z14 Tryz.func178 rfl rfl 18 Tryz.ntmps178 (by simp) ?_
    repeat' ((first|(apply y81 ok;rfl)|(apply z31;kernel_rfl)|(refine z13 (i:=u) rfl gr ?_)|(apply y41;omega)|(apply z4 (cct);rfl;rfl))<;>conv=>whnf)
    all_goals (refine rsD [2] [] rfl ?_;(repeat' first|exact y83 _|apply y84|constructor))
  · rw [if_neg h]
    rw [y79 h] at cct
    generalize shL rows [(u:Int)] (fun n=>decide (n≠(u:Int)) && decide ((u:Int)∈rows.getD n.toNat []))=D at *
    generalize rows.getD u []=row at *
    refine z7 z14 Tryz.func178 rfl rfl 18 Tryz.ntmps178 (by simp) ?_
    repeat' ((first|(apply y81 ok;rfl)|(apply z31;kernel_rfl)|(refine z13 (i:=u) rfl gr ?_)|(apply y41;omega)|(apply z4 (cct);rfl;rfl)|(apply z95 [] [0,1,2] [3] csh;(focus ((repeat' first|exact z72|apply z48)<;>rfl));rfl;rfl;(focus ((repeat' first|exact z16|apply z15)<;>(refine z19 ?_;((exact z5 fun _=>rfl)))));((refine .inr ⟨rfl,?_⟩;repeat' first|exact True.intro|apply y41|exact z166 (fun _=>rfl) _))))<;>conv=>whnf)
    all_goals (refine rsD [3] [] rfl ?_;(repeat' first|exact y83 _|exact z11 _|refine z8 rfl (z5 (fun _=>rfl)) ?_|constructor))
noncomputable def lasR (rows:List (List Int)) (ini:List Int) (G:Int→Bool):List Int×List Int:=(lasL rows ini G).getD ([],[])
set_option maxHeartbeats 6400000 in
theorem z1081 (rows : List (List Int)) (ini : List Int) (hr : ∀ r ∈ rows, InN rows.length r) (hi : InN rows.length ini) (hn : ini.Nodup) (hN : rows.length ≤ 100000) (hrl : ∀ r ∈ rows, r.length ≤ 1000000000) (G : Int → Bool) (f : FuncId) (c1 c2 : List AC) (hf : ∀ x : Int, 0 ≤ x → x < rows.length → CallsA Tryz.prog f [.int x, .pt c1, .pt c2] [] (.bool (G x)) []) :
    CallsA Tryz.prog 95 [lst 1 encL rows,ints ini,.fn (.func f) [] [.pt c1,.pt c2]] [] (.tup [.sref 0 0 ((lasR rows ini G).1.take ((lasR rows ini G).1.length - 1)).length,.sref 1 0 (lasR rows ini G).2.length,.bool (lasL rows ini G).isSome]) [.cells 1 (((lasR rows ini G).1.take ((lasR rows ini G).1.length - 1)).map enI),.cells 1 ((lasR rows ini G).2.map enI)]:=by
  have hil:ini.length≤100000:=by have:=z146 rows.length ini hn hi;omega
  have cC:=z983 rows hr hN hrl
  have cO:=z715 rows ini hr hi hN hrl (by omega)
  have hQi:=z395 hr hi rows.length
  have hQl:=z299 hr hi rows.length
  have hcl:=cycB_len rows
  have hcg:∀ i,i < rows.length→((cycB rows).map enB)[i]?=some (enB (cycD rows i)):=fun i h=>z1111 (cycD rows) h
  have hto:=fun v hv=>shL_to (rows:=rows) (ini:=ini) hn (v:=v) hv
  have hrR:∀ k,k < (bfsL rows ini).length→(G ((bfsL rows ini).getD k 0) && cycD rows ((bfsL rows ini).getD k 0).toNat)=true→(∀ j,j < k→(G ((bfsL rows ini).getD j 0) && cycD rows ((bfsL rows ini).getD j 0).toNat)=false)→lasL rows ini G=some (bkw (srP rows ini) rows.length ((bfsL rows ini).getD k 0) [],cycL rows ((bfsL rows ini).getD k 0)):=fun k hk h1 h2=>by
    unfold lasL
    have:(bfsL rows ini).find? (fun v=>G v && cycD rows v.toNat)=some ((bfsL rows ini).getD k 0):=by
      rw [z17 hk] at h1 ⊢
      rw [List.find?_eq_some_iff_getElem]
      refine ⟨h1,k,hk,rfl,fun j hj=>?_⟩
      have:=h2 j hj
      rw [z17 (by omega)] at this
      rw [this];rfl
    rw [this];rfl
  have hrN:(∀ j,j < (bfsL rows ini).length→(G ((bfsL rows ini).getD j 0) && cycD rows ((bfsL rows ini).getD j 0).toNat)=false)→lasL rows ini G=none:=fun h=>by
    unfold lasL
    have:(bfsL rows ini).find? (fun v=>G v && cycD rows v.toNat)=none:=by
      rw [List.find?_eq_none]
      intro x hx
      obtain ⟨j,hj,rfl⟩:=List.mem_iff_getElem.1 hx
      have:=h j hj
      rw [z17 hj] at this
      rw [this];simp
    rw [this];rfl
  unfold lasR
  change (bfsL rows ini).length≤rows.length at hQl
  change InN rows.length (bfsL rows ini) at hQi
  generalize lasL rows ini G=L at *
  generalize cycB rows=C at *
  generalize bfsL rows ini=Q at *
  refine z7 z14 Tryz.func95 rfl rfl 45 Tryz.ntmps95 (by simp) ?_
  repeat' ((first|(apply y81 ok;rfl)|((first|(apply z10 [] [0] cC;rfl;rfl)|(apply z10 [] [1] cO;rfl;rfl));rfl;(focus ((repeat' first|exact z16|apply z15)<;>(refine z19 ?_;((exact z5 fun _=>rfl)))))))<;>conv=>whnf)
  refine z64 (fun i:Nat=>([(0,lst 1 encL rows),(1,ints ini),(2,.fn (.func f) [] [.pt c1,.pt c2]),(9,.sref 0 0 rows.length),(17,.sref 1 0 Q.length),(18,.int Q.length),(19,.int i)],[.cells 1 (C.map enB),.cells 1 (Q.map enI)])) (fun i=>i≤Q.length∧∀ j,j < i→(G (Q.getD j 0) && cycD rows (Q.getD j 0).toNat)=false) (fun i=>Q.length - i) 0 ⟨y51 _,fun j hj=>by omega⟩ (by refine swR [0,1] [] rfl rfl ?_;(repeat' first|exact y83 _|exact z11 _|refine z8 rfl (z5 (fun _=>rfl)) ?_|constructor)) ?_
  rintro i ⟨hi1,hno⟩
  by_cases hi2:i < Q.length
  · have hm:=z381 hi2
    have hx:=hQi _ hm
    have gx:(Q.map enI)[i]?=some (enI (Q.getD i 0)):=by rw [y49,y43 hi2,z17 hi2];rfl
    have cf:=hf _ hx.1 hx.2
    have hsome:=fun h=>hrR i hi2 h hno
    have hnxt:(G (Q.getD i 0) && cycD rows (Q.getD i 0).toNat)=false→∀ j,j < i+1→(G (Q.getD j 0) && cycD rows (Q.getD j 0).toNat)=false:=fun h j hj=>by
      by_cases e:j=i
      · subst e;exact h
      · exact hno j (by omega)
    have hsh:=hto _ hm
    have csh:=z624 rows ini hr hi hn hN hrl (fun n=>decide (n=Q.getD i 0)) 177 [.int (Q.getD i 0)] (fun x _ _=>z1082 (Q.getD i 0) x)
    have car:=z998 rows (Q.getD i 0) hr hx hN hrl
    rw [hsh] at csh
    rw [aroL_eq] at car
    have hb1:=z539 (srP rows ini) rows.length (Q.getD i 0) []
    have hb2:=z540 (srP rows ini) rows.length (Q.getD i 0) []
    have hc2:=z660 rows (Q.getD i 0)
    have gc:=hcg (Q.getD i 0).toNat (by omega)
    rw [y57] at hb2
    clear hsh hrR hrN hto hcg hm hno
    generalize bkw (srP rows ini) rows.length (Q.getD i 0) []=B at *
    generalize cycL rows (Q.getD i 0)=Y at *
    generalize Q.getD i 0=x at *
    obtain ⟨u,rfl⟩:∃ u:Nat,x=u:=⟨x.toNat,by omega⟩
    rw [y74] at *
    by_cases hg:(G (u:Int) && cycD rows u)=true
    · have hL:=hsome hg
      obtain ⟨hg1,hg2⟩:=Bool.and_eq_true_iff.1 hg
      rw [hg1] at cf
      rw [hg2] at gc
      subst hL
      repeat' ((first|(apply y81 ok;rfl)|(apply z31;kernel_rfl)|(refine z13 (i:=i) rfl gx ?_)|(refine z13 (i:=u) rfl gc ?_)|(apply y41;first|omega|(unfold inI;omega))|((apply z6)<;>intro _)|(apply z4 (cf);rfl;rfl)|((first|(apply z95 [] [2] [3] csh;(focus ((repeat' first|exact z72|apply z48)<;>rfl));rfl)|(apply z95 [] [] [4] car;rfl;rfl));rfl;(focus ((repeat' first|exact z16|apply z15)<;>(refine z19 ?_;((exact z5 fun _=>rfl)))));(first|exact .inl rfl|(refine .inr ⟨rfl,?_⟩;repeat' first|exact True.intro|apply y41|exact z166 (fun _=>rfl) _))))<;>conv=>whnf)
      all_goals try (exfalso;omega)
      all_goals
        show RetS _ _ (.tup [.sref 0 0 (B.take (B.length - 1)).length,.sref 1 0 Y.length,.bool true]) [.cells 1 ((B.take (B.length - 1)).map enI),.cells 1 (Y.map enI)] _
        refine Gl.RetS.trunc 3 (B.length - 1) rfl ?_
        conv=>whnf
        (refine rsD [3,4] [] rfl ?_;(repeat' first|exact y83 _|exact z11 _|(refine z50 ?_;((simp;done)))|((refine z8 rfl ?_ ?_);(focus ((repeat' (first|exact z5 (fun _=>rfl)|apply z22));done)))|apply z69|constructor))
      all_goals (refine z49 ?_;rw [List.map_take])
    · have hg:=(y69 _).mp hg
      have hn2:=hnxt hg
      cases hG:G (u:Int)
      · rw [hG] at cf
        repeat' ((first|(apply y81 ok;rfl)|(refine z13 (i:=i) rfl gx ?_)|(apply y41;first|omega|(unfold inI;omega))|((apply z6)<;>intro _)|(apply z4 (cf);rfl;rfl))<;>conv=>whnf)
        all_goals try (exfalso;omega)
        all_goals refine z26 (i+1) ⟨hi2,hn2⟩ (by omega) (by refine swR [0,1] [] rfl rfl ?_;(repeat' first|exact y83 _|exact z11 _|refine z8 rfl (z5 (fun _=>rfl)) ?_|constructor))
      · rw [hG] at cf
        rw [hG,Bool.true_and] at hg
        rw [hg] at gc
        repeat' ((first|(apply y81 ok;rfl)|(refine z13 (i:=i) rfl gx ?_)|(refine z13 (i:=u) rfl gc ?_)|(apply y41;first|omega|(unfold inI;omega))|((apply z6)<;>intro _)|(apply z4 (cf);rfl;rfl))<;>conv=>whnf)
        all_goals try (exfalso;omega)
        all_goals refine z26 (i+1) ⟨hi2,hn2⟩ (by omega) (by refine swR [0,1] [] rfl rfl ?_;(repeat' first|exact y83 _|exact z11 _|refine z8 rfl (z5 (fun _=>rfl)) ?_|constructor))
  · have hL:=hrN fun j hj=>hno j (by omega)
    subst hL
    repeat' ((first|(apply y81 ok;rfl)|(apply y41;omega)|(((apply z9;omega));intro _)|((apply z6)<;>intro _))<;>conv=>whnf)
    all_goals try (exfalso;omega)
    all_goals show RetS _ _ (.tup [.sref 0 0 0,.sref 1 0 0,.bool false]) [.cells 1 [],.cells 1 []] _
    all_goals (refine y86 1 ?_;refine y86 1 ?_;refine rsD [2,3] [] rfl ?_;(repeat' first|exact y83 _|exact z37|refine z8 rfl (z24) ?_|apply z69|constructor))
end Go.Proofs.YtjhgpfaodkchjaaGreat
namespace Go.Proofs.YtjhgpfaodkchjaaGreat
open Go.Gl
attribute [local irreducible] z18 AWP z41 z46 z44
structure Trace where
 stem:List Int
 loop:List Int
deriving DecidableEq
def Trace.cs (t:Trace):List AC:=[ints t.stem,ints t.loop]
def Trace.all (t:Trace):List Int:=t.stem++t.loop
end Go.Proofs.YtjhgpfaodkchjaaGreat
namespace Go.Proofs.YtjhgpfaodkchjaaGreat
open Go.Gl
attribute [local irreducible] z18 AWP z41 z46 z44 RetS z51
def Aut.sm (a:Aut):Prop:=a.ini.length≤40∧a.acc.length≤20∧a.ed.length≤2100∧∀ t∈a.ed,t.mx
set_option maxHeartbeats 3200000 in
theorem z726 (P:List Int) (hP:P.length≤100000) (f:Nat) (to:Int) (h:BackOk P f to) (hf:f≤100000):CallsA Tryz.prog 127 [ints P,.int to] [] (ints (bkw P f to [])) []:=by
 generalize hR:bkw P f to []=R
 have hto:=h
 refine z7 z14 Tryz.func127 rfl rfl 25 Tryz.ntmps127 (by simp) ?_
 repeat' (((apply y81 ok;rfl))<;>conv=>whnf)
 refine z64 (fun x:Nat×Int×List Int=>([(0,ints P),(5,.sref 0 0 (x.2.2.length+1))],[.cells 1 ((x.2.1::x.2.2).map enI)])) (fun x=>BackOk P x.1 x.2.1∧bkw P x.1 x.2.1 x.2.2=R∧x.1+x.2.2.length≤100000) (fun x=>x.1) (f,to,[]) ⟨hto,hR,by show f+0≤100000;omega⟩ (by refine swR [0] [] rfl rfl ?_;(repeat' first|exact y83 _|apply y84|constructor)) ?_
 rintro ⟨g,v,tl⟩ ⟨hB,hE,hl⟩
 dsimp only at hB hE hl ⊢
 have hv:0≤v∧v < P.length:=by cases g<;>exact hB.1
 have hg:(P.map enI)[v.toNat]?=some (enI (P.getD v.toNat 0)):=by rw [y49,y43 (by omega),z17 (by omega)];rfl
 by_cases h0:0≤P.getD v.toNat 0
 ·cases g with
  |zero=>exact absurd hB.2 (by omega)
  |succ g =>
   rw [bkw,if_pos h0] at hE
   have hB2:BackOk P g (P.getD v.toNat 0):=by
    rcases hB.2 with h|h
    ·omega
    ·exact h
   generalize P.getD v.toNat 0=y at *
   have hst:(List.map enI (v::tl)).length=tl.length+1∧Stor (List.map enI (v::tl)):=⟨by simp,z139 (fun _=>rfl)⟩
   repeat' ((first|(apply y81 ok;rfl)|(refine z13 (i:=v.toNat) (by simp) hg ?_)|(refine y41 hst ?_)|(apply y41;first|omega|((try dsimp only);simp only [y47,y46,y45,y44,y56,y57];omega))|apply z132|((apply z6)<;>intro _))<;>conv=>whnf)
   all_goals try (exfalso;omega)
   all_goals refine z26 (g,y,v::tl) ⟨hB2,hE,by show g+(v::tl).length≤100000;rw [y56];omega⟩ (by show g < g+1;omega) (by refine swR [2] [0,1] rfl rfl ?_;(repeat' first|exact y83 _|exact z11 _|(refine z50 ?_;((simp;omega)))|((refine z8 rfl ?_ ?_);(focus ((repeat' (first|exact z5 (fun _=>rfl)|exact z204 rfl z24|apply z97));done)))|constructor))
 ·have hE2:v::tl=R:=by
   cases g with
   |zero=>exact hE
   |succ g=>rw [bkw,if_neg h0] at hE;exact hE
  subst hE2
  generalize P.getD v.toNat 0=y at *
  repeat' ((first|(apply y81 ok;rfl)|(refine z13 (i:=v.toNat) (by simp) hg ?_)|(apply y41;omega)|(((apply z9;omega));intro _)|apply z132|((apply z6)<;>intro _))<;>conv=>whnf)
  all_goals try (exfalso;omega)
  all_goals (refine rsD [] [0] rfl ?_;(repeat' first|exact y83 _|((apply z43 rfl rfl rfl);(focus ((repeat ((exact z32 (fun _=>rfl) _)));done));(focus (((simp;done));done)))|constructor))
def z843 (k:Nat):List Int:=List.replicate k (-1)
theorem z595 (k:Nat):z843 (k+1)=z843 k++[-1]:=by unfold z843;rw [List.replicate_succ']
theorem z636 {l:List Int} {k:Nat} (h:k < l.length) (x:Int):x∈l.take (k+1)↔x∈l.take k∨x=l[k]:=by
 rw [y48 h,y52,y53]
set_option maxHeartbeats 12800000 in
theorem z437 (rows:List (List Int)) (ini:List Int) (hr:∀ r∈rows,InN rows.length r) (hi:InN rows.length ini) (hn:ini.Nodup) (hN:rows.length≤100000) (hrl:∀ r∈rows,r.length≤1000000000):CallsA Tryz.prog 125 [lst 1 encL rows,ints ini] [] (.tup [.sref 0 0 (srP rows ini).length,.sref 1 0 (srQ rows ini).length]) [.cells 1 ((srP rows ini).map enI),.cells 1 ((srQ rows ini).map enI)]:=by
 have hil:ini.length≤rows.length:=z146 _ _ hn hi
 refine z7 z14 Tryz.func125 rfl rfl 91 Tryz.ntmps125 (by simp) ?_
 repeat' ((first|(apply y81 ok;rfl)|(apply y41;(dsimp only;omega)))<;>conv=>whnf)
 refine z64 (fun x:Nat×List Int=>([(0,lst 1 encL rows),(1,ints ini),(6,.sref 0 0 x.2.length),(7,.sref 1 0 rows.length),(8,.int x.1)],[.cells 1 (x.2.map enI),.cells 1 ((mkB rows.length []).map enB)])) (fun x=>x.1≤rows.length∧x.2.length=x.1∧x.2=z843 x.1) (fun x=>rows.length - x.1) (0,[]) ⟨by show 0≤rows.length;omega,rfl,rfl⟩ (by refine swR [0,1] [] rfl rfl ?_;(repeat' first|exact y83 _|((refine z8 rfl ?_ ?_);(focus ((repeat' (first|exact z24|exact z79 rfl));done)))|constructor)<;>((refine z49 ?_;rw [z822,List.map_replicate];rfl))) ?_
 rintro ⟨i,F⟩ ⟨hF1,hFl,hF2⟩
 dsimp only at hF1 hFl hF2 ⊢
 by_cases hi2:i < rows.length
 ·repeat' ((first|(apply y81 ok;rfl)|(apply y41;first|omega|(unfold inI;omega)|((try dsimp only);simp only [y47,y46,y45,y44,y56,y57];omega)|exact ⟨rfl,z21 rfl z29⟩)|((apply z6)<;>intro _))<;>conv=>whnf)
  all_goals try (exfalso;omega)
  all_goals refine z26 (i+1,F++[-1]) ⟨hi2,by rw [y45,hFl];rfl,by show _=z843 (i+1);rw [z595,← hF2]⟩ (by show rows.length - (i+1) < _;omega) (by refine swR [3,1] [] rfl rfl ?_;(repeat' first|exact y83 _|exact z11 _|(refine z50 ?_;((simp;done)))|((first|refine z33 rfl ?_ ?_|refine z8 rfl ?_ ?_);(focus ((repeat' (first|exact z5 (fun _=>rfl)|apply z22));done)))|(refine z76 ?_ ?_;(focus (omega)))|constructor))
 ·have e:rows.length=i:=by omega
  have hs0:srS rows ini 0=(ini,F):=by rw [hF2,← e];rfl
  rw [← e] at hFl
  subst e
  clear hF1 hF2 hi2
  repeat' ((first|(apply y81 ok;rfl)|(apply y41;first|omega|(dsimp only;omega)|exact z139 (fun _=>rfl))|((apply z6)<;>intro _))<;>conv=>whnf)
  all_goals try (exfalso;omega)
  all_goals
   refine z64 (fun i:Nat=>([(0,lst 1 encL rows),(1,ints ini),(6,.sref 0 0 rows.length),(7,.sref 1 0 rows.length),(9,.sref 2 0 ini.length),(10,.int i)],[.cells 1 (F.map enI),.cells 1 ((mkB rows.length (ini.take i)).map enB),.cells 1 (ini.map enI)])) (fun i=>i≤ini.length) (fun i=>ini.length - i) 0 (by omega) (by refine swR [0,1,3] [] rfl rfl ?_;(repeat' first|exact y83 _|exact z11 _|(refine z50 ?_;(omega))|refine z8 rfl (z5 (fun _=>rfl)) ?_|constructor)) ?_
   intro i hi1
   by_cases hi2:i < ini.length
   ·have hx:=hi ini[i] (y42 _)
    have hset:=z406 (enc:=enB) rfl hx.1 hx.2 (z636 hi2)
    have hml:=mkB_len rows.length (ini.take i)
    repeat' ((first|(apply y81 ok;rfl)|(apply y41;first|omega|(unfold inI;omega))|((first|(with_reducible apply z9;omega)|(apply z9;omega));intro _)|((apply z6)<;>intro _))<;>conv=>whnf)
    all_goals try (exfalso;omega)
    all_goals refine z26 (i+1) (by omega) (by omega) (by refine swR [0,1,2] [] rfl rfl ?_;(repeat' first|exact y83 _|exact z11 _|refine z61 rfl (z5 (fun _=>rfl)) ?_|refine z8 rfl (z5 (fun _=>rfl)) ?_|constructor)<;>(exact z49 hset))
   ·have e:ini.length=i:=by omega
    subst e
    rw [y54]
    repeat' ((first|(apply y81 ok;rfl)|(apply y41;omega)|((first|(with_reducible apply z9;omega)|(apply z9;omega));intro _)|((apply z6)<;>intro _))<;>conv=>whnf)
    all_goals try (exfalso;omega)
    refine z64 (fun x:Nat×List Int×List Int=>([(0,lst 1 encL rows),(6,.sref 0 0 rows.length),(7,.sref 1 0 rows.length),(9,.sref 2 0 x.2.1.length),(11,.int x.1)],[.cells 1 (x.2.2.map enI),.cells 1 ((mkB rows.length x.2.1).map enB),.cells 1 (x.2.1.map enI)])) (fun x=>srS rows ini x.1=(x.2.1,x.2.2)∧x.1≤x.2.1.length) (fun x=>rows.length - x.1) (0,ini,F) ⟨hs0,y51 _⟩ (by refine swR [0,1,2] [] rfl rfl ?_;(repeat' first|exact y83 _|exact z11 _|refine z8 rfl (z5 (fun _=>rfl)) ?_|constructor)) ?_
    clear hs0 hFl F
    rintro ⟨i,Q,P⟩ ⟨hS,hiQ⟩
    dsimp only at hS hiQ ⊢
    have hJ:=z325 hr hi hn i
    rw [hS] at hJ
    have hQl:=z146 _ _ hJ.nd hJ.inn
    have hPl:=hJ.len
    dsimp only at hQl hPl
    by_cases hi2:i < Q.length
    ·have hq:=hJ.inn _ (y42 hi2)
     have hS1:srS rows ini (i+1)=visPs Q[i] (Q,P) (rows.getD Q[i].toNat []):=by rw [srS,dif_pos (by rw [hS];exact hi2)];simp only [hS]
     have hqr:Q[i].toNat < rows.length:=by omega
     have hrow:rows.getD Q[i].toNat []=rows[Q[i].toNat]:=z17 hqr
     have hrin:InN rows.length rows[Q[i].toNat]:=hr _ (y42 _)
     have hrl2:=hrl rows[Q[i].toNat] (y42 _)
     rw [hrow] at hS1
     repeat' ((first|(apply y81 ok;rfl)|((apply z6)<;>intro _))<;>conv=>whnf)
     all_goals try (exfalso;omega)
     refine z64 (fun y:Nat×List Int×List Int=>([(0,lst 1 encL rows),(6,.sref 0 0 rows.length),(7,.sref 1 0 rows.length),(9,.sref 2 0 y.2.1.length),(11,.int i),(12,.int y.1)],[.cells 1 (y.2.2.map enI),.cells 1 ((mkB rows.length y.2.1).map enB),.cells 1 (y.2.1.map enI)])) (fun y=>visPs Q[i] (Q,P) (rows[Q[i].toNat].take y.1)=(y.2.1,y.2.2)∧y.1≤rows[Q[i].toNat].length) (fun y=>rows[Q[i].toNat].length - y.1) (0,Q,P) ⟨rfl,y51 _⟩ (by refine swR [0,1,2] [] rfl rfl ?_;(repeat' first|exact y83 _|exact z11 _|refine z8 rfl (z5 (fun _=>rfl)) ?_|constructor)) ?_
     rintro ⟨k,Q',P'⟩ ⟨hV,hk⟩
     dsimp only at hV hk ⊢
     obtain ⟨hJ',hi',hu⟩:=PJ.visPs (rows[Q[i].toNat].take k) hJ hi2 rfl (fun x hx=>hrin x (List.mem_of_mem_take hx))
     simp only [hV] at hJ' hi' hu
     have hQl':=z146 _ _ hJ'.nd hJ'.inn
     have hPl':=hJ'.len
     dsimp only at hQl' hPl'
     have hg:(Q'.map enI)[i]?=some (enI Q[i]):=by rw [y49,y43 hi',hu];rfl
     by_cases hk2:k < rows[Q[i].toNat].length
     ·have hx:=hrin rows[Q[i].toNat][k] (y42 _)
      have hv:=z399 (u:=Q[i]) (x:=(Q,P)) hk2
      rw [hV] at hv
      have hkk:(rows[Q[i].toNat].map enI)[k]?=some (enI rows[Q[i].toNat][k]):=by rw [y49,y43 hk2];rfl
      generalize Q[i]=u at *
      generalize rows[u.toNat][k]=v at *
      by_cases hn2:v∈Q'
      ·rw [z351 hn2] at hv
       repeat' ((first|(apply y81 ok;rfl)|(refine z13 (i:=i) rfl hg ?_)|(refine z13 (i:=k) rfl hkk ?_)|(refine z288 (enc:=enB) (v:=v) (by rfl) hx.1 hx.2 ?_)|(apply y41;first|omega|(unfold inI;omega)|((try dsimp only);simp only [y47,y46,y45,y44,y56,y57];omega)|exact ⟨rfl,z21 rfl z29⟩)|((first|(with_reducible apply z65;omega)|(apply z9;omega));intro _)|((first|apply z6|apply z35)<;>intro _))<;>conv=>whnf)
       all_goals first|(exfalso;omega)|(exfalso;contradiction)|skip
       all_goals refine z26 (k+1,Q',P') ⟨hv,hk2⟩ (by show rows[u.toNat].length - (k+1) < rows[u.toNat].length - k;omega) (by refine swR [0,1,2] [] rfl rfl ?_;(repeat' first|exact y83 _|exact z11 _|refine z8 rfl (z5 (fun _=>rfl)) ?_|constructor))
      ·rw [z352 hn2] at hv
       have hset:=z406 (enc:=enB) (S:=Q') (S':=Q'++[v]) rfl hx.1 hx.2 (fun x=>by simp)
       repeat' ((first|(apply y81 ok;rfl)|(refine z13 (i:=i) rfl hg ?_)|(refine z13 (i:=k) rfl hkk ?_)|(refine z288 (enc:=enB) (v:=v) (by rfl) hx.1 hx.2 ?_)|(apply y41;first|omega|(unfold inI;omega)|((try dsimp only);simp only [y47,y46,y45,y44,y56,y57];omega)|exact ⟨rfl,z21 rfl z29⟩)|((first|(with_reducible apply z65;omega)|(apply z9;omega));intro _)|((first|apply z6|apply z35)<;>intro _))<;>conv=>whnf)
       all_goals first|(exfalso;omega)|(exfalso;contradiction)|skip
       all_goals refine z26 (k+1,Q'++[v],P'.set v.toNat u) ⟨hv,hk2⟩ (by show rows[u.toNat].length - (k+1) < rows[u.toNat].length - k;omega) (by refine swR [0,1,4] [] rfl rfl ?_;(repeat' first|exact y83 _|(refine z50 ?_;((simp;done)))|((first|refine z33 rfl ?_ ?_|refine z61 rfl ?_ ?_);(focus ((repeat' (first|exact z5 (fun _=>rfl)|apply z22));done)))|refine z278 (by omega) ?_|(refine z76 ?_ ?_;(focus (omega)))|constructor)<;>(exact z49 hset))
     ·rw [y55 (by omega)] at hV
      rw [hV] at hS1
      repeat' ((first|(apply y81 ok;rfl)|(refine z13 (i:=i) rfl hg ?_)|(apply y41;first|omega|(unfold inI;omega))|((first|(with_reducible apply z9;omega)|(with_reducible apply z65;omega)|(apply z9;omega));intro _)|((first|apply z6|apply z89)<;>intro _))<;>conv=>whnf)
      all_goals try (exfalso;omega)
      all_goals refine z26 (i+1,Q',P') ⟨hS1,hi'⟩ (by show rows.length - (i+1) < rows.length - i;omega) (by refine swR [0,1,2] [] rfl rfl ?_;(repeat' first|exact y83 _|exact z11 _|refine z8 rfl (z5 (fun _=>rfl)) ?_|constructor))
    ·have hE:=z1028 (rows:=rows) (ini:=ini) (i:=i) (by rw [hS];show Q.length≤i;omega) (by omega)
     rw [hS] at hE
     obtain ⟨e1,e2⟩:=Prod.mk.inj hE
     rw [← e1,← e2]
     repeat' ((first|(apply y81 ok;rfl)|((apply z6)<;>intro _))<;>conv=>whnf)
     all_goals try (exfalso;omega)
     all_goals (refine rsD [0,2] [] rfl ?_;(repeat' first|exact y83 _|exact z11 _|(refine z50 ?_;(omega))|refine z8 rfl (z5 (fun _=>rfl)) ?_|apply z69|constructor))
theorem z824 (rows:List (List Int)) (ini:List Int) (hr:∀ r∈rows,InN rows.length r) (hi:InN rows.length ini) (hn:ini.Nodup) (hN:rows.length≤100000) (hrl:∀ r∈rows,r.length≤1000000000):CallsA Tryz.prog 125 [lst 1 encL rows,ints ini] [] (.tup [ints (srP rows ini),ints (srQ rows ini)]) [] :=
 (z437 rows ini hr hi hn hN hrl).lend [] [0,1] rfl rfl rfl (z857 (z48 (z117 rfl rfl rfl) (z48 (z117 rfl rfl rfl) z72))) z45
end Go.Proofs.YtjhgpfaodkchjaaGreat
