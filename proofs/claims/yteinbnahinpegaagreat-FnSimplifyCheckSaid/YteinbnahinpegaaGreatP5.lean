/- A part of the proofs over this program: T185, T64, T65, T66, T154, T155, T156, T157, T158, T159, T160, T94W, T29, T94K, T161, T186, T187, T238, T33P, T67, T68, T210, T200, T162, T163, T164, T170, T201, T29A, T29C, T202, T166, T204, T212, T98, T43R, T211, T214, T242. -/
import Derived.Test.YteinbnahinpegaaGreatP4
import Derived.Test.YteinbnahinpegaaGreatRows
import Derived.WalkKit
import Derived.ProofKit
import Derived.Deep.DeepHandedRow
import Derived.Lib.LaidTab
set_option linter.all false
namespace Go.Proofs.YteinbnahinpegaaGreat
open Go.Gl Proofs.Tryz
attribute [local irreducible] z18 AWP z38 z41 z40 RetS z42
theorem z1175 (v x:Int):QQ 112 [.int x,.pt [.int v]] [] (.bool (decide (x=v))) []:=by
 refine z12 z24 func112 rfl rfl 7 ntmps112 (by simp) ?_
 repeat' (((apply y6 ok;rfl))<;>conv=>whnf)
 all_goals (refine rsD [] [] rfl ?_;(repeat' first|exact y83 _|constructor))
theorem z1064 (rows:List (List Int)) (hrl:∀ r∈rows,r.length≤1000000000) (v x:Int) (hx:0≤x∧x < rows.length):QQ 169 [.int x,.pt [.int v],.pt [lst 1 encL rows]] [] (.bool (decide (x≠v) && decide (v∈rows.getD x.toNat []))) []:=by
 obtain ⟨u,rfl⟩:∃ u:Nat,x=u:=⟨x.toNat,by omega⟩
 rw [y74]
 have hu:u < rows.length:=by omega
 have gr:=z533 hu
 have hrow:(rows.getD u []).length≤1000000000:=by rw [z20 hu];exact hrl _ (y41 _)
 have cct:=z189 (rows.getD u []) (by unfold maxLen;omega) v
 generalize rows.getD u []=row at *
 refine z12 z24 func169 rfl rfl 16 ntmps169 (by simp) ?_
 by_cases h:(u:Int)=v
 ·rw [y80 (by simp [h]),Bool.false_and]
  repeat' ((first|apply y6 ok;rfl|apply z27;kernel_rfl|refine z14 (i:=u) rfl gr ?_|apply y40;omega|apply z35<;>intro _|apply z8 cct;rfl;rfl)<;>conv=>whnf)
  all_goals try (exfalso;omega)
  all_goals (refine rsD [] [] rfl ?_;(repeat' first|exact y83 _|constructor))
 ·rw [y79 h,Bool.true_and]
  repeat' ((first|apply y6 ok;rfl|apply z27;kernel_rfl|refine z14 (i:=u) rfl gr ?_|apply y40;omega|apply z35<;>intro _|apply z8 cct;rfl;rfl)<;>conv=>whnf)
  all_goals try (exfalso;omega)
  all_goals (refine rsD [] [] rfl ?_;(repeat' first|exact y83 _|constructor))
set_option maxHeartbeats 3200000 in
theorem z1063 (rows : List (List Int)) (v : Int) (hr : ∀ r ∈ rows, InN rows.length r) (hv : 0 ≤ v ∧ v < rows.length) (hN : rows.length ≤ 100000) (hrl : ∀ r ∈ rows, r.length ≤ 1000000000) :
    QQ 113 [lst 1 encL rows,.int v] [] (.sref 0 0 (aroL rows v).length) [.cells 1 ((aroL rows v).map enI)]:=by
  obtain ⟨u,rfl⟩:∃ u:Nat,v=u:=⟨v.toNat,by omega⟩
  have hu:u < rows.length:=by omega
  have gr:=z533 hu
  have hrow:(rows.getD u []).length≤1000000000:=by rw [z20 hu];exact hrl _ (y41 _)
  have cct:=z189 (rows.getD u []) (by unfold maxLen;omega) (u:Int)
  have csh:=z666 rows [(u:Int)] hr (z767 hv) (by simp) hN hrl (fun n=>decide (n≠(u:Int)) && decide ((u:Int)∈rows.getD n.toNat [])) 169 [.int (u:Int)] [lst 1 encL rows] (fun x h0 h1=>z1064 rows hrl u x ⟨h0,h1⟩)
  unfold aroL
  rw [y74]
  by_cases h:(u:Int)∈rows.getD u []
  · rw [if_pos h]
    rw [y79 h] at cct
    generalize rows.getD u []=row at *
    refine z12 z24 func113 rfl rfl 18 ntmps113 (by simp) ?_
    repeat' ((first|apply y6 ok;rfl|apply z27;kernel_rfl|refine z14 (i:=u) rfl gr ?_|apply y40;omega|apply z8 cct;rfl;rfl)<;>conv=>whnf)
    all_goals (refine rsD [2] [] rfl ?_;(repeat' first|exact y83 _|apply y85|constructor))
  · rw [if_neg h]
    rw [y80 h] at cct
    generalize shL rows [(u:Int)] (fun n=>decide (n≠(u:Int)) && decide ((u:Int)∈rows.getD n.toNat []))=D at *
    generalize rows.getD u []=row at *
    refine z12 z24 func113 rfl rfl 18 ntmps113 (by simp) ?_
    repeat' ((first|apply y6 ok;rfl|apply z27;kernel_rfl|refine z14 (i:=u) rfl gr ?_|apply y40;omega|apply z8 cct;rfl;rfl|apply z120 [] [0,1,2] [3] csh;(focus ((repeat' first|exact z87|apply z60)<;>rfl));rfl;rfl;(focus ((repeat' first|exact z23|apply z19)<;>(refine z30 ?_;((exact z6 fun _=>rfl)))));((refine .inr ⟨rfl,?_⟩;repeat' first|exact True.intro|apply y40|exact z121 (fun _=>rfl) _)))<;>conv=>whnf)
    all_goals (refine rsD [3] [] rfl ?_;(repeat' first|exact y83 _|exact z10 _|refine z11 rfl (z6 (fun _=>rfl)) ?_|constructor))
noncomputable def lasR (rows:List (List Int)) (ini:List Int) (G:Int→Bool):List Int×List Int:=(lasL rows ini G).getD ([],[])
set_option maxHeartbeats 6400000 in
theorem z1174 (rows : List (List Int)) (ini : List Int) (hr : ∀ r ∈ rows, InN rows.length r) (hi : InN rows.length ini) (hn : ini.Nodup) (hN : rows.length ≤ 100000) (hrl : ∀ r ∈ rows, r.length ≤ 1000000000) (G : Int → Bool) (f : FuncId) (c1 c2 : List AC) (hf : ∀ x : Int, 0 ≤ x → x < rows.length → QQ f [.int x, .pt c1, .pt c2] [] (.bool (G x)) []) :
    QQ 55 [lst 1 encL rows,ints ini,.fn (.func f) [] [.pt c1,.pt c2]] [] (.tup [.sref 0 0 ((lasR rows ini G).1.take ((lasR rows ini G).1.length - 1)).length,.sref 1 0 (lasR rows ini G).2.length,.bool (lasL rows ini G).isSome]) [.cells 1 (((lasR rows ini G).1.take ((lasR rows ini G).1.length - 1)).map enI),.cells 1 ((lasR rows ini G).2.map enI)]:=by
  have hil:ini.length≤100000:=by have:=z199 rows.length ini hn hi;omega
  have cC:=z633 rows hr hN hrl
  have cO:=z1142 rows ini hr hi hN hrl (by omega)
  have hQi:=z432 hr hi rows.length
  have hQl:=z458 hr hi rows.length
  have hcl:=z423 rows
  have hcg:∀ i,i < rows.length→((cycB rows).map enB)[i]?=some (enB (cycD rows i)):=fun i h=>z324 (cycD rows) h
  have hto:=fun v hv=>shL_to (rows:=rows) (ini:=ini) hn (v:=v) hv
  have hrR:∀ k,k < (bfsL rows ini).length→(G ((bfsL rows ini).getD k 0) && cycD rows ((bfsL rows ini).getD k 0).toNat)=true→(∀ j,j < k→(G ((bfsL rows ini).getD j 0) && cycD rows ((bfsL rows ini).getD j 0).toNat)=false)→lasL rows ini G=some (bkw (srP rows ini) rows.length ((bfsL rows ini).getD k 0) [],cycL rows ((bfsL rows ini).getD k 0)):=fun k hk h1 h2=>by
    unfold lasL
    have:(bfsL rows ini).find? (fun v=>G v && cycD rows v.toNat)=some ((bfsL rows ini).getD k 0):=by
      rw [z20 hk] at h1 ⊢
      rw [List.find?_eq_some_iff_getElem]
      refine ⟨h1,k,hk,rfl,fun j hj=>?_⟩
      have:=h2 j hj
      rw [z20 (by omega)] at this
      rw [this];rfl
    rw [this];rfl
  have hrN:(∀ j,j < (bfsL rows ini).length→(G ((bfsL rows ini).getD j 0) && cycD rows ((bfsL rows ini).getD j 0).toNat)=false)→lasL rows ini G=none:=fun h=>by
    unfold lasL
    have:(bfsL rows ini).find? (fun v=>G v && cycD rows v.toNat)=none:=by
      rw [List.find?_eq_none]
      intro x hx
      obtain ⟨j,hj,rfl⟩:=List.mem_iff_getElem.1 hx
      have:=h j hj
      rw [z20 hj] at this
      rw [this];simp
    rw [this];rfl
  unfold lasR
  change (bfsL rows ini).length≤rows.length at hQl
  change InN rows.length (bfsL rows ini) at hQi
  generalize lasL rows ini G=L at *
  generalize cycB rows=C at *
  generalize bfsL rows ini=Q at *
  refine z12 z24 func55 rfl rfl 45 ntmps55 (by simp) ?_
  repeat' ((first|apply y6 ok;rfl|(first|apply z15 [] [0] cC;rfl;rfl|apply z15 [] [1] cO;rfl;rfl);rfl;(focus ((repeat' first|exact z23|apply z19)<;>(refine z30 ?_;((exact z6 fun _=>rfl))))))<;>conv=>whnf)
  refine z69 (fun i:Nat=>([(0,lst 1 encL rows),(1,ints ini),(2,.fn (.func f) [] [.pt c1,.pt c2]),(9,.sref 0 0 rows.length),(17,.sref 1 0 Q.length),(18,.int Q.length),(19,.int i)],[.cells 1 (C.map enB),.cells 1 (Q.map enI)])) (fun i=>i≤Q.length∧∀ j,j < i→(G (Q.getD j 0) && cycD rows (Q.getD j 0).toNat)=false) (fun i=>Q.length - i) 0 ⟨y50 _,fun j hj=>by omega⟩ (by refine swR [0,1] [] rfl rfl ?_;(repeat' first|exact y83 _|exact z10 _|refine z11 rfl (z6 (fun _=>rfl)) ?_|constructor)) ?_
  rintro i ⟨hi1,hno⟩
  by_cases hi2:i < Q.length
  · have hm:=z415 hi2
    have hx:=hQi _ hm
    have gx:(Q.map enI)[i]?=some (enI (Q.getD i 0)):=by rw [y48,y42 hi2,z20 hi2];rfl
    have cf:=hf _ hx.1 hx.2
    have hsome:=fun h=>hrR i hi2 h hno
    have hnxt:(G (Q.getD i 0) && cycD rows (Q.getD i 0).toNat)=false→∀ j,j < i+1→(G (Q.getD j 0) && cycD rows (Q.getD j 0).toNat)=false:=fun h j hj=>by
      by_cases e:j=i
      · subst e;exact h
      · exact hno j (by omega)
    have hsh:=hto _ hm
    have csh:=z667 rows ini hr hi hn hN hrl (fun n=>decide (n=Q.getD i 0)) 112 [.int (Q.getD i 0)] (fun x _ _=>z1175 (Q.getD i 0) x)
    have car:=z1063 rows (Q.getD i 0) hr hx hN hrl
    rw [hsh] at csh
    rw [aroL_eq] at car
    have hb1:=z713 (srP rows ini) rows.length (Q.getD i 0) []
    have hb2:=z714 (srP rows ini) rows.length (Q.getD i 0) []
    have hc2:=z975 rows (Q.getD i 0)
    have gc:=hcg (Q.getD i 0).toNat (by omega)
    rw [y56] at hb2
    clear hsh hrR hrN hto hcg hm hno
    generalize bkw (srP rows ini) rows.length (Q.getD i 0) []=B at *
    generalize cycL rows (Q.getD i 0)=Y at *
    generalize Q.getD i 0=x at *
    obtain ⟨u,rfl⟩:∃ u:Nat,x=u:=⟨x.toNat,by omega⟩
    rw [y74] at *
    by_cases hg:(G (u:Int) && cycD rows u)=true
    · have hL:=hsome hg
      obtain ⟨hg1,hg2⟩:=Bool.and_eq_true_iff.1 hg
      rw [hg1] at cf
      rw [hg2] at gc
      subst hL
      repeat' ((first|apply y6 ok;rfl|apply z27;kernel_rfl|refine z14 (i:=i) rfl gx ?_|refine z14 (i:=u) rfl gc ?_|(apply y40;first|omega|unfold inI;omega)|apply z7<;>intro _|apply z8 cf;rfl;rfl|(first|apply z120 [] [2] [3] csh;(focus ((repeat' first|exact z87|apply z60)<;>rfl));rfl|apply z120 [] [] [4] car;rfl;rfl);rfl;(focus ((repeat' first|exact z23|apply z19)<;>(refine z30 ?_;((exact z6 fun _=>rfl)))));(first|exact .inl rfl|(refine .inr ⟨rfl,?_⟩;repeat' first|exact True.intro|apply y40|exact z121 (fun _=>rfl) _)))<;>conv=>whnf)
      all_goals try (exfalso;omega)
      all_goals
        show RetS _ _ (.tup [.sref 0 0 (B.take (B.length - 1)).length,.sref 1 0 Y.length,.bool true]) [.cells 1 ((B.take (B.length - 1)).map enI),.cells 1 (Y.map enI)] _
        refine Gl.RetS.trunc 3 (B.length - 1) rfl ?_
        conv=>whnf
        (refine rsD [3,4] [] rfl ?_;(repeat' first|exact y83 _|exact z10 _|refine z44 ?_;((simp;done))|(refine z11 rfl ?_ ?_);(focus ((repeat' (first|exact z6 (fun _=>rfl)|apply z25));done))|apply z156|constructor))
      all_goals (refine z21 ?_;rw [List.map_take])
    · have hg:=(y69 _).mp hg
      have hn2:=hnxt hg
      cases hG:G (u:Int)
      · rw [hG] at cf
        repeat' ((first|apply y6 ok;rfl|refine z14 (i:=i) rfl gx ?_|(apply y40;first|omega|unfold inI;omega)|apply z7<;>intro _|apply z8 cf;rfl;rfl)<;>conv=>whnf)
        all_goals try (exfalso;omega)
        all_goals refine z29 (i+1) ⟨hi2,hn2⟩ (by omega) (by refine swR [0,1] [] rfl rfl ?_;(repeat' first|exact y83 _|exact z10 _|refine z11 rfl (z6 (fun _=>rfl)) ?_|constructor))
      · rw [hG] at cf
        rw [hG,Bool.true_and] at hg
        rw [hg] at gc
        repeat' ((first|apply y6 ok;rfl|refine z14 (i:=i) rfl gx ?_|refine z14 (i:=u) rfl gc ?_|(apply y40;first|omega|unfold inI;omega)|apply z7<;>intro _|apply z8 cf;rfl;rfl)<;>conv=>whnf)
        all_goals try (exfalso;omega)
        all_goals refine z29 (i+1) ⟨hi2,hn2⟩ (by omega) (by refine swR [0,1] [] rfl rfl ?_;(repeat' first|exact y83 _|exact z10 _|refine z11 rfl (z6 (fun _=>rfl)) ?_|constructor))
  · have hL:=hrN fun j hj=>hno j (by omega)
    subst hL
    repeat' ((first|apply y6 ok;rfl|apply y40;omega|((apply z13;omega));intro _|apply z7<;>intro _)<;>conv=>whnf)
    all_goals try (exfalso;omega)
    all_goals show RetS _ _ (.tup [.sref 0 0 0,.sref 1 0 0,.bool false]) [.cells 1 [],.cells 1 []] _
    all_goals (refine y87 1 ?_;refine y87 1 ?_;refine rsD [2,3] [] rfl ?_;(repeat' first|exact y83 _|exact z56|refine z11 rfl z39 ?_|apply z156|constructor))
noncomputable def stepP (g:Graph) (p:List Int) (i:Nat):Bool:=(decide (0≤p.getD i 0) && decide (p.getD i 0 < g.st.length)) && (decide (i=0) || decide (p.getD i 0∈g.nx.getD (p.getD (i - 1) 0).toNat []))
noncomputable def pathB (g:Graph) (p:List Int):Bool:=z560 g && (decide (1≤p.length) && (List.range p.length).all (stepP g p))
theorem z1012 {g:Graph} {p:List Int} (hg:z560 g=true) (h0:1≤p.length) (h:∀ i,i < p.length→stepP g p i=true):pathB g p=true:=by
 unfold pathB
 have:(List.range p.length).all (stepP g p)=true:=by
  rw [y76]
  exact fun i hi=>h i (List.mem_range.1 hi)
 rw [this,hg,y79 h0];rfl
structure Trace where
 stem:List Int
 loop:List Int
deriving DecidableEq
def Trace.cs (t:Trace):List AC:=[ints t.stem,ints t.loop]
def Trace.all (t:Trace):List Int:=t.stem++t.loop
noncomputable def trB (g:Graph) (t:Trace):Bool:=decide (1≤t.loop.length∧t.stem.length+t.loop.length≤8000) && (pathB g t.all && (decide (t.all.getD 0 0=0) && decide (t.loop.getD 0 0∈g.nx.getD ((t.loop.getD (t.loop.length - 1) 0).toNat) [])))
def iniF (z:List (Bool×Bool)):Nat→List Int
 |0=>[]
 |k+1=>iniF z k++(if (z.getD k (false,false)).2=true then [(k:Int)] else [])
theorem z346 (z:List (Bool×Bool)):∀ k,(iniF z k).length≤k
 |0=>y49 _
 |k+1=>by
  have:=z346 z k
  rw [iniF,y44]
  split
  ·simp;omega
  ·simp;omega
def z128 (z:List (Bool×Bool)) (n k:Nat):List Bool:=(z.take k).map (·.1)++List.replicate (n - k) false
theorem z563 {z:List (Bool×Bool)} {n k:Nat} (h:k < z.length) (hn:k < n) {a:Bool} (ha:z[k].1=a):(z128 z n k).set k a=z128 z n (k+1):=by
 subst ha
 unfold z128
 rw [show n - k=(n - (k+1))+1 by omega,List.replicate_succ,List.set_append_right _ _ (by simp;omega)]
 simp only [y46,y45]
 rw [show k - min k z.length=0 by omega,List.set_cons_zero,y47 h,y61]
 simp
theorem z268 {z:List (Bool×Bool)} {n k:Nat} (h:k≤z.length) (hn:k≤n):(z128 z n k).length=n:=by
 unfold z128;simp;omega
def z1195 (bs:List Int) (i:Nat) (q:Int) (z:Bool×Bool) (q' : Int):Prop:=∃ a:Int,QQ 58 [.ptr 0 none 0,.int 3] [rdO bs q] (.int a) [rdO bs (q+1)]∧z.1=decide (a=0) ∧
  ((i=0∧∃ b:Int,QQ 58 [.ptr 0 none 0,.int 12] [rdO bs (q+1)] (.int b) [rdO bs (q+1+1)]∧((0 < b∧z.2=true∧q'=q+1+1)∨(¬ 0 < b∧∃ c:Int,QQ 58 [.ptr 0 none 0,.int 5] [rdO bs (q+1+1)] (.int c) [rdO bs (q+1+1+1)]∧z.2=decide (c=0)∧q'=q+1+1+1))) ∨
   (i≠0∧∃ c:Int,QQ 58 [.ptr 0 none 0,.int 5] [rdO bs (q+1)] (.int c) [rdO bs (q+1+1)]∧z.2=decide (c=0)∧q'=q+1+1))
theorem z1194 (bs:List Int) (hb:BytesOk bs) (i:Nat) (q:Int) (hq:0≤q∧q≤999990000):∃ z q',z1195 bs i q z q'∧q≤q'∧q'≤q+3:=by
 obtain ⟨a,_,ca⟩:=z73 bs hb q 3 (by omega) (by omega) (by omega)
 by_cases h:i=0
 ·obtain ⟨b,_,cb⟩:=z73 bs hb (q+1) 12 (by omega) (by omega) (by omega)
  by_cases h0:0 < b
  ·exact ⟨(decide (a=0),true),q+1+1,⟨a,ca,rfl,.inl ⟨h,b,cb,.inl ⟨h0,rfl,rfl⟩⟩⟩,by omega,by omega⟩
  ·obtain ⟨c,_,cc⟩:=z73 bs hb (q+1+1) 5 (by omega) (by omega) (by omega)
   exact ⟨(decide (a=0),decide (c=0)),q+1+1+1,⟨a,ca,rfl,.inl ⟨h,b,cb,.inr ⟨h0,c,cc,rfl,rfl⟩⟩⟩,by omega,by omega⟩
 ·obtain ⟨c,_,cc⟩:=z73 bs hb (q+1) 5 (by omega) (by omega) (by omega)
  exact ⟨(decide (a=0),decide (c=0)),q+1+1,⟨a,ca,rfl,.inr ⟨h,c,cc,rfl,rfl⟩⟩,by omega,by omega⟩
def isEdge (bs:List Int) (n:Nat) (q:Int) (e:Trans) (q' : Int):Prop:=∃ a w:Int,(0≤w∧w≤7)∧(0≤e.care∧e.care≤7)∧e.src=a∧e.val=((w.toNat &&& e.care.toNat:Nat):Int)∧q'=q+1+1+1+1 ∧
 QQ 60 [.ptr 0 none 0,.sref 1 0 5] [rdO bs q,.cells 1 ([1,3,0,2,7].map enI)] (.int e.care) [rdO bs (q+1),.cells 1 ([1,3,0,2,7].map enI)] ∧
 QQ 58 [.ptr 0 none 0,.int n] [rdO bs (q+1)] (.int a) [rdO bs (q+1+1)] ∧
 QQ 58 [.ptr 0 none 0,.int 8] [rdO bs (q+1+1)] (.int w) [rdO bs (q+1+1+1)] ∧
 QQ 58 [.ptr 0 none 0,.int n] [rdO bs (q+1+1+1)] (.int e.dst) [rdO bs (q+1+1+1+1)]
structure AutD (bs:List Int) (q q' : Int) (n m:Nat) (z:List (Bool×Bool)) (E:List Trans) (pf pg:Nat→Int):Prop where
 num:QQ 60 [.ptr 0 none 0,.sref 1 0 5] [rdO bs q,.cells 1 ([3,2,4,1,5].map enI)] (.int n) [rdO bs (pf 0),.cells 1 ([3,2,4,1,5].map enI)]
 n1:1≤n
 n5:n≤5
 zl:z.length=n
 node:∀ k (h:k < z.length),z1195 bs k (pf k) z[k] (pf (k+1))
 mid:QQ 60 [.ptr 0 none 0,.sref 1 0 5] [rdO bs (pf n),.cells 1 ([6,4,8,3,10].map enI)] (.int m) [rdO bs (pg 0),.cells 1 ([6,4,8,3,10].map enI)]
 m10:m≤10
 el:E.length=m
 edge:∀ k (h:k < E.length),isEdge bs n (pg k) E[k] (pg (k+1))
 last:pg m=q'
 q0:q≤q'
 q1:q'≤q+60
theorem z1262 (bs:List Int) (hb:BytesOk bs) (q:Int) (hq:0≤q∧q≤999980000):∃ q' n m z E pf pg,AutD bs q q' n m z E pf pg:=by
 obtain ⟨w,mw,cw⟩:=z115 bs hb q (by omega) (by omega) [3,2,4,1,5] (by decide) (by decide)
 simp only [List.mem_cons,List.not_mem_nil,or_false] at mw
 obtain ⟨n,rfl⟩:∃ n:Nat,w=n:=⟨w.toNat,by omega⟩
 obtain ⟨z,pf,h1,h2,h3,h4⟩:=z394 (fun k r t r'=>z1195 bs k r t r') (q+1) 3 n (fun k r hk a1 a2=>z1194 bs hb k r ⟨by omega,by omega⟩)
 have h5:=h4 n (y49 _)
 obtain ⟨v,mv,cv⟩:=z115 bs hb (pf n) (by omega) (by omega) [6,4,8,3,10] (by decide) (by decide)
 simp only [List.mem_cons,List.not_mem_nil,or_false] at mv
 obtain ⟨m,rfl⟩:∃ m:Nat,v=m:=⟨v.toNat,by omega⟩
 obtain ⟨E,pg,g1,g2,g3,g4⟩:=z394 (fun _ r t r'=>isEdge bs n r t r') (pf n+1) 4 m (fun k r hk a1 a2=>by
  obtain ⟨c,mc,cc⟩:=z115 bs hb r (by omega) (by omega) [1,3,0,2,7] (by decide) (by decide)
  simp only [List.mem_cons,List.not_mem_nil,or_false] at mc
  obtain ⟨a,_,ca⟩:=z73 bs hb (r+1) n (by omega) (by omega) (by omega)
  obtain ⟨w,_,cw⟩:=z73 bs hb (r+1+1) 8 (by omega) (by omega) (by omega)
  obtain ⟨d,_,cd⟩:=z73 bs hb (r+1+1+1) n (by omega) (by omega) (by omega)
  exact ⟨⟨a,c,((w.toNat &&& c.toNat:Nat):Int),d⟩,r+1+1+1+1,⟨a,w,⟨by omega,by omega⟩,⟨by show 0≤c;omega,by show c≤7;omega⟩,rfl,rfl,rfl,cc,ca,cw,cd⟩,by omega,by omega⟩)
 have g5:=g4 m (y49 _)
 exact ⟨pg m,n,m,z,E,pf,pg,by rw [← h2] at cw;exact cw,by omega,by omega,h1,h3,by rw [g2];exact cv,by omega,g1,g3,rfl,by omega,by omega⟩
set_option maxHeartbeats 6400000 in
theorem z597 (bs : List Int) (hb : BytesOk bs) (p : Int) (hp : few3 p) : ∃ (a : Aut) (p' : Int), (a.ini.length ≤ 32 ∧ a.acc.length ≤ 16 ∧ a.ed.length ≤ 2080 ∧ p ≤ p' ∧ p' ≤ p + 200 ∧ ∀ t ∈ a.ed, t.mx) ∧
  QQ 44 [.ptr 0 none 0] [rdO bs p] (.agg [.sref 1 0 a.ini.length,.sref 2 0 a.acc.length,.sref 3 0 a.ed.length]) [rdO bs p',.cells 1 (a.ini.map enI),.cells 1 (a.acc.map enB),.cells 4 (a.ed.map Trans.cs)]:=by
 obtain ⟨v,⟨v0,v1⟩,cv⟩:=z73 bs hb p 3 (by omega) (by omega) (by omega)
 by_cases hv:v=0
 ·subst hv
  obtain ⟨t,q,⟨t1,t2,t3⟩,ct⟩:=z784 bs hb (p+1) ⟨by omega,by omega⟩
  have cT:=z1093 t (by omega)
  obtain ⟨b1,b2,b3⟩:=trA_len t (by omega)
  have b4:=trA_val t (by omega)
  rw [y16] at ct cT
  generalize trA t=A0 at *
  generalize tsB t=B0 at *
  by_cases h16:A0.acc.length≤16∧B0=true
  ·obtain ⟨h16,rfl⟩:=h16
   refine ⟨A0,q,⟨by omega,h16,by omega,by omega,by omega,b4⟩,?_⟩
   refine z12 z24 func44 rfl rfl 91 ntmps44 (by simp) ?_
   repeat' ((first|apply y6 ok;rfl|apply z7<;>intro _|(first|apply z15 [0] [] cv;rfl;rfl|apply z15 [0] [] ct;rfl;rfl|apply z15 [] [2,3,4] cT;rfl;rfl);rfl;(focus ((repeat' first|exact z23|apply z19)<;>first|exact z58 rfl rfl|refine z30 ?_;((exact z6 fun _=>rfl)))))<;>conv=>whnf)
   all_goals try (exfalso;omega)
   all_goals (refine rsD [0,2,3,4] [] rfl ?_;(repeat' first|exact y83 _|exact z10 _|apply y85|refine z11 rfl (z6 (fun _=>rfl)) ?_|constructor))
  ·obtain ⟨q',n,m,z,E,pf,pg,F⟩:=z1262 bs hb q ⟨by omega,by omega⟩
   obtain ⟨Y1,Y2,Y3,Y4,Y5,Y6,Y7,Y8,Y9,Y10,Y11,Y12⟩:=F
   have hil:=z346 z n
   have hEv:∀ t∈E,t.mx:=fun t ht=>by
    obtain ⟨i,hi,rfl⟩:=List.mem_iff_getElem.1 ht
    obtain ⟨a,w,hw,hc,e1,e2,_⟩:=Y9 i hi
    show inI _
    rw [e2]
    have:=@Nat.and_le_left w.toNat E[i].care.toNat
    unfold inI;omega
   refine ⟨⟨iniF z n,z.map (·.1),E⟩,q',⟨by show (iniF z n).length≤32;omega,by show (z.map (·.1)).length≤16;simp;omega,by show E.length≤2080;omega,by omega,by omega,hEv⟩,?_⟩
   cases B0
   ·refine z12 z24 func44 rfl rfl 91 ntmps44 (by simp) ?_
    repeat' ((first|apply y6 ok;rfl|apply y40;(dsimp only;omega)|(first|apply z15 [0] [] cv;rfl;rfl|apply z15 [0] [] ct;rfl;rfl|apply z15 [] [2,3,4] cT;rfl;rfl|apply z15 [0,6] [] Y1;rfl;rfl);rfl;(focus ((repeat' first|exact z23|apply z19)<;>first|exact z58 rfl rfl|refine z30 ?_;((exact z6 fun _=>rfl)))))<;>conv=>whnf)
    all_goals
     have hz0:(z128 z n 0).map enB=List.replicate n [.bool false]:=by simp [z128,enB]
     refine y82 (y86 1 rfl) ?_
     refine z69 (fun x:Nat×List Bool×List Int=>([(0,.ptr 0 none 0),(2,.ptr 1 none 0),(5,.int n),(6,.ptr 2 none 0),(7,.int x.1)],[rdO bs (pf x.1),.cells 3 [[.nils,.nils,.nils]],.cells 3 [[.sref 4 0 x.2.2.length,.sref 3 0 n,.nils]],.cells 1 (x.2.1.map enB),.cells 1 (x.2.2.map enI)])) (fun x=>x.1≤n∧x.2.1=z128 z n x.1∧x.2.2=iniF z x.1) (fun x=>n - x.1) (0,z128 z n 0,[]) ⟨by show 0≤n;omega,rfl,rfl⟩ (by refine swR [0,1,8,7,9] [] rfl rfl ?_;(repeat' first|exact y83 _|exact z56|apply y85|(refine z11 rfl ?_ ?_);(focus ((repeat' (first|exact z39|exact z54 rfl));done))|constructor)<;>((exact z21 hz0.symm))) ?_
     rintro ⟨k,A,I⟩ ⟨hk,hA,hI⟩
     dsimp only at hk hA hI ⊢
     have hAl:A.length=n:=by rw [hA];exact z268 (by omega) hk
     have hIl:=z346 z k
     rw [← hI] at hIl
     by_cases hkn:k < n
     ·have hkz:k < z.length:=by omega
      obtain ⟨a,ca,e1,H⟩:=Y5 k hkz
      have hset:=z563 hkz hkn e1
      rw [← hA] at hset
      have hset2:(A.map enB).set k (enB (decide (a=0)))=(z128 z n (k+1)).map enB:=by rw [← hset,List.map_set]
      have hin:iniF z (k+1)=I++(if (z.getD k (false,false)).2=true then [(k:Int)] else []):=by rw [iniF,hI]
      rw [z20 hkz] at hin
      have hA2l:(z128 z n (k+1)).length=n:=z268 (by omega) (by omega)
      generalize z[k]=zk at *
      obtain ⟨z1,z2⟩:=zk
      dsimp only at e1 H hin
      rcases H with ⟨i0,b,cb,(⟨b0,e2,eq⟩|⟨b0,c,cc,e2,eq⟩)⟩|⟨i0,c,cc,e2,eq⟩
      ·rw [← eq] at cb
       subst e2
       rw [if_pos rfl] at hin
       repeat' ((first|apply y6 ok;rfl|apply z27;kernel_rfl|(apply y40;first|omega|unfold inI;omega|dsimp only;omega|exact ⟨rfl,z17 rfl z26⟩)|((apply z13;omega));intro _|apply z7<;>intro _|(first|apply z31 [0] [] ca;rfl;rfl|apply z31 [0] [] cb;rfl;rfl);rfl)<;>conv=>whnf)
       all_goals try (exfalso;omega)
       all_goals refine z29 (k+1,z128 z n (k+1),I++[(k:Int)]) ⟨by show k+1≤n;omega,rfl,hin.symm⟩ (by show n - (k+1) < n - k;omega) (by refine swR [0,1,2,3,6] [] rfl rfl ?_;(repeat' first|exact y83 _|refine z44 ?_;((simp;done))|apply y85|(first|refine z33 rfl ?_ ?_|refine z50 rfl ?_ ?_);(focus ((repeat' (first|exact z6 (fun _=>rfl)|apply z25));done))|refine z77 ?_ ?_;(focus omega)|constructor)<;>(exact z21 hset2))
      ·rw [← eq] at cc
       by_cases hc0:c=0
       ·rw [e2,if_pos (y79 hc0)] at hin
        repeat' ((first|apply y6 ok;rfl|apply z27;kernel_rfl|(apply y40;first|omega|unfold inI;omega|dsimp only;omega|exact ⟨rfl,z17 rfl z26⟩)|((apply z13;omega));intro _|apply z7<;>intro _|(first|apply z31 [0] [] ca;rfl;rfl|apply z31 [0] [] cb;rfl;rfl|apply z31 [0] [] cc;rfl;rfl);rfl)<;>conv=>whnf)
        all_goals try (exfalso;omega)
        all_goals refine z29 (k+1,z128 z n (k+1),I++[(k:Int)]) ⟨by show k+1≤n;omega,rfl,hin.symm⟩ (by show n - (k+1) < n - k;omega) (by refine swR [0,1,2,3,6] [] rfl rfl ?_;(repeat' first|exact y83 _|refine z44 ?_;((simp;done))|apply y85|(first|refine z33 rfl ?_ ?_|refine z50 rfl ?_ ?_);(focus ((repeat' (first|exact z6 (fun _=>rfl)|apply z25));done))|refine z77 ?_ ?_;(focus omega)|constructor)<;>(exact z21 hset2))
       ·rw [e2,if_neg (by simpa using hc0),y62] at hin
        repeat' ((first|apply y6 ok;rfl|apply z27;kernel_rfl|(apply y40;first|omega|unfold inI;omega)|((apply z13;omega));intro _|apply z7<;>intro _|(first|apply z31 [0] [] ca;rfl;rfl|apply z31 [0] [] cb;rfl;rfl|apply z31 [0] [] cc;rfl;rfl);rfl)<;>conv=>whnf)
        all_goals try (exfalso;omega)
        all_goals refine z29 (k+1,z128 z n (k+1),I) ⟨by show k+1≤n;omega,rfl,hin.symm⟩ (by show n - (k+1) < n - k;omega) (by refine swR [0,1,2,3,4] [] rfl rfl ?_;(repeat' first|exact y83 _|exact z10 _|apply y85|refine z50 rfl (z6 (fun _=>rfl)) ?_|refine z11 rfl (z6 (fun _=>rfl)) ?_|constructor)<;>(exact z21 hset2))
      ·rw [← eq] at cc
       by_cases hc0:c=0
       ·rw [e2,if_pos (y79 hc0)] at hin
        repeat' ((first|apply y6 ok;rfl|apply z27;kernel_rfl|(apply y40;first|omega|unfold inI;omega|(try dsimp only);simp only [y46,y45,y44,y43,y55,y56];omega|exact ⟨rfl,z17 rfl z26⟩)|((apply z13;omega));intro _|apply z7<;>intro _|(first|apply z31 [0] [] ca;rfl;rfl|apply z31 [0] [] cc;rfl;rfl);rfl)<;>conv=>whnf)
        all_goals try (exfalso;omega)
        all_goals refine z29 (k+1,z128 z n (k+1),I++[(k:Int)]) ⟨by show k+1≤n;omega,rfl,hin.symm⟩ (by show n - (k+1) < n - k;omega) (by refine swR [0,1,2,3,6] [] rfl rfl ?_;(repeat' first|exact y83 _|refine z44 ?_;((simp;done))|apply y85|(first|refine z33 rfl ?_ ?_|refine z50 rfl ?_ ?_);(focus ((repeat' (first|exact z6 (fun _=>rfl)|apply z25));done))|refine z77 ?_ ?_;(focus omega)|constructor)<;>(exact z21 hset2))
       ·rw [e2,if_neg (by simpa using hc0),y62] at hin
        repeat' ((first|apply y6 ok;rfl|apply z27;kernel_rfl|(apply y40;first|omega|unfold inI;omega)|((apply z13;omega));intro _|apply z7<;>intro _|(first|apply z31 [0] [] ca;rfl;rfl|apply z31 [0] [] cc;rfl;rfl);rfl)<;>conv=>whnf)
        all_goals try (exfalso;omega)
        all_goals refine z29 (k+1,z128 z n (k+1),I) ⟨by show k+1≤n;omega,rfl,hin.symm⟩ (by show n - (k+1) < n - k;omega) (by refine swR [0,1,2,3,4] [] rfl rfl ?_;(repeat' first|exact y83 _|exact z10 _|apply y85|refine z50 rfl (z6 (fun _=>rfl)) ?_|refine z11 rfl (z6 (fun _=>rfl)) ?_|constructor)<;>(exact z21 hset2))
     ·have e:n=k:=by omega
      subst e
      have hA2:z.map (·.1)=A:=by
       rw [hA];unfold z128
       rw [Nat.sub_self,y54 (by omega)];simp
      rw [hA2,← hI]
      clear hA hI hz0 Y5 hA2
      repeat' ((first|apply y6 ok;rfl|apply z7<;>intro _|apply z15 [0,5] [] Y6;rfl;rfl;rfl;(focus ((repeat' first|exact z23|apply z19)<;>first|exact z58 rfl rfl|refine z30 ?_;((exact z6 fun _=>rfl)))))<;>conv=>whnf)
      all_goals try (exfalso;omega)
      all_goals
       refine y82 (y86 4 rfl) ?_
       refine z69 (fun j:Nat=>([(0,.ptr 0 none 0),(2,.ptr 1 none 0),(5,.int n),(6,.ptr 2 none 0),(8,.int (m - j))],[rdO bs (pg j),.cells 3 [[.nils,.nils,.nils]],.cells 3 [[.sref 4 0 I.length,.sref 3 0 n,.sref 5 0 j]],.cells 1 (A.map enB),.cells 1 (I.map enI),.cells 4 ((E.take j).map Trans.cs)])) (fun j=>j≤m) (fun j=>m - j) 0 (by omega) (by refine swR [0,1,2,3,4,6] [] rfl rfl ?_;(repeat' first|exact y83 _|exact z56|exact z10 _|apply y85|(refine z11 rfl ?_ ?_);(focus ((repeat' (first|exact z39|exact z6 (fun _=>rfl)));done))|constructor)) ?_
       intro j hj
       by_cases hjm:j < m
       ·have hjl:j < E.length:=by omega
        obtain ⟨a,w,hw,hc,e1,e2,eq,c1,c2,c3,c4⟩:=Y9 j hjl
        rw [← eq] at c4
        rw [← e1] at c2
        have hbits:z129 w E[j].care:=⟨by omega,by omega,by omega,by omega⟩
        repeat' ((first|apply y6 ok;rfl|apply z27;kernel_rfl|refine y40 hbits ?_|(apply y40;first|unfold inI;omega|(try dsimp only);simp only [y46,y45,y44,y43,y55,y56];omega|exact ⟨rfl,z17 rfl z26⟩)|apply z7<;>intro _|(first|apply z15 [0,6] [] c1;rfl;rfl|apply z15 [0] [] c2;rfl;rfl|apply z15 [0] [] c3;rfl;rfl|apply z15 [0] [] c4;rfl;rfl);rfl;(focus ((repeat' first|exact z23|apply z19)<;>first|exact z58 rfl rfl|refine z30 ?_;((exact z6 fun _=>rfl)))))<;>conv=>whnf)
        all_goals try (exfalso;omega)
        all_goals refine z29 (j+1) (by omega) (by omega) (by refine swR [0,1,2,3,4,8] [] rfl rfl ?_;(repeat' first|exact y83 _|exact z10 _|refine z160 ?_;omega|apply y85|(first|refine z33 rfl ?_ ?_|refine z11 rfl ?_ ?_);(focus ((repeat' (first|exact z6 (fun _=>rfl)|apply z25));done))|refine z130 (by omega) (by omega) ?_|constructor)<;>(fail))
       ·have e:m=j:=by omega
        subst e
        repeat' ((first|apply y6 ok;rfl|apply z7<;>intro _)<;>conv=>whnf)
        all_goals try (exfalso;omega)
        all_goals (refine rsD [0,4,3,5] [] rfl ?_;(repeat' first|exact y83 _|exact z10 _|refine z160 ?_;omega|refine z44 ?_;(omega)|apply y85|refine z11 rfl (z6 (fun _=>rfl)) ?_|apply z57|constructor))
        all_goals exact z21 (by rw [y54 (by omega)])
   ·have h17:¬ A0.acc.length≤16:=fun h=>h16 ⟨h,rfl⟩
    refine z12 z24 func44 rfl rfl 91 ntmps44 (by simp) ?_
    repeat' ((first|apply y6 ok;rfl|apply y40;(dsimp only;omega)|apply z7<;>intro _|(first|apply z15 [0] [] cv;rfl;rfl|apply z15 [0] [] ct;rfl;rfl|apply z15 [] [2,3,4] cT;rfl;rfl|apply z15 [0,6] [] Y1;rfl;rfl);rfl;(focus ((repeat' first|exact z23|apply z19)<;>first|exact z58 rfl rfl|refine z30 ?_;((exact z6 fun _=>rfl)))))<;>conv=>whnf)
    all_goals try (exfalso;omega)
    all_goals
     have hz0:(z128 z n 0).map enB=List.replicate n [.bool false]:=by simp [z128,enB]
     refine y82 (y86 1 rfl) ?_
     refine z69 (fun x:Nat×List Bool×List Int=>([(0,.ptr 0 none 0),(2,.ptr 1 none 0),(5,.int n),(6,.ptr 2 none 0),(7,.int x.1)],[rdO bs (pf x.1),.cells 3 [[.nils,.nils,.nils]],.cells 3 [[.sref 4 0 x.2.2.length,.sref 3 0 n,.nils]],.cells 1 (x.2.1.map enB),.cells 1 (x.2.2.map enI)])) (fun x=>x.1≤n∧x.2.1=z128 z n x.1∧x.2.2=iniF z x.1) (fun x=>n - x.1) (0,z128 z n 0,[]) ⟨by show 0≤n;omega,rfl,rfl⟩ (by refine swR [0,1,8,7,9] [] rfl rfl ?_;(repeat' first|exact y83 _|exact z56|apply y85|(refine z11 rfl ?_ ?_);(focus ((repeat' (first|exact z39|exact z54 rfl));done))|constructor)<;>((exact z21 hz0.symm))) ?_
     rintro ⟨k,A,I⟩ ⟨hk,hA,hI⟩
     dsimp only at hk hA hI ⊢
     have hAl:A.length=n:=by rw [hA];exact z268 (by omega) hk
     have hIl:=z346 z k
     rw [← hI] at hIl
     by_cases hkn:k < n
     ·have hkz:k < z.length:=by omega
      obtain ⟨a,ca,e1,H⟩:=Y5 k hkz
      have hset:=z563 hkz hkn e1
      rw [← hA] at hset
      have hset2:(A.map enB).set k (enB (decide (a=0)))=(z128 z n (k+1)).map enB:=by rw [← hset,List.map_set]
      have hin:iniF z (k+1)=I++(if (z.getD k (false,false)).2=true then [(k:Int)] else []):=by rw [iniF,hI]
      rw [z20 hkz] at hin
      have hA2l:(z128 z n (k+1)).length=n:=z268 (by omega) (by omega)
      generalize z[k]=zk at *
      obtain ⟨z1,z2⟩:=zk
      dsimp only at e1 H hin
      rcases H with ⟨i0,b,cb,(⟨b0,e2,eq⟩|⟨b0,c,cc,e2,eq⟩)⟩|⟨i0,c,cc,e2,eq⟩
      ·rw [← eq] at cb
       subst e2
       rw [if_pos rfl] at hin
       repeat' ((first|apply y6 ok;rfl|apply z27;kernel_rfl|(apply y40;first|omega|unfold inI;omega|dsimp only;omega|exact ⟨rfl,z17 rfl z26⟩)|((apply z13;omega));intro _|apply z7<;>intro _|(first|apply z31 [0] [] ca;rfl;rfl|apply z31 [0] [] cb;rfl;rfl);rfl)<;>conv=>whnf)
       all_goals try (exfalso;omega)
       all_goals refine z29 (k+1,z128 z n (k+1),I++[(k:Int)]) ⟨by show k+1≤n;omega,rfl,hin.symm⟩ (by show n - (k+1) < n - k;omega) (by refine swR [0,1,2,3,6] [] rfl rfl ?_;(repeat' first|exact y83 _|refine z44 ?_;((simp;done))|apply y85|(first|refine z33 rfl ?_ ?_|refine z50 rfl ?_ ?_);(focus ((repeat' (first|exact z6 (fun _=>rfl)|apply z25));done))|refine z77 ?_ ?_;(focus omega)|constructor)<;>(exact z21 hset2))
      ·rw [← eq] at cc
       by_cases hc0:c=0
       ·rw [e2,if_pos (y79 hc0)] at hin
        repeat' ((first|apply y6 ok;rfl|apply z27;kernel_rfl|(apply y40;first|omega|unfold inI;omega|dsimp only;omega|exact ⟨rfl,z17 rfl z26⟩)|((apply z13;omega));intro _|apply z7<;>intro _|(first|apply z31 [0] [] ca;rfl;rfl|apply z31 [0] [] cb;rfl;rfl|apply z31 [0] [] cc;rfl;rfl);rfl)<;>conv=>whnf)
        all_goals try (exfalso;omega)
        all_goals refine z29 (k+1,z128 z n (k+1),I++[(k:Int)]) ⟨by show k+1≤n;omega,rfl,hin.symm⟩ (by show n - (k+1) < n - k;omega) (by refine swR [0,1,2,3,6] [] rfl rfl ?_;(repeat' first|exact y83 _|refine z44 ?_;((simp;done))|apply y85|(first|refine z33 rfl ?_ ?_|refine z50 rfl ?_ ?_);(focus ((repeat' (first|exact z6 (fun _=>rfl)|apply z25));done))|refine z77 ?_ ?_;(focus omega)|constructor)<;>(exact z21 hset2))
       ·rw [e2,if_neg (by simpa using hc0),y62] at hin
        repeat' ((first|apply y6 ok;rfl|apply z27;kernel_rfl|(apply y40;first|omega|unfold inI;omega)|((apply z13;omega));intro _|apply z7<;>intro _|(first|apply z31 [0] [] ca;rfl;rfl|apply z31 [0] [] cb;rfl;rfl|apply z31 [0] [] cc;rfl;rfl);rfl)<;>conv=>whnf)
        all_goals try (exfalso;omega)
        all_goals refine z29 (k+1,z128 z n (k+1),I) ⟨by show k+1≤n;omega,rfl,hin.symm⟩ (by show n - (k+1) < n - k;omega) (by refine swR [0,1,2,3,4] [] rfl rfl ?_;(repeat' first|exact y83 _|exact z10 _|apply y85|refine z50 rfl (z6 (fun _=>rfl)) ?_|refine z11 rfl (z6 (fun _=>rfl)) ?_|constructor)<;>(exact z21 hset2))
      ·rw [← eq] at cc
       by_cases hc0:c=0
       ·rw [e2,if_pos (y79 hc0)] at hin
        repeat' ((first|apply y6 ok;rfl|apply z27;kernel_rfl|(apply y40;first|omega|unfold inI;omega|(try dsimp only);simp only [y46,y45,y44,y43,y55,y56];omega|exact ⟨rfl,z17 rfl z26⟩)|((apply z13;omega));intro _|apply z7<;>intro _|(first|apply z31 [0] [] ca;rfl;rfl|apply z31 [0] [] cc;rfl;rfl);rfl)<;>conv=>whnf)
        all_goals try (exfalso;omega)
        all_goals refine z29 (k+1,z128 z n (k+1),I++[(k:Int)]) ⟨by show k+1≤n;omega,rfl,hin.symm⟩ (by show n - (k+1) < n - k;omega) (by refine swR [0,1,2,3,6] [] rfl rfl ?_;(repeat' first|exact y83 _|refine z44 ?_;((simp;done))|apply y85|(first|refine z33 rfl ?_ ?_|refine z50 rfl ?_ ?_);(focus ((repeat' (first|exact z6 (fun _=>rfl)|apply z25));done))|refine z77 ?_ ?_;(focus omega)|constructor)<;>(exact z21 hset2))
       ·rw [e2,if_neg (by simpa using hc0),y62] at hin
        repeat' ((first|apply y6 ok;rfl|apply z27;kernel_rfl|(apply y40;first|omega|unfold inI;omega)|((apply z13;omega));intro _|apply z7<;>intro _|(first|apply z31 [0] [] ca;rfl;rfl|apply z31 [0] [] cc;rfl;rfl);rfl)<;>conv=>whnf)
        all_goals try (exfalso;omega)
        all_goals refine z29 (k+1,z128 z n (k+1),I) ⟨by show k+1≤n;omega,rfl,hin.symm⟩ (by show n - (k+1) < n - k;omega) (by refine swR [0,1,2,3,4] [] rfl rfl ?_;(repeat' first|exact y83 _|exact z10 _|apply y85|refine z50 rfl (z6 (fun _=>rfl)) ?_|refine z11 rfl (z6 (fun _=>rfl)) ?_|constructor)<;>(exact z21 hset2))
     ·have e:n=k:=by omega
      subst e
      have hA2:z.map (·.1)=A:=by
       rw [hA];unfold z128
       rw [Nat.sub_self,y54 (by omega)];simp
      rw [hA2,← hI]
      clear hA hI hz0 Y5 hA2
      repeat' ((first|apply y6 ok;rfl|apply z7<;>intro _|apply z15 [0,5] [] Y6;rfl;rfl;rfl;(focus ((repeat' first|exact z23|apply z19)<;>first|exact z58 rfl rfl|refine z30 ?_;((exact z6 fun _=>rfl)))))<;>conv=>whnf)
      all_goals try (exfalso;omega)
      all_goals
       refine y82 (y86 4 rfl) ?_
       refine z69 (fun j:Nat=>([(0,.ptr 0 none 0),(2,.ptr 1 none 0),(5,.int n),(6,.ptr 2 none 0),(8,.int (m - j))],[rdO bs (pg j),.cells 3 [[.nils,.nils,.nils]],.cells 3 [[.sref 4 0 I.length,.sref 3 0 n,.sref 5 0 j]],.cells 1 (A.map enB),.cells 1 (I.map enI),.cells 4 ((E.take j).map Trans.cs)])) (fun j=>j≤m) (fun j=>m - j) 0 (by omega) (by refine swR [0,1,2,3,4,6] [] rfl rfl ?_;(repeat' first|exact y83 _|exact z56|exact z10 _|apply y85|(refine z11 rfl ?_ ?_);(focus ((repeat' (first|exact z39|exact z6 (fun _=>rfl)));done))|constructor)) ?_
       intro j hj
       by_cases hjm:j < m
       ·have hjl:j < E.length:=by omega
        obtain ⟨a,w,hw,hc,e1,e2,eq,c1,c2,c3,c4⟩:=Y9 j hjl
        rw [← eq] at c4
        rw [← e1] at c2
        have hbits:z129 w E[j].care:=⟨by omega,by omega,by omega,by omega⟩
        repeat' ((first|apply y6 ok;rfl|apply z27;kernel_rfl|refine y40 hbits ?_|(apply y40;first|unfold inI;omega|(try dsimp only);simp only [y46,y45,y44,y43,y55,y56];omega|exact ⟨rfl,z17 rfl z26⟩)|apply z7<;>intro _|(first|apply z15 [0,6] [] c1;rfl;rfl|apply z15 [0] [] c2;rfl;rfl|apply z15 [0] [] c3;rfl;rfl|apply z15 [0] [] c4;rfl;rfl);rfl;(focus ((repeat' first|exact z23|apply z19)<;>first|exact z58 rfl rfl|refine z30 ?_;((exact z6 fun _=>rfl)))))<;>conv=>whnf)
        all_goals try (exfalso;omega)
        all_goals refine z29 (j+1) (by omega) (by omega) (by refine swR [0,1,2,3,4,8] [] rfl rfl ?_;(repeat' first|exact y83 _|exact z10 _|refine z160 ?_;omega|apply y85|(first|refine z33 rfl ?_ ?_|refine z11 rfl ?_ ?_);(focus ((repeat' (first|exact z6 (fun _=>rfl)|apply z25));done))|refine z130 (by omega) (by omega) ?_|constructor)<;>(fail))
       ·have e:m=j:=by omega
        subst e
        repeat' ((first|apply y6 ok;rfl|apply z7<;>intro _)<;>conv=>whnf)
        all_goals try (exfalso;omega)
        all_goals (refine rsD [0,4,3,5] [] rfl ?_;(repeat' first|exact y83 _|exact z10 _|refine z160 ?_;omega|refine z44 ?_;(omega)|apply y85|refine z11 rfl (z6 (fun _=>rfl)) ?_|apply z57|constructor))
        all_goals exact z21 (by rw [y54 (by omega)])
 ·obtain ⟨q',n,m,z,E,pf,pg,F⟩:=z1262 bs hb (p+1) ⟨by omega,by omega⟩
  obtain ⟨Y1,Y2,Y3,Y4,Y5,Y6,Y7,Y8,Y9,Y10,Y11,Y12⟩:=F
  have hil:=z346 z n
  have hEv:∀ t∈E,t.mx:=fun t ht=>by
   obtain ⟨i,hi,rfl⟩:=List.mem_iff_getElem.1 ht
   obtain ⟨a,w,hw,hc,e1,e2,_⟩:=Y9 i hi
   show inI _
   rw [e2]
   have:=@Nat.and_le_left w.toNat E[i].care.toNat
   unfold inI;omega
  refine ⟨⟨iniF z n,z.map (·.1),E⟩,q',⟨by show (iniF z n).length≤32;omega,by show (z.map (·.1)).length≤16;simp;omega,by show E.length≤2080;omega,by omega,by omega,hEv⟩,?_⟩
  refine z12 z24 func44 rfl rfl 91 ntmps44 (by simp) ?_
  repeat' ((first|apply y6 ok;rfl|apply y40;(dsimp only;omega)|apply z7<;>intro _|(first|apply z15 [0] [] cv;rfl;rfl|apply z15 [0,2] [] Y1;rfl;rfl);rfl;(focus ((repeat' first|exact z23|apply z19)<;>first|exact z58 rfl rfl|refine z30 ?_;((exact z6 fun _=>rfl)))))<;>conv=>whnf)
  all_goals try (exfalso;omega)
  all_goals
   have hz0:(z128 z n 0).map enB=List.replicate n [.bool false]:=by simp [z128,enB]
   refine y82 (y86 1 rfl) ?_
   refine z69 (fun x:Nat×List Bool×List Int=>([(0,.ptr 0 none 0),(2,.ptr 1 none 0),(5,.int n),(6,.ptr 2 none 0),(7,.int x.1)],[rdO bs (pf x.1),.cells 3 [[.nils,.nils,.nils]],.cells 3 [[.sref 4 0 x.2.2.length,.sref 3 0 n,.nils]],.cells 1 (x.2.1.map enB),.cells 1 (x.2.2.map enI)])) (fun x=>x.1≤n∧x.2.1=z128 z n x.1∧x.2.2=iniF z x.1) (fun x=>n - x.1) (0,z128 z n 0,[]) ⟨by show 0≤n;omega,rfl,rfl⟩ (by refine swR [0,1,4,3,5] [] rfl rfl ?_;(repeat' first|exact y83 _|exact z56|apply y85|(refine z11 rfl ?_ ?_);(focus ((repeat' (first|exact z39|exact z54 rfl));done))|constructor)<;>((exact z21 hz0.symm))) ?_
   rintro ⟨k,A,I⟩ ⟨hk,hA,hI⟩
   dsimp only at hk hA hI ⊢
   have hAl:A.length=n:=by rw [hA];exact z268 (by omega) hk
   have hIl:=z346 z k
   rw [← hI] at hIl
   by_cases hkn:k < n
   ·have hkz:k < z.length:=by omega
    obtain ⟨a,ca,e1,H⟩:=Y5 k hkz
    have hset:=z563 hkz hkn e1
    rw [← hA] at hset
    have hset2:(A.map enB).set k (enB (decide (a=0)))=(z128 z n (k+1)).map enB:=by rw [← hset,List.map_set]
    have hin:iniF z (k+1)=I++(if (z.getD k (false,false)).2=true then [(k:Int)] else []):=by rw [iniF,hI]
    rw [z20 hkz] at hin
    have hA2l:(z128 z n (k+1)).length=n:=z268 (by omega) (by omega)
    generalize z[k]=zk at *
    obtain ⟨z1,z2⟩:=zk
    dsimp only at e1 H hin
    rcases H with ⟨i0,b,cb,(⟨b0,e2,eq⟩|⟨b0,c,cc,e2,eq⟩)⟩|⟨i0,c,cc,e2,eq⟩
    ·rw [← eq] at cb
     subst e2
     rw [if_pos rfl] at hin
     repeat' ((first|apply y6 ok;rfl|apply z27;kernel_rfl|(apply y40;first|omega|unfold inI;omega|dsimp only;omega|exact ⟨rfl,z17 rfl z26⟩)|((apply z13;omega));intro _|apply z7<;>intro _|(first|apply z31 [0] [] ca;rfl;rfl|apply z31 [0] [] cb;rfl;rfl);rfl)<;>conv=>whnf)
     all_goals try (exfalso;omega)
     all_goals refine z29 (k+1,z128 z n (k+1),I++[(k:Int)]) ⟨by show k+1≤n;omega,rfl,hin.symm⟩ (by show n - (k+1) < n - k;omega) (by refine swR [0,1,2,3,6] [] rfl rfl ?_;(repeat' first|exact y83 _|refine z44 ?_;((simp;done))|apply y85|(first|refine z33 rfl ?_ ?_|refine z50 rfl ?_ ?_);(focus ((repeat' (first|exact z6 (fun _=>rfl)|apply z25));done))|refine z77 ?_ ?_;(focus omega)|constructor)<;>(exact z21 hset2))
    ·rw [← eq] at cc
     by_cases hc0:c=0
     ·rw [e2,if_pos (y79 hc0)] at hin
      repeat' ((first|apply y6 ok;rfl|apply z27;kernel_rfl|(apply y40;first|omega|unfold inI;omega|dsimp only;omega|exact ⟨rfl,z17 rfl z26⟩)|((apply z13;omega));intro _|apply z7<;>intro _|(first|apply z31 [0] [] ca;rfl;rfl|apply z31 [0] [] cb;rfl;rfl|apply z31 [0] [] cc;rfl;rfl);rfl)<;>conv=>whnf)
      all_goals try (exfalso;omega)
      all_goals refine z29 (k+1,z128 z n (k+1),I++[(k:Int)]) ⟨by show k+1≤n;omega,rfl,hin.symm⟩ (by show n - (k+1) < n - k;omega) (by refine swR [0,1,2,3,6] [] rfl rfl ?_;(repeat' first|exact y83 _|refine z44 ?_;((simp;done))|apply y85|(first|refine z33 rfl ?_ ?_|refine z50 rfl ?_ ?_);(focus ((repeat' (first|exact z6 (fun _=>rfl)|apply z25));done))|refine z77 ?_ ?_;(focus omega)|constructor)<;>(exact z21 hset2))
     ·rw [e2,if_neg (by simpa using hc0),y62] at hin
      repeat' ((first|apply y6 ok;rfl|apply z27;kernel_rfl|(apply y40;first|omega|unfold inI;omega)|((apply z13;omega));intro _|apply z7<;>intro _|(first|apply z31 [0] [] ca;rfl;rfl|apply z31 [0] [] cb;rfl;rfl|apply z31 [0] [] cc;rfl;rfl);rfl)<;>conv=>whnf)
      all_goals try (exfalso;omega)
      all_goals refine z29 (k+1,z128 z n (k+1),I) ⟨by show k+1≤n;omega,rfl,hin.symm⟩ (by show n - (k+1) < n - k;omega) (by refine swR [0,1,2,3,4] [] rfl rfl ?_;(repeat' first|exact y83 _|exact z10 _|apply y85|refine z50 rfl (z6 (fun _=>rfl)) ?_|refine z11 rfl (z6 (fun _=>rfl)) ?_|constructor)<;>(exact z21 hset2))
    ·rw [← eq] at cc
     by_cases hc0:c=0
     ·rw [e2,if_pos (y79 hc0)] at hin
      repeat' ((first|apply y6 ok;rfl|apply z27;kernel_rfl|(apply y40;first|omega|unfold inI;omega|(try dsimp only);simp only [y46,y45,y44,y43,y55,y56];omega|exact ⟨rfl,z17 rfl z26⟩)|((apply z13;omega));intro _|apply z7<;>intro _|(first|apply z31 [0] [] ca;rfl;rfl|apply z31 [0] [] cc;rfl;rfl);rfl)<;>conv=>whnf)
      all_goals try (exfalso;omega)
      all_goals refine z29 (k+1,z128 z n (k+1),I++[(k:Int)]) ⟨by show k+1≤n;omega,rfl,hin.symm⟩ (by show n - (k+1) < n - k;omega) (by refine swR [0,1,2,3,6] [] rfl rfl ?_;(repeat' first|exact y83 _|refine z44 ?_;((simp;done))|apply y85|(first|refine z33 rfl ?_ ?_|refine z50 rfl ?_ ?_);(focus ((repeat' (first|exact z6 (fun _=>rfl)|apply z25));done))|refine z77 ?_ ?_;(focus omega)|constructor)<;>(exact z21 hset2))
     ·rw [e2,if_neg (by simpa using hc0),y62] at hin
      repeat' ((first|apply y6 ok;rfl|apply z27;kernel_rfl|(apply y40;first|omega|unfold inI;omega)|((apply z13;omega));intro _|apply z7<;>intro _|(first|apply z31 [0] [] ca;rfl;rfl|apply z31 [0] [] cc;rfl;rfl);rfl)<;>conv=>whnf)
      all_goals try (exfalso;omega)
      all_goals refine z29 (k+1,z128 z n (k+1),I) ⟨by show k+1≤n;omega,rfl,hin.symm⟩ (by show n - (k+1) < n - k;omega) (by refine swR [0,1,2,3,4] [] rfl rfl ?_;(repeat' first|exact y83 _|exact z10 _|apply y85|refine z50 rfl (z6 (fun _=>rfl)) ?_|refine z11 rfl (z6 (fun _=>rfl)) ?_|constructor)<;>(exact z21 hset2))
   ·have e:n=k:=by omega
    subst e
    have hA2:z.map (·.1)=A:=by
     rw [hA];unfold z128
     rw [Nat.sub_self,y54 (by omega)];simp
    rw [hA2,← hI]
    clear hA hI hz0 Y5 hA2
    repeat' ((first|apply y6 ok;rfl|apply z7<;>intro _|apply z15 [0,5] [] Y6;rfl;rfl;rfl;(focus ((repeat' first|exact z23|apply z19)<;>first|exact z58 rfl rfl|refine z30 ?_;((exact z6 fun _=>rfl)))))<;>conv=>whnf)
    all_goals try (exfalso;omega)
    all_goals
     refine y82 (y86 4 rfl) ?_
     refine z69 (fun j:Nat=>([(0,.ptr 0 none 0),(2,.ptr 1 none 0),(5,.int n),(6,.ptr 2 none 0),(8,.int (m - j))],[rdO bs (pg j),.cells 3 [[.nils,.nils,.nils]],.cells 3 [[.sref 4 0 I.length,.sref 3 0 n,.sref 5 0 j]],.cells 1 (A.map enB),.cells 1 (I.map enI),.cells 4 ((E.take j).map Trans.cs)])) (fun j=>j≤m) (fun j=>m - j) 0 (by omega) (by refine swR [0,1,2,3,4,6] [] rfl rfl ?_;(repeat' first|exact y83 _|exact z56|exact z10 _|apply y85|(refine z11 rfl ?_ ?_);(focus ((repeat' (first|exact z39|exact z6 (fun _=>rfl)));done))|constructor)) ?_
     intro j hj
     by_cases hjm:j < m
     ·have hjl:j < E.length:=by omega
      obtain ⟨a,w,hw,hc,e1,e2,eq,c1,c2,c3,c4⟩:=Y9 j hjl
      rw [← eq] at c4
      rw [← e1] at c2
      have hbits:z129 w E[j].care:=⟨by omega,by omega,by omega,by omega⟩
      repeat' ((first|apply y6 ok;rfl|apply z27;kernel_rfl|refine y40 hbits ?_|(apply y40;first|unfold inI;omega|(try dsimp only);simp only [y46,y45,y44,y43,y55,y56];omega|exact ⟨rfl,z17 rfl z26⟩)|apply z7<;>intro _|(first|apply z15 [0,6] [] c1;rfl;rfl|apply z15 [0] [] c2;rfl;rfl|apply z15 [0] [] c3;rfl;rfl|apply z15 [0] [] c4;rfl;rfl);rfl;(focus ((repeat' first|exact z23|apply z19)<;>first|exact z58 rfl rfl|refine z30 ?_;((exact z6 fun _=>rfl)))))<;>conv=>whnf)
      all_goals try (exfalso;omega)
      all_goals refine z29 (j+1) (by omega) (by omega) (by refine swR [0,1,2,3,4,8] [] rfl rfl ?_;(repeat' first|exact y83 _|exact z10 _|refine z160 ?_;omega|apply y85|(first|refine z33 rfl ?_ ?_|refine z11 rfl ?_ ?_);(focus ((repeat' (first|exact z6 (fun _=>rfl)|apply z25));done))|refine z130 (by omega) (by omega) ?_|constructor)<;>(fail))
     ·have e:m=j:=by omega
      subst e
      repeat' ((first|apply y6 ok;rfl|apply z7<;>intro _)<;>conv=>whnf)
      all_goals try (exfalso;omega)
      all_goals (refine rsD [0,4,3,5] [] rfl ?_;(repeat' first|exact y83 _|exact z10 _|refine z160 ?_;omega|refine z44 ?_;(omega)|apply y85|refine z11 rfl (z6 (fun _=>rfl)) ?_|apply z57|constructor))
      all_goals exact z21 (by rw [y54 (by omega)])
def Aut.sm (a:Aut):Prop:=a.ini.length≤40∧a.acc.length≤20∧a.ed.length≤2100∧∀ t∈a.ed,t.mx
set_option maxHeartbeats 6400000 in
theorem z883 (bs : List Int) (hb : BytesOk bs) (p : Int) (hp : few p) (a : Aut) (ha : a.ini.length ≤ 32 ∧ a.acc.length ≤ 16 ∧ a.ed.length ≤ 2080 ∧ ∀ t ∈ a.ed, t.mx) : ∃ (a' : Aut) (p' : Int), (a'.sm ∧ p ≤ p' ∧ p' ≤ p + 2) ∧
  QQ 43 [.ptr 0 none 0,.agg a.cs] [rdO bs p] (.agg [.sref 1 0 a'.ini.length,.sref 2 0 a'.acc.length,.sref 3 0 a'.ed.length]) [rdO bs p',.cells 1 (a'.ini.map enI),.cells 1 (a'.acc.map enB),.cells 4 (a'.ed.map Trans.cs)]:=by
 obtain ⟨h1,h2,h3,h4⟩:=ha
 obtain ⟨v,⟨v0,v1⟩,cv⟩:=z73 bs hb p 40 (by omega) (by omega) (by omega)
 by_cases e0:v=0
 ·subst e0
  obtain ⟨x,mx,cx⟩:=z115 bs hb (p+1) (by omega) (by omega) [0,-1,64,3] (by decide) (by decide)
  refine ⟨⟨a.ini++[x],a.acc,a.ed⟩,p+1+1,⟨⟨by simp;omega,by show a.acc.length≤20;omega,by show a.ed.length≤2100;omega,h4⟩,by omega,by omega⟩,?_⟩
  refine z12 z24 func43 rfl rfl 78 ntmps43 (by simp) ?_
  repeat' ((first|apply y6 ok;rfl|apply z27;kernel_rfl|(apply y40;first|dsimp only;omega|(try dsimp only);simp only [y46,y45,y44,y43,y55,y56];omega|exact z49 (fun _=>rfl)|exact ⟨rfl,z17 rfl z26⟩)|(first|apply z15 [0] [] cv;rfl;rfl|apply z15 [0,10] [] cx;rfl;rfl);rfl;(focus ((repeat' first|exact z23|apply z19)<;>first|exact z58 rfl rfl|refine z30 ?_;((exact z6 fun _=>rfl)))))<;>conv=>whnf)
  all_goals (refine rsD [0,12,6,8] [] rfl ?_;(repeat' first|exact y83 _|exact z10 _|refine z44 ?_;((simp;done))|apply y85|(first|refine z33 rfl ?_ ?_|refine z11 rfl ?_ ?_);(focus ((repeat' (first|exact z6 (fun _=>rfl)|apply z25));done))|refine z77 ?_ ?_;(focus omega)|apply z57|constructor))
 by_cases e3:v=3
 ·subst e3
  refine ⟨⟨[],[],[]⟩,p+1,⟨⟨y50 _,y50 _,y50 _,fun t ht=>by cases ht⟩,by omega,by omega⟩,?_⟩
  refine z12 z24 func43 rfl rfl 78 ntmps43 (by simp) ?_
  repeat' ((first|apply y6 ok;rfl|apply z27;kernel_rfl|(apply y40;first|dsimp only;omega|exact z49 (fun _=>rfl))|apply z31 [0] [] cv;rfl;rfl;rfl)<;>conv=>whnf)
  all_goals (refine y87 1 ?_;refine y87 1 ?_;refine y87 4 ?_;refine rsD [0,10,11,12] [] rfl ?_;(repeat' first|exact y83 _|exact z56|apply y85|refine z11 rfl z39 ?_|apply z57|constructor))
 by_cases e1:v=1
 ·subst e1
  by_cases he:0 < a.ed.length
  ·obtain ⟨x,mx,cx⟩:=z115 bs hb (p+1) (by omega) (by omega) [8,-1,7] (by decide) (by decide)
   have hi:0 < a.ed.length:=by omega
   have g0:(a.ed.map Trans.cs)[0]?=some (Trans.cs a.ed[0]):=by rw [y48,y42 hi];rfl
   refine ⟨⟨a.ini,a.acc,a.ed.set 0 ⟨a.ed[0].src,a.ed[0].care,x,a.ed[0].dst⟩⟩,p+1+1,⟨⟨by show a.ini.length≤40;omega,by show a.acc.length≤20;omega,by simp;omega,fun t ht=>by
    rcases List.mem_or_eq_of_mem_set ht with h|rfl
    ·exact h4 t h
    ·have:=h4 _ (y41 hi)
     unfold Trans.mx inI at *
     simp only [List.mem_cons,List.not_mem_nil,or_false] at mx
     dsimp only
     omega⟩,by omega,by omega⟩,?_⟩
   generalize a.ed[0]=e at *
   refine z12 z24 func43 rfl rfl 78 ntmps43 (by simp) ?_
   repeat' ((first|apply y6 ok;rfl|apply z27;kernel_rfl|refine z14 (i:=0) (by simp;try omega) g0 ?_|(apply y40;first|omega|dsimp only;omega|exact z49 (fun _=>rfl))|apply z7<;>intro _|(first|apply z15 [0] [] cv;rfl;rfl|apply z15 [0,10] [] cx;rfl;rfl);rfl;(focus ((repeat' first|exact z23|apply z19)<;>first|exact z58 rfl rfl|refine z30 ?_;((exact z6 fun _=>rfl)))))<;>conv=>whnf)
   all_goals try (exfalso;omega)
   all_goals (refine rsD [0,4,6,8] [] rfl ?_;(repeat' first|exact y83 _|exact z10 _|refine z44 ?_;((simp;done))|apply y85|refine z50 rfl (z6 (fun _=>rfl)) ?_|refine z11 rfl (z6 (fun _=>rfl)) ?_|refine z468 (by omega) ?_|apply z57|constructor))
   all_goals trace_state
  ·refine ⟨a,p+1,⟨⟨by omega,by omega,by omega,h4⟩,by omega,by omega⟩,?_⟩
   refine z12 z24 func43 rfl rfl 78 ntmps43 (by simp) ?_
   repeat' ((first|apply y6 ok;rfl|apply z27;kernel_rfl|(apply y40;first|dsimp only;omega|exact z49 (fun _=>rfl))|apply z7<;>intro _|apply z31 [0] [] cv;rfl;rfl;rfl)<;>conv=>whnf)
   all_goals try (exfalso;omega)
   all_goals (refine rsD [0,4,6,8] [] rfl ?_;(repeat' first|exact y83 _|exact z10 _|refine z44 ?_;(omega)|apply y85|refine z11 rfl (z6 (fun _=>rfl)) ?_|apply z57|constructor))
 by_cases e2:v=2
 ·subst e2
  by_cases he:0 < a.ed.length
  ·obtain ⟨x,mx,cx⟩:=z115 bs hb (p+1) (by omega) (by omega) [-1,0,64,9223372036854775807] (by decide) (by decide)
   have hi:0 < a.ed.length:=by omega
   have g0:(a.ed.map Trans.cs)[0]?=some (Trans.cs a.ed[0]):=by rw [y48,y42 hi];rfl
   refine ⟨⟨a.ini,a.acc,a.ed.set 0 ⟨a.ed[0].src,a.ed[0].care,a.ed[0].val,x⟩⟩,p+1+1,⟨⟨by show a.ini.length≤40;omega,by show a.acc.length≤20;omega,by simp;omega,fun t ht=>by
    rcases List.mem_or_eq_of_mem_set ht with h|rfl
    ·exact h4 t h
    ·have:=h4 _ (y41 hi)
     unfold Trans.mx inI at *
     simp only [List.mem_cons,List.not_mem_nil,or_false] at mx
     dsimp only
     omega⟩,by omega,by omega⟩,?_⟩
   generalize a.ed[0]=e at *
   refine z12 z24 func43 rfl rfl 78 ntmps43 (by simp) ?_
   repeat' ((first|apply y6 ok;rfl|apply z27;kernel_rfl|refine z14 (i:=0) (by simp;try omega) g0 ?_|(apply y40;first|omega|dsimp only;omega|exact z49 (fun _=>rfl))|apply z7<;>intro _|(first|apply z15 [0] [] cv;rfl;rfl|apply z15 [0,10] [] cx;rfl;rfl);rfl;(focus ((repeat' first|exact z23|apply z19)<;>first|exact z58 rfl rfl|refine z30 ?_;((exact z6 fun _=>rfl)))))<;>conv=>whnf)
   all_goals try (exfalso;omega)
   all_goals (refine rsD [0,4,6,8] [] rfl ?_;(repeat' first|exact y83 _|exact z10 _|refine z44 ?_;((simp;done))|apply y85|refine z50 rfl (z6 (fun _=>rfl)) ?_|refine z11 rfl (z6 (fun _=>rfl)) ?_|refine z468 (by omega) ?_|apply z57|constructor))
   all_goals trace_state
  ·refine ⟨a,p+1,⟨⟨by omega,by omega,by omega,h4⟩,by omega,by omega⟩,?_⟩
   refine z12 z24 func43 rfl rfl 78 ntmps43 (by simp) ?_
   repeat' ((first|apply y6 ok;rfl|apply z27;kernel_rfl|(apply y40;first|dsimp only;omega|exact z49 (fun _=>rfl))|apply z7<;>intro _|apply z31 [0] [] cv;rfl;rfl;rfl)<;>conv=>whnf)
   all_goals try (exfalso;omega)
   all_goals (refine rsD [0,4,6,8] [] rfl ?_;(repeat' first|exact y83 _|exact z10 _|refine z44 ?_;(omega)|apply y85|refine z11 rfl (z6 (fun _=>rfl)) ?_|apply z57|constructor))
 by_cases e4:v=4
 ·subst e4
  by_cases he:0 < a.ed.length
  ·obtain ⟨x,mx,cx⟩:=z115 bs hb (p+1) (by omega) (by omega) [8,-1,0] (by decide) (by decide)
   have hi:(a.ed.length - 1) < a.ed.length:=by omega
   have g0:(a.ed.map Trans.cs)[(a.ed.length - 1)]?=some (Trans.cs a.ed[(a.ed.length - 1)]):=by rw [y48,y42 hi];rfl
   refine ⟨⟨a.ini,a.acc,a.ed.set (a.ed.length - 1) ⟨a.ed[(a.ed.length - 1)].src,x,a.ed[(a.ed.length - 1)].val,a.ed[(a.ed.length - 1)].dst⟩⟩,p+1+1,⟨⟨by show a.ini.length≤40;omega,by show a.acc.length≤20;omega,by simp;omega,fun t ht=>by
    rcases List.mem_or_eq_of_mem_set ht with h|rfl
    ·exact h4 t h
    ·have:=h4 _ (y41 hi)
     unfold Trans.mx inI at *
     simp only [List.mem_cons,List.not_mem_nil,or_false] at mx
     dsimp only
     omega⟩,by omega,by omega⟩,?_⟩
   generalize a.ed[(a.ed.length - 1)]=e at *
   refine z12 z24 func43 rfl rfl 78 ntmps43 (by simp) ?_
   repeat' ((first|apply y6 ok;rfl|apply z27;kernel_rfl|refine z14 (i:=(a.ed.length - 1)) (by simp;try omega) g0 ?_|(apply y40;first|omega|unfold inI;omega|dsimp only;omega|exact z49 (fun _=>rfl))|apply z7<;>intro _|(first|apply z15 [0] [] cv;rfl;rfl|apply z15 [0,10] [] cx;rfl;rfl);rfl;(focus ((repeat' first|exact z23|apply z19)<;>first|exact z58 rfl rfl|refine z30 ?_;((exact z6 fun _=>rfl)))))<;>conv=>whnf)
   all_goals try (exfalso;omega)
   all_goals (refine rsD [0,4,6,8] [] rfl ?_;(repeat' first|exact y83 _|exact z10 _|refine z44 ?_;((simp;done))|apply y85|refine z50 rfl (z6 (fun _=>rfl)) ?_|refine z11 rfl (z6 (fun _=>rfl)) ?_|refine z468 (by omega) ?_|apply z57|constructor))
   all_goals trace_state
  ·refine ⟨a,p+1,⟨⟨by omega,by omega,by omega,h4⟩,by omega,by omega⟩,?_⟩
   refine z12 z24 func43 rfl rfl 78 ntmps43 (by simp) ?_
   repeat' ((first|apply y6 ok;rfl|apply z27;kernel_rfl|(apply y40;first|omega|dsimp only;omega|exact z49 (fun _=>rfl))|apply z7<;>intro _|apply z31 [0] [] cv;rfl;rfl;rfl)<;>conv=>whnf)
   all_goals try (exfalso;omega)
   all_goals (refine rsD [0,4,6,8] [] rfl ?_;(repeat' first|exact y83 _|exact z10 _|refine z44 ?_;(omega)|apply y85|refine z11 rfl (z6 (fun _=>rfl)) ?_|apply z57|constructor))
 refine ⟨a,p+1,⟨⟨by omega,by omega,by omega,h4⟩,by omega,by omega⟩,?_⟩
 refine z12 z24 func43 rfl rfl 78 ntmps43 (by simp) ?_
 repeat' ((first|apply y6 ok;rfl|apply z27;kernel_rfl|(apply y40;first|omega|dsimp only;omega|exact z49 (fun _=>rfl))|apply z7<;>intro _|apply z31 [0] [] cv;rfl;rfl;rfl)<;>conv=>whnf)
 all_goals try (exfalso;omega)
 all_goals (refine rsD [0,4,6,8] [] rfl ?_;(repeat' first|exact y83 _|exact z10 _|refine z44 ?_;(omega)|apply y85|refine z11 rfl (z6 (fun _=>rfl)) ?_|apply z57|constructor))
theorem rowAt {rows:List (List Int)} {v:Int} (hv:0≤v∧v < rows.length):(rows.map encL)[v.toNat]?=some (encL (rows.getD v.toNat [])):=by
 rw [y48,y42 (by omega),z20 (by omega)];rfl
theorem rowLen {rows:List (List Int)} {M:Nat} (hrl:∀ r∈rows,r.length≤M) (v:Int):(rows.getD v.toNat []).length≤M:=by
 by_cases h:v.toNat < rows.length
 ·rw [z20 h];exact hrl _ (y41 _)
 ·rw [y65,y66 (by omega)];exact y50 _
theorem IniP.nd {l:List Int} {n:Int} (h:IniP l n l.length):l.Nodup:=by
 have hs:∀ d i (hi:i+d+1 < l.length),l[i] < l[i+d+1]:=by
  intro d
  induction d with
  |zero=>intro i hi;exact (h (i+1) hi hi).2 i rfl
  |succ d ih =>
   intro i hi
   have h1:=ih i (by omega)
   have h2:=(h (i+(d+1)+1) hi hi).2 (i+d+1) (by omega)
   omega
 rw [List.nodup_iff_pairwise_ne,List.pairwise_iff_getElem]
 intro i j hi hj hij
 have:=hs (j - i - 1) i (by omega)
 have e:i+(j - i - 1)+1=j:=by omega
 simp only [e] at this
 omega
noncomputable def trcO (g:Graph) (ls:List Int) (a:Aut):Option (List Int×List Int):=(finS (z64 g ls a) a.ini a.acc).map fun x=>(stL (x.1.take (x.1.length - 1)) a.acc.length,stL x.2 a.acc.length)
end Go.Proofs.YteinbnahinpegaaGreat
namespace Go.Proofs.YteinbnahinpegaaGreat
open Go.Gl Proofs.Tryz
attribute [local irreducible] z18 RetS z42
end Go.Proofs.YteinbnahinpegaaGreat
namespace Go.Proofs.YteinbnahinpegaaGreat
open Go.Gl Proofs.Tryz
attribute [local irreducible] z18 AWP z38 z41 z40 RetS z42
section
open Go.ChangeShapes Go.WideShapes Go.ChangeAt Go.RowKit
theorem and_mk {a b:Bool} (h:a=true) (k:b=true):(a && b)=true:=by rw [h,k];rfl
theorem own:ownKnob prog.godebug=none:=by kernel_rfl
theorem z1023:laidOutB prog=true:=by kernel_rfl
end
end Go.Proofs.YteinbnahinpegaaGreat
namespace Go.Proofs.YteinbnahinpegaaGreat
open Go.Gl Proofs.Tryz
attribute [local irreducible] z18 AWP z38 z41 z40 RetS z42
theorem ad_code:ArgD prog 22 (lst 1 enU) CodeOk :=
 (z1264 (enc1:=lst 1 enU) underlying22 (od_list 1 (encL:=fun l=>[lst 1 enU l]) underlying22 (by kernel_rfl) (by decide) (od_byte (enc:=enU) underlying5 (fun _=>rfl)) (fun _=>rfl)) (fun _=>rfl)).imp fun l h=>⟨l,rfl,h.1,fun x hx=>by
  have:=h.2 x hx
  have h1:IntKind.min .u8=0:=by decide
  have h2:IntKind.max .u8=255:=by decide
  simpa [Lit.wf,h1,h2] using this⟩
theorem z702 (a:Aut) (hA:AutP a) (x:Int) (h0:0≤x):QQ 56 [.int x,.pt a.cs,.pt [.int a.acc.length]] [] (.bool (a.acc.getD (x % a.acc.length).toNat false)) []:=by
 have hac:=hA.1
 have hm0:0≤x % (a.acc.length:Int):=Int.emod_nonneg _ (by omega)
 have hm1:x % (a.acc.length:Int) < a.acc.length:=Int.emod_lt_of_pos _ (by omega)
 have hga:(a.acc.map enB)[(x % (a.acc.length:Int)).toNat]?=some (enB (a.acc.getD (x % (a.acc.length:Int)).toNat false)):=by
  rw [y48,y42 (by omega),z20 (by omega)];rfl
 refine z12 z24 func56 rfl rfl 12 ntmps56 (by simp) ?_
 repeat' ((first|apply y6 ok;rfl|apply z27;kernel_rfl|refine z14 (i:=(x % (a.acc.length:Int)).toNat) rfl hga ?_|apply y40;omega)<;>conv=>whnf)
 all_goals (refine rsD [] [] rfl ?_;(repeat' first|exact y83 _|constructor))
set_option maxHeartbeats 1600000 in
theorem z369 (l:List Int) (n:Nat) (hl:l.length≤1000000) (hn:1≤n) (h0:∀ x∈l,0≤x) (h1:∀ x∈l,x≤1000000000):QQ 57 [ints l,.pt [.int n]] [] (.sref 0 0 l.length) [.cells 1 ((stL l n).map enI)]:=by
 refine z12 z24 func57 rfl rfl 25 ntmps57 (by simp) ?_
 repeat' ((first|apply y6 ok;rfl|apply y40;(dsimp only;omega))<;>conv=>whnf)
 obtain ⟨qm,hqm⟩:∃ qm:Nat→Nat→Int,qm=fun i j=>if j < i then l.getD j 0 / n else 0:=⟨_,rfl⟩
 have q0:qm 0=fun _=>0:=by rw [hqm];rfl
 have qE:fnL l.length (qm l.length)=stL l n:=by
  apply y72 (by simp [fnL,stL])
  intro i h1 h2
  have hi' : i < l.length:=by rw [z136] at h1;exact h1
  rw [z898,hqm]
  dsimp only
  rw [if_pos hi',z20 hi'];simp [stL]
 have qS:∀ i (h:i < l.length),qm (i+1)=upd (qm i) i (l[i] / n):=fun i h=>by
  funext j
  by_cases h2:j=i
  ·subst h2;rw [z36,hqm];dsimp only;rw [if_pos (by omega),z20 h]
  ·rw [z52 _ _ h2,hqm];dsimp only;split<;>split<;>first|rfl|omega
 clear hqm
 refine z69 (fun i:Nat=>([(1,.pt [.int n]),(4,.sref 0 0 l.length),(10,ints l),(11,.int l.length),(12,.int i)],[.cells 1 ((fnL l.length (qm i)).map enI)])) (fun i=>i≤l.length) (fun i=>l.length - i) 0 (y50 _) (by refine swR [0] [] rfl rfl ?_;(repeat' first|exact y83 _|refine z11 rfl (z54 rfl) ?_|constructor)<;>((refine z21 ?_;rw [q0];exact z349 _))) ?_
 intro i hi
 by_cases hi2:i < l.length
 ·have g1:=z172 (qm i) hi2
  have l1:=z136 l.length (qm i)
  have e1:=z152 (N:=l.length) (u:=i) (qm i) (l[i] / n)
  rw [← qS i hi2] at e1
  have gk:(l.map enI)[i]?=some (enI l[i]):=by rw [y48,y42 hi2];rfl
  have b0:=h0 _ (y41 hi2)
  have b1:=h1 _ (y41 hi2)
  generalize l[i]=v at *
  have d0:0≤v / (n:Int):=Int.ediv_nonneg b0 (by omega)
  have d1:v / (n:Int)≤v:=Int.ediv_le_self _ b0
  repeat' ((first|apply y6 ok;rfl|refine z14 (i:=i) rfl gk ?_|refine z14 (i:=i) rfl g1 ?_|(apply y40;first|omega|unfold inI;omega)|apply z7<;>intro _)<;>conv=>whnf)
  all_goals try (exfalso;omega)
  all_goals refine z29 (i+1) hi2 (by omega) (by refine swR [0] [] rfl rfl ?_;(repeat' first|exact y83 _|refine z50 rfl (z6 (fun _=>rfl)) ?_|constructor)<;>((refine z21 ?_;exact e1)))
 obtain rfl:i=l.length:=by omega
 rw [qE]
 repeat' ((first|apply y6 ok;rfl|apply y40;omega|(first|with_reducible apply z13;omega|apply z13;omega);intro _|apply z7<;>intro _)<;>conv=>whnf)
 all_goals try (exfalso;omega)
 all_goals (refine rsD [0] [] rfl ?_;(repeat' first|exact y83 _|exact z10 _|refine z11 rfl (z6 (fun _=>rfl)) ?_|constructor))
noncomputable def ftO (g:Graph) (l:List Tree) (a:Aut):Option (List Int×List Int):=if (glB g l && autB a)=true then trcO g (g.st.map (z85 l)) a else none
noncomputable def ftL (g:Graph) (l:List Tree) (a:Aut):Trace:=let t:=(ftO g l a).getD ([],[]);⟨t.1,t.2⟩
set_option maxHeartbeats 6400000 in
theorem z265 (g:Graph) (hg:g.mx) (l:List Tree) (hl:Lmx l) (a:Aut) (ha:a.mx):QQ 15 [.agg g.cs,lst 3 Tree.cs' l,.agg a.cs] [] (.tup [.agg [.sref 0 0 (ftL g l a).stem.length,.sref 1 0 (ftL g l a).loop.length],.bool (ftO g l a).isSome]) [.cells 1 ((ftL g l a).stem.map enI),.cells 1 ((ftL g l a).loop.map enI)]:=by
 have k0:=z1054 g hg l hl a ha
 by_cases hgl:(glB g l && autB a)=true
 ·rw [hgl] at k0
  obtain ⟨h1,hab⟩:=Bool.and_eq_true_iff.1 hgl
  have hG:=(z453 g).1 (by unfold glB at h1;exact (Bool.and_eq_true_iff.1 h1).1)
  have hL:=LabelsOk.of (by unfold glB at h1;exact (Bool.and_eq_true_iff.1 h1).2)
  have hA:=z153.1 hab
  have k1:=z1009 g hG l hL a hA
  obtain ⟨f1,f2,f3,f4,f5⟩:=z618 hG hA (g.st.map (z85 l))
  have hnd:=hA.2.2.1.nd
  have hac:=hA.1
  have k2:=z1174 (z64 g (g.st.map (z85 l)) a) a.ini f1 f2 hnd (by omega) f4 (fun v=>a.acc.getD (v % a.acc.length).toNat false) 56 a.cs [.int a.acc.length] (fun x h0 _=>z702 a hA x h0)
  unfold ftL ftO
  rw [if_pos hgl]
  unfold lasR at k2
  unfold trcO
  rw [z494 f1 f2 hnd] at k2
  have hlen:(z64 g (g.st.map (z85 l)) a).length=g.st.length * a.acc.length:=by unfold z64;rw [z142,Nat.mul_comm]
  have hF:∀ p q,finS (z64 g (g.st.map (z85 l)) a) a.ini a.acc=some (p,q)→(∀ x∈p,0≤x∧x≤100000)∧(∀ x∈q,0≤x∧x≤100000)∧p.length≤100000∧q.length≤100000:=by
   intro p q h
   rw [← z494 f1 f2 hnd] at h
   obtain ⟨b1,b2,b3,b4,_⟩:=lasL_bd f1 f2 hnd h
   exact ⟨fun x hx=>by have:=b1 x hx;omega,fun x hx=>by have:=b2 x hx;omega,by omega,by omega⟩
  generalize z64 g (g.st.map (z85 l)) a=rows at *
  cases hfin:finS rows a.ini a.acc with
  |none =>
   rw [hfin] at k2
   change CallsA _ _ _ _ (.tup [.sref 0 0 0,.sref 1 0 0,.bool false]) [.cells 1 [],.cells 1 []] at k2
   show CallsA _ _ _ _ (.tup [.agg [.sref 0 0 0,.sref 1 0 0],.bool false]) [.cells 1 [],.cells 1 []]
   refine z12 z24 func15 rfl rfl 50 ntmps15 (by simp) ?_
   repeat' ((first|apply y6 ok;rfl|apply z8 k0;rfl;rfl|apply z8 k1;rfl;rfl|apply z120 [] [1,3] [4,5] k2;(focus ((repeat' first|exact z87|apply z60)<;>rfl));rfl;rfl;(focus ((repeat' first|exact z23|apply z19)<;>(refine z30 ?_;(exact z39))));((refine .inr ⟨rfl,?_⟩;repeat' first|exact True.intro|apply y40|exact rfl)))<;>conv=>whnf)
   all_goals (refine y87 1 ?_;refine y87 1 ?_;refine rsD [6,7] [] rfl ?_;(repeat' first|exact y83 _|exact z56|refine z11 rfl z39 ?_|apply z57|apply z156|constructor))
  |some pq =>
   obtain ⟨p,q⟩:=pq
   rw [hfin] at k2
   obtain ⟨b1,b2,b3,b4⟩:=hF p q hfin
   change CallsA _ _ _ _ (.tup [.sref 0 0 (p.take (p.length - 1)).length,.sref 1 0 q.length,.bool true]) [.cells 1 ((p.take (p.length - 1)).map enI),.cells 1 (q.map enI)] at k2
   have s1:=z369 (p.take (p.length - 1)) a.acc.length (by rw [y45];omega) (by omega) (fun x hx=>(b1 x (List.mem_of_mem_take hx)).1) (fun x hx=>by have:=(b1 x (List.mem_of_mem_take hx)).2;omega)
   have s2:=z369 q a.acc.length (by omega) (by omega) (fun x hx=>(b2 x hx).1) (fun x hx=>by have:=(b2 x hx).2;omega)
   have e1:(stL (p.take (p.length - 1)) a.acc.length).length=(p.take (p.length - 1)).length:=by simp [stL]
   have e2:(stL q a.acc.length).length=q.length:=by simp [stL]
   show CallsA _ _ _ _ (.tup [.agg [.sref 0 0 (stL (p.take (p.length - 1)) a.acc.length).length,.sref 1 0 (stL q a.acc.length).length],.bool true]) [.cells 1 ((stL (p.take (p.length - 1)) a.acc.length).map enI),.cells 1 ((stL q a.acc.length).map enI)]
   rw [e1,e2]
   generalize stL (p.take (p.length - 1)) a.acc.length=S1 at *
   generalize stL q a.acc.length=S2 at *
   generalize p.take (p.length - 1)=p' at *
   refine z12 z24 func15 rfl rfl 50 ntmps15 (by simp) ?_
   repeat' ((first|apply y6 ok;rfl|apply z8 k0;rfl;rfl|apply z8 k1;rfl;rfl|(first|apply z120 [] [1,3] [4,5] k2;(focus ((repeat' first|exact z87|apply z60)<;>rfl));rfl|apply z120 [] [3,4] [6] s1;(focus ((repeat' first|exact z87|apply z60)<;>first|exact z147 rfl rfl rfl|rfl));rfl|apply z120 [] [3,5] [7] s2;(focus ((repeat' first|exact z87|apply z60)<;>first|exact z147 rfl rfl rfl|rfl));rfl);rfl;(focus ((repeat' first|exact z23|apply z19)<;>(refine z30 ?_;((exact z6 fun _=>rfl)))));((refine .inr ⟨rfl,?_⟩;repeat' first|exact True.intro|apply y40|exact z121 (fun _=>rfl) _)))<;>conv=>whnf)
   all_goals (refine rsD [6,7] [] rfl ?_;(repeat' first|exact y83 _|exact z10 _|refine z11 rfl (z6 (fun _=>rfl)) ?_|constructor))
 ·have hgl:=(y69 _).mp hgl
  rw [hgl] at k0
  have e1:ftO g l a=none:=by unfold ftO;rw [hgl];rfl
  unfold ftL
  rw [e1]
  show CallsA _ _ _ _ (.tup [.agg [.sref 0 0 0,.sref 1 0 0],.bool false]) [.cells 1 [],.cells 1 []]
  refine z12 z24 func15 rfl rfl 50 ntmps15 (by simp) ?_
  repeat' ((first|apply y6 ok;rfl|apply z8 k0;rfl;rfl)<;>conv=>whnf)
  all_goals (refine y87 1 ?_;refine y87 1 ?_;refine rsD [3,4] [] rfl ?_;(repeat' first|exact y83 _|exact z56|refine z11 rfl z39 ?_|apply z57|apply z156|constructor))
def pick (bl:List Int) (p:Int):Int:=bl.getD p.toNat 0
theorem z1011 (bl places:List Int) (hl:places.length≤1048576) (hp:InN bl.length places) (hb:bl.length≤1048576):QQ 34 [ints bl,ints places] [] (.sref 0 0 places.length) [.cells 1 ((places.map (pick bl)).map enI)]:=by
 refine z16 z24 func34 rfl rfl 27 ntmps34 (by simp) ?_
 repeat' (first|apply y6 ok;rfl;conv=>whnf|apply y40;((dsimp only;omega));conv=>whnf)
 refine z111 (fun k:Nat=>([(0,ints bl),(5,.sref 0 0 places.length),(11,ints places),(12,.int places.length),(13,.int k)],[.cells 1 ((places.take k).map (fun p=>enI (pick bl p))++List.replicate (places.length - k) [.int 0])])) (fun k=>k≤places.length) (fun k=>places.length - k) 0 (by omega) ⟨[0],rfl,by decide,rfl,⟨⟨rfl,rfl⟩,⟨rfl,rfl⟩,⟨rfl,rfl⟩,⟨rfl,rfl⟩,⟨rfl,rfl⟩,trivial⟩,⟨z37 (by rfl) (z90 (z6 fun _=>rfl) (z54 rfl)),trivial⟩⟩ ?_
 intro k hk
 by_cases hkl:k < places.length
 ·have hx:=hp places[k] (y41 _)
  have hxb:places[k].toNat < bl.length:=by omega
  repeat' (first|apply y6 ok;rfl;conv=>whnf|apply y40;(first|omega|unfold inI;omega);conv=>whnf|with_reducible apply z13;omega;intro _;conv=>whnf|with_reducible apply z79;omega;intro _;conv=>whnf|apply z124;omega;conv=>whnf|apply z7<;>intro _<;>conv=>whnf)
  all_goals try (exfalso;omega)
  exact z92 (k+1) [0] (by omega) (by omega) ⟨rfl,by decide,rfl,⟨⟨rfl,rfl⟩,⟨rfl,rfl⟩,⟨rfl,rfl⟩,⟨rfl,rfl⟩,⟨rfl,rfl⟩,trivial⟩,⟨z945 hkl rfl (y74 k) (by unfold pick;rw [z20 hxb];rfl) (fun _=>rfl) rfl,trivial⟩⟩
 ·repeat' (first|apply y6 ok;rfl;conv=>whnf|apply y40;(omega);conv=>whnf|with_reducible apply z13;omega;intro _;conv=>whnf|with_reducible apply z79;omega;intro _;conv=>whnf|apply z124;omega;conv=>whnf|apply z7<;>intro _<;>conv=>whnf)
  all_goals try (exfalso;omega)
  obtain rfl:k=places.length:=by omega
  exact z535 rfl (z6 fun _=>rfl) rfl (by rw [z966 _ _ _ _ rfl,List.map_map];rfl)
def nxW (N s:Nat) (i:Nat):Int:=if i+1=N then (s:Int) else ((i+1:Nat):Int)
def pushW (a:Aut) (word:List Int) (s i:Nat):List (Nat×Int):=a.ed.flatMap (z483 a.acc.length i (word.getD i 0) (nxW word.length s i))
def accW (a:Aut) (word:List Int) (s:Nat):List (List Int):=build (word.length * a.acc.length) ((List.range word.length).flatMap (pushW a word s))
theorem nxW_in {N s i:Nat} (hs:s < N) (hi:i < N):0≤nxW N s i∧nxW N s i≤N - 1:=by unfold nxW;split<;>omega
def BackR {α:Type} (M:Nat) (Gc:Ghost) (wc:World) (rest:α→List AObj) (L:List Int) (env:List (Nat×AC)) (x:α) (a:Act) (w:World):Prop :=
 ∃ G,SubM M Gc G∧Le wc w∧Rel G (mkSt 19 env (.cells 1 [[ints L]]::rest x)) a w
def IsSt {α:Type} (rest:α→List AObj) (L:List Int) (x:α) (env' : List (Nat×AC)) (st:St):Prop:=st=mkSt 19 env' (.cells 1 [[ints L]]::rest x)
theorem BackR.step {α : Type} {M : Nat} {Gc : Ghost} {wc : World} {rest : α → List AObj} {L : List Int} {env env' : List (Nat × AC)} {x : α} {a : Act} {w : World} {c : Code}
    (h:BackR M Gc wc rest L env x a w) (hc:AWP prog M c (z655 (IsSt rest L x env') (fun _ _=>False)) (mkSt 19 env (.cells 1 [[ints L]]::rest x))) {K:Act→World→Prop} {Q:Exit→Act→World→Prop}
    (hk:∀ a w,BackR M Gc wc rest L env' x a w→K a w):c.wpIn Fence.wide 0 prog (Exit.then K Q) a w:=by
  obtain ⟨G,h1,h2,h3⟩:=h
  refine wpIn_mono (hc.at_ h3) ?_
  rintro ex a' w' ⟨G',st',k1,k2,k3,k4⟩
  cases ex with
  | normal =>
    have k3:st'=_:=k3
    subst k3
    exact hk _ _ ⟨G',h1.trans k1,h2.trans k2,k4⟩
  | _=>exact k3.elim
theorem BackR.less {α:Type} {M:Nat} {Gc:Ghost} {wc:World} {rest:α→List AObj} {L:List Int} {env env' : List (Nat×AC)} {x:α} {a:Act} {w:World} (h:BackR M Gc wc rest L env x a w) (he:z804 (fun s y=>z113 env s=y) env'):BackR M Gc wc rest L env' x a w:=by
 obtain ⟨G,h1,h2,h3⟩:=h
 refine ⟨G,h1,h2,h3.wf,fun s=>?_,h3.size,h3.defers⟩
 rcases z382 env' _ he s with e|e
 ·show V _ _ _ (z113 env' s) _
  rw [e];simp [V]
 ·have:=h3.env s
  show V _ _ _ (z113 env' s) _
  rw [← e];exact this
theorem BackR.val {α:Type} {M:Nat} {Gc:Ghost} {wc:World} {rest:α→List AObj} {L:List Int} {env:List (Nat×AC)} {x:α} {a:Act} {w:World} (h:BackR M Gc wc rest L env x a w) {s:Nat} {v:Value} (he:z113 env s=.raw v):a.tmps.getD s undef=v:=by
 obtain ⟨G,_,_,hR⟩:=h
 have:=hR.env s
 rw [show (mkSt 19 env (.cells 1 [[ints L]]::rest x)).env s=z113 env s from rfl,he] at this
 simpa only [V] using this
def NoAcc (rows:List (List Int)) (ini:List Int) (acc:List Bool):Prop:=∀ x,RP rows ini x→Cyc rows x→acc.getD (x % acc.length).toNat false=false
section
variable {rows:List (List Int)} {ini:List Int} {acc:List Bool} {R:List Int}
end
end Go.Proofs.YteinbnahinpegaaGreat
namespace Go.Proofs.YteinbnahinpegaaGreat
open Go.Gl Proofs.Tryz
attribute [local irreducible] z18 AWP z38 z41 z40 RetS z42
attribute [local irreducible] EndR
theorem z1092 {g:Graph} {ls:List Int} {a:Aut} (hr:∀ r∈z64 g ls a,InN (z64 g ls a).length r) (hi:InN (z64 g ls a).length a.ini) (hn:a.ini.Nodup) (h:trcO g ls a=none):NoAcc (z64 g ls a) a.ini a.acc:=by
 unfold trcO at h
 rw [Option.map_eq_none_iff,← z494 hr hi hn,z780] at h
 intro x hx hc
 have hxN:=RP.in hr hi hx
 have:=h x ((z237 hr hi x).2 hx)
 cases hb:a.acc.getD (x % a.acc.length).toNat false with
 |false=>rfl
 |true =>
  exfalso
  apply this
  refine ⟨hb,z188.2 ?_⟩
  rw [Int.toNat_of_nonneg hxN.1];exact hc
end Go.Proofs.YteinbnahinpegaaGreat
namespace Go.Proofs.YteinbnahinpegaaGreat
open Go.Gl Proofs.Tryz
attribute [local irreducible] z18 AWP z38 z41 z40 RetS z42
theorem Aut.sm.mx' {a:Aut} (ha:a.sm):a.mx:=⟨by have:=ha.1;unfold maxLen;omega,by have:=ha.2.1;unfold maxLen;omega,by have:=ha.2.2.1;unfold maxLen;omega,ha.2.2.2⟩
theorem z1160 {g:Graph} {ls:List Int} {a:Aut} (hr:∀ r∈z64 g ls a,InN (z64 g ls a).length r) (hi:InN (z64 g ls a).length a.ini) (hn:a.ini.Nodup) (h:NoAcc (z64 g ls a) a.ini a.acc):trcO g ls a=none:=by
 unfold trcO
 rw [Option.map_eq_none_iff,← z494 hr hi hn,z780]
 rintro v hv ⟨h1,h2⟩
 have hvN:=z432 hr hi _ v hv
 have hc:=z188.1 h2
 rw [Int.toNat_of_nonneg hvN.1] at hc
 have:=h v ((z237 hr hi v).1 hv) hc
 rw [h1] at this;cases this
theorem z571 {N:Nat} {ps:List (Nat×Int)} {r:Nat} {y:Int} : y∈(build N ps).getD r []↔r < N∧(r,y)∈ps:=by
 by_cases h:r < N
 ·rw [z20 (by rw [z142];exact h),z430 (by rw [z142];exact h)]
  simp only [y57,List.mem_filter,beq_iff_eq,h,true_and]
  constructor
  ·rintro ⟨⟨p,v⟩,⟨h1,h2⟩,h3⟩
   dsimp only at h2 h3
   subst h2;subst h3;exact h1
  ·intro h1;exact ⟨(r,y),⟨h1,rfl⟩,rfl⟩
 ·have e:(build N ps).getD r []=[]:=by rw [y65,y66 (by rw [z142];omega)];rfl
  rw [e];simp [h]
theorem z1137 {g:Graph} {ls:List Int} {a:Aut} {i:Nat} {to:Int} {e:Trans} (hsrc:e.src.toNat < a.acc.length) (hi:i < g.st.length) (hto:to∈g.nx.getD i []) (he:e∈a.ed) (hon:onB e (ls.getD i 0)=true):to * a.acc.length+e.dst∈(z64 g ls a).getD (i * a.acc.length+e.src.toNat) []:=by
 unfold z64
 refine z571.2 ⟨?_,List.mem_flatMap.2 ⟨i,List.mem_range.2 hi,?_⟩⟩
 ·have h1:(i+1) * a.acc.length≤g.st.length * a.acc.length:=Nat.mul_le_mul_right _ hi
  rw [Nat.add_mul,Nat.one_mul,Nat.mul_comm g.st.length] at h1
  omega
 ·unfold z758
  refine List.mem_flatMap.2 ⟨to,hto,List.mem_flatMap.2 ⟨e,he,?_⟩⟩
  unfold z483
  rw [if_pos hon];simp
section
variable {g:Graph} {ls:List Int} {a:Aut} {t:Trace}
end
end Go.Proofs.YteinbnahinpegaaGreat
namespace Go.Proofs.YteinbnahinpegaaGreat
open Go.Gl Proofs.Tryz
attribute [local irreducible] z18 AWP z38 z41 z40 RetS z42
theorem GB.row {g:Graph} (h:GB g):∀ i (hi:i < g.nx.length),1≤g.nx[i].length∧g.nx[i].length≤60∧InN g.st.length g.nx[i]:=fun i hi=>by
 obtain ⟨⟨g1,g2⟩,g3,g4⟩:=h
 have h4:=g4 i hi hi (by omega)
 refine ⟨by have:=h4.2.1;omega,by have:=h4.2.1;omega,fun x hx=>?_⟩
 obtain ⟨j,hj,rfl⟩:=List.mem_iff_getElem.1 hx
 have:=(h4.2.2.2 j hj hj).1
 omega
theorem z489 {g:Graph} {ls:List Int} {a:Aut} {x y:Int} (hx:0≤x) (h:y∈(z64 g ls a).getD x.toNat []) (hA:AutP a):∃ (i:Nat) (to:Int) (e:Trans),i < g.st.length∧to∈g.nx.getD i []∧e∈a.ed∧onB e (ls.getD i 0)=true∧x / a.acc.length=i∧x % a.acc.length=e.src∧y / a.acc.length=to∧y % a.acc.length=e.dst:=by
 unfold z64 at h
 obtain ⟨_,h⟩:=z571.1 h
 unfold z756 at h
 obtain ⟨i,hi,h⟩:=List.mem_flatMap.1 h
 unfold z758 at h
 obtain ⟨to,hto,h⟩:=List.mem_flatMap.1 h
 unfold z757 at h
 obtain ⟨e,he,h⟩:=List.mem_flatMap.1 h
 unfold z483 at h
 split at h
 ·rename_i hon
  simp only [y52,Prod.mk.injEq] at h
  obtain ⟨h1,h2⟩:=h
  have hE:=hA.2.2.2 e he
  unfold z205 at hE
  have hac:=hA.1
  have hn:(a.acc.length:Int)≠0:=by omega
  have hm:((i * a.acc.length:Nat):Int)=(i:Int) * a.acc.length:=by simp
  have hxe:x=(i:Int) * a.acc.length+e.src:=by omega
  have d1:∀ (b q:Int),0≤q→q < a.acc.length→(b * a.acc.length+q) / (a.acc.length:Int)=b∧(b * a.acc.length+q) % (a.acc.length:Int)=q:=fun b q q0 q1 =>
   ⟨by rw [Int.add_comm,Int.add_mul_ediv_right _ _ hn,Int.ediv_eq_zero_of_lt q0 q1,Int.zero_add],by rw [Int.add_comm,Int.add_mul_emod_self_right,Int.emod_eq_of_lt q0 q1]⟩
  have k1:=d1 i e.src hE.1.1 (by omega)
  have k2:=d1 to e.dst hE.2.1.1 (by omega)
  exact ⟨i,to,e,List.mem_range.1 hi,hto,he,hon,by rw [hxe];exact k1.1,by rw [hxe];exact k1.2,by rw [h2];exact k2.1,by rw [h2];exact k2.2⟩
 ·cases h
structure FndP (g:Graph) (ls:List Int) (a:Aut) (s q:List Int):Prop where
 inn:∀ x∈s++q,0≤x
 path:PathP (z64 g ls a) (s++q)
 ini:(s++q).getD 0 0∈a.ini
 pos:0 < q.length
 back:q.getD 0 0∈(z64 g ls a).getD (q.getD (q.length - 1) 0).toNat []
 acc:a.acc.getD (q.getD 0 0 % a.acc.length).toNat false=true
section
variable {g:Graph} {ls:List Int} {a:Aut} {s q:List Int}
theorem FndP.step (h:FndP g ls a s q) {k:Nat} (hk:k < (s++q).length):(s++q).getD (nxW (s++q).length s.length k).toNat 0∈(z64 g ls a).getD ((s++q).getD k 0).toNat []:=by
 have hl:(s++q).length=s.length+q.length:=by simp
 have hsq:∀ j,(s++q).getD (s.length+j) 0=q.getD j 0:=fun j=>by
  rw [y65,y65,y64 (by omega),show s.length+j - s.length=j by omega]
 have hp:=h.pos
 unfold nxW
 split
 ·rename_i e
  rw [y74,show s.length=s.length+0 by omega,hsq,show k=s.length+(q.length - 1) by omega,hsq]
  exact h.back
 ·rw [y74];exact h.path k (by omega)
theorem z738 {l:List Int} {n k:Nat} (hk:k < l.length):(stL l n).getD k 0=l.getD k 0 / n:=by
 unfold stL;rw [z20 (by simpa using hk),List.getElem_map,z20 hk]
theorem FndP.word (hA:AutP a) (h:FndP g ls a s q) {w:List Int} (hw:w.length=(s++q).length) (hwl:∀ k,k < w.length→w.getD k 0=ls.getD ((s++q).getD k 0 / a.acc.length).toNat 0):∃ x,RP (accW a w s.length) a.ini x∧Cyc (accW a w s.length) x∧a.acc.getD (x % a.acc.length).toNat false=true:=by
 have hac:=hA.1
 have hn:(a.acc.length:Int)≠0:=by omega
 have hl:(s++q).length=s.length+q.length:=by simp
 have hp:=h.pos
 have hsq0:(s++q).getD s.length 0=q.getD 0 0:=by
  rw [y65,y65,y64 (y49 _),Nat.sub_self]
 obtain ⟨P,hP⟩:∃ P:Nat→Int,P=fun (k:Nat)=>(k:Int) * a.acc.length+(s++q).getD k 0 % a.acc.length:=⟨_,rfl⟩
 have hP0:∀ k,0≤P k:=fun k=>by
  rw [hP]
  have:=Int.mul_nonneg (show (0:Int)≤k by omega) (show (0:Int)≤a.acc.length by omega)
  have:=Int.emod_nonneg ((s++q).getD k 0) hn
  dsimp only;omega
 have hPm:∀ k,P k % (a.acc.length:Int)=(s++q).getD k 0 % a.acc.length:=fun k=>by
  rw [hP];dsimp only
  rw [Int.add_comm,Int.add_mul_emod_self_right,Int.emod_emod_of_dvd _ (Int.dvd_refl _)]
 have edge:∀ k,k < w.length→P (nxW w.length s.length k).toNat∈(accW a w s.length).getD (P k).toNat []:=fun k hk=>by
  have hst:=h.step (k:=k) (by omega)
  rw [← hw] at hst
  have hx0:=h.inn ((s++q).getD k 0) (by rw [z20 (by omega)];exact y41 _)
  obtain ⟨i,to,e,h1,h2,h3,h4,h5,h6,h7,h8⟩:=z489 hx0 hst hA
  have hE:=hA.2.2.2 e h3
  unfold z205 at hE
  have hnx:=nxW_in (N:=w.length) (s:=s.length) (i:=k) (by omega) hk
  have hon:onB e (w.getD k 0)=true:=by rw [hwl k hk,h5,y74];exact h4
  have hm:((k * a.acc.length:Nat):Int)=(k:Int) * a.acc.length:=by simp
  have e1:(P k).toNat=k * a.acc.length+e.src.toNat:=by
   rw [hP];dsimp only;rw [h6];omega
  have e2:P (nxW w.length s.length k).toNat=nxW w.length s.length k * a.acc.length+e.dst:=by
   rw [hP];dsimp only;rw [h8,Int.toNat_of_nonneg hnx.1]
  rw [e1,e2]
  unfold accW
  refine z571.2 ⟨?_,List.mem_flatMap.2 ⟨k,List.mem_range.2 hk,?_⟩⟩
  ·have h9:(k+1) * a.acc.length≤w.length * a.acc.length:=Nat.mul_le_mul_right _ hk
   rw [Nat.add_mul,Nat.one_mul] at h9
   omega
  ·unfold pushW
   refine List.mem_flatMap.2 ⟨e,h3,?_⟩
   unfold z483
   rw [if_pos hon];simp
 have rp:∀ k,k < w.length→RP (accW a w s.length) a.ini (P k):=by
  intro k
  induction k with
  |zero =>
   intro _
   refine .base ?_
   have hi:=h.ini
   obtain ⟨j,hj,e⟩:=List.mem_iff_getElem.1 hi
   have h5:=(hA.2.2.1 j hj hj).1
   rw [e] at h5
   have:P 0=(s++q).getD 0 0:=by rw [hP];dsimp only;rw [Int.emod_eq_of_lt h5.1 (by omega)];simp
   rw [this];exact hi
  |succ k ih =>
   intro hk
   have:=edge k (by omega)
   unfold nxW at this
   rw [if_neg (by omega),y74] at this
   exact .step (ih (by omega)) this
 have round:∀ d k,k+d+1=w.length→s.length≤k→RP (accW a w s.length) [P k] (P s.length):=by
  intro d
  induction d with
  |zero =>
   intro k hk _
   have:=edge k (by omega)
   unfold nxW at this
   rw [if_pos (by omega),y74] at this
   exact .step (.base (by simp)) this
  |succ d ih =>
   intro k hk hs
   have:=edge k (by omega)
   unfold nxW at this
   rw [if_neg (by omega),y74] at this
   exact RP.trans (.base (by simp)) this (ih (k+1) (by omega) (by omega))
 refine ⟨P s.length,rp _ (by omega),⟨_,edge s.length (by omega),?_⟩,by rw [hPm,hsq0];exact h.acc⟩
 unfold nxW
 split
 ·rw [y74];exact .base (by simp)
 ·rw [y74];exact round (w.length - (s.length+1) - 1) (s.length+1) (by omega) (by omega)
end
end Go.Proofs.YteinbnahinpegaaGreat
namespace Go.Proofs.YteinbnahinpegaaGreat
open Go.Gl Proofs.Tryz
attribute [local irreducible] z18 AWP z38 z41 z40 RetS z42
def GPath (g:Graph) (π:Nat→Int):Prop:=π 0=0∧∀ k,π (k+1)∈g.nx.getD (π k).toNat []
def gW (g:Graph) (l:List Tree) (π:Nat→Int) (k:Nat):Int:=(g.st.map (z85 l)).getD (π k).toNat 0
theorem GPath.inn {g:Graph} (hG:GB g) {π:Nat→Int} (h:GPath g π):∀ k,0≤π k∧π k < g.st.length
 |0=>by have:=hG.1;rw [h.1];omega
 |k+1=>by
  have ih:=GPath.inn hG h k
  have hl:=hG.2.1
  have h1:=h.2 k
  rw [z20 (by omega)] at h1
  exact (hG.row _ (by omega)).2.2 _ h1
theorem divmod {n b q:Int} (hn:0 < n) (q0:0≤q) (q1:q < n):(b * n+q) / n=b∧(b * n+q) % n=q :=
 ⟨by rw [Int.add_comm,Int.add_mul_ediv_right _ _ (by omega),Int.ediv_eq_zero_of_lt q0 q1,Int.zero_add],by rw [Int.add_comm,Int.add_mul_emod_self_right,Int.emod_eq_of_lt q0 q1]⟩
def ARun (a:Aut) (w:Nat→Int) (ρ:Nat→Int):Prop:=ρ 0∈a.ini∧(∀ k,∃ e∈a.ed,e.src=ρ k∧e.dst=ρ (k+1)∧onB e (w k)=true)∧∀ m,∃ k,m≤k∧a.acc.getD (ρ k).toNat false=true
theorem z1207 {g:Graph} {l:List Tree} {a:Aut} (h1:(glB g l && autB a)=true):(ftO g l a).isSome=true↔∃ π ρ:Nat→Int,GPath g π∧ARun a (gW g l π) ρ:=by
 obtain ⟨h3,hab⟩:=Bool.and_eq_true_iff.1 h1
 have hG:=(z453 g).1 (by unfold glB at h3;exact (Bool.and_eq_true_iff.1 h3).1)
 have hA:=z153.1 hab
 obtain ⟨f1,f2,f3,f4,f5⟩:=z618 hG hA (g.st.map (z85 l))
 have hnd:=hA.2.2.1.nd
 have hac:=hA.1
 have hn:(0:Int) < a.acc.length:=by omega
 have hini:=fun x hx=>(show InN (z64 g (g.st.map (z85 l)) a).length a.ini from f2) x hx
 have e1:ftO g l a=trcO g (g.st.map (z85 l)) a:=by unfold ftO;rw [if_pos h1]
 have e2:(ftO g l a).isSome=true↔∃ x,RP (z64 g (g.st.map (z85 l)) a) a.ini x∧a.acc.getD (x % a.acc.length).toNat false=true∧Cyc (z64 g (g.st.map (z85 l)) a) x:=by
  rw [e1]
  constructor
  ·intro h
   refine y75 fun hno=>?_
   have:NoAcc (z64 g (g.st.map (z85 l)) a) a.ini a.acc:=fun x hx hc=>by
    cases hb:a.acc.getD (x % a.acc.length).toNat false with
    |false=>rfl
    |true=>exact absurd ⟨x,hx,hb,hc⟩ hno
   rw [z1160 f1 f2 hnd this] at h
   cases h
  ·rintro ⟨x,hx,hb,hc⟩
   cases ht:trcO g (g.st.map (z85 l)) a with
   |some p=>rfl
   |none =>
    have:=z1092 f1 f2 hnd ht x hx hc
    rw [hb] at this;cases this
 have e3:=inf_iff (acc:=fun x=>a.acc.getD (x % a.acc.length).toNat false=true) f1 f2
 rw [e2,← e3]
 constructor
 ·rintro ⟨σ,s0,s1,s2⟩
  have hin:=runInN f1 s1 (f2 _ s0)
  have hst:=fun k=>z489 (hin k).1 (s1 k) hA
  obtain ⟨i0,hi0,ei0⟩:=List.mem_iff_getElem.1 s0
  have hr0:=(hA.2.2.1 i0 hi0 hi0).1
  rw [ei0] at hr0
  have hd0:=divmod (b:=0) hn hr0.1 (show σ 0 < a.acc.length by omega)
  rw [Int.zero_mul,Int.zero_add] at hd0
  refine ⟨fun k=>σ k / a.acc.length,fun k=>σ k % a.acc.length,⟨hd0.1,fun k=>?_⟩,by show σ 0 % _∈_;rw [hd0.2];exact s0,fun k=>?_,s2⟩
  ·obtain ⟨i,to,e,c1,c2,c3,c4,c5,c6,c7,c8⟩:=hst k
   show σ (k+1) / _∈g.nx.getD (σ k / a.acc.length).toNat []
   rw [c7,c5,y74];exact c2
  ·obtain ⟨i,to,e,c1,c2,c3,c4,c5,c6,c7,c8⟩:=hst k
   refine ⟨e,c3,c6.symm,c8.symm,?_⟩
   unfold gW
   show onB e ((g.st.map (z85 l)).getD (σ k / a.acc.length).toNat 0)=true
   rw [c5,y74];exact c4
 ·rintro ⟨π,ρ,hp,r0,r1,r2⟩
  have hin:=hp.inn hG
  have hrr:∀ k,0≤ρ k∧ρ k < a.acc.length:=fun k=>by
   obtain ⟨e,he,c1,c2,_⟩:=r1 k
   have hE:=hA.2.2.2 e he
   unfold z205 at hE
   omega
  refine ⟨fun k=>π k * a.acc.length+ρ k,?_,fun k=>?_,fun m=>?_⟩
  ·show π 0 * _+ρ 0∈_
   rw [hp.1,Int.zero_mul,Int.zero_add];exact r0
  ·obtain ⟨e,he,c1,c2,c3⟩:=r1 k
   have hE:=hA.2.2.2 e he
   unfold z205 at hE
   have h4:=z1137 (g:=g) (ls:=g.st.map (z85 l)) (a:=a) (i:=(π k).toNat) (to:=π (k+1)) (e:=e) (by omega) (by have:=hin k;omega) (hp.2 k) he c3
   show π (k+1) * _+ρ (k+1)∈(z64 g (g.st.map (z85 l)) a).getD (π k * a.acc.length+ρ k).toNat []
   rw [c2] at h4
   have h5:(π k * a.acc.length+ρ k).toNat=(π k).toNat * a.acc.length+e.src.toNat:=by
    rw [c1]
    obtain ⟨i,hi⟩:=Int.eq_ofNat_of_zero_le (hin k).1
    obtain ⟨r,hr⟩:=Int.eq_ofNat_of_zero_le (hrr k).1
    rw [hi,hr,y74,y74]
    norm_cast
   rw [h5];exact h4
  ·obtain ⟨k,k1,k2⟩:=r2 m
   refine ⟨k,k1,?_⟩
   show a.acc.getD ((π k * a.acc.length+ρ k) % a.acc.length).toNat false=true
   rw [(divmod hn (hrr k).1 (hrr k).2).2];exact k2
end Go.Proofs.YteinbnahinpegaaGreat
