/- A part of the proofs over this program: T154, T155, T156, T157, T158. -/
import Derived.Test.YtknlmbniicacmaaGreatG0
import Derived.Test.YtknlmbniicacmaaGreatG1
import Derived.Test.YtknlmbniicacmaaGreatG2
import Derived.Test.YtknlmbniicacmaaGreatG3
import Derived.Test.YtknlmbniicacmaaGreatP0
import Derived.Test.YtknlmbniicacmaaGreatP1
import Derived.Test.YtknlmbniicacmaaGreatP2
import Derived.Test.YtknlmbniicacmaaGreatP3
import Derived.Test.YtknlmbniicacmaaGreatP4
import Derived.Test.YtknlmbniicacmaaGreatP5
import Derived.Test.YtknlmbniicacmaaGreatP6
set_option linter.all false
namespace Go.Proofs.YtknlmbniicacmaaGreat
open Go.Gl
attribute [local irreducible] z31 AWP z48 z52 z50 RetS z57
def iniF (z:List (Bool×Bool)):Nat→List Int
  | 0=>[]
  | k+1=>iniF z k++(if (z.getD k (false,false)).2=true then [(k:Int)] else [])
theorem z285 (z:List (Bool×Bool)):∀ k,(iniF z k).length≤k
  | 0=>Nat.le_refl _
  | k+1=>by
    have:=z285 z k
    rw [iniF,List.length_append]
    split
    · simp;omega
    · simp;omega
def z101 (z:List (Bool×Bool)) (n k:Nat):List Bool:=(z.take k).map (·.1)++List.replicate (n - k) false
theorem z498 {z:List (Bool×Bool)} {n k:Nat} (h:k < z.length) (hn:k < n) {a:Bool} (ha:z[k].1=a):(z101 z n k).set k a=z101 z n (k+1):=by
  subst ha
  unfold z101
  rw [show n - k=(n - (k+1))+1 by omega,List.replicate_succ,List.set_append_right _ _ (by simp;omega)]
  simp only [List.length_map,List.length_take]
  rw [show k - min k z.length=0 by omega,List.set_cons_zero,List.take_succ_eq_append_getElem h,List.map_append]
  simp
theorem z218 {z:List (Bool×Bool)} {n k:Nat} (h:k≤z.length) (hn:k≤n):(z101 z n k).length=n:=by
  unfold z101;simp;omega
def z1033 (bs:List Int) (i:Nat) (q:Int) (z:Bool×Bool) (q' : Int):Prop:=∃ a:Int,CallsA Tryz.prog 73 [.ptr 0 none 0,.int 3] [rdO bs q] (.int a) [rdO bs (q+1)]∧z.1=decide (a=0) ∧
  ((i=0∧∃ b:Int,CallsA Tryz.prog 73 [.ptr 0 none 0,.int 12] [rdO bs (q+1)] (.int b) [rdO bs (q+1+1)]∧((0 < b∧z.2=true∧q'=q+1+1)∨(¬ 0 < b∧∃ c:Int,CallsA Tryz.prog 73 [.ptr 0 none 0,.int 5] [rdO bs (q+1+1)] (.int c) [rdO bs (q+1+1+1)]∧z.2=decide (c=0)∧q'=q+1+1+1))) ∨
   (i≠0∧∃ c:Int,CallsA Tryz.prog 73 [.ptr 0 none 0,.int 5] [rdO bs (q+1)] (.int c) [rdO bs (q+1+1)]∧z.2=decide (c=0)∧q'=q+1+1))
theorem z1032 (bs:List Int) (hb:BytesOk bs) (i:Nat) (q:Int) (hq:0≤q∧q≤999990000):∃ z q',z1033 bs i q z q'∧q≤q'∧q'≤q+3:=by
  obtain ⟨a,_,ca⟩:=z59 bs hb q 3 (by omega) (by omega) (by omega)
  by_cases h:i=0
  · obtain ⟨b,_,cb⟩:=z59 bs hb (q+1) 12 (by omega) (by omega) (by omega)
    by_cases h0:0 < b
    · exact ⟨(decide (a=0),true),q+1+1,⟨a,ca,rfl,.inl ⟨h,b,cb,.inl ⟨h0,rfl,rfl⟩⟩⟩,by omega,by omega⟩
    · obtain ⟨c,_,cc⟩:=z59 bs hb (q+1+1) 5 (by omega) (by omega) (by omega)
      exact ⟨(decide (a=0),decide (c=0)),q+1+1+1,⟨a,ca,rfl,.inl ⟨h,b,cb,.inr ⟨h0,c,cc,rfl,rfl⟩⟩⟩,by omega,by omega⟩
  · obtain ⟨c,_,cc⟩:=z59 bs hb (q+1) 5 (by omega) (by omega) (by omega)
    exact ⟨(decide (a=0),decide (c=0)),q+1+1,⟨a,ca,rfl,.inr ⟨h,c,cc,rfl,rfl⟩⟩,by omega,by omega⟩
def isEdge (bs:List Int) (n:Nat) (q:Int) (e:Trans) (q' : Int):Prop:=∃ a w:Int,(0≤w∧w≤7)∧(0≤e.care∧e.care≤7)∧e.src=a∧e.val=((w.toNat &&& e.care.toNat:Nat):Int)∧q'=q+1+1+1+1 ∧
  CallsA Tryz.prog 158 [.ptr 0 none 0,.sref 1 0 5] [rdO bs q,.cells 1 ([1,3,0,2,7].map enI)] (.int e.care) [rdO bs (q+1),.cells 1 ([1,3,0,2,7].map enI)] ∧
  CallsA Tryz.prog 73 [.ptr 0 none 0,.int n] [rdO bs (q+1)] (.int a) [rdO bs (q+1+1)] ∧
  CallsA Tryz.prog 73 [.ptr 0 none 0,.int 8] [rdO bs (q+1+1)] (.int w) [rdO bs (q+1+1+1)] ∧
  CallsA Tryz.prog 73 [.ptr 0 none 0,.int n] [rdO bs (q+1+1+1)] (.int e.dst) [rdO bs (q+1+1+1+1)]
structure AutD (bs:List Int) (q q' : Int) (n m:Nat) (z:List (Bool×Bool)) (E:List Trans) (pf pg:Nat→Int):Prop where
  num:CallsA Tryz.prog 158 [.ptr 0 none 0,.sref 1 0 5] [rdO bs q,.cells 1 ([3,2,4,1,5].map enI)] (.int n) [rdO bs (pf 0),.cells 1 ([3,2,4,1,5].map enI)]
  n1:1≤n
  n5:n≤5
  zl:z.length=n
  node:∀ k (h:k < z.length),z1033 bs k (pf k) z[k] (pf (k+1))
  mid:CallsA Tryz.prog 158 [.ptr 0 none 0,.sref 1 0 5] [rdO bs (pf n),.cells 1 ([6,4,8,3,10].map enI)] (.int m) [rdO bs (pg 0),.cells 1 ([6,4,8,3,10].map enI)]
  m10:m≤10
  el:E.length=m
  edge:∀ k (h:k < E.length),isEdge bs n (pg k) E[k] (pg (k+1))
  last:pg m=q'
  q0:q≤q'
  q1:q'≤q+60
theorem z1079 (bs:List Int) (hb:BytesOk bs) (q:Int) (hq:0≤q∧q≤999980000):∃ q' n m z E pf pg,AutD bs q q' n m z E pf pg:=by
  obtain ⟨w,mw,cw⟩:=z88 bs hb q (by omega) (by omega) [3,2,4,1,5] (by decide) (by decide)
  simp only [List.mem_cons,List.not_mem_nil,or_false] at mw
  obtain ⟨n,rfl⟩:∃ n:Nat,w=n:=⟨w.toNat,by omega⟩
  obtain ⟨z,pf,h1,h2,h3,h4⟩:=z302 (fun k r t r'=>z1033 bs k r t r') (q+1) 3 n (fun k r hk a1 a2=>z1032 bs hb k r ⟨by omega,by omega⟩)
  have h5:=h4 n (Nat.le_refl _)
  obtain ⟨v,mv,cv⟩:=z88 bs hb (pf n) (by omega) (by omega) [6,4,8,3,10] (by decide) (by decide)
  simp only [List.mem_cons,List.not_mem_nil,or_false] at mv
  obtain ⟨m,rfl⟩:∃ m:Nat,v=m:=⟨v.toNat,by omega⟩
  obtain ⟨E,pg,g1,g2,g3,g4⟩:=z302 (fun _ r t r'=>isEdge bs n r t r') (pf n+1) 4 m (fun k r hk a1 a2=>by
    obtain ⟨c,mc,cc⟩:=z88 bs hb r (by omega) (by omega) [1,3,0,2,7] (by decide) (by decide)
    simp only [List.mem_cons,List.not_mem_nil,or_false] at mc
    obtain ⟨a,_,ca⟩:=z59 bs hb (r+1) n (by omega) (by omega) (by omega)
    obtain ⟨w,_,cw⟩:=z59 bs hb (r+1+1) 8 (by omega) (by omega) (by omega)
    obtain ⟨d,_,cd⟩:=z59 bs hb (r+1+1+1) n (by omega) (by omega) (by omega)
    exact ⟨⟨a,c,((w.toNat &&& c.toNat:Nat):Int),d⟩,r+1+1+1+1,⟨a,w,⟨by omega,by omega⟩,⟨by show 0≤c;omega,by show c≤7;omega⟩,rfl,rfl,rfl,cc,ca,cw,cd⟩,by omega,by omega⟩)
  have g5:=g4 m (Nat.le_refl _)
  exact ⟨pg m,n,m,z,E,pf,pg,by rw [← h2] at cw;exact cw,by omega,by omega,h1,h3,by rw [g2];exact cv,by omega,g1,g3,rfl,by omega,by omega⟩
set_option maxHeartbeats 6400000 in
theorem z534 (bs : List Int) (hb : BytesOk bs) (p : Int) (hp : few3 p) : ∃ (a : Aut) (p' : Int), (a.ini.length ≤ 32 ∧ a.acc.length ≤ 16 ∧ a.ed.length ≤ 2080 ∧ p ≤ p' ∧ p' ≤ p + 200 ∧ ∀ t ∈ a.ed, t.mx) ∧
    CallsA Tryz.prog 149 [.ptr 0 none 0] [rdO bs p] (.agg [.sref 1 0 a.ini.length,.sref 2 0 a.acc.length,.sref 3 0 a.ed.length]) [rdO bs p',.cells 1 (a.ini.map enI),.cells 1 (a.acc.map enB),.cells 4 (a.ed.map Trans.cs)]:=by
  obtain ⟨v,⟨v0,v1⟩,cv⟩:=z59 bs hb p 3 (by omega) (by omega) (by omega)
  by_cases hv:v=0
  · subst hv
    obtain ⟨t,q,⟨t1,t2,t3⟩,ct⟩:=z694 bs hb (p+1) ⟨by omega,by omega⟩
    have cT:=z963 t (by omega)
    obtain ⟨b1,b2,b3⟩:=trA_len t (by omega)
    have b4:=trA_val t (by omega)
    rw [Tree.arg_eq] at ct cT
    generalize trA t=A0 at *
    generalize tsB t=B0 at *
    by_cases h16:A0.acc.length≤16∧B0=true
    · obtain ⟨h16,rfl⟩:=h16
      refine ⟨A0,q,⟨by omega,h16,by omega,by omega,by omega,b4⟩,?_⟩
      refine z10 z18 Tryz.func149 rfl rfl 91 Tryz.ntmps149 (by simp) ?_
      repeat' ((first|(apply AWP.go ok;rfl)|((apply z7)<;>intro _)|((first|(apply z8 [0] [] [] (cv);rfl;(focus ((repeat' first|exact z4|apply z5)<;>rfl)))|(apply z8 [0] [] [] (ct);rfl;(focus ((repeat' first|exact z4|apply z5)<;>rfl)))|(apply z8 [] [] [2,3,4] (cT);rfl;(focus ((repeat' exact z4)<;>fail))));rfl;rfl;rfl;rfl;rfl;(focus ((repeat' first|exact z15|apply z14)<;>first|exact z20 rfl rfl|(refine z25 ?_;((exact z6 fun _=>rfl)))));(exact .inl rfl)))<;>conv=>whnf)
      all_goals first|(exfalso;omega)|skip
      all_goals (refine RetS.lay [0,2,3,4] [] rfl rfl rfl ?_;refine RetS.done ?_ ?_<;>(repeat' (first|exact LocLe.refl _|exact F2.nil|apply F2.cons|exact z12 _|apply ObjLe.box|((refine z13 rfl ?_ ?_);(focus ((repeat' ((exact z6 (fun _=>rfl))));done))))))
    · obtain ⟨q',n,m,z,E,pf,pg,F⟩:=z1079 bs hb q ⟨by omega,by omega⟩
      obtain ⟨Y1,Y2,Y3,Y4,Y5,Y6,Y7,Y8,Y9,Y10,Y11,Y12⟩:=F
      have hil:=z285 z n
      have hEv:∀ t∈E,t.mx:=fun t ht=>by
        obtain ⟨i,hi,rfl⟩:=List.mem_iff_getElem.1 ht
        obtain ⟨a,w,hw,hc,e1,e2,_⟩:=Y9 i hi
        show inI _
        rw [e2]
        have:=@Nat.and_le_left w.toNat E[i].care.toNat
        unfold inI;omega
      refine ⟨⟨iniF z n,z.map (·.1),E⟩,q',⟨by show (iniF z n).length≤32;omega,by show (z.map (·.1)).length≤16;simp;omega,by show E.length≤2080;omega,by omega,by omega,hEv⟩,?_⟩
      cases B0
      · refine z10 z18 Tryz.func149 rfl rfl 91 Tryz.ntmps149 (by simp) ?_
        repeat' ((first|(apply AWP.go ok;rfl)|(apply And.intro;(dsimp only;omega))|((first|(apply z8 [0] [] [] (cv);rfl;(focus ((repeat' first|exact z4|apply z5)<;>rfl)))|(apply z8 [0] [] [] (ct);rfl;(focus ((repeat' first|exact z4|apply z5)<;>rfl)))|(apply z8 [] [] [2,3,4] (cT);rfl;(focus ((repeat' exact z4)<;>fail)))|(apply z8 [0,6] [] [] (Y1);rfl;(focus ((repeat' first|exact z4|apply z5)<;>rfl))));rfl;rfl;rfl;rfl;rfl;(focus ((repeat' first|exact z15|apply z14)<;>first|exact z20 rfl rfl|(refine z25 ?_;((exact z6 fun _=>rfl)))));(exact .inl rfl)))<;>conv=>whnf)
        all_goals skip
        all_goals
          have hz0:(z101 z n 0).map enB=List.replicate n [.bool false]:=by simp [z101,enB]
          refine AWP.reach (Reach.empty 1 rfl) ?_
          refine z64 (fun x:Nat×List Bool×List Int=>([(0,.ptr 0 none 0),(2,.ptr 1 none 0),(5,.int n),(6,.ptr 2 none 0),(7,.int x.1)],[rdO bs (pf x.1),.cells 3 [[.nils,.nils,.nils]],.cells 3 [[.sref 4 0 x.2.2.length,.sref 3 0 n,.nils]],.cells 1 (x.2.1.map enB),.cells 1 (x.2.2.map enI)])) (fun x=>x.1≤n∧x.2.1=z101 z n x.1∧x.2.2=iniF z x.1) (fun x=>n - x.1) (0,z101 z n 0,[]) ⟨by show 0≤n;omega,rfl,rfl⟩ (by refine SealW.reach [0,1,8,7,9] [] rfl rfl rfl rfl ?_ ?_<;>(repeat' (first|exact LocLe.refl _|exact z46|exact F2.nil|apply F2.cons|apply ObjLe.box|((refine z13 rfl ?_ ?_);(focus ((repeat' (first|exact z37|exact z65 rfl));done)))|exact True.intro|apply And.intro))<;>((exact z29 hz0.symm))) ?_
          rintro ⟨k,A,I⟩ ⟨hk,hA,hI⟩
          dsimp only at hk hA hI ⊢
          have hAl:A.length=n:=by rw [hA];exact z218 (by omega) hk
          have hIl:=z285 z k
          rw [← hI] at hIl
          by_cases hkn:k < n
          · have hkz:k < z.length:=by omega
            obtain ⟨a,ca,e1,H⟩:=Y5 k hkz
            have hset:=z498 hkz hkn e1
            rw [← hA] at hset
            have hset2:(A.map enB).set k (enB (decide (a=0)))=(z101 z n (k+1)).map enB:=by rw [← hset,List.map_set]
            have hin:iniF z (k+1)=I++(if (z.getD k (false,false)).2=true then [(k:Int)] else []):=by rw [iniF,hI]
            rw [z19 hkz] at hin
            have hA2l:(z101 z n (k+1)).length=n:=z218 (by omega) (by omega)
            generalize z[k]=zk at *
            obtain ⟨z1,z2⟩:=zk
            dsimp only at e1 H hin
            rcases H with ⟨i0,b,cb,(⟨b0,e2,eq⟩|⟨b0,c,cc,e2,eq⟩)⟩|⟨i0,c,cc,e2,eq⟩
            · rw [← eq] at cb
              subst e2
              rw [if_pos rfl] at hin
              repeat' ((first|(apply AWP.go ok;rfl)|(apply z34;kernel_rfl)|(apply And.intro;first|omega|(unfold inI;omega)|(dsimp only;omega)|exact ⟨rfl,z21 rfl z30⟩)|(((apply z11;omega));intro _)|((apply z7)<;>intro _)|((first|(apply z8 [0] [] [] (ca);rfl;(focus ((repeat' first|exact z4|apply z5)<;>rfl)))|(apply z8 [0] [] [] (cb);rfl;(focus ((repeat' first|exact z4|apply z5)<;>rfl))));rfl;rfl;rfl;rfl;rfl;(focus ((repeat' first|exact z15|apply z14)<;>exact z20 rfl rfl));(exact .inl rfl)))<;>conv=>whnf)
              all_goals first|(exfalso;omega)|skip
              all_goals refine z23 (k+1,z101 z n (k+1),I++[(k:Int)]) ⟨by show k+1≤n;omega,rfl,hin.symm⟩ (by show n - (k+1) < n - k;omega) (by refine SealW.reach [0,1,2,3,6] [] rfl rfl rfl rfl ?_ ?_<;>(repeat' (first|exact LocLe.refl _|exact F2.nil|apply F2.cons|(refine z39 ?_;((simp;done)))|apply ObjLe.box|((first|refine z35 rfl ?_ ?_|refine z42 rfl ?_ ?_);(focus ((repeat' (first|exact z6 (fun _=>rfl)|apply z22));done)))|(refine z70 ?_ ?_;(focus (omega)))|exact True.intro|apply And.intro))<;>(exact z29 hset2))
            · rw [← eq] at cc
              by_cases hc0:c=0
              · rw [e2,if_pos (decide_eq_true hc0)] at hin
                repeat' ((first|(apply AWP.go ok;rfl)|(apply z34;kernel_rfl)|(apply And.intro;first|omega|(unfold inI;omega)|(dsimp only;omega)|exact ⟨rfl,z21 rfl z30⟩)|(((apply z11;omega));intro _)|((apply z7)<;>intro _)|((first|(apply z8 [0] [] [] (ca);rfl;(focus ((repeat' first|exact z4|apply z5)<;>rfl)))|(apply z8 [0] [] [] (cb);rfl;(focus ((repeat' first|exact z4|apply z5)<;>rfl)))|(apply z8 [0] [] [] (cc);rfl;(focus ((repeat' first|exact z4|apply z5)<;>rfl))));rfl;rfl;rfl;rfl;rfl;(focus ((repeat' first|exact z15|apply z14)<;>exact z20 rfl rfl));(exact .inl rfl)))<;>conv=>whnf)
                all_goals first|(exfalso;omega)|skip
                all_goals refine z23 (k+1,z101 z n (k+1),I++[(k:Int)]) ⟨by show k+1≤n;omega,rfl,hin.symm⟩ (by show n - (k+1) < n - k;omega) (by refine SealW.reach [0,1,2,3,6] [] rfl rfl rfl rfl ?_ ?_<;>(repeat' (first|exact LocLe.refl _|exact F2.nil|apply F2.cons|(refine z39 ?_;((simp;done)))|apply ObjLe.box|((first|refine z35 rfl ?_ ?_|refine z42 rfl ?_ ?_);(focus ((repeat' (first|exact z6 (fun _=>rfl)|apply z22));done)))|(refine z70 ?_ ?_;(focus (omega)))|exact True.intro|apply And.intro))<;>(exact z29 hset2))
              · rw [e2,if_neg (by simpa using hc0),List.append_nil] at hin
                repeat' ((first|(apply AWP.go ok;rfl)|(apply z34;kernel_rfl)|(apply And.intro;first|omega|(unfold inI;omega))|(((apply z11;omega));intro _)|((apply z7)<;>intro _)|((first|(apply z8 [0] [] [] (ca);rfl;(focus ((repeat' first|exact z4|apply z5)<;>rfl)))|(apply z8 [0] [] [] (cb);rfl;(focus ((repeat' first|exact z4|apply z5)<;>rfl)))|(apply z8 [0] [] [] (cc);rfl;(focus ((repeat' first|exact z4|apply z5)<;>rfl))));rfl;rfl;rfl;rfl;rfl;(focus ((repeat' first|exact z15|apply z14)<;>exact z20 rfl rfl));(exact .inl rfl)))<;>conv=>whnf)
                all_goals first|(exfalso;omega)|skip
                all_goals refine z23 (k+1,z101 z n (k+1),I) ⟨by show k+1≤n;omega,rfl,hin.symm⟩ (by show n - (k+1) < n - k;omega) (by refine SealW.reach [0,1,2,3,4] [] rfl rfl rfl rfl ?_ ?_<;>(repeat' (first|exact LocLe.refl _|exact F2.nil|apply F2.cons|exact z12 _|apply ObjLe.box|((first|refine z42 rfl ?_ ?_|refine z13 rfl ?_ ?_);(focus ((repeat' ((exact z6 (fun _=>rfl))));done)))|exact True.intro|apply And.intro))<;>(exact z29 hset2))
            · rw [← eq] at cc
              by_cases hc0:c=0
              · rw [e2,if_pos (decide_eq_true hc0)] at hin
                repeat' ((first|(apply AWP.go ok;rfl)|(apply z34;kernel_rfl)|(apply And.intro;first|omega|(unfold inI;omega)|((try dsimp only);simp only [List.length_map,List.length_take,List.length_append,List.length_replicate,List.length_cons,List.length_nil];omega)|exact ⟨rfl,z21 rfl z30⟩)|(((apply z11;omega));intro _)|((apply z7)<;>intro _)|((first|(apply z8 [0] [] [] (ca);rfl;(focus ((repeat' first|exact z4|apply z5)<;>rfl)))|(apply z8 [0] [] [] (cc);rfl;(focus ((repeat' first|exact z4|apply z5)<;>rfl))));rfl;rfl;rfl;rfl;rfl;(focus ((repeat' first|exact z15|apply z14)<;>exact z20 rfl rfl));(exact .inl rfl)))<;>conv=>whnf)
                all_goals first|(exfalso;omega)|skip
                all_goals refine z23 (k+1,z101 z n (k+1),I++[(k:Int)]) ⟨by show k+1≤n;omega,rfl,hin.symm⟩ (by show n - (k+1) < n - k;omega) (by refine SealW.reach [0,1,2,3,6] [] rfl rfl rfl rfl ?_ ?_<;>(repeat' (first|exact LocLe.refl _|exact F2.nil|apply F2.cons|(refine z39 ?_;((simp;done)))|apply ObjLe.box|((first|refine z35 rfl ?_ ?_|refine z42 rfl ?_ ?_);(focus ((repeat' (first|exact z6 (fun _=>rfl)|apply z22));done)))|(refine z70 ?_ ?_;(focus (omega)))|exact True.intro|apply And.intro))<;>(exact z29 hset2))
              · rw [e2,if_neg (by simpa using hc0),List.append_nil] at hin
                repeat' ((first|(apply AWP.go ok;rfl)|(apply z34;kernel_rfl)|(apply And.intro;first|omega|(unfold inI;omega))|(((apply z11;omega));intro _)|((apply z7)<;>intro _)|((first|(apply z8 [0] [] [] (ca);rfl;(focus ((repeat' first|exact z4|apply z5)<;>rfl)))|(apply z8 [0] [] [] (cc);rfl;(focus ((repeat' first|exact z4|apply z5)<;>rfl))));rfl;rfl;rfl;rfl;rfl;(focus ((repeat' first|exact z15|apply z14)<;>exact z20 rfl rfl));(exact .inl rfl)))<;>conv=>whnf)
                all_goals first|(exfalso;omega)|skip
                all_goals refine z23 (k+1,z101 z n (k+1),I) ⟨by show k+1≤n;omega,rfl,hin.symm⟩ (by show n - (k+1) < n - k;omega) (by refine SealW.reach [0,1,2,3,4] [] rfl rfl rfl rfl ?_ ?_<;>(repeat' (first|exact LocLe.refl _|exact F2.nil|apply F2.cons|exact z12 _|apply ObjLe.box|((first|refine z42 rfl ?_ ?_|refine z13 rfl ?_ ?_);(focus ((repeat' ((exact z6 (fun _=>rfl))));done)))|exact True.intro|apply And.intro))<;>(exact z29 hset2))
          · have e:n=k:=by omega
            subst e
            have hA2:z.map (·.1)=A:=by
              rw [hA];unfold z101
              rw [Nat.sub_self,List.take_of_length_le (by omega)];simp
            rw [hA2,← hI]
            clear hA hI hz0 Y5 hA2
            repeat' ((first|(apply AWP.go ok;rfl)|((apply z7)<;>intro _)|(((apply z8 [0,5] [] [] (Y6);rfl;(focus ((repeat' first|exact z4|apply z5)<;>rfl))));rfl;rfl;rfl;rfl;rfl;(focus ((repeat' first|exact z15|apply z14)<;>first|exact z20 rfl rfl|(refine z25 ?_;((exact z6 fun _=>rfl)))));(exact .inl rfl)))<;>conv=>whnf)
            all_goals first|(exfalso;omega)|skip
            all_goals
              refine AWP.reach (Reach.empty 4 rfl) ?_
              refine z64 (fun j:Nat=>([(0,.ptr 0 none 0),(2,.ptr 1 none 0),(5,.int n),(6,.ptr 2 none 0),(8,.int (m - j))],[rdO bs (pg j),.cells 3 [[.nils,.nils,.nils]],.cells 3 [[.sref 4 0 I.length,.sref 3 0 n,.sref 5 0 j]],.cells 1 (A.map enB),.cells 1 (I.map enI),.cells 4 ((E.take j).map Trans.cs)])) (fun j=>j≤m) (fun j=>m - j) 0 (by omega) (by refine SealW.reach [0,1,2,3,4,6] [] rfl rfl rfl rfl ?_ ?_<;>(repeat' (first|exact LocLe.refl _|exact z46|exact F2.nil|apply F2.cons|exact z12 _|apply ObjLe.box|((refine z13 rfl ?_ ?_);(focus ((repeat' (first|exact z37|exact z6 (fun _=>rfl)));done)))|exact True.intro|apply And.intro))) ?_
              intro j hj
              by_cases hjm:j < m
              · have hjl:j < E.length:=by omega
                obtain ⟨a,w,hw,hc,e1,e2,eq,c1,c2,c3,c4⟩:=Y9 j hjl
                rw [← eq] at c4
                rw [← e1] at c2
                have hbits:z148 w E[j].care:=⟨by omega,by omega,by omega,by omega⟩
                repeat' ((first|(apply AWP.go ok;rfl)|(apply z34;kernel_rfl)|(refine And.intro hbits ?_)|(apply And.intro;first|(unfold inI;omega)|((try dsimp only);simp only [List.length_map,List.length_take,List.length_append,List.length_replicate,List.length_cons,List.length_nil];omega)|exact ⟨rfl,z21 rfl z30⟩)|((apply z7)<;>intro _)|((first|(apply z8 [0,6] [] [] (c1);rfl;(focus ((repeat' first|exact z4|apply z5)<;>rfl)))|(apply z8 [0] [] [] (c2);rfl;(focus ((repeat' first|exact z4|apply z5)<;>rfl)))|(apply z8 [0] [] [] (c3);rfl;(focus ((repeat' first|exact z4|apply z5)<;>rfl)))|(apply z8 [0] [] [] (c4);rfl;(focus ((repeat' first|exact z4|apply z5)<;>rfl))));rfl;rfl;rfl;rfl;rfl;(focus ((repeat' first|exact z15|apply z14)<;>first|exact z20 rfl rfl|(refine z25 ?_;((exact z6 fun _=>rfl)))));(exact .inl rfl)))<;>conv=>whnf)
                all_goals first|(exfalso;omega)|skip
                all_goals refine z23 (j+1) (by omega) (by omega) (by refine SealW.reach [0,1,2,3,4,8] [] rfl rfl rfl rfl ?_ ?_<;>(repeat' (first|exact LocLe.refl _|exact F2.nil|apply F2.cons|exact z12 _|(refine z96 ?_;omega)|apply ObjLe.box|((first|refine z35 rfl ?_ ?_|refine z13 rfl ?_ ?_);(focus ((repeat' (first|exact z6 (fun _=>rfl)|apply z22));done)))|(refine z104 (by omega) (by omega) ?_)|exact True.intro|apply And.intro))<;>(fail))
              · have e:m=j:=by omega
                subst e
                repeat' ((first|(apply AWP.go ok;rfl)|((apply z7)<;>intro _))<;>conv=>whnf)
                all_goals first|(exfalso;omega)|skip
                all_goals (refine RetS.lay [0,4,3,5] [] rfl rfl rfl ?_;refine RetS.done ?_ ?_<;>(repeat' (first|exact LocLe.refl _|exact F2.nil|apply F2.cons|exact z12 _|(refine z96 ?_;omega)|(refine z39 ?_;(omega))|apply ObjLe.box|((refine z13 rfl ?_ ?_);(focus ((repeat' ((exact z6 (fun _=>rfl))));done)))|apply z44)))
                all_goals exact z29 (by rw [List.take_of_length_le (by omega)])
      · have h17:¬ A0.acc.length≤16:=fun h=>h16 ⟨h,rfl⟩
        refine z10 z18 Tryz.func149 rfl rfl 91 Tryz.ntmps149 (by simp) ?_
        repeat' ((first|(apply AWP.go ok;rfl)|(apply And.intro;(dsimp only;omega))|((apply z7)<;>intro _)|((first|(apply z8 [0] [] [] (cv);rfl;(focus ((repeat' first|exact z4|apply z5)<;>rfl)))|(apply z8 [0] [] [] (ct);rfl;(focus ((repeat' first|exact z4|apply z5)<;>rfl)))|(apply z8 [] [] [2,3,4] (cT);rfl;(focus ((repeat' exact z4)<;>fail)))|(apply z8 [0,6] [] [] (Y1);rfl;(focus ((repeat' first|exact z4|apply z5)<;>rfl))));rfl;rfl;rfl;rfl;rfl;(focus ((repeat' first|exact z15|apply z14)<;>first|exact z20 rfl rfl|(refine z25 ?_;((exact z6 fun _=>rfl)))));(exact .inl rfl)))<;>conv=>whnf)
        all_goals first|(exfalso;omega)|skip
        all_goals
          have hz0:(z101 z n 0).map enB=List.replicate n [.bool false]:=by simp [z101,enB]
          refine AWP.reach (Reach.empty 1 rfl) ?_
          refine z64 (fun x:Nat×List Bool×List Int=>([(0,.ptr 0 none 0),(2,.ptr 1 none 0),(5,.int n),(6,.ptr 2 none 0),(7,.int x.1)],[rdO bs (pf x.1),.cells 3 [[.nils,.nils,.nils]],.cells 3 [[.sref 4 0 x.2.2.length,.sref 3 0 n,.nils]],.cells 1 (x.2.1.map enB),.cells 1 (x.2.2.map enI)])) (fun x=>x.1≤n∧x.2.1=z101 z n x.1∧x.2.2=iniF z x.1) (fun x=>n - x.1) (0,z101 z n 0,[]) ⟨by show 0≤n;omega,rfl,rfl⟩ (by refine SealW.reach [0,1,8,7,9] [] rfl rfl rfl rfl ?_ ?_<;>(repeat' (first|exact LocLe.refl _|exact z46|exact F2.nil|apply F2.cons|apply ObjLe.box|((refine z13 rfl ?_ ?_);(focus ((repeat' (first|exact z37|exact z65 rfl));done)))|exact True.intro|apply And.intro))<;>((exact z29 hz0.symm))) ?_
          rintro ⟨k,A,I⟩ ⟨hk,hA,hI⟩
          dsimp only at hk hA hI ⊢
          have hAl:A.length=n:=by rw [hA];exact z218 (by omega) hk
          have hIl:=z285 z k
          rw [← hI] at hIl
          by_cases hkn:k < n
          · have hkz:k < z.length:=by omega
            obtain ⟨a,ca,e1,H⟩:=Y5 k hkz
            have hset:=z498 hkz hkn e1
            rw [← hA] at hset
            have hset2:(A.map enB).set k (enB (decide (a=0)))=(z101 z n (k+1)).map enB:=by rw [← hset,List.map_set]
            have hin:iniF z (k+1)=I++(if (z.getD k (false,false)).2=true then [(k:Int)] else []):=by rw [iniF,hI]
            rw [z19 hkz] at hin
            have hA2l:(z101 z n (k+1)).length=n:=z218 (by omega) (by omega)
            generalize z[k]=zk at *
            obtain ⟨z1,z2⟩:=zk
            dsimp only at e1 H hin
            rcases H with ⟨i0,b,cb,(⟨b0,e2,eq⟩|⟨b0,c,cc,e2,eq⟩)⟩|⟨i0,c,cc,e2,eq⟩
            · rw [← eq] at cb
              subst e2
              rw [if_pos rfl] at hin
              repeat' ((first|(apply AWP.go ok;rfl)|(apply z34;kernel_rfl)|(apply And.intro;first|omega|(unfold inI;omega)|(dsimp only;omega)|exact ⟨rfl,z21 rfl z30⟩)|(((apply z11;omega));intro _)|((apply z7)<;>intro _)|((first|(apply z8 [0] [] [] (ca);rfl;(focus ((repeat' first|exact z4|apply z5)<;>rfl)))|(apply z8 [0] [] [] (cb);rfl;(focus ((repeat' first|exact z4|apply z5)<;>rfl))));rfl;rfl;rfl;rfl;rfl;(focus ((repeat' first|exact z15|apply z14)<;>exact z20 rfl rfl));(exact .inl rfl)))<;>conv=>whnf)
              all_goals first|(exfalso;omega)|skip
              all_goals refine z23 (k+1,z101 z n (k+1),I++[(k:Int)]) ⟨by show k+1≤n;omega,rfl,hin.symm⟩ (by show n - (k+1) < n - k;omega) (by refine SealW.reach [0,1,2,3,6] [] rfl rfl rfl rfl ?_ ?_<;>(repeat' (first|exact LocLe.refl _|exact F2.nil|apply F2.cons|(refine z39 ?_;((simp;done)))|apply ObjLe.box|((first|refine z35 rfl ?_ ?_|refine z42 rfl ?_ ?_);(focus ((repeat' (first|exact z6 (fun _=>rfl)|apply z22));done)))|(refine z70 ?_ ?_;(focus (omega)))|exact True.intro|apply And.intro))<;>(exact z29 hset2))
            · rw [← eq] at cc
              by_cases hc0:c=0
              · rw [e2,if_pos (decide_eq_true hc0)] at hin
                repeat' ((first|(apply AWP.go ok;rfl)|(apply z34;kernel_rfl)|(apply And.intro;first|omega|(unfold inI;omega)|(dsimp only;omega)|exact ⟨rfl,z21 rfl z30⟩)|(((apply z11;omega));intro _)|((apply z7)<;>intro _)|((first|(apply z8 [0] [] [] (ca);rfl;(focus ((repeat' first|exact z4|apply z5)<;>rfl)))|(apply z8 [0] [] [] (cb);rfl;(focus ((repeat' first|exact z4|apply z5)<;>rfl)))|(apply z8 [0] [] [] (cc);rfl;(focus ((repeat' first|exact z4|apply z5)<;>rfl))));rfl;rfl;rfl;rfl;rfl;(focus ((repeat' first|exact z15|apply z14)<;>exact z20 rfl rfl));(exact .inl rfl)))<;>conv=>whnf)
                all_goals first|(exfalso;omega)|skip
                all_goals refine z23 (k+1,z101 z n (k+1),I++[(k:Int)]) ⟨by show k+1≤n;omega,rfl,hin.symm⟩ (by show n - (k+1) < n - k;omega) (by refine SealW.reach [0,1,2,3,6] [] rfl rfl rfl rfl ?_ ?_<;>(repeat' (first|exact LocLe.refl _|exact F2.nil|apply F2.cons|(refine z39 ?_;((simp;done)))|apply ObjLe.box|((first|refine z35 rfl ?_ ?_|refine z42 rfl ?_ ?_);(focus ((repeat' (first|exact z6 (fun _=>rfl)|apply z22));done)))|(refine z70 ?_ ?_;(focus (omega)))|exact True.intro|apply And.intro))<;>(exact z29 hset2))
              · rw [e2,if_neg (by simpa using hc0),List.append_nil] at hin
                repeat' ((first|(apply AWP.go ok;rfl)|(apply z34;kernel_rfl)|(apply And.intro;first|omega|(unfold inI;omega))|(((apply z11;omega));intro _)|((apply z7)<;>intro _)|((first|(apply z8 [0] [] [] (ca);rfl;(focus ((repeat' first|exact z4|apply z5)<;>rfl)))|(apply z8 [0] [] [] (cb);rfl;(focus ((repeat' first|exact z4|apply z5)<;>rfl)))|(apply z8 [0] [] [] (cc);rfl;(focus ((repeat' first|exact z4|apply z5)<;>rfl))));rfl;rfl;rfl;rfl;rfl;(focus ((repeat' first|exact z15|apply z14)<;>exact z20 rfl rfl));(exact .inl rfl)))<;>conv=>whnf)
                all_goals first|(exfalso;omega)|skip
                all_goals refine z23 (k+1,z101 z n (k+1),I) ⟨by show k+1≤n;omega,rfl,hin.symm⟩ (by show n - (k+1) < n - k;omega) (by refine SealW.reach [0,1,2,3,4] [] rfl rfl rfl rfl ?_ ?_<;>(repeat' (first|exact LocLe.refl _|exact F2.nil|apply F2.cons|exact z12 _|apply ObjLe.box|((first|refine z42 rfl ?_ ?_|refine z13 rfl ?_ ?_);(focus ((repeat' ((exact z6 (fun _=>rfl))));done)))|exact True.intro|apply And.intro))<;>(exact z29 hset2))
            · rw [← eq] at cc
              by_cases hc0:c=0
              · rw [e2,if_pos (decide_eq_true hc0)] at hin
                repeat' ((first|(apply AWP.go ok;rfl)|(apply z34;kernel_rfl)|(apply And.intro;first|omega|(unfold inI;omega)|((try dsimp only);simp only [List.length_map,List.length_take,List.length_append,List.length_replicate,List.length_cons,List.length_nil];omega)|exact ⟨rfl,z21 rfl z30⟩)|(((apply z11;omega));intro _)|((apply z7)<;>intro _)|((first|(apply z8 [0] [] [] (ca);rfl;(focus ((repeat' first|exact z4|apply z5)<;>rfl)))|(apply z8 [0] [] [] (cc);rfl;(focus ((repeat' first|exact z4|apply z5)<;>rfl))));rfl;rfl;rfl;rfl;rfl;(focus ((repeat' first|exact z15|apply z14)<;>exact z20 rfl rfl));(exact .inl rfl)))<;>conv=>whnf)
                all_goals first|(exfalso;omega)|skip
                all_goals refine z23 (k+1,z101 z n (k+1),I++[(k:Int)]) ⟨by show k+1≤n;omega,rfl,hin.symm⟩ (by show n - (k+1) < n - k;omega) (by refine SealW.reach [0,1,2,3,6] [] rfl rfl rfl rfl ?_ ?_<;>(repeat' (first|exact LocLe.refl _|exact F2.nil|apply F2.cons|(refine z39 ?_;((simp;done)))|apply ObjLe.box|((first|refine z35 rfl ?_ ?_|refine z42 rfl ?_ ?_);(focus ((repeat' (first|exact z6 (fun _=>rfl)|apply z22));done)))|(refine z70 ?_ ?_;(focus (omega)))|exact True.intro|apply And.intro))<;>(exact z29 hset2))
              · rw [e2,if_neg (by simpa using hc0),List.append_nil] at hin
                repeat' ((first|(apply AWP.go ok;rfl)|(apply z34;kernel_rfl)|(apply And.intro;first|omega|(unfold inI;omega))|(((apply z11;omega));intro _)|((apply z7)<;>intro _)|((first|(apply z8 [0] [] [] (ca);rfl;(focus ((repeat' first|exact z4|apply z5)<;>rfl)))|(apply z8 [0] [] [] (cc);rfl;(focus ((repeat' first|exact z4|apply z5)<;>rfl))));rfl;rfl;rfl;rfl;rfl;(focus ((repeat' first|exact z15|apply z14)<;>exact z20 rfl rfl));(exact .inl rfl)))<;>conv=>whnf)
                all_goals first|(exfalso;omega)|skip
                all_goals refine z23 (k+1,z101 z n (k+1),I) ⟨by show k+1≤n;omega,rfl,hin.symm⟩ (by show n - (k+1) < n - k;omega) (by refine SealW.reach [0,1,2,3,4] [] rfl rfl rfl rfl ?_ ?_<;>(repeat' (first|exact LocLe.refl _|exact F2.nil|apply F2.cons|exact z12 _|apply ObjLe.box|((first|refine z42 rfl ?_ ?_|refine z13 rfl ?_ ?_);(focus ((repeat' ((exact z6 (fun _=>rfl))));done)))|exact True.intro|apply And.intro))<;>(exact z29 hset2))
          · have e:n=k:=by omega
            subst e
            have hA2:z.map (·.1)=A:=by
              rw [hA];unfold z101
              rw [Nat.sub_self,List.take_of_length_le (by omega)];simp
            rw [hA2,← hI]
            clear hA hI hz0 Y5 hA2
            repeat' ((first|(apply AWP.go ok;rfl)|((apply z7)<;>intro _)|(((apply z8 [0,5] [] [] (Y6);rfl;(focus ((repeat' first|exact z4|apply z5)<;>rfl))));rfl;rfl;rfl;rfl;rfl;(focus ((repeat' first|exact z15|apply z14)<;>first|exact z20 rfl rfl|(refine z25 ?_;((exact z6 fun _=>rfl)))));(exact .inl rfl)))<;>conv=>whnf)
            all_goals first|(exfalso;omega)|skip
            all_goals
              refine AWP.reach (Reach.empty 4 rfl) ?_
              refine z64 (fun j:Nat=>([(0,.ptr 0 none 0),(2,.ptr 1 none 0),(5,.int n),(6,.ptr 2 none 0),(8,.int (m - j))],[rdO bs (pg j),.cells 3 [[.nils,.nils,.nils]],.cells 3 [[.sref 4 0 I.length,.sref 3 0 n,.sref 5 0 j]],.cells 1 (A.map enB),.cells 1 (I.map enI),.cells 4 ((E.take j).map Trans.cs)])) (fun j=>j≤m) (fun j=>m - j) 0 (by omega) (by refine SealW.reach [0,1,2,3,4,6] [] rfl rfl rfl rfl ?_ ?_<;>(repeat' (first|exact LocLe.refl _|exact z46|exact F2.nil|apply F2.cons|exact z12 _|apply ObjLe.box|((refine z13 rfl ?_ ?_);(focus ((repeat' (first|exact z37|exact z6 (fun _=>rfl)));done)))|exact True.intro|apply And.intro))) ?_
              intro j hj
              by_cases hjm:j < m
              · have hjl:j < E.length:=by omega
                obtain ⟨a,w,hw,hc,e1,e2,eq,c1,c2,c3,c4⟩:=Y9 j hjl
                rw [← eq] at c4
                rw [← e1] at c2
                have hbits:z148 w E[j].care:=⟨by omega,by omega,by omega,by omega⟩
                repeat' ((first|(apply AWP.go ok;rfl)|(apply z34;kernel_rfl)|(refine And.intro hbits ?_)|(apply And.intro;first|(unfold inI;omega)|((try dsimp only);simp only [List.length_map,List.length_take,List.length_append,List.length_replicate,List.length_cons,List.length_nil];omega)|exact ⟨rfl,z21 rfl z30⟩)|((apply z7)<;>intro _)|((first|(apply z8 [0,6] [] [] (c1);rfl;(focus ((repeat' first|exact z4|apply z5)<;>rfl)))|(apply z8 [0] [] [] (c2);rfl;(focus ((repeat' first|exact z4|apply z5)<;>rfl)))|(apply z8 [0] [] [] (c3);rfl;(focus ((repeat' first|exact z4|apply z5)<;>rfl)))|(apply z8 [0] [] [] (c4);rfl;(focus ((repeat' first|exact z4|apply z5)<;>rfl))));rfl;rfl;rfl;rfl;rfl;(focus ((repeat' first|exact z15|apply z14)<;>first|exact z20 rfl rfl|(refine z25 ?_;((exact z6 fun _=>rfl)))));(exact .inl rfl)))<;>conv=>whnf)
                all_goals first|(exfalso;omega)|skip
                all_goals refine z23 (j+1) (by omega) (by omega) (by refine SealW.reach [0,1,2,3,4,8] [] rfl rfl rfl rfl ?_ ?_<;>(repeat' (first|exact LocLe.refl _|exact F2.nil|apply F2.cons|exact z12 _|(refine z96 ?_;omega)|apply ObjLe.box|((first|refine z35 rfl ?_ ?_|refine z13 rfl ?_ ?_);(focus ((repeat' (first|exact z6 (fun _=>rfl)|apply z22));done)))|(refine z104 (by omega) (by omega) ?_)|exact True.intro|apply And.intro))<;>(fail))
              · have e:m=j:=by omega
                subst e
                repeat' ((first|(apply AWP.go ok;rfl)|((apply z7)<;>intro _))<;>conv=>whnf)
                all_goals first|(exfalso;omega)|skip
                all_goals (refine RetS.lay [0,4,3,5] [] rfl rfl rfl ?_;refine RetS.done ?_ ?_<;>(repeat' (first|exact LocLe.refl _|exact F2.nil|apply F2.cons|exact z12 _|(refine z96 ?_;omega)|(refine z39 ?_;(omega))|apply ObjLe.box|((refine z13 rfl ?_ ?_);(focus ((repeat' ((exact z6 (fun _=>rfl))));done)))|apply z44)))
                all_goals exact z29 (by rw [List.take_of_length_le (by omega)])
  · obtain ⟨q',n,m,z,E,pf,pg,F⟩:=z1079 bs hb (p+1) ⟨by omega,by omega⟩
    obtain ⟨Y1,Y2,Y3,Y4,Y5,Y6,Y7,Y8,Y9,Y10,Y11,Y12⟩:=F
    have hil:=z285 z n
    have hEv:∀ t∈E,t.mx:=fun t ht=>by
      obtain ⟨i,hi,rfl⟩:=List.mem_iff_getElem.1 ht
      obtain ⟨a,w,hw,hc,e1,e2,_⟩:=Y9 i hi
      show inI _
      rw [e2]
      have:=@Nat.and_le_left w.toNat E[i].care.toNat
      unfold inI;omega
    refine ⟨⟨iniF z n,z.map (·.1),E⟩,q',⟨by show (iniF z n).length≤32;omega,by show (z.map (·.1)).length≤16;simp;omega,by show E.length≤2080;omega,by omega,by omega,hEv⟩,?_⟩
    refine z10 z18 Tryz.func149 rfl rfl 91 Tryz.ntmps149 (by simp) ?_
    repeat' ((first|(apply AWP.go ok;rfl)|(apply And.intro;(dsimp only;omega))|((apply z7)<;>intro _)|((first|(apply z8 [0] [] [] (cv);rfl;(focus ((repeat' first|exact z4|apply z5)<;>rfl)))|(apply z8 [0,2] [] [] (Y1);rfl;(focus ((repeat' first|exact z4|apply z5)<;>rfl))));rfl;rfl;rfl;rfl;rfl;(focus ((repeat' first|exact z15|apply z14)<;>first|exact z20 rfl rfl|(refine z25 ?_;((exact z6 fun _=>rfl)))));(exact .inl rfl)))<;>conv=>whnf)
    all_goals first|(exfalso;omega)|skip
    all_goals
      have hz0:(z101 z n 0).map enB=List.replicate n [.bool false]:=by simp [z101,enB]
      refine AWP.reach (Reach.empty 1 rfl) ?_
      refine z64 (fun x:Nat×List Bool×List Int=>([(0,.ptr 0 none 0),(2,.ptr 1 none 0),(5,.int n),(6,.ptr 2 none 0),(7,.int x.1)],[rdO bs (pf x.1),.cells 3 [[.nils,.nils,.nils]],.cells 3 [[.sref 4 0 x.2.2.length,.sref 3 0 n,.nils]],.cells 1 (x.2.1.map enB),.cells 1 (x.2.2.map enI)])) (fun x=>x.1≤n∧x.2.1=z101 z n x.1∧x.2.2=iniF z x.1) (fun x=>n - x.1) (0,z101 z n 0,[]) ⟨by show 0≤n;omega,rfl,rfl⟩ (by refine SealW.reach [0,1,4,3,5] [] rfl rfl rfl rfl ?_ ?_<;>(repeat' (first|exact LocLe.refl _|exact z46|exact F2.nil|apply F2.cons|apply ObjLe.box|((refine z13 rfl ?_ ?_);(focus ((repeat' (first|exact z37|exact z65 rfl));done)))|exact True.intro|apply And.intro))<;>((exact z29 hz0.symm))) ?_
      rintro ⟨k,A,I⟩ ⟨hk,hA,hI⟩
      dsimp only at hk hA hI ⊢
      have hAl:A.length=n:=by rw [hA];exact z218 (by omega) hk
      have hIl:=z285 z k
      rw [← hI] at hIl
      by_cases hkn:k < n
      · have hkz:k < z.length:=by omega
        obtain ⟨a,ca,e1,H⟩:=Y5 k hkz
        have hset:=z498 hkz hkn e1
        rw [← hA] at hset
        have hset2:(A.map enB).set k (enB (decide (a=0)))=(z101 z n (k+1)).map enB:=by rw [← hset,List.map_set]
        have hin:iniF z (k+1)=I++(if (z.getD k (false,false)).2=true then [(k:Int)] else []):=by rw [iniF,hI]
        rw [z19 hkz] at hin
        have hA2l:(z101 z n (k+1)).length=n:=z218 (by omega) (by omega)
        generalize z[k]=zk at *
        obtain ⟨z1,z2⟩:=zk
        dsimp only at e1 H hin
        rcases H with ⟨i0,b,cb,(⟨b0,e2,eq⟩|⟨b0,c,cc,e2,eq⟩)⟩|⟨i0,c,cc,e2,eq⟩
        · rw [← eq] at cb
          subst e2
          rw [if_pos rfl] at hin
          repeat' ((first|(apply AWP.go ok;rfl)|(apply z34;kernel_rfl)|(apply And.intro;first|omega|(unfold inI;omega)|(dsimp only;omega)|exact ⟨rfl,z21 rfl z30⟩)|(((apply z11;omega));intro _)|((apply z7)<;>intro _)|((first|(apply z8 [0] [] [] (ca);rfl;(focus ((repeat' first|exact z4|apply z5)<;>rfl)))|(apply z8 [0] [] [] (cb);rfl;(focus ((repeat' first|exact z4|apply z5)<;>rfl))));rfl;rfl;rfl;rfl;rfl;(focus ((repeat' first|exact z15|apply z14)<;>exact z20 rfl rfl));(exact .inl rfl)))<;>conv=>whnf)
          all_goals first|(exfalso;omega)|skip
          all_goals refine z23 (k+1,z101 z n (k+1),I++[(k:Int)]) ⟨by show k+1≤n;omega,rfl,hin.symm⟩ (by show n - (k+1) < n - k;omega) (by refine SealW.reach [0,1,2,3,6] [] rfl rfl rfl rfl ?_ ?_<;>(repeat' (first|exact LocLe.refl _|exact F2.nil|apply F2.cons|(refine z39 ?_;((simp;done)))|apply ObjLe.box|((first|refine z35 rfl ?_ ?_|refine z42 rfl ?_ ?_);(focus ((repeat' (first|exact z6 (fun _=>rfl)|apply z22));done)))|(refine z70 ?_ ?_;(focus (omega)))|exact True.intro|apply And.intro))<;>(exact z29 hset2))
        · rw [← eq] at cc
          by_cases hc0:c=0
          · rw [e2,if_pos (decide_eq_true hc0)] at hin
            repeat' ((first|(apply AWP.go ok;rfl)|(apply z34;kernel_rfl)|(apply And.intro;first|omega|(unfold inI;omega)|(dsimp only;omega)|exact ⟨rfl,z21 rfl z30⟩)|(((apply z11;omega));intro _)|((apply z7)<;>intro _)|((first|(apply z8 [0] [] [] (ca);rfl;(focus ((repeat' first|exact z4|apply z5)<;>rfl)))|(apply z8 [0] [] [] (cb);rfl;(focus ((repeat' first|exact z4|apply z5)<;>rfl)))|(apply z8 [0] [] [] (cc);rfl;(focus ((repeat' first|exact z4|apply z5)<;>rfl))));rfl;rfl;rfl;rfl;rfl;(focus ((repeat' first|exact z15|apply z14)<;>exact z20 rfl rfl));(exact .inl rfl)))<;>conv=>whnf)
            all_goals first|(exfalso;omega)|skip
            all_goals refine z23 (k+1,z101 z n (k+1),I++[(k:Int)]) ⟨by show k+1≤n;omega,rfl,hin.symm⟩ (by show n - (k+1) < n - k;omega) (by refine SealW.reach [0,1,2,3,6] [] rfl rfl rfl rfl ?_ ?_<;>(repeat' (first|exact LocLe.refl _|exact F2.nil|apply F2.cons|(refine z39 ?_;((simp;done)))|apply ObjLe.box|((first|refine z35 rfl ?_ ?_|refine z42 rfl ?_ ?_);(focus ((repeat' (first|exact z6 (fun _=>rfl)|apply z22));done)))|(refine z70 ?_ ?_;(focus (omega)))|exact True.intro|apply And.intro))<;>(exact z29 hset2))
          · rw [e2,if_neg (by simpa using hc0),List.append_nil] at hin
            repeat' ((first|(apply AWP.go ok;rfl)|(apply z34;kernel_rfl)|(apply And.intro;first|omega|(unfold inI;omega))|(((apply z11;omega));intro _)|((apply z7)<;>intro _)|((first|(apply z8 [0] [] [] (ca);rfl;(focus ((repeat' first|exact z4|apply z5)<;>rfl)))|(apply z8 [0] [] [] (cb);rfl;(focus ((repeat' first|exact z4|apply z5)<;>rfl)))|(apply z8 [0] [] [] (cc);rfl;(focus ((repeat' first|exact z4|apply z5)<;>rfl))));rfl;rfl;rfl;rfl;rfl;(focus ((repeat' first|exact z15|apply z14)<;>exact z20 rfl rfl));(exact .inl rfl)))<;>conv=>whnf)
            all_goals first|(exfalso;omega)|skip
            all_goals refine z23 (k+1,z101 z n (k+1),I) ⟨by show k+1≤n;omega,rfl,hin.symm⟩ (by show n - (k+1) < n - k;omega) (by refine SealW.reach [0,1,2,3,4] [] rfl rfl rfl rfl ?_ ?_<;>(repeat' (first|exact LocLe.refl _|exact F2.nil|apply F2.cons|exact z12 _|apply ObjLe.box|((first|refine z42 rfl ?_ ?_|refine z13 rfl ?_ ?_);(focus ((repeat' ((exact z6 (fun _=>rfl))));done)))|exact True.intro|apply And.intro))<;>(exact z29 hset2))
        · rw [← eq] at cc
          by_cases hc0:c=0
          · rw [e2,if_pos (decide_eq_true hc0)] at hin
            repeat' ((first|(apply AWP.go ok;rfl)|(apply z34;kernel_rfl)|(apply And.intro;first|omega|(unfold inI;omega)|((try dsimp only);simp only [List.length_map,List.length_take,List.length_append,List.length_replicate,List.length_cons,List.length_nil];omega)|exact ⟨rfl,z21 rfl z30⟩)|(((apply z11;omega));intro _)|((apply z7)<;>intro _)|((first|(apply z8 [0] [] [] (ca);rfl;(focus ((repeat' first|exact z4|apply z5)<;>rfl)))|(apply z8 [0] [] [] (cc);rfl;(focus ((repeat' first|exact z4|apply z5)<;>rfl))));rfl;rfl;rfl;rfl;rfl;(focus ((repeat' first|exact z15|apply z14)<;>exact z20 rfl rfl));(exact .inl rfl)))<;>conv=>whnf)
            all_goals first|(exfalso;omega)|skip
            all_goals refine z23 (k+1,z101 z n (k+1),I++[(k:Int)]) ⟨by show k+1≤n;omega,rfl,hin.symm⟩ (by show n - (k+1) < n - k;omega) (by refine SealW.reach [0,1,2,3,6] [] rfl rfl rfl rfl ?_ ?_<;>(repeat' (first|exact LocLe.refl _|exact F2.nil|apply F2.cons|(refine z39 ?_;((simp;done)))|apply ObjLe.box|((first|refine z35 rfl ?_ ?_|refine z42 rfl ?_ ?_);(focus ((repeat' (first|exact z6 (fun _=>rfl)|apply z22));done)))|(refine z70 ?_ ?_;(focus (omega)))|exact True.intro|apply And.intro))<;>(exact z29 hset2))
          · rw [e2,if_neg (by simpa using hc0),List.append_nil] at hin
            repeat' ((first|(apply AWP.go ok;rfl)|(apply z34;kernel_rfl)|(apply And.intro;first|omega|(unfold inI;omega))|(((apply z11;omega));intro _)|((apply z7)<;>intro _)|((first|(apply z8 [0] [] [] (ca);rfl;(focus ((repeat' first|exact z4|apply z5)<;>rfl)))|(apply z8 [0] [] [] (cc);rfl;(focus ((repeat' first|exact z4|apply z5)<;>rfl))));rfl;rfl;rfl;rfl;rfl;(focus ((repeat' first|exact z15|apply z14)<;>exact z20 rfl rfl));(exact .inl rfl)))<;>conv=>whnf)
            all_goals first|(exfalso;omega)|skip
            all_goals refine z23 (k+1,z101 z n (k+1),I) ⟨by show k+1≤n;omega,rfl,hin.symm⟩ (by show n - (k+1) < n - k;omega) (by refine SealW.reach [0,1,2,3,4] [] rfl rfl rfl rfl ?_ ?_<;>(repeat' (first|exact LocLe.refl _|exact F2.nil|apply F2.cons|exact z12 _|apply ObjLe.box|((first|refine z42 rfl ?_ ?_|refine z13 rfl ?_ ?_);(focus ((repeat' ((exact z6 (fun _=>rfl))));done)))|exact True.intro|apply And.intro))<;>(exact z29 hset2))
      · have e:n=k:=by omega
        subst e
        have hA2:z.map (·.1)=A:=by
          rw [hA];unfold z101
          rw [Nat.sub_self,List.take_of_length_le (by omega)];simp
        rw [hA2,← hI]
        clear hA hI hz0 Y5 hA2
        repeat' ((first|(apply AWP.go ok;rfl)|((apply z7)<;>intro _)|(((apply z8 [0,5] [] [] (Y6);rfl;(focus ((repeat' first|exact z4|apply z5)<;>rfl))));rfl;rfl;rfl;rfl;rfl;(focus ((repeat' first|exact z15|apply z14)<;>first|exact z20 rfl rfl|(refine z25 ?_;((exact z6 fun _=>rfl)))));(exact .inl rfl)))<;>conv=>whnf)
        all_goals first|(exfalso;omega)|skip
        all_goals
          refine AWP.reach (Reach.empty 4 rfl) ?_
          refine z64 (fun j:Nat=>([(0,.ptr 0 none 0),(2,.ptr 1 none 0),(5,.int n),(6,.ptr 2 none 0),(8,.int (m - j))],[rdO bs (pg j),.cells 3 [[.nils,.nils,.nils]],.cells 3 [[.sref 4 0 I.length,.sref 3 0 n,.sref 5 0 j]],.cells 1 (A.map enB),.cells 1 (I.map enI),.cells 4 ((E.take j).map Trans.cs)])) (fun j=>j≤m) (fun j=>m - j) 0 (by omega) (by refine SealW.reach [0,1,2,3,4,6] [] rfl rfl rfl rfl ?_ ?_<;>(repeat' (first|exact LocLe.refl _|exact z46|exact F2.nil|apply F2.cons|exact z12 _|apply ObjLe.box|((refine z13 rfl ?_ ?_);(focus ((repeat' (first|exact z37|exact z6 (fun _=>rfl)));done)))|exact True.intro|apply And.intro))) ?_
          intro j hj
          by_cases hjm:j < m
          · have hjl:j < E.length:=by omega
            obtain ⟨a,w,hw,hc,e1,e2,eq,c1,c2,c3,c4⟩:=Y9 j hjl
            rw [← eq] at c4
            rw [← e1] at c2
            have hbits:z148 w E[j].care:=⟨by omega,by omega,by omega,by omega⟩
            repeat' ((first|(apply AWP.go ok;rfl)|(apply z34;kernel_rfl)|(refine And.intro hbits ?_)|(apply And.intro;first|(unfold inI;omega)|((try dsimp only);simp only [List.length_map,List.length_take,List.length_append,List.length_replicate,List.length_cons,List.length_nil];omega)|exact ⟨rfl,z21 rfl z30⟩)|((apply z7)<;>intro _)|((first|(apply z8 [0,6] [] [] (c1);rfl;(focus ((repeat' first|exact z4|apply z5)<;>rfl)))|(apply z8 [0] [] [] (c2);rfl;(focus ((repeat' first|exact z4|apply z5)<;>rfl)))|(apply z8 [0] [] [] (c3);rfl;(focus ((repeat' first|exact z4|apply z5)<;>rfl)))|(apply z8 [0] [] [] (c4);rfl;(focus ((repeat' first|exact z4|apply z5)<;>rfl))));rfl;rfl;rfl;rfl;rfl;(focus ((repeat' first|exact z15|apply z14)<;>first|exact z20 rfl rfl|(refine z25 ?_;((exact z6 fun _=>rfl)))));(exact .inl rfl)))<;>conv=>whnf)
            all_goals first|(exfalso;omega)|skip
            all_goals refine z23 (j+1) (by omega) (by omega) (by refine SealW.reach [0,1,2,3,4,8] [] rfl rfl rfl rfl ?_ ?_<;>(repeat' (first|exact LocLe.refl _|exact F2.nil|apply F2.cons|exact z12 _|(refine z96 ?_;omega)|apply ObjLe.box|((first|refine z35 rfl ?_ ?_|refine z13 rfl ?_ ?_);(focus ((repeat' (first|exact z6 (fun _=>rfl)|apply z22));done)))|(refine z104 (by omega) (by omega) ?_)|exact True.intro|apply And.intro))<;>(fail))
          · have e:m=j:=by omega
            subst e
            repeat' ((first|(apply AWP.go ok;rfl)|((apply z7)<;>intro _))<;>conv=>whnf)
            all_goals first|(exfalso;omega)|skip
            all_goals (refine RetS.lay [0,4,3,5] [] rfl rfl rfl ?_;refine RetS.done ?_ ?_<;>(repeat' (first|exact LocLe.refl _|exact F2.nil|apply F2.cons|exact z12 _|(refine z96 ?_;omega)|(refine z39 ?_;(omega))|apply ObjLe.box|((refine z13 rfl ?_ ?_);(focus ((repeat' ((exact z6 (fun _=>rfl))));done)))|apply z44)))
            all_goals exact z29 (by rw [List.take_of_length_le (by omega)])
end Go.Proofs.YtknlmbniicacmaaGreat

namespace Go.Proofs.YtknlmbniicacmaaGreat
open Go.Gl
attribute [local irreducible] z31 AWP z48 z52 z50 RetS z57
def Aut.sm (a:Aut):Prop:=a.ini.length≤40∧a.acc.length≤20∧a.ed.length≤2100∧∀ t∈a.ed,t.mx
set_option maxHeartbeats 6400000 in
theorem z486 (bs : List Int) (hb : BytesOk bs) (p : Int) (hp : few p) (a : Aut) (ha : a.ini.length ≤ 32 ∧ a.acc.length ≤ 16 ∧ a.ed.length ≤ 2080 ∧ ∀ t ∈ a.ed, t.mx) : ∃ (a' : Aut) (p' : Int), (a'.sm ∧ p ≤ p' ∧ p' ≤ p + 2) ∧
    CallsA Tryz.prog 148 [.ptr 0 none 0,.agg a.cs] [rdO bs p] (.agg [.sref 1 0 a'.ini.length,.sref 2 0 a'.acc.length,.sref 3 0 a'.ed.length]) [rdO bs p',.cells 1 (a'.ini.map enI),.cells 1 (a'.acc.map enB),.cells 4 (a'.ed.map Trans.cs)]:=by
  obtain ⟨h1,h2,h3,h4⟩:=ha
  obtain ⟨v,⟨v0,v1⟩,cv⟩:=z59 bs hb p 40 (by omega) (by omega) (by omega)
  by_cases e0:v=0
  · subst e0
    obtain ⟨x,mx,cx⟩:=z88 bs hb (p+1) (by omega) (by omega) [0,-1,64,3] (by decide) (by decide)
    refine ⟨⟨a.ini++[x],a.acc,a.ed⟩,p+1+1,⟨⟨by simp;omega,by show a.acc.length≤20;omega,by show a.ed.length≤2100;omega,h4⟩,by omega,by omega⟩,?_⟩
    refine z10 z18 Tryz.func148 rfl rfl 78 Tryz.ntmps148 (by simp) ?_
    repeat' ((first|(apply AWP.go ok;rfl)|(apply z34;kernel_rfl)|(apply And.intro;first|(dsimp only;omega)|((try dsimp only);simp only [List.length_map,List.length_take,List.length_append,List.length_replicate,List.length_cons,List.length_nil];omega)|exact z93 (fun _=>rfl)|exact ⟨rfl,z21 rfl z30⟩)|((first|(apply z8 [0] [] [] (cv);rfl;(focus ((repeat' first|exact z4|apply z5)<;>rfl)))|(apply z8 [0,10] [] [] (cx);rfl;(focus ((repeat' first|exact z4|apply z5)<;>rfl))));rfl;rfl;rfl;rfl;rfl;(focus ((repeat' first|exact z15|apply z14)<;>first|exact z20 rfl rfl|(refine z25 ?_;((exact z6 fun _=>rfl)))));(exact .inl rfl)))<;>conv=>whnf)
    all_goals skip
    all_goals (refine RetS.lay [0,12,6,8] [] rfl rfl rfl ?_;refine RetS.done ?_ ?_<;>(repeat' (first|exact LocLe.refl _|exact F2.nil|apply F2.cons|exact z12 _|(refine z39 ?_;((simp;done)))|apply ObjLe.box|((first|refine z35 rfl ?_ ?_|refine z13 rfl ?_ ?_);(focus ((repeat' (first|exact z6 (fun _=>rfl)|apply z22));done)))|(refine z70 ?_ ?_;(focus (omega)))|apply z44)))
  by_cases e3:v=3
  · subst e3
    refine ⟨⟨[],[],[]⟩,p+1,⟨⟨Nat.zero_le _,Nat.zero_le _,Nat.zero_le _,fun t ht=>by cases ht⟩,by omega,by omega⟩,?_⟩
    refine z10 z18 Tryz.func148 rfl rfl 78 Tryz.ntmps148 (by simp) ?_
    repeat' ((first|(apply AWP.go ok;rfl)|(apply z34;kernel_rfl)|(apply And.intro;first|(dsimp only;omega)|exact z93 (fun _=>rfl))|(((apply z8 [0] [] [] (cv);rfl;(focus ((repeat' first|exact z4|apply z5)<;>rfl))));rfl;rfl;rfl;rfl;rfl;(focus ((repeat' first|exact z15|apply z14)<;>exact z20 rfl rfl));(exact .inl rfl)))<;>conv=>whnf)
    all_goals skip
    all_goals (refine RetS.empty 1 ?_;refine RetS.empty 1 ?_;refine RetS.empty 4 ?_;refine RetS.lay [0,10,11,12] [] rfl rfl rfl ?_;refine RetS.done ?_ ?_<;>(repeat' (first|exact LocLe.refl _|exact z46|exact F2.nil|apply F2.cons|apply ObjLe.box|((refine z13 rfl ?_ ?_);(focus ((repeat' (exact z37));done)))|apply z44)))
  by_cases e1:v=1
  · subst e1
    by_cases he:0 < a.ed.length
    · obtain ⟨x,mx,cx⟩:=z88 bs hb (p+1) (by omega) (by omega) [8,-1,7] (by decide) (by decide)
      have hi:0 < a.ed.length:=by omega
      have g0:(a.ed.map Trans.cs)[0]?=some (Trans.cs a.ed[0]):=by rw [List.getElem?_map,List.getElem?_eq_getElem hi];rfl
      refine ⟨⟨a.ini,a.acc,a.ed.set 0 ⟨a.ed[0].src,a.ed[0].care,x,a.ed[0].dst⟩⟩,p+1+1,⟨⟨by show a.ini.length≤40;omega,by show a.acc.length≤20;omega,by simp;omega,fun t ht=>by
        rcases List.mem_or_eq_of_mem_set ht with h|rfl
        · exact h4 t h
        · have:=h4 _ (List.getElem_mem hi)
          unfold Trans.mx inI at *
          simp only [List.mem_cons,List.not_mem_nil,or_false] at mx
          dsimp only
          omega⟩,by omega,by omega⟩,?_⟩
      generalize a.ed[0]=e at *
      refine z10 z18 Tryz.func148 rfl rfl 78 Tryz.ntmps148 (by simp) ?_
      repeat' ((first|(apply AWP.go ok;rfl)|(apply z34;kernel_rfl)|(refine z16 (i:=0) (by simp;try omega) g0 ?_)|(apply And.intro;first|omega|(dsimp only;omega)|exact z93 (fun _=>rfl))|((apply z7)<;>intro _)|((first|(apply z8 [0] [] [] (cv);rfl;(focus ((repeat' first|exact z4|apply z5)<;>rfl)))|(apply z8 [0,10] [] [] (cx);rfl;(focus ((repeat' first|exact z4|apply z5)<;>rfl))));rfl;rfl;rfl;rfl;rfl;(focus ((repeat' first|exact z15|apply z14)<;>first|exact z20 rfl rfl|(refine z25 ?_;((exact z6 fun _=>rfl)))));(exact .inl rfl)))<;>conv=>whnf)
      all_goals first|(exfalso;omega)|skip
      all_goals (refine RetS.lay [0,4,6,8] [] rfl rfl rfl ?_;refine RetS.done ?_ ?_<;>(repeat' (first|exact LocLe.refl _|exact F2.nil|apply F2.cons|exact z12 _|(refine z39 ?_;((simp;done)))|apply ObjLe.box|((first|refine z42 rfl ?_ ?_|refine z13 rfl ?_ ?_);(focus ((repeat' ((exact z6 (fun _=>rfl))));done)))|(refine z188 (by omega) ?_)|apply z44)))
      all_goals trace_state
    · refine ⟨a,p+1,⟨⟨by omega,by omega,by omega,h4⟩,by omega,by omega⟩,?_⟩
      refine z10 z18 Tryz.func148 rfl rfl 78 Tryz.ntmps148 (by simp) ?_
      repeat' ((first|(apply AWP.go ok;rfl)|(apply z34;kernel_rfl)|(apply And.intro;first|(dsimp only;omega)|exact z93 (fun _=>rfl))|((apply z7)<;>intro _)|(((apply z8 [0] [] [] (cv);rfl;(focus ((repeat' first|exact z4|apply z5)<;>rfl))));rfl;rfl;rfl;rfl;rfl;(focus ((repeat' first|exact z15|apply z14)<;>exact z20 rfl rfl));(exact .inl rfl)))<;>conv=>whnf)
      all_goals first|(exfalso;omega)|skip
      all_goals (refine RetS.lay [0,4,6,8] [] rfl rfl rfl ?_;refine RetS.done ?_ ?_<;>(repeat' (first|exact LocLe.refl _|exact F2.nil|apply F2.cons|exact z12 _|(refine z39 ?_;(omega))|apply ObjLe.box|((refine z13 rfl ?_ ?_);(focus ((repeat' ((exact z6 (fun _=>rfl))));done)))|apply z44)))
  by_cases e2:v=2
  · subst e2
    by_cases he:0 < a.ed.length
    · obtain ⟨x,mx,cx⟩:=z88 bs hb (p+1) (by omega) (by omega) [-1,0,64,9223372036854775807] (by decide) (by decide)
      have hi:0 < a.ed.length:=by omega
      have g0:(a.ed.map Trans.cs)[0]?=some (Trans.cs a.ed[0]):=by rw [List.getElem?_map,List.getElem?_eq_getElem hi];rfl
      refine ⟨⟨a.ini,a.acc,a.ed.set 0 ⟨a.ed[0].src,a.ed[0].care,a.ed[0].val,x⟩⟩,p+1+1,⟨⟨by show a.ini.length≤40;omega,by show a.acc.length≤20;omega,by simp;omega,fun t ht=>by
        rcases List.mem_or_eq_of_mem_set ht with h|rfl
        · exact h4 t h
        · have:=h4 _ (List.getElem_mem hi)
          unfold Trans.mx inI at *
          simp only [List.mem_cons,List.not_mem_nil,or_false] at mx
          dsimp only
          omega⟩,by omega,by omega⟩,?_⟩
      generalize a.ed[0]=e at *
      refine z10 z18 Tryz.func148 rfl rfl 78 Tryz.ntmps148 (by simp) ?_
      repeat' ((first|(apply AWP.go ok;rfl)|(apply z34;kernel_rfl)|(refine z16 (i:=0) (by simp;try omega) g0 ?_)|(apply And.intro;first|omega|(dsimp only;omega)|exact z93 (fun _=>rfl))|((apply z7)<;>intro _)|((first|(apply z8 [0] [] [] (cv);rfl;(focus ((repeat' first|exact z4|apply z5)<;>rfl)))|(apply z8 [0,10] [] [] (cx);rfl;(focus ((repeat' first|exact z4|apply z5)<;>rfl))));rfl;rfl;rfl;rfl;rfl;(focus ((repeat' first|exact z15|apply z14)<;>first|exact z20 rfl rfl|(refine z25 ?_;((exact z6 fun _=>rfl)))));(exact .inl rfl)))<;>conv=>whnf)
      all_goals first|(exfalso;omega)|skip
      all_goals (refine RetS.lay [0,4,6,8] [] rfl rfl rfl ?_;refine RetS.done ?_ ?_<;>(repeat' (first|exact LocLe.refl _|exact F2.nil|apply F2.cons|exact z12 _|(refine z39 ?_;((simp;done)))|apply ObjLe.box|((first|refine z42 rfl ?_ ?_|refine z13 rfl ?_ ?_);(focus ((repeat' ((exact z6 (fun _=>rfl))));done)))|(refine z188 (by omega) ?_)|apply z44)))
      all_goals trace_state
    · refine ⟨a,p+1,⟨⟨by omega,by omega,by omega,h4⟩,by omega,by omega⟩,?_⟩
      refine z10 z18 Tryz.func148 rfl rfl 78 Tryz.ntmps148 (by simp) ?_
      repeat' ((first|(apply AWP.go ok;rfl)|(apply z34;kernel_rfl)|(apply And.intro;first|(dsimp only;omega)|exact z93 (fun _=>rfl))|((apply z7)<;>intro _)|(((apply z8 [0] [] [] (cv);rfl;(focus ((repeat' first|exact z4|apply z5)<;>rfl))));rfl;rfl;rfl;rfl;rfl;(focus ((repeat' first|exact z15|apply z14)<;>exact z20 rfl rfl));(exact .inl rfl)))<;>conv=>whnf)
      all_goals first|(exfalso;omega)|skip
      all_goals (refine RetS.lay [0,4,6,8] [] rfl rfl rfl ?_;refine RetS.done ?_ ?_<;>(repeat' (first|exact LocLe.refl _|exact F2.nil|apply F2.cons|exact z12 _|(refine z39 ?_;(omega))|apply ObjLe.box|((refine z13 rfl ?_ ?_);(focus ((repeat' ((exact z6 (fun _=>rfl))));done)))|apply z44)))
  by_cases e4:v=4
  · subst e4
    by_cases he:0 < a.ed.length
    · obtain ⟨x,mx,cx⟩:=z88 bs hb (p+1) (by omega) (by omega) [8,-1,0] (by decide) (by decide)
      have hi:(a.ed.length - 1) < a.ed.length:=by omega
      have g0:(a.ed.map Trans.cs)[(a.ed.length - 1)]?=some (Trans.cs a.ed[(a.ed.length - 1)]):=by rw [List.getElem?_map,List.getElem?_eq_getElem hi];rfl
      refine ⟨⟨a.ini,a.acc,a.ed.set (a.ed.length - 1) ⟨a.ed[(a.ed.length - 1)].src,x,a.ed[(a.ed.length - 1)].val,a.ed[(a.ed.length - 1)].dst⟩⟩,p+1+1,⟨⟨by show a.ini.length≤40;omega,by show a.acc.length≤20;omega,by simp;omega,fun t ht=>by
        rcases List.mem_or_eq_of_mem_set ht with h|rfl
        · exact h4 t h
        · have:=h4 _ (List.getElem_mem hi)
          unfold Trans.mx inI at *
          simp only [List.mem_cons,List.not_mem_nil,or_false] at mx
          dsimp only
          omega⟩,by omega,by omega⟩,?_⟩
      generalize a.ed[(a.ed.length - 1)]=e at *
      refine z10 z18 Tryz.func148 rfl rfl 78 Tryz.ntmps148 (by simp) ?_
      repeat' ((first|(apply AWP.go ok;rfl)|(apply z34;kernel_rfl)|(refine z16 (i:=(a.ed.length - 1)) (by simp;try omega) g0 ?_)|(apply And.intro;first|omega|(unfold inI;omega)|(dsimp only;omega)|exact z93 (fun _=>rfl))|((apply z7)<;>intro _)|((first|(apply z8 [0] [] [] (cv);rfl;(focus ((repeat' first|exact z4|apply z5)<;>rfl)))|(apply z8 [0,10] [] [] (cx);rfl;(focus ((repeat' first|exact z4|apply z5)<;>rfl))));rfl;rfl;rfl;rfl;rfl;(focus ((repeat' first|exact z15|apply z14)<;>first|exact z20 rfl rfl|(refine z25 ?_;((exact z6 fun _=>rfl)))));(exact .inl rfl)))<;>conv=>whnf)
      all_goals first|(exfalso;omega)|skip
      all_goals (refine RetS.lay [0,4,6,8] [] rfl rfl rfl ?_;refine RetS.done ?_ ?_<;>(repeat' (first|exact LocLe.refl _|exact F2.nil|apply F2.cons|exact z12 _|(refine z39 ?_;((simp;done)))|apply ObjLe.box|((first|refine z42 rfl ?_ ?_|refine z13 rfl ?_ ?_);(focus ((repeat' ((exact z6 (fun _=>rfl))));done)))|(refine z188 (by omega) ?_)|apply z44)))
      all_goals trace_state
    · refine ⟨a,p+1,⟨⟨by omega,by omega,by omega,h4⟩,by omega,by omega⟩,?_⟩
      refine z10 z18 Tryz.func148 rfl rfl 78 Tryz.ntmps148 (by simp) ?_
      repeat' ((first|(apply AWP.go ok;rfl)|(apply z34;kernel_rfl)|(apply And.intro;first|omega|(dsimp only;omega)|exact z93 (fun _=>rfl))|((apply z7)<;>intro _)|(((apply z8 [0] [] [] (cv);rfl;(focus ((repeat' first|exact z4|apply z5)<;>rfl))));rfl;rfl;rfl;rfl;rfl;(focus ((repeat' first|exact z15|apply z14)<;>exact z20 rfl rfl));(exact .inl rfl)))<;>conv=>whnf)
      all_goals first|(exfalso;omega)|skip
      all_goals (refine RetS.lay [0,4,6,8] [] rfl rfl rfl ?_;refine RetS.done ?_ ?_<;>(repeat' (first|exact LocLe.refl _|exact F2.nil|apply F2.cons|exact z12 _|(refine z39 ?_;(omega))|apply ObjLe.box|((refine z13 rfl ?_ ?_);(focus ((repeat' ((exact z6 (fun _=>rfl))));done)))|apply z44)))
  refine ⟨a,p+1,⟨⟨by omega,by omega,by omega,h4⟩,by omega,by omega⟩,?_⟩
  refine z10 z18 Tryz.func148 rfl rfl 78 Tryz.ntmps148 (by simp) ?_
  repeat' ((first|(apply AWP.go ok;rfl)|(apply z34;kernel_rfl)|(apply And.intro;first|omega|(dsimp only;omega)|exact z93 (fun _=>rfl))|((apply z7)<;>intro _)|(((apply z8 [0] [] [] (cv);rfl;(focus ((repeat' first|exact z4|apply z5)<;>rfl))));rfl;rfl;rfl;rfl;rfl;(focus ((repeat' first|exact z15|apply z14)<;>exact z20 rfl rfl));(exact .inl rfl)))<;>conv=>whnf)
  all_goals first|(exfalso;omega)|skip
  all_goals (refine RetS.lay [0,4,6,8] [] rfl rfl rfl ?_;refine RetS.done ?_ ?_<;>(repeat' (first|exact LocLe.refl _|exact F2.nil|apply F2.cons|exact z12 _|(refine z39 ?_;(omega))|apply ObjLe.box|((refine z13 rfl ?_ ?_);(focus ((repeat' ((exact z6 (fun _=>rfl))));done)))|apply z44)))
end Go.Proofs.YtknlmbniicacmaaGreat

namespace Go.Proofs.YtknlmbniicacmaaGreat
open Go.Gl
attribute [local irreducible] z31 AWP z48 z52 z50 RetS z57
def mixB (z a:List Bool) (k:Nat):List Bool:=z.take k++a.drop k
theorem z843 {z a:List Bool} {k:Nat} (h:z.length=a.length) (hk:k≤a.length):(mixB z a k).length=a.length:=by unfold mixB;simp;omega
theorem mixB_set {z a:List Bool} {k:Nat} (h:k < z.length) (ha:k < a.length) {x:Bool} (hx:z[k]=x):(mixB z a k).set k x=mixB z a (k+1):=by
  subst hx
  unfold mixB
  rw [List.drop_eq_getElem_cons ha,List.set_append_right _ _ (by simp;omega)]
  simp only [List.length_take]
  rw [show k - min k z.length=0 by omega,List.set_cons_zero,List.take_succ_eq_append_getElem h,List.append_assoc,List.singleton_append]
theorem mixB_get {z a:List Bool} {k:Nat} (h:k≤z.length) (ha:k < a.length):((mixB z a k).map enB)[k]?=some (enB a[k]):=by
  unfold mixB
  rw [List.map_append,List.getElem?_append_right (by simp;omega)]
  simp only [List.length_map,List.length_take]
  rw [show k - min k z.length=0 by omega]
  simp [ha]
def isAc (bs:List Int) (b:Bool) (q:Int) (z:Bool) (q' : Int):Prop:=(b=false∧z=false∧q'=q)∨(b=true∧∃ c:Int,CallsA Tryz.prog 73 [.ptr 0 none 0,.int 3] [rdO bs q] (.int c) [rdO bs (q+1)]∧z=decide (c=0)∧q'=q+1)
theorem isAc_ex (bs:List Int) (hb:BytesOk bs) (b:Bool) (q:Int) (hq:0≤q∧q≤999999000):∃ z q',isAc bs b q z q'∧q≤q'∧q'≤q+1:=by
  cases b
  · exact ⟨false,q,.inl ⟨rfl,rfl,rfl⟩,by omega,by omega⟩
  · obtain ⟨c,_,cc⟩:=z59 bs hb q 3 (by omega) (by omega) (by omega)
    exact ⟨decide (c=0),q+1,.inr ⟨rfl,c,cc,rfl,rfl⟩,by omega,by omega⟩
set_option maxHeartbeats 6400000 in
theorem z550 (bs : List Int) (hb : BytesOk bs) (p : Int) (hp : 0 ≤ p ∧ p ≤ 990000000) : ∃ (g : Graph) (l : List Tree) (a : Aut) (p' : Int), (g.d ∧ Lab.d l ∧ a.sm ∧ p ≤ p' ∧ p' ≤ p + 20000) ∧
    CallsA Tryz.prog 72 [.ptr 0 none 0] [rdO bs p] (.tup [.agg g.cs,lst 3 Tree.cs' l,.agg a.cs]) [rdO bs p']:=by
  obtain ⟨l,p1,⟨l1,l2,l3,l4⟩,c1⟩:=z783 bs hb p ⟨by omega,by omega⟩
  obtain ⟨a0,p2,⟨a1,a2,a3,a4,a5,a6⟩,c2⟩:=z534 bs hb p1 ⟨by omega,by omega⟩
  obtain ⟨w,⟨w0,w1⟩,cw⟩:=z59 bs hb p2 2 (by omega) (by omega) (by omega)
  by_cases hw:w=0
  · subst hw
    obtain ⟨zs,pf,h1,h2,h3,h4⟩:=z302 (fun k r z r'=>isAc bs (a0.acc.getD k false) r z r') (p2+1) 1 a0.acc.length (fun k r hk b1 b2=>isAc_ex bs hb _ r ⟨by omega,by omega⟩)
    have h5:=h4 _ (Nat.le_refl _)
    obtain ⟨g0,g,p3,p4,cg0,cg,hg,q1,q2⟩:=z1009 bs hb (pf a0.acc.length) ⟨by omega,by omega⟩
    obtain ⟨a',p5,⟨b1,b2,b3⟩,cm⟩:=z486 bs hb p4 ⟨by omega,by omega⟩ ⟨a0.ini,zs,a0.ed⟩ ⟨a1,by show zs.length≤16;omega,a3,a6⟩
    refine ⟨g,l,a',p5,⟨hg,⟨l1,l2⟩,b1,by omega,by omega⟩,?_⟩
    refine z10 z18 Tryz.func72 rfl rfl 44 Tryz.ntmps72 (by simp) ?_
    rw [← h2] at cw
    repeat' ((first|(apply AWP.go ok;rfl)|((first|(apply z8 [0] [] [] (c1);rfl;(focus ((repeat' first|exact z4|apply z5)<;>rfl)))|(apply z8 [0] [] [3,4,5] (c2);rfl;(focus ((repeat' first|exact z4|apply z5)<;>rfl)))|(apply z8 [0] [] [] (cw);rfl;(focus ((repeat' first|exact z4|apply z5)<;>rfl))));rfl;rfl;rfl;rfl;rfl;(focus ((repeat' first|exact z15|apply z14)<;>first|exact z20 rfl rfl|(refine z25 ?_;((exact z6 fun _=>rfl)))));(exact .inl rfl)))<;>conv=>whnf)
    all_goals skip
    all_goals
      refine z64 (fun x:Nat×List Bool=>([(0,.ptr 0 none 0),(2,.ptr 1 none 0),(4,.ptr 2 none 0),(5,lst 3 Tree.cs' l),(6,.ptr 3 none 0),(7,.int x.1)],[rdO bs (pf x.1),.cells 2 [[.nils,.nils]],.cells 3 [[.nils,.nils,.nils]],.cells 3 [[.sref 4 0 a0.ini.length,.sref 5 0 x.2.length,.sref 6 0 a0.ed.length]],.cells 1 (a0.ini.map enI),.cells 1 (x.2.map enB),.cells 4 (a0.ed.map Trans.cs)])) (fun x=>x.1≤a0.acc.length∧x.2=mixB zs a0.acc x.1) (fun x=>a0.acc.length - x.1) (0,a0.acc) ⟨by show 0≤a0.acc.length;omega,by show a0.acc=mixB zs a0.acc 0;simp [mixB]⟩ (by refine SealW.reach [0,1,2,6,3,4,5] [] rfl rfl rfl rfl ?_ ?_<;>(repeat' (first|exact LocLe.refl _|exact F2.nil|apply F2.cons|exact z12 _|apply ObjLe.box|((refine z13 rfl ?_ ?_);(focus ((repeat' ((exact z6 (fun _=>rfl))));done)))|exact True.intro|apply And.intro))) ?_
      rintro ⟨k,A⟩ ⟨hk,hA⟩
      dsimp only at hk hA ⊢
      have hAl:A.length=a0.acc.length:=by rw [hA];exact z843 (by omega) hk
      by_cases hkn:k < a0.acc.length
      · have hkz:k < zs.length:=by omega
        have hget:=mixB_get (z:=zs) (a:=a0.acc) (k:=k) (by omega) hkn
        have hA2l:(mixB zs a0.acc (k+1)).length=a0.acc.length:=z843 (by omega) (by omega)
        have H:=h3 k hkz
        rw [z19 hkn] at H
        have hset:=fun x h=>mixB_set (a:=a0.acc) hkz hkn (x:=x) h
        rw [← hA] at hget hset
        have hset2:∀ x,zs[k]=x→(A.map enB).set k (enB x)=(mixB zs a0.acc (k+1)).map enB:=fun x h=>by rw [← hset x h,List.map_set]
        generalize a0.acc[k]=b at *
        generalize zs[k]=z at *
        rcases H with ⟨rfl,rfl,eq⟩|⟨rfl,c,cc,rfl,eq⟩
        · rw [← eq]
          repeat' ((first|(apply AWP.go ok;rfl)|(apply z34;kernel_rfl)|(refine z16 (i:=k) rfl hget ?_)|(apply And.intro;first|omega|(unfold inI;omega))|((apply z7)<;>intro _))<;>conv=>whnf)
          all_goals first|(exfalso;omega)|skip
          all_goals refine z23 (k+1,mixB zs a0.acc (k+1)) ⟨by show k+1≤a0.acc.length;omega,rfl⟩ (by show a0.acc.length - (k+1) < a0.acc.length - k;omega) (by refine SealW.reach [0,1,2,3,4,5,6] [] rfl rfl rfl rfl ?_ ?_<;>(repeat' (first|exact LocLe.refl _|exact F2.nil|apply F2.cons|exact z12 _|(refine z39 ?_;((simp;omega)))|apply ObjLe.box|((first|refine z42 rfl ?_ ?_|refine z13 rfl ?_ ?_);(focus ((repeat' ((exact z6 (fun _=>rfl))));done)))|exact True.intro|apply And.intro))<;>(exact z29 (hset2 _ rfl)))
        · rw [← eq] at cc
          repeat' ((first|(apply AWP.go ok;rfl)|(apply z34;kernel_rfl)|(refine z16 (i:=k) rfl hget ?_)|(apply And.intro;first|omega|(unfold inI;omega))|((apply z7)<;>intro _)|(((apply z8 [0] [] [] (cc);rfl;(focus ((repeat' first|exact z4|apply z5)<;>rfl))));rfl;rfl;rfl;rfl;rfl;(focus ((repeat' first|exact z15|apply z14)<;>exact z20 rfl rfl));(exact .inl rfl)))<;>conv=>whnf)
          all_goals first|(exfalso;omega)|skip
          all_goals refine z23 (k+1,mixB zs a0.acc (k+1)) ⟨by show k+1≤a0.acc.length;omega,rfl⟩ (by show a0.acc.length - (k+1) < a0.acc.length - k;omega) (by refine SealW.reach [0,1,2,3,4,5,6] [] rfl rfl rfl rfl ?_ ?_<;>(repeat' (first|exact LocLe.refl _|exact F2.nil|apply F2.cons|exact z12 _|(refine z39 ?_;((simp;omega)))|apply ObjLe.box|((first|refine z42 rfl ?_ ?_|refine z13 rfl ?_ ?_);(focus ((repeat' ((exact z6 (fun _=>rfl))));done)))|exact True.intro|apply And.intro))<;>(exact z29 (hset2 _ rfl)))
      · have e:a0.acc.length=k:=by omega
        have hA2:zs=A:=by rw [hA];unfold mixB;rw [List.take_of_length_le (by omega),List.drop_eq_nil_of_le (by omega),List.append_nil]
        rw [e] at cg0
        rw [hA2] at cm
        repeat' ((first|((fail_if_success apply z146 8);(fail_if_success apply z112 8);apply AWP.go ok;rfl)|(apply z34;kernel_rfl)|(apply And.intro;omega)|(((apply z11;omega));intro _)|((first|apply z7|apply z92)<;>intro _))<;>conv=>whnf)
        all_goals first|(exfalso;omega)|skip
        all_goals
          refine AWP.reach (SealW.reach (env:=[(0,.ptr 0 none 0),(2,.ptr 1 none 0),(4,.ptr 2 none 0),(5,lst 3 Tree.cs' l),(6,.ptr 3 none 0)]) (objs:=[rdO bs (pf k),.cells 2 [[.nils,.nils]],.cells 3 [[.nils,.nils,.nils]],.cells 3 [(Aut.mk a0.ini A a0.ed).cs]]) [0,1,2,3] [4,5,6] rfl rfl rfl rfl ?_ ?_) ?_
          · (repeat' (first|exact LocLe.refl _|exact True.intro|apply And.intro))
          · (repeat' (first|exact LocLe.refl _|exact F2.nil|apply F2.cons|apply ObjLe.box|((apply z45 rfl rfl rfl);(focus ((repeat ((exact z41 (fun _=>rfl) _)));done));(focus (((simp;done));done)))))
          conv=>whnf
          repeat' ((first|(apply AWP.go ok;rfl)|(apply z34;kernel_rfl)|((first|(apply z8 [0] [] [] (cg0);rfl;(focus ((repeat' first|exact z4|apply z5)<;>rfl)))|(apply z8 [0] [] [] (cg);rfl;(focus ((repeat' first|exact z4|apply z5)<;>rfl)))|(apply z8 [0] [] [4,5,6] (cm);rfl;(focus ((repeat' first|exact z4|apply z5)<;>rfl))));rfl;rfl;rfl;rfl;rfl;(focus ((repeat' first|exact z15|apply z14)<;>first|exact z20 rfl rfl|(refine z25 ?_;((exact z6 fun _=>rfl)))));(exact .inl rfl)))<;>conv=>whnf)
          all_goals skip
          all_goals (refine RetS.lay [0] [4,5,6] rfl rfl rfl ?_;refine RetS.done ?_ ?_<;>(repeat' (first|exact LocLe.refl _|exact F2.nil|apply F2.cons|apply ObjLe.box|((apply z45 rfl rfl rfl);(focus ((repeat ((exact z41 (fun _=>rfl) _)));done));(focus (((simp;done));done)))|apply z44|apply z95)))
  · obtain ⟨g0,g,p3,p4,cg0,cg,hg,q1,q2⟩:=z1009 bs hb (p2+1) ⟨by omega,by omega⟩
    obtain ⟨a',p5,⟨b1,b2,b3⟩,cm⟩:=z486 bs hb p4 ⟨by omega,by omega⟩ a0 ⟨a1,a2,a3,a6⟩
    refine ⟨g,l,a',p5,⟨hg,⟨l1,l2⟩,b1,by omega,by omega⟩,?_⟩
    refine z10 z18 Tryz.func72 rfl rfl 44 Tryz.ntmps72 (by simp) ?_
    repeat' ((first|((fail_if_success apply z146 8);(fail_if_success apply z112 8);apply AWP.go ok;rfl)|((apply z7)<;>intro _)|((first|(apply z8 [0] [] [] (c1);rfl;(focus ((repeat' first|exact z4|apply z5)<;>rfl)))|(apply z8 [0] [] [3,4,5] (c2);rfl;(focus ((repeat' first|exact z4|apply z5)<;>rfl)))|(apply z8 [0] [] [] (cw);rfl;(focus ((repeat' first|exact z4|apply z5)<;>rfl))));rfl;rfl;rfl;rfl;rfl;(focus ((repeat' first|exact z15|apply z14)<;>first|exact z20 rfl rfl|(refine z25 ?_;((exact z6 fun _=>rfl)))));(exact .inl rfl)))<;>conv=>whnf)
    all_goals first|(exfalso;omega)|skip
    all_goals
      refine AWP.reach (SealW.reach (env:=[(0,.ptr 0 none 0),(2,.ptr 1 none 0),(4,.ptr 2 none 0),(5,lst 3 Tree.cs' l),(6,.ptr 3 none 0)]) (objs:=[rdO bs (p2+1),.cells 2 [[.nils,.nils]],.cells 3 [[.nils,.nils,.nils]],.cells 3 [a0.cs]]) [0,1,2,6] [3,4,5] rfl rfl rfl rfl ?_ ?_) ?_
      · (repeat' (first|exact LocLe.refl _|exact True.intro|apply And.intro))
      · (repeat' (first|exact LocLe.refl _|exact F2.nil|apply F2.cons|apply ObjLe.box|((apply z45 rfl rfl rfl);(focus ((repeat ((exact z41 (fun _=>rfl) _)));done));(focus (((simp;done));done)))))
      conv=>whnf
      repeat' ((first|(apply AWP.go ok;rfl)|(apply z34;kernel_rfl)|((first|(apply z8 [0] [] [] (cg0);rfl;(focus ((repeat' first|exact z4|apply z5)<;>rfl)))|(apply z8 [0] [] [] (cg);rfl;(focus ((repeat' first|exact z4|apply z5)<;>rfl)))|(apply z8 [0] [] [4,5,6] (cm);rfl;(focus ((repeat' first|exact z4|apply z5)<;>rfl))));rfl;rfl;rfl;rfl;rfl;(focus ((repeat' first|exact z15|apply z14)<;>first|exact z20 rfl rfl|(refine z25 ?_;((exact z6 fun _=>rfl)))));(exact .inl rfl)))<;>conv=>whnf)
      all_goals skip
      all_goals (refine RetS.lay [0] [4,5,6] rfl rfl rfl ?_;refine RetS.done ?_ ?_<;>(repeat' (first|exact LocLe.refl _|exact F2.nil|apply F2.cons|apply ObjLe.box|((apply z45 rfl rfl rfl);(focus ((repeat ((exact z41 (fun _=>rfl) _)));done));(focus (((simp;done));done)))|apply z44|apply z95)))
end Go.Proofs.YtknlmbniicacmaaGreat

namespace Go.Proofs.YtknlmbniicacmaaGreat
open Go.Gl
attribute [local irreducible] z31 AWP z48 z52 z50 RetS z57
set_option maxHeartbeats 3200000 in
theorem z691 (P:List Int) (hP:P.length≤100000) (f:Nat) (to:Int) (h:BackOk P f to) (hf:f≤100000):CallsA Tryz.prog 190 [ints P,.int to] [] (ints (bkw P f to [])) []:=by
  generalize hR:bkw P f to []=R
  have hto:=h
  refine z10 z18 Tryz.func190 rfl rfl 25 Tryz.ntmps190 (by simp) ?_
  repeat' (((apply AWP.go ok;rfl))<;>conv=>whnf)
  refine z64 (fun x:Nat×Int×List Int=>([(0,ints P),(5,.sref 0 0 (x.2.2.length+1))],[.cells 1 ((x.2.1::x.2.2).map enI)])) (fun x=>BackOk P x.1 x.2.1∧bkw P x.1 x.2.1 x.2.2=R∧x.1+x.2.2.length≤100000) (fun x=>x.1) (f,to,[]) ⟨hto,hR,by show f+0≤100000;omega⟩ (by refine SealW.reach [0] [] rfl rfl rfl rfl ?_ ?_<;>(repeat' (first|exact LocLe.refl _|exact F2.nil|apply F2.cons|apply ObjLe.box|exact True.intro|apply And.intro))) ?_
  rintro ⟨g,v,tl⟩ ⟨hB,hE,hl⟩
  dsimp only at hB hE hl ⊢
  have hv:0≤v∧v < P.length:=by cases g<;>exact hB.1
  have hg:(P.map enI)[v.toNat]?=some (enI (P.getD v.toNat 0)):=by rw [List.getElem?_map,List.getElem?_eq_getElem (by omega),z19 (by omega)];rfl
  by_cases h0:0≤P.getD v.toNat 0
  · cases g with
    | zero=>exact absurd hB.2 (by omega)
    | succ g =>
      rw [bkw,if_pos h0] at hE
      have hB2:BackOk P g (P.getD v.toNat 0):=by
        rcases hB.2 with h|h
        · omega
        · exact h
      generalize P.getD v.toNat 0=y at *
      have hst:(List.map enI (v::tl)).length=tl.length+1∧Stor (List.map enI (v::tl)):=⟨by simp,z93 (fun _=>rfl)⟩
      repeat' ((first|(apply AWP.go ok;rfl)|(refine z16 (i:=v.toNat) (by simp) hg ?_)|(refine And.intro hst ?_)|(apply And.intro;first|omega|((try dsimp only);simp only [List.length_map,List.length_take,List.length_append,List.length_replicate,List.length_cons,List.length_nil];omega))|apply z127|((apply z7)<;>intro _))<;>conv=>whnf)
      all_goals first|(exfalso;omega)|skip
      all_goals refine z23 (g,y,v::tl) ⟨hB2,hE,by show g+(v::tl).length≤100000;rw [List.length_cons];omega⟩ (by show g < g+1;omega) (by refine SealW.reach [2] [0,1] rfl rfl rfl rfl ?_ ?_<;>(repeat' (first|exact LocLe.refl _|exact F2.nil|apply F2.cons|exact z12 _|(refine z39 ?_;((simp;omega)))|((refine z13 rfl ?_ ?_);(focus ((repeat' (first|exact z6 (fun _=>rfl)|exact z216 rfl z37|apply z99));done)))|exact True.intro|apply And.intro)))
  · have hE2:v::tl=R:=by
      cases g with
      | zero=>exact hE
      | succ g=>rw [bkw,if_neg h0] at hE;exact hE
    subst hE2
    generalize P.getD v.toNat 0=y at *
    repeat' ((first|(apply AWP.go ok;rfl)|(refine z16 (i:=v.toNat) (by simp) hg ?_)|(apply And.intro;omega)|(((apply z11;omega));intro _)|apply z127|((apply z7)<;>intro _))<;>conv=>whnf)
    all_goals first|(exfalso;omega)|skip
    all_goals (refine RetS.lay [] [0] rfl rfl rfl ?_;refine RetS.done ?_ ?_<;>(repeat' (first|exact LocLe.refl _|exact F2.nil|((apply z45 rfl rfl rfl);(focus ((repeat ((exact z41 (fun _=>rfl) _)));done));(focus (((simp;done));done))))))
def z799 (k:Nat):List Int:=List.replicate k (-1)
theorem z560 (k:Nat):z799 (k+1)=z799 k++[-1]:=by unfold z799;rw [List.replicate_succ']
theorem z604 {l:List Int} {k:Nat} (h:k < l.length) (x:Int):x∈l.take (k+1)↔x∈l.take k∨x=l[k]:=by
  rw [List.take_succ_eq_append_getElem h,List.mem_append,List.mem_singleton]
set_option maxHeartbeats 12800000 in
theorem z410 (rows:List (List Int)) (ini:List Int) (hr:∀ r∈rows,InN rows.length r) (hi:InN rows.length ini) (hn:ini.Nodup) (hN:rows.length≤100000) (hrl:∀ r∈rows,r.length≤1000000000):CallsA Tryz.prog 188 [lst 1 encL rows,ints ini] [] (.tup [.sref 0 0 (srP rows ini).length,.sref 1 0 (srQ rows ini).length]) [.cells 1 ((srP rows ini).map enI),.cells 1 ((srQ rows ini).map enI)]:=by
  have hil:ini.length≤rows.length:=z135 _ _ hn hi
  refine z10 z18 Tryz.func188 rfl rfl 91 Tryz.ntmps188 (by simp) ?_
  repeat' ((first|(apply AWP.go ok;rfl)|(apply And.intro;(dsimp only;omega)))<;>conv=>whnf)
  refine z64 (fun x:Nat×List Int=>([(0,lst 1 encL rows),(1,ints ini),(6,.sref 0 0 x.2.length),(7,.sref 1 0 rows.length),(8,.int x.1)],[.cells 1 (x.2.map enI),.cells 1 ((mkB rows.length []).map enB)])) (fun x=>x.1≤rows.length∧x.2.length=x.1∧x.2=z799 x.1) (fun x=>rows.length - x.1) (0,[]) ⟨by show 0≤rows.length;omega,rfl,rfl⟩ (by refine SealW.reach [0,1] [] rfl rfl rfl rfl ?_ ?_<;>(repeat' (first|exact LocLe.refl _|exact F2.nil|apply F2.cons|((refine z13 rfl ?_ ?_);(focus ((repeat' (first|exact z37|exact z65 rfl));done)))|exact True.intro|apply And.intro))<;>((refine z29 ?_;rw [z601,List.map_replicate];rfl))) ?_
  rintro ⟨i,F⟩ ⟨hF1,hFl,hF2⟩
  dsimp only at hF1 hFl hF2 ⊢
  by_cases hi2:i < rows.length
  · repeat' ((first|(apply AWP.go ok;rfl)|(apply And.intro;first|omega|(unfold inI;omega)|((try dsimp only);simp only [List.length_map,List.length_take,List.length_append,List.length_replicate,List.length_cons,List.length_nil];omega)|exact ⟨rfl,z21 rfl z30⟩)|((apply z7)<;>intro _))<;>conv=>whnf)
    all_goals first|(exfalso;omega)|skip
    all_goals refine z23 (i+1,F++[-1]) ⟨hi2,by rw [List.length_append,hFl];rfl,by show _=z799 (i+1);rw [z560,← hF2]⟩ (by show rows.length - (i+1) < _;omega) (by refine SealW.reach [3,1] [] rfl rfl rfl rfl ?_ ?_<;>(repeat' (first|exact LocLe.refl _|exact F2.nil|apply F2.cons|exact z12 _|(refine z39 ?_;((simp;done)))|((first|refine z35 rfl ?_ ?_|refine z13 rfl ?_ ?_);(focus ((repeat' (first|exact z6 (fun _=>rfl)|apply z22));done)))|(refine z70 ?_ ?_;(focus (omega)))|exact True.intro|apply And.intro)))
  · have e:rows.length=i:=by omega
    have hs0:srS rows ini 0=(ini,F):=by rw [hF2,← e];rfl
    rw [← e] at hFl
    subst e
    clear hF1 hF2 hi2
    repeat' ((first|(apply AWP.go ok;rfl)|(apply And.intro;first|omega|(dsimp only;omega)|exact z93 (fun _=>rfl))|((apply z7)<;>intro _))<;>conv=>whnf)
    all_goals first|(exfalso;omega)|skip
    all_goals
      refine z64 (fun i:Nat=>([(0,lst 1 encL rows),(1,ints ini),(6,.sref 0 0 rows.length),(7,.sref 1 0 rows.length),(9,.sref 2 0 ini.length),(10,.int i)],[.cells 1 (F.map enI),.cells 1 ((mkB rows.length (ini.take i)).map enB),.cells 1 (ini.map enI)])) (fun i=>i≤ini.length) (fun i=>ini.length - i) 0 (by omega) (by refine SealW.reach [0,1,3] [] rfl rfl rfl rfl ?_ ?_<;>(repeat' (first|exact LocLe.refl _|exact F2.nil|apply F2.cons|exact z12 _|(refine z39 ?_;(omega))|((refine z13 rfl ?_ ?_);(focus ((repeat' ((exact z6 (fun _=>rfl))));done)))|exact True.intro|apply And.intro))) ?_
      intro i hi1
      by_cases hi2:i < ini.length
      · have hx:=hi ini[i] (List.getElem_mem _)
        have hset:=z313 (enc:=enB) rfl hx.1 hx.2 (z604 hi2)
        have hml:=mkB_len rows.length (ini.take i)
        repeat' ((first|(apply AWP.go ok;rfl)|(apply And.intro;first|omega|(unfold inI;omega))|((first|(with_reducible apply z11;omega)|(apply z11;omega));intro _)|((apply z7)<;>intro _))<;>conv=>whnf)
        all_goals first|(exfalso;omega)|skip
        all_goals refine z23 (i+1) (by omega) (by omega) (by refine SealW.reach [0,1,2] [] rfl rfl rfl rfl ?_ ?_<;>(repeat' (first|exact LocLe.refl _|exact F2.nil|apply F2.cons|exact z12 _|((first|refine z42 rfl ?_ ?_|refine z13 rfl ?_ ?_);(focus ((repeat' ((exact z6 (fun _=>rfl))));done)))|exact True.intro|apply And.intro))<;>(exact z29 hset))
      · have e:ini.length=i:=by omega
        subst e
        rw [List.take_length]
        repeat' ((first|(apply AWP.go ok;rfl)|(apply And.intro;omega)|((first|(with_reducible apply z11;omega)|(apply z11;omega));intro _)|((apply z7)<;>intro _))<;>conv=>whnf)
        all_goals first|(exfalso;omega)|skip
        refine z64 (fun x:Nat×List Int×List Int=>([(0,lst 1 encL rows),(6,.sref 0 0 rows.length),(7,.sref 1 0 rows.length),(9,.sref 2 0 x.2.1.length),(11,.int x.1)],[.cells 1 (x.2.2.map enI),.cells 1 ((mkB rows.length x.2.1).map enB),.cells 1 (x.2.1.map enI)])) (fun x=>srS rows ini x.1=(x.2.1,x.2.2)∧x.1≤x.2.1.length) (fun x=>rows.length - x.1) (0,ini,F) ⟨hs0,Nat.zero_le _⟩ (by refine SealW.reach [0,1,2] [] rfl rfl rfl rfl ?_ ?_<;>(repeat' (first|exact LocLe.refl _|exact F2.nil|apply F2.cons|exact z12 _|((refine z13 rfl ?_ ?_);(focus ((repeat' ((exact z6 (fun _=>rfl))));done)))|exact True.intro|apply And.intro))) ?_
        clear hs0 hFl F
        rintro ⟨i,Q,P⟩ ⟨hS,hiQ⟩
        dsimp only at hS hiQ ⊢
        have hJ:=z301 hr hi hn i
        rw [hS] at hJ
        have hQl:=z135 _ _ hJ.nd hJ.inn
        have hPl:=hJ.len
        dsimp only at hQl hPl
        by_cases hi2:i < Q.length
        · have hq:=hJ.inn _ (List.getElem_mem hi2)
          have hS1:srS rows ini (i+1)=visPs Q[i] (Q,P) (rows.getD Q[i].toNat []):=by rw [srS,dif_pos (by rw [hS];exact hi2)];simp only [hS]
          have hqr:Q[i].toNat < rows.length:=by omega
          have hrow:rows.getD Q[i].toNat []=rows[Q[i].toNat]:=z19 hqr
          have hrin:InN rows.length rows[Q[i].toNat]:=hr _ (List.getElem_mem _)
          have hrl2:=hrl rows[Q[i].toNat] (List.getElem_mem _)
          rw [hrow] at hS1
          repeat' ((first|(apply AWP.go ok;rfl)|((apply z7)<;>intro _))<;>conv=>whnf)
          all_goals first|(exfalso;omega)|skip
          refine z64 (fun y:Nat×List Int×List Int=>([(0,lst 1 encL rows),(6,.sref 0 0 rows.length),(7,.sref 1 0 rows.length),(9,.sref 2 0 y.2.1.length),(11,.int i),(12,.int y.1)],[.cells 1 (y.2.2.map enI),.cells 1 ((mkB rows.length y.2.1).map enB),.cells 1 (y.2.1.map enI)])) (fun y=>visPs Q[i] (Q,P) (rows[Q[i].toNat].take y.1)=(y.2.1,y.2.2)∧y.1≤rows[Q[i].toNat].length) (fun y=>rows[Q[i].toNat].length - y.1) (0,Q,P) ⟨rfl,Nat.zero_le _⟩ (by refine SealW.reach [0,1,2] [] rfl rfl rfl rfl ?_ ?_<;>(repeat' (first|exact LocLe.refl _|exact F2.nil|apply F2.cons|exact z12 _|((refine z13 rfl ?_ ?_);(focus ((repeat' ((exact z6 (fun _=>rfl))));done)))|exact True.intro|apply And.intro))) ?_
          rintro ⟨k,Q',P'⟩ ⟨hV,hk⟩
          dsimp only at hV hk ⊢
          obtain ⟨hJ',hi',hu⟩:=PJ.visPs (rows[Q[i].toNat].take k) hJ hi2 rfl (fun x hx=>hrin x (List.mem_of_mem_take hx))
          simp only [hV] at hJ' hi' hu
          have hQl':=z135 _ _ hJ'.nd hJ'.inn
          have hPl':=hJ'.len
          dsimp only at hQl' hPl'
          have hg:(Q'.map enI)[i]?=some (enI Q[i]):=by rw [List.getElem?_map,List.getElem?_eq_getElem hi',hu];rfl
          by_cases hk2:k < rows[Q[i].toNat].length
          · have hx:=hrin rows[Q[i].toNat][k] (List.getElem_mem _)
            have hv:=z369 (u:=Q[i]) (x:=(Q,P)) hk2
            rw [hV] at hv
            have hkk:(rows[Q[i].toNat].map enI)[k]?=some (enI rows[Q[i].toNat][k]):=by rw [List.getElem?_map,List.getElem?_eq_getElem hk2];rfl
            generalize Q[i]=u at *
            generalize rows[u.toNat][k]=v at *
            by_cases hn2:v∈Q'
            · rw [z330 hn2] at hv
              repeat' ((first|(apply AWP.go ok;rfl)|(refine z16 (i:=i) rfl hg ?_)|(refine z16 (i:=k) rfl hkk ?_)|(refine z236 (enc:=enB) (v:=v) (by rfl) hx.1 hx.2 ?_)|(apply And.intro;first|omega|(unfold inI;omega)|((try dsimp only);simp only [List.length_map,List.length_take,List.length_append,List.length_replicate,List.length_cons,List.length_nil];omega)|exact ⟨rfl,z21 rfl z30⟩)|((first|(with_reducible apply z69;omega)|(apply z11;omega));intro _)|((first|apply z7|apply z38)<;>intro _))<;>conv=>whnf)
              all_goals first|(exfalso;omega)|(exfalso;contradiction)|skip
              all_goals refine z23 (k+1,Q',P') ⟨hv,hk2⟩ (by show rows[u.toNat].length - (k+1) < rows[u.toNat].length - k;omega) (by refine SealW.reach [0,1,2] [] rfl rfl rfl rfl ?_ ?_<;>(repeat' (first|exact LocLe.refl _|exact F2.nil|apply F2.cons|exact z12 _|((refine z13 rfl ?_ ?_);(focus ((repeat' ((exact z6 (fun _=>rfl))));done)))|exact True.intro|apply And.intro)))
            · rw [z331 hn2] at hv
              have hset:=z313 (enc:=enB) (S:=Q') (S':=Q'++[v]) rfl hx.1 hx.2 (fun x=>by simp)
              repeat' ((first|(apply AWP.go ok;rfl)|(refine z16 (i:=i) rfl hg ?_)|(refine z16 (i:=k) rfl hkk ?_)|(refine z236 (enc:=enB) (v:=v) (by rfl) hx.1 hx.2 ?_)|(apply And.intro;first|omega|(unfold inI;omega)|((try dsimp only);simp only [List.length_map,List.length_take,List.length_append,List.length_replicate,List.length_cons,List.length_nil];omega)|exact ⟨rfl,z21 rfl z30⟩)|((first|(with_reducible apply z69;omega)|(apply z11;omega));intro _)|((first|apply z7|apply z38)<;>intro _))<;>conv=>whnf)
              all_goals first|(exfalso;omega)|(exfalso;contradiction)|skip
              all_goals refine z23 (k+1,Q'++[v],P'.set v.toNat u) ⟨hv,hk2⟩ (by show rows[u.toNat].length - (k+1) < rows[u.toNat].length - k;omega) (by refine SealW.reach [0,1,4] [] rfl rfl rfl rfl ?_ ?_<;>(repeat' (first|exact LocLe.refl _|exact F2.nil|apply F2.cons|(refine z39 ?_;((simp;done)))|((first|refine z35 rfl ?_ ?_|refine z42 rfl ?_ ?_);(focus ((repeat' (first|exact z6 (fun _=>rfl)|apply z22));done)))|(refine z188 (by omega) ?_)|(refine z70 ?_ ?_;(focus (omega)))|exact True.intro|apply And.intro))<;>(exact z29 hset))
          · rw [List.take_of_length_le (by omega)] at hV
            rw [hV] at hS1
            repeat' ((first|(apply AWP.go ok;rfl)|(refine z16 (i:=i) rfl hg ?_)|(apply And.intro;first|omega|(unfold inI;omega))|((first|(with_reducible apply z11;omega)|(with_reducible apply z69;omega)|(apply z11;omega));intro _)|((first|apply z7|apply z82)<;>intro _))<;>conv=>whnf)
            all_goals first|(exfalso;omega)|skip
            all_goals refine z23 (i+1,Q',P') ⟨hS1,hi'⟩ (by show rows.length - (i+1) < rows.length - i;omega) (by refine SealW.reach [0,1,2] [] rfl rfl rfl rfl ?_ ?_<;>(repeat' (first|exact LocLe.refl _|exact F2.nil|apply F2.cons|exact z12 _|((refine z13 rfl ?_ ?_);(focus ((repeat' ((exact z6 (fun _=>rfl))));done)))|exact True.intro|apply And.intro)))
        · have hE:=z966 (rows:=rows) (ini:=ini) (i:=i) (by rw [hS];show Q.length≤i;omega) (by omega)
          rw [hS] at hE
          obtain ⟨e1,e2⟩:=Prod.mk.inj hE
          rw [← e1,← e2]
          repeat' ((first|(apply AWP.go ok;rfl)|((apply z7)<;>intro _))<;>conv=>whnf)
          all_goals first|(exfalso;omega)|skip
          all_goals (refine RetS.lay [0,2] [] rfl rfl rfl ?_;refine RetS.done ?_ ?_<;>(repeat' (first|exact LocLe.refl _|exact F2.nil|apply F2.cons|exact z12 _|(refine z39 ?_;(omega))|((refine z13 rfl ?_ ?_);(focus ((repeat' ((exact z6 (fun _=>rfl))));done)))|apply z95)))
theorem z781 (rows:List (List Int)) (ini:List Int) (hr:∀ r∈rows,InN rows.length r) (hi:InN rows.length ini) (hn:ini.Nodup) (hN:rows.length≤100000) (hrl:∀ r∈rows,r.length≤1000000000):CallsA Tryz.prog 188 [lst 1 encL rows,ints ini] [] (.tup [ints (srP rows ini),ints (srQ rows ini)]) [] :=
  (z410 rows ini hr hi hn hN hrl).lend [] [0,1] rfl rfl rfl (bor_tup (z60 (z122 rfl rfl rfl) (z60 (z122 rfl rfl rfl) z84))) z4
end Go.Proofs.YtknlmbniicacmaaGreat

namespace Go.Proofs.YtknlmbniicacmaaGreat
open Go.Gl
attribute [local irreducible] z31 AWP z48 z52 z50 RetS z57
theorem rowAt {rows:List (List Int)} {v:Int} (hv:0≤v∧v < rows.length):(rows.map encL)[v.toNat]?=some (encL (rows.getD v.toNat [])):=by
  rw [List.getElem?_map,List.getElem?_eq_getElem (by omega),z19 (by omega)];rfl
theorem rowLen {rows:List (List Int)} {M:Nat} (hrl:∀ r∈rows,r.length≤M) (v:Int):(rows.getD v.toNat []).length≤M:=by
  by_cases h:v.toNat < rows.length
  · rw [z19 h];exact hrl _ (List.getElem_mem _)
  · rw [List.getD_eq_getElem?_getD,List.getElem?_eq_none (by omega)];exact Nat.zero_le _
set_option maxHeartbeats 3200000 in
theorem z902 (rows:List (List Int)) (v:Int) (hr:∀ r∈rows,InN rows.length r) (hv:0≤v∧v < rows.length) (hN:rows.length≤100000) (hrl:∀ r∈rows,r.length≤1000000000):CallsA Tryz.prog 189 [lst 1 encL rows,.int v] [] (ints (cycL rows v)) []:=by
  have hg:=rowAt hv
  have hl:=fun w=>rowLen hrl w
  have c1:=z611 (rows.getD v.toNat []) (by have:=hl v;unfold maxLen;omega) v
  have hlv:=hl v
  have c2:=z410 rows [v] hr (z307 hv) (by simp) hN hrl
  have hQ:=z662 hr (z307 hv) (by simp)
  have hB:=z828 hr (z307 hv) (by simp)
  have hPl:=z969 hr (z307 hv) (by simp)
  have hQl:=z753 hr (z307 hv) (by simp)
  have c3:=fun k hk=>z691 (srP rows [v]) (by omega) rows.length _ (hB k hk) (by omega)
  unfold cycL
  by_cases h:v∈rows.getD v.toNat []
  · rw [if_pos h]
    rw [decide_eq_true h] at c1
    generalize rows.getD v.toNat []=r0 at *
    refine z10 z18 Tryz.func189 rfl rfl 45 Tryz.ntmps189 (by simp) ?_
    repeat' ((first|(apply AWP.go ok;rfl)|(refine z16 (i:=v.toNat) (by simp) hg ?_)|(apply And.intro;omega)|(apply z9 (c1);rfl;rfl))<;>conv=>whnf)
    all_goals skip
    all_goals (refine RetS.lay [] [0] rfl rfl rfl ?_;refine RetS.done ?_ ?_<;>(repeat' (first|exact LocLe.refl _|exact F2.nil)))
  · rw [if_neg h]
    rw [decide_eq_false h] at c1
    generalize hr0:rows.getD v.toNat []=r0 at hg c1 hlv
    generalize srQ rows [v]=Q at *
    generalize srP rows [v]=P at *
    generalize hR:cycT rows P v Q=R
    refine z10 z18 Tryz.func189 rfl rfl 45 Tryz.ntmps189 (by simp) ?_
    repeat' ((first|(apply AWP.go ok;rfl)|(refine z16 (i:=v.toNat) (by simp) hg ?_)|(apply And.intro;omega)|(apply z9 (c1);rfl;rfl)|(((apply z8 [] [0] [1,2] (c2);(focus ((repeat' first|exact z84|apply z60)<;>rfl));(focus ((repeat' exact z4)<;>fail))));rfl;rfl;rfl;rfl;rfl;(focus ((repeat' first|exact z15|apply z14)<;>(refine z25 ?_;((exact z6 fun _=>rfl)))));((refine .inr ⟨rfl,?_⟩;repeat' first|exact True.intro|apply And.intro|exact z229 (fun _=>rfl) _))))<;>conv=>whnf)
    all_goals skip
    refine z64 (fun i:Nat=>([(0,lst 1 encL rows),(1,.int v),(5,ints P),(6,ints Q),(7,.int i)],[])) (fun i=>i≤Q.length∧cycT rows P v (Q.drop i)=R) (fun i=>Q.length - i) 0 ⟨Nat.zero_le _,hR⟩ (by refine SealW.reach [] [1,2] rfl rfl rfl rfl ?_ ?_<;>(repeat' (first|exact LocLe.refl _|exact F2.nil|((apply z45 rfl rfl rfl);(focus ((repeat ((exact z41 (fun _=>rfl) _)));done));(focus (((simp;done));done)))|exact True.intro|apply And.intro))) ?_
    rintro i ⟨hi1,hi2⟩
    by_cases hi3:i < Q.length
    · have hq:=hQ _ (List.getElem_mem hi3)
      have hgq:=rowAt hq
      have c4:=z611 (rows.getD Q[i].toNat []) (by have:=hl Q[i];unfold maxLen;omega) v
      have hlq:=hl Q[i]
      have c5:=c3 i hi3
      rw [List.drop_eq_getElem_cons hi3,cycT] at hi2
      have hgi:(Q.map enI)[i]?=some (enI Q[i]):=by rw [List.getElem?_map,List.getElem?_eq_getElem hi3];rfl
      generalize Q[i]=u at *
      by_cases hm:v∈rows.getD u.toNat []
      · rw [if_pos hm] at hi2
        rw [decide_eq_true hm] at c4
        subst hi2
        generalize rows.getD u.toNat []=r1 at *
        repeat' ((first|(apply AWP.go ok;rfl)|(refine z16 (i:=u.toNat) (by simp) hgq ?_)|(refine z16 (i:=i) (by simp) hgi ?_)|(apply And.intro;omega)|((apply z7)<;>intro _)|(apply z9 (c4);rfl;rfl)|(apply z9 (c5);rfl;rfl))<;>conv=>whnf)
        all_goals first|(exfalso;omega)|skip
        all_goals (refine RetS.lay [] [] rfl rfl rfl ?_;refine RetS.done ?_ ?_<;>(repeat' (first|exact LocLe.refl _|exact F2.nil)))
      · rw [if_neg hm] at hi2
        rw [decide_eq_false hm] at c4
        generalize rows.getD u.toNat []=r1 at *
        repeat' ((first|(apply AWP.go ok;rfl)|(refine z16 (i:=u.toNat) (by simp) hgq ?_)|(refine z16 (i:=i) (by simp) hgi ?_)|(apply And.intro;first|omega|(unfold inI;omega))|((apply z7)<;>intro _)|(apply z9 (c4);rfl;rfl))<;>conv=>whnf)
        all_goals first|(exfalso;omega)|skip
        all_goals refine z23 (i+1) ⟨hi3,hi2⟩ (by omega) (by refine SealW.reach [] [] rfl rfl rfl rfl ?_ ?_<;>(repeat' (first|exact LocLe.refl _|exact F2.nil|exact True.intro|apply And.intro)))
    · have e:Q.length=i:=by omega
      subst e
      rw [List.drop_length,cycT] at hi2
      subst hi2
      repeat' ((first|(apply AWP.go ok;rfl)|(apply And.intro;omega)|((first|(with_reducible apply z11;omega)|(with_reducible apply z69;omega));intro _)|((apply z7)<;>intro _))<;>conv=>whnf)
      all_goals first|(exfalso;omega)|skip
      all_goals (refine RetS.lay [] [0] rfl rfl rfl ?_;refine RetS.done ?_ ?_<;>(repeat' (first|exact LocLe.refl _|exact F2.nil)))
theorem z485 (l:List Int) (n:Nat) (hl:l.length≤1000000) (hn:1≤n) (h0:∀ x∈l,0≤x) (h1:∀ x∈l,x≤1000000000):CallsA Tryz.prog 191 [ints l,.int n] [] (.sref 0 0 l.length) [.cells 1 ((stL l n).map enI)]:=by
  refine z10 z18 Tryz.func191 rfl rfl 24 Tryz.ntmps191 (by simp) ?_
  repeat' (((apply AWP.go ok;rfl))<;>conv=>whnf)
  refine z64 (fun x:Nat×List Int=>([(0,ints l),(1,.int n),(5,.sref 0 0 x.2.length),(6,.int x.1)],[.cells 1 (x.2.map enI)])) (fun x=>x.1≤l.length∧x.2.length=x.1∧x.2=stL (l.take x.1) n) (fun x=>l.length - x.1) (0,[]) ⟨Nat.zero_le _,rfl,rfl⟩ (by refine SealW.reach [0] [] rfl rfl rfl rfl ?_ ?_<;>(repeat' (first|exact LocLe.refl _|exact F2.nil|apply F2.cons|((refine z13 rfl ?_ ?_);(focus ((repeat' (exact z37));done)))|exact True.intro|apply And.intro))) ?_
  rintro ⟨i,F⟩ ⟨hi1,hF1,hF2⟩
  dsimp only at hi1 hF1 hF2 ⊢
  by_cases hi2:i < l.length
  · have a0:=h0 _ (List.getElem_mem hi2)
    have a1:=h1 _ (List.getElem_mem hi2)
    have a2:0≤l[i] / (n:Int):=Int.ediv_nonneg a0 (by omega)
    have a3:l[i] / (n:Int)≤l[i]:=Int.ediv_le_self _ a0
    have hF3:stL (l.take (i+1)) n=F++[l[i] / n]:=by rw [hF2,stL,List.take_succ_eq_append_getElem hi2,List.map_append];rfl
    repeat' ((first|(apply AWP.go ok;rfl)|(apply And.intro;first|omega|(unfold inI;omega)|((try dsimp only);simp only [List.length_map,List.length_take,List.length_append,List.length_replicate,List.length_cons,List.length_nil];omega)|exact ⟨rfl,z21 rfl z30⟩)|(((with_reducible apply z11;omega));intro _)|((apply z7)<;>intro _))<;>conv=>whnf)
    all_goals first|(exfalso;omega)|skip
    all_goals refine z23 (i+1,F++[l[i] / n]) ⟨hi2,by rw [List.length_append,hF1];rfl,hF3.symm⟩ (by show l.length - (i+1) < l.length - i;omega) (by refine SealW.reach [2] [] rfl rfl rfl rfl ?_ ?_<;>(repeat' (first|exact LocLe.refl _|exact F2.nil|apply F2.cons|(refine z39 ?_;((simp;done)))|((refine z35 rfl ?_ ?_);(focus ((repeat' (first|exact z6 (fun _=>rfl)|apply z22));done)))|(refine z70 ?_ ?_;(focus (omega)))|exact True.intro|apply And.intro)))
  · have e:l.length=i:=by omega
    subst e
    rw [List.take_length] at hF2
    subst hF2
    repeat' ((first|(apply AWP.go ok;rfl)|(apply And.intro;omega)|(((with_reducible apply z11;omega));intro _)|((apply z7)<;>intro _))<;>conv=>whnf)
    all_goals first|(exfalso;omega)|skip
    all_goals (refine RetS.lay [0] [] rfl rfl rfl ?_;refine RetS.done ?_ ?_<;>(repeat' (first|exact F2.nil|apply F2.cons|exact z12 _|(refine z39 ?_;(omega))|((refine z13 rfl ?_ ?_);(focus ((repeat' ((exact z6 (fun _=>rfl))));done))))))
end Go.Proofs.YtknlmbniicacmaaGreat

