/- A part of the proofs over this program: T156, T157, T158, T159, T160, T94W, T29, T94K, T161, T186, T187, T238, T33P, T67, T68, T210, T200, T162, T163, T164, T170. -/
import Derived.Test.YtahhobgjcfionaaGreatG0
import Derived.Test.YtahhobgjcfionaaGreatG1
import Derived.Test.YtahhobgjcfionaaGreatG2
import Derived.Test.YtahhobgjcfionaaGreatG3
import Derived.Test.YtahhobgjcfionaaGreatP0
import Derived.Test.YtahhobgjcfionaaGreatP1
import Derived.Test.YtahhobgjcfionaaGreatP2
import Derived.Test.YtahhobgjcfionaaGreatP3
import Derived.Test.YtahhobgjcfionaaGreatP4
import Derived.Test.YtahhobgjcfionaaGreatP5
import Derived.Test.YtahhobgjcfionaaGreatRows
import Derived.WalkKit
import Derived.ProofKit
import Derived.Deep.DeepHandedRow
import Derived.Lib.LaidTab
set_option linter.all false
namespace Go.Proofs.YtahhobgjcfionaaGreat
open Go.Gl
attribute [local irreducible] z19 AWP z36 z44 z39 RetS z47
def mixB (z a:List Bool) (k:Nat):List Bool:=z.take k++a.drop k
theorem z835 {z a:List Bool} {k:Nat} (h:z.length=a.length) (hk:k≤a.length):(mixB z a k).length=a.length:=by unfold mixB;simp;omega
theorem mixB_set {z a:List Bool} {k:Nat} (h:k < z.length) (ha:k < a.length) {x:Bool} (hx:z[k]=x):(mixB z a k).set k x=mixB z a (k+1):=by
 subst hx
 unfold mixB
 rw [y71 ha,List.set_append_right _ _ (by simp;omega)]
 simp only [y41]
 rw [show k - min k z.length=0 by omega,List.set_cons_zero,y43 h,List.append_assoc,List.singleton_append]
theorem mixB_get {z a:List Bool} {k:Nat} (h:k≤z.length) (ha:k < a.length):((mixB z a k).map enB)[k]?=some (enB a[k]):=by
 unfold mixB
 rw [y56,y59 (by simp;omega)]
 simp only [y42,y41]
 rw [show k - min k z.length=0 by omega]
 simp [ha]
def isAc (bs:List Int) (b:Bool) (q:Int) (z:Bool) (q' : Int):Prop:=(b=false∧z=false∧q'=q)∨(b=true∧∃ c:Int,CallsA Tryz.prog 92 [.ptr 0 none 0,.int 3] [rdO bs q] (.int c) [rdO bs (q+1)]∧z=decide (c=0)∧q'=q+1)
theorem isAc_ex (bs:List Int) (hb:BytesOk bs) (b:Bool) (q:Int) (hq:0≤q∧q≤999999000):∃ z q',isAc bs b q z q'∧q≤q'∧q'≤q+1:=by
 cases b
 ·exact ⟨false,q,.inl ⟨rfl,rfl,rfl⟩,by omega,by omega⟩
 ·obtain ⟨c,_,cc⟩:=z60 bs hb q 3 (by omega) (by omega) (by omega)
  exact ⟨decide (c=0),q+1,.inr ⟨rfl,c,cc,rfl,rfl⟩,by omega,by omega⟩
set_option maxHeartbeats 6400000 in
theorem z894 (bs : List Int) (hb : BytesOk bs) (p : Int) (hp : 0 ≤ p ∧ p ≤ 990000000) : ∃ (g : Graph) (l : List Tree) (a : Aut) (p' : Int), (g.d ∧ Lab.d l ∧ a.sm ∧ p ≤ p' ∧ p' ≤ p + 20000) ∧
  CallsA Tryz.prog 91 [.ptr 0 none 0] [rdO bs p] (.tup [.agg g.cs,lst 3 Tree.cs' l,.agg a.cs]) [rdO bs p']:=by
 obtain ⟨l,p1,⟨l1,l2,l3,l4⟩,c1⟩:=z777 bs hb p ⟨by omega,by omega⟩
 obtain ⟨a0,p2,⟨a1,a2,a3,a4,a5,a6⟩,c2⟩:=z533 bs hb p1 ⟨by omega,by omega⟩
 obtain ⟨w,⟨w0,w1⟩,cw⟩:=z60 bs hb p2 2 (by omega) (by omega) (by omega)
 by_cases hw:w=0
 ·subst hw
  obtain ⟨zs,pf,h1,h2,h3,h4⟩:=z309 (fun k r z r'=>isAc bs (a0.acc.getD k false) r z r') (p2+1) 1 a0.acc.length (fun k r hk b1 b2=>isAc_ex bs hb _ r ⟨by omega,by omega⟩)
  have h5:=h4 _ (y45 _)
  obtain ⟨g0,g,p3,p4,cg0,cg,hg,q1,q2⟩:=z1015 bs hb (pf a0.acc.length) ⟨by omega,by omega⟩
  obtain ⟨a',p5,⟨b1,b2,b3⟩,cm⟩:=z488 bs hb p4 ⟨by omega,by omega⟩ ⟨a0.ini,zs,a0.ed⟩ ⟨a1,by show zs.length≤16;omega,a3,a6⟩
  refine ⟨g,l,a',p5,⟨hg,⟨l1,l2⟩,b1,by omega,by omega⟩,?_⟩
  refine z7 z16 Tryz.func91 rfl rfl 44 Tryz.ntmps91 (by simp) ?_
  rw [← h2] at cw
  repeat' ((first|(apply y76 ok;rfl)|((first|(apply z11 [0] [] c1;rfl;rfl)|(apply z11 [0] [3,4,5] c2;rfl;rfl)|(apply z11 [0] [] cw;rfl;rfl));rfl;(focus ((repeat' first|exact z15|apply z14)<;>first|exact z46 rfl rfl|(refine z21 ?_;((exact z4 fun _=>rfl)))))))<;>conv=>whnf)
  all_goals
   refine z65 (fun x:Nat×List Bool=>([(0,.ptr 0 none 0),(2,.ptr 1 none 0),(4,.ptr 2 none 0),(5,lst 3 Tree.cs' l),(6,.ptr 3 none 0),(7,.int x.1)],[rdO bs (pf x.1),.cells 2 [[.nils,.nils]],.cells 3 [[.nils,.nils,.nils]],.cells 3 [[.sref 4 0 a0.ini.length,.sref 5 0 x.2.length,.sref 6 0 a0.ed.length]],.cells 1 (a0.ini.map enI),.cells 1 (x.2.map enB),.cells 4 (a0.ed.map Trans.cs)])) (fun x=>x.1≤a0.acc.length∧x.2=mixB zs a0.acc x.1) (fun x=>a0.acc.length - x.1) (0,a0.acc) ⟨by show 0≤a0.acc.length;omega,by show a0.acc=mixB zs a0.acc 0;simp [mixB]⟩ (by refine swR [0,1,2,6,3,4,5] [] rfl rfl ?_;(repeat' first|exact y78 _|exact z9 _|apply y79|refine z10 rfl (z4 (fun _=>rfl)) ?_|constructor)) ?_
   rintro ⟨k,A⟩ ⟨hk,hA⟩
   dsimp only at hk hA ⊢
   have hAl:A.length=a0.acc.length:=by rw [hA];exact z835 (by omega) hk
   by_cases hkn:k < a0.acc.length
   ·have hkz:k < zs.length:=by omega
    have hget:=mixB_get (z:=zs) (a:=a0.acc) (k:=k) (by omega) hkn
    have hA2l:(mixB zs a0.acc (k+1)).length=a0.acc.length:=z835 (by omega) (by omega)
    have H:=h3 k hkz
    rw [z20 hkn] at H
    have hset:=fun x h=>mixB_set (a:=a0.acc) hkz hkn (x:=x) h
    rw [← hA] at hget hset
    have hset2:∀ x,zs[k]=x→(A.map enB).set k (enB x)=(mixB zs a0.acc (k+1)).map enB:=fun x h=>by rw [← hset x h,List.map_set]
    generalize a0.acc[k]=b at *
    generalize zs[k]=z at *
    rcases H with ⟨rfl,rfl,eq⟩|⟨rfl,c,cc,rfl,eq⟩
    ·rw [← eq]
     repeat' ((first|(apply y76 ok;rfl)|(apply z31;kernel_rfl)|(refine z12 (i:=k) rfl hget ?_)|(apply y36;first|omega|(unfold inI;omega))|((apply z5)<;>intro _))<;>conv=>whnf)
     all_goals try (exfalso;omega)
     all_goals refine z23 (k+1,mixB zs a0.acc (k+1)) ⟨by show k+1≤a0.acc.length;omega,rfl⟩ (by show a0.acc.length - (k+1) < a0.acc.length - k;omega) (by refine swR [0,1,2,3,4,5,6] [] rfl rfl ?_;(repeat' first|exact y78 _|exact z9 _|(refine z34 ?_;((simp;omega)))|apply y79|refine z41 rfl (z4 (fun _=>rfl)) ?_|refine z10 rfl (z4 (fun _=>rfl)) ?_|constructor)<;>(exact z26 (hset2 _ rfl)))
    ·rw [← eq] at cc
     repeat' ((first|(apply y76 ok;rfl)|(apply z31;kernel_rfl)|(refine z12 (i:=k) rfl hget ?_)|(apply y36;first|omega|(unfold inI;omega))|((apply z5)<;>intro _)|(apply z22 [0] [] cc;rfl;rfl;rfl))<;>conv=>whnf)
     all_goals try (exfalso;omega)
     all_goals refine z23 (k+1,mixB zs a0.acc (k+1)) ⟨by show k+1≤a0.acc.length;omega,rfl⟩ (by show a0.acc.length - (k+1) < a0.acc.length - k;omega) (by refine swR [0,1,2,3,4,5,6] [] rfl rfl ?_;(repeat' first|exact y78 _|exact z9 _|(refine z34 ?_;((simp;omega)))|apply y79|refine z41 rfl (z4 (fun _=>rfl)) ?_|refine z10 rfl (z4 (fun _=>rfl)) ?_|constructor)<;>(exact z26 (hset2 _ rfl)))
   ·have e:a0.acc.length=k:=by omega
    have hA2:zs=A:=by rw [hA];unfold mixB;rw [y50 (by omega),y75 (by omega),y57]
    rw [e] at cg0
    rw [hA2] at cm
    repeat' ((first|((fail_if_success apply z151 8);(fail_if_success apply z112 8);apply y76 ok;rfl)|(apply z31;kernel_rfl)|(apply y36;omega)|(((apply z8;omega));intro _)|((first|apply z5|apply z107)<;>intro _))<;>conv=>whnf)
    all_goals try (exfalso;omega)
    all_goals
     refine y77 (SealW.reach (env:=[(0,.ptr 0 none 0),(2,.ptr 1 none 0),(4,.ptr 2 none 0),(5,lst 3 Tree.cs' l),(6,.ptr 3 none 0)]) (objs:=[rdO bs (pf k),.cells 2 [[.nils,.nils]],.cells 3 [[.nils,.nils,.nils]],.cells 3 [(Aut.mk a0.ini A a0.ed).cs]]) [0,1,2,3] [4,5,6] rfl rfl rfl rfl ?_ ?_) ?_
     ·(repeat' first|exact y78 _|constructor)
     ·(repeat' first|exact y78 _|apply y79|((apply z45 rfl rfl rfl);(focus ((repeat ((exact z37 (fun _=>rfl) _)));done));(focus (((simp;done));done)))|constructor)
     conv=>whnf
     repeat' ((first|(apply y76 ok;rfl)|(apply z31;kernel_rfl)|((first|(apply z11 [0] [] cg0;rfl;rfl)|(apply z11 [0] [] cg;rfl;rfl)|(apply z11 [0] [4,5,6] cm;rfl;rfl));rfl;(focus ((repeat' first|exact z15|apply z14)<;>first|exact z46 rfl rfl|(refine z21 ?_;((exact z4 fun _=>rfl)))))))<;>conv=>whnf)
     all_goals (refine rsD [0] [4,5,6] rfl ?_;(repeat' first|exact y78 _|apply y79|((apply z45 rfl rfl rfl);(focus ((repeat ((exact z37 (fun _=>rfl) _)));done));(focus (((simp;done));done)))|apply z42|apply z88|constructor))
 ·obtain ⟨g0,g,p3,p4,cg0,cg,hg,q1,q2⟩:=z1015 bs hb (p2+1) ⟨by omega,by omega⟩
  obtain ⟨a',p5,⟨b1,b2,b3⟩,cm⟩:=z488 bs hb p4 ⟨by omega,by omega⟩ a0 ⟨a1,a2,a3,a6⟩
  refine ⟨g,l,a',p5,⟨hg,⟨l1,l2⟩,b1,by omega,by omega⟩,?_⟩
  refine z7 z16 Tryz.func91 rfl rfl 44 Tryz.ntmps91 (by simp) ?_
  repeat' ((first|((fail_if_success apply z151 8);(fail_if_success apply z112 8);apply y76 ok;rfl)|((apply z5)<;>intro _)|((first|(apply z11 [0] [] c1;rfl;rfl)|(apply z11 [0] [3,4,5] c2;rfl;rfl)|(apply z11 [0] [] cw;rfl;rfl));rfl;(focus ((repeat' first|exact z15|apply z14)<;>first|exact z46 rfl rfl|(refine z21 ?_;((exact z4 fun _=>rfl)))))))<;>conv=>whnf)
  all_goals try (exfalso;omega)
  all_goals
   refine y77 (SealW.reach (env:=[(0,.ptr 0 none 0),(2,.ptr 1 none 0),(4,.ptr 2 none 0),(5,lst 3 Tree.cs' l),(6,.ptr 3 none 0)]) (objs:=[rdO bs (p2+1),.cells 2 [[.nils,.nils]],.cells 3 [[.nils,.nils,.nils]],.cells 3 [a0.cs]]) [0,1,2,6] [3,4,5] rfl rfl rfl rfl ?_ ?_) ?_
   ·(repeat' first|exact y78 _|constructor)
   ·(repeat' first|exact y78 _|apply y79|((apply z45 rfl rfl rfl);(focus ((repeat ((exact z37 (fun _=>rfl) _)));done));(focus (((simp;done));done)))|constructor)
   conv=>whnf
   repeat' ((first|(apply y76 ok;rfl)|(apply z31;kernel_rfl)|((first|(apply z11 [0] [] cg0;rfl;rfl)|(apply z11 [0] [] cg;rfl;rfl)|(apply z11 [0] [4,5,6] cm;rfl;rfl));rfl;(focus ((repeat' first|exact z15|apply z14)<;>first|exact z46 rfl rfl|(refine z21 ?_;((exact z4 fun _=>rfl)))))))<;>conv=>whnf)
   all_goals (refine rsD [0] [4,5,6] rfl ?_;(repeat' first|exact y78 _|apply y79|((apply z45 rfl rfl rfl);(focus ((repeat ((exact z37 (fun _=>rfl) _)));done));(focus (((simp;done));done)))|apply z42|apply z88|constructor))
set_option maxHeartbeats 3200000 in
theorem z683 (P:List Int) (hP:P.length≤100000) (f:Nat) (to:Int) (h:BackOk P f to) (hf:f≤100000):CallsA Tryz.prog 150 [ints P,.int to] [] (ints (bkw P f to [])) []:=by
 generalize hR:bkw P f to []=R
 have hto:=h
 refine z7 z16 Tryz.func150 rfl rfl 25 Tryz.ntmps150 (by simp) ?_
 repeat' (((apply y76 ok;rfl))<;>conv=>whnf)
 refine z65 (fun x:Nat×Int×List Int=>([(0,ints P),(5,.sref 0 0 (x.2.2.length+1))],[.cells 1 ((x.2.1::x.2.2).map enI)])) (fun x=>BackOk P x.1 x.2.1∧bkw P x.1 x.2.1 x.2.2=R∧x.1+x.2.2.length≤100000) (fun x=>x.1) (f,to,[]) ⟨hto,hR,by show f+0≤100000;omega⟩ (by refine swR [0] [] rfl rfl ?_;(repeat' first|exact y78 _|apply y79|constructor)) ?_
 rintro ⟨g,v,tl⟩ ⟨hB,hE,hl⟩
 dsimp only at hB hE hl ⊢
 have hv:0≤v∧v < P.length:=by cases g<;>exact hB.1
 have hg:(P.map enI)[v.toNat]?=some (enI (P.getD v.toNat 0)):=by rw [y44,y38 (by omega),z20 (by omega)];rfl
 by_cases h0:0≤P.getD v.toNat 0
 ·cases g with
  |zero=>exact absurd hB.2 (by omega)
  |succ g =>
   rw [bkw,if_pos h0] at hE
   have hB2:BackOk P g (P.getD v.toNat 0):=by
    rcases hB.2 with h|h
    ·omega
    ·exact h
   generalize P.getD v.toNat 0=y at *
   have hst:(List.map enI (v::tl)).length=tl.length+1∧Stor (List.map enI (v::tl)):=⟨by simp,z84 (fun _=>rfl)⟩
   repeat' ((first|(apply y76 ok;rfl)|(refine z12 (i:=v.toNat) (by simp) hg ?_)|(refine y36 hst ?_)|(apply y36;first|omega|((try dsimp only);simp only [y42,y41,y40,y39,y51,y52];omega))|apply z128|((apply z5)<;>intro _))<;>conv=>whnf)
   all_goals try (exfalso;omega)
   all_goals refine z23 (g,y,v::tl) ⟨hB2,hE,by show g+(v::tl).length≤100000;rw [y51];omega⟩ (by show g < g+1;omega) (by refine swR [2] [0,1] rfl rfl ?_;(repeat' first|exact y78 _|exact z9 _|(refine z34 ?_;((simp;omega)))|((refine z10 rfl ?_ ?_);(focus ((repeat' (first|exact z4 (fun _=>rfl)|exact z223 rfl z32|apply z92));done)))|constructor))
 ·have hE2:v::tl=R:=by
   cases g with
   |zero=>exact hE
   |succ g=>rw [bkw,if_neg h0] at hE;exact hE
  subst hE2
  generalize P.getD v.toNat 0=y at *
  repeat' ((first|(apply y76 ok;rfl)|(refine z12 (i:=v.toNat) (by simp) hg ?_)|(apply y36;omega)|(((apply z8;omega));intro _)|apply z128|((apply z5)<;>intro _))<;>conv=>whnf)
  all_goals try (exfalso;omega)
  all_goals (refine rsD [] [0] rfl ?_;(repeat' first|exact y78 _|((apply z45 rfl rfl rfl);(focus ((repeat ((exact z37 (fun _=>rfl) _)));done));(focus (((simp;done));done)))|constructor))
def z792 (k:Nat):List Int:=List.replicate k (-1)
theorem z558 (k:Nat):z792 (k+1)=z792 k++[-1]:=by unfold z792;rw [List.replicate_succ']
theorem z603 {l:List Int} {k:Nat} (h:k < l.length) (x:Int):x∈l.take (k+1)↔x∈l.take k∨x=l[k]:=by
 rw [y43 h,y47,y48]
set_option maxHeartbeats 12800000 in
theorem z411 (rows:List (List Int)) (ini:List Int) (hr:∀ r∈rows,InN rows.length r) (hi:InN rows.length ini) (hn:ini.Nodup) (hN:rows.length≤100000) (hrl:∀ r∈rows,r.length≤1000000000):CallsA Tryz.prog 148 [lst 1 encL rows,ints ini] [] (.tup [.sref 0 0 (srP rows ini).length,.sref 1 0 (srQ rows ini).length]) [.cells 1 ((srP rows ini).map enI),.cells 1 ((srQ rows ini).map enI)]:=by
 have hil:ini.length≤rows.length:=z129 _ _ hn hi
 refine z7 z16 Tryz.func148 rfl rfl 91 Tryz.ntmps148 (by simp) ?_
 repeat' ((first|(apply y76 ok;rfl)|(apply y36;(dsimp only;omega)))<;>conv=>whnf)
 refine z65 (fun x:Nat×List Int=>([(0,lst 1 encL rows),(1,ints ini),(6,.sref 0 0 x.2.length),(7,.sref 1 0 rows.length),(8,.int x.1)],[.cells 1 (x.2.map enI),.cells 1 ((mkB rows.length []).map enB)])) (fun x=>x.1≤rows.length∧x.2.length=x.1∧x.2=z792 x.1) (fun x=>rows.length - x.1) (0,[]) ⟨by show 0≤rows.length;omega,rfl,rfl⟩ (by refine swR [0,1] [] rfl rfl ?_;(repeat' first|exact y78 _|((refine z10 rfl ?_ ?_);(focus ((repeat' (first|exact z32|exact z64 rfl));done)))|constructor)<;>((refine z26 ?_;rw [z773,List.map_replicate];rfl))) ?_
 rintro ⟨i,F⟩ ⟨hF1,hFl,hF2⟩
 dsimp only at hF1 hFl hF2 ⊢
 by_cases hi2:i < rows.length
 ·repeat' ((first|(apply y76 ok;rfl)|(apply y36;first|omega|(unfold inI;omega)|((try dsimp only);simp only [y42,y41,y40,y39,y51,y52];omega)|exact ⟨rfl,z18 rfl z25⟩)|((apply z5)<;>intro _))<;>conv=>whnf)
  all_goals try (exfalso;omega)
  all_goals refine z23 (i+1,F++[-1]) ⟨hi2,by rw [y40,hFl];rfl,by show _=z792 (i+1);rw [z558,← hF2]⟩ (by show rows.length - (i+1) < _;omega) (by refine swR [3,1] [] rfl rfl ?_;(repeat' first|exact y78 _|exact z9 _|(refine z34 ?_;((simp;done)))|((first|refine z27 rfl ?_ ?_|refine z10 rfl ?_ ?_);(focus ((repeat' (first|exact z4 (fun _=>rfl)|apply z17));done)))|(refine z69 ?_ ?_;(focus (omega)))|constructor))
 ·have e:rows.length=i:=by omega
  have hs0:srS rows ini 0=(ini,F):=by rw [hF2,← e];rfl
  rw [← e] at hFl
  subst e
  clear hF1 hF2 hi2
  repeat' ((first|(apply y76 ok;rfl)|(apply y36;first|omega|(dsimp only;omega)|exact z84 (fun _=>rfl))|((apply z5)<;>intro _))<;>conv=>whnf)
  all_goals try (exfalso;omega)
  all_goals
   refine z65 (fun i:Nat=>([(0,lst 1 encL rows),(1,ints ini),(6,.sref 0 0 rows.length),(7,.sref 1 0 rows.length),(9,.sref 2 0 ini.length),(10,.int i)],[.cells 1 (F.map enI),.cells 1 ((mkB rows.length (ini.take i)).map enB),.cells 1 (ini.map enI)])) (fun i=>i≤ini.length) (fun i=>ini.length - i) 0 (by omega) (by refine swR [0,1,3] [] rfl rfl ?_;(repeat' first|exact y78 _|exact z9 _|(refine z34 ?_;(omega))|refine z10 rfl (z4 (fun _=>rfl)) ?_|constructor)) ?_
   intro i hi1
   by_cases hi2:i < ini.length
   ·have hx:=hi ini[i] (y37 _)
    have hset:=z380 (enc:=enB) rfl hx.1 hx.2 (z603 hi2)
    have hml:=mkB_len rows.length (ini.take i)
    repeat' ((first|(apply y76 ok;rfl)|(apply y36;first|omega|(unfold inI;omega))|((first|(with_reducible apply z8;omega)|(apply z8;omega));intro _)|((apply z5)<;>intro _))<;>conv=>whnf)
    all_goals try (exfalso;omega)
    all_goals refine z23 (i+1) (by omega) (by omega) (by refine swR [0,1,2] [] rfl rfl ?_;(repeat' first|exact y78 _|exact z9 _|refine z41 rfl (z4 (fun _=>rfl)) ?_|refine z10 rfl (z4 (fun _=>rfl)) ?_|constructor)<;>(exact z26 hset))
   ·have e:ini.length=i:=by omega
    subst e
    rw [y49]
    repeat' ((first|(apply y76 ok;rfl)|(apply y36;omega)|((first|(with_reducible apply z8;omega)|(apply z8;omega));intro _)|((apply z5)<;>intro _))<;>conv=>whnf)
    all_goals try (exfalso;omega)
    refine z65 (fun x:Nat×List Int×List Int=>([(0,lst 1 encL rows),(6,.sref 0 0 rows.length),(7,.sref 1 0 rows.length),(9,.sref 2 0 x.2.1.length),(11,.int x.1)],[.cells 1 (x.2.2.map enI),.cells 1 ((mkB rows.length x.2.1).map enB),.cells 1 (x.2.1.map enI)])) (fun x=>srS rows ini x.1=(x.2.1,x.2.2)∧x.1≤x.2.1.length) (fun x=>rows.length - x.1) (0,ini,F) ⟨hs0,y46 _⟩ (by refine swR [0,1,2] [] rfl rfl ?_;(repeat' first|exact y78 _|exact z9 _|refine z10 rfl (z4 (fun _=>rfl)) ?_|constructor)) ?_
    clear hs0 hFl F
    rintro ⟨i,Q,P⟩ ⟨hS,hiQ⟩
    dsimp only at hS hiQ ⊢
    have hJ:=z308 hr hi hn i
    rw [hS] at hJ
    have hQl:=z129 _ _ hJ.nd hJ.inn
    have hPl:=hJ.len
    dsimp only at hQl hPl
    by_cases hi2:i < Q.length
    ·have hq:=hJ.inn _ (y37 hi2)
     have hS1:srS rows ini (i+1)=visPs Q[i] (Q,P) (rows.getD Q[i].toNat []):=by rw [srS,dif_pos (by rw [hS];exact hi2)];simp only [hS]
     have hqr:Q[i].toNat < rows.length:=by omega
     have hrow:rows.getD Q[i].toNat []=rows[Q[i].toNat]:=z20 hqr
     have hrin:InN rows.length rows[Q[i].toNat]:=hr _ (y37 _)
     have hrl2:=hrl rows[Q[i].toNat] (y37 _)
     rw [hrow] at hS1
     repeat' ((first|(apply y76 ok;rfl)|((apply z5)<;>intro _))<;>conv=>whnf)
     all_goals try (exfalso;omega)
     refine z65 (fun y:Nat×List Int×List Int=>([(0,lst 1 encL rows),(6,.sref 0 0 rows.length),(7,.sref 1 0 rows.length),(9,.sref 2 0 y.2.1.length),(11,.int i),(12,.int y.1)],[.cells 1 (y.2.2.map enI),.cells 1 ((mkB rows.length y.2.1).map enB),.cells 1 (y.2.1.map enI)])) (fun y=>visPs Q[i] (Q,P) (rows[Q[i].toNat].take y.1)=(y.2.1,y.2.2)∧y.1≤rows[Q[i].toNat].length) (fun y=>rows[Q[i].toNat].length - y.1) (0,Q,P) ⟨rfl,y46 _⟩ (by refine swR [0,1,2] [] rfl rfl ?_;(repeat' first|exact y78 _|exact z9 _|refine z10 rfl (z4 (fun _=>rfl)) ?_|constructor)) ?_
     rintro ⟨k,Q',P'⟩ ⟨hV,hk⟩
     dsimp only at hV hk ⊢
     obtain ⟨hJ',hi',hu⟩:=PJ.visPs (rows[Q[i].toNat].take k) hJ hi2 rfl (fun x hx=>hrin x (List.mem_of_mem_take hx))
     simp only [hV] at hJ' hi' hu
     have hQl':=z129 _ _ hJ'.nd hJ'.inn
     have hPl':=hJ'.len
     dsimp only at hQl' hPl'
     have hg:(Q'.map enI)[i]?=some (enI Q[i]):=by rw [y44,y38 hi',hu];rfl
     by_cases hk2:k < rows[Q[i].toNat].length
     ·have hx:=hrin rows[Q[i].toNat][k] (y37 _)
      have hv:=z372 (u:=Q[i]) (x:=(Q,P)) hk2
      rw [hV] at hv
      have hkk:(rows[Q[i].toNat].map enI)[k]?=some (enI rows[Q[i].toNat][k]):=by rw [y44,y38 hk2];rfl
      generalize Q[i]=u at *
      generalize rows[u.toNat][k]=v at *
      by_cases hn2:v∈Q'
      ·rw [z331 hn2] at hv
       repeat' ((first|(apply y76 ok;rfl)|(refine z12 (i:=i) rfl hg ?_)|(refine z12 (i:=k) rfl hkk ?_)|(refine z276 (enc:=enB) (v:=v) (by rfl) hx.1 hx.2 ?_)|(apply y36;first|omega|(unfold inI;omega)|((try dsimp only);simp only [y42,y41,y40,y39,y51,y52];omega)|exact ⟨rfl,z18 rfl z25⟩)|((first|(with_reducible apply z87;omega)|(apply z8;omega));intro _)|((first|apply z5|apply z40)<;>intro _))<;>conv=>whnf)
       all_goals first|(exfalso;omega)|(exfalso;contradiction)|skip
       all_goals refine z23 (k+1,Q',P') ⟨hv,hk2⟩ (by show rows[u.toNat].length - (k+1) < rows[u.toNat].length - k;omega) (by refine swR [0,1,2] [] rfl rfl ?_;(repeat' first|exact y78 _|exact z9 _|refine z10 rfl (z4 (fun _=>rfl)) ?_|constructor))
      ·rw [z332 hn2] at hv
       have hset:=z380 (enc:=enB) (S:=Q') (S':=Q'++[v]) rfl hx.1 hx.2 (fun x=>by simp)
       repeat' ((first|(apply y76 ok;rfl)|(refine z12 (i:=i) rfl hg ?_)|(refine z12 (i:=k) rfl hkk ?_)|(refine z276 (enc:=enB) (v:=v) (by rfl) hx.1 hx.2 ?_)|(apply y36;first|omega|(unfold inI;omega)|((try dsimp only);simp only [y42,y41,y40,y39,y51,y52];omega)|exact ⟨rfl,z18 rfl z25⟩)|((first|(with_reducible apply z87;omega)|(apply z8;omega));intro _)|((first|apply z5|apply z40)<;>intro _))<;>conv=>whnf)
       all_goals first|(exfalso;omega)|(exfalso;contradiction)|skip
       all_goals refine z23 (k+1,Q'++[v],P'.set v.toNat u) ⟨hv,hk2⟩ (by show rows[u.toNat].length - (k+1) < rows[u.toNat].length - k;omega) (by refine swR [0,1,4] [] rfl rfl ?_;(repeat' first|exact y78 _|(refine z34 ?_;((simp;done)))|((first|refine z27 rfl ?_ ?_|refine z41 rfl ?_ ?_);(focus ((repeat' (first|exact z4 (fun _=>rfl)|apply z17));done)))|refine z199 (by omega) ?_|(refine z69 ?_ ?_;(focus (omega)))|constructor)<;>(exact z26 hset))
     ·rw [y50 (by omega)] at hV
      rw [hV] at hS1
      repeat' ((first|(apply y76 ok;rfl)|(refine z12 (i:=i) rfl hg ?_)|(apply y36;first|omega|(unfold inI;omega))|((first|(with_reducible apply z8;omega)|(with_reducible apply z87;omega)|(apply z8;omega));intro _)|((first|apply z5|apply z93)<;>intro _))<;>conv=>whnf)
      all_goals try (exfalso;omega)
      all_goals refine z23 (i+1,Q',P') ⟨hS1,hi'⟩ (by show rows.length - (i+1) < rows.length - i;omega) (by refine swR [0,1,2] [] rfl rfl ?_;(repeat' first|exact y78 _|exact z9 _|refine z10 rfl (z4 (fun _=>rfl)) ?_|constructor))
    ·have hE:=z963 (rows:=rows) (ini:=ini) (i:=i) (by rw [hS];show Q.length≤i;omega) (by omega)
     rw [hS] at hE
     obtain ⟨e1,e2⟩:=Prod.mk.inj hE
     rw [← e1,← e2]
     repeat' ((first|(apply y76 ok;rfl)|((apply z5)<;>intro _))<;>conv=>whnf)
     all_goals try (exfalso;omega)
     all_goals (refine rsD [0,2] [] rfl ?_;(repeat' first|exact y78 _|exact z9 _|(refine z34 ?_;(omega))|refine z10 rfl (z4 (fun _=>rfl)) ?_|apply z88|constructor))
theorem z775 (rows:List (List Int)) (ini:List Int) (hr:∀ r∈rows,InN rows.length r) (hi:InN rows.length ini) (hn:ini.Nodup) (hN:rows.length≤100000) (hrl:∀ r∈rows,r.length≤1000000000):CallsA Tryz.prog 148 [lst 1 encL rows,ints ini] [] (.tup [ints (srP rows ini),ints (srQ rows ini)]) [] :=
 (z411 rows ini hr hi hn hN hrl).lend [] [0,1] rfl rfl rfl (bor_tup (z54 (z116 rfl rfl rfl) (z54 (z116 rfl rfl rfl) z78))) z55
theorem rowAt {rows:List (List Int)} {v:Int} (hv:0≤v∧v < rows.length):(rows.map encL)[v.toNat]?=some (encL (rows.getD v.toNat [])):=by
 rw [y44,y38 (by omega),z20 (by omega)];rfl
theorem rowLen {rows:List (List Int)} {M:Nat} (hrl:∀ r∈rows,r.length≤M) (v:Int):(rows.getD v.toNat []).length≤M:=by
 by_cases h:v.toNat < rows.length
 ·rw [z20 h];exact hrl _ (y37 _)
 ·rw [y60,y61 (by omega)];exact y46 _
set_option maxHeartbeats 3200000 in
theorem z896 (rows:List (List Int)) (v:Int) (hr:∀ r∈rows,InN rows.length r) (hv:0≤v∧v < rows.length) (hN:rows.length≤100000) (hrl:∀ r∈rows,r.length≤1000000000):CallsA Tryz.prog 149 [lst 1 encL rows,.int v] [] (ints (cycL rows v)) []:=by
 have hg:=rowAt hv
 have hl:=fun w=>rowLen hrl w
 have c1:=z609 (rows.getD v.toNat []) (by have:=hl v;unfold maxLen;omega) v
 have hlv:=hl v
 have c2:=z411 rows [v] hr (z314 hv) (by simp) hN hrl
 have hQ:=z655 hr (z314 hv) (by simp)
 have hB:=z821 hr (z314 hv) (by simp)
 have hPl:=z966 hr (z314 hv) (by simp)
 have hQl:=z747 hr (z314 hv) (by simp)
 have c3:=fun k hk=>z683 (srP rows [v]) (by omega) rows.length _ (hB k hk) (by omega)
 unfold cycL
 by_cases h:v∈rows.getD v.toNat []
 ·rw [if_pos h]
  rw [y73 h] at c1
  generalize rows.getD v.toNat []=r0 at *
  refine z7 z16 Tryz.func149 rfl rfl 45 Tryz.ntmps149 (by simp) ?_
  repeat' ((first|(apply y76 ok;rfl)|(refine z12 (i:=v.toNat) (by simp) hg ?_)|(apply y36;omega)|(apply z6 (c1);rfl;rfl))<;>conv=>whnf)
  all_goals (refine rsD [] [0] rfl ?_;(repeat' first|exact y78 _|constructor))
 ·rw [if_neg h]
  rw [y74 h] at c1
  generalize hr0:rows.getD v.toNat []=r0 at hg c1 hlv
  generalize srQ rows [v]=Q at *
  generalize srP rows [v]=P at *
  generalize hR:cycT rows P v Q=R
  refine z7 z16 Tryz.func149 rfl rfl 45 Tryz.ntmps149 (by simp) ?_
  repeat' ((first|(apply y76 ok;rfl)|(refine z12 (i:=v.toNat) (by simp) hg ?_)|(apply y36;omega)|(apply z6 (c1);rfl;rfl)|(apply z99 [] [0] [1,2] c2;(focus ((repeat' first|exact z78|apply z54)<;>rfl));rfl;rfl;(focus ((repeat' first|exact z15|apply z14)<;>(refine z21 ?_;((exact z4 fun _=>rfl)))));((refine .inr ⟨rfl,?_⟩;repeat' first|exact True.intro|apply y36|exact z185 (fun _=>rfl) _))))<;>conv=>whnf)
  refine z65 (fun i:Nat=>([(0,lst 1 encL rows),(1,.int v),(5,ints P),(6,ints Q),(7,.int i)],[])) (fun i=>i≤Q.length∧cycT rows P v (Q.drop i)=R) (fun i=>Q.length - i) 0 ⟨y46 _,hR⟩ (by refine swR [] [1,2] rfl rfl ?_;(repeat' first|exact y78 _|((apply z45 rfl rfl rfl);(focus ((repeat ((exact z37 (fun _=>rfl) _)));done));(focus (((simp;done));done)))|constructor)) ?_
  rintro i ⟨hi1,hi2⟩
  by_cases hi3:i < Q.length
  ·have hq:=hQ _ (y37 hi3)
   have hgq:=rowAt hq
   have c4:=z609 (rows.getD Q[i].toNat []) (by have:=hl Q[i];unfold maxLen;omega) v
   have hlq:=hl Q[i]
   have c5:=c3 i hi3
   rw [y71 hi3,cycT] at hi2
   have hgi:(Q.map enI)[i]?=some (enI Q[i]):=by rw [y44,y38 hi3];rfl
   generalize Q[i]=u at *
   by_cases hm:v∈rows.getD u.toNat []
   ·rw [if_pos hm] at hi2
    rw [y73 hm] at c4
    subst hi2
    generalize rows.getD u.toNat []=r1 at *
    repeat' ((first|(apply y76 ok;rfl)|(refine z12 (i:=u.toNat) (by simp) hgq ?_)|(refine z12 (i:=i) (by simp) hgi ?_)|(apply y36;omega)|((apply z5)<;>intro _)|(apply z6 (c4);rfl;rfl)|(apply z6 (c5);rfl;rfl))<;>conv=>whnf)
    all_goals try (exfalso;omega)
    all_goals (refine rsD [] [] rfl ?_;(repeat' first|exact y78 _|constructor))
   ·rw [if_neg hm] at hi2
    rw [y74 hm] at c4
    generalize rows.getD u.toNat []=r1 at *
    repeat' ((first|(apply y76 ok;rfl)|(refine z12 (i:=u.toNat) (by simp) hgq ?_)|(refine z12 (i:=i) (by simp) hgi ?_)|(apply y36;first|omega|(unfold inI;omega))|((apply z5)<;>intro _)|(apply z6 (c4);rfl;rfl))<;>conv=>whnf)
    all_goals try (exfalso;omega)
    all_goals refine z23 (i+1) ⟨hi3,hi2⟩ (by omega) (by refine swR [] [] rfl rfl ?_;(repeat' first|exact y78 _|constructor))
  ·have e:Q.length=i:=by omega
   subst e
   rw [List.drop_length,cycT] at hi2
   subst hi2
   repeat' ((first|(apply y76 ok;rfl)|(apply y36;omega)|((first|(with_reducible apply z8;omega)|(with_reducible apply z87;omega));intro _)|((apply z5)<;>intro _))<;>conv=>whnf)
   all_goals try (exfalso;omega)
   all_goals (refine rsD [] [0] rfl ?_;(repeat' first|exact y78 _|constructor))
theorem z487 (l:List Int) (n:Nat) (hl:l.length≤1000000) (hn:1≤n) (h0:∀ x∈l,0≤x) (h1:∀ x∈l,x≤1000000000):CallsA Tryz.prog 151 [ints l,.int n] [] (.sref 0 0 l.length) [.cells 1 ((stL l n).map enI)]:=by
 refine z7 z16 Tryz.func151 rfl rfl 24 Tryz.ntmps151 (by simp) ?_
 repeat' (((apply y76 ok;rfl))<;>conv=>whnf)
 refine z65 (fun x:Nat×List Int=>([(0,ints l),(1,.int n),(5,.sref 0 0 x.2.length),(6,.int x.1)],[.cells 1 (x.2.map enI)])) (fun x=>x.1≤l.length∧x.2.length=x.1∧x.2=stL (l.take x.1) n) (fun x=>l.length - x.1) (0,[]) ⟨y46 _,rfl,rfl⟩ (by refine swR [0] [] rfl rfl ?_;(repeat' first|exact y78 _|refine z10 rfl (z32) ?_|constructor)) ?_
 rintro ⟨i,F⟩ ⟨hi1,hF1,hF2⟩
 dsimp only at hi1 hF1 hF2 ⊢
 by_cases hi2:i < l.length
 ·have a0:=h0 _ (y37 hi2)
  have a1:=h1 _ (y37 hi2)
  have a2:0≤l[i] / (n:Int):=Int.ediv_nonneg a0 (by omega)
  have a3:l[i] / (n:Int)≤l[i]:=Int.ediv_le_self _ a0
  have hF3:stL (l.take (i+1)) n=F++[l[i] / n]:=by rw [hF2,stL,y43 hi2,y56];rfl
  repeat' ((first|(apply y76 ok;rfl)|(apply y36;first|omega|(unfold inI;omega)|((try dsimp only);simp only [y42,y41,y40,y39,y51,y52];omega)|exact ⟨rfl,z18 rfl z25⟩)|(((with_reducible apply z8;omega));intro _)|((apply z5)<;>intro _))<;>conv=>whnf)
  all_goals try (exfalso;omega)
  all_goals refine z23 (i+1,F++[l[i] / n]) ⟨hi2,by rw [y40,hF1];rfl,hF3.symm⟩ (by show l.length - (i+1) < l.length - i;omega) (by refine swR [2] [] rfl rfl ?_;(repeat' first|exact y78 _|(refine z34 ?_;((simp;done)))|((refine z27 rfl ?_ ?_);(focus ((repeat' (first|exact z4 (fun _=>rfl)|apply z17));done)))|(refine z69 ?_ ?_;(focus (omega)))|constructor))
 ·have e:l.length=i:=by omega
  subst e
  rw [y49] at hF2
  subst hF2
  repeat' ((first|(apply y76 ok;rfl)|(apply y36;omega)|(((with_reducible apply z8;omega));intro _)|((apply z5)<;>intro _))<;>conv=>whnf)
  all_goals try (exfalso;omega)
  all_goals (refine rsD [0] [] rfl ?_;(repeat' first|exact z9 _|(refine z34 ?_;(omega))|refine z10 rfl (z4 (fun _=>rfl)) ?_|constructor))
theorem IniP.nd {l:List Int} {n:Int} (h:IniP l n l.length):l.Nodup:=by
 have hs:∀ d i (hi:i+d+1 < l.length),l[i] < l[i+d+1]:=by
  intro d
  induction d with
  |zero=>intro i hi;exact (h (i+1) hi hi).2 i rfl
  |succ d ih =>
   intro i hi
   have h1:=ih i (by omega)
   have h2:=(h (i+(d+1)+1) hi hi).2 (i+d+1) (by omega)
   omega
 rw [List.nodup_iff_pairwise_ne,List.pairwise_iff_getElem]
 intro i j hi hj hij
 have:=hs (j - i - 1) i (by omega)
 have e:i+(j - i - 1)+1=j:=by omega
 simp only [e] at this
 omega
noncomputable def trcO (g:Graph) (ls:List Int) (a:Aut):Option (List Int×List Int):=(finS (z38 g ls a) a.ini a.acc).map fun x=>(stL (x.1.take (x.1.length - 1)) a.acc.length,stL x.2 a.acc.length)
noncomputable def trcL (g:Graph) (ls:List Int) (a:Aut):List Int×List Int:=(trcO g ls a).getD ([],[])
set_option maxHeartbeats 6400000 in
theorem z1026 (g:Graph) (hG:GB g) (ls:List Int) (hls:ls.length=g.st.length) (hlr:∀ x∈ls,0≤x∧x≤7) (a:Aut) (hA:AutP a):CallsA Tryz.prog 74 [.agg g.cs,ints ls,.agg a.cs] [] (.tup [.agg [ints (trcL g ls a).1,ints (trcL g ls a).2],.bool (trcO g ls a).isSome]) []:=by
 have k2:=z412 g hG ls hls hlr a hA
 obtain ⟨f1,f2,f3,f4,f5⟩:=z221 hG hA ls
 have hlen:(z38 g ls a).length=g.st.length * a.acc.length:=by unfold z38;rw [z85,Nat.mul_comm]
 have hnd:=hA.2.2.1.nd
 have hac:=hA.1
 unfold trcL trcO finS
 generalize z38 g ls a=rows at *
 have k3:=z775 rows a.ini f1 f2 hnd (by omega) f4
 have hQ:=z655 f1 f2 hnd
 have hB:=z821 f1 f2 hnd
 have hPl:=z966 f1 f2 hnd
 have hQl:=z747 f1 f2 hnd
 have hPle:=z962 f1 f2 hnd rows.length
 have k4:=fun v hv=>z896 rows v f1 hv (by omega) f4
 have k5:=fun k hk=>z683 (srP rows a.ini) (by omega) rows.length _ (hB k hk) (by omega)
 have n4:=fun v hv=>z1064 f1 (v:=v) hv
 have m4:=fun v hv=>z1065 f1 (v:=v) hv
 change ∀ y∈srP rows a.ini,y≤(rows.length:Int) at hPle
 generalize srQ rows a.ini=Q at *
 generalize srP rows a.ini=P at *
 generalize hR:finT rows a.acc P Q=R
 refine z7 z16 Tryz.func74 rfl rfl 72 Tryz.ntmps74 (by simp) ?_
 repeat' ((first|(apply y76 ok;rfl)|(apply z6 (k2);rfl;rfl)|(apply z6 (k3);rfl;rfl))<;>conv=>whnf)
 refine z65 (fun i:Nat=>([(5,.ptr 0 none 0),(6,.ptr 1 none 0),(8,.int a.acc.length),(9,lst 1 encL rows),(10,ints P),(11,ints Q),(12,.int i)],[.cells 3 [a.cs],.cells 2 [[.nils,.nils]]])) (fun i=>i≤Q.length∧finT rows a.acc P (Q.drop i)=R) (fun i=>Q.length - i) 0 ⟨y46 _,hR⟩ (by refine swR [1,2] [] rfl rfl ?_;(repeat' first|exact y78 _|apply y79|constructor)) ?_
 rintro i ⟨hi1,hi2⟩
 by_cases hi3:i < Q.length
 ·have hq:=hQ _ (y37 hi3)
  have c5:=k5 i hi3
  rw [y71 hi3,finT] at hi2
  have hgi:(Q.map enI)[i]?=some (enI Q[i]):=by rw [y44,y38 hi3];rfl
  generalize Q[i]=u at *
  have hm0:0≤u % (a.acc.length:Int):=Int.emod_nonneg _ (by omega)
  have hm1:u % (a.acc.length:Int) < a.acc.length:=Int.emod_lt_of_pos _ (by omega)
  have hga:(a.acc.map enB)[(u % (a.acc.length:Int)).toNat]?=some (enB (a.acc.getD (u % (a.acc.length:Int)).toNat false)):=by
   rw [y44,y38 (by omega),z20 (by omega)];rfl
  have c4:=k4 u hq
  have l4:=z623 rows u
  have b1:=z509 P rows.length u []
  simp only [y52,Nat.add_zero] at b1
  have b2:=z508 P rows.length u []
  have b3:=z855 (P:=P) rows.length u [] hq.1 (fun x hx=>by cases hx)
  have b4:=z856 hPle rows.length u [] (by omega) (by omega) (fun x hx=>by cases hx)
  have n5:=n4 u hq
  have m5:=m4 u hq
  generalize bkw P rows.length u []=b at *
  generalize cycL rows u=c at *
  have c6:=z487 (b.take (b.length - 1)) a.acc.length (by rw [y41];omega) (by omega) (fun x hx=>b3 x (List.mem_of_mem_take hx)) (fun x hx=>by have:=b4 x (List.mem_of_mem_take hx);omega)
  rw [show (b.take (b.length - 1)).length=b.length - 1 by rw [y41];omega] at c6
  have eL:AC.list 1 (((b.length:Int) - 1).toNat - Int.toNat 0) (List.take (((b.length:Int) - 1).toNat - Int.toNat 0) (List.drop (Int.toNat 0) (List.map enI b)))=ints (b.take (b.length - 1)):=by
   rw [show ((b.length:Int) - 1).toNat - Int.toNat 0=b.length - 1 by rw [show Int.toNat 0=0 from rfl];omega]
   show _=AC.list 1 (b.take (b.length - 1)).length ((b.take (b.length - 1)).map enI)
   rw [show (b.take (b.length - 1)).length=b.length - 1 by rw [y41];omega,List.map_take];rfl
  rw [← eL] at c6
  have hs1:(stL (b.take (b.length - 1)) a.acc.length).length=b.length - 1:=by rw [stL,y42,y41];omega
  have hs2:(stL c a.acc.length).length=c.length:=by rw [stL,y42]
  have c7:=z487 c a.acc.length (by omega) (by omega) n5 (fun x hx=>by have:=m5 x hx;omega)
  generalize a.acc.getD (u % (a.acc.length:Int)).toNat false=z at *
  cases z
  ·rw [if_neg (by simp)] at hi2
   repeat' ((first|(apply y76 ok;rfl)|(apply z31;kernel_rfl)|(refine z12 (i:=i) (by simp) hgi ?_)|(refine z12 (i:=(u % (a.acc.length:Int)).toNat) (by simp) hga ?_)|(apply y36;first|omega|(unfold inI;omega))|((apply z5)<;>intro _))<;>conv=>whnf)
   all_goals try (exfalso;omega)
   all_goals refine z23 (i+1) ⟨hi3,hi2⟩ (by omega) (by refine swR [0,1] [] rfl rfl ?_;(repeat' first|exact y78 _|apply y79|constructor))
  ·rw [if_pos rfl] at hi2
   by_cases hc:0 < c.length
   ·rw [if_pos hc] at hi2
    subst hi2
    repeat' ((first|(apply y76 ok;rfl)|(apply z31;kernel_rfl)|(refine z12 (i:=i) (by simp) hgi ?_)|(refine z12 (i:=(u % (a.acc.length:Int)).toNat) (by simp) hga ?_)|(apply y36;first|omega|(unfold inI;omega))|((apply z5)<;>intro _)|(apply z6 (c4);rfl;rfl)|(apply z6 (c5);rfl;rfl)|((first|(apply z11 [] [2] c6;rfl;rfl)|(apply z11 [] [3] c7;rfl;rfl));rfl;(focus ((repeat' first|exact z15|apply z14)<;>(refine z21 ?_;((exact z4 fun _=>rfl)))))))<;>conv=>whnf)
    all_goals try (exfalso;omega)
    all_goals (refine rsD [] [2,3] rfl ?_;(repeat' first|exact y78 _|(refine z270 ?_;omega)|((apply z45 rfl rfl rfl);(focus ((repeat ((exact z37 (fun _=>rfl) _)));done));(focus (((simp;omega));done)))|apply z42|apply z88|constructor))
   ·rw [if_neg hc] at hi2
    repeat' ((first|(apply y76 ok;rfl)|(apply z31;kernel_rfl)|(refine z12 (i:=i) (by simp) hgi ?_)|(refine z12 (i:=(u % (a.acc.length:Int)).toNat) (by simp) hga ?_)|(apply y36;first|omega|(unfold inI;omega))|((apply z5)<;>intro _)|(apply z6 (c4);rfl;rfl)|(apply z6 (c5);rfl;rfl))<;>conv=>whnf)
    all_goals try (exfalso;omega)
    all_goals refine z23 (i+1) ⟨hi3,hi2⟩ (by omega) (by refine swR [0,1] [] rfl rfl ?_;(repeat' first|exact y78 _|apply y79|constructor))
 ·have e:Q.length=i:=by omega
  subst e
  rw [List.drop_length,finT] at hi2
  subst hi2
  repeat' ((first|(apply y76 ok;rfl)|(apply z31;kernel_rfl)|(apply y36;omega)|((first|(with_reducible apply z8;omega)|(with_reducible apply z87;omega));intro _)|((first|apply z5|apply z107)<;>intro _))<;>conv=>whnf)
  all_goals try (exfalso;omega)
  all_goals (refine rsD [] [] rfl ?_;(repeat' first|exact y78 _|exact z52|apply z42|apply z88|constructor))
set_option maxHeartbeats 3200000 in
theorem z1025 (R row:List Int) (z:Bool) {M:Int} (hB:Bd M R) (hM:0≤M) (hM2:M≤1000000000) (hr:InN R.length row) (hRl:R.length≤100000) (hrl:row.length≤1000000000):CallsA Tryz.prog 171 [ints row,ints R,.bool z] [] (.int (rkOf R z row)) []:=by
 refine z7 z16 Tryz.func171 rfl rfl 31 Tryz.ntmps171 (by simp) ?_
 repeat' (((apply y76 ok;rfl))<;>conv=>whnf)
 refine z65 (fun i:Nat=>([(0,ints row),(1,ints R),(2,.bool z),(7,.int ((row.take i).foldl (z218 R z) 0)),(8,.int i)],[])) (fun i=>i≤row.length) (fun i=>row.length - i) 0 (y46 _) (by refine swR [] [] rfl rfl ?_;(repeat' first|exact y78 _|constructor)) ?_
 intro i hi
 by_cases hi2:i < row.length
 ·have hx:=hr _ (y37 hi2)
  have hb:=hB.getD hM row[i].toNat
  have ho:=z468 hB hM (z:=z) (row.take i) 0 ⟨by omega,by omega⟩
  have hs:(row.take (i+1)).foldl (z218 R z) 0=z218 R z ((row.take i).foldl (z218 R z) 0) row[i]:=by rw [y43 hi2,y55];rfl
  have hg:(row.map enI)[i]?=some (enI row[i]):=by rw [y44,y38 hi2];rfl
  have hg2:(R.map enI)[row[i].toNat]?=some (enI (R.getD row[i].toNat 0)):=by rw [y44,y38 (by omega),z20 (by omega)];rfl
  generalize (row.take i).foldl (z218 R z) 0=o at *
  generalize row[i]=v at *
  rw [show z218 R z o v=(if o < R.getD v.toNat 0+(if z=true then 1 else 0) then R.getD v.toNat 0+(if z=true then 1 else 0) else o) from rfl] at hs
  generalize R.getD v.toNat 0=r at *
  cases z
  ·simp only [if_neg (show ¬ false=true by simp),Int.add_zero] at hs
   by_cases hlt:o < r
   ·rw [if_pos hlt] at hs
    repeat' ((first|(apply y76 ok;rfl)|(refine z12 (i:=i) (by simp) hg ?_)|(refine z12 (i:=v.toNat) (by simp) hg2 ?_)|(apply y36;first|omega|(unfold inI;omega))|((apply z5)<;>intro _))<;>conv=>whnf)
    all_goals try (exfalso;omega)
    all_goals refine z23 (i+1) hi2 (by omega) (by refine swR [] [] rfl rfl ?_;(repeat' first|exact y78 _|(refine z101 ?_;omega)|constructor)<;>((rw [hs];exact y78 _)))
   ·rw [if_neg hlt] at hs
    repeat' ((first|(apply y76 ok;rfl)|(refine z12 (i:=i) (by simp) hg ?_)|(refine z12 (i:=v.toNat) (by simp) hg2 ?_)|(apply y36;first|omega|(unfold inI;omega))|((apply z5)<;>intro _))<;>conv=>whnf)
    all_goals try (exfalso;omega)
    all_goals refine z23 (i+1) hi2 (by omega) (by refine swR [] [] rfl rfl ?_;(repeat' first|exact y78 _|(refine z101 ?_;omega)|constructor)<;>((rw [hs];exact y78 _)))
  ·simp only [if_pos] at hs
   by_cases hlt:o < r+1
   ·rw [if_pos hlt] at hs
    repeat' ((first|(apply y76 ok;rfl)|(refine z12 (i:=i) (by simp) hg ?_)|(refine z12 (i:=v.toNat) (by simp) hg2 ?_)|(apply y36;first|omega|(unfold inI;omega))|((apply z5)<;>intro _))<;>conv=>whnf)
    all_goals try (exfalso;omega)
    all_goals refine z23 (i+1) hi2 (by omega) (by refine swR [] [] rfl rfl ?_;(repeat' first|exact y78 _|(refine z101 ?_;omega)|constructor)<;>((rw [hs];exact y78 _)))
   ·rw [if_neg hlt] at hs
    repeat' ((first|(apply y76 ok;rfl)|(refine z12 (i:=i) (by simp) hg ?_)|(refine z12 (i:=v.toNat) (by simp) hg2 ?_)|(apply y36;first|omega|(unfold inI;omega))|((apply z5)<;>intro _))<;>conv=>whnf)
    all_goals try (exfalso;omega)
    all_goals refine z23 (i+1) hi2 (by omega) (by refine swR [] [] rfl rfl ?_;(repeat' first|exact y78 _|(refine z101 ?_;omega)|constructor)<;>((rw [hs];exact y78 _)))
 ·have e:row.length=i:=by omega
  subst e
  rw [y49]
  repeat' ((first|(apply y76 ok;rfl)|(apply y36;omega)|((first|(with_reducible apply z8;omega)|(with_reducible apply z87;omega));intro _)|((first|apply z5|apply z107)<;>intro _))<;>conv=>whnf)
  all_goals try (exfalso;omega)
  all_goals (refine rsD [] [] rfl ?_;(repeat' first|exact y78 _|constructor))
set_option maxHeartbeats 12800000 in
theorem z895 (rows:List (List Int)) (a:Aut) (hr:∀ r∈rows,InN rows.length r) (hi:InN rows.length a.ini) (hac:1≤a.acc.length∧a.acc.length≤64) (hN:rows.length≤3840) (hrl:∀ r∈rows,r.length≤1000000000) (hil:a.ini.length≤1048576):CallsA Tryz.prog 102 [lst 1 encL rows,.agg a.cs] [] (.sref 0 0 rows.length) [.cells 1 ((z531 rows a.ini a.acc).map enI)]:=by
 have c1:=z897 rows a.ini hr hi (by omega) hrl hil
 have hQn:=z398 hr hi rows.length
 have hQi:=z368 hr hi rows.length
 change (bfsL rows a.ini).length≤rows.length at hQn
 change InN rows.length (bfsL rows a.ini) at hQi
 have hml:=z484 rows a.ini a.acc
 unfold z531 at *
 generalize bfsL rows a.ini=nodes at *
 refine z7 z16 Tryz.func102 rfl rfl 89 Tryz.ntmps102 (by simp) ?_
 repeat' ((first|(apply y76 ok;rfl)|(apply z6 (c1);rfl;rfl))<;>conv=>whnf)
 refine z65 (fun x:Nat×List Int=>([(0,lst 1 encL rows),(3,.ptr 0 none 0),(5,.int a.acc.length),(6,ints nodes),(7,.sref 1 0 x.2.length),(8,.int x.1)],[.cells 3 [a.cs],.cells 1 (x.2.map enI)])) (fun x=>x.1≤rows.length∧x.2.length=x.1∧x.2=z792 x.1) (fun x=>rows.length - x.1) (0,[]) ⟨y46 _,rfl,rfl⟩ (by refine swR [0,1] [] rfl rfl ?_;(repeat' first|exact y78 _|apply y79|refine z10 rfl (z32) ?_|constructor)) ?_
 rintro ⟨i,F⟩ ⟨hF1,hFl,hF2⟩
 dsimp only at hF1 hFl hF2 ⊢
 by_cases hi2:i < rows.length
 ·repeat' ((first|(apply y76 ok;rfl)|(apply y36;first|(unfold inI;omega)|((try dsimp only);simp only [y42,y41,y40,y39,y51,y52];omega)|exact ⟨rfl,z18 rfl z25⟩)|((apply z5)<;>intro _))<;>conv=>whnf)
  all_goals try (exfalso;omega)
  all_goals refine z23 (i+1,F++[-1]) ⟨hi2,by rw [y40,hFl];rfl,by show _=z792 (i+1);rw [z558,← hF2]⟩ (by show rows.length - (i+1) < _;omega) (by refine swR [0,3] [] rfl rfl ?_;(repeat' first|exact y78 _|(refine z34 ?_;((simp;done)))|apply y79|((refine z27 rfl ?_ ?_);(focus ((repeat' (first|exact z4 (fun _=>rfl)|apply z17));done)))|(refine z69 ?_ ?_;(focus (omega)))|constructor))
 have e:rows.length=i:=by omega
 have hz0:z370 rows.length (nodes.take 0)=F:=by rw [hF2,← e];rfl
 subst e
 clear hF1 hF2 hi2
 repeat' ((first|(apply y76 ok;rfl)|(apply y36;omega)|((apply z5)<;>intro _))<;>conv=>whnf)
 all_goals try (exfalso;omega)
 refine z65 (fun x:Nat×List Int=>([(0,lst 1 encL rows),(3,.ptr 0 none 0),(5,.int a.acc.length),(6,ints nodes),(7,.sref 1 0 x.2.length),(9,.int x.1)],[.cells 3 [a.cs],.cells 1 (x.2.map enI)])) (fun x=>x.1≤nodes.length∧z370 rows.length (nodes.take x.1)=x.2) (fun x=>nodes.length - x.1) (0,F) ⟨y46 _,hz0⟩ (by refine swR [0,1] [] rfl rfl ?_;(repeat' first|exact y78 _|exact z9 _|apply y79|refine z10 rfl (z4 (fun _=>rfl)) ?_|constructor)) ?_
 clear hz0 hFl F
 rintro ⟨i,R⟩ ⟨hi1,hR⟩
 dsimp only at hi1 hR ⊢
 have hRl:=z443 rows.length (nodes.take i)
 rw [hR] at hRl
 by_cases hi2:i < nodes.length
 ·have hx:=hQi _ (y37 hi2)
  have hs:=z864 (N:=rows.length) hi2
  rw [hR] at hs
  repeat' ((first|(apply y76 ok;rfl)|(apply y36;first|omega|(unfold inI;omega))|((first|(with_reducible apply z8;omega)|(apply z8;omega));intro _)|((apply z5)<;>intro _))<;>conv=>whnf)
  all_goals try (exfalso;omega)
  all_goals refine z23 (i+1,R.set nodes[i].toNat 0) ⟨hi2,hs⟩ (by show nodes.length - (i+1) < _;omega) (by refine swR [0,1] [] rfl rfl ?_;(repeat' first|exact y78 _|(refine z34 ?_;((simp;done)))|apply y79|refine z41 rfl (z4 (fun _=>rfl)) ?_|refine z199 (by omega) ?_|constructor))
 have e:nodes.length=i:=by omega
 subst e
 rw [y49] at hR
 have hbd:=zeroR_bd rows.length nodes
 rw [hR] at hbd hml ⊢
 clear hi2 hi1 hR
 generalize hRR:z143 rows a.acc nodes (nodes.length+2) R true=RR at *
 have hrevl:nodes.reverse.length=nodes.length:=List.length_reverse
 repeat' ((first|(apply y76 ok;rfl)|(apply y36;omega)|((first|(with_reducible apply z8;omega)|(apply z8;omega));intro _)|((apply z5)<;>intro _))<;>conv=>whnf)
 all_goals try (exfalso;omega)
 refine z65 (fun x:Nat×List Int×Bool=>([(0,lst 1 encL rows),(3,.ptr 0 none 0),(5,.int a.acc.length),(6,ints nodes),(7,.sref 1 0 x.2.1.length),(10,.bool x.2.2),(11,.int x.1)],[.cells 3 [a.cs],.cells 1 (x.2.1.map enI)])) (fun x=>x.1≤nodes.length+2∧x.2.1.length=rows.length∧Bd (4000 * x.1) x.2.1∧z143 rows a.acc nodes (nodes.length+2 - x.1) x.2.1 x.2.2=RR) (fun x=>nodes.length+2 - x.1) (0,R,true) ⟨y46 _,hRl,hbd,hRR⟩ (by refine swR [0,1] [] rfl rfl ?_;(repeat' first|exact y78 _|exact z9 _|apply y79|refine z10 rfl (z4 (fun _=>rfl)) ?_|constructor)) ?_
 clear hRR hbd hRl R
 rintro ⟨r,R,ch⟩ ⟨hr1,hRl,hbd,hRR⟩
 dsimp only at hr1 hRl hbd hRR ⊢
 have hend:∀ f,z143 rows a.acc nodes f R false=R:=fun f=>by cases f<;>rfl
 cases ch
 ·rw [hend] at hRR
  subst hRR
  repeat' (((apply y76 ok;rfl))<;>conv=>whnf)
  all_goals (refine rsD [1] [] rfl ?_;(repeat' first|exact z9 _|(refine z34 ?_;(omega))|refine z10 rfl (z4 (fun _=>rfl)) ?_|constructor))
 by_cases hr2:r≤nodes.length+1
 ·rw [show nodes.length+2 - r=(nodes.length+1 - r)+1 by omega,z143,if_pos rfl] at hRR
  repeat' ((first|(apply y76 ok;rfl)|(apply y36;(unfold inI;omega))|((apply z5)<;>intro _))<;>conv=>whnf)
  all_goals try (exfalso;omega)
  refine z65 (fun y:Nat×List Int×Bool=>([(0,lst 1 encL rows),(3,.ptr 0 none 0),(5,.int a.acc.length),(6,ints nodes),(7,.sref 1 0 y.2.1.length),(10,.bool y.2.2),(11,.int r),(12,.int ((nodes.length:Int) - 1 - y.1))],[.cells 3 [a.cs],.cells 1 (y.2.1.map enI)])) (fun y=>y.1≤nodes.length∧(nodes.reverse.take y.1).foldl (z257 rows a.acc) (R,false)=(y.2.1,y.2.2)) (fun y=>nodes.length - y.1) (0,R,false) ⟨y46 _,rfl⟩ (by refine swR [0,1] [] rfl rfl ?_;(repeat' first|exact y78 _|exact z9 _|(refine z101 ?_;omega)|apply y79|refine z10 rfl (z4 (fun _=>rfl)) ?_|constructor)) ?_
  rintro ⟨k,R',c'⟩ ⟨hk,hV⟩
  dsimp only at hk hV ⊢
  have hb':=z998 (rows:=rows) (acc:=a.acc) (nodes.reverse.take k) (R,false) hbd (by omega)
  have hl':=z429 (rows:=rows) (acc:=a.acc) (nodes.reverse.take k) (R,false)
  rw [hV] at hb' hl'
  rw [show (nodes.reverse.take k).length=k by rw [y41];omega] at hb'
  dsimp only at hb' hl'
  rw [hRl] at hl'
  by_cases hk2:k < nodes.length
  ·have hkr:k < nodes.reverse.length:=by omega
   have hn2:nodes.length - 1 - k < nodes.length:=by omega
   have hrev:nodes.reverse[k]=nodes[nodes.length - 1 - k]:=by rw [List.getElem_reverse]
   have hs:(nodes.reverse.take (k+1)).foldl (z257 rows a.acc) (R,false)=z257 rows a.acc (R',c') nodes[nodes.length - 1 - k]:=by
    rw [y43 hkr,y55,hV,hrev];rfl
   have hu:=hQi _ (y37 hn2)
   have hgn:(nodes.map enI)[nodes.length - 1 - k]?=some (enI nodes[nodes.length - 1 - k]):=by rw [y44,y38 hn2];rfl
   generalize nodes[nodes.length - 1 - k]=u at *
   have hgr:=rowAt hu
   have hm0:0≤u % (a.acc.length:Int):=Int.emod_nonneg _ (by omega)
   have hm1:u % (a.acc.length:Int) < a.acc.length:=Int.emod_lt_of_pos _ (by omega)
   have hga:(a.acc.map enB)[(u % (a.acc.length:Int)).toNat]?=some (enB (a.acc.getD (u % (a.acc.length:Int)).toNat false)):=by
    rw [y44,y38 (by omega),z20 (by omega)];rfl
   have hgR:(R'.map enI)[u.toNat]?=some (enI (R'.getD u.toNat 0)):=by rw [y44,y38 (by omega),z20 (by omega)];rfl
   have hrow:InN R'.length (rows.getD u.toNat []):=by rw [hl'];exact z197 hr u
   have hrowl:=rowLen hrl u
   have hbg:=hb'.getD (by omega) u.toNat
   have c5:=z1025 R' (rows.getD u.toNat []) (a.acc.getD (u % (a.acc.length:Int)).toNat false) hb' (by omega) (by omega) hrow (by omega) hrowl
   have hrk:=z990 hb' (by omega) (a.acc.getD (u % (a.acc.length:Int)).toNat false) (rows.getD u.toNat [])
   rw [show z257 rows a.acc (R',c') u=(if R'.getD u.toNat 0 < rkOf R' (a.acc.getD (u % (a.acc.length:Int)).toNat false) (rows.getD u.toNat []) then (R'.set u.toNat (rkOf R' (a.acc.getD (u % (a.acc.length:Int)).toNat false) (rows.getD u.toNat [])),true) else (R',c')) from rfl] at hs
   generalize rkOf R' (a.acc.getD (u % (a.acc.length:Int)).toNat false) (rows.getD u.toNat [])=w at *
   generalize a.acc.getD (u % (a.acc.length:Int)).toNat false=z at *
   generalize rows.getD u.toNat []=row at *
   by_cases hlt:R'.getD u.toNat 0 < w
   ·rw [if_pos hlt] at hs
    generalize R'.getD u.toNat 0=y at *
    repeat' ((first|(apply y76 ok;rfl)|(refine z12 (i:=nodes.length - 1 - k) (by omega) hgn ?_)|(refine z12 (i:=u.toNat) (by simp) hgr ?_)|(refine z12 (i:=u.toNat) (by simp) hgR ?_)|(refine z12 (i:=(u % (a.acc.length:Int)).toNat) (by simp) hga ?_)|(apply y36;first|omega|(unfold inI;omega))|((apply z5)<;>intro _)|(apply z99 [] [1] [] c5;(focus ((repeat' first|exact z78|apply z54)<;>first|exact z116 rfl rfl rfl|rfl));rfl;rfl;(focus ((repeat' exact z15)<;>fail));((refine .inr ⟨rfl,?_⟩;repeat' first|exact True.intro|apply y36))))<;>conv=>whnf)
    all_goals first|(exfalso;omega)|kernel_rfl|skip
    all_goals refine z23 (k+1,R'.set u.toNat w,true) ⟨hk2,hs⟩ (by show nodes.length - (k+1) < _;omega) (by refine swR [0,1] [] rfl rfl ?_;(repeat' first|exact y78 _|(refine z101 ?_;omega)|(refine z34 ?_;((simp;done)))|apply y79|refine z41 rfl (z4 (fun _=>rfl)) ?_|refine z199 (by omega) ?_|constructor))
   ·rw [if_neg hlt] at hs
    generalize R'.getD u.toNat 0=y at *
    repeat' ((first|(apply y76 ok;rfl)|(refine z12 (i:=nodes.length - 1 - k) (by omega) hgn ?_)|(refine z12 (i:=u.toNat) (by simp) hgr ?_)|(refine z12 (i:=u.toNat) (by simp) hgR ?_)|(refine z12 (i:=(u % (a.acc.length:Int)).toNat) (by simp) hga ?_)|(apply y36;first|omega|(unfold inI;omega))|((apply z5)<;>intro _)|(apply z99 [] [1] [] c5;(focus ((repeat' first|exact z78|apply z54)<;>first|exact z116 rfl rfl rfl|rfl));rfl;rfl;(focus ((repeat' exact z15)<;>fail));((refine .inr ⟨rfl,?_⟩;repeat' first|exact True.intro|apply y36))))<;>conv=>whnf)
    all_goals first|(exfalso;omega)|kernel_rfl|skip
    all_goals refine z23 (k+1,R',c') ⟨hk2,hs⟩ (by show nodes.length - (k+1) < _;omega) (by refine swR [0,1] [] rfl rfl ?_;(repeat' first|exact y78 _|exact z9 _|(refine z101 ?_;omega)|apply y79|refine z10 rfl (z4 (fun _=>rfl)) ?_|constructor))
  ·have e:nodes.length=k:=by omega
   rw [y50 (by omega)] at hV
   rw [show z422 rows a.acc nodes R=(R',c') from hV] at hRR
   repeat' ((first|(apply y76 ok;rfl)|(apply y36;first|omega|(unfold inI;omega))|(((with_reducible apply z87;omega));intro _)|((apply z5)<;>intro _))<;>conv=>whnf)
   all_goals try (exfalso;omega)
   all_goals refine z23 (r+1,R',c') ⟨by show r+1≤nodes.length+2;omega,hl',hb'.mono (by show 4000 * (r:Int)+k≤4000 * ((r+1:Nat):Int);omega),by rw [show nodes.length+2 - (r+1)=nodes.length+1 - r by omega];exact hRR⟩ (by show nodes.length+2 - (r+1) < _;omega) (by refine swR [0,1] [] rfl rfl ?_;(repeat' first|exact y78 _|exact z9 _|apply y79|refine z10 rfl (z4 (fun _=>rfl)) ?_|constructor))
 ·rw [show nodes.length+2 - r=0 by omega,z143] at hRR
  subst hRR
  repeat' ((first|(apply y76 ok;rfl)|(apply y36;first|omega|(unfold inI;omega))|((apply z5)<;>intro _))<;>conv=>whnf)
  all_goals try (exfalso;omega)
  all_goals (refine rsD [1] [] rfl ?_;(repeat' first|exact z9 _|(refine z34 ?_;(omega))|refine z10 rfl (z4 (fun _=>rfl)) ?_|constructor))
end Go.Proofs.YtahhobgjcfionaaGreat
namespace Go.Proofs.YtahhobgjcfionaaGreat
open Go.Gl
attribute [local irreducible] z19
end Go.Proofs.YtahhobgjcfionaaGreat
namespace Go.Proofs.YtahhobgjcfionaaGreat
open Go.Gl
attribute [local irreducible] z19 AWP z36 z44 z39
section
open Go.ChangeShapes Go.WideShapes Go.ChangeAt Go.RowKit
theorem and_mk {a b:Bool} (h:a=true) (k:b=true):(a && b)=true:=by rw [h,k];rfl
theorem own:ownKnob Tryz.prog.godebug=none:=by kernel_rfl
theorem z893:laidOutB Tryz.prog=true:=by kernel_rfl
end
end Go.Proofs.YtahhobgjcfionaaGreat
namespace Go.Proofs.YtahhobgjcfionaaGreat
open Go.Gl
attribute [local irreducible] z19 AWP z36 z44 z39
theorem z1090:ArgD Tryz.prog 22 (lst 1 enU) CodeOk :=
 (z1086 (enc1:=lst 1 enU) Tryz.underlying22 (od_list 1 (encL:=fun l=>[lst 1 enU l]) Tryz.underlying22 (by kernel_rfl) (by decide) (od_byte (enc:=enU) Tryz.underlying5 (fun _=>rfl)) (fun _=>rfl)) (fun _=>rfl)).imp fun l h=>⟨l,rfl,h.1,fun x hx=>by
  have:=h.2 x hx
  have h1:IntKind.min .u8=0:=by decide
  have h2:IntKind.max .u8=255:=by decide
  simpa [Lit.wf,h1,h2] using this⟩
end Go.Proofs.YtahhobgjcfionaaGreat
namespace Go.Proofs.YtahhobgjcfionaaGreat
open Go.Gl
attribute [local irreducible] z19 AWP z36 z44 z39 RetS z47
noncomputable def mkOk (g:Graph) (l:List Tree) (a:Aut):Bool:=(glB g l && autB a) && !(trcO g (g.st.map (z50 l)) a).isSome
noncomputable def mkR (g:Graph) (l:List Tree) (a:Aut):List Int:=if mkOk g l a=true then z531 (z38 g (g.st.map (z50 l)) a) a.ini a.acc else []
set_option maxHeartbeats 3200000 in
theorem z656 (g:Graph) (hg:g.mx) (l:List Tree) (hl:Lmx l) (a:Aut) (ha:a.mx):CallsA Tryz.prog 30 [.agg g.cs,lst 3 Tree.cs' l,.agg a.cs] [] (.tup [.agg [.sref 0 0 (mkR g l a).length],.bool (mkOk g l a)]) [.cells 1 ((mkR g l a).map enI)]:=by
 have k0:=z378 g hg l hl
 have k1:=z263 a ha
 by_cases hgl:(glB g l && autB a)=true
 ·obtain ⟨h1,hab⟩:=Bool.and_eq_true_iff.1 hgl
  have hG:=(z159 g).1 (by unfold glB at h1;exact (Bool.and_eq_true_iff.1 h1).1)
  have hL:=y7 (by unfold glB at h1;exact (Bool.and_eq_true_iff.1 h1).2)
  have hA:=z126.1 hab
  have k2:=z412 g hG (g.st.map (z50 l)) (by simp) (fun x hx=>by
   obtain ⟨s,_,rfl⟩:=List.mem_map.1 hx
   exact z271 hL s) a hA
  have k3:=z1026 g hG (g.st.map (z50 l)) (by simp) (fun x hx=>by
   obtain ⟨s,_,rfl⟩:=List.mem_map.1 hx
   exact z271 hL s) a hA
  obtain ⟨f1,f2,f3,f4,f5⟩:=z221 hG hA (g.st.map (z50 l))
  have k4:=z895 (z38 g (g.st.map (z50 l)) a) a f1 f2 hA.1 f3 f4 f5
  have hml:=z484 (z38 g (g.st.map (z50 l)) a) a.ini a.acc
  rw [if_pos h1,h1] at k0
  rw [hab] at k1
  unfold mkR mkOk
  rw [hgl,Bool.true_and]
  generalize g.st.map (z50 l)=ls at *
  generalize (trcO g ls a).isSome=tb at *
  generalize trcL g ls a=tl at *
  generalize z531 (z38 g ls a) a.ini a.acc=RR at *
  generalize z38 g ls a=rows at *
  cases tb
  ·show CallsA _ _ _ _ (.tup [.agg [.sref 0 0 RR.length],.bool true]) [.cells 1 (RR.map enI)]
   rw [hml]
   refine z7 z16 Tryz.func30 rfl rfl 42 Tryz.ntmps30 (by simp) ?_
   repeat' ((first|(apply y76 ok;rfl)|(apply z31;kernel_rfl)|(apply z6 (k0);rfl;rfl)|(apply z6 (k1);rfl;rfl)|(apply z6 (k2);rfl;rfl)|(apply z6 (k3);rfl;rfl)|(apply z11 [] [4] k4;rfl;rfl;rfl;(focus ((repeat' first|exact z15|apply z14)<;>(refine z21 ?_;((exact z4 fun _=>rfl)))))))<;>conv=>whnf)
   all_goals (refine rsD [4] [] rfl ?_;(repeat' first|exact y78 _|exact z9 _|refine z10 rfl (z4 (fun _=>rfl)) ?_|constructor))
  ·show CallsA _ _ _ _ (.tup [.agg [.sref 0 0 0],.bool false]) [.cells 1 []]
   refine z7 z16 Tryz.func30 rfl rfl 42 Tryz.ntmps30 (by simp) ?_
   repeat' ((first|(apply y76 ok;rfl)|(apply z6 (k0);rfl;rfl)|(apply z6 (k1);rfl;rfl)|(apply z6 (k3);rfl;rfl))<;>conv=>whnf)
   all_goals (refine y81 1 ?_;refine rsD [4] [] rfl ?_;(repeat' first|exact y78 _|exact z48|refine z10 rfl (z32) ?_|apply z42|apply z88|constructor))
 ·have e:mkOk g l a=false:=by unfold mkOk;rw [(y64 _).mp hgl];rfl
  have e2:mkR g l a=[]:=by unfold mkR;rw [e];rfl
  rw [e,e2]
  show CallsA _ _ _ _ (.tup [.agg [.sref 0 0 0],.bool false]) [.cells 1 []]
  generalize (if glB g l=true then g.st.map (z50 l) else [])=ls at *
  refine z7 z16 Tryz.func30 rfl rfl 42 Tryz.ntmps30 (by simp) ?_
  cases hb1:glB g l
  ·rw [hb1] at k0
   repeat' ((first|(apply y76 ok;rfl)|(apply z6 (k0);rfl;rfl))<;>conv=>whnf)
   all_goals (refine y81 1 ?_;refine rsD [3] [] rfl ?_;(repeat' first|exact y78 _|exact z48|refine z10 rfl (z32) ?_|apply z42|apply z88|constructor))
  ·rw [hb1] at k0 hgl
   have hb2:autB a=false:=by simpa using hgl
   rw [hb2] at k1
   repeat' ((first|(apply y76 ok;rfl)|(apply z6 (k0);rfl;rfl)|(apply z6 (k1);rfl;rfl))<;>conv=>whnf)
   all_goals (refine y81 1 ?_;refine rsD [3] [] rfl ?_;(repeat' first|exact y78 _|exact z48|refine z10 rfl (z32) ?_|apply z42|apply z88|constructor))
theorem z619 (a:Aut) (hA:AutP a) (x:Int) (h0:0≤x):CallsA Tryz.prog 70 [.int x,.pt a.cs,.pt [.int a.acc.length]] [] (.bool (a.acc.getD (x % a.acc.length).toNat false)) []:=by
 have hac:=hA.1
 have hm0:0≤x % (a.acc.length:Int):=Int.emod_nonneg _ (by omega)
 have hm1:x % (a.acc.length:Int) < a.acc.length:=Int.emod_lt_of_pos _ (by omega)
 have hga:(a.acc.map enB)[(x % (a.acc.length:Int)).toNat]?=some (enB (a.acc.getD (x % (a.acc.length:Int)).toNat false)):=by
  rw [y44,y38 (by omega),z20 (by omega)];rfl
 refine z7 z16 Tryz.func70 rfl rfl 12 Tryz.ntmps70 (by simp) ?_
 repeat' ((first|(apply y76 ok;rfl)|(apply z31;kernel_rfl)|(refine z12 (i:=(x % (a.acc.length:Int)).toNat) rfl hga ?_)|(apply y36;omega))<;>conv=>whnf)
 all_goals (refine rsD [] [] rfl ?_;(repeat' first|exact y78 _|constructor))
set_option maxHeartbeats 1600000 in
theorem z315 (l:List Int) (n:Nat) (hl:l.length≤1000000) (hn:1≤n) (h0:∀ x∈l,0≤x) (h1:∀ x∈l,x≤1000000000):CallsA Tryz.prog 71 [ints l,.pt [.int n]] [] (.sref 0 0 l.length) [.cells 1 ((stL l n).map enI)]:=by
 refine z7 z16 Tryz.func71 rfl rfl 25 Tryz.ntmps71 (by simp) ?_
 repeat' ((first|(apply y76 ok;rfl)|(apply y36;(dsimp only;omega)))<;>conv=>whnf)
 obtain ⟨qm,hqm⟩:∃ qm:Nat→Nat→Int,qm=fun i j=>if j < i then l.getD j 0 / n else 0:=⟨_,rfl⟩
 have q0:qm 0=fun _=>0:=by rw [hqm];rfl
 have qE:fnL l.length (qm l.length)=stL l n:=by
  apply y67 (by simp [fnL,stL])
  intro i h1 h2
  have hi' : i < l.length:=by rw [z95] at h1;exact h1
  rw [z394,hqm]
  dsimp only
  rw [if_pos hi',z20 hi'];simp [stL]
 have qS:∀ i (h:i < l.length),qm (i+1)=upd (qm i) i (l[i] / n):=fun i h=>by
  funext j
  by_cases h2:j=i
  ·subst h2;rw [z24,hqm];dsimp only;rw [if_pos (by omega),z20 h]
  ·rw [z43 _ _ h2,hqm];dsimp only;split<;>split<;>first|rfl|omega
 clear hqm
 refine z65 (fun i:Nat=>([(1,.pt [.int n]),(4,.sref 0 0 l.length),(10,ints l),(11,.int l.length),(12,.int i)],[.cells 1 ((fnL l.length (qm i)).map enI)])) (fun i=>i≤l.length) (fun i=>l.length - i) 0 (y46 _) (by refine swR [0] [] rfl rfl ?_;(repeat' first|exact y78 _|refine z10 rfl (z64 rfl) ?_|constructor)<;>((refine z26 ?_;rw [q0];exact z296 _))) ?_
 intro i hi
 by_cases hi2:i < l.length
 ·have g1:=z152 (qm i) hi2
  have l1:=z95 l.length (qm i)
  have e1:=z131 (N:=l.length) (u:=i) (qm i) (l[i] / n)
  rw [← qS i hi2] at e1
  have gk:(l.map enI)[i]?=some (enI l[i]):=by rw [y44,y38 hi2];rfl
  have b0:=h0 _ (y37 hi2)
  have b1:=h1 _ (y37 hi2)
  generalize l[i]=v at *
  have d0:0≤v / (n:Int):=Int.ediv_nonneg b0 (by omega)
  have d1:v / (n:Int)≤v:=Int.ediv_le_self _ b0
  repeat' ((first|(apply y76 ok;rfl)|(refine z12 (i:=i) rfl gk ?_)|(refine z12 (i:=i) rfl g1 ?_)|(apply y36;first|omega|(unfold inI;omega))|((apply z5)<;>intro _))<;>conv=>whnf)
  all_goals try (exfalso;omega)
  all_goals refine z23 (i+1) hi2 (by omega) (by refine swR [0] [] rfl rfl ?_;(repeat' first|exact y78 _|refine z41 rfl (z4 (fun _=>rfl)) ?_|constructor)<;>((refine z26 ?_;exact e1)))
 obtain rfl:i=l.length:=by omega
 rw [qE]
 repeat' ((first|(apply y76 ok;rfl)|(apply y36;omega)|((first|(with_reducible apply z8;omega)|(apply z8;omega));intro _)|((apply z5)<;>intro _))<;>conv=>whnf)
 all_goals try (exfalso;omega)
 all_goals (refine rsD [0] [] rfl ?_;(repeat' first|exact y78 _|exact z9 _|refine z10 rfl (z4 (fun _=>rfl)) ?_|constructor))
noncomputable def ftO (g:Graph) (l:List Tree) (a:Aut):Option (List Int×List Int):=if (glB g l && autB a)=true then trcO g (g.st.map (z50 l)) a else none
noncomputable def ftL (g:Graph) (l:List Tree) (a:Aut):Trace:=let t:=(ftO g l a).getD ([],[]);⟨t.1,t.2⟩
set_option maxHeartbeats 6400000 in
theorem z390 (g:Graph) (hg:g.mx) (l:List Tree) (hl:Lmx l) (a:Aut) (ha:a.mx):CallsA Tryz.prog 16 [.agg g.cs,lst 3 Tree.cs' l,.agg a.cs] [] (.tup [.agg [.sref 0 0 (ftL g l a).stem.length,.sref 1 0 (ftL g l a).loop.length],.bool (ftO g l a).isSome]) [.cells 1 ((ftL g l a).stem.map enI),.cells 1 ((ftL g l a).loop.map enI)]:=by
 have k0:=z561 g hg l hl a ha
 by_cases hgl:(glB g l && autB a)=true
 ·rw [hgl] at k0
  obtain ⟨h1,hab⟩:=Bool.and_eq_true_iff.1 hgl
  have hG:=(z159 g).1 (by unfold glB at h1;exact (Bool.and_eq_true_iff.1 h1).1)
  have hL:=y7 (by unfold glB at h1;exact (Bool.and_eq_true_iff.1 h1).2)
  have hA:=z126.1 hab
  have k1:=z548 g hG l hL a hA
  obtain ⟨f1,f2,f3,f4,f5⟩:=z221 hG hA (g.st.map (z50 l))
  have hnd:=hA.2.2.1.nd
  have hac:=hA.1
  have k2:=z1021 (z38 g (g.st.map (z50 l)) a) a.ini f1 f2 hnd (by omega) f4 (fun v=>a.acc.getD (v % a.acc.length).toNat false) 70 a.cs [.int a.acc.length] (fun x h0 _=>z619 a hA x h0)
  unfold ftL ftO
  rw [if_pos hgl]
  unfold lasR at k2
  unfold trcO
  rw [z433 f1 f2 hnd] at k2
  have hlen:(z38 g (g.st.map (z50 l)) a).length=g.st.length * a.acc.length:=by unfold z38;rw [z85,Nat.mul_comm]
  have hF:∀ p q,finS (z38 g (g.st.map (z50 l)) a) a.ini a.acc=some (p,q)→(∀ x∈p,0≤x∧x≤100000)∧(∀ x∈q,0≤x∧x≤100000)∧p.length≤100000∧q.length≤100000:=by
   intro p q h
   rw [← z433 f1 f2 hnd] at h
   obtain ⟨b1,b2,b3,b4,_⟩:=lasL_bd f1 f2 hnd h
   exact ⟨fun x hx=>by have:=b1 x hx;omega,fun x hx=>by have:=b2 x hx;omega,by omega,by omega⟩
  generalize z38 g (g.st.map (z50 l)) a=rows at *
  cases hfin:finS rows a.ini a.acc with
  |none =>
   rw [hfin] at k2
   change CallsA _ _ _ _ (.tup [.sref 0 0 0,.sref 1 0 0,.bool false]) [.cells 1 [],.cells 1 []] at k2
   show CallsA _ _ _ _ (.tup [.agg [.sref 0 0 0,.sref 1 0 0],.bool false]) [.cells 1 [],.cells 1 []]
   refine z7 z16 Tryz.func16 rfl rfl 50 Tryz.ntmps16 (by simp) ?_
   repeat' ((first|(apply y76 ok;rfl)|(apply z6 (k0);rfl;rfl)|(apply z6 (k1);rfl;rfl)|(apply z99 [] [1,3] [4,5] k2;(focus ((repeat' first|exact z78|apply z54)<;>rfl));rfl;rfl;(focus ((repeat' first|exact z15|apply z14)<;>(refine z21 ?_;(exact z32))));((refine .inr ⟨rfl,?_⟩;repeat' first|exact True.intro|apply y36|exact rfl))))<;>conv=>whnf)
   all_goals (refine y81 1 ?_;refine y81 1 ?_;refine rsD [6,7] [] rfl ?_;(repeat' first|exact y78 _|exact z48|refine z10 rfl (z32) ?_|apply z42|apply z88|constructor))
  |some pq =>
   obtain ⟨p,q⟩:=pq
   rw [hfin] at k2
   obtain ⟨b1,b2,b3,b4⟩:=hF p q hfin
   change CallsA _ _ _ _ (.tup [.sref 0 0 (p.take (p.length - 1)).length,.sref 1 0 q.length,.bool true]) [.cells 1 ((p.take (p.length - 1)).map enI),.cells 1 (q.map enI)] at k2
   have s1:=z315 (p.take (p.length - 1)) a.acc.length (by rw [y41];omega) (by omega) (fun x hx=>(b1 x (List.mem_of_mem_take hx)).1) (fun x hx=>by have:=(b1 x (List.mem_of_mem_take hx)).2;omega)
   have s2:=z315 q a.acc.length (by omega) (by omega) (fun x hx=>(b2 x hx).1) (fun x hx=>by have:=(b2 x hx).2;omega)
   have e1:(stL (p.take (p.length - 1)) a.acc.length).length=(p.take (p.length - 1)).length:=by simp [stL]
   have e2:(stL q a.acc.length).length=q.length:=by simp [stL]
   show CallsA _ _ _ _ (.tup [.agg [.sref 0 0 (stL (p.take (p.length - 1)) a.acc.length).length,.sref 1 0 (stL q a.acc.length).length],.bool true]) [.cells 1 ((stL (p.take (p.length - 1)) a.acc.length).map enI),.cells 1 ((stL q a.acc.length).map enI)]
   rw [e1,e2]
   generalize stL (p.take (p.length - 1)) a.acc.length=S1 at *
   generalize stL q a.acc.length=S2 at *
   generalize p.take (p.length - 1)=p' at *
   refine z7 z16 Tryz.func16 rfl rfl 50 Tryz.ntmps16 (by simp) ?_
   repeat' ((first|(apply y76 ok;rfl)|(apply z6 (k0);rfl;rfl)|(apply z6 (k1);rfl;rfl)|((first|(apply z99 [] [1,3] [4,5] k2;(focus ((repeat' first|exact z78|apply z54)<;>rfl));rfl)|(apply z99 [] [3,4] [6] s1;(focus ((repeat' first|exact z78|apply z54)<;>first|exact z116 rfl rfl rfl|rfl));rfl)|(apply z99 [] [3,5] [7] s2;(focus ((repeat' first|exact z78|apply z54)<;>first|exact z116 rfl rfl rfl|rfl));rfl));rfl;(focus ((repeat' first|exact z15|apply z14)<;>(refine z21 ?_;((exact z4 fun _=>rfl)))));((refine .inr ⟨rfl,?_⟩;repeat' first|exact True.intro|apply y36|exact z185 (fun _=>rfl) _))))<;>conv=>whnf)
   all_goals (refine rsD [6,7] [] rfl ?_;(repeat' first|exact y78 _|exact z9 _|refine z10 rfl (z4 (fun _=>rfl)) ?_|constructor))
 ·have hgl:=(y64 _).mp hgl
  rw [hgl] at k0
  have e1:ftO g l a=none:=by unfold ftO;rw [hgl];rfl
  unfold ftL
  rw [e1]
  show CallsA _ _ _ _ (.tup [.agg [.sref 0 0 0,.sref 1 0 0],.bool false]) [.cells 1 [],.cells 1 []]
  refine z7 z16 Tryz.func16 rfl rfl 50 Tryz.ntmps16 (by simp) ?_
  repeat' ((first|(apply y76 ok;rfl)|(apply z6 (k0);rfl;rfl))<;>conv=>whnf)
  all_goals (refine y81 1 ?_;refine y81 1 ?_;refine rsD [3,4] [] rfl ?_;(repeat' first|exact y78 _|exact z48|refine z10 rfl (z32) ?_|apply z42|apply z88|constructor))
end Go.Proofs.YtahhobgjcfionaaGreat
namespace Go.Proofs.YtahhobgjcfionaaGreat
open Go.Gl
attribute [local irreducible] z19 AWP z36 z44 z39
def pick (bl:List Int) (p:Int):Int:=bl.getD p.toNat 0
end Go.Proofs.YtahhobgjcfionaaGreat
namespace Go.Proofs.YtahhobgjcfionaaGreat
open Go.Gl
attribute [local irreducible] z19 AWP z36 z44 z39 RetS z47
def nxW (N s:Nat) (i:Nat):Int:=if i+1=N then (s:Int) else ((i+1:Nat):Int)
def pushW (a:Aut) (word:List Int) (s i:Nat):List (Nat×Int):=a.ed.flatMap (z267 a.acc.length i (word.getD i 0) (nxW word.length s i))
def accW (a:Aut) (word:List Int) (s:Nat):List (List Int):=build (word.length * a.acc.length) ((List.range word.length).flatMap (pushW a word s))
theorem nxW_in {N s i:Nat} (hs:s < N) (hi:i < N):0≤nxW N s i∧nxW N s i≤N - 1:=by unfold nxW;split<;>omega
theorem back_ok (L:List Int) (hL:L.length≤maxLen):CallsA Tryz.prog 101 [ints L] [] (.fn (.func 170) [] [.ptr 0 none 0]) [.cells 1 [[ints L]]]:=by
 refine z7 z16 Tryz.func101 rfl rfl 4 Tryz.ntmps101 (by simp) ?_
 repeat' (((apply y76 ok;rfl))<;>conv=>whnf)
 all_goals (refine rsD [0] [] rfl ?_;(repeat' first|exact y78 _|apply y79|constructor))
def BackR {α:Type} (M:Nat) (Gc:Ghost) (wc:World) (rest:α→List AObj) (L:List Int) (env:List (Nat×AC)) (x:α) (a:Act) (w:World):Prop :=
 ∃ G,SubM M Gc G∧Le wc w∧Rel G (mkSt 19 env (.cells 1 [[ints L]]::rest x)) a w
def IsSt {α:Type} (rest:α→List AObj) (L:List Int) (x:α) (env' : List (Nat×AC)) (st:St):Prop:=st=mkSt 19 env' (.cells 1 [[ints L]]::rest x)
theorem BackR.step {α : Type} {M : Nat} {Gc : Ghost} {wc : World} {rest : α → List AObj} {L : List Int} {env env' : List (Nat × AC)} {x : α} {a : Act} {w : World} {c : Code}
    (h:BackR M Gc wc rest L env x a w) (hc:AWP Tryz.prog M c (z453 (IsSt rest L x env') (fun _ _=>False)) (mkSt 19 env (.cells 1 [[ints L]]::rest x))) {K:Act→World→Prop} {Q:Exit→Act→World→Prop}
    (hk:∀ a w,BackR M Gc wc rest L env' x a w→K a w):c.wpIn Fence.wide 0 Tryz.prog (Exit.then K Q) a w:=by
  obtain ⟨G,h1,h2,h3⟩:=h
  refine wpIn_mono (hc.at_ h3) ?_
  rintro ex a' w' ⟨G',st',k1,k2,k3,k4⟩
  cases ex with
  | normal =>
    have k3:st'=_:=k3
    subst k3
    exact hk _ _ ⟨G',h1.trans k1,h2.trans k2,k4⟩
  | _=>exact k3.elim
theorem BackR.less {α:Type} {M:Nat} {Gc:Ghost} {wc:World} {rest:α→List AObj} {L:List Int} {env env' : List (Nat×AC)} {x:α} {a:Act} {w:World} (h:BackR M Gc wc rest L env x a w) (he:z502 (fun s y=>z83 env s=y) env'):BackR M Gc wc rest L env' x a w:=by
 obtain ⟨G,h1,h2,h3⟩:=h
 refine ⟨G,h1,h2,h3.wf,fun s=>?_,h3.size,h3.defers⟩
 rcases z248 env' _ he s with e|e
 ·show V _ _ _ (z83 env' s) _
  rw [e];simp [V]
 ·have:=h3.env s
  show V _ _ _ (z83 env' s) _
  rw [← e];exact this
theorem z634 {F:Fence} {n:Nat} {P:Program} {ops:Array Oper} {Q:Exit→Act→World→Prop} {l:List Oper} {a:Act} {w:World} (h:wpListIn F n P ops Q (l++[]) a w):wpListIn F n P ops Q l a w:=by rwa [y57] at h
theorem BackR.val {α:Type} {M:Nat} {Gc:Ghost} {wc:World} {rest:α→List AObj} {L:List Int} {env:List (Nat×AC)} {x:α} {a:Act} {w:World} (h:BackR M Gc wc rest L env x a w) {s:Nat} {v:Value} (he:z83 env s=.raw v):a.tmps.getD s undef=v:=by
 obtain ⟨G,_,_,hR⟩:=h
 have:=hR.env s
 rw [show (mkSt 19 env (.cells 1 [[ints L]]::rest x)).env s=z83 env s from rfl,he] at this
 simpa only [V] using this
set_option maxHeartbeats 1600000 in
theorem back1:z863 Tryz.prog 170:=by
 intro α M rest okI L l Gc wc lb x0 hL hlen hy h0 hWc hlbs hlb
 unfold maxLen at hL
 refine callsIn_of_wp_marks (n:=0) Tryz.func170 rfl trivial ?_
 have hvs:(#[Value.func (.yield l) #[] #[]]++lb).size=2:=by simp [hlbs]
 have hinit:BackR M Gc.split wc rest L [(0,.raw (.func (.yield l) #[] #[])),(1,.ptr 0 none 0)] x0 { tmps:=(#[Value.func (.yield l) #[] #[]]++lb)++Array.replicate (19 - (#[Value.func (.yield l) #[] #[]]++lb).size) undef,defers:=[] } wc:=by
  refine ⟨Gc.split,SubM.refl _ _,Le.refl _,hWc.split,fun s=>?_,by show Array.size _=19;simp [hlbs],Marks.nil _⟩
  refine z401 (G:=Gc) (h:=hp wc) (fun _ _ _ _ e=>z377 e) (fun _ _ e=>e) ?_
  refine z1058 (args:=[.raw (.func (.yield l) #[] #[]),.ptr 0 none 0]) hvs ?_ 19 s
  exact z519 (xs:=[.raw (.func (.yield l) #[] #[])]) rfl (by simp [VL,V]) hlb
 refine wpIn_seq (hinit.step (env':=[(3,.int (L.length - 1)),(6,.int (L.length - 1)),(5,.int L.length),(4,ints L),(0,.raw (.func (.yield l) #[] #[])),(1,.ptr 0 none 0)]) ?_ fun a1 w1 hB1=>?_)
 ·repeat' ((first|(apply y76 ok;rfl)|(apply y36;(unfold inI;omega)))<;>conv=>whnf)
  all_goals rfl
 refine wpIn_block (wpIn_loop (fun a w=>∃ k x,k≤L.length∧okI k x∧BackR M Gc.split wc rest L [(3,.int ((k:Int) - 1)),(0,.raw (.func (.yield l) #[] #[])),(1,.ptr 0 none 0)] x a w) (fun a _=>match a.tmps.getD 3 undef with
  |.int _ i=>(i+1).toNat
  |_=>0) ⟨L.length,x0,y45 _,h0,hB1.less ⟨rfl,rfl,rfl,trivial⟩⟩ ?_)
 rintro a w ⟨k,x,hk,hok,hB⟩
 have hμ:(match a.tmps.getD 3 undef with
  |.int _ i=>(i+1).toNat
  |_=>0)=k:=by
  rw [hB.val (s:=3) rfl];simp
 rw [hμ]
 refine wpIn_seq (wpIn_seq (hB.step (env':=[(8,.raw (.bool (decide ((0:Int)≤(k:Int) - 1)))),(7,.int ((k:Int) - 1)),(3,.int ((k:Int) - 1)),(0,.raw (.func (.yield l) #[] #[])),(1,.ptr 0 none 0)]) ?_ fun a2 w2 hB2=>?_))
 ·repeat' (((apply y76 ok;rfl))<;>conv=>whnf)
  all_goals rfl
 have h8:a2.eval (.tmp 8)=.bool (decide ((0:Int)≤(k:Int) - 1)):=hB2.val (s:=8) rfl
 by_cases hk0:k=0
 ·subst hk0
  refine wpIn_cond_false (h8.trans (by simp)) (wpIn_exit ?_)
  obtain ⟨G,s1,s2,hR⟩:=hB2
  obtain ⟨Ds,d1,d2,d3,d4,d5,d6⟩:=z482 hWc s1.1 hR
  show LeavesInM Fence.wide 0 _ _ a2.tmps _ a2.defers .returning w2
  rw [d1]
  exact z272 Ds w2 d2 d3 ⟨.tuple #[],by rw [z385,show Tryz.f170.results=#[] from rfl];simp,.tuple #[],Gc.join G Ds,x,rfl,hok,⟨d4,fun o t ho e=>by rw [d5];exact s1.2 o t ho e⟩,s2.trans (z574 Ds w2),d6.wf⟩
 obtain ⟨j,rfl⟩:∃ j,k=j+1:=⟨k - 1,by omega⟩
 refine wpIn_cond_true (h8.trans (by rw [y73 (by omega)])) (wpIn_skip ?_)
 have hjL:j < L.length:=by omega
 have gL:(L.map enI)[j]?=some (enI L[j]):=by rw [y44,y38 hjL];rfl
 have hB3:BackR M Gc.split wc rest L [(3,.int (j:Int)),(0,.raw (.func (.yield l) #[] #[])),(1,.ptr 0 none 0)] x a2 w2:=hB2.less ⟨by show AC.int _=_;congr 3;omega,rfl,rfl,trivial⟩
 refine wpIn_seq (wpIn_block (wpIn_seq (wpIn_region_list ?_)))
 rw [← List.take_append_drop 6 (Array.toList _)]
 obtain ⟨G,s1,s2,hR⟩:=hB3
 generalize hz:L[j]=z at gL
 refine z457 (ro:=none) z16 _ _ _ _ (fun env' objs'=>objs'=.cells 1 [[ints L]]::rest x∧z502 (fun s y=>z83 env' s=y) [(16,.int z),(12,.int (j:Int)),(11,.raw (.func (.yield l) #[] #[])),(3,.int (j:Int)),(0,.raw (.func (.yield l) #[] #[])),(1,.ptr 0 none 0)]) (.inl rfl) ?_ M G a2 w2 hR ?_
 ·conv=>whnf
  repeat' ((first|(refine z12 (i:=j) rfl gL ?_)|(apply y36;omega))<;>conv=>whnf)
  all_goals exact ⟨rfl,rfl,rfl,rfl,rfl,rfl,rfl,trivial⟩
 rintro G1 env1 objs1 a3 w3 t1 t2 ⟨rfl,hE⟩ t4
 have hB4:BackR M Gc.split wc rest L env1 x a3 w3:=⟨G1,s1.trans t1,s2.trans t2,t4⟩
 have hB5:=hB4.less hE
 have v16:a3.eval (.tmp 16)=.int .i64 z:=hB5.val (s:=16) rfl
 have v12:a3.eval (.tmp 12)=.int .i64 (j:Int):=hB5.val (s:=12) rfl
 have v11:a3.eval (.tmp 11)=.func (.yield l) #[] #[]:=hB5.val (s:=11) rfl
 obtain ⟨f,tm,asg,bo,hyr,hyR⟩:=hy j x G1 w3 hjL hok (s1.trans t1) (s2.trans t2) t4.wf
 rw [hz] at hyr
 refine wpListIn_plain rfl fun Kk hKk=>?_
 unfold Oper.wpIn
 refine ⟨fun _ _=>trivial,?_⟩
 have hex : (execOp a3.eval ⟨some 17, .call ⟨.value (.tmp 11), #[.tmp 12, .tmp 16], #[3, 3]⟩, 4, "iter.go:29", #[], none⟩).run Tryz.prog w3 = .ok (.round l f tm asg bo) w3 := by
  show (do let d ← resolve a3.eval ⟨.value (.tmp 11),#[.tmp 12,.tmp 16],#[3,3]⟩ 4;invoke d.target d.args:Sem Next).run Tryz.prog w3=_
  simp only [resolve,v11,Deferred.ofValue,Sem.run_bind,Sem.run_pure,Result.andThen,invoke]
  rw [show (#[]++(#[Operand.tmp 12,.tmp 16].map a3.eval):Array Value)=#[.int .i64 (j:Int),.int .i64 z] by simp [v12,v16]]
  exact hyr
 show Oper.uponIn Fence.wide 0 _ _ _ _ _ ((execOp a3.eval ⟨some 17, .call ⟨.value (.tmp 11), #[.tmp 12, .tmp 16], #[3, 3]⟩, 4, "iter.go:29", #[], none⟩).run Tryz.prog w3)
 rw [hex]
 refine ⟨(fun h=>by cases h),hyR.mono ?_⟩
 rintro e w4 ⟨rfl,G2,y,u1,u2,u3,u4⟩
 refine hKk _ _ ?_
 have hall:=y12 (M:=M) t4.wf (Nat.le_of_eq (hlen x)) u2
 have hB6:BackR M Gc.split wc rest L ((17,.raw (.bool true))::[(16,.int z),(12,.int (j:Int)),(11,.raw (.func (.yield l) #[] #[])),(3,.int (j:Int)),(0,.raw (.func (.yield l) #[] #[])),(1,.ptr 0 none 0)]) y (a3.put (some 17) (.bool true)) w4:=by
  refine ⟨G2,(s1.trans t1).trans u2,(s2.trans t2).trans u3,u4,z621 (n:=19) (by decide) t4.size (fun s=>?_) (by simp [V]),by rw [z176];exact t4.size,by rw [z124];exact t4.defers.mono u2.1.S⟩
  rcases z248 _ _ hE s with e|e
  ·rw [e];simp [V]
  ·rw [← e];exact z110 u2.1.S hall (t4.env s)
 obtain ⟨G3,p1,p2,p3⟩:=hB6
 refine z634 ?_
 refine z457 (ro:=none) z16 _ [] _ _ (fun env' objs'=>objs'=.cells 1 [[ints L]]::rest y∧z502 (fun s y=>z83 env' s=y) [(18,.raw (.bool false)),(3,.int (j:Int)),(0,.raw (.func (.yield l) #[] #[])),(1,.ptr 0 none 0)]) (.inl rfl) ?_ M G3 _ w4 p3 ?_
 ·conv=>whnf
  repeat' ((fail)<;>conv=>whnf)
  all_goals exact ⟨rfl,rfl,rfl,rfl,rfl,trivial⟩
 rintro G4 env4 objs4 a5 w5 q1 q2 ⟨rfl,hE4⟩ q4
 have hB7:BackR M Gc.split wc rest L env4 y a5 w5:=⟨G4,p1.trans q1,p2.trans q2,q4⟩
 have hB8:=hB7.less hE4
 have v18:a5.eval (.tmp 18)=.bool false:=hB8.val (s:=18) rfl
 show Code.wpIn Fence.wide 0 _ _ _ a5 w5
 refine wpIn_cond_false v18 (wpIn_skip ?_)
 show Code.wpIn Fence.wide 0 _ _ _ a5 w5
 refine wpIn_mono (hB8.step (env':=[(3,.int ((j:Int) - 1)),(10,.int ((j:Int) - 1)),(9,.int (j:Int)),(18,.raw (.bool false)),(3,.int (j:Int)),(0,.raw (.func (.yield l) #[] #[])),(1,.ptr 0 none 0)]) (K:=fun a w=>BackR M Gc.split wc rest L [(3,.int ((j:Int) - 1)),(10,.int ((j:Int) - 1)),(9,.int (j:Int)),(18,.raw (.bool false)),(3,.int (j:Int)),(0,.raw (.func (.yield l) #[] #[])),(1,.ptr 0 none 0)] y a w) (Q:=fun _ _ _=>False) ?_ fun _ _ h=>h) ?_
 ·repeat' ((first|(apply y76 ok;rfl)|(apply y36;(unfold inI;omega)))<;>conv=>whnf)
  all_goals rfl
 rintro ex a6 w6 hB9
 cases ex with
 |normal =>
  have hB9:BackR M Gc.split wc rest L _ y a6 w6:=hB9
  refine ⟨⟨j,y,by omega,u1,hB9.less ⟨rfl,rfl,rfl,trivial⟩⟩,?_⟩
  show (match a6.tmps.getD 3 undef with
   |.int _ i=>(i+1).toNat
   |_=>0) < j+1
  rw [hB9.val (s:=3) rfl]
  show ((j:Int) - 1+1).toNat < j+1
  omega
 |_=>exact hB9.elim
def NoAcc (rows:List (List Int)) (ini:List Int) (acc:List Bool):Prop:=∀ x,RP rows ini x→Cyc rows x→acc.getD (x % acc.length).toNat false=false
section
variable {rows:List (List Int)} {ini:List Int} {acc:List Bool} {R:List Int}
theorem z860 (k:Nat):∀ u,Wt rows acc k u≤k:=by
 induction k with
 |zero=>intro u;exact Int.le_refl _
 |succ k ih =>
  intro u
  rw [Wt]
  refine z179 (by omega) fun v hv=>?_
  have:=ih v
  have:wtA acc u≤1:=by unfold wtA;split<;>omega
  omega
theorem z762 (z:Int):(rkL rows ini acc z).length=rows.length:=by simp [rkL]
theorem rkL_get (z:Int) {u:Int} (hu:0≤u∧u < rows.length):rk (rkL rows ini acc z) u=if RP rows ini u then Wt rows acc (bfsL rows ini).length u else z:=by
 unfold rk
 rw [z20 (by rw [z762];omega)]
 simp only [rkL,List.getElem_map,List.getElem_range,Int.toNat_of_nonneg hu.1]
theorem rkL_at (z:Int) {i:Nat} (hi:i < rows.length):(rkL rows ini acc z).getD i 0=if RP rows ini (i:Int) then Wt rows acc (bfsL rows ini).length i else z:=by
 have:=rkL_get (rows:=rows) (ini:=ini) (acc:=acc) z (u:=(i:Int)) ⟨by omega,by omega⟩
 unfold rk at this
 rwa [y69] at this
end
end Go.Proofs.YtahhobgjcfionaaGreat
