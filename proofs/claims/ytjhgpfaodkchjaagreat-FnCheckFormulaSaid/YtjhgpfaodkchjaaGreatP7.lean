/- A part of the proofs over this program: T159, T160, T94W, T29, T94K, T161, T186, T187, T238, T33P, T67, T68, T210, T200, T162, T163, T164, T170, T201, T29A, T29C, T202, T166, T204, T212, T98, T43R, T211, T214, T242, T243, T244, T95, T246, T247, T215, T253W. -/
import Derived.Test.YtjhgpfaodkchjaaGreatG0
import Derived.Test.YtjhgpfaodkchjaaGreatG1
import Derived.Test.YtjhgpfaodkchjaaGreatG2
import Derived.Test.YtjhgpfaodkchjaaGreatG3
import Derived.Test.YtjhgpfaodkchjaaGreatP0
import Derived.Test.YtjhgpfaodkchjaaGreatP1
import Derived.Test.YtjhgpfaodkchjaaGreatP2
import Derived.Test.YtjhgpfaodkchjaaGreatP3
import Derived.Test.YtjhgpfaodkchjaaGreatP4
import Derived.Test.YtjhgpfaodkchjaaGreatP5
import Derived.Test.YtjhgpfaodkchjaaGreatP6
import Derived.Test.YtjhgpfaodkchjaaGreatRows
import Derived.WalkKit
import Derived.ProofKit
import Derived.Deep.DeepHandedRow
import Derived.Lib.LaidTab
set_option linter.all false
namespace Go.Proofs.YtjhgpfaodkchjaaGreat
open Go.Gl
attribute [local irreducible] z18 AWP z30 z37 z33 RetS z44
theorem IniP.nd {l:List Int} {n:Int} (h:IniP l n l.length):l.Nodup:=by
 have hs:∀ d i (hi:i+d+1 < l.length),l[i] < l[i+d+1]:=by
  intro d
  induction d with
  |zero=>intro i hi;exact (h (i+1) hi hi).2 i rfl
  |succ d ih =>
   intro i hi
   have h1:=ih i (by omega)
   have h2:=(h (i+(d+1)+1) hi hi).2 (i+d+1) (by omega)
   omega
 rw [List.nodup_iff_pairwise_ne,List.pairwise_iff_getElem]
 intro i j hi hj hij
 have:=hs (j - i - 1) i (by omega)
 have e:i+(j - i - 1)+1=j:=by omega
 simp only [e] at this
 omega
noncomputable def trcO (g:Graph) (ls:List Int) (a:Aut):Option (List Int×List Int):=(finS (z49 g ls a) a.ini a.acc).map fun x=>(stL (x.1.take (x.1.length - 1)) a.acc.length,stL x.2 a.acc.length)
noncomputable def trcL (g:Graph) (ls:List Int) (a:Aut):List Int×List Int:=(trcO g ls a).getD ([],[])
set_option maxHeartbeats 6400000 in
theorem z1162 (g:Graph) (hG:GB g) (ls:List Int) (hls:ls.length=g.st.length) (hlr:∀ x∈ls,0≤x∧x≤7) (a:Aut) (hA:AutP a):CallsA Tryz.prog 54 [.agg g.cs,ints ls,.agg a.cs] [] (.tup [.agg [ints (trcL g ls a).1,ints (trcL g ls a).2],.bool (trcO g ls a).isSome]) []:=by
 have k2:=z764 g hG ls hls hlr a hA
 obtain ⟨f1,f2,f3,f4,f5⟩:=z196 hG hA ls
 have hlen:(z49 g ls a).length=g.st.length * a.acc.length:=by unfold z49;rw [z92,Nat.mul_comm]
 have hnd:=hA.2.2.1.nd
 have hac:=hA.1
 unfold trcL trcO finS
 generalize z49 g ls a=rows at *
 have k3:=z870 rows a.ini f1 f2 hnd (by omega) f4
 have hQ:=z594 f1 f2 hnd
 have hB:=z653 f1 f2 hnd
 have hPl:=z1099 f1 f2 hnd
 have hQl:=z839 f1 f2 hnd
 have hPle:=z1095 f1 f2 hnd rows.length
 have k4:=fun v hv=>z1018 rows v f1 hv (by omega) f4
 have k5:=fun k hk=>z767 (srP rows a.ini) (by omega) rows.length _ (hB k hk) (by omega)
 have n4:=fun v hv=>z1205 f1 (v:=v) hv
 have m4:=fun v hv=>z1206 f1 (v:=v) hv
 change ∀ y∈srP rows a.ini,y≤(rows.length:Int) at hPle
 generalize srQ rows a.ini=Q at *
 generalize srP rows a.ini=P at *
 generalize hR:finT rows a.acc P Q=R
 refine z7 z16 Tryz.func54 rfl rfl 72 Tryz.ntmps54 (by simp) ?_
 repeat' ((first|(apply y4 ok;rfl)|(apply z4 (k2);rfl;rfl)|(apply z4 (k3);rfl;rfl))<;>conv=>whnf)
 refine z63 (fun i:Nat=>([(5,.ptr 0 none 0),(6,.ptr 1 none 0),(8,.int a.acc.length),(9,lst 1 encL rows),(10,ints P),(11,ints Q),(12,.int i)],[.cells 3 [a.cs],.cells 2 [[.nils,.nils]]])) (fun i=>i≤Q.length∧finT rows a.acc P (Q.drop i)=R) (fun i=>Q.length - i) 0 ⟨y53 _,hR⟩ (by refine swR [1,2] [] rfl rfl ?_;(repeat' first|exact y86 _|apply y87|constructor)) ?_
 rintro i ⟨hi1,hi2⟩
 by_cases hi3:i < Q.length
 ·have hq:=hQ _ (y44 hi3)
  have c5:=k5 i hi3
  rw [y80 hi3,finT] at hi2
  have hgi:(Q.map enI)[i]?=some (enI Q[i]):=by rw [y51,y45 hi3];rfl
  generalize Q[i]=u at *
  have hm0:0≤u % (a.acc.length:Int):=Int.emod_nonneg _ (by omega)
  have hm1:u % (a.acc.length:Int) < a.acc.length:=Int.emod_lt_of_pos _ (by omega)
  have hga:(a.acc.map enB)[(u % (a.acc.length:Int)).toNat]?=some (enB (a.acc.getD (u % (a.acc.length:Int)).toNat false)):=by
   rw [y51,y45 (by omega),z15 (by omega)];rfl
  have c4:=k4 u hq
  have l4:=z701 rows u
  have b1:=z557 P rows.length u []
  simp only [y59,Nat.add_zero] at b1
  have b2:=z556 P rows.length u []
  have b3:=z972 (P:=P) rows.length u [] hq.1 (fun x hx=>by cases hx)
  have b4:=z973 hPle rows.length u [] (by omega) (by omega) (fun x hx=>by cases hx)
  have n5:=n4 u hq
  have m5:=m4 u hq
  generalize bkw P rows.length u []=b at *
  generalize cycL rows u=c at *
  have c6:=z535 (b.take (b.length - 1)) a.acc.length (by rw [y48];omega) (by omega) (fun x hx=>b3 x (List.mem_of_mem_take hx)) (fun x hx=>by have:=b4 x (List.mem_of_mem_take hx);omega)
  rw [show (b.take (b.length - 1)).length=b.length - 1 by rw [y48];omega] at c6
  have eL:AC.list 1 (((b.length:Int) - 1).toNat - Int.toNat 0) (List.take (((b.length:Int) - 1).toNat - Int.toNat 0) (List.drop (Int.toNat 0) (List.map enI b)))=ints (b.take (b.length - 1)):=by
   rw [show ((b.length:Int) - 1).toNat - Int.toNat 0=b.length - 1 by rw [show Int.toNat 0=0 from rfl];omega]
   show _=AC.list 1 (b.take (b.length - 1)).length ((b.take (b.length - 1)).map enI)
   rw [show (b.take (b.length - 1)).length=b.length - 1 by rw [y48];omega,List.map_take];rfl
  rw [← eL] at c6
  have hs1:(stL (b.take (b.length - 1)) a.acc.length).length=b.length - 1:=by rw [stL,y49,y48];omega
  have hs2:(stL c a.acc.length).length=c.length:=by rw [stL,y49]
  have c7:=z535 c a.acc.length (by omega) (by omega) n5 (fun x hx=>by have:=m5 x hx;omega)
  generalize a.acc.getD (u % (a.acc.length:Int)).toNat false=z at *
  cases z
  ·rw [if_neg (by simp)] at hi2
   repeat' ((first|(apply y4 ok;rfl)|(apply z22;kernel_rfl)|(refine z12 (i:=i) (by simp) hgi ?_)|(refine z12 (i:=(u % (a.acc.length:Int)).toNat) (by simp) hga ?_)|(apply y43;first|omega|(unfold inI;omega))|((apply z6)<;>intro _))<;>conv=>whnf)
   all_goals try (exfalso;omega)
   all_goals refine z25 (i+1) ⟨hi3,hi2⟩ (by omega) (by refine swR [0,1] [] rfl rfl ?_;(repeat' first|exact y86 _|apply y87|constructor))
  ·rw [if_pos rfl] at hi2
   by_cases hc:0 < c.length
   ·rw [if_pos hc] at hi2
    subst hi2
    repeat' ((first|(apply y4 ok;rfl)|(apply z22;kernel_rfl)|(refine z12 (i:=i) (by simp) hgi ?_)|(refine z12 (i:=(u % (a.acc.length:Int)).toNat) (by simp) hga ?_)|(apply y43;first|omega|(unfold inI;omega))|((apply z6)<;>intro _)|(apply z4 (c4);rfl;rfl)|(apply z4 (c5);rfl;rfl)|((first|(apply z10 [] [2] c6;rfl;rfl)|(apply z10 [] [3] c7;rfl;rfl));rfl;(focus ((repeat' first|exact z17|apply z14)<;>(refine z19 ?_;((exact z5 fun _=>rfl)))))))<;>conv=>whnf)
    all_goals try (exfalso;omega)
    all_goals (refine rsD [] [2,3] rfl ?_;(repeat' first|exact y86 _|(refine z292 ?_;omega)|((apply z41 rfl rfl rfl);(focus ((repeat ((exact z34 (fun _=>rfl) _)));done));(focus (((simp;omega));done)))|apply z38|apply z80|constructor))
   ·rw [if_neg hc] at hi2
    repeat' ((first|(apply y4 ok;rfl)|(apply z22;kernel_rfl)|(refine z12 (i:=i) (by simp) hgi ?_)|(refine z12 (i:=(u % (a.acc.length:Int)).toNat) (by simp) hga ?_)|(apply y43;first|omega|(unfold inI;omega))|((apply z6)<;>intro _)|(apply z4 (c4);rfl;rfl)|(apply z4 (c5);rfl;rfl))<;>conv=>whnf)
    all_goals try (exfalso;omega)
    all_goals refine z25 (i+1) ⟨hi3,hi2⟩ (by omega) (by refine swR [0,1] [] rfl rfl ?_;(repeat' first|exact y86 _|apply y87|constructor))
 ·have e:Q.length=i:=by omega
  subst e
  rw [List.drop_length,finT] at hi2
  subst hi2
  repeat' ((first|(apply y4 ok;rfl)|(apply z22;kernel_rfl)|(apply y43;omega)|((first|(with_reducible apply z11;omega)|(with_reducible apply z67;omega));intro _)|((first|apply z6|apply z90)<;>intro _))<;>conv=>whnf)
  all_goals try (exfalso;omega)
  all_goals (refine rsD [] [] rfl ?_;(repeat' first|exact y86 _|exact z36|apply z38|apply z80|constructor))
end Go.Proofs.YtjhgpfaodkchjaaGreat
namespace Go.Proofs.YtjhgpfaodkchjaaGreat
open Go.Gl
attribute [local irreducible] z18
theorem z714 (a b:List Int) (ha:a.length≤maxLen) (hb:b.length≤maxLen):CallsA Tryz.prog 13 [lst 1 enI a,lst 1 enI b] [] (.bool (decide (a=b))) []:=by
 unfold maxLen at ha hb
 refine z13 z16 Tryz.func13 rfl rfl 26 Tryz.ntmps13 (by simp) ?_
 repeat (refine y4 ok _ _ _ _ _ rfl ?_)
 refine z46 (fun h=>?_) (fun h=>?_)
 ·repeat (refine y4 ok _ _ _ _ _ rfl ?_)
  have hne:a≠b:=by rintro rfl;exact h rfl
  rw [y83 hne]
  exact ⟨[],by decide,rfl,rfl,y3 rfl,trivial⟩
 ·have hl:a.length=b.length:=by omega
  repeat (refine y4 ok _ _ _ _ _ rfl ?_)
  refine z710 (fun k:Nat=>([(0,lst 1 enI a),(1,lst 1 enI b),(5,.int k)],[])) (fun k=>k≤a.length∧a.take k=b.take k) (fun k=>a.length - k) 0 (by simp)
   ⟨[],rfl,by decide,rfl,⟨⟨rfl,rfl⟩,⟨rfl,rfl⟩,⟨rfl,rfl⟩,trivial⟩,trivial⟩ ?_
  intro k hk
  repeat (refine y4 ok _ _ _ _ _ rfl ?_)
  refine z6 (fun h=>?_) (fun h=>?_)
  ·have hka:k < a.length:=by omega
   repeat (first|refine y4 ok _ _ _ _ _ rfl ?_|refine y43 (by omega) ?_)
   refine ⟨_,z356 _ _ _ (by omega),?_⟩
   repeat ((refine y43 (by omega) ?_))
   refine ⟨_,z356 _ _ _ (by omega),?_⟩
   repeat (first|refine y4 ok _ _ _ _ _ rfl ?_|refine z22 (by kernel_rfl) ?_)
   refine z46 (fun h=>?_) (fun h=>?_)
   ·repeat (refine y4 ok _ _ _ _ _ rfl ?_)
    have hne:a≠b:=by rintro rfl;exact h rfl
    rw [y83 hne]
    exact ⟨[],by decide,rfl,rfl,y3 rfl,trivial⟩
   ·repeat (first|refine y4 ok _ _ _ _ _ rfl ?_|refine y43 (by first|omega|(unfold inI;omega)) ?_)
    refine ⟨k+1,[],⟨by omega,?_⟩,by omega,rfl,by decide,rfl,⟨⟨rfl,rfl⟩,⟨rfl,rfl⟩,⟨rfl,rfl⟩,trivial⟩,trivial⟩
    have h' : a[k]=b[k]:=h
    rw [y50 hka,y50 (by omega),hk.2,h']
  ·repeat (refine y4 ok _ _ _ _ _ rfl ?_)
   have he:a=b:=by
    have:=hk.2
    rwa [y57 (by omega),y57 (by omega)] at this
   rw [y82 he]
   exact ⟨[],by decide,rfl,rfl,y3 rfl,trivial⟩
end Go.Proofs.YtjhgpfaodkchjaaGreat
namespace Go.Proofs.YtjhgpfaodkchjaaGreat
open Go.Gl
attribute [local irreducible] z18 AWP z30 z37 z33
section
open Go.ChangeShapes Go.WideShapes Go.ChangeAt Go.RowKit
theorem and_mk {a b:Bool} (h:a=true) (k:b=true):(a && b)=true:=by rw [h,k];rfl
theorem own:ownKnob Tryz.prog.godebug=none:=by kernel_rfl
theorem z607:laidOutB Tryz.prog=true:=by kernel_rfl
end
end Go.Proofs.YtjhgpfaodkchjaaGreat
namespace Go.Proofs.YtjhgpfaodkchjaaGreat
open Go.Gl
attribute [local irreducible] z18 AWP z30 z37 z33
theorem z910:ArgD Tryz.prog 22 (lst 1 enU) CodeOk :=
 (z1227 (enc1:=lst 1 enU) Tryz.underlying22 (od_list 1 (encL:=fun l=>[lst 1 enU l]) Tryz.underlying22 (by kernel_rfl) (by decide) (od_byte (enc:=enU) Tryz.underlying5 (fun _=>rfl)) (fun _=>rfl)) (fun _=>rfl)).imp fun l h=>⟨l,rfl,h.1,fun x hx=>by
  have:=h.2 x hx
  have h1:IntKind.min .u8=0:=by decide
  have h2:IntKind.max .u8=255:=by decide
  simpa [Lit.wf,h1,h2] using this⟩
end Go.Proofs.YtjhgpfaodkchjaaGreat
namespace Go.Proofs.YtjhgpfaodkchjaaGreat
open Go.Gl
attribute [local irreducible] z18 AWP z30 z37 z33 RetS z44
theorem z698 (a:Aut) (hA:AutP a) (x:Int) (h0:0≤x):CallsA Tryz.prog 96 [.int x,.pt a.cs,.pt [.int a.acc.length]] [] (.bool (a.acc.getD (x % a.acc.length).toNat false)) []:=by
 have hac:=hA.1
 have hm0:0≤x % (a.acc.length:Int):=Int.emod_nonneg _ (by omega)
 have hm1:x % (a.acc.length:Int) < a.acc.length:=Int.emod_lt_of_pos _ (by omega)
 have hga:(a.acc.map enB)[(x % (a.acc.length:Int)).toNat]?=some (enB (a.acc.getD (x % (a.acc.length:Int)).toNat false)):=by
  rw [y51,y45 (by omega),z15 (by omega)];rfl
 refine z7 z16 Tryz.func96 rfl rfl 12 Tryz.ntmps96 (by simp) ?_
 repeat' ((first|(apply y4 ok;rfl)|(apply z22;kernel_rfl)|(refine z12 (i:=(x % (a.acc.length:Int)).toNat) rfl hga ?_)|(apply y43;omega))<;>conv=>whnf)
 all_goals (refine rsD [] [] rfl ?_;(repeat' first|exact y86 _|constructor))
set_option maxHeartbeats 1600000 in
theorem z346 (l:List Int) (n:Nat) (hl:l.length≤1000000) (hn:1≤n) (h0:∀ x∈l,0≤x) (h1:∀ x∈l,x≤1000000000):CallsA Tryz.prog 97 [ints l,.pt [.int n]] [] (.sref 0 0 l.length) [.cells 1 ((stL l n).map enI)]:=by
 refine z7 z16 Tryz.func97 rfl rfl 25 Tryz.ntmps97 (by simp) ?_
 repeat' ((first|(apply y4 ok;rfl)|(apply y43;(dsimp only;omega)))<;>conv=>whnf)
 obtain ⟨qm,hqm⟩:∃ qm:Nat→Nat→Int,qm=fun i j=>if j < i then l.getD j 0 / n else 0:=⟨_,rfl⟩
 have q0:qm 0=fun _=>0:=by rw [hqm];rfl
 have qE:fnL l.length (qm l.length)=stL l n:=by
  apply y75 (by simp [fnL,stL])
  intro i h1 h2
  have hi' : i < l.length:=by rw [z125] at h1;exact h1
  rw [z695,hqm]
  dsimp only
  rw [if_pos hi',z15 hi'];simp [stL]
 have qS:∀ i (h:i < l.length),qm (i+1)=upd (qm i) i (l[i] / n):=fun i h=>by
  funext j
  by_cases h2:j=i
  ·subst h2;rw [z31,hqm];dsimp only;rw [if_pos (by omega),z15 h]
  ·rw [z54 _ _ h2,hqm];dsimp only;split<;>split<;>first|rfl|omega
 clear hqm
 refine z63 (fun i:Nat=>([(1,.pt [.int n]),(4,.sref 0 0 l.length),(10,ints l),(11,.int l.length),(12,.int i)],[.cells 1 ((fnL l.length (qm i)).map enI)])) (fun i=>i≤l.length) (fun i=>l.length - i) 0 (y53 _) (by refine swR [0] [] rfl rfl ?_;(repeat' first|exact y86 _|refine z8 rfl (z50 rfl) ?_|constructor)<;>((refine z51 ?_;rw [q0];exact z322 _))) ?_
 intro i hi
 by_cases hi2:i < l.length
 ·have g1:=z179 (qm i) hi2
  have l1:=z125 l.length (qm i)
  have e1:=z155 (N:=l.length) (u:=i) (qm i) (l[i] / n)
  rw [← qS i hi2] at e1
  have gk:(l.map enI)[i]?=some (enI l[i]):=by rw [y51,y45 hi2];rfl
  have b0:=h0 _ (y44 hi2)
  have b1:=h1 _ (y44 hi2)
  generalize l[i]=v at *
  have d0:0≤v / (n:Int):=Int.ediv_nonneg b0 (by omega)
  have d1:v / (n:Int)≤v:=Int.ediv_le_self _ b0
  repeat' ((first|(apply y4 ok;rfl)|(refine z12 (i:=i) rfl gk ?_)|(refine z12 (i:=i) rfl g1 ?_)|(apply y43;first|omega|(unfold inI;omega))|((apply z6)<;>intro _))<;>conv=>whnf)
  all_goals try (exfalso;omega)
  all_goals refine z25 (i+1) hi2 (by omega) (by refine swR [0] [] rfl rfl ?_;(repeat' first|exact y86 _|refine z58 rfl (z5 (fun _=>rfl)) ?_|constructor)<;>((refine z51 ?_;exact e1)))
 obtain rfl:i=l.length:=by omega
 rw [qE]
 repeat' ((first|(apply y4 ok;rfl)|(apply y43;omega)|((first|(with_reducible apply z11;omega)|(apply z11;omega));intro _)|((apply z6)<;>intro _))<;>conv=>whnf)
 all_goals try (exfalso;omega)
 all_goals (refine rsD [0] [] rfl ?_;(repeat' first|exact y86 _|exact z9 _|refine z8 rfl (z5 (fun _=>rfl)) ?_|constructor))
noncomputable def ftO (g:Graph) (l:List Tree) (a:Aut):Option (List Int×List Int):=if (glB g l && autB a)=true then trcO g (g.st.map (z43 l)) a else none
noncomputable def ftL (g:Graph) (l:List Tree) (a:Aut):Trace:=let t:=(ftO g l a).getD ([],[]);⟨t.1,t.2⟩
set_option maxHeartbeats 6400000 in
theorem z434 (g:Graph) (hg:g.mx) (l:List Tree) (hl:Lmx l) (a:Aut) (ha:a.mx):CallsA Tryz.prog 38 [.agg g.cs,lst 3 Tree.cs' l,.agg a.cs] [] (.tup [.agg [.sref 0 0 (ftL g l a).stem.length,.sref 1 0 (ftL g l a).loop.length],.bool (ftO g l a).isSome]) [.cells 1 ((ftL g l a).stem.map enI),.cells 1 ((ftL g l a).loop.map enI)]:=by
 have k0:=z1049 g hg l hl a ha
 by_cases hgl:(glB g l && autB a)=true
 ·rw [hgl] at k0
  obtain ⟨h1,hab⟩:=Bool.and_eq_true_iff.1 hgl
  have hG:=(z83 g).1 (by unfold glB at h1;exact (Bool.and_eq_true_iff.1 h1).1)
  have hL:=y8 (by unfold glB at h1;exact (Bool.and_eq_true_iff.1 h1).2)
  have hA:=z140.1 hab
  have k1:=z1004 g hG l hL a hA
  obtain ⟨f1,f2,f3,f4,f5⟩:=z196 hG hA (g.st.map (z43 l))
  have hnd:=hA.2.2.1.nd
  have hac:=hA.1
  have k2:=z1158 (z49 g (g.st.map (z43 l)) a) a.ini f1 f2 hnd (by omega) f4 (fun v=>a.acc.getD (v % a.acc.length).toNat false) 96 a.cs [.int a.acc.length] (fun x h0 _=>z698 a hA x h0)
  unfold ftL ftO
  rw [if_pos hgl]
  unfold lasR at k2
  unfold trcO
  rw [z320 f1 f2 hnd] at k2
  have hlen:(z49 g (g.st.map (z43 l)) a).length=g.st.length * a.acc.length:=by unfold z49;rw [z92,Nat.mul_comm]
  have hF:∀ p q,finS (z49 g (g.st.map (z43 l)) a) a.ini a.acc=some (p,q)→(∀ x∈p,0≤x∧x≤100000)∧(∀ x∈q,0≤x∧x≤100000)∧p.length≤100000∧q.length≤100000:=by
   intro p q h
   rw [← z320 f1 f2 hnd] at h
   obtain ⟨b1,b2,b3,b4,_⟩:=z869 f1 f2 hnd h
   exact ⟨fun x hx=>by have:=b1 x hx;omega,fun x hx=>by have:=b2 x hx;omega,by omega,by omega⟩
  generalize z49 g (g.st.map (z43 l)) a=rows at *
  cases hfin:finS rows a.ini a.acc with
  |none =>
   rw [hfin] at k2
   change CallsA _ _ _ _ (.tup [.sref 0 0 0,.sref 1 0 0,.bool false]) [.cells 1 [],.cells 1 []] at k2
   show CallsA _ _ _ _ (.tup [.agg [.sref 0 0 0,.sref 1 0 0],.bool false]) [.cells 1 [],.cells 1 []]
   refine z7 z16 Tryz.func38 rfl rfl 50 Tryz.ntmps38 (by simp) ?_
   repeat' ((first|(apply y4 ok;rfl)|(apply z4 (k0);rfl;rfl)|(apply z4 (k1);rfl;rfl)|(apply z96 [] [1,3] [4,5] k2;(focus ((repeat' first|exact z69|apply z42)<;>rfl));rfl;rfl;(focus ((repeat' first|exact z17|apply z14)<;>(refine z19 ?_;(exact z23))));((refine .inr ⟨rfl,?_⟩;repeat' first|exact True.intro|apply y43|exact rfl))))<;>conv=>whnf)
   all_goals (refine y89 1 ?_;refine y89 1 ?_;refine rsD [6,7] [] rfl ?_;(repeat' first|exact y86 _|exact z48|refine z8 rfl (z23) ?_|apply z38|apply z80|constructor))
  |some pq =>
   obtain ⟨p,q⟩:=pq
   rw [hfin] at k2
   obtain ⟨b1,b2,b3,b4⟩:=hF p q hfin
   change CallsA _ _ _ _ (.tup [.sref 0 0 (p.take (p.length - 1)).length,.sref 1 0 q.length,.bool true]) [.cells 1 ((p.take (p.length - 1)).map enI),.cells 1 (q.map enI)] at k2
   have s1:=z346 (p.take (p.length - 1)) a.acc.length (by rw [y48];omega) (by omega) (fun x hx=>(b1 x (List.mem_of_mem_take hx)).1) (fun x hx=>by have:=(b1 x (List.mem_of_mem_take hx)).2;omega)
   have s2:=z346 q a.acc.length (by omega) (by omega) (fun x hx=>(b2 x hx).1) (fun x hx=>by have:=(b2 x hx).2;omega)
   have e1:(stL (p.take (p.length - 1)) a.acc.length).length=(p.take (p.length - 1)).length:=by simp [stL]
   have e2:(stL q a.acc.length).length=q.length:=by simp [stL]
   show CallsA _ _ _ _ (.tup [.agg [.sref 0 0 (stL (p.take (p.length - 1)) a.acc.length).length,.sref 1 0 (stL q a.acc.length).length],.bool true]) [.cells 1 ((stL (p.take (p.length - 1)) a.acc.length).map enI),.cells 1 ((stL q a.acc.length).map enI)]
   rw [e1,e2]
   generalize stL (p.take (p.length - 1)) a.acc.length=S1 at *
   generalize stL q a.acc.length=S2 at *
   generalize p.take (p.length - 1)=p' at *
   refine z7 z16 Tryz.func38 rfl rfl 50 Tryz.ntmps38 (by simp) ?_
   repeat' ((first|(apply y4 ok;rfl)|(apply z4 (k0);rfl;rfl)|(apply z4 (k1);rfl;rfl)|((first|(apply z96 [] [1,3] [4,5] k2;(focus ((repeat' first|exact z69|apply z42)<;>rfl));rfl)|(apply z96 [] [3,4] [6] s1;(focus ((repeat' first|exact z69|apply z42)<;>first|exact z108 rfl rfl rfl|rfl));rfl)|(apply z96 [] [3,5] [7] s2;(focus ((repeat' first|exact z69|apply z42)<;>first|exact z108 rfl rfl rfl|rfl));rfl));rfl;(focus ((repeat' first|exact z17|apply z14)<;>(refine z19 ?_;((exact z5 fun _=>rfl)))));((refine .inr ⟨rfl,?_⟩;repeat' first|exact True.intro|apply y43|exact z102 (fun _=>rfl) _))))<;>conv=>whnf)
   all_goals (refine rsD [6,7] [] rfl ?_;(repeat' first|exact y86 _|exact z9 _|refine z8 rfl (z5 (fun _=>rfl)) ?_|constructor))
 ·have hgl:=(y72 _).mp hgl
  rw [hgl] at k0
  have e1:ftO g l a=none:=by unfold ftO;rw [hgl];rfl
  unfold ftL
  rw [e1]
  show CallsA _ _ _ _ (.tup [.agg [.sref 0 0 0,.sref 1 0 0],.bool false]) [.cells 1 [],.cells 1 []]
  refine z7 z16 Tryz.func38 rfl rfl 50 Tryz.ntmps38 (by simp) ?_
  repeat' ((first|(apply y4 ok;rfl)|(apply z4 (k0);rfl;rfl))<;>conv=>whnf)
  all_goals (refine y89 1 ?_;refine y89 1 ?_;refine rsD [3,4] [] rfl ?_;(repeat' first|exact y86 _|exact z48|refine z8 rfl (z23) ?_|apply z38|apply z80|constructor))
theorem ftL_le {g:Graph} {l:List Tree} {a:Aut} : (ftL g l a).stem.length≤3841∧(ftL g l a).loop.length≤3841:=by
 unfold ftL ftO
 by_cases h:(glB g l && autB a)=true
 ·rw [if_pos h]
  obtain ⟨h1,hab⟩:=Bool.and_eq_true_iff.1 h
  have hG:=(z83 g).1 (by unfold glB at h1;exact (Bool.and_eq_true_iff.1 h1).1)
  have hA:=z140.1 hab
  obtain ⟨f1,f2,f3,f4,f5⟩:=z196 hG hA (g.st.map (z43 l))
  have hnd:=hA.2.2.1.nd
  unfold trcO
  cases hf:finS (z49 g (g.st.map (z43 l)) a) a.ini a.acc with
  |none=>simp
  |some pq =>
   obtain ⟨p,q⟩:=pq
   rw [← z320 f1 f2 hnd] at hf
   obtain ⟨b1,b2,b3,b4,_⟩:=z869 f1 f2 hnd hf
   simp only [Option.map_some,Option.getD_some,stL,y49,y48]
   omega
 ·rw [if_neg h];simp
theorem z1179 {B:List Tree} {U:List Int} {n0:Nat} : ∀ (f i:Nat) (x y:TrS),f+i=65→ExI B U n0 i x→goS B U f i x=some y→∃ j,ExI B U n0 j y∧j≤64∧y.L.length≤j
 |0,i,x,y,_,_,h=>by simp [goS] at h
 |f+1,i,x,y,he,hI,h=>by
  rw [goS] at h
  split at h
  ·rename_i hi
   split at h
   ·cases h
   ·exact z1179 f (i+1) _ y (by omega) (hI.step hi).1 h
  ·cases h
   exact ⟨i,hI,by omega,by omega⟩
theorem z1092 (t:Tree) (hs:t.sz≤200) (h:tsB t=true):autB (trA t)=true:=by
 unfold tsB at h
 unfold trA
 unfold trO at *
 by_cases hb:bscB t=true
 ·rw [if_pos hb] at *
  obtain ⟨⟨ht,hn⟩,h5⟩:=of_decide_eq_true (show decide _=true from hb)
  obtain ⟨hB,_,_⟩:=z558 ht hn h5 hs
  generalize t.nrm false=g at *
  generalize bscL g=B at *
  cases hS:trS B g with
  |none=>rw [hS] at h;cases h
  |some y =>
   have hI0:ExI B (untB B) (iniS B g).length 0 ⟨iniS B g,[],[]⟩:=⟨z779 B g,y52 _,rfl,y53 _,y53 _,by show (iniS B g).length≤(iniS B g).length+0 * _;omega,fun e he=>by cases he⟩
   obtain ⟨j,hI,hj,hl⟩:=z1179 65 0 _ y rfl hI0 hS
   show autB (z332 (iniS B g).length y)=true
   unfold z332
   by_cases h0:y.L.length=0
   ·rw [if_pos h0]
    have h1:=hI.base
    have e1:(iniS B g).length=0:=by omega
    have h2:=hI.edl
    have h3:=hI.le
    have hj0:j=0:=by omega
    rw [hj0,Nat.zero_mul] at h2
    have e2:y.ed=[]:=y74 (by omega)
    rw [e1,e2,z140]
    exact ⟨⟨by decide,by decide⟩,by decide,fun i hi _=>by simp [numI] at hi,fun e he=>by cases he⟩
   ·rw [if_neg h0]
    by_cases h1:1≤(iniS B g).length
    ·exact ExI.valid hB hI h1 hj hl
    ·exfalso
     have e1:iniS B g=[]:=y74 (by omega)
     have:trS B g=some ⟨[],[],[]⟩:=by unfold trS;rw [e1];rfl
     rw [this] at hS
     cases hS
     exact h0 rfl
 ·rw [if_neg hb] at h;cases h
theorem z392 {t:Tree} (h:ngS t=true):autB (ngA t)=true:=by
 unfold ngS at h
 rw [y71] at h
 unfold ngA
 rw [if_pos h.1]
 exact z1092 _ (by have:=z355 h.1;omega) h.2
noncomputable def vdI (g:Graph) (l:List Tree) (f:Tree):Int:=if (glB g l && f.fmB)=true then (if ngS f=true then (if (ftO g l (ngA f)).isSome=true then 1 else 0) else 2) else 3
noncomputable def vdT (g:Graph) (l:List Tree) (f:Tree):Trace:=if (glB g l && f.fmB)=true then (if ngS f=true then ftL g l (ngA f) else ⟨[],[]⟩) else ⟨[],[]⟩
theorem vdT_le {g:Graph} {l:List Tree} {f:Tree} : (vdT g l f).stem.length≤3841∧(vdT g l f).loop.length≤3841:=by
 unfold vdT
 split
 ·split
  ·exact ftL_le
  ·simp
 ·simp
theorem z958 {g:Graph} {l:List Tree} {a:Aut} (h:(ftO g l a).isSome=false):ftL g l a=⟨[],[]⟩:=by
 unfold ftL
 cases hf:ftO g l a with
 |none=>rfl
 |some x=>rw [hf] at h;cases h
set_option maxHeartbeats 3200000 in
theorem z582 (g:Graph) (hg:g.mx) (l:List Tree) (hl:Lmx l) (f:Tree) (hf:f.mx):CallsA Tryz.prog 14 [.agg g.cs,lst 3 Tree.cs' l,z26 Tree.cs' f] [] (.tup [.int (vdI g l f),.agg [.sref 0 0 (vdT g l f).stem.length,.sref 1 0 (vdT g l f).loop.length]]) [.cells 1 ((vdT g l f).stem.map enI),.cells 1 ((vdT g l f).loop.map enI)]:=by
 have c1:=z259 g hg
 have c2:=z225 l hl.1 hl.2
 have c3:=z123 f hf
 have cN:=z581 f hf
 have cF:=z434 g hg l hl (ngA f) (ngA_mx f)
 have hno:=@z958 g l (ngA f)
 unfold vdI vdT
 unfold glB
 generalize ftL g l (ngA f)=tl at *
 generalize (ftO g l (ngA f)).isSome=tb at *
 generalize ngA f=a at *
 generalize ngS f=z at *
 rw [y15 f] at *
 generalize z205 g=b1 at *
 generalize z166 l=b2 at *
 generalize f.fmB=b3 at *
 cases b1
 ·refine z7 z16 Tryz.func14 rfl rfl 44 Tryz.ntmps14 (by simp) ?_
  repeat' ((first|(apply y4 ok;rfl)|(apply z4 (c1);rfl;rfl))<;>conv=>whnf)
  all_goals (refine y89 1 ?_;refine y89 1 ?_;refine rsD [3,4] [] rfl ?_;(repeat' first|exact y86 _|exact z48|refine z8 rfl (z23) ?_|apply z38|apply z80|constructor))
 cases b2
 ·refine z7 z16 Tryz.func14 rfl rfl 44 Tryz.ntmps14 (by simp) ?_
  repeat' ((first|(apply y4 ok;rfl)|(apply z4 (c1);rfl;rfl)|(apply z4 (c2);rfl;rfl))<;>conv=>whnf)
  all_goals (refine y89 1 ?_;refine y89 1 ?_;refine rsD [3,4] [] rfl ?_;(repeat' first|exact y86 _|exact z48|refine z8 rfl (z23) ?_|apply z38|apply z80|constructor))
 cases b3
 ·refine z7 z16 Tryz.func14 rfl rfl 44 Tryz.ntmps14 (by simp) ?_
  repeat' ((first|(apply y4 ok;rfl)|(apply z4 (c1);rfl;rfl)|(apply z4 (c2);rfl;rfl)|(apply z4 (c3);rfl;rfl))<;>conv=>whnf)
  all_goals (refine y89 1 ?_;refine y89 1 ?_;refine rsD [3,4] [] rfl ?_;(repeat' first|exact y86 _|exact z48|refine z8 rfl (z23) ?_|apply z38|apply z80|constructor))
 cases z
 ·refine z7 z16 Tryz.func14 rfl rfl 44 Tryz.ntmps14 (by simp) ?_
  repeat' ((first|(apply y4 ok;rfl)|(apply z4 (c1);rfl;rfl)|(apply z4 (c2);rfl;rfl)|(apply z4 (c3);rfl;rfl)|(apply z4 (cN);rfl;rfl))<;>conv=>whnf)
  all_goals (refine y89 1 ?_;refine y89 1 ?_;refine rsD [4,5] [] rfl ?_;(repeat' first|exact y86 _|exact z48|refine z8 rfl (z23) ?_|apply z38|apply z80|constructor))
 cases tb
 ·have hno:=hno rfl
  subst hno
  refine z7 z16 Tryz.func14 rfl rfl 44 Tryz.ntmps14 (by simp) ?_
  repeat' ((first|(apply y4 ok;rfl)|(apply z4 (c1);rfl;rfl)|(apply z4 (c2);rfl;rfl)|(apply z4 (c3);rfl;rfl)|(apply z4 (cN);rfl;rfl)|(apply z10 [] [4,5] cF;rfl;rfl;rfl;(focus ((repeat' first|exact z17|apply z14)<;>(refine z19 ?_;((exact z5 fun _=>rfl)))))))<;>conv=>whnf)
  all_goals (refine rsD [4,5] [] rfl ?_;(repeat' first|exact y86 _|exact z48|refine z8 rfl (z23) ?_|apply z38|apply z80|constructor))
 ·refine z7 z16 Tryz.func14 rfl rfl 44 Tryz.ntmps14 (by simp) ?_
  repeat' ((first|(apply y4 ok;rfl)|(apply z22;kernel_rfl)|(apply z4 (c1);rfl;rfl)|(apply z4 (c2);rfl;rfl)|(apply z4 (c3);rfl;rfl)|(apply z4 (cN);rfl;rfl)|(apply z10 [] [4,5] cF;rfl;rfl;rfl;(focus ((repeat' first|exact z17|apply z14)<;>(refine z19 ?_;((exact z5 fun _=>rfl)))))))<;>conv=>whnf)
  all_goals (refine rsD [4,5] [] rfl ?_;(repeat' first|exact y86 _|exact z9 _|refine z8 rfl (z5 (fun _=>rfl)) ?_|constructor))
set_option maxHeartbeats 3200000 in
theorem z375 (g:Graph) (hg:g.mx) (l:List Tree) (hl:Lmx l) (f:Tree) (hf:f.mx):CallsA Tryz.prog 22 [.agg g.cs,lst 3 Tree.cs' l,z26 Tree.cs' f] [] (.tup [.int (vdI g l f),.agg (vdT g l f).cs]) []:=by
 have k0:=z422 g hg l hl
 have c3:=z122 f hf
 have cN:=z573 f hf
 have hval:=@z392 f
 unfold vdI vdT
 by_cases h1:glB g l=true
 ·have hG:=(z83 g).1 (by unfold glB at h1;exact (Bool.and_eq_true_iff.1 h1).1)
  have hL:=y8 (by unfold glB at h1;exact (Bool.and_eq_true_iff.1 h1).2)
  rw [if_pos h1] at k0
  have e1:autB (ngA f)=true→ftO g l (ngA f)=trcO g (g.st.map (z43 l)) (ngA f):=fun h=>by unfold ftO;rw [h1,h];rfl
  have e2:autB (ngA f)=true→ftL g l (ngA f)=⟨(trcL g (g.st.map (z43 l)) (ngA f)).1,(trcL g (g.st.map (z43 l)) (ngA f)).2⟩:=fun h=>by unfold ftL trcL;rw [e1 h]
  have k3:=fun hA=>z1162 g hG (g.st.map (z43 l)) (by simp) (fun x hx=>by
   obtain ⟨s,_,rfl⟩:=List.mem_map.1 hx
   exact z293 hL s) (ngA f) hA
  have hno:=@z958 g l (ngA f)
  rw [h1,Bool.true_and]
  rw [h1] at k0
  by_cases h3:f.fmB=true
  ·rw [if_pos h3,if_pos h3]
   rw [h3] at c3
   by_cases hz:ngS f=true
   ·have hv:=hval hz
    have k3:=k3 (z140.1 hv)
    rw [e2 hv] at hno
    rw [if_pos hz,if_pos hz,e1 hv,e2 hv]
    rw [e1 hv] at hno
    rw [hz] at cN
    clear e1 e2 hval
    generalize g.st.map (z43 l)=ls at *
    generalize (trcO g ls (ngA f)).isSome=tb at *
    generalize trcL g ls (ngA f)=tl at *
    generalize ngA f=a at *
    rw [y15 f] at *
    cases tb
    ·have hno:=hno rfl
     have hn1:tl.1=[]:=congrArg Trace.stem hno
     have hn2:tl.2=[]:=congrArg Trace.loop hno
     rw [hn1,hn2]
     show CallsA _ _ _ _ (.tup [.int 0,.agg [.list 1 0 [],.list 1 0 []]]) _
     refine z7 z16 Tryz.func22 rfl rfl 47 Tryz.ntmps22 (by simp) ?_
     repeat' ((first|(apply y4 ok;rfl)|(apply z4 (k0);rfl;rfl)|(apply z4 (c3);rfl;rfl)|(apply z4 (cN);rfl;rfl)|(apply z4 (k3);rfl;rfl))<;>conv=>whnf)
     all_goals (refine rsD [] [] rfl ?_;(repeat' first|exact y86 _|exact z36|apply z38|apply z80|constructor))
    ·refine z7 z16 Tryz.func22 rfl rfl 47 Tryz.ntmps22 (by simp) ?_
     repeat' ((first|(apply y4 ok;rfl)|(apply z22;kernel_rfl)|(apply z4 (k0);rfl;rfl)|(apply z4 (c3);rfl;rfl)|(apply z4 (cN);rfl;rfl)|(apply z4 (k3);rfl;rfl))<;>conv=>whnf)
     all_goals (refine rsD [] [] rfl ?_;(repeat' first|exact y86 _|constructor))
   ·rw [if_neg hz,if_neg hz]
    rw [(y72 _).mp hz] at cN
    clear e1 e2 hval k3 hno
    show CallsA _ _ _ _ (.tup [.int 2,.agg [.list 1 0 [],.list 1 0 []]]) _
    generalize g.st.map (z43 l)=ls at *
    generalize ngA f=a at *
    rw [y15 f] at *
    refine z7 z16 Tryz.func22 rfl rfl 47 Tryz.ntmps22 (by simp) ?_
    repeat' ((first|(apply y4 ok;rfl)|(apply z4 (k0);rfl;rfl)|(apply z4 (c3);rfl;rfl)|(apply z4 (cN);rfl;rfl))<;>conv=>whnf)
    all_goals (refine rsD [] [] rfl ?_;(repeat' first|exact y86 _|exact z36|apply z38|apply z80|constructor))
  ·rw [if_neg h3,if_neg h3]
   rw [(y72 _).mp h3] at c3
   clear e1 e2 hval k3 hno cN
   show CallsA _ _ _ _ (.tup [.int 3,.agg [.list 1 0 [],.list 1 0 []]]) _
   generalize g.st.map (z43 l)=ls at *
   rw [y15 f] at *
   refine z7 z16 Tryz.func22 rfl rfl 47 Tryz.ntmps22 (by simp) ?_
   repeat' ((first|(apply y4 ok;rfl)|(apply z4 (k0);rfl;rfl)|(apply z4 (c3);rfl;rfl))<;>conv=>whnf)
   all_goals (refine rsD [] [] rfl ?_;(repeat' first|exact y86 _|exact z36|apply z38|apply z80|constructor))
 ·rw [(y72 _).mp h1,Bool.false_and,if_neg (by simp),if_neg (by simp)]
  rw [if_neg h1,(y72 _).mp h1] at k0
  show CallsA _ _ _ _ (.tup [.int 3,.agg [.list 1 0 [],.list 1 0 []]]) _
  rw [y15 f] at *
  refine z7 z16 Tryz.func22 rfl rfl 47 Tryz.ntmps22 (by simp) ?_
  repeat' ((first|(apply y4 ok;rfl)|(apply z4 (k0);rfl;rfl))<;>conv=>whnf)
  all_goals (refine rsD [] [] rfl ?_;(repeat' first|exact y86 _|exact z36|apply z38|apply z80|constructor))
end Go.Proofs.YtjhgpfaodkchjaaGreat
namespace Go.Proofs.YtjhgpfaodkchjaaGreat
open Go.Gl
attribute [local irreducible] z18 AWP z30 z37 z33
def pick (bl:List Int) (p:Int):Int:=bl.getD p.toNat 0
theorem z599 (bl places:List Int) (hl:places.length≤1048576) (hp:InN bl.length places) (hb:bl.length≤1048576):CallsA Tryz.prog 49 [ints bl,ints places] [] (.sref 0 0 places.length) [.cells 1 ((places.map (pick bl)).map enI)]:=by
 refine z13 z16 Tryz.func49 rfl rfl 27 Tryz.ntmps49 (by simp) ?_
 repeat' (first|(apply y4 ok;rfl;conv=>whnf)|(apply y43;((dsimp only;omega));conv=>whnf))
 refine z110 (fun k:Nat=>([(0,ints bl),(5,.sref 0 0 places.length),(11,ints places),(12,.int places.length),(13,.int k)],[.cells 1 ((places.take k).map (fun p=>enI (pick bl p))++List.replicate (places.length - k) [.int 0])])) (fun k=>k≤places.length) (fun k=>places.length - k) 0 (by omega) ⟨[0],rfl,by decide,rfl,⟨⟨rfl,rfl⟩,⟨rfl,rfl⟩,⟨rfl,rfl⟩,⟨rfl,rfl⟩,⟨rfl,rfl⟩,trivial⟩,⟨z62 (by rfl) (z65 (z5 fun _=>rfl) (z50 rfl)),trivial⟩⟩ ?_
 intro k hk
 by_cases hkl:k < places.length
 ·have hx:=hp places[k] (y44 _)
  have hxb:places[k].toNat < bl.length:=by omega
  repeat' (first|(apply y4 ok;rfl;conv=>whnf)|(apply y43;(first|omega|(unfold inI;omega));conv=>whnf)|(with_reducible apply z11;omega;intro _;conv=>whnf)|(with_reducible apply z67;omega;intro _;conv=>whnf)|(apply z192;omega;conv=>whnf)|(apply z6<;>intro _<;>conv=>whnf))
  all_goals try (exfalso;omega)
  exact z98 (k+1) [0] (by omega) (by omega) ⟨rfl,by decide,rfl,⟨⟨rfl,rfl⟩,⟨rfl,rfl⟩,⟨rfl,rfl⟩,⟨rfl,rfl⟩,⟨rfl,rfl⟩,trivial⟩,⟨z945 hkl rfl (y77 k) (by unfold pick;rw [z15 hxb];rfl) (fun _=>rfl) rfl,trivial⟩⟩
 ·repeat' (first|(apply y4 ok;rfl;conv=>whnf)|(apply y43;(omega);conv=>whnf)|(with_reducible apply z11;omega;intro _;conv=>whnf)|(with_reducible apply z67;omega;intro _;conv=>whnf)|(apply z192;omega;conv=>whnf)|(apply z6<;>intro _<;>conv=>whnf))
  all_goals try (exfalso;omega)
  obtain rfl:k=places.length:=by omega
  exact z516 rfl (z5 fun _=>rfl) rfl (by rw [z962 _ _ _ _ rfl,List.map_map];rfl)
def letW (l:List Int):Bool:=!(l.any fun n=>!btw n 0 7)
theorem z868 (n:Int):CallsA Tryz.prog 191 [.int n] [] (.bool (!btw n 0 7)) []:=by
 refine z13 z16 Tryz.func191 rfl rfl 6 Tryz.ntmps191 (by simp) ?_
 repeat' ((first|(apply y4 ok;rfl)|(apply z22;kernel_rfl)|(apply y43;first|omega|(unfold inI;omega)|(dsimp only;omega)|((try dsimp only);simp only [y49,y48,y47,y46,y58,y59];omega)|exact z66 (fun _=>rfl)|exact ⟨rfl,z20 rfl z27⟩|exact ⟨rfl,z66 (fun _=>rfl) _⟩|exact ⟨⟨rfl,by omega⟩,z66 (fun _=>rfl) _⟩|(unfold z97;omega)|(simp only [z95] at *;first|omega|(unfold inI;omega)|(unfold z97;omega)))|((first|(with_reducible apply z11;omega)|(with_reducible apply z67;omega)|(apply z11;omega));intro _)|(apply z192;omega)|apply z104|(apply z299;omega;intro _)|((first|apply z419|apply z312|apply z418|apply z495|apply z6|apply z46|apply z84|apply z90)<;>intro _)|(apply z4 (z296 n 0 7);rfl;rfl))<;>conv=>whnf)
 exact z28 rfl rfl
theorem z606 (l:List Int) (hl:l.length≤maxLen):CallsA Tryz.prog 112 [ints l] [] (.bool (letW l)) []:=by
 have hk:=z269 l hl (fun n=>!btw n 0 7) 191 (fun x _=>z868 x)
 refine z13 z16 Tryz.func112 rfl rfl 6 Tryz.ntmps112 (by simp) ?_
 repeat' ((first|(apply y4 ok;rfl)|(apply z22;kernel_rfl)|(apply y43;first|omega|(unfold inI;omega)|(dsimp only;omega)|((try dsimp only);simp only [y49,y48,y47,y46,y58,y59];omega)|exact z66 (fun _=>rfl)|exact ⟨rfl,z20 rfl z27⟩|exact ⟨rfl,z66 (fun _=>rfl) _⟩|exact ⟨⟨rfl,by omega⟩,z66 (fun _=>rfl) _⟩|(unfold z97;omega)|(simp only [z95] at *;first|omega|(unfold inI;omega)|(unfold z97;omega)))|((first|(with_reducible apply z11;omega)|(with_reducible apply z67;omega)|(apply z11;omega));intro _)|(apply z192;omega)|apply z104|(apply z299;omega;intro _)|((first|apply z419|apply z312|apply z418|apply z495|apply z6|apply z46|apply z84|apply z90)<;>intro _)|(apply z4 (hk);rfl;rfl))<;>conv=>whnf)
 exact z28 rfl rfl
def lasB (t:Trace):Bool:=letW t.stem && (letW t.loop && (decide (t.stem.length≤80) && btw t.loop.length 1 80))
theorem z454 (t:Trace) (h1:t.stem.length≤maxLen) (h2:t.loop.length≤maxLen):CallsA Tryz.prog 50 [.agg t.cs] [] (.bool (lasB t)) []:=by
 have k1:=z606 t.stem h1
 have k2:=z606 t.loop h2
 have k3:=z296 (t.loop.length:Int) 1 80
 unfold maxLen at h1 h2
 unfold lasB
 generalize letW t.stem=a at *
 generalize letW t.loop=b at *
 refine z13 z16 Tryz.func50 rfl rfl 23 Tryz.ntmps50 (by simp) ?_
 cases a<;>cases b
 all_goals
  repeat' ((first|(apply y4 ok;rfl)|(apply z22;kernel_rfl)|(apply y43;first|omega|(unfold inI;omega)|(dsimp only;omega)|((try dsimp only);simp only [y49,y48,y47,y46,y58,y59];omega)|exact z66 (fun _=>rfl)|exact ⟨rfl,z20 rfl z27⟩|exact ⟨rfl,z66 (fun _=>rfl) _⟩|exact ⟨⟨rfl,by omega⟩,z66 (fun _=>rfl) _⟩|(unfold z97;omega)|(simp only [z95] at *;first|omega|(unfold inI;omega)|(unfold z97;omega)))|((first|(with_reducible apply z11;omega)|(with_reducible apply z67;omega)|(apply z11;omega));intro _)|(apply z192;omega)|apply z104|(apply z299;omega;intro _)|((first|apply z419|apply z312|apply z418|apply z495|apply z6|apply z46|apply z84|apply z90)<;>intro _)|(apply z4 (k1);rfl;rfl)|(apply z4 (k2);rfl;rfl)|(apply z4 (k3);rfl;rfl))<;>conv=>whnf)
  all_goals first|(exfalso;omega)|exact z28 rfl rfl|exact z28 rfl (by grind)|skip
def z187 (L:List Int) (t:Trace):Trace:=⟨t.stem.map (pick L),t.loop.map (pick L)⟩
noncomputable def twB (g:Graph) (l:List Tree) (t:Trace):Bool:=glB g l && (trB g t && lasB (z187 (g.st.map (z43 l)) t))
noncomputable def twT (g:Graph) (l:List Tree) (t:Trace):Trace:=if twB g l t then z187 (g.st.map (z43 l)) t else ⟨[],[]⟩
theorem trB_in {g:Graph} {t:Trace} (h:trB g t=true):InN g.st.length t.stem∧InN g.st.length t.loop∧t.stem.length+t.loop.length≤8000:=by
 unfold trB at h
 rw [y71,y71,decide_eq_true_eq] at h
 have key:∀ x∈t.all,0≤x∧x < g.st.length:=fun x hx=>by
  obtain ⟨i,hi,rfl⟩:=List.mem_iff_getElem.1 hx
  exact z523 h.2.1 i hi
 exact ⟨fun x hx=>key x (List.mem_append_left _ hx),fun x hx=>key x (List.mem_append_right _ hx),h.1.2⟩
theorem twT_le {g:Graph} {l:List Tree} {t:Trace} : (twT g l t).stem.length≤80∧(twT g l t).loop.length≤80:=by
 unfold twT
 split
 ·rename_i h
  unfold twB lasB at h
  simp only [y71,decide_eq_true_eq,z95] at h
  exact ⟨by omega,by omega⟩
 ·simp
theorem z814 {o p:Nat} {b:AC} : ACle (.tup [.agg [.nils,.nils],b]) (.tup [.agg [.sref o 0 0,.sref p 0 0],b]):=fun G hh v hv=>by
 simp only [V,VL] at hv ⊢
 obtain ⟨c,rfl,hs,⟨u,h1,c2,rfl,hs2,⟨u1,h2,h3⟩,⟨u2,h4,h5⟩,_⟩,hr⟩:=hv
 refine ⟨c,rfl,hs,⟨_,h1,c2,rfl,hs2,⟨u1,h2,?_⟩,⟨u2,h4,?_⟩,trivial⟩,hr⟩
 ·have:=(z318 (o:=o)) G hh u1 (by simpa [V] using h3)
  simpa [V] using this
 ·have:=(z318 (o:=p)) G hh u2 (by simpa [V] using h5)
  simpa [V] using this
set_option maxHeartbeats 1600000 in
theorem z238 (g:Graph) (hg:g.mx) (l:List Tree) (hl:Lmx l) (t:Trace) (h1:t.stem.length≤1048576) (h2:t.loop.length≤1048576):CallsA Tryz.prog 18 [.agg g.cs,lst 3 Tree.cs' l,.agg t.cs] [] (.tup [.agg [.sref 0 0 (twT g l t).stem.length,.sref 1 0 (twT g l t).loop.length],.bool (twB g l t)]) [.cells 1 ((twT g l t).stem.map enI),.cells 1 ((twT g l t).loop.map enI)]:=by
 have k1:=z297 g hg t h1 h2
 have k2:=z225 l hl.1 hl.2
 by_cases hv:(trB g t && z166 l)=true
 ·obtain ⟨ht,hlb⟩:=Bool.and_eq_true_iff.1 hv
  have hgb:z205 g=true:=by
   unfold trB at ht
   rw [y71,y71] at ht
   exact z600 ht.2.1
  have hG:=(z83 g).1 hgb
  have hL:=y8 hlb
  have k3:=z953 g hG.vals hG.1.2 l hL
  obtain ⟨i1,i2,i3⟩:=trB_in ht
  have hLl:(g.st.map (z43 l)).length=g.st.length:=by simp
  have h60:=hG.1.2
  have hglb:glB g l=true:=by unfold glB;rw [hgb,hlb];rfl
  have eb:twB g l t=lasB (z187 (g.st.map (z43 l)) t):=by unfold twB;rw [hglb,ht];rfl
  have et:twT g l t=if lasB (z187 (g.st.map (z43 l)) t) then z187 (g.st.map (z43 l)) t else ⟨[],[]⟩:=by unfold twT;rw [eb]
  rw [eb,et]
  generalize g.st.map (z43 l)=L at *
  have kp1:=z599 L t.stem h1 (by rw [hLl];exact i1) (by omega)
  have kp2:=z599 L t.loop h2 (by rw [hLl];exact i2) (by omega)
  have hw1:(z187 L t).stem.length=t.stem.length:=by simp [z187]
  have hw2:(z187 L t).loop.length=t.loop.length:=by simp [z187]
  have kl:=z454 (z187 L t) (by unfold maxLen;omega) (by unfold maxLen;omega)
  have e1:t.stem.map (pick L)=(z187 L t).stem:=rfl
  have e2:t.loop.map (pick L)=(z187 L t).loop:=rfl
  rw [e1,← hw1] at kp1
  rw [e2,← hw2] at kp2
  rw [ht] at k1
  rw [hlb] at k2
  generalize hW:z187 L t=W at *
  by_cases hb:lasB W=true
  ·rw [hb] at kl ⊢
   rw [if_pos rfl]
   refine z13 z16 Tryz.func18 rfl rfl 37 Tryz.ntmps18 (by simp) ?_
   repeat' ((first|(apply y4 ok;rfl)|(apply z22;kernel_rfl)|(apply y43;first|omega|(unfold inI;omega)|(dsimp only;omega)|((try dsimp only);simp only [y49,y48,y47,y46,y58,y59];omega)|exact z66 (fun _=>rfl)|exact ⟨rfl,z20 rfl z27⟩|exact ⟨rfl,z66 (fun _=>rfl) _⟩|exact ⟨⟨rfl,by omega⟩,z66 (fun _=>rfl) _⟩|(unfold z97;omega)|(simp only [z95] at *;first|omega|(unfold inI;omega)|(unfold z97;omega)))|((first|(with_reducible apply z11;omega)|(with_reducible apply z67;omega)|(apply z11;omega));intro _)|(apply z192;omega)|apply z104|(apply z299;omega;intro _)|((first|apply z419|apply z312|apply z418|apply z495|apply z6|apply z46|apply z84|apply z90)<;>intro _)|(apply z4 (k1);rfl;rfl)|(apply z4 (k2);rfl;rfl)|(apply z4 (k3);rfl;rfl)|((first|(apply z411 [] [] [3] kp1;rfl;(focus ((repeat' first|exact z32|apply z45)<;>first|rfl|(refine z59 rfl ?_;(first|exact z5 fun _=>rfl|exact z23|exact z50 rfl|(apply z65<;>exact z5 fun _=>rfl)|assumption)))))|(apply z411 [] [] [4] kp2;rfl;(focus ((repeat' first|exact z32|apply z45)<;>first|rfl|(refine z59 rfl ?_;(first|exact z5 fun _=>rfl|exact z23|exact z50 rfl|(apply z65<;>exact z5 fun _=>rfl)|assumption)))))|(apply z411 [] [3,4] [] kl;(focus (exact z42 (z901 (z42 (z108 rfl rfl rfl) (z42 (z108 rfl rfl rfl) z69))) z69));(focus ((repeat' first|exact z32|apply z45)<;>first|rfl|(refine z59 rfl ?_;(first|exact z5 fun _=>rfl|exact z23|exact z50 rfl|(apply z65<;>exact z5 fun _=>rfl)|assumption))))));rfl;(focus ((repeat' first|exact z17|apply z14)<;>first|exact z106|exact z47 rfl rfl|(refine z19 ?_;(first|exact z5 fun _=>rfl|exact z23|exact z50 rfl|(apply z65<;>exact z5 fun _=>rfl)|assumption))));(first|exact .inl rfl|(refine .inr ⟨rfl,?_⟩;repeat' first|exact True.intro|apply y43|exact rfl|exact z102 (fun _=>rfl) _))))<;>conv=>whnf)
   all_goals first|(exfalso;omega)|(exfalso;simp_all;done)|skip
   all_goals exact z86 [3,4] (by decide) rfl rfl rfl ⟨z62 rfl (z5 fun _=>rfl),z62 rfl (z5 fun _=>rfl),trivial⟩
  ·rw [(y72 _).mp hb] at kl ⊢
   rw [if_neg (by simp)]
   refine CallsA.nils (res:=.tup [.agg [.nils,.nils],.bool false]) ?_ (by simp) z814
   refine z13 z16 Tryz.func18 rfl rfl 37 Tryz.ntmps18 (by simp) ?_
   repeat' ((first|(apply y4 ok;rfl)|(apply z22;kernel_rfl)|(apply y43;first|omega|(unfold inI;omega)|(dsimp only;omega)|((try dsimp only);simp only [y49,y48,y47,y46,y58,y59];omega)|exact z66 (fun _=>rfl)|exact ⟨rfl,z20 rfl z27⟩|exact ⟨rfl,z66 (fun _=>rfl) _⟩|exact ⟨⟨rfl,by omega⟩,z66 (fun _=>rfl) _⟩|(unfold z97;omega)|(simp only [z95] at *;first|omega|(unfold inI;omega)|(unfold z97;omega)))|((first|(with_reducible apply z11;omega)|(with_reducible apply z67;omega)|(apply z11;omega));intro _)|(apply z192;omega)|apply z104|(apply z299;omega;intro _)|((first|apply z419|apply z312|apply z418|apply z495|apply z6|apply z46|apply z84|apply z90)<;>intro _)|(apply z4 (k1);rfl;rfl)|(apply z4 (k2);rfl;rfl)|(apply z4 (k3);rfl;rfl)|((first|(apply z411 [] [] [3] kp1;rfl;(focus ((repeat' first|exact z32|apply z45)<;>first|rfl|(refine z59 rfl ?_;(first|exact z5 fun _=>rfl|exact z23|exact z50 rfl|(apply z65<;>exact z5 fun _=>rfl)|assumption)))))|(apply z411 [] [] [4] kp2;rfl;(focus ((repeat' first|exact z32|apply z45)<;>first|rfl|(refine z59 rfl ?_;(first|exact z5 fun _=>rfl|exact z23|exact z50 rfl|(apply z65<;>exact z5 fun _=>rfl)|assumption)))))|(apply z411 [] [3,4] [] kl;(focus (exact z42 (z901 (z42 (z108 rfl rfl rfl) (z42 (z108 rfl rfl rfl) z69))) z69));(focus ((repeat' first|exact z32|apply z45)<;>first|rfl|(refine z59 rfl ?_;(first|exact z5 fun _=>rfl|exact z23|exact z50 rfl|(apply z65<;>exact z5 fun _=>rfl)|assumption))))));rfl;(focus ((repeat' first|exact z17|apply z14)<;>first|exact z106|exact z47 rfl rfl|(refine z19 ?_;(first|exact z5 fun _=>rfl|exact z23|exact z50 rfl|(apply z65<;>exact z5 fun _=>rfl)|assumption))));(first|exact .inl rfl|(refine .inr ⟨rfl,?_⟩;repeat' first|exact True.intro|apply y43|exact rfl|exact z102 (fun _=>rfl) _))))<;>conv=>whnf)
   all_goals first|(exfalso;omega)|exact z55 rfl rfl rfl|(exfalso;simp_all;done)|skip
 ·have hv:=(y72 _).mp hv
  have eb:twB g l t=false:=by
   unfold twB glB
   revert hv
   cases trB g t<;>cases z166 l<;>cases z205 g<;>simp
  have et:twT g l t=⟨[],[]⟩:=by unfold twT;rw [eb];rfl
  rw [eb,et]
  generalize trB g t=b1 at *
  generalize z166 l=b2 at *
  refine CallsA.nils (res:=.tup [.agg [.nils,.nils],.bool false]) ?_ (by simp) z814
  refine z13 z16 Tryz.func18 rfl rfl 37 Tryz.ntmps18 (by simp) ?_
  cases b1<;>cases b2<;>first|(exfalso;revert hv;decide)|skip
  all_goals
   repeat' ((first|(apply y4 ok;rfl)|(apply z22;kernel_rfl)|(apply y43;first|omega|(unfold inI;omega)|(dsimp only;omega)|((try dsimp only);simp only [y49,y48,y47,y46,y58,y59];omega)|exact z66 (fun _=>rfl)|exact ⟨rfl,z20 rfl z27⟩|exact ⟨rfl,z66 (fun _=>rfl) _⟩|exact ⟨⟨rfl,by omega⟩,z66 (fun _=>rfl) _⟩|(unfold z97;omega)|(simp only [z95] at *;first|omega|(unfold inI;omega)|(unfold z97;omega)))|((first|(with_reducible apply z11;omega)|(with_reducible apply z67;omega)|(apply z11;omega));intro _)|(apply z192;omega)|apply z104|(apply z299;omega;intro _)|((first|apply z419|apply z312|apply z418|apply z495|apply z6|apply z46|apply z84|apply z90)<;>intro _)|(apply z4 (k1);rfl;rfl)|(apply z4 (k2);rfl;rfl))<;>conv=>whnf)
   all_goals first|(exfalso;omega)|exact z55 rfl rfl rfl|(exfalso;simp_all;done)|skip
end Go.Proofs.YtjhgpfaodkchjaaGreat
namespace Go.Proofs.YtjhgpfaodkchjaaGreat
open Go.Gl
attribute [local irreducible] z18 AWP z30 z37 z33 RetS z44
def nxW (N s:Nat) (i:Nat):Int:=if i+1=N then (s:Int) else ((i+1:Nat):Int)
def pushW (a:Aut) (word:List Int) (s i:Nat):List (Nat×Int):=a.ed.flatMap (z286 a.acc.length i (word.getD i 0) (nxW word.length s i))
def accW (a:Aut) (word:List Int) (s:Nat):List (List Int):=build (word.length * a.acc.length) ((List.range word.length).flatMap (pushW a word s))
theorem nxW_in {N s i:Nat} (hs:s < N) (hi:i < N):0≤nxW N s i∧nxW N s i≤N - 1:=by unfold nxW;split<;>omega
theorem all_ok (t:Trace) (h0:1≤t.loop.length) (h1:t.stem.length+t.loop.length≤1000000):CallsA Tryz.prog 113 [.agg t.cs] [] (ints t.all) []:=by
 have k:=z625 t.stem t.loop (by omega) (by omega)
 have hl:t.all.length=t.stem.length+t.loop.length:=by unfold Trace.all;simp
 refine keepI (n:=t.stem.length+t.loop.length) ?_ hl
 refine z7 z16 Tryz.func113 rfl rfl 9 Tryz.ntmps113 (by simp) ?_
 repeat' ((first|(apply y4 ok;rfl)|(apply z96 [] [1] [2] k;(focus ((repeat' first|exact z69|apply z42)<;>rfl));rfl;rfl;(focus ((repeat' first|exact z17|apply z14)<;>(refine z19 ?_;((exact z5 fun _=>rfl)))));((refine .inr ⟨rfl,?_⟩;repeat' first|exact True.intro|apply y43|exact z102 (fun _=>rfl) _))))<;>conv=>whnf)
 all_goals (refine rsD [2] [] rfl ?_;(repeat' first|exact y86 _|exact z9 _|refine z8 rfl (z5 (fun _=>rfl)) ?_|constructor))
theorem z1144 (t:Trace) (h1:t.stem.length+t.loop.length≤1000000) (i:Nat) (hi:i≤1000000):CallsA Tryz.prog 115 [.agg t.cs,.int i] [] (.int (nxW (t.stem.length+t.loop.length) t.stem.length i)) []:=by
 unfold nxW
 refine z7 z16 Tryz.func115 rfl rfl 20 Tryz.ntmps115 (by simp) ?_
 by_cases h:i+1=t.stem.length+t.loop.length
 ·rw [if_pos h]
  repeat' ((first|(apply y4 ok;rfl)|(apply y43;first|omega|(unfold inI;omega))|((apply z6)<;>intro _))<;>conv=>whnf)
  all_goals try (exfalso;omega)
  all_goals (refine rsD [] [] rfl ?_;(repeat' first|exact y86 _|constructor))
 ·rw [if_neg h]
  repeat' ((first|(apply y4 ok;rfl)|(apply y43;(unfold inI;omega))|((apply z6)<;>intro _))<;>conv=>whnf)
  all_goals try (exfalso;omega)
  all_goals (refine rsD [] [] rfl ?_;(repeat' first|exact y86 _|constructor))
def BackR {α:Type} (M:Nat) (Gc:Ghost) (wc:World) (rest:α→List AObj) (L:List Int) (env:List (Nat×AC)) (x:α) (a:Act) (w:World):Prop :=
 ∃ G,SubM M Gc G∧Le wc w∧Rel G (mkSt 19 env (.cells 1 [[ints L]]::rest x)) a w
def IsSt {α:Type} (rest:α→List AObj) (L:List Int) (x:α) (env' : List (Nat×AC)) (st:St):Prop:=st=mkSt 19 env' (.cells 1 [[ints L]]::rest x)
theorem BackR.step {α : Type} {M : Nat} {Gc : Ghost} {wc : World} {rest : α → List AObj} {L : List Int} {env env' : List (Nat × AC)} {x : α} {a : Act} {w : World} {c : Code}
    (h:BackR M Gc wc rest L env x a w) (hc:AWP Tryz.prog M c (z645 (IsSt rest L x env') (fun _ _=>False)) (mkSt 19 env (.cells 1 [[ints L]]::rest x))) {K:Act→World→Prop} {Q:Exit→Act→World→Prop}
    (hk:∀ a w,BackR M Gc wc rest L env' x a w→K a w):c.wpIn Fence.wide 0 Tryz.prog (Exit.then K Q) a w:=by
  obtain ⟨G,h1,h2,h3⟩:=h
  refine wpIn_mono (hc.at_ h3) ?_
  rintro ex a' w' ⟨G',st',k1,k2,k3,k4⟩
  cases ex with
  | normal =>
    have k3:st'=_:=k3
    subst k3
    exact hk _ _ ⟨G',h1.trans k1,h2.trans k2,k4⟩
  | _=>exact k3.elim
theorem BackR.less {α:Type} {M:Nat} {Gc:Ghost} {wc:World} {rest:α→List AObj} {L:List Int} {env env' : List (Nat×AC)} {x:α} {a:Act} {w:World} (h:BackR M Gc wc rest L env x a w) (he:z790 (fun s y=>z99 env s=y) env'):BackR M Gc wc rest L env' x a w:=by
 obtain ⟨G,h1,h2,h3⟩:=h
 refine ⟨G,h1,h2,h3.wf,fun s=>?_,h3.size,h3.defers⟩
 rcases z360 env' _ he s with e|e
 ·show V _ _ _ (z99 env' s) _
  rw [e];simp [V]
 ·have:=h3.env s
  show V _ _ _ (z99 env' s) _
  rw [← e];exact this
theorem BackR.val {α:Type} {M:Nat} {Gc:Ghost} {wc:World} {rest:α→List AObj} {L:List Int} {env:List (Nat×AC)} {x:α} {a:Act} {w:World} (h:BackR M Gc wc rest L env x a w) {s:Nat} {v:Value} (he:z99 env s=.raw v):a.tmps.getD s undef=v:=by
 obtain ⟨G,_,_,hR⟩:=h
 have:=hR.env s
 rw [show (mkSt 19 env (.cells 1 [[ints L]]::rest x)).env s=z99 env s from rfl,he] at this
 simpa only [V] using this
def NoAcc (rows:List (List Int)) (ini:List Int) (acc:List Bool):Prop:=∀ x,RP rows ini x→Cyc rows x→acc.getD (x % acc.length).toNat false=false
section
variable {rows:List (List Int)} {ini:List Int} {acc:List Bool} {R:List Int}
end
end Go.Proofs.YtjhgpfaodkchjaaGreat
namespace Go.Proofs.YtjhgpfaodkchjaaGreat
open Go.Gl
attribute [local irreducible] z18 AWP z30 z37 z33 RetS z44
attribute [local irreducible] EndR
theorem z1090 {g:Graph} {ls:List Int} {a:Aut} (hr:∀ r∈z49 g ls a,InN (z49 g ls a).length r) (hi:InN (z49 g ls a).length a.ini) (hn:a.ini.Nodup) (h:trcO g ls a=none):NoAcc (z49 g ls a) a.ini a.acc:=by
 unfold trcO at h
 rw [Option.map_eq_none_iff,← z320 hr hi hn,z763] at h
 intro x hx hc
 have hxN:=RP.in hr hi hx
 have:=h x ((z904 hr hi x).2 hx)
 cases hb:a.acc.getD (x % a.acc.length).toNat false with
 |false=>rfl
 |true =>
  exfalso
  apply this
  refine ⟨hb,z325.2 ?_⟩
  rw [Int.toNat_of_nonneg hxN.1];exact hc
end Go.Proofs.YtjhgpfaodkchjaaGreat
namespace Go.Proofs.YtjhgpfaodkchjaaGreat
open Go.Gl
attribute [local irreducible] z18 AWP z30 z37 z33
end Go.Proofs.YtjhgpfaodkchjaaGreat
namespace Go.Proofs.YtjhgpfaodkchjaaGreat
open Go.Gl
attribute [local irreducible] z18 AWP z30 z37 z33 RetS z44
theorem z1142 {g:Graph} {ls:List Int} {a:Aut} (hr:∀ r∈z49 g ls a,InN (z49 g ls a).length r) (hi:InN (z49 g ls a).length a.ini) (hn:a.ini.Nodup) (h:NoAcc (z49 g ls a) a.ini a.acc):trcO g ls a=none:=by
 unfold trcO
 rw [Option.map_eq_none_iff,← z320 hr hi hn,z763]
 rintro v hv ⟨h1,h2⟩
 have hvN:=z629 hr hi _ v hv
 have hc:=z325.1 h2
 rw [Int.toNat_of_nonneg hvN.1] at hc
 have:=h v ((z904 hr hi v).1 hv) hc
 rw [h1] at this;cases this
theorem z554 {N:Nat} {ps:List (Nat×Int)} {r:Nat} {y:Int} : y∈(build N ps).getD r []↔r < N∧(r,y)∈ps:=by
 by_cases h:r < N
 ·rw [z15 (by rw [z92];exact h),z412 (by rw [z92];exact h)]
  simp only [y60,List.mem_filter,beq_iff_eq,h,true_and]
  constructor
  ·rintro ⟨⟨p,v⟩,⟨h1,h2⟩,h3⟩
   dsimp only at h2 h3
   subst h2;subst h3;exact h1
  ·intro h1;exact ⟨(r,y),⟨h1,rfl⟩,rfl⟩
 ·have e:(build N ps).getD r []=[]:=by rw [y68,y69 (by rw [z92];omega)];rfl
  rw [e];simp [h]
theorem z1128 {g:Graph} {ls:List Int} {a:Aut} {i:Nat} {to:Int} {e:Trans} (hsrc:e.src.toNat < a.acc.length) (hi:i < g.st.length) (hto:to∈g.nx.getD i []) (he:e∈a.ed) (hon:onB e (ls.getD i 0)=true):to * a.acc.length+e.dst∈(z49 g ls a).getD (i * a.acc.length+e.src.toNat) []:=by
 unfold z49
 refine z554.2 ⟨?_,List.mem_flatMap.2 ⟨i,List.mem_range.2 hi,?_⟩⟩
 ·have h1:(i+1) * a.acc.length≤g.st.length * a.acc.length:=Nat.mul_le_mul_right _ hi
  rw [Nat.add_mul,Nat.one_mul,Nat.mul_comm g.st.length] at h1
  omega
 ·unfold z428
  refine List.mem_flatMap.2 ⟨to,hto,List.mem_flatMap.2 ⟨e,he,?_⟩⟩
  unfold z286
  rw [if_pos hon];simp
section
variable {g:Graph} {ls:List Int} {a:Aut} {t:Trace}
theorem z636:(z187 ls t).all=t.all.map (pick ls):=by unfold Trace.all z187;simp
theorem trB_step (ht:trB g t=true) {i:Nat} (hi:i < t.all.length):(0≤t.all.getD i 0∧t.all.getD i 0 < g.st.length)∧t.all.getD (nxW t.all.length t.stem.length i).toNat 0∈g.nx.getD (t.all.getD i 0).toNat []:=by
 have h0:=ht
 unfold trB at ht
 simp only [y71,decide_eq_true_eq] at ht
 obtain ⟨⟨a1,a2⟩,a3,a4,a5⟩:=ht
 have hal:t.all.length=t.stem.length+t.loop.length:=by unfold Trace.all;simp
 have hin:=z523 a3 i hi
 have hst:∀ i,i < t.all.length→z351 g t.all i=true:=fun i hi=>by
  unfold z287 at a3
  rw [y71,y71,y79] at a3
  exact a3.2.2 i (List.mem_range.2 hi)
 refine ⟨by rw [z15 hi];exact hin,?_⟩
 unfold nxW
 split
 ·rename_i h
  have e1:t.all.getD t.stem.length 0=t.loop.getD 0 0:=by
   unfold Trace.all
   rw [y68,y68,y67 (y52 _),Nat.sub_self]
  have e2:t.all.getD i 0=t.loop.getD (t.loop.length - 1) 0:=by
   unfold Trace.all
   rw [y68,y68,y67 (by omega),show i - t.stem.length=t.loop.length - 1 by omega]
  rw [y77,e1,e2];exact a5
 ·have h2:=hst (i+1) (by omega)
  unfold z351 at h2
  simp only [y71,Bool.or_eq_true,decide_eq_true_eq] at h2
  rw [y77]
  rcases h2.2 with h3|h3
  ·omega
  ·rwa [Nat.add_sub_cancel] at h3
end
end Go.Proofs.YtjhgpfaodkchjaaGreat
namespace Go.Proofs.YtjhgpfaodkchjaaGreat
open Go.Gl
attribute [local irreducible] z18 AWP z30 z37 z33 RetS z44
theorem z928 (l:List Int) (i:Nat):List.take ((i:Int).toNat - Int.toNat 0) (List.drop (Int.toNat 0) (List.map enI l))=List.map enI (l.take i):=by
 simp [List.map_take]
theorem z929 (l:List Int) (i:Nat):List.take ((l.length:Int).toNat - (i:Int).toNat) (List.drop (i:Int).toNat (List.map enI l))=List.map enI (l.drop i):=by
 rw [y77,y77,← List.map_drop,y57 (by simp)]
end Go.Proofs.YtjhgpfaodkchjaaGreat
namespace Go.Proofs.YtjhgpfaodkchjaaGreat
open Go.Gl
attribute [local irreducible] z18 AWP z30 z37 z33
theorem GB.row {g:Graph} (h:GB g):∀ i (hi:i < g.nx.length),1≤g.nx[i].length∧g.nx[i].length≤60∧InN g.st.length g.nx[i]:=fun i hi=>by
 obtain ⟨⟨g1,g2⟩,g3,g4⟩:=h
 have h4:=g4 i hi hi (by omega)
 refine ⟨by have:=h4.2.1;omega,by have:=h4.2.1;omega,fun x hx=>?_⟩
 obtain ⟨j,hj,rfl⟩:=List.mem_iff_getElem.1 hx
 have:=(h4.2.2.2 j hj hj).1
 omega
end Go.Proofs.YtjhgpfaodkchjaaGreat
namespace Go.Proofs.YtjhgpfaodkchjaaGreat
open Go.Gl
attribute [local irreducible] z18 AWP z30 z37 z33 RetS z44
def AccP (a:Aut) (t:Trace):Prop:=∃ x,RP (accW a t.all t.stem.length) a.ini x∧Cyc (accW a t.all t.stem.length) x∧a.acc.getD (x % a.acc.length).toNat false=true
noncomputable def accR (a:Aut) (t:Trace):Bool:=@decide (AccP a t) (Classical.propDecidable _)
theorem accR_iff {a:Aut} {t:Trace} : accR a t=true↔AccP a t:=by unfold accR;exact @decide_eq_true_iff _ (Classical.propDecidable _)
def wkC (c:List Int) (k:Nat):Int:=if k < c.length then c.getD k 0 else (k:Int)
def wkN (rows:List (List Int)) (c:List Int) (path:List Int) (k:Nat):Int:=(rows.getD (path.getD (path.length - 1) 0).toNat []).getD (wkC c k % (rows.getD (path.getD (path.length - 1) 0).toNat []).length).toNat 0
def wkB (c:List Int) (k:Nat):Bool:=decide (c.length≤k) || (decide (6 < k) || decide (99 < c.getD k 0))
def srcW (path:List Int) (n:Int) (b:Bool):Nat→Nat→Option Nat
 |0,_=>none
 |f+1,i=>if path.getD i 0=n∧b=true then some i else srcW path n b f (i+1)
def wkT (rows:List (List Int)) (c:List Int):Nat→Nat→List Int→Trace
 |0,_,path=>⟨path,[]⟩
 |f+1,k,path=>match srcW path (wkN rows c path k) (wkB c k) path.length 0 with
  |some i=>⟨path.take i,path.drop i⟩
  |none=>wkT rows c f (k+1) (path++[wkN rows c path k])
theorem z1070 (rows:List (List Int)) (c:List Int):∀ (f k:Nat) (path:List Int),path.length+f≤71→(wkT rows c f k path).stem.length≤71∧(wkT rows c f k path).loop.length≤71
 |0,_,path,h=>by simp only [wkT];simp;omega
 |f+1,k,path,h=>by
  rw [wkT]
  split
  ·simp only [y48,List.length_drop];omega
  ·exact z1070 rows c f (k+1) _ (by simp;omega)
set_option maxHeartbeats 6400000 in
theorem z1068 (g:Graph) (hg:g.d) (hG:GB g) (c:List Int) (hc:CodeOk c):CallsA Tryz.prog 19 [.agg g.cs,lst 1 enU c] [] (.agg (wkT g.nx c 70 0 [0]).cs) []:=by
 have hnx:g.nx.length=g.st.length:=hG.2.1
 have h60:=hG.1.2
 have h1:=hG.1.1
 have hlen:=hc.len
 unfold maxLen at hlen
 have hrow:∀ i (hi:i < g.nx.length),1≤g.nx[i].length∧g.nx[i].length≤60∧∀ x∈g.nx[i],0≤x∧x < (g.st.length:Int):=fun i hi=>by
  obtain ⟨a1,a2,a3⟩:=GB.row hG i hi
  exact ⟨a1,by omega,a3⟩
 generalize hR:wkT g.nx c 70 0 [0]=R
 refine z7 z16 Tryz.func19 rfl rfl 85 Tryz.ntmps19 (by simp) ?_
 repeat' (((apply y4 ok;rfl))<;>conv=>whnf)
 refine z63 (fun x:Nat×List Int=>([(1,lst 1 enU c),(2,.ptr 0 none 0),(4,.ptr 1 none 0),(5,.sref 2 0 x.2.length),(6,.int x.1)],[.cells 2 [g.cs],.cells 2 [[.nils,.nils]],.cells 1 (x.2.map enI)])) (fun x=>x.1≤70∧x.2.length=x.1+1∧(∀ y∈x.2,0≤y∧y < (g.st.length:Int))∧wkT g.nx c (70 - x.1) x.1 x.2=R) (fun x=>70 - x.1) (0,[0]) ⟨y53 _,rfl,by simp;omega,hR⟩ (by refine swR [0,1,2] [] rfl rfl ?_;(repeat' first|exact y86 _|apply y87|constructor)) ?_
 rintro ⟨k,path⟩ ⟨hk,hpl,hin,hw⟩
 dsimp only at hk hpl hin hw ⊢
 by_cases hk7:k < 70
 ·rw [show 70 - k=(70 - (k+1))+1 by omega,wkT] at hw
  have hla:path.length - 1 < path.length:=by omega
  have gl:(path.map enI)[path.length - 1]?=some (enI (path.getD (path.length - 1) 0)):=by rw [y51,y45 hla,z15 hla];rfl
  have hx:=hin (path.getD (path.length - 1) 0) (by rw [z15 hla];exact y44 _)
  have est:wkN g.nx c path k=(g.nx.getD (path.getD (path.length - 1) 0).toNat []).getD (wkC c k % (g.nx.getD (path.getD (path.length - 1) 0).toNat []).length).toNat 0:=rfl
  generalize path.getD (path.length - 1) 0=x at *
  have hxn:x.toNat < g.nx.length:=by omega
  have gr:(g.nx.map encL)[x.toNat]?=some (encL (g.nx.getD x.toNat [])):=by rw [y51,y45 hxn,z15 hxn];rfl
  have hr:=hrow x.toNat hxn
  rw [← z15 hxn (d:=[])] at hr
  generalize g.nx.getD x.toNat []=row at *
  have hcb:k < c.length→0≤c.getD k 0∧c.getD k 0≤255:=fun h=>by
   rw [z15 h];exact hc.el _ (y44 h)
  have hcc:wkC c k=if k < c.length then c.getD k 0 else (k:Int):=rfl
  have hbb:wkB c k=true↔(c.length≤k∨6 < k∨99 < c.getD k 0):=by unfold wkB;simp
  have hch:0≤wkC c k:=by
   rw [hcc];split
   ·rename_i h;exact (hcb h).1
   ·omega
  have hm0:0≤wkC c k % (row.length:Int):=Int.emod_nonneg _ (by omega)
  have hm1:wkC c k % (row.length:Int) < row.length:=Int.emod_lt_of_pos _ (by omega)
  have gn:(row.map enI)[(wkC c k % (row.length:Int)).toNat]?=some (enI (wkN g.nx c path k)):=by
   rw [est,y51,y45 (by omega),z15 (by omega)];rfl
  have hn:=hr.2.2 (wkN g.nx c path k) (by rw [est,z15 (by omega)];exact y44 _)
  have gc:k < c.length→(c.map enU)[k]?=some (enU (c.getD k 0)):=fun h=>by
   rw [y51,y45 h,z15 h];rfl
  clear est
  generalize wkN g.nx c path k=n at *
  generalize wkB c k=b at *
  generalize wkC c k=ch at *
  generalize c.getD k 0=v at *
  generalize hS:srcW path n b path.length 0=SR at *
  by_cases hkc:k < c.length
  ·rw [if_pos hkc] at hcc
   subst hcc
   have gc:=gc hkc
   have hcb:=hcb hkc
   have hwr:IntKind.i64.wrap ch=ch:=z216 (by unfold inI;omega)
   repeat' ((first|(apply y4 ok;rfl)|(apply z22;kernel_rfl)|(refine z12 (i:=path.length - 1) (by omega) gl ?_)|(refine z12 (i:=x.toNat) rfl gr ?_)|(refine z12 (i:=k) rfl gc ?_)|(refine y43 hwr ?_)|(refine z12 (i:=(ch % (row.length:Int)).toNat) rfl gn ?_)|(apply y43;first|omega|(unfold inI;omega))|(((with_reducible apply z67;omega));intro _)|((apply z6)<;>intro _))<;>conv=>whnf)
   all_goals try (exfalso;omega)
   refine z63 (fun i:Nat=>([(1,lst 1 enU c),(2,.ptr 0 none 0),(4,.ptr 1 none 0),(5,.sref 2 0 path.length),(6,.int k),(9,.int n),(10,.int i)],[.cells 2 [g.cs],.cells 2 [[.nils,.nils]],.cells 1 (path.map enI)])) (fun i=>i≤path.length∧srcW path n b (path.length - i) i=SR) (fun i=>path.length - i) 0 ⟨y53 _,hS⟩ (by refine swR [0,1,2] [] rfl rfl ?_;(repeat' first|exact y86 _|exact z9 _|apply y87|refine z8 rfl (z5 (fun _=>rfl)) ?_|constructor)) ?_
   rintro i ⟨hi,hSi⟩
   dsimp only at hi hSi ⊢
   by_cases hil:i < path.length
   ·have gy:(path.map enI)[i]?=some (enI (path.getD i 0)):=by rw [y51,y45 hil,z15 hil];rfl
    rw [show path.length - i=(path.length - (i+1))+1 by omega,srcW] at hSi
    generalize path.getD i 0=y at *
    by_cases hy:y=n∧b=true
    ·rw [if_pos hy] at hSi
     subst hSi
     dsimp only at hw
     subst hw
     obtain ⟨rfl,rfl⟩:=hy
     have hb3:=hbb.1 rfl
     repeat' ((first|((fail_if_success apply z93 14);(fail_if_success apply z77 14);apply y4 ok;rfl)|(refine z12 (i:=i) rfl gy ?_)|(refine z12 (i:=k) rfl gc ?_)|(apply y43;omega)|((apply z6)<;>intro _))<;>conv=>whnf)
     all_goals try (exfalso;omega)
     all_goals
      refine y85 (SealW.reach (env:=[(4,.ptr 1 none 0),(5,ints path),(10,.int i)]) (objs:=[.cells 2 [g.cs],.cells 2 [[.nils,.nils]]]) [0,1] [2] rfl rfl rfl rfl ?_ ?_) ?_
      ·(repeat' first|exact y86 _|((apply z41 rfl rfl rfl);(focus ((repeat ((exact z34 (fun _=>rfl) _)));done));(focus (((simp;done));done)))|constructor)
      ·(repeat' first|exact y86 _|apply y87|constructor)
      conv=>whnf
      repeat' ((first|(apply y4 ok;rfl)|(apply z22;kernel_rfl)|(apply y43;omega))<;>conv=>whnf)
      all_goals (refine rsD [] [] rfl ?_;(repeat' first|apply z38|(refine z73 ?_ ?_;(focus (simp;done)))|constructor))
      all_goals first|refine z73 ?_ (z51 ?_)|refine z51 ?_
      all_goals first|exact z928 path i|exact z929 path i|(show (i:Int).toNat - Int.toNat 0=(List.take i path).length;rw [y48];omega)
    ·rw [if_neg hy] at hSi
     have hy2:y=n→¬ (c.length≤k∨6 < k∨99 < ch):=fun h1 h2=>hy ⟨h1,hbb.2 h2⟩
     repeat' ((first|(apply y4 ok;rfl)|(apply z22;kernel_rfl)|(refine z12 (i:=i) rfl gy ?_)|(refine z12 (i:=k) rfl gc ?_)|(apply y43;first|omega|(unfold inI;omega))|((apply z6)<;>intro _))<;>conv=>whnf)
     all_goals try (exfalso;omega)
     all_goals refine z25 (i+1) ⟨hil,hSi⟩ (by show path.length - (i+1) < path.length - i;omega) (by refine swR [0,1,2] [] rfl rfl ?_;(repeat' first|exact y86 _|exact z9 _|apply y87|refine z8 rfl (z5 (fun _=>rfl)) ?_|constructor))
   ·obtain rfl:i=path.length:=by omega
    rw [Nat.sub_self,srcW] at hSi
    subst hSi
    dsimp only at hw
    repeat' ((first|(apply y4 ok;rfl)|(apply z22;kernel_rfl)|(apply y43;first|omega|(unfold inI;omega)|((try dsimp only);simp only [y49,y48,y47,y46,y58,y59];omega)|exact ⟨rfl,z20 rfl z27⟩)|((first|(with_reducible apply z11;omega)|(apply z11;omega));intro _)|((apply z6)<;>intro _))<;>conv=>whnf)
    all_goals try (exfalso;omega)
    all_goals refine z25 (k+1,path++[n]) ⟨by show k+1≤70;omega,by simp;omega,fun z hz=>by rcases List.mem_append.1 hz with h|h;exact hin z h;rw [List.mem_singleton.1 h];exact hn,hw⟩ (by show 70 - (k+1) < 70 - k;omega) (by refine swR [0,1,4] [] rfl rfl ?_;(repeat' first|exact y86 _|(refine z52 ?_;((simp;done)))|apply y87|((refine z35 rfl ?_ ?_);(focus ((repeat' (first|exact z5 (fun _=>rfl)|apply z21));done)))|(refine z78 ?_ ?_;(focus (omega)))|constructor))
  ·rw [if_neg hkc] at hcc
   clear gc hcb
   subst hcc
   repeat' ((first|(apply y4 ok;rfl)|(apply z22;kernel_rfl)|(refine z12 (i:=path.length - 1) (by omega) gl ?_)|(refine z12 (i:=x.toNat) rfl gr ?_)|(refine z12 (i:=((k:Int) % (row.length:Int)).toNat) rfl gn ?_)|(apply y43;first|omega|(unfold inI;omega))|((first|(with_reducible apply z11;omega)|(with_reducible apply z67;omega));intro _)|((apply z6)<;>intro _))<;>conv=>whnf)
   all_goals try (exfalso;omega)
   refine z63 (fun i:Nat=>([(1,lst 1 enU c),(2,.ptr 0 none 0),(4,.ptr 1 none 0),(5,.sref 2 0 path.length),(6,.int k),(9,.int n),(10,.int i)],[.cells 2 [g.cs],.cells 2 [[.nils,.nils]],.cells 1 (path.map enI)])) (fun i=>i≤path.length∧srcW path n b (path.length - i) i=SR) (fun i=>path.length - i) 0 ⟨y53 _,hS⟩ (by refine swR [0,1,2] [] rfl rfl ?_;(repeat' first|exact y86 _|exact z9 _|apply y87|refine z8 rfl (z5 (fun _=>rfl)) ?_|constructor)) ?_
   rintro i ⟨hi,hSi⟩
   dsimp only at hi hSi ⊢
   by_cases hil:i < path.length
   ·have gy:(path.map enI)[i]?=some (enI (path.getD i 0)):=by rw [y51,y45 hil,z15 hil];rfl
    rw [show path.length - i=(path.length - (i+1))+1 by omega,srcW] at hSi
    generalize path.getD i 0=y at *
    by_cases hy:y=n∧b=true
    ·rw [if_pos hy] at hSi
     subst hSi
     dsimp only at hw
     subst hw
     obtain ⟨rfl,rfl⟩:=hy
     have hb3:=hbb.1 rfl
     repeat' ((first|((fail_if_success apply z93 14);(fail_if_success apply z77 14);apply y4 ok;rfl)|(refine z12 (i:=i) rfl gy ?_)|(apply y43;omega)|(((with_reducible apply z11;omega));intro _)|((apply z6)<;>intro _))<;>conv=>whnf)
     all_goals try (exfalso;omega)
     all_goals
      refine y85 (SealW.reach (env:=[(4,.ptr 1 none 0),(5,ints path),(10,.int i)]) (objs:=[.cells 2 [g.cs],.cells 2 [[.nils,.nils]]]) [0,1] [2] rfl rfl rfl rfl ?_ ?_) ?_
      ·(repeat' first|exact y86 _|((apply z41 rfl rfl rfl);(focus ((repeat ((exact z34 (fun _=>rfl) _)));done));(focus (((simp;done));done)))|constructor)
      ·(repeat' first|exact y86 _|apply y87|constructor)
      conv=>whnf
      repeat' ((first|(apply y4 ok;rfl)|(apply z22;kernel_rfl)|(apply y43;omega))<;>conv=>whnf)
      all_goals (refine rsD [] [] rfl ?_;(repeat' first|apply z38|(refine z73 ?_ ?_;(focus (simp;done)))|constructor))
      all_goals first|refine z73 ?_ (z51 ?_)|refine z51 ?_
      all_goals first|exact z928 path i|exact z929 path i|(show (i:Int).toNat - Int.toNat 0=(List.take i path).length;rw [y48];omega)
    ·rw [if_neg hy] at hSi
     have hy2:y=n→¬ (c.length≤k∨6 < k∨99 < v):=fun h1 h2=>hy ⟨h1,hbb.2 h2⟩
     repeat' ((first|(apply y4 ok;rfl)|(apply z22;kernel_rfl)|(refine z12 (i:=i) rfl gy ?_)|(apply y43;first|omega|(unfold inI;omega))|(((with_reducible apply z11;omega));intro _)|((apply z6)<;>intro _))<;>conv=>whnf)
     all_goals try (exfalso;omega)
     all_goals refine z25 (i+1) ⟨hil,hSi⟩ (by show path.length - (i+1) < path.length - i;omega) (by refine swR [0,1,2] [] rfl rfl ?_;(repeat' first|exact y86 _|exact z9 _|apply y87|refine z8 rfl (z5 (fun _=>rfl)) ?_|constructor))
   ·obtain rfl:i=path.length:=by omega
    rw [Nat.sub_self,srcW] at hSi
    subst hSi
    dsimp only at hw
    repeat' ((first|(apply y4 ok;rfl)|(apply z22;kernel_rfl)|(apply y43;first|omega|(unfold inI;omega)|((try dsimp only);simp only [y49,y48,y47,y46,y58,y59];omega)|exact ⟨rfl,z20 rfl z27⟩)|((first|(with_reducible apply z11;omega)|(apply z11;omega));intro _)|((apply z6)<;>intro _))<;>conv=>whnf)
    all_goals try (exfalso;omega)
    all_goals refine z25 (k+1,path++[n]) ⟨by show k+1≤70;omega,by simp;omega,fun z hz=>by rcases List.mem_append.1 hz with h|h;exact hin z h;rw [List.mem_singleton.1 h];exact hn,hw⟩ (by show 70 - (k+1) < 70 - k;omega) (by refine swR [0,1,4] [] rfl rfl ?_;(repeat' first|exact y86 _|(refine z52 ?_;((simp;done)))|apply y87|((refine z35 rfl ?_ ?_);(focus ((repeat' (first|exact z5 (fun _=>rfl)|apply z21));done)))|(refine z78 ?_ ?_;(focus (omega)))|constructor))
 ·obtain rfl:k=70:=by omega
  rw [show 70 - 70=0 by omega,wkT] at hw
  subst hw
  repeat' (((apply y4 ok;rfl))<;>conv=>whnf)
  all_goals (refine rsD [] [2] rfl ?_;(repeat' first|exact y86 _|exact z36|((apply z41 rfl rfl rfl);(focus ((repeat ((exact z34 (fun _=>rfl) _)));done));(focus (((simp;done));done)))|apply z38|constructor))
theorem z384 {g:Graph} {ls:List Int} {a:Aut} {x y:Int} (hx:0≤x) (h:y∈(z49 g ls a).getD x.toNat []) (hA:AutP a):∃ (i:Nat) (to:Int) (e:Trans),i < g.st.length∧to∈g.nx.getD i []∧e∈a.ed∧onB e (ls.getD i 0)=true∧x / a.acc.length=i∧x % a.acc.length=e.src∧y / a.acc.length=to∧y % a.acc.length=e.dst:=by
 unfold z49 at h
 obtain ⟨_,h⟩:=z554.1 h
 unfold z521 at h
 obtain ⟨i,hi,h⟩:=List.mem_flatMap.1 h
 unfold z428 at h
 obtain ⟨to,hto,h⟩:=List.mem_flatMap.1 h
 unfold z522 at h
 obtain ⟨e,he,h⟩:=List.mem_flatMap.1 h
 unfold z286 at h
 split at h
 ·rename_i hon
  simp only [y55,Prod.mk.injEq] at h
  obtain ⟨h1,h2⟩:=h
  have hE:=hA.2.2.2 e he
  unfold z403 at hE
  have hac:=hA.1
  have hn:(a.acc.length:Int)≠0:=by omega
  have hm:((i * a.acc.length:Nat):Int)=(i:Int) * a.acc.length:=by simp
  have hxe:x=(i:Int) * a.acc.length+e.src:=by omega
  have d1:∀ (b q:Int),0≤q→q < a.acc.length→(b * a.acc.length+q) / (a.acc.length:Int)=b∧(b * a.acc.length+q) % (a.acc.length:Int)=q:=fun b q q0 q1 =>
   ⟨by rw [Int.add_comm,Int.add_mul_ediv_right _ _ hn,Int.ediv_eq_zero_of_lt q0 q1,Int.zero_add],by rw [Int.add_comm,Int.add_mul_emod_self_right,Int.emod_eq_of_lt q0 q1]⟩
  have k1:=d1 i e.src hE.1.1 (by omega)
  have k2:=d1 to e.dst hE.2.1.1 (by omega)
  exact ⟨i,to,e,List.mem_range.1 hi,hto,he,hon,by rw [hxe];exact k1.1,by rw [hxe];exact k1.2,by rw [h2];exact k2.1,by rw [h2];exact k2.2⟩
 ·cases h
structure FndP (g:Graph) (ls:List Int) (a:Aut) (s q:List Int):Prop where
 inn:∀ x∈s++q,0≤x
 path:PathP (z49 g ls a) (s++q)
 ini:(s++q).getD 0 0∈a.ini
 pos:0 < q.length
 back:q.getD 0 0∈(z49 g ls a).getD (q.getD (q.length - 1) 0).toNat []
 acc:a.acc.getD (q.getD 0 0 % a.acc.length).toNat false=true
section
variable {g:Graph} {ls:List Int} {a:Aut} {s q:List Int}
theorem FndP.step (h:FndP g ls a s q) {k:Nat} (hk:k < (s++q).length):(s++q).getD (nxW (s++q).length s.length k).toNat 0∈(z49 g ls a).getD ((s++q).getD k 0).toNat []:=by
 have hl:(s++q).length=s.length+q.length:=by simp
 have hsq:∀ j,(s++q).getD (s.length+j) 0=q.getD j 0:=fun j=>by
  rw [y68,y68,y67 (by omega),show s.length+j - s.length=j by omega]
 have hp:=h.pos
 unfold nxW
 split
 ·rename_i e
  rw [y77,show s.length=s.length+0 by omega,hsq,show k=s.length+(q.length - 1) by omega,hsq]
  exact h.back
 ·rw [y77];exact h.path k (by omega)
theorem z593 {l:List Int} {n k:Nat} (hk:k < l.length):(stL l n).getD k 0=l.getD k 0 / n:=by
 unfold stL;rw [z15 (by simpa using hk),List.getElem_map,z15 hk]
theorem FndP.word (hA:AutP a) (h:FndP g ls a s q) {w:List Int} (hw:w.length=(s++q).length) (hwl:∀ k,k < w.length→w.getD k 0=ls.getD ((s++q).getD k 0 / a.acc.length).toNat 0):∃ x,RP (accW a w s.length) a.ini x∧Cyc (accW a w s.length) x∧a.acc.getD (x % a.acc.length).toNat false=true:=by
 have hac:=hA.1
 have hn:(a.acc.length:Int)≠0:=by omega
 have hl:(s++q).length=s.length+q.length:=by simp
 have hp:=h.pos
 have hsq0:(s++q).getD s.length 0=q.getD 0 0:=by
  rw [y68,y68,y67 (y52 _),Nat.sub_self]
 obtain ⟨P,hP⟩:∃ P:Nat→Int,P=fun (k:Nat)=>(k:Int) * a.acc.length+(s++q).getD k 0 % a.acc.length:=⟨_,rfl⟩
 have hP0:∀ k,0≤P k:=fun k=>by
  rw [hP]
  have:=Int.mul_nonneg (show (0:Int)≤k by omega) (show (0:Int)≤a.acc.length by omega)
  have:=Int.emod_nonneg ((s++q).getD k 0) hn
  dsimp only;omega
 have hPm:∀ k,P k % (a.acc.length:Int)=(s++q).getD k 0 % a.acc.length:=fun k=>by
  rw [hP];dsimp only
  rw [Int.add_comm,Int.add_mul_emod_self_right,Int.emod_emod_of_dvd _ (Int.dvd_refl _)]
 have edge:∀ k,k < w.length→P (nxW w.length s.length k).toNat∈(accW a w s.length).getD (P k).toNat []:=fun k hk=>by
  have hst:=h.step (k:=k) (by omega)
  rw [← hw] at hst
  have hx0:=h.inn ((s++q).getD k 0) (by rw [z15 (by omega)];exact y44 _)
  obtain ⟨i,to,e,h1,h2,h3,h4,h5,h6,h7,h8⟩:=z384 hx0 hst hA
  have hE:=hA.2.2.2 e h3
  unfold z403 at hE
  have hnx:=nxW_in (N:=w.length) (s:=s.length) (i:=k) (by omega) hk
  have hon:onB e (w.getD k 0)=true:=by rw [hwl k hk,h5,y77];exact h4
  have hm:((k * a.acc.length:Nat):Int)=(k:Int) * a.acc.length:=by simp
  have e1:(P k).toNat=k * a.acc.length+e.src.toNat:=by
   rw [hP];dsimp only;rw [h6];omega
  have e2:P (nxW w.length s.length k).toNat=nxW w.length s.length k * a.acc.length+e.dst:=by
   rw [hP];dsimp only;rw [h8,Int.toNat_of_nonneg hnx.1]
  rw [e1,e2]
  unfold accW
  refine z554.2 ⟨?_,List.mem_flatMap.2 ⟨k,List.mem_range.2 hk,?_⟩⟩
  ·have h9:(k+1) * a.acc.length≤w.length * a.acc.length:=Nat.mul_le_mul_right _ hk
   rw [Nat.add_mul,Nat.one_mul] at h9
   omega
  ·unfold pushW
   refine List.mem_flatMap.2 ⟨e,h3,?_⟩
   unfold z286
   rw [if_pos hon];simp
 have rp:∀ k,k < w.length→RP (accW a w s.length) a.ini (P k):=by
  intro k
  induction k with
  |zero =>
   intro _
   refine .base ?_
   have hi:=h.ini
   obtain ⟨j,hj,e⟩:=List.mem_iff_getElem.1 hi
   have h5:=(hA.2.2.1 j hj hj).1
   rw [e] at h5
   have:P 0=(s++q).getD 0 0:=by rw [hP];dsimp only;rw [Int.emod_eq_of_lt h5.1 (by omega)];simp
   rw [this];exact hi
  |succ k ih =>
   intro hk
   have:=edge k (by omega)
   unfold nxW at this
   rw [if_neg (by omega),y77] at this
   exact .step (ih (by omega)) this
 have round:∀ d k,k+d+1=w.length→s.length≤k→RP (accW a w s.length) [P k] (P s.length):=by
  intro d
  induction d with
  |zero =>
   intro k hk _
   have:=edge k (by omega)
   unfold nxW at this
   rw [if_pos (by omega),y77] at this
   exact .step (.base (by simp)) this
  |succ d ih =>
   intro k hk hs
   have:=edge k (by omega)
   unfold nxW at this
   rw [if_neg (by omega),y77] at this
   exact RP.trans (.base (by simp)) this (ih (k+1) (by omega) (by omega))
 refine ⟨P s.length,rp _ (by omega),⟨_,edge s.length (by omega),?_⟩,by rw [hPm,hsq0];exact h.acc⟩
 unfold nxW
 split
 ·rw [y77];exact .base (by simp)
 ·rw [y77];exact round (w.length - (s.length+1) - 1) (s.length+1) (by omega) (by omega)
end
end Go.Proofs.YtjhgpfaodkchjaaGreat
namespace Go.Proofs.YtjhgpfaodkchjaaGreat
open Go.Gl
attribute [local irreducible] z18 AWP z30 z37 z33
def GPath (g:Graph) (π:Nat→Int):Prop:=π 0=0∧∀ k,π (k+1)∈g.nx.getD (π k).toNat []
def gW (g:Graph) (l:List Tree) (π:Nat→Int) (k:Nat):Int:=(g.st.map (z43 l)).getD (π k).toNat 0
theorem GPath.inn {g:Graph} (hG:GB g) {π:Nat→Int} (h:GPath g π):∀ k,0≤π k∧π k < g.st.length
 |0=>by have:=hG.1;rw [h.1];omega
 |k+1=>by
  have ih:=GPath.inn hG h k
  have hl:=hG.2.1
  have h1:=h.2 k
  rw [z15 (by omega)] at h1
  exact (hG.row _ (by omega)).2.2 _ h1
theorem gW_nn {g:Graph} {l:List Tree} (hL:z141 l) (π:Nat→Int) (k:Nat):0≤gW g l π k:=by
 unfold gW
 by_cases h:(π k).toNat < (g.st.map (z43 l)).length
 ·rw [z15 h,List.getElem_map]
  exact (z293 hL _).1
 ·rw [y68,y69 (by omega)];exact Int.le_refl _
theorem z1201 {n b q:Int} (hn:0 < n) (q0:0≤q) (q1:q < n):(b * n+q) / n=b∧(b * n+q) % n=q :=
 ⟨by rw [Int.add_comm,Int.add_mul_ediv_right _ _ (by omega),Int.ediv_eq_zero_of_lt q0 q1,Int.zero_add],by rw [Int.add_comm,Int.add_mul_emod_self_right,Int.emod_eq_of_lt q0 q1]⟩
def ARun (a:Aut) (w:Nat→Int) (ρ:Nat→Int):Prop:=ρ 0∈a.ini∧(∀ k,∃ e∈a.ed,e.src=ρ k∧e.dst=ρ (k+1)∧onB e (w k)=true)∧∀ m,∃ k,m≤k∧a.acc.getD (ρ k).toNat false=true
theorem fto_iff {g:Graph} {l:List Tree} {a:Aut} (h1:(glB g l && autB a)=true):(ftO g l a).isSome=true↔∃ π ρ:Nat→Int,GPath g π∧ARun a (gW g l π) ρ:=by
 obtain ⟨h3,hab⟩:=Bool.and_eq_true_iff.1 h1
 have hG:=(z83 g).1 (by unfold glB at h3;exact (Bool.and_eq_true_iff.1 h3).1)
 have hA:=z140.1 hab
 obtain ⟨f1,f2,f3,f4,f5⟩:=z196 hG hA (g.st.map (z43 l))
 have hnd:=hA.2.2.1.nd
 have hac:=hA.1
 have hn:(0:Int) < a.acc.length:=by omega
 have hini:=fun x hx=>(show InN (z49 g (g.st.map (z43 l)) a).length a.ini from f2) x hx
 have e1:ftO g l a=trcO g (g.st.map (z43 l)) a:=by unfold ftO;rw [if_pos h1]
 have e2:(ftO g l a).isSome=true↔∃ x,RP (z49 g (g.st.map (z43 l)) a) a.ini x∧a.acc.getD (x % a.acc.length).toNat false=true∧Cyc (z49 g (g.st.map (z43 l)) a) x:=by
  rw [e1]
  constructor
  ·intro h
   refine y78 fun hno=>?_
   have:NoAcc (z49 g (g.st.map (z43 l)) a) a.ini a.acc:=fun x hx hc=>by
    cases hb:a.acc.getD (x % a.acc.length).toNat false with
    |false=>rfl
    |true=>exact absurd ⟨x,hx,hb,hc⟩ hno
   rw [z1142 f1 f2 hnd this] at h
   cases h
  ·rintro ⟨x,hx,hb,hc⟩
   cases ht:trcO g (g.st.map (z43 l)) a with
   |some p=>rfl
   |none =>
    have:=z1090 f1 f2 hnd ht x hx hc
    rw [hb] at this;cases this
 have e3:=inf_iff (acc:=fun x=>a.acc.getD (x % a.acc.length).toNat false=true) f1 f2
 rw [e2,← e3]
 constructor
 ·rintro ⟨σ,s0,s1,s2⟩
  have hin:=z1119 f1 s1 (f2 _ s0)
  have hst:=fun k=>z384 (hin k).1 (s1 k) hA
  obtain ⟨i0,hi0,ei0⟩:=List.mem_iff_getElem.1 s0
  have hr0:=(hA.2.2.1 i0 hi0 hi0).1
  rw [ei0] at hr0
  have hd0:=z1201 (b:=0) hn hr0.1 (show σ 0 < a.acc.length by omega)
  rw [Int.zero_mul,Int.zero_add] at hd0
  refine ⟨fun k=>σ k / a.acc.length,fun k=>σ k % a.acc.length,⟨hd0.1,fun k=>?_⟩,by show σ 0 % _∈_;rw [hd0.2];exact s0,fun k=>?_,s2⟩
  ·obtain ⟨i,to,e,c1,c2,c3,c4,c5,c6,c7,c8⟩:=hst k
   show σ (k+1) / _∈g.nx.getD (σ k / a.acc.length).toNat []
   rw [c7,c5,y77];exact c2
  ·obtain ⟨i,to,e,c1,c2,c3,c4,c5,c6,c7,c8⟩:=hst k
   refine ⟨e,c3,c6.symm,c8.symm,?_⟩
   unfold gW
   show onB e ((g.st.map (z43 l)).getD (σ k / a.acc.length).toNat 0)=true
   rw [c5,y77];exact c4
 ·rintro ⟨π,ρ,hp,r0,r1,r2⟩
  have hin:=hp.inn hG
  have hrr:∀ k,0≤ρ k∧ρ k < a.acc.length:=fun k=>by
   obtain ⟨e,he,c1,c2,_⟩:=r1 k
   have hE:=hA.2.2.2 e he
   unfold z403 at hE
   omega
  refine ⟨fun k=>π k * a.acc.length+ρ k,?_,fun k=>?_,fun m=>?_⟩
  ·show π 0 * _+ρ 0∈_
   rw [hp.1,Int.zero_mul,Int.zero_add];exact r0
  ·obtain ⟨e,he,c1,c2,c3⟩:=r1 k
   have hE:=hA.2.2.2 e he
   unfold z403 at hE
   have h4:=z1128 (g:=g) (ls:=g.st.map (z43 l)) (a:=a) (i:=(π k).toNat) (to:=π (k+1)) (e:=e) (by omega) (by have:=hin k;omega) (hp.2 k) he c3
   show π (k+1) * _+ρ (k+1)∈(z49 g (g.st.map (z43 l)) a).getD (π k * a.acc.length+ρ k).toNat []
   rw [c2] at h4
   have h5:(π k * a.acc.length+ρ k).toNat=(π k).toNat * a.acc.length+e.src.toNat:=by
    rw [c1]
    obtain ⟨i,hi⟩:=Int.eq_ofNat_of_zero_le (hin k).1
    obtain ⟨r,hr⟩:=Int.eq_ofNat_of_zero_le (hrr k).1
    rw [hi,hr,y77,y77]
    norm_cast
   rw [h5];exact h4
  ·obtain ⟨k,k1,k2⟩:=r2 m
   refine ⟨k,k1,?_⟩
   show a.acc.getD ((π k * a.acc.length+ρ k) % a.acc.length).toNat false=true
   rw [(z1201 hn (hrr k).1 (hrr k).2).2];exact k2
theorem z644 (t:Tree) (hs:t.sz≤200) (h:tsB t=true) {w:Nat→Int} (hw:∀ k,0≤w k):(∃ ρ,ARun (trA t) w ρ)↔t.sem w 0:=by
 unfold tsB at h
 unfold trA
 unfold trO at *
 by_cases hb:bscB t=true
 ·rw [if_pos hb] at *
  obtain ⟨⟨ht,hn⟩,h5⟩:=of_decide_eq_true (show decide _=true from hb)
  obtain ⟨hB,hIn,_⟩:=z558 ht hn h5 hs
  have hg:=y24 ht
  have hsem:=sem_nrm w t hg false 0
  rw [if_neg (by simp)] at hsem
  have hNF:=nrm_NF t hg false
  have hNB:∀ x∈bscL (t.nrm false),NF x:=fun x hx=>z927 (p:=NF) (fun x hx=>hx.kids) (t.nrm false) [] hNF (by simp) x (List.mem_filter.1 hx).1
  rw [← hsem]
  clear hsem hg ht hn
  generalize t.nrm false=g at *
  generalize bscL g=B at *
  have hBk:BOk B:=⟨hB.nd,hB.cl,hB.bk,hB.av⟩
  cases hS:trS B g with
  |none=>rw [hS] at h;cases h
  |some y =>
   obtain ⟨hT,suf,hL⟩:=trS_T hS
   have hIL:(iniS B g).length≤y.L.length:=by rw [hL];simp
   show (∃ ρ,ARun (z332 (iniS B g).length y) w ρ)↔_
   have hmI:∀ x,x∈numI (iniS B g).length↔∃ i:Nat,x=i∧i < (iniS B g).length:=fun x=>by
    unfold numI
    rw [y60]
    exact ⟨fun ⟨i,hi,e⟩=>⟨i,e.symm,List.mem_range.1 hi⟩,fun ⟨i,e,hi⟩=>⟨i,List.mem_range.2 hi,e.symm⟩⟩
   constructor
   ·rintro ⟨ρ,r0,r1,r2⟩
    obtain ⟨i0,ei0,hi0⟩:=(hmI _).1 r0
    have hL0:¬ y.L.length=0:=by omega
    have hacc:(z332 (iniS B g).length y).acc=y.acc:=by unfold z332;dsimp only;rw [if_neg hL0]
    have hst:∀ k,∃ e∈y.ed,e.src=ρ k∧e.dst=ρ (k+1)∧(((w k).toNat &&& e.care.toNat:Nat):Int)=e.val:=fun k=>by
     obtain ⟨e,he,c1,c2,c3⟩:=r1 k
     obtain ⟨e',he',rfl⟩:=List.mem_map.1 (show e∈y.ed.map eT from he)
     exact ⟨e',he',c1,c2,of_decide_eq_true c3⟩
    have hnn:∀ k,ρ k=((ρ k).toNat:Nat):=fun k=>by
     obtain ⟨e,he,c1,_⟩:=hst k
     obtain ⟨k',t,_,_,_,x1,_⟩:=hT.e1 e he
     omega
    refine tr_sound hBk hIn hS hw (ρ:=fun k=>(ρ k).toNat) ⟨by show (ρ 0).toNat < _;omega,fun k=>?_,fun m=>?_⟩
    ·obtain ⟨e,he,c1,c2,c3⟩:=hst k
     exact ⟨e,he,by rw [c1];exact hnn k,by rw [c2];exact hnn (k+1),c3⟩
    ·obtain ⟨k,k1,k2⟩:=r2 m
     rw [hacc] at k2
     exact ⟨k,k1,k2⟩
   ·intro hs
    obtain ⟨ρ,r0,r1,r2⟩:=z832 hBk hNB hNF hIn hS hw hs
    have hL0:¬ y.L.length=0:=by omega
    have hacc:(z332 (iniS B g).length y).acc=y.acc:=by unfold z332;dsimp only;rw [if_neg hL0]
    refine ⟨fun k=>(ρ k:Int),(hmI _).2 ⟨ρ 0,rfl,r0⟩,fun k=>?_,fun m=>?_⟩
    ·obtain ⟨e,he,c1,c2,c3⟩:=r1 k
     exact ⟨eT e,List.mem_map.2 ⟨e,he,rfl⟩,c1,c2,y82 c3⟩
    ·obtain ⟨k,k1,k2⟩:=r2 m
     refine ⟨k,k1,?_⟩
     rw [hacc,y77];exact k2
 ·rw [if_neg hb] at h;cases h
theorem z670 {t:Tree} (hg:t.goodF) (w:Nat→Int) (i:Nat):(negT t).sem w i↔¬ t.sem w i:=by
 unfold negT
 by_cases hk:t.kind=3
 ·rw [if_pos hk]
  cases y22 hg with
  |tr=>simp [Tree.kind] at hk
  |«at» v _ _=>simp [Tree.kind] at hk
  |bin k a b hk2 _ _=>simp only [Tree.kind] at hk;omega
  |un k a _ _ =>
   simp only [Tree.kind] at hk
   subst hk
   rw [z282,Classical.not_not]
   simp [Tree.kids]
 ·rw [if_neg hk,z379]
theorem vd_sem {g:Graph} {l:List Tree} {f:Tree} (hgl:glB g l=true) (hs:ngS f=true):(ftO g l (ngA f)).isSome=true↔∃ π,GPath g π∧¬ f.sem (gW g l π) 0:=by
 have hv:=z392 hs
 have hL:=y8 (by unfold glB at hgl;exact (Bool.and_eq_true_iff.1 hgl).2)
 have h1:=hs
 unfold ngS at h1
 rw [y71] at h1
 have hz:=z355 h1.1
 have e1:ngA f=trA (negT f):=by unfold ngA ngT;rw [if_pos h1.1,if_pos h1.1]
 have e2:ngT f=negT f:=by unfold ngT;rw [if_pos h1.1]
 rw [e2] at h1 hz
 have hg:=y24 (ngB_fm h1.1)
 rw [fto_iff (by rw [hgl,hv];rfl)]
 constructor
 ·rintro ⟨π,ρ,hp,hr⟩
  rw [e1] at hr
  exact ⟨π,hp,(z670 hg _ _).1 ((z644 _ (by omega) h1.2 (gW_nn hL π)).1 ⟨ρ,hr⟩)⟩
 ·rintro ⟨π,hp,hn⟩
  obtain ⟨ρ,hr⟩:=(z644 _ (by omega) h1.2 (gW_nn hL π)).2 ((z670 hg _ _).2 hn)
  rw [← e1] at hr
  exact ⟨π,ρ,hp,hr⟩
theorem z492 {g:Graph} {l:List Tree} {f:Tree} : vdI g l f=0↔(glB g l=true∧f.fmB=true∧ngS f=true)∧∀ π,GPath g π→f.sem (gW g l π) 0:=by
 unfold vdI
 by_cases h1:(glB g l && f.fmB)=true
 ·obtain ⟨h2,h3⟩:=Bool.and_eq_true_iff.1 h1
  rw [if_pos h1]
  by_cases h4:ngS f=true
  ·rw [if_pos h4]
   have hv:=vd_sem h2 h4
   by_cases h5:(ftO g l (ngA f)).isSome=true
   ·rw [if_pos h5]
    refine ⟨fun h=>(by cases h),fun ⟨_,h⟩=>?_⟩
    obtain ⟨π,p1,p2⟩:=hv.1 h5
    exact absurd (h π p1) p2
   ·rw [if_neg h5]
    refine ⟨fun _=>⟨⟨h2,h3,h4⟩,fun π hp=>y78 fun hn=>h5 (hv.2 ⟨π,hp,hn⟩)⟩,fun _=>rfl⟩
  ·rw [if_neg h4]
   exact ⟨fun h=>(by cases h),fun ⟨h,_⟩=>absurd h.2.2 h4⟩
 ·rw [if_neg h1]
  exact ⟨fun h=>(by cases h),fun ⟨h,_⟩=>absurd (by rw [h.1,h.2.1];rfl) h1⟩
theorem z274 {g:Graph} {l:List Tree} {f:Tree} : vdI g l f=1↔(glB g l=true∧f.fmB=true∧ngS f=true)∧∃ π,GPath g π∧¬ f.sem (gW g l π) 0:=by
 unfold vdI
 by_cases h1:(glB g l && f.fmB)=true
 ·obtain ⟨h2,h3⟩:=Bool.and_eq_true_iff.1 h1
  rw [if_pos h1]
  by_cases h4:ngS f=true
  ·rw [if_pos h4]
   have hv:=vd_sem h2 h4
   by_cases h5:(ftO g l (ngA f)).isSome=true
   ·rw [if_pos h5]
    exact ⟨fun _=>⟨⟨h2,h3,h4⟩,hv.1 h5⟩,fun _=>rfl⟩
   ·rw [if_neg h5]
    exact ⟨fun h=>(by cases h),fun ⟨_,h⟩=>absurd (hv.2 h) h5⟩
  ·rw [if_neg h4]
   exact ⟨fun h=>(by cases h),fun ⟨h,_⟩=>absurd h.2.2 h4⟩
 ·rw [if_neg h1]
  exact ⟨fun h=>(by cases h),fun ⟨h,_⟩=>absurd (by rw [h.1,h.2.1];rfl) h1⟩
theorem z1073 (g:Graph) (l:List Tree) (f:Tree):vdI g l f=0∨vdI g l f=1∨vdI g l f=2∨vdI g l f=3:=by
 unfold vdI
 split
 ·split
  ·split<;>simp
  ·simp
 ·simp
theorem z717 {g:Graph} {l:List Tree} {f:Tree} : vdI g l f=3↔¬ (glB g l=true∧f.fmB=true):=by
 unfold vdI
 by_cases h1:(glB g l && f.fmB)=true
 ·obtain ⟨h2,h3⟩:=Bool.and_eq_true_iff.1 h1
  rw [if_pos h1]
  refine ⟨fun h=>?_,fun h=>absurd ⟨h2,h3⟩ h⟩
  split at h
  ·split at h<;>cases h
  ·cases h
 ·rw [if_neg h1]
  exact ⟨fun _ h=>h1 (by rw [h.1,h.2];rfl),fun _=>rfl⟩
theorem path_ex {g:Graph} (hG:GB g):∃ π,GPath g π:=by
 classical
 have hnx:∀ i:Nat,i < g.st.length→∃ x,x∈g.nx.getD i []:=fun i hi=>by
  have hl:=hG.2.1
  have h1:=(hG.row i (by omega)).1
  rw [z15 (by omega)]
  exact ⟨_,y44 (n:=0) (by omega)⟩
 let π:Nat→Int:=fun k=>Nat.rec 0 (fun _ x=>if h:∃ y,y∈g.nx.getD x.toNat [] then h.choose else 0) k
 have hin:∀ k,0≤π k∧π k < g.st.length∧π (k+1)∈g.nx.getD (π k).toNat []:=by
  intro k
  have step:∀ k,0≤π k→π k < g.st.length→π (k+1)∈g.nx.getD (π k).toNat []:=fun k h0 h1=>by
   have h:=hnx (π k).toNat (by omega)
   have e:π (k+1)=h.choose:=dif_pos h
   rw [e];exact h.choose_spec
  induction k with
  |zero=>have h1:=hG.1;exact ⟨Int.le_refl _,by show (0:Int) < _;omega,step 0 (Int.le_refl _) (by show (0:Int) < _;omega)⟩
  |succ k ih =>
   have h1:=ih.2.2
   have hl:=hG.2.1
   rw [z15 (by omega)] at h1
   have h2:=(hG.row (π k).toNat (by omega)).2.2 _ h1
   exact ⟨h2.1,h2.2,step (k+1) h2.1 h2.2⟩
 exact ⟨π,rfl,fun k=>(hin k).2.2⟩
end Go.Proofs.YtjhgpfaodkchjaaGreat
namespace Go.Proofs.YtjhgpfaodkchjaaGreat
open Go.Gl
attribute [local irreducible] z18 AWP z30 z37 z33 RetS z44
set_option maxHeartbeats 3200000 in
theorem z796 (bs:List Int) (hb:CodeOk bs):∃ (g:Graph) (l:List Tree) (f:Tree),(g.d∧Lab.d l∧f.sz≤22)∧CallsA Tryz.prog 21 [lst 1 enU bs] [] (.tup [.agg g.cs,lst 3 Tree.cs' l,z26 Tree.cs' f]) []:=by
 have co:=z1030 bs hb.len
 have hbt:=hb.take
 generalize bs.take 2000=b0 at *
 obtain ⟨l,p1,⟨l1,l2,l3,l4⟩,c1⟩:=z872 b0 hbt 0 ⟨by omega,by omega⟩
 obtain ⟨f0,p2,⟨a1,a2,a3⟩,c2⟩:=z770 b0 hbt p1 ⟨by omega,by omega⟩
 obtain ⟨f,p3,⟨b1,b2,b3⟩,cm⟩:=z876 b0 hbt p2 ⟨by omega,by omega⟩ f0 (by omega)
 obtain ⟨g0,g,p4,p5,cg0,cg,hg,q1,q2⟩:=mutG_ok b0 hbt p3 ⟨by omega,by omega⟩
 refine ⟨g,l,f,⟨hg,⟨l1,l2⟩,by omega⟩,?_⟩
 rw [y15 f] at *
 rw [y15 f0] at *
 refine z7 z16 Tryz.func21 rfl rfl 22 Tryz.ntmps21 (by simp) ?_
 repeat' ((first|(apply y4 ok;rfl)|(apply z22;kernel_rfl)|((first|(apply z40 [] [2] co;rfl;rfl)|(apply z40 [2] [] c1;rfl;rfl)|(apply z40 [2] [] c2;rfl;rfl)|(apply z40 [2] [] cm;rfl;rfl)|(apply z40 [2] [] cg0;rfl;rfl)|(apply z40 [2] [] cg;rfl;rfl));rfl))<;>conv=>whnf)
 all_goals (refine rsD [] [] rfl ?_;(repeat' first|exact y86 _|constructor))
theorem z257 (g:Graph) (hg:g.mx) (l:List Tree) (hl:Lmx l) (f:Tree) (hf:f.mx):CallsA Tryz.prog 14 [.agg g.cs,lst 3 Tree.cs' l,z26 Tree.cs' f] [] (.tup [.int (vdI g l f),.agg (vdT g l f).cs]) []:=(by refine y5 (z582 g hg l hl f hf) [] [0,1] rfl rfl rfl ?_ ?_<;>(repeat' first|exact y86 _|((apply z41 rfl rfl rfl);(focus ((repeat ((exact z34 (fun _=>rfl) _)));done));(focus (((simp;done));done)))|apply z38|apply z80|constructor))
theorem ngS_of {f:Tree} (h1:ngB f=true) (h2:((negT f).nrm false).fmB=true) (h3:(bscL ((negT f).nrm false)).length≤4):ngS f=true:=by
 have hf:(negT f).fmB=true:=by
  unfold ngB at h1
  exact (Bool.and_eq_true_iff.1 h1).2
 have e:ngT f=negT f:=by unfold ngT;rw [if_pos h1]
 unfold ngS tsB trO
 rw [h1,Bool.true_and,e,if_pos (by unfold bscB;exact y82 ⟨⟨hf,h2⟩,by omega⟩),Option.isSome_map]
 exact trS_some h3 _
section
variable {g:Graph} {ls:List Int} {a:Aut} {s q:List Int}
theorem FndP.tr (hG:GB g) (hA:AutP a) (h:FndP g ls a s q) (hl8:s.length+q.length≤8000):trB g ⟨stL s a.acc.length,stL q a.acc.length⟩=true:=by
 have hac:=hA.1
 have hl:(s++q).length=s.length+q.length:=by simp
 have hp:=h.pos
 have hall:(Trace.mk (stL s a.acc.length) (stL q a.acc.length)).all=stL (s++q) a.acc.length:=by unfold Trace.all stL;simp
 have hsl:(stL s a.acc.length).length=s.length:=by simp [stL]
 have hql:(stL q a.acc.length).length=q.length:=by simp [stL]
 have hal:(stL (s++q) a.acc.length).length=s.length+q.length:=by simp [stL]
 have inv:∀ k,k < (s++q).length→∃ (i:Nat) (to:Int),i < g.st.length∧to∈g.nx.getD i []∧(s++q).getD k 0 / a.acc.length=i∧(s++q).getD (nxW (s++q).length s.length k).toNat 0 / a.acc.length=to:=fun k hk=>by
  obtain ⟨i,to,e,h1,h2,h3,h4,h5,h6,h7,h8⟩:=z384 (h.inn ((s++q).getD k 0) (by rw [z15 hk];exact y44 _)) (h.step hk) hA
  exact ⟨i,to,h1,h2,h5,h7⟩
 unfold trB
 simp only [y71,decide_eq_true_eq]
 refine ⟨⟨by rw [hql];exact hp,by rw [hsl,hql];exact hl8⟩,?_,?_,?_⟩
 ·rw [hall]
  refine z601 ((z83 _).2 hG) (by rw [hal];omega) fun k hk=>?_
  rw [hal] at hk
  have hk' : k < (s++q).length:=by omega
  obtain ⟨i,to,h1,h2,h3,h4⟩:=inv k hk'
  unfold z351
  rw [z593 hk',h3]
  simp only [y71,Bool.or_eq_true,decide_eq_true_eq]
  refine ⟨⟨by omega,by omega⟩,?_⟩
  by_cases hk0:k=0
  ·exact .inl hk0
  ·right
   obtain ⟨i',to',g1,g2,g3,g4⟩:=inv (k - 1) (by omega)
   unfold nxW at g4
   rw [if_neg (by omega),y77,show k - 1+1=k by omega,h3] at g4
   rw [z593 (by omega),g3,y77,g4]
   exact g2
 ·rw [hall,z593 (by omega)]
  obtain ⟨j,hj,e⟩:=List.mem_iff_getElem.1 h.ini
  have h5:=(hA.2.2.1 j hj hj).1
  rw [e] at h5
  exact Int.ediv_eq_zero_of_lt h5.1 (by omega)
 ·show (stL q a.acc.length).getD 0 0∈g.nx.getD ((stL q a.acc.length).getD ((stL q a.acc.length).length - 1) 0).toNat []
  rw [hql,z593 hp,z593 (by omega)]
  have hx0:=h.inn (q.getD (q.length - 1) 0) (by rw [z15 (by omega)];exact List.mem_append.2 (.inr (y44 _)))
  obtain ⟨i,to,e,h1,h2,h3,h4,h5,h6,h7,h8⟩:=z384 hx0 h.back hA
  rw [h7,h5,y77]
  exact h2
end
theorem z545 {g:Graph} {l:List Tree} {a:Aut} (h1:(glB g l && autB a)=true) {st lp:List Int} (h:ftO g l a=some (st,lp)):∃ s q,FndP g (g.st.map (z43 l)) a s q∧st=stL s a.acc.length∧lp=stL q a.acc.length∧s.length+q.length≤8000:=by
 obtain ⟨h3,hab⟩:=Bool.and_eq_true_iff.1 h1
 have hG:=(z83 g).1 (by unfold glB at h3;exact (Bool.and_eq_true_iff.1 h3).1)
 have hA:=z140.1 hab
 obtain ⟨f1,f2,f3,f4,f5⟩:=z196 hG hA (g.st.map (z43 l))
 have hnd:=hA.2.2.1.nd
 unfold ftO at h
 rw [if_pos h1] at h
 unfold trcO at h
 rw [← z320 f1 f2 hnd,Option.map_eq_some_iff] at h
 obtain ⟨⟨p,q⟩,hpq,e⟩:=h
 simp only [Prod.mk.injEq] at e
 obtain ⟨e1,e2⟩:=e
 obtain ⟨v,s,k1,k2,k3,k4,k5,k6,k7⟩:=las_path f1 f2 hnd hpq
 obtain ⟨b1,b2,b3,b4,b5,b6⟩:=z869 f1 f2 hnd hpq
 subst k2
 have hts:(s++[v]).take ((s++[v]).length - 1)=s:=by simp
 rw [hts] at e1
 rw [y47,List.length_singleton] at b3
 refine ⟨s,q,⟨fun x hx=>?_,k3,k4,k6,by rw [k5];exact k7,by rw [k5];exact k1⟩,e1.symm,e2.symm,by omega⟩
 rcases List.mem_append.1 hx with hx|hx
 ·exact (b1 x (List.mem_append.2 (.inl hx))).1
 ·exact (b2 x hx).1
theorem found_ok {g:Graph} {l:List Tree} {a:Aut} (h1:(glB g l && autB a)=true) (h:(ftO g l a).isSome=true):trB g (ftL g l a)=true∧(twB g l (ftL g l a)=true→accR a (twT g l (ftL g l a))=true):=by
 obtain ⟨h3,hab⟩:=Bool.and_eq_true_iff.1 h1
 have hG:=(z83 g).1 (by unfold glB at h3;exact (Bool.and_eq_true_iff.1 h3).1)
 have hA:=z140.1 hab
 cases hf:ftO g l a with
 |none=>rw [hf] at h;cases h
 |some x =>
  obtain ⟨st,lp⟩:=x
  obtain ⟨s,q,F,rfl,rfl,hl8⟩:=z545 h1 hf
  have e:ftL g l a=⟨stL s a.acc.length,stL q a.acc.length⟩:=by unfold ftL;rw [hf];rfl
  rw [e]
  have htr:=F.tr hG hA hl8
  refine ⟨htr,fun ht=>accR_iff.2 ?_⟩
  have ew:twT g l ⟨stL s a.acc.length,stL q a.acc.length⟩=z187 (g.st.map (z43 l)) ⟨stL s a.acc.length,stL q a.acc.length⟩:=by unfold twT;rw [if_pos ht]
  have hall:(Trace.mk (stL s a.acc.length) (stL q a.acc.length)).all=stL (s++q) a.acc.length:=by unfold Trace.all stL;simp
  unfold AccP
  rw [ew,z636,hall]
  have hsl:(z187 (g.st.map (z43 l)) ⟨stL s a.acc.length,stL q a.acc.length⟩).stem.length=s.length:=by simp [z187,stL]
  rw [hsl]
  refine F.word hA (by simp [stL]) fun k hk=>?_
  have hk' : k < (s++q).length:=by simpa [stL] using hk
  rw [z15 hk,List.getElem_map]
  unfold pick
  congr 2
  rw [← z593 hk',z15 (by simpa [stL] using hk')]
end Go.Proofs.YtjhgpfaodkchjaaGreat
namespace Go.Proofs.YtjhgpfaodkchjaaGreat
open Go.Gl
attribute [local irreducible] z18 AWP z30 z37 z33
theorem z919 {g:Graph} {l:List Tree} {f:Tree} (h:vdI g l f=1):trB g (vdT g l f)=true:=by
 have hs:=(z274.1 h).1
 have hv:=z392 hs.2.2
 unfold vdI at h
 unfold vdT
 have h1:(glB g l && f.fmB)=true:=by rw [hs.1,hs.2.1];rfl
 rw [if_pos h1,if_pos hs.2.2] at h ⊢
 refine (found_ok (by rw [hs.1,hv];rfl) ?_).1
 by_cases h5:(ftO g l (ngA f)).isSome=true
 ·exact h5
 ·rw [if_neg h5] at h;cases h
end Go.Proofs.YtjhgpfaodkchjaaGreat
