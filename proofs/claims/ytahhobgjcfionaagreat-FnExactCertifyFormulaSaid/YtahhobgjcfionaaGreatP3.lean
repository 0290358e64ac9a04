/- A part of the proofs over this program: T27, T37C, T37, T35A, T70, T71, T72, T73, T74, T75, T75K, T75M, T81, T82, T83, T84, T85, T86, T87, T88, T89, T90, T91, T92, T93, T94, T140, T141, T142, T221, T222, T223, T143, T224, T144, T225. -/
import Derived.Test.YtahhobgjcfionaaGreatG0
import Derived.Test.YtahhobgjcfionaaGreatG1
import Derived.Test.YtahhobgjcfionaaGreatG2
import Derived.Test.YtahhobgjcfionaaGreatG3
import Derived.Test.YtahhobgjcfionaaGreatP0
import Derived.Test.YtahhobgjcfionaaGreatP1
import Derived.Test.YtahhobgjcfionaaGreatP2
set_option linter.all false
namespace Go.Proofs.YtahhobgjcfionaaGreat
open Go.Gl
attribute [local irreducible] z21 AWP z42 z46 z43
theorem z685 (n:Int):CallsA Tryz.prog 95 [.int n] [] (.bool (!btw n (-1) 4000)) []:=by
 refine z6 z12 Tryz.func95 rfl rfl 6 Tryz.ntmps95 (by simp) ?_
 repeat' (first|(apply y83 ok;rfl;conv=>whnf)|(apply z0 (z334 n (-1) 4000);rfl;rfl;conv=>whnf))
 exact z22 rfl rfl
set_option maxHeartbeats 1600000 in
theorem z359 (g:Graph) (hg:g.mx) (l:List Tree) (hl:Lmx l) (a:Aut) (ha:a.mx) (c:Cert) (hc:c.mx):CallsA Tryz.prog 25 [.agg g.cs,lst 3 Tree.cs' l,.agg a.cs,.agg c.cs] [] (.bool (z360 g l a c)) []:=by
 have hcm:=hc
 unfold Cert.mx maxLen at hcm
 have k1:=z447 g hg l hl a ha
 by_cases hgl:(glB g l && autB a)=true
 ·rw [hgl] at k1
  obtain ⟨hgl,hab⟩:=Bool.and_eq_true_iff.1 hgl
  have hG:=(z111 g).1 (by unfold glB at hgl;exact (Bool.and_eq_true_iff.1 hgl).1)
  have hL:=y9 (by unfold glB at hgl;exact (Bool.and_eq_true_iff.1 hgl).2)
  have hA:=z120.1 hab
  have k2:=z434 g hG l hL a hA
  have kc:=z277 c.ranks hc (fun n=>!btw n (-1) 4000) 95 (fun x _=>z685 x)
  have hrows:=z349 g hG (g.st.map (z35 l)) a hA
  have hrowl:=z292 g hG (g.st.map (z35 l)) a hA
  have hrl:(z41 g (g.st.map (z35 l)) a).length=g.st.length * a.acc.length:=by unfold z41;rw [z101,Nat.mul_comm]
  have ha1:=hA.1
  have hN:=z115 (a:=(g.st.length:Int)) (b:=(a.acc.length:Int)) (A:=60) (B:=64) (by omega) (by have:=hG.1;omega) (by omega) (by omega)
  have hN2:((g.st.length * a.acc.length:Nat):Int)=(g.st.length:Int) * a.acc.length:=by simp
  have hini:=hA.2.2.1
  have e:z360 g l a c=decide (z1002 (z41 g (g.st.map (z35 l)) a) a.ini a.acc (g.st.length * a.acc.length) c.ranks):=by unfold z360;rw [hgl,hab];rfl
  rw [e]
  generalize z41 g (g.st.map (z35 l)) a=rows at k2 hrows hrl hrowl
  refine z6 z12 Tryz.func25 rfl rfl 104 Tryz.ntmps25 (by simp) ?_
  repeat' (first|(apply y83 ok;rfl;conv=>whnf)|(apply y44;((unfold inI;omega));conv=>whnf)|(apply z8<;>intro _<;>conv=>whnf)|(apply z47<;>intro _<;>conv=>whnf)|(apply z0 (k1);rfl;rfl;conv=>whnf)|(apply z0 (kc);rfl;rfl;conv=>whnf)|(apply z0 (k2);rfl;rfl;conv=>whnf))
  ·rename_i hlen
   exact z22 rfl (y81 fun h=>hlen (by rw [h.1];exact hN2))
  ·rename_i hlen hany
   refine z22 rfl (y81 fun h=>?_)
   obtain ⟨x,hx,hb⟩:=List.any_eq_true.1 hany
   have:=h.2.1 x hx
   rw [← z52] at this
   rw [this] at hb;simp at hb
  rename_i hlen hany
  have hcl:c.ranks.length=g.st.length * a.acc.length:=by omega
  have hrng:∀ x∈c.ranks,-1≤x∧x≤4000:=fun x hx=>by
   have:=List.any_eq_false.1 hany x hx
   rw [← z52];simpa using this
  have hmod:∀ k:Nat,(((k:Int) % (a.acc.length:Int)).toNat)=k % a.acc.length:=fun k=>by omega
  have hmodlt:∀ k:Nat,k % a.acc.length < a.acc.length:=fun k=>Nat.mod_lt _ (by omega)
  have hil:=hini.le (by omega)
  refine z93 (fun j:Nat=>([(6,.ptr 1 none 0),(7,.ptr 2 none 0),(9,lst 1 encL rows),(48,ints a.ini),(49,.int a.ini.length),(50,.int j)],[.cells 2 [[lst 2 State.cs g.st,lst 1 encL g.nx]],.cells 3 [[lst 1 enI a.ini,lst 1 enB a.acc,lst 4 Trans.cs a.ed]],.cells 1 [[lst 1 enI c.ranks]]])) (fun j=>j≤a.ini.length∧∀ i (h:i < a.ini.length),i < j→0≤rk c.ranks a.ini[i]) (fun j=>a.ini.length - j) 0 ⟨by omega,fun i h hi=>by omega⟩ ⟨[0,1,2],rfl,by decide,rfl,by repeat' (first|exact True.intro|exact ⟨rfl,rfl⟩|apply y44),by repeat' (first|exact True.intro|exact z25 rfl rfl|apply y44)⟩ ?_
  rintro j ⟨hj1,hj2⟩
  by_cases hjl:j < a.ini.length
  ·have hin:=(hini j hjl hjl).1
   have hb1:=z115 (a:=(g.st.length:Int) - 1) (b:=(a.acc.length:Int)) (A:=60) (B:=64) (by have:=hG.1;omega) (by have:=hG.1;omega) (by omega) (by omega)
   rw [Int.sub_mul,Int.one_mul] at hb1
   have hix:a.ini[j].toNat < c.ranks.length:=by rw [hcl];omega
   have hrk:rk c.ranks a.ini[j]=c.ranks[a.ini[j].toNat]'hix:=z18 hix
   repeat' (first|(apply y83 ok;rfl;conv=>whnf)|(apply y44;(first|omega|(unfold inI;omega));conv=>whnf)|(with_reducible apply z4;omega;intro _;conv=>whnf)|(with_reducible apply z33;omega;intro _;conv=>whnf)|(apply z2<;>intro _<;>conv=>whnf))
   ·exact z22 rfl (y81 fun h=>by have:=h.2.2.1 _ (y45 hjl);rw [hrk] at this;omega)
   ·refine z81 (j+1) [0,1,2] ⟨by omega,fun i hi hij=>?_⟩ (by omega) ⟨rfl,by decide,rfl,by repeat' (first|exact True.intro|exact ⟨rfl,rfl⟩|apply y44),by repeat' (first|exact True.intro|exact z25 rfl rfl|apply y44)⟩
    rcases y68 i j with h3|h3
    ·exact hj2 i hi h3
    ·obtain rfl:i=j:=by omega
     rw [hrk];omega
   ·omega
  repeat' (first|(apply y83 ok;rfl;conv=>whnf)|(apply y44;(omega);conv=>whnf)|(with_reducible apply z4;omega;intro _;conv=>whnf)|(with_reducible apply z33;omega;intro _;conv=>whnf)|(apply z2<;>intro _<;>conv=>whnf))
  all_goals try (exfalso;omega)
  have hiniR:∀ x∈a.ini,0≤rk c.ranks x:=fun x hx=>by
   obtain ⟨i,hi,rfl⟩:=List.mem_iff_getElem.1 hx
   exact hj2 i hi (by omega)
  clear hj1 hj2 hjl
  refine z93 (fun k:Nat=>([(6,.ptr 1 none 0),(7,.ptr 2 none 0),(9,lst 1 encL rows),(62,ints c.ranks),(63,.int c.ranks.length),(64,.int k)],[.cells 2 [[lst 2 State.cs g.st,lst 1 encL g.nx]],.cells 3 [[lst 1 enI a.ini,lst 1 enB a.acc,lst 4 Trans.cs a.ed]],.cells 1 [[lst 1 enI c.ranks]]])) (fun k=>k≤c.ranks.length∧∀ i (h:i < c.ranks.length),i < k→0≤c.ranks[i]→z436 (rows.getD i []) c.ranks c.ranks[i] (a.acc.getD (i % a.acc.length) false)) (fun k=>c.ranks.length - k) 0 ⟨by omega,fun i h hi=>by omega⟩ ⟨[0,1,2],rfl,by decide,rfl,by repeat' (first|exact True.intro|exact ⟨rfl,rfl⟩|apply y44),by repeat' (first|exact True.intro|exact z25 rfl rfl|apply y44)⟩ ?_
  rintro k ⟨hk1,hk2⟩
  have hm:=hmod k
  have hml:=hmodlt k
  by_cases hkl:k < c.ranks.length
  ·have hrr:k < rows.length:=by omega
   have hkacc:((k:Int) % (a.acc.length:Int)).toNat < a.acc.length:=by omega
   have hacc:a.acc.getD (k % a.acc.length) false=(a.acc[((k:Int) % (a.acc.length:Int)).toNat]'hkacc):=by
    rw [z18 hml];simp only [hm]
   have hrw:rows.getD k []=rows[k]:=z18 hrr
   have hrl2:rows[k].length≤7372800:=hrowl _ (y45 hrr)
   have hxs:∀ x∈rows[k],0≤x∧x < c.ranks.length:=fun x hx=>by
    have:=hrows _ (y45 hrr) x hx
    rw [hcl];exact this
   have hrk:=hrng c.ranks[k] (y45 hkl)
   have hno:z1002 rows a.ini a.acc (g.st.length * a.acc.length) c.ranks→0≤c.ranks[k]→z436 rows[k] c.ranks c.ranks[k] (a.acc[((k:Int) % (a.acc.length:Int)).toNat]'hkacc):=fun h=>by
    have h1:=h.2.2.2 k hkl
    rw [hrw,hacc] at h1
    exact h1
   have hyes:(0≤c.ranks[k]→z436 rows[k] c.ranks c.ranks[k] (a.acc[((k:Int) % (a.acc.length:Int)).toNat]'hkacc))→∀ i (h:i < c.ranks.length),i < k+1→0≤c.ranks[i]→z436 (rows.getD i []) c.ranks c.ranks[i] (a.acc.getD (i % a.acc.length) false):=fun h i hi hik=>by
    rcases y68 i k with h3|h3
    ·exact hk2 i hi h3
    ·obtain rfl:i=k:=by omega
     rw [hrw,hacc];exact h
   generalize hacd:(a.acc[((k:Int) % (a.acc.length:Int)).toNat]'hkacc)=ac at hno hyes
   repeat' (first|(apply y83 ok;rfl;conv=>whnf)|(apply z7;kernel_rfl;conv=>whnf)|(apply y44;(first|omega|(unfold inI;omega));conv=>whnf)|(with_reducible apply z4;omega;intro _;conv=>whnf)|(with_reducible apply z33;omega;intro _;conv=>whnf)|(apply z2<;>intro _<;>conv=>whnf)|(apply z47<;>intro _<;>conv=>whnf))
   all_goals try (exfalso;omega)
   all_goals (rw [hacd] at *)
   all_goals
    refine z93 (fun j:Nat=>([(6,.ptr 1 none 0),(7,.ptr 2 none 0),(9,lst 1 encL rows),(62,ints c.ranks),(63,.int c.ranks.length),(64,.int k),(14,.int c.ranks[k]),(15,.int (less ac c.ranks[k])),(84,ints rows[k]),(85,.int rows[k].length),(86,.int j)],[.cells 2 [[lst 2 State.cs g.st,lst 1 encL g.nx]],.cells 3 [[lst 1 enI a.ini,lst 1 enB a.acc,lst 4 Trans.cs a.ed]],.cells 1 [[lst 1 enI c.ranks]]])) (fun j=>j≤rows[k].length∧∀ i (h:i < rows[k].length),i < j→0≤c.ranks[k]→0≤rk c.ranks rows[k][i]∧rk c.ranks rows[k][i]≤less ac c.ranks[k]) (fun j=>rows[k].length - j) 0 ⟨by omega,fun i h hi=>by omega⟩ ⟨[0,1,2],rfl,by decide,rfl,⟨⟨rfl,rfl⟩,⟨rfl,rfl⟩,⟨rfl,rfl⟩,⟨rfl,rfl⟩,⟨rfl,rfl⟩,⟨rfl,rfl⟩,⟨rfl,rfl⟩,⟨rfl,by first|(rw [show less ac c.ranks[k]=c.ranks[k] - 1 from if_pos (by assumption)];rfl)|(rw [show less ac c.ranks[k]=c.ranks[k] from if_neg (by simp [*])];rfl)⟩,⟨rfl,rfl⟩,⟨rfl,rfl⟩,⟨rfl,rfl⟩,trivial⟩,⟨z25 rfl rfl,z25 rfl rfl,z25 rfl rfl,trivial⟩⟩ ?_
    rintro j ⟨hj1,hj2⟩
    by_cases hjl:j < rows[k].length
    ·have hx:=hxs _ (y45 hjl)
     have hix:rows[k][j].toNat < c.ranks.length:=by omega
     have hrk2:rk c.ranks rows[k][j]=c.ranks[rows[k][j].toNat]'hix:=z18 hix
     repeat' (first|(apply y83 ok;rfl;conv=>whnf)|(apply y44;(first|omega|(unfold inI;omega));conv=>whnf)|(with_reducible apply z4;omega;intro _;conv=>whnf)|(with_reducible apply z33;omega;intro _;conv=>whnf)|(apply z2<;>intro _<;>conv=>whnf)|(apply z37<;>intro _<;>conv=>whnf)|(apply z0 (z334 _ 0 (less ac c.ranks[k]));rfl;rfl;conv=>whnf))
     ·rename_i hb
      rw [z312] at hb
      exact z22 rfl (y81 fun h=>hb (by rw [← hrk2];exact hno h (by assumption) _ (y45 hjl)))
     ·rename_i hb
      refine z81 (j+1) [0,1,2] ⟨by omega,fun i hi hij h0=>?_⟩ (by omega) ⟨rfl,by decide,rfl,by repeat' (first|exact True.intro|exact ⟨rfl,rfl⟩|apply y44),by repeat' (first|exact True.intro|exact z25 rfl rfl|apply y44)⟩
      rcases y68 i j with h3|h3
      ·exact hj2 i hi h3 h0
      ·obtain rfl:i=j:=by omega
       rw [hrk2];exact z52.1 hb
     ·refine z81 (j+1) [0,1,2] ⟨by omega,fun i hi hij h0=>?_⟩ (by omega) ⟨rfl,by decide,rfl,by repeat' (first|exact True.intro|exact ⟨rfl,rfl⟩|apply y44),by repeat' (first|exact True.intro|exact z25 rfl rfl|apply y44)⟩
      exact absurd h0 (by assumption)
     ·omega
    ·repeat' (first|(apply y83 ok;rfl;conv=>whnf)|(apply y44;(first|omega|(unfold inI;omega));conv=>whnf)|(with_reducible apply z4;omega;intro _;conv=>whnf)|(with_reducible apply z33;omega;intro _;conv=>whnf)|(apply z2<;>intro _<;>conv=>whnf))
     all_goals try (exfalso;omega)
     refine z81 (k+1) [0,1,2] ⟨by omega,hyes fun h0 x hx=>?_⟩ (by omega) ⟨rfl,by decide,rfl,by repeat' (first|exact True.intro|exact ⟨rfl,rfl⟩|apply y44),by repeat' (first|exact True.intro|exact z25 rfl rfl|apply y44)⟩
     obtain ⟨i,hi,rfl⟩:=List.mem_iff_getElem.1 hx
     exact hj2 i hi (by omega) h0
  ·repeat' (first|(apply y83 ok;rfl;conv=>whnf)|(apply z7;kernel_rfl;conv=>whnf)|(apply y44;(omega);conv=>whnf)|(with_reducible apply z4;omega;intro _;conv=>whnf)|(with_reducible apply z33;omega;intro _;conv=>whnf)|(apply z2<;>intro _<;>conv=>whnf)|(apply z47<;>intro _<;>conv=>whnf))
   all_goals try (exfalso;omega)
   exact z22 rfl (y80 ⟨hcl,hrng,hiniR,fun i h=>hk2 i h (by omega)⟩)
 ·have hgl:=(y70 _).mp hgl
  rw [hgl] at k1
  have e:z360 g l a c=false:=by unfold z360;rw [hgl];rfl
  rw [e]
  refine z6 z12 Tryz.func25 rfl rfl 104 Tryz.ntmps25 (by simp) ?_
  repeat' (first|(apply y83 ok;rfl;conv=>whnf)|(apply z0 (k1);rfl;rfl;conv=>whnf))
  all_goals (refine z22 rfl ?_;rfl)
theorem z358 (l:List Int) (hl:l.length≤1048576):CallsA Tryz.prog 204 [.sref 0 0 l.length] [.cells 1 (l.map enI)] (.sref 0 0 l.length) [.cells 1 (l.map enI)]:=by
 refine z6 z12 Tryz.func204 rfl rfl 9 Tryz.ntmps204 (by simp) ?_
 repeat' (first|(apply y83 ok;rfl;conv=>whnf)|(apply y44;(omega);conv=>whnf))
 exact z105 rfl (z1 fun _=>rfl) (by omega) rfl rfl
theorem z769 (l:List Int) (hl:l.length≤1048576):CallsA Tryz.prog 205 [ints l] [] (.sref 0 0 l.length) [.cells 1 (l.map enI)]:=by
 by_cases hp:0 < l.length
 ·exact z617 l hl hp
 ·obtain rfl:l=[]:=y72 (by omega)
  refine z205 (z301 Tryz.func205 rfl (by rfl)) fun ad cap=>?_
  cases ad with
  |none =>
   refine CallsA.nils (res:=.nils) (l:=[.cells 1 []]) ?_ (by simp) z484
   refine z6 z12 Tryz.func205 rfl rfl 8 Tryz.ntmps205 (by simp) ?_
   repeat' ((apply y83 ok;rfl;conv=>whnf))
   all_goals exact z50 rfl rfl rfl
  |some p =>
   refine z6 z12 Tryz.func205 rfl rfl 8 Tryz.ntmps205 (by simp) ?_
   repeat' (first|(apply y83 ok;rfl;conv=>whnf)|(apply y44;(omega);conv=>whnf))
   all_goals (exact z105 rfl z19 rfl rfl rfl)
theorem z397 (l:List Int) (hl:l.length≤1048576):CallsA Tryz.prog 139 [ints l] [] (.sref 0 0 l.length) [.cells 1 (l.map enI)]:=by
 refine z6 z12 Tryz.func139 rfl rfl 6 Tryz.ntmps139 (by simp) ?_
 repeat' (first|(apply y83 ok;rfl;conv=>whnf)|(apply z32 [] [] [0] (z769 l hl);rfl;(focus ((repeat' (exact z11))<;>(fail)));rfl;rfl;rfl;rfl;rfl;(focus ((repeat' (first|exact z10|apply z14))<;>((refine z26 ?_;((exact z1 (fun _=>rfl)))))));(exact .inl rfl);conv=>whnf)|(apply z32 [0] [] [] (z358 l hl);rfl;(focus ((repeat' (first|exact z11|apply z28))<;>((refine z44 rfl ?_;((exact z1 (fun _=>rfl)))))));rfl;rfl;rfl;rfl;rfl;(focus ((repeat' (first|exact z10|apply z14))<;>((refine z26 ?_;((exact z1 (fun _=>rfl)))))));(exact .inl rfl);conv=>whnf))
 exact z105 rfl (z1 fun _=>rfl) rfl rfl rfl
structure RI (rows:List (List Int)) (ini S L:List Int):Prop where
 inS:InN rows.length S
 sub:∀ x∈L,x∈S
 rp:∀ x∈S,RP rows ini x
 base:∀ x∈ini,x∈S
def Shut (rows:List (List Int)) (S:List Int) (x:Int):Prop:=∀ y∈rows.getD x.toNat [],y∈S
set_option maxHeartbeats 1600000 in
theorem z649 (rows:List (List Int)) (ini:List Int) (hr:∀ r∈rows,InN rows.length r) (hi:InN rows.length ini) (hN:rows.length≤1048576) (hrl:∀ r∈rows,r.length≤1000000000) (hil:ini.length≤1048576):CallsA Tryz.prog 99 [lst 1 encL rows,ints ini] [] (.sref 0 0 rows.length) [.cells 1 ((z212 rows ini).map enB)]:=by
 have c0:=z397 ini hil
 refine z6 z12 Tryz.func99 rfl rfl 64 Tryz.ntmps99 (by simp) ?_
 repeat' (first|(apply y83 ok;rfl;conv=>whnf)|(apply y44;((dsimp only;omega));conv=>whnf)|(apply z32 [] [] [1] (c0);rfl;(focus ((repeat' (exact z11))<;>(fail)));rfl;rfl;rfl;rfl;rfl;(focus ((repeat' (first|exact z10|apply z14))<;>((refine z26 ?_;((exact z1 (fun _=>rfl)))))));(exact .inl rfl);conv=>whnf))
 refine z93 (fun i:Nat=>([(0,lst 1 encL rows),(5,.sref 0 0 rows.length),(6,.sref 1 0 ini.length),(17,ints ini),(18,.int ini.length),(19,.int i)],[.cells 1 ((mkB rows.length (ini.take i)).map enB),.cells 1 (ini.map enI)])) (fun i=>i≤ini.length) (fun i=>ini.length - i) 0 (by omega) ⟨[0,1],rfl,by decide,rfl,⟨⟨rfl,rfl⟩,⟨rfl,rfl⟩,⟨rfl,rfl⟩,⟨rfl,rfl⟩,⟨rfl,rfl⟩,⟨rfl,rfl⟩,trivial⟩,⟨z17 (z31 (by rw [List.take_zero,z837,List.map_replicate];rfl)) (z1 fun _=>rfl),z17 rfl (z1 fun _=>rfl),trivial⟩⟩ ?_
 intro i hil2
 by_cases hil3:i < ini.length
 ·have hx:=hi ini[i] (y45 _)
  repeat' (first|(apply y83 ok;rfl;conv=>whnf)|(refine z303 (enc:=enB) (v:=ini[i]) (by rfl) hx.1 hx.2 ?_;conv=>whnf)|(apply y44;(first|omega|(unfold inI;omega));conv=>whnf)|(with_reducible apply z4;omega;intro _;conv=>whnf)|(apply z2<;>intro _<;>conv=>whnf))
  all_goals try (exfalso;omega)
  exact z81 (i+1) [0,1] (by omega) (by omega) ⟨rfl,by decide,rfl,⟨⟨rfl,rfl⟩,⟨rfl,rfl⟩,⟨rfl,rfl⟩,⟨rfl,rfl⟩,⟨rfl,rfl⟩,⟨rfl,rfl⟩,trivial⟩,⟨z17 (z31 (z424 (enc:=enB) (by rfl) hx.1 hx.2 fun x=>by rw [y51 hil3,List.mem_append,List.mem_singleton])) (z1 fun _=>rfl),z17 rfl (z1 fun _=>rfl),trivial⟩⟩
 repeat' (first|(apply y83 ok;rfl;conv=>whnf)|(apply y44;(omega);conv=>whnf)|(with_reducible apply z4;omega;intro _;conv=>whnf)|(apply z4;omega;intro _;conv=>whnf)|(apply z2<;>intro _<;>conv=>whnf))
 all_goals try (exfalso;omega)
 obtain rfl:i=ini.length:=by omega
 rw [y55]
 refine z93 (fun x:List Int×List Int×List Int=>([(0,lst 1 encL rows),(5,.sref 0 0 rows.length),(6,.sref 1 0 x.2.1.length)],[.cells 1 ((mkB rows.length x.1).map enB),.cells 1 ((x.2.1++x.2.2).map enI)])) (fun x=>RI rows ini x.1 x.2.1∧(∀ v∈x.1,v ∉ x.2.1→Shut rows x.1 v)∧2 * cntU rows.length x.1+x.2.1.length≤2 * rows.length+ini.length) (fun x=>2 * cntU rows.length x.1+x.2.1.length) (ini,ini,[]) ⟨⟨hi,fun _ h=>h,fun _ h=>.base h,fun _ h=>h⟩,fun v h h'=>absurd h h',by have:=z999 rows.length ini;dsimp only;omega⟩ ⟨[0,1],rfl,by decide,rfl,⟨⟨rfl,rfl⟩,⟨rfl,rfl⟩,⟨rfl,rfl⟩,trivial⟩,⟨z17 rfl (z1 fun _=>rfl),z17 (z31 (by rw [y63])) (z1 fun _=>rfl),trivial⟩⟩ ?_
 rintro ⟨S,L,J⟩ ⟨hRI,hsh,hLl⟩
 dsimp only at hRI hsh hLl ⊢
 rcases List.eq_nil_or_concat L with rfl|⟨L,x,rfl⟩
 ·repeat' ((apply y83 ok;rfl;conv=>whnf))
  refine z222 rfl (z1 fun _=>rfl) rfl ?_
  rw [z1073]
  intro v _
  refine ⟨fun h=>hRI.rp _ h,fun h=>?_⟩
  generalize (v:Int)=u at h
  induction h with
  |base h=>exact hRI.base _ h
  |step _ h2 ih=>exact hsh _ ih (by simp) _ h2
 ·rw [List.concat_eq_append] at *
  have hxS:x∈S:=hRI.sub x (by simp)
  have hx:=hRI.inS x hxS
  have e:(L++[x]).length=L.length+1:=by simp
  have hxr:x.toNat < rows.length:=by omega
  rw [e] at hLl
  rw [e,List.append_assoc,List.singleton_append]
  have hg:((L++x::J).map enI)[L.length]?=some (enI x):=by simp
  have hrow:rows.getD x.toNat []=rows[x.toNat]:=z18 hxr
  have hrin:InN rows.length rows[x.toNat]:=hr _ (y45 _)
  have hrl2:=hrl rows[x.toNat] (y45 _)
  repeat' (first|(apply y83 ok;rfl;conv=>whnf)|(refine z16 (i:=L.length) (by omega) hg ?_;conv=>whnf)|(apply y44;(first|omega|(unfold inI;omega));conv=>whnf)|(with_reducible apply z33;omega;intro _;conv=>whnf)|(apply z2<;>intro _<;>conv=>whnf))
  all_goals try (exfalso;omega)
  generalize hrw:rows[x.toNat]=row at *
  refine z93 (fun y:List Int×List Int×List Int×Nat=>([(0,lst 1 encL rows),(5,.sref 0 0 rows.length),(6,.sref 1 0 y.2.1.length),(44,ints row),(45,.int row.length),(46,.int y.2.2.2)],[.cells 1 ((mkB rows.length y.1).map enB),.cells 1 ((y.2.1++y.2.2.1).map enI)])) (fun y=>RI rows ini y.1 y.2.1∧(∀ v∈y.1,v ∉ y.2.1→v≠x→Shut rows y.1 v)∧(∀ v∈row.take y.2.2.2,v∈y.1)∧y.2.2.2≤row.length∧2 * cntU rows.length y.1+y.2.1.length≤2 * cntU rows.length S+L.length) (fun y=>row.length - y.2.2.2) (S,L,x::J,0) ⟨⟨hRI.inS,fun v hv=>hRI.sub v (by simp [hv]),hRI.rp,hRI.base⟩,fun v hv hv' hne=>hsh v hv (by simp [hv',hne]),fun v hv=>by simp at hv,y54 _,y53 _⟩ ⟨[0,1],rfl,by decide,rfl,⟨⟨rfl,rfl⟩,⟨rfl,rfl⟩,⟨rfl,z270 (by dsimp only;omega) rfl⟩,⟨rfl,rfl⟩,⟨rfl,rfl⟩,⟨rfl,rfl⟩,trivial⟩,⟨z17 rfl (z1 fun _=>rfl),z17 rfl (z1 fun _=>rfl),trivial⟩⟩ ?_
  rintro ⟨S',L',J',i⟩ ⟨h1,h2,h3,h4,h5⟩
  dsimp only at h1 h2 h3 h4 h5 ⊢
  by_cases hil4:i < row.length
  ·have hy:=hrin row[i] (y45 _)
   repeat' (first|(apply y83 ok;rfl;conv=>whnf)|(refine z303 (enc:=enB) (v:=row[i]) (by rfl) hy.1 hy.2 ?_;conv=>whnf)|(apply y44;(first|omega|(unfold inI;omega)|((try dsimp only);simp only [y50,y49,y48,y47,y57,y58];omega)|exact ⟨rfl,z23 rfl z29⟩);conv=>whnf)|(with_reducible apply z4;omega;intro _;conv=>whnf)|(apply z2<;>intro _<;>conv=>whnf)|(apply z8<;>intro _<;>conv=>whnf))
   all_goals try (exfalso;omega)
   ·rename_i hn
    have hn:row[i] ∉ S':=by simpa using hn
    have hc:=cntU_lt (S:=S') (S':=S'++[row[i]]) (fun v hv=>by simp [hv]) hn (by simp) rows.length hy.1 hy.2
    refine z81 (S'++[row[i]],L'++[row[i]],[],i+1) [0,3] ⟨⟨fun v hv=>?_,fun v hv=>?_,fun v hv=>?_,fun v hv=>by simp [h1.base v hv]⟩,fun v hv hv' hne=>?_,fun v hv=>?_,by dsimp only;omega,?_⟩ (by dsimp only;omega) ⟨rfl,by decide,rfl,⟨⟨rfl,rfl⟩,⟨rfl,rfl⟩,⟨rfl,z270 (by simp) rfl⟩,⟨rfl,rfl⟩,⟨rfl,rfl⟩,⟨rfl,rfl⟩,trivial⟩,⟨z17 (z31 (z424 (enc:=enB) (by rfl) hy.1 hy.2 fun v=>by simp)) (z1 fun _=>rfl),z17 (z31 ?_) (z1 fun _=>rfl),trivial⟩⟩
    ·rcases List.mem_append.1 hv with hv|hv
     ·exact h1.inS v hv
     ·rw [List.mem_singleton.1 hv];exact hy
    ·rcases List.mem_append.1 hv with hv|hv
     ·exact List.mem_append_left _ (h1.sub v hv)
     ·exact List.mem_append_right _ hv
    ·rcases List.mem_append.1 hv with hv|hv
     ·exact h1.rp v hv
     ·rw [List.mem_singleton.1 hv];exact .step (hRI.rp x hxS) (by rw [hrow];exact y45 _)
    ·dsimp only at hv hv'
     rcases List.mem_append.1 hv with hv|hv
     ·exact fun y hy=>List.mem_append_left _ (h2 v hv (fun h=>hv' (List.mem_append_left _ h)) hne y hy)
     ·exact absurd (List.mem_append_right _ hv) hv'
    ·dsimp only at hv ⊢
     rw [y51 hil4] at hv
     rcases List.mem_append.1 hv with hv|hv
     ·exact List.mem_append_left _ (h3 v hv)
     ·exact List.mem_append_right _ hv
    ·dsimp only
     rw [y48]
     simp only [List.length_singleton]
     omega
    ·dsimp only
     rw [y63,y62,y62,List.take_append_of_le_length (by simp),y56 (by simp)]
     rfl
   ·refine z81 (S',L',J',i+1) [0,1] ⟨h1,h2,fun v hv=>?_,by dsimp only;omega,h5⟩ (by dsimp only;omega) ⟨rfl,by decide,rfl,⟨⟨rfl,rfl⟩,⟨rfl,rfl⟩,⟨rfl,rfl⟩,⟨rfl,rfl⟩,⟨rfl,rfl⟩,⟨rfl,rfl⟩,trivial⟩,⟨z17 rfl (z1 fun _=>rfl),z17 rfl (z1 fun _=>rfl),trivial⟩⟩
    dsimp only at hv ⊢
    rw [y51 hil4] at hv
    rcases List.mem_append.1 hv with hv|hv
    ·exact h3 v hv
    ·rw [List.mem_singleton.1 hv];assumption
  ·repeat' (first|(apply y83 ok;rfl;conv=>whnf)|(apply y44;(omega);conv=>whnf)|(with_reducible apply z4;omega;intro _;conv=>whnf)|(apply z4;omega;intro _;conv=>whnf)|(apply z2<;>intro _<;>conv=>whnf)|(apply z37<;>intro _<;>conv=>whnf))
   all_goals try (exfalso;omega)
   have hie:i=row.length:=by omega
   refine z81 (S',L',J') [0,1] ⟨h1,fun v hv hv'=>?_,by dsimp only;omega⟩ (by dsimp only;rw [e];omega) ⟨rfl,by decide,rfl,⟨⟨rfl,rfl⟩,⟨rfl,rfl⟩,⟨rfl,rfl⟩,trivial⟩,⟨z17 rfl (z1 fun _=>rfl),z17 rfl (z1 fun _=>rfl),trivial⟩⟩
   by_cases hvx:v=x
   ·subst hvx
    intro y hy
    rw [hrow] at hy
    exact h3 y (by rw [hie,y55];exact hy)
   ·exact h2 v hv hv' hvx
structure Graph.ok (g:Graph):Prop where
 mx:g.mx
 st:g.st.length≤1048576
 nx:g.nx.length≤1048576
 states:∀ s∈g.st,s.small
 rows:∀ r∈g.nx,r.length≤1048576
 sumS:(g.st.map State.sz).sum≤1048576
 sumN:(g.nx.map List.length).sum≤1048576
theorem y8 {g:Graph} (hg:g.mx) (h1:g.s1≤1048576) (h2:g.s2≤1048576):g.ok:=by
 unfold Graph.s1 tot at h1
 unfold Graph.s2 tot at h2
 refine ⟨hg,by omega,by omega,fun s hs=>?_,fun r hr=>?_,by omega,by omega⟩
 ·have:=z200 State.sz hs
  unfold State.sz at this h1
  exact ⟨by omega,by omega⟩
 ·have:=z200 List.length hr;omega
structure LabOk (l:List Tree):Prop where
 mx:Lmx l
 len:l.length≤1048576
 el:∀ t∈l,t.sz≤1048576
 sum:(l.map Tree.sz).sum≤1048576
theorem LabOk.of {l:List Tree} (hl:Lmx l) (h:tot Tree.sz l≤1048576):LabOk l:=by
 unfold tot at h
 exact ⟨hl,by omega,fun t ht=>by have:=z200 Tree.sz ht;omega,by omega⟩
theorem z254 {g:Graph} (h:g.ok):CallsA Tryz.prog 37 [.agg g.cs] [] (.agg g.cs) []:=z937 g (z798 g.st h.st h.states) (z936 g.nx h.nx (fun s hs=>z371 s (h.rows s hs)))
theorem z255 {l:List Tree} (h:LabOk l):CallsA Tryz.prog 38 [lst 3 Tree.cs' l] [] (lst 3 Tree.cs' l) []:=z593 l h.len (fun t ht=>z1043 t (h.el t ht))
theorem z678 {g:Graph} (h:g.ok):CallsA Tryz.prog 42 [.agg g.cs,.agg g.cs] [] (.bool true) []:=by
 have:=z991 g g (z854 g.st g.st h.mx.1 h.mx.1) (z990 g.nx g.nx h.mx.2.1 h.mx.2.1 (fun s hs t ht=>z245 s t (h.mx.2.2 s hs) (h.mx.2.2 t ht)))
 rwa [y80 rfl] at this
theorem z679 {l:List Tree} (h:LabOk l):CallsA Tryz.prog 43 [lst 3 Tree.cs' l,lst 3 Tree.cs' l] [] (.bool true) []:=by
 have:=z616 l l h.mx.1 h.mx.1 (fun s hs t ht=>z1143 s (h.mx.2 s hs) t (h.mx.2 t ht))
 rwa [y80 rfl] at this
theorem z634 (g:Graph) (hg:g.mx) (n:Int) (h0:0≤n) (h1:n≤1048576):CallsA Tryz.prog 32 [.agg g.cs,.int n] [] (.int (bud n (g.s1+g.s2))) []:=z942 g n (fun n h0 h1=>z803 g.st n hg.1 h0 h1) (fun n h0 h1=>z941 g.nx n hg.2.1 (fun s hs n h0 h1=>z374 s n (hg.2.2 s hs) h0 h1) h0 h1) h0 h1
theorem z635 (l:List Tree) (hl:Lmx l) (n:Int) (h0:0≤n) (h1:n≤1048576):CallsA Tryz.prog 33 [lst 3 Tree.cs' l,.int n] [] (.int (bud n (tot Tree.sz l))) []:=z943 l n hl.1 hl.2 h0 h1
def enU (n:Int):List AC:=[.raw (.int .u8 n)]
def rdO (bs:List Int) (p:Int):AObj:=.cells 2 [[lst 1 enU bs,.int p]]
structure BytesOk (bs:List Int):Prop where
 len:bs.length≤2000
 el:∀ x∈bs,0≤x∧x≤255
end Go.Proofs.YtahhobgjcfionaaGreat
namespace Go.Proofs.YtahhobgjcfionaaGreat
open Go.Gl
attribute [local irreducible] z21 AWP z42 z46 z43 RetS z51
theorem z134 (t:Tree):t.sz≤maxLen→t.mx:=by
 induction t using y27 with|h t ih=>?_
 intro h
 rw [y29]
 rw [y38] at h
 refine ⟨by omega,fun u hu=>ih u hu ?_⟩
 have:=z200 Tree.sz hu
 omega
abbrev few (p:Int):Prop:=0≤p∧p≤999999000
def leaf (k v:Int):Tree:=.mk k v []
mutual
def subZ (t:Tree):Tree:=match t with
 |.mk k v l=>if k=2∧v=-1 then .mk 0 0 [] else .mk k v (subZs l)
def subZs (l:List Tree):List Tree:=match l with
 |[]=>[]
 |t::r=>subZ t::subZs r
end
def ownT (t:Tree):AC:=.agg [.int t.kind,.int t.val,.sref 0 0 t.kids.length]
theorem z320 {f:FuncId} {args:List AC} {t:Tree} (h:CallsA Tryz.prog f args [] (ownT t) [.cells 3 (t.kids.map Tree.cs')]):CallsA Tryz.prog f args [] (z24 Tree.cs' t) []:=by
 rw [y13]
 exact (by refine y4 (h) [] [0] rfl rfl rfl ?_ ?_<;>(repeat' first|exact y85 _|((apply z97 rfl rfl rfl);(focus ((repeat ((exact z86 (fun _=>rfl) _)));done));(focus (((simp;done));done)))|apply z70|constructor))
theorem Lmx_of {L:List Tree} (h1:L.length≤10) (h2:∀ t∈L,t.sz≤1000):Lmx L:=⟨by unfold maxLen;omega,fun t ht=>z134 t (by have:=h2 t ht;unfold maxLen;omega)⟩
structure State.sm (s:State):Prop where
 a:s.a.length≤100
 b:s.b.length≤100
structure Graph.sm (g:Graph):Prop where
 st:g.st.length≤100
 nx:g.nx.length≤100
 el:∀ s∈g.st,s.sm
 row:∀ r∈g.nx,r.length≤1000
theorem Graph.sm.mx {g:Graph} (h:g.sm):g.mx:=by
 have h1:=h.st
 have h2:=h.nx
 refine ⟨?_,by unfold maxLen;omega,fun l hl=>by have:=h.row l hl;unfold maxLen;omega⟩
 have h3:=h.el
 exact ⟨by unfold maxLen;omega,fun s hs=>⟨by have:=(h3 s hs).a;unfold maxLen;omega,by have:=(h3 s hs).b;unfold maxLen;omega⟩⟩
structure Edge where
 fr:Int
 to:Int
 gd:Tree
 var:Int
 val:Tree
 sync:Int
def Edge.cs (e:Edge):List AC:=[.int e.fr,.int e.to,.int e.gd.kind,.int e.gd.val,lst 3 Tree.cs' e.gd.kids,.int e.var,.int e.val.kind,.int e.val.val,lst 3 Tree.cs' e.val.kids,.int e.sync]
structure Proc where
 loc:Int
 es:List Edge
def Proc.cs (p:Proc):List AC:=[.int p.loc,lst 10 Edge.cs p.es]
structure Sys where
 init:List Int
 ps:List Proc
def Sys.cs (s:Sys):List AC:=[ints s.init,lst 2 Proc.cs s.ps]
structure Edge.sm (e:Edge):Prop where
 gd:e.gd.sz≤100
 val:e.val.sz≤100
 var : -1≤e.var∧e.var≤2
 sync : -2≤e.sync∧e.sync≤2
structure Proc.sm (p:Proc):Prop where
 loc:0≤p.loc∧p.loc≤100
 len:p.es.length≤10
 el:∀ e∈p.es,e.sm
structure Sys.sm (s:Sys):Prop where
 init:s.init.length≤10
 len:s.ps.length≤10
 el:∀ p∈s.ps,p.sm
noncomputable def noneB (t:Tree):Bool:=decide (t.kind=0∧t.val=0∧t.kids.length=0)
noncomputable def edgOk (e:Edge) (n:Int):Bool:=decide (0≤e.fr∧e.fr < n∧0≤e.to∧e.to < n∧n≤4) && (e.gd.exprB && (decide (-2≤e.sync∧e.sync≤2∧-1≤e.var∧e.var < 3) && (if e.var < 0 then noneB e.val else e.val.exprB)))
noncomputable def procB (p:Proc):Bool:=p.es.all (fun e=>edgOk e p.loc) && decide (1≤p.loc∧p.loc≤4∧p.es.length≤6)
noncomputable def sysB (s:Sys):Bool:=s.ps.all procB && (z466 s.init && decide (1≤s.ps.length∧s.ps.length≤3))
def Sys.pr (s:Sys) (i:Nat):Proc:=s.ps.getD i ⟨0,[]⟩
def Proc.eg (p:Proc) (k:Nat):Edge:=p.es.getD k ⟨0,0,leaf 0 0,0,leaf 0 0,0⟩
structure Edge.ok (e:Edge) (n:Int):Prop where
 to:0≤e.to∧e.to < n
 gd:e.gd.good
 var : -1≤e.var∧e.var≤2
 val:0≤e.var→e.val.good
 sync : -2≤e.sync∧e.sync≤2
structure Sys.ok (s:Sys):Prop where
 n1:1≤s.ps.length
 n3:s.ps.length≤3
 ne:∀ i,i < s.ps.length→(s.pr i).es.length≤6
 loc:∀ i,i < s.ps.length→(s.pr i).loc≤4
 eg:∀ i k,i < s.ps.length→k < (s.pr i).es.length→((s.pr i).eg k).ok (s.pr i).loc
 init:ValsOk s.init
theorem Sys.ok_of {s:Sys} (h:sysB s=true):s.ok:=by
 unfold sysB at h
 rw [y69,y69,decide_eq_true_iff,y76] at h
 obtain ⟨h1,h2,h3⟩:=h
 have hp:∀ i,i < s.ps.length→procB (s.pr i)=true:=fun i hi=>by unfold Sys.pr;rw [z18 hi];exact h1 _ (y45 _)
 have hq:∀ i,i < s.ps.length→(∀ e∈(s.pr i).es,edgOk e (s.pr i).loc=true)∧1≤(s.pr i).loc∧(s.pr i).loc≤4∧(s.pr i).es.length≤6:=fun i hi=>by
  have:=hp i hi
  unfold procB at this
  rw [y69,decide_eq_true_iff,y76] at this
  exact this
 refine ⟨h3.1,h3.2,fun i hi=>(hq i hi).2.2.2,fun i hi=>(hq i hi).2.2.1,fun i k hi hk=>?_,z708 h2⟩
 have he:=(hq i hi).1 ((s.pr i).eg k) (by unfold Proc.eg;rw [z18 hk];exact y45 _)
 unfold edgOk at he
 simp only [y69,decide_eq_true_iff] at he
 obtain ⟨a1,a2,a3,a4⟩:=he
 refine ⟨⟨a1.2.2.1,a1.2.2.2.1⟩,y26 a2,⟨a3.2.2.1,by omega⟩,fun hv=>?_,⟨a3.1,a3.2.1⟩⟩
 rw [if_neg (by omega)] at a4
 exact y26 a4
noncomputable def rdyE (e:Edge) (st:State) (i:Nat):Bool:=decide (e.fr=st.a.getD i 0) && decide (e.gd.ev st.b≠0)
structure State.ok (st:State) (s:Sys):Prop where
 a:st.a.length=s.ps.length
 b:ValsOk st.b
structure Stp where
 p:Int
 e:Int
 q:Int
 f:Int
def Stp.cs (x:Stp):List AC:=[.int x.p,.int x.e,.int x.q,.int x.f]
structure Stp.ok (x:Stp) (s:Sys):Prop where
 p:0≤x.p∧x.p < s.ps.length
 e:0≤x.e∧x.e < (s.pr x.p.toNat).es.length
 q : -1≤x.q∧x.q < s.ps.length
 f:0≤x.q→0≤x.f∧x.f < (s.pr x.q.toNat).es.length
open Classical in
noncomputable def partR (s:Sys) (st:State) (i k:Nat) (j m:Nat):List Stp:=if j≠i∧((s.pr j).eg m).sync=-((s.pr i).eg k).sync∧rdyE ((s.pr j).eg m) st j=true then [⟨i,k,j,m⟩] else []
noncomputable def partL (s:Sys) (st:State) (i k:Nat):List Stp:=cat s.ps.length fun j=>cat (s.pr j).es.length (partR s st i k j)
end Go.Proofs.YtahhobgjcfionaaGreat
namespace Go.Proofs.YtahhobgjcfionaaGreat
open Go.Gl
attribute [local irreducible] z21 AWP z42 z46 z43 RetS z51
noncomputable def stepR (s:Sys) (st:State) (j m:Nat):List Stp:=if ((s.pr j).eg m).sync < 0∨rdyE ((s.pr j).eg m) st j=false then [] else if ((s.pr j).eg m).sync=0 then [⟨j,m,-1,-1⟩] else partL s st j m
noncomputable def stepL (s:Sys) (st:State):List Stp:=cat s.ps.length fun j=>cat (s.pr j).es.length (stepR s st j)
noncomputable def takeS (st:State) (i:Nat) (e:Edge):State:=⟨st.a.set i e.to,if 0≤e.var then st.b.set e.var.toNat (e.val.ev st.b) else st.b⟩
noncomputable def z777 (s:Sys) (st:State) (x:Stp):State:=if 0≤x.q then takeS (takeS st x.p.toNat ((s.pr x.p.toNat).eg x.e.toNat)) x.q.toNat ((s.pr x.q.toNat).eg x.f.toNat) else takeS st x.p.toNat ((s.pr x.p.toNat).eg x.e.toNat)
def z1139 (t:State):List State→Int→Int
 |[],_=>-1
 |x::r,k=>if x=t then k else z1139 t r (k+1)
end Go.Proofs.YtahhobgjcfionaaGreat
namespace Go.Proofs.YtahhobgjcfionaaGreat
open Go.Gl
attribute [local irreducible] z21 AWP z42 z46 z43 RetS z51
open Classical in
noncomputable def inn (s:Sys) (st0:State):List Stp→List State→List Int→Option (List State×List Int)
 |[],S,N=>some (S,N)
 |x::r,S,N =>
  if z1139 (z777 s st0 x) S 0 < 0 then
   (if 60≤(S.length:Int) then none else inn s st0 r (S++[z777 s st0 x]) (if (S.length:Int)∈N then N else N++[(S.length:Int)]))
  else
   (if 60≤z1139 (z777 s st0 x) S 0 then none else inn s st0 r S (if z1139 (z777 s st0 x) S 0∈N then N else N++[z1139 (z777 s st0 x) S 0]))
open Classical in
noncomputable def rowOf (L:List Stp) (N:List Int) (i:Nat):List Int:=if L=[] then N++[(i:Int)] else N
noncomputable def grow (s:Sys):Nat→List State→List (List Int)→Nat→Option Graph
 |0,_,_,_=>none
 |f+1,S,G,i=>match S[i]? with
  |none=>some ⟨S,G⟩
  |some st0=>match inn s st0 (stepL s st0) S [] with
   |none=>none
   |some (S',N)=>grow s f S' (G++[rowOf (stepL s st0) N i]) (i+1)
theorem State.ok.sm {s:Sys} (hs:s.ok) {st:State} (h:st.ok s):st.sm:=⟨by have:=h.a;have:=hs.n3;omega,by have:=h.b.1;omega⟩
end Go.Proofs.YtahhobgjcfionaaGreat
namespace Go.Proofs.YtahhobgjcfionaaGreat
open Go.Gl
attribute [local irreducible] z21 AWP z42 z46 z43 RetS z51
def isSt (bs:List Int) (i:Int) (q:Int) (t:State) (q' : Int):Prop:=∃ a b:Int,t=⟨[i % 3],[a,b,0]⟩∧q'=q+1+1 ∧
 CallsA Tryz.prog 92 [.ptr 0 none 0,.int 3] [rdO bs q] (.int a) [rdO bs (q+1)]∧CallsA Tryz.prog 92 [.ptr 0 none 0,.int 2] [rdO bs (q+1)] (.int b) [rdO bs (q+1+1)]
def isRow (bs:List Int) (n:Nat) (q:Int) (r:List Int) (q' : Int):Prop:=∃ a b c:Int,r=(if c=0∧b≠a then [a,b] else [a])∧q'=q+1+1+1 ∧
 CallsA Tryz.prog 92 [.ptr 0 none 0,.int n] [rdO bs q] (.int a) [rdO bs (q+1)]∧CallsA Tryz.prog 92 [.ptr 0 none 0,.int n] [rdO bs (q+1)] (.int b) [rdO bs (q+1+1)] ∧
 CallsA Tryz.prog 92 [.ptr 0 none 0,.int 2] [rdO bs (q+1+1)] (.int c) [rdO bs (q+1+1+1)]
structure Small (bs:List Int) (q q' : Int) (g:Graph) (m:Nat) (pf pg:Nat→Int):Prop where
 num:CallsA Tryz.prog 133 [.ptr 0 none 0,.sref 1 0 6] [rdO bs q,.cells 1 ([3,4,2,5,1,6].map enI)] (.int m) [rdO bs (pf 0),.cells 1 ([3,4,2,5,1,6].map enI)]
 m1:1≤m
 m6:m≤6
 sl:g.st.length=m
 nl:g.nx.length=m
 st:∀ k (h:k < g.st.length),isSt bs (m - k) (pf k) g.st[k] (pf (k+1))
 mid:pf m=pg 0
 row:∀ k (h:k < g.nx.length),isRow bs m (pg k) g.nx[k] (pg (k+1))
 last:pg m=q'
 q0:q≤q'
 q1:q'≤q+40
theorem Small.sm {bs:List Int} {q q' : Int} {g:Graph} {m:Nat} {pf pg:Nat→Int} (h:Small bs q q' g m pf pg):g.sm:=by
 have h1:=h.sl
 have h2:=h.nl
 have h3:=h.m6
 refine ⟨by omega,by omega,fun s hs=>?_,fun r hr=>?_⟩
 ·obtain ⟨i,hi,rfl⟩:=List.mem_iff_getElem.1 hs
  obtain ⟨a,b,e,_⟩:=h.st i hi
  rw [e];exact ⟨by simp,by simp⟩
 ·obtain ⟨i,hi,rfl⟩:=List.mem_iff_getElem.1 hr
  obtain ⟨a,b,c,e,_⟩:=h.row i hi
  rw [e];split<;>simp
structure Graph.d (g:Graph):Prop where
 st:g.st.length≤100
 nx:g.nx.length≤101
 el:∀ s∈g.st,s.sm
 row:∀ r∈g.nx,r.length≤1001
theorem Graph.d.mx {g:Graph} (h:g.d):g.mx:=by
 have h1:=h.st
 have h2:=h.nx
 have h3:=h.el
 exact ⟨⟨by unfold maxLen;omega,fun s hs=>⟨by have:=(h3 s hs).a;unfold maxLen;omega,by have:=(h3 s hs).b;unfold maxLen;omega⟩⟩,by unfold maxLen;omega,fun l hl=>by have:=h.row l hl;unfold maxLen;omega⟩
structure Lab.d (l:List Tree):Prop where
 len:l.length≤3
 el:∀ t∈l,t.sz≤5
theorem Lab.d.mx {l:List Tree} (h:Lab.d l):Lmx l:=Lmx_of (by have:=h.len;omega) fun t ht=>by have:=h.el t ht;omega
structure CodeOk (bs:List Int):Prop where
 len:bs.length≤maxLen
 el:∀ x∈bs,0≤x∧x≤255
theorem CodeOk.take {bs:List Int} (h:CodeOk bs):BytesOk (bs.take 2000):=⟨by simp;omega,fun x hx=>h.el x (List.mem_of_mem_take hx)⟩
end Go.Proofs.YtahhobgjcfionaaGreat
namespace Go.Proofs.YtahhobgjcfionaaGreat
open Go.Gl
attribute [local irreducible] z21 AWP z42 z46 z43
theorem z977 (k:Int):CallsA Tryz.prog 229 [.int k] [] (.int (z208 k)) []:=by
 refine z6 z12 Tryz.func229 rfl rfl 17 Tryz.ntmps229 (by simp) ?_
 repeat' (first|(apply y83 ok;rfl;conv=>whnf)|(apply z2<;>intro _<;>conv=>whnf))
 all_goals (refine z50 rfl rfl ?_;unfold z208;first|(rw [if_pos (by omega)];rfl)|(rw [if_neg (by omega),if_pos (by omega)];rfl)|(rw [if_neg (by omega),if_neg (by omega),if_pos (by omega)];rfl)|(rw [if_neg (by omega),if_neg (by omega),if_neg (by omega)];rfl))
theorem z819 (l:List Tree) (d:Int):Tree.shapeFs l d=l.all (fun t=>t.shapeF d):=by
 induction l with
 |nil=>rfl
 |cons t l ih=>simp [Tree.shapeFs,ih]
theorem z377 (t:Tree) (d:Int):t.shapeF d=(decide (1≤d∧(t.kids.length:Int)=z208 t.kind∧0≤t.val∧t.val≤z388 t.kind) && t.kids.all fun t=>t.shapeF (d - 1)):=by
 cases t;simp only [Tree.shapeF,Tree.kids,Tree.kind,Tree.val,z819];rfl
theorem z975 (t:Tree):t.mx→∀ d:Int,-100≤d→d≤100→CallsA Tryz.prog 179 [z24 Tree.cs' t,.int d] [] (.bool (t.shapeF d)) []:=by
  induction t using y27 with|h t ih=>?_
  intro hm d h0 h1
  rw [y29] at hm
  have hl:=hm.1
  unfold maxLen at hl
  rw [y13,z377]
  refine z6 z12 Tryz.func179 rfl rfl 51 Tryz.ntmps179 (by simp) ?_
  repeat' (first|(apply y83 ok;rfl;conv=>whnf)|(apply z7;kernel_rfl;conv=>whnf)|(apply z2<;>intro _<;>conv=>whnf)|(apply z8<;>intro _<;>conv=>whnf)|(apply z0 (z977 _);rfl;rfl;conv=>whnf))
  all_goals first
    | (refine z22 rfl ?_
       rw [y81]
       · rfl
       · clear ih
         rintro ⟨c1,c2,c3,c4⟩
         unfold z388 at c4
         grind)
    | (have hg : decide (1 ≤ d ∧ (t.kids.length : Int) = z208 t.kind ∧ 0 ≤ t.val ∧ t.val ≤ z388 t.kind) = true := by
         clear ih
         refine y80 ?_
         unfold z388
         grind
       rw [hg,Bool.true_and]
       refine z93 (fun k:Nat=>([(1,.int d),(2,.ptr 0 none 0),(5,.int k)],[.cells 3 [[.int t.kind,.int t.val,lst 3 Tree.cs' t.kids]]])) (fun k=>k≤t.kids.length∧(t.kids.all fun t=>t.shapeF (d - 1))=(t.kids.drop k).all fun t=>t.shapeF (d - 1)) (fun k=>t.kids.length - k) 0 ⟨by omega,rfl⟩ ⟨[0],rfl,by decide,rfl,by repeat' (first|exact True.intro|exact ⟨rfl,rfl⟩|apply y44),by repeat' (first|exact True.intro|exact z25 rfl rfl|apply y44)⟩ ?_
       intro k hk
       repeat' (first|(apply y83 ok;rfl;conv=>whnf)|(apply y44;(first|omega|(unfold inI;omega));conv=>whnf)|(with_reducible apply z4;omega;intro _;conv=>whnf)|(apply z2<;>intro _<;>conv=>whnf)|(apply z37<;>intro _<;>conv=>whnf)|(apply z0 (ih t.kids[k] (y45 _) (hm.2 _ (y45 _)) (d - 1) (by omega) (by omega));rfl;rfl;conv=>whnf))
       · rename_i h1
         exact z22 rfl (by rw [hk.2,z188 _ _ _ (by assumption)];simp [h1])
       · rename_i h1
         exact z81 (k+1) [0] ⟨by omega,by rw [hk.2,z188 _ _ _ (by assumption)];simp [h1]⟩ (by omega) ⟨rfl,by decide,rfl,by repeat' (first|exact True.intro|exact ⟨rfl,rfl⟩|apply y44),by repeat' (first|exact True.intro|exact z25 rfl rfl|apply y44)⟩
       · exact z22 rfl (by rw [hk.2,z216 _ _ _ (by omega)]))
theorem z1150 (t:Tree):∀ d n:Nat,t.shapeF d=true→t.count n≤2 ^ d - 1:=by
 induction t using y27 with|h t ih=>?_
 intro d n h
 rw [z377,y69,decide_eq_true_eq] at h
 obtain ⟨⟨h1,h2,_,_⟩,h3⟩:=h
 rw [y76] at h3
 obtain ⟨d,rfl⟩:∃ e,d=e+1:=⟨d - 1,by omega⟩
 have e:((d+1:Nat):Int) - 1=(d:Nat):=by omega
 rw [e] at h3
 rw [z499]
 have hp:(1:Int)≤2 ^ d:=by exact_mod_cast Nat.one_le_two_pow
 have hq:((2:Int) ^ (d+1))=2 * 2 ^ d:=by rw [Int.pow_succ];omega
 split
 ·rename_i hn
  obtain ⟨n,rfl⟩:∃ e,n=e+1:=⟨n - 1,by omega⟩
  have e:((n+1:Nat):Int) - 1=(n:Nat):=by omega
  rw [e]
  have hl:(t.kids.length:Int)≤2:=by rw [h2];unfold z208;grind
  have hk:∀ u∈t.kids,u.count n≤2 ^ d - 1:=fun u hu=>ih u hu d n (h3 u hu)
  match hkk:t.kids with
  |[]=>simp only [List.map_nil,List.sum_nil];omega
  |[a] =>
   have:=hk a (by simp [hkk])
   simp only [List.map_cons,List.map_nil,List.sum_cons,List.sum_nil];omega
  |[a,b] =>
   have:=hk a (by simp [hkk])
   have:=hk b (by simp [hkk])
   simp only [List.map_cons,List.map_nil,List.sum_cons,List.sum_nil];omega
  |a::b::c::r=>rw [hkk] at hl;simp only [y57] at hl;omega
 ·omega
theorem z766 (t:Tree) (e d:Int) (he:e≤50) (hd:0≤d) (h:t.shapeF e=true):t.count d≤2 ^ 50:=by
 have h1:1≤e:=by
  rw [z377,y69,decide_eq_true_eq] at h;exact h.1.1
 obtain ⟨n,rfl⟩:=Int.eq_ofNat_of_zero_le (show 0≤e by omega)
 obtain ⟨m,rfl⟩:=Int.eq_ofNat_of_zero_le hd
 have h2:=z1150 t n m h
 have h4:(2:Int) ^ n≤2 ^ 50:=by exact_mod_cast Nat.pow_le_pow_right (by omega) (by omega)
 omega
theorem z976 (t:Tree):t.mx→∀ e d:Int,e≤50→0≤d→d≤50→t.shapeF e=true→CallsA Tryz.prog 180 [z24 Tree.cs' t,.int d] [] (.int (t.count d)) []:=by
 induction t using y27 with|h t ih=>?_
 intro hm e d h0 h1 h2 hs
 rw [y29] at hm
 rw [z377,y69,decide_eq_true_eq,y76] at hs
 obtain ⟨⟨hs1,hs2,_,_⟩,hs3⟩:=hs
 have hl:(t.kids.length:Int)≤2:=by rw [hs2];unfold z208;grind
 rw [y13,z499]
 have hb:0 < d→∀ k,k≤t.kids.length→0≤((t.kids.take k).map fun t=>t.count (d - 1)).sum∧((t.kids.take k).map fun t=>t.count (d - 1)).sum≤k * 2 ^ 50:=by
  intro hd k
  induction k with
  |zero=>intro _;simp
  |succ k ihk =>
   intro hk
   have h1:=ihk (by omega)
   rw [z478 _ _ _ (by omega)]
   have h2:=z766 t.kids[k] (e - 1) (d - 1) (by omega) (by omega) (hs3 _ (y45 _))
   have h3:=Tree.count_pos.1 t.kids[k] (d - 1)
   omega
 refine z6 z12 Tryz.func180 rfl rfl 29 Tryz.ntmps180 (by simp) ?_
 repeat' ((apply y83 ok;rfl;conv=>whnf))
 by_cases hd:0 < d
 ·rw [if_pos hd]
  refine z93 (fun k:Nat=>([(1,.int d),(2,.ptr 0 none 0),(5,.int (1+((t.kids.take k).map fun t=>t.count (d - 1)).sum)),(6,.int k)],[.cells 3 [[.int t.kind,.int t.val,lst 3 Tree.cs' t.kids]]])) (fun k=>k≤t.kids.length) (fun k=>t.kids.length - k) 0 (by omega) ⟨[0],rfl,by decide,rfl,by repeat' (first|exact True.intro|exact ⟨rfl,rfl⟩|apply y44),by repeat' (first|exact True.intro|exact z25 rfl rfl|apply y44)⟩ ?_
  intro k hk
  have hbk:=hb hd k hk
  have hbk1:=fun h=>hb hd (k+1) h
  have hss:=fun h=>z478 (fun t=>t.count (d - 1)) t.kids k h
  repeat' (first|(apply y83 ok;rfl;conv=>whnf)|(apply y44;(first|omega|(unfold inI;omega));conv=>whnf)|(with_reducible apply z4;omega;intro _;conv=>whnf)|(apply z2<;>intro _<;>conv=>whnf)|(apply z0 (ih t.kids[k] (y45 _) (hm.2 _ (y45 _)) (e - 1) (d - 1) (by omega) (by omega) (by omega) (hs3 _ (y45 _)));rfl;rfl;conv=>whnf))
  ·have e1:=hss ‹_›
   have e2:=hbk1 (by omega)
   refine y44 (by unfold inI;omega) ?_
   conv=>whnf
   repeat' (first|(apply y83 ok;rfl;conv=>whnf)|(apply y44;((unfold inI;omega));conv=>whnf))
   exact z81 (k+1) [0] (by omega) (by omega) ⟨rfl,by decide,rfl,⟨⟨rfl,rfl⟩,⟨rfl,rfl⟩,⟨rfl,by rw [e1,← Int.add_assoc];rfl⟩,⟨rfl,rfl⟩,trivial⟩,⟨z25 rfl rfl,trivial⟩⟩
  ·omega
  ·obtain rfl:k=t.kids.length:=by omega
   exact z50 rfl rfl (by rw [y55];rfl)
 ·rw [if_neg hd]
  refine z93 (fun k:Nat=>([(1,.int d),(2,.ptr 0 none 0),(5,.int 1),(6,.int k)],[.cells 3 [[.int t.kind,.int t.val,lst 3 Tree.cs' t.kids]]])) (fun k=>k≤t.kids.length) (fun k=>t.kids.length - k) 0 (by omega) ⟨[0],rfl,by decide,rfl,by repeat' (first|exact True.intro|exact ⟨rfl,rfl⟩|apply y44),by repeat' (first|exact True.intro|exact z25 rfl rfl|apply y44)⟩ ?_
  intro k hk
  repeat' (first|(apply y83 ok;rfl;conv=>whnf)|(apply y44;(omega);conv=>whnf)|(with_reducible apply z4;omega;intro _;conv=>whnf)|(apply z2<;>intro _<;>conv=>whnf))
  ·omega
  ·exact z50 rfl rfl rfl
  ·exact z50 rfl rfl rfl
theorem z136 (t:Tree) (hm:t.mx):CallsA Tryz.prog 121 [z24 Tree.cs' t] [] (.bool t.fmB) []:=by
 rw [y21]
 refine z6 z12 Tryz.func121 rfl rfl 10 Tryz.ntmps121 (by simp) ?_
 repeat' (first|(apply y83 ok;rfl;conv=>whnf)|(apply z47<;>intro _<;>conv=>whnf)|(apply z0 (z975 t hm 6 (by omega) (by omega));rfl;rfl;conv=>whnf)|(apply z0 (z976 t hm 6 6 (by omega) (by omega) (by omega) (by assumption));rfl;rfl;conv=>whnf))
 all_goals (refine z22 rfl ?_;(simp [*];done))
end Go.Proofs.YtahhobgjcfionaaGreat
namespace Go.Proofs.YtahhobgjcfionaaGreat
open Go.Gl
attribute [local irreducible] z21 AWP z42 z46 z43 RetS z51
theorem z1111:CallsA Tryz.prog 183 [] [] (.agg [.int 1,.int 0,.list 3 0 []]) []:=by
 refine z5 z12 Tryz.func183 rfl rfl 2 Tryz.ntmps183 (by simp) ?_
 repeat' (((apply y83 ok;rfl))<;>conv=>whnf)
 all_goals (refine rsD [] [] rfl ?_;(repeat' first|exact y85 _|exact z71|apply z70|constructor))
theorem argU (k v:Int) (a:Tree):z24 Tree.cs' (.mk k v [a])=.agg [.int k,.int v,.list 3 1 [Tree.cs' a]]:=by
 rw [y13]
 show AC.agg [AC.int k,AC.int v,lst 3 Tree.cs' [a]]=_
 rfl
theorem argB (k v:Int) (a b:Tree):z24 Tree.cs' (.mk k v [a,b])=.agg [.int k,.int v,.list 3 2 [Tree.cs' a,Tree.cs' b]]:=by
 rw [y13]
 rfl
theorem z511 (x:Tree):F2 LocLe (z335 [AC.int x.kind,AC.int x.val,lst 3 Tree.cs' x.kids]) (Tree.cs x):=by
 have e:Tree.cs x=[AC.int x.kind,AC.int x.val,lst 3 Tree.cs' x.kids]:=by rw [y18];exact AC.agg.inj (y13 x)
 rw [e];exact z553 _
theorem z490 (t:Tree):CallsA Tryz.prog 221 [z24 Tree.cs' t] [] (z24 Tree.cs' (notT t)) []:=by
 unfold notT
 rw [y13 t,y13]
 refine z5 z12 Tryz.func221 rfl rfl 6 Tryz.ntmps221 (by simp) ?_
 repeat' (((apply y83 ok;rfl))<;>conv=>whnf)
 all_goals (refine rsD [] [2] rfl ?_;(repeat' first|exact y85 _|exact f22_cs|refine z97 rfl rfl rfl rfl rfl ?_|apply z70|(apply z352;rfl)|constructor))
 all_goals exact z511 _
theorem z1114 (k:Int):CallsA Tryz.prog 262 [.int k] [] (.int (z856 k)) []:=by
 unfold z856
 refine z5 z12 Tryz.func262 rfl rfl 10 Tryz.ntmps262 (by simp) ?_
 repeat' ((first|(apply y83 ok;rfl)|((apply z2)<;>intro _))<;>conv=>whnf)
 all_goals (refine rsL [] [] rfl ?_;refine RetS.done (z184 ?_) .nil;first|(rw [if_pos (by omega)];done)|(rw [if_neg (by omega),if_pos (by omega)];done)|(rw [if_neg (by omega),if_neg (by omega),if_pos (by omega)];done)|(rw [if_neg (by omega),if_neg (by omega),if_neg (by omega)];done))
set_option maxHeartbeats 3200000 in
theorem z1113 (t:Tree):t.goodF→∀ neg:Bool,CallsA Tryz.prog 234 [z24 Tree.cs' t,.bool neg] [] (z24 Tree.cs' (t.nrm neg)) []:=by
 induction t using y27 with|h t ih=>?_
 intro hg neg
 have hT:=z1111
 cases y22 hg with
 |tr =>
  rw [z900]
  have cn:=(z490 (.mk 1 0 [])).arg (args0:=[.agg [.int 1,.int 0,.nils]]) (by (repeat' first|exact y85 _|exact z71|apply z70|constructor))
  cases neg
  all_goals
   refine z5 z12 Tryz.func234 rfl rfl 86 Tryz.ntmps234 (by simp) ?_
   repeat' ((first|(apply y83 ok;rfl)|(apply z0 (cn);rfl;rfl))<;>conv=>whnf)
   all_goals (refine rsD [] [] rfl ?_;(repeat' first|exact y85 _|exact z71|apply z70|constructor))
 |«at» v h0 h1 =>
  rw [z902]
  have cn:=(z490 (.mk 2 v [])).arg (args0:=[.agg [.int 2,.int v,.nils]]) (by (repeat' first|exact y85 _|exact z71|apply z70|constructor))
  cases neg
  all_goals
   refine z5 z12 Tryz.func234 rfl rfl 86 Tryz.ntmps234 (by simp) ?_
   repeat' ((first|(apply y83 ok;rfl)|(apply z0 (cn);rfl;rfl))<;>conv=>whnf)
   all_goals (refine rsD [] [] rfl ?_;(repeat' first|exact y85 _|exact z71|apply z70|constructor))
 |un k a hk ha =>
  have ca:=ih a (by simp [Tree.kids]) ha
  clear ih
  have cn:=z490 truT
  rcases hk with rfl|rfl|rfl|rfl
  ·rw [z654,argU 3 0 a]
   have ca:=ca (!neg)
   refine z5 z12 Tryz.func234 rfl rfl 86 Tryz.ntmps234 (by simp) ?_
   repeat' ((first|(apply y83 ok;rfl)|(refine ⟨_,rfl,?_⟩)|(apply y44;omega)|(apply z0 (ca);rfl;rfl))<;>conv=>whnf)
   all_goals (refine rsD [] [] rfl ?_;(repeat' first|exact y85 _|constructor))
  ·rw [z483,argU 6 0 a]
   have ca:=ca neg
   generalize a.nrm neg=x at *
   rw [y13 x] at ca
   refine z5 z12 Tryz.func234 rfl rfl 86 Tryz.ntmps234 (by simp) ?_
   repeat' ((first|(apply y83 ok;rfl)|(refine ⟨_,rfl,?_⟩)|(apply y44;omega)|(apply z0 (ca);rfl;rfl))<;>conv=>whnf)
   all_goals (refine rsD [] [2] rfl ?_;(repeat' first|exact y85 _|refine z97 rfl rfl rfl rfl rfl ?_|apply z70|(apply z352;rfl)|constructor))
   all_goals exact z511 _
  ·rw [z901,argU 9 0 a]
   have ca:=ca neg
   generalize a.nrm neg=x at *
   rw [y13 x] at ca
   cases neg
   all_goals
    refine z5 z12 Tryz.func234 rfl rfl 86 Tryz.ntmps234 (by simp) ?_
    repeat' ((first|(apply y83 ok;rfl)|(apply z7;kernel_rfl)|(refine ⟨_,rfl,?_⟩)|(apply y44;omega)|(apply z0 (ca);rfl;rfl)|(apply z0 (hT);rfl;rfl)|(apply z0 (cn);rfl;rfl))<;>conv=>whnf)
    all_goals (refine rsD [] [3] rfl ?_;(repeat' first|exact y85 _|refine z97 rfl rfl rfl rfl rfl ?_|apply z70|(apply z352;rfl)|constructor))
    all_goals exact z511 _
  ·rw [z903,argU 10 0 a]
   have ca:=ca neg
   generalize a.nrm neg=x at *
   rw [y13 x] at ca
   cases neg
   all_goals
    refine z5 z12 Tryz.func234 rfl rfl 86 Tryz.ntmps234 (by simp) ?_
    repeat' ((first|(apply y83 ok;rfl)|(apply z7;kernel_rfl)|(refine ⟨_,rfl,?_⟩)|(apply y44;omega)|(apply z0 (ca);rfl;rfl)|(apply z0 (hT);rfl;rfl)|(apply z0 (cn);rfl;rfl))<;>conv=>whnf)
    all_goals (refine rsD [] [3] rfl ?_;(repeat' first|exact y85 _|refine z97 rfl rfl rfl rfl rfl ?_|apply z70|(apply z352;rfl)|constructor))
    all_goals exact z511 _
 |bin k a b hk ha hb =>
  have ca:=ih a (by simp [Tree.kids]) ha neg
  have cb:=ih b (by simp [Tree.kids]) hb neg
  clear ih
  have cd:=z1114 k
  rw [z655 _ _ _ _ _ hk,argB k 0 a b]
  generalize a.nrm neg=x at *
  generalize b.nrm neg=y at *
  rw [y13 x] at ca
  rw [y13 y] at cb
  generalize z856 k=k' at *
  cases neg
  all_goals
   refine z5 z12 Tryz.func234 rfl rfl 86 Tryz.ntmps234 (by simp) ?_
   repeat' ((first|(apply y83 ok;rfl)|(apply z7;kernel_rfl)|(refine ⟨_,rfl,?_⟩)|(apply y44;omega)|((first|apply z2|apply z8)<;>intro _)|(apply z0 (ca);rfl;rfl)|(apply z0 (cb);rfl;rfl)|(apply z0 (cd);rfl;rfl))<;>conv=>whnf)
   all_goals try (exfalso;omega)
   all_goals (refine rsD [] [2] rfl ?_;(repeat' first|exact y85 _|refine z97 rfl rfl rfl rfl rfl ?_|apply z70|(apply z352;rfl)|constructor))
   all_goals exact z511 _
end Go.Proofs.YtahhobgjcfionaaGreat
namespace Go.Proofs.YtahhobgjcfionaaGreat
open Go.Gl
attribute [local irreducible] z21 AWP z42 z46 z43
theorem z862 (l:List Tree) (hl:l.length≤1048576) (hp:0 < l.length):CallsA Tryz.prog 261 [lst 3 Tree.cs' l] [] (.sref 0 0 l.length) [.cells 3 (l.map Tree.cs')]:=by
 refine z6 z12 Tryz.func261 rfl rfl 8 Tryz.ntmps261 (by simp) ?_
 repeat' (first|(apply y83 ok;rfl;conv=>whnf)|(apply y44;(first|omega|(dsimp only;omega)|exact z15 (fun _=>rfl));conv=>whnf))
 exact z105 rfl (z1 fun _=>rfl) (Nat.zero_add _) rfl rfl
theorem z1000 (l:List Tree) (hl:l.length≤1048576):CallsA Tryz.prog 261 [lst 3 Tree.cs' l] [] (.sref 0 0 l.length) [.cells 3 (l.map Tree.cs')]:=by
 by_cases hp:0 < l.length
 ·exact z862 l hl hp
 ·obtain rfl:l=[]:=y72 (by omega)
  refine z205 (z301 Tryz.func261 rfl (by rfl)) fun ad cap=>?_
  cases ad with
  |none =>
   refine CallsA.nils (res:=.nils) (l:=[.cells 3 []]) ?_ (by simp) z484
   refine z6 z12 Tryz.func261 rfl rfl 8 Tryz.ntmps261 (by simp) ?_
   repeat' ((apply y83 ok;rfl;conv=>whnf))
   all_goals exact z50 rfl rfl rfl
  |some p =>
   refine z6 z12 Tryz.func261 rfl rfl 8 Tryz.ntmps261 (by simp) ?_
   repeat' (first|(apply y83 ok;rfl;conv=>whnf)|(apply y44;(omega);conv=>whnf))
   all_goals (exact z105 rfl z19 rfl rfl rfl)
theorem z556 (l:List Tree) (hl:l.length≤1048576):CallsA Tryz.prog 260 [.sref 0 0 l.length] [.cells 3 (l.map Tree.cs')] (.sref 0 0 l.length) [.cells 3 (l.map Tree.cs')]:=by
 refine z6 z12 Tryz.func260 rfl rfl 9 Tryz.ntmps260 (by simp) ?_
 repeat' (first|(apply y83 ok;rfl;conv=>whnf)|(apply y44;(omega);conv=>whnf))
 exact z105 rfl (z1 fun _=>rfl) (by omega) rfl rfl
theorem z171 (l:List Tree) (hl:l.length≤1048576):CallsA Tryz.prog 231 [lst 3 Tree.cs' l] [] (.sref 0 0 l.length) [.cells 3 (l.map Tree.cs')]:=by
 refine z6 z12 Tryz.func231 rfl rfl 6 Tryz.ntmps231 (by simp) ?_
 repeat' (first|(apply y83 ok;rfl;conv=>whnf)|(apply z32 [] [] [0] (z1000 l hl);rfl;(focus ((repeat' (exact z11))<;>(fail)));rfl;rfl;rfl;rfl;rfl;(focus ((repeat' (first|exact z10|apply z14))<;>((refine z26 ?_;((exact z1 (fun _=>rfl)))))));(exact .inl rfl);conv=>whnf)|(apply z32 [0] [] [] (z556 l hl);rfl;(focus ((repeat' (first|exact z11|apply z28))<;>((refine z44 rfl ?_;((exact z1 (fun _=>rfl)))))));rfl;rfl;rfl;rfl;rfl;(focus ((repeat' (first|exact z10|apply z14))<;>((refine z26 ?_;((exact z1 (fun _=>rfl)))))));(exact .inl rfl);conv=>whnf))
 exact z105 rfl (z1 fun _=>rfl) rfl rfl rfl
end Go.Proofs.YtahhobgjcfionaaGreat
namespace Go.Proofs.YtahhobgjcfionaaGreat
open Go.Gl
attribute [local irreducible] z21 AWP z42 z46 z43 RetS z51
theorem z984 (k:Int) (l:List Tree) (hl:l.length≤1048576):CallsA Tryz.prog 186 [.int k,lst 3 Tree.cs' l] [] (.agg [.int k,.int 0,lst 3 Tree.cs' l]) []:=by
 have c:=z171 l hl
 refine z5 z12 Tryz.func186 rfl rfl 9 Tryz.ntmps186 (by simp) ?_
 repeat' ((first|(apply y83 ok;rfl)|(apply z64 [] [1] c;rfl;rfl;rfl;(focus ((repeat' first|exact z10|apply z14)<;>(refine z26 ?_;((exact z1 fun _=>rfl)))))))<;>conv=>whnf)
 all_goals (refine rsD [] [1] rfl ?_;(repeat' first|exact y85 _|((apply z97 rfl rfl rfl);(focus ((repeat ((exact z86 (fun _=>rfl) _)));done));(focus (((simp;done));done)))|apply z70|constructor))
theorem z849 (k:Int):CallsA Tryz.prog 186 [.int k,.nils] [] (.agg [.int k,.int 0,.list 3 0 []]) []:=(z984 k [] (by simp)).arg (by (repeat' first|exact y85 _|exact z71|constructor))
theorem z126 (k:Int) (l:List Tree) (hl:l.length≤1048576):CallsA Tryz.prog 186 [.int k,.sref 0 0 l.length] [.cells 3 (l.map Tree.cs')] (.agg [.int k,.int 0,lst 3 Tree.cs' l]) [.dead]:=by
 have c:=z171 l hl
 refine z5 z12 Tryz.func186 rfl rfl 9 Tryz.ntmps186 (by simp) ?_
 refine y84 (Reach.rnm 0 rfl) ?_
 refine y84 (show Gl.Reach _ _ (mkSt _ [(0,.int k),(1,lst 3 Tree.cs' l)] [.dead]) from (by refine swR [0] [1] rfl rfl ?_;(repeat' first|exact y85 _|((apply z97 rfl rfl rfl);(focus ((repeat ((exact z86 (fun _=>rfl) _)));done));(focus (((simp;done));done)))|constructor))) ?_
 repeat' ((first|(apply y83 ok;rfl)|(apply z64 [] [2] c;rfl;rfl;rfl;(focus ((repeat' first|exact z10|apply z14)<;>(refine z26 ?_;((exact z1 fun _=>rfl)))))))<;>conv=>whnf)
 all_goals (refine rsD [0] [2] rfl ?_;(repeat' first|exact y85 _|((apply z97 rfl rfl rfl);(focus ((repeat ((exact z86 (fun _=>rfl) _)));done));(focus (((simp;done));done)))|apply z70|constructor))
theorem z461 (k kd v:Int):CallsA Tryz.prog 186 [.int k,.sref 0 0 1] [.cells 3 [[.int kd,.int v,.nils]]] (.agg [.int k,.int 0,lst 3 Tree.cs' [.mk kd v []]]) [.dead]:=by
 have c:=z171 [.mk kd v []] (by simp)
 refine z5 z12 Tryz.func186 rfl rfl 9 Tryz.ntmps186 (by simp) ?_
 refine y84 (Reach.rnm 0 rfl) ?_
 refine y84 (show Gl.Reach _ _ (mkSt _ [(0,.int k),(1,lst 3 Tree.cs' [.mk kd v []])] [.dead]) from (by refine swR [0] [1] rfl rfl ?_;(repeat' first|exact y85 _|exact z71|refine z97 rfl rfl rfl rfl rfl ?_|(apply z352;rfl)|constructor))) ?_
 repeat' ((first|(apply y83 ok;rfl)|(apply z309 [] [2] c;rfl;rfl;rfl))<;>conv=>whnf)
 all_goals (refine rsD [0] [2] rfl ?_;(repeat' first|exact y85 _|constructor))
theorem z295 (k v : Int) (l : List Tree) (neg : Bool) (i : Nat) (hi : i < l.length) (x : Tree) (hx : CallsA Tryz.prog 253 [z24 Tree.cs' l[i], .bool neg] [] (z24 Tree.cs' x) []) :
    CallsA Tryz.prog 270 [.int i,.ptr 0 none 0,.ptr 1 none 0] [.cells 3 [[.int k,.int v,lst 3 Tree.cs' l]],.cells 1 [[.bool neg]]] (z24 Tree.cs' x) [.cells 3 [[.int k,.int v,lst 3 Tree.cs' l]],.cells 1 [[.bool neg]]]:=by
  have g:(l.map Tree.cs')[i]?=some (Tree.cs' l[i]):=by rw [y52,y46 hi];rfl
  generalize l[i]=y at *
  refine z5 z12 Tryz.func270 rfl rfl 12 Tryz.ntmps270 (by simp) ?_
  repeat' ((first|(apply y83 ok;rfl)|(apply z7;kernel_rfl)|(refine z16 (i:=i) rfl g ?_)|(apply y44;omega)|(apply z0 (hx);rfl;rfl))<;>conv=>whnf)
  all_goals (refine rsD [0,1] [] rfl ?_;(repeat' first|exact y85 _|apply y86|constructor))
theorem z964 (a b:Int) (neg:Bool):CallsA Tryz.prog 271 [.int a,.int b,.ptr 0 none 0] [.cells 1 [[.bool neg]]] (.int (if neg then b else a)) [.cells 1 [[.bool neg]]]:=by
 refine z5 z12 Tryz.func271 rfl rfl 9 Tryz.ntmps271 (by simp) ?_
 cases neg
 all_goals
  repeat' (((apply y83 ok;rfl))<;>conv=>whnf)
  all_goals (refine rsD [0] [] rfl ?_;(repeat' first|exact y85 _|apply y86|constructor))
set_option maxHeartbeats 6400000 in
theorem z1084 (t:Tree):t.goodF→∀ neg:Bool,CallsA Tryz.prog 253 [z24 Tree.cs' t,.bool neg] [] (z24 Tree.cs' (t.nrm neg)) []:=by
 induction t using y27 with|h t ih=>?_
 intro hg neg
 have cT:=z849 1
 have cF:=z126 3 [.mk 1 0 []] (by simp)
 cases y22 hg with
 |tr =>
  rw [z900]
  clear ih
  cases neg
  all_goals
   refine z5 z12 Tryz.func253 rfl rfl 99 Tryz.ntmps253 (by simp) ?_
   repeat' ((first|(apply y83 ok;rfl)|(apply z0 (cT);rfl;rfl)|((first|(apply z64 [3] [] cF;rfl;rfl)|(apply z64 [6] [] (z461 3 1 0);rfl;rfl));rfl;(focus ((repeat' first|exact z10|apply z14)<;>exact z77))))<;>conv=>whnf)
   all_goals (refine rsD [] [] rfl ?_;(repeat' first|exact y85 _|exact z71|apply z70|constructor))
 |«at» v h0 h1 =>
  rw [z902]
  clear ih
  cases neg
  all_goals
   refine z5 z12 Tryz.func253 rfl rfl 99 Tryz.ntmps253 (by simp) ?_
   repeat' ((first|(apply y83 ok;rfl)|(apply z0 (cT);rfl;rfl)|((first|(apply z64 [3] [] cF;rfl;rfl)|(apply z64 [6] [] (z461 3 2 v);rfl;rfl));rfl;(focus ((repeat' first|exact z10|apply z14)<;>exact z77))))<;>conv=>whnf)
   all_goals (refine rsD [] [] rfl ?_;(repeat' first|exact y85 _|exact z71|apply z70|constructor))
 |un k a hk ha =>
  have ca:=fun n=>ih a (by simp [Tree.kids]) ha n
  clear ih
  rcases hk with rfl|rfl|rfl|rfl
  ·rw [z654,argU 3 0 a]
   have ca:=ca (!neg)
   refine z5 z12 Tryz.func253 rfl rfl 99 Tryz.ntmps253 (by simp) ?_
   repeat' ((first|(apply y83 ok;rfl)|(apply z7;kernel_rfl)|(refine ⟨_,rfl,?_⟩)|(apply y44;omega)|(apply z0 (cT);rfl;rfl)|(apply z0 (ca);rfl;rfl)|(apply z64 [3] [] cF;rfl;rfl;rfl;(focus ((repeat' first|exact z10|apply z14)<;>exact z77))))<;>conv=>whnf)
   all_goals (refine rsD [] [] rfl ?_;(repeat' first|exact y85 _|constructor))
  ·rw [z483,argU 6 0 a,argU]
   have ck:=z295 6 0 [a] neg 0 (by simp) (a.nrm neg) (ca neg)
   have cf:=z126 6 [a.nrm neg] (by simp)
   generalize a.nrm neg=x at *
   refine z5 z12 Tryz.func253 rfl rfl 99 Tryz.ntmps253 (by simp) ?_
   repeat' ((first|(apply y83 ok;rfl)|(apply z0 (cT);rfl;rfl)|((first|(apply z64 [3] [] cF;rfl;rfl)|(apply z64 [0,1] [] ck;rfl;rfl)|(apply z64 [5] [] cf;rfl;rfl));rfl;(focus ((repeat' first|exact z10|apply z14)<;>first|exact z77|exact z83 rfl rfl))))<;>conv=>whnf)
   all_goals (refine rsD [] [] rfl ?_;(repeat' first|exact y85 _|constructor))
  ·rw [z901,argU 9 0 a]
   have ck:=z295 9 0 [a] neg 0 (by simp) (a.nrm neg) (ca neg)
   have c7:=z126 7 [truT,a.nrm neg] (by simp)
   have c8:=z126 8 [notT truT,a.nrm neg] (by simp)
   generalize a.nrm neg=x at *
   cases neg
   ·rw [if_neg (by simp),argB]
    refine z5 z12 Tryz.func253 rfl rfl 99 Tryz.ntmps253 (by simp) ?_
    repeat' ((first|(apply y83 ok;rfl)|(apply z0 (cT);rfl;rfl)|((first|(apply z64 [3] [] cF;rfl;rfl)|(apply z64 [0,1] [] ck;rfl;rfl)|(apply z64 [5] [] c7;rfl;rfl));rfl;(focus ((repeat' first|exact z10|apply z14)<;>first|exact z77|exact z83 rfl rfl))))<;>conv=>whnf)
    all_goals (refine rsD [] [] rfl ?_;(repeat' first|exact y85 _|constructor))
   ·rw [if_pos rfl,argB]
    refine z5 z12 Tryz.func253 rfl rfl 99 Tryz.ntmps253 (by simp) ?_
    repeat' ((first|(apply y83 ok;rfl)|(apply z7;kernel_rfl)|(apply z0 (cT);rfl;rfl)|((first|(apply z64 [3] [] cF;rfl;rfl)|(apply z64 [0,1] [] ck;rfl;rfl)|(apply z64 [5] [] c8;rfl;rfl));rfl;(focus ((repeat' first|exact z10|apply z14)<;>first|exact z77|exact z83 rfl rfl))))<;>conv=>whnf)
    all_goals (refine rsD [] [] rfl ?_;(repeat' first|exact y85 _|constructor))
  ·rw [z903,argU 10 0 a]
   have ck:=z295 10 0 [a] neg 0 (by simp) (a.nrm neg) (ca neg)
   have c7:=z126 7 [truT,a.nrm neg] (by simp)
   have c8:=z126 8 [notT truT,a.nrm neg] (by simp)
   generalize a.nrm neg=x at *
   cases neg
   ·rw [if_neg (by simp),argB]
    refine z5 z12 Tryz.func253 rfl rfl 99 Tryz.ntmps253 (by simp) ?_
    repeat' ((first|(apply y83 ok;rfl)|(apply z7;kernel_rfl)|(apply z0 (cT);rfl;rfl)|((first|(apply z64 [3] [] cF;rfl;rfl)|(apply z64 [0,1] [] ck;rfl;rfl)|(apply z64 [5] [] c8;rfl;rfl));rfl;(focus ((repeat' first|exact z10|apply z14)<;>first|exact z77|exact z83 rfl rfl))))<;>conv=>whnf)
    all_goals (refine rsD [] [] rfl ?_;(repeat' first|exact y85 _|constructor))
   ·rw [if_pos rfl,argB]
    refine z5 z12 Tryz.func253 rfl rfl 99 Tryz.ntmps253 (by simp) ?_
    repeat' ((first|(apply y83 ok;rfl)|(apply z0 (cT);rfl;rfl)|((first|(apply z64 [3] [] cF;rfl;rfl)|(apply z64 [0,1] [] ck;rfl;rfl)|(apply z64 [5] [] c7;rfl;rfl));rfl;(focus ((repeat' first|exact z10|apply z14)<;>first|exact z77|exact z83 rfl rfl))))<;>conv=>whnf)
    all_goals (refine rsD [] [] rfl ?_;(repeat' first|exact y85 _|constructor))
 |bin k a b hk ha hb =>
  have ca:=z295 k 0 [a,b] neg 0 (by simp) (a.nrm neg) (ih a (by simp [Tree.kids]) ha neg)
  have cb:=z295 k 0 [a,b] neg 1 (by simp) (b.nrm neg) (ih b (by simp [Tree.kids]) hb neg)
  clear ih
  have cf:=z126 (if neg then z856 k else k) [a.nrm neg,b.nrm neg] (by simp)
  have cp:=z964 k (z856 k) neg
  rw [z655 _ _ _ _ _ hk,argB k 0 a b,argB]
  generalize a.nrm neg=x at *
  generalize b.nrm neg=y at *
  rcases hk with rfl|rfl|rfl|rfl
  all_goals
   refine z5 z12 Tryz.func253 rfl rfl 99 Tryz.ntmps253 (by simp) ?_
   repeat' ((first|(apply y83 ok;rfl)|(apply z0 (cT);rfl;rfl)|((first|(apply z64 [3] [] cF;rfl;rfl)|(apply z64 [0,1] [] ca;rfl;rfl)|(apply z64 [0,1] [] cb;rfl;rfl)|(apply z64 [1] [] cp;rfl;rfl)|(apply z64 [5] [] cf;rfl;rfl));rfl;(focus ((repeat' first|exact z10|apply z14)<;>first|exact z77|exact z83 rfl rfl))))<;>conv=>whnf)
   all_goals (refine rsD [] [] rfl ?_;(repeat' first|exact y85 _|constructor))
theorem z440 (t:Tree) (h:t.sz≤1000000):CallsA Tryz.prog 182 [z24 Tree.cs' t] [] (ownT t) [.cells 3 (t.kids.map Tree.cs')]:=by
 induction t using y27 with|h t ih=>?_
 have hkl:t.kids.length≤1000000:=by rw [y38] at h;omega
 have hks:∀ u∈t.kids,u.sz≤1000000:=fun u hu=>by
  have:=z200 Tree.sz hu
  rw [y38] at h;omega
 rw [y13 t]
 obtain ⟨k,v,l⟩:=t
 simp only [Tree.kind,Tree.val,Tree.kids] at *
 have hcs:∀ (i:Nat) (hi:i < l.length),CallsA Tryz.prog 182 [z24 Tree.cs' l[i]] [] (z24 Tree.cs' l[i]) []:=fun i hi =>
  z320 (ih _ (y45 _) (hks _ (y45 _)))
 unfold ownT
 simp only [Tree.kind,Tree.val,Tree.kids] at *
 refine z5 z12 Tryz.func182 rfl rfl 29 Tryz.ntmps182 (by simp) ?_
 repeat' (((apply y83 ok;rfl))<;>conv=>whnf)
 refine y84 (y87 3 rfl) ?_
 refine z88 (fun i:Nat=>([(1,.ptr 0 none 0),(2,.ptr 1 none 0),(3,.ptr 2 none 0),(4,.int i)],[.cells 3 [[.int k,.int v,lst 3 Tree.cs' l]],.cells 3 [[.int 0,.int 0,.nils]],.cells 3 [[.int k,.int v,.sref 3 0 i]],.cells 3 ((l.take i).map Tree.cs')])) (fun i=>i≤l.length) (fun i=>l.length - i) 0 (by omega) (by refine swR [0,1,2,3] [] rfl rfl ?_;(repeat' first|exact y85 _|exact z54|apply y86|refine z9 rfl (z19) ?_|constructor)) ?_
 intro i hi
 by_cases hil:i < l.length
 ·have hc:=hcs i hil
  repeat' ((first|(apply y83 ok;rfl)|(apply z7;kernel_rfl)|(apply y44;first|omega|(unfold inI;omega)|((try dsimp only);simp only [y50,y49,y48,y47,y57,y58];omega)|exact ⟨rfl,z23 rfl z29⟩)|(((with_reducible apply z4;omega));intro _)|((apply z2)<;>intro _)|(apply z0 (hc);rfl;rfl))<;>conv=>whnf)
  all_goals try (exfalso;omega)
  refine z40 (i+1) (by omega) (by omega) (by refine swR [0,1,2,5] [] rfl rfl ?_;(repeat' first|exact y85 _|apply y86|((refine z75 rfl ?_ ?_);(focus ((repeat' (first|exact z1 (fun _=>rfl)|apply z63));done)))|refine app_le (by omega) (by omega) ?_|constructor))
 ·have e:i=l.length:=by omega
  subst e
  rw [y55]
  repeat' ((first|(apply y83 ok;rfl)|(apply y44;omega)|(((with_reducible apply z4;omega));intro _)|((apply z2)<;>intro _))<;>conv=>whnf)
  all_goals try (exfalso;omega)
  all_goals (refine rsD [3] [] rfl ?_;(repeat' first|exact y85 _|exact z13 _|refine z9 rfl (z1 (fun _=>rfl)) ?_|constructor))
theorem z668 (c:Tree) (l:List Tree) (hl:l.length≤maxLen) (p:Tree→Bool) (f:FuncId) (hf:∀ x∈l,CallsA Tryz.prog f [z24 Tree.cs' x,.pt [.int c.kind,.int c.val,lst 3 Tree.cs' c.kids]] [] (.bool (p x)) []):CallsA Tryz.prog 272 [lst 3 Tree.cs' l,.fn (.func f) [] [.pt [.int c.kind,.int c.val,lst 3 Tree.cs' c.kids]]] [] (.int (idxF p l)) []:=by
 unfold maxLen at hl
 refine z6 z12 Tryz.func272 rfl rfl 19 Tryz.ntmps272 (by simp) ?_
 repeat' (((apply y83 ok;rfl))<;>conv=>whnf)
 refine z93 (fun k:Nat=>([(0,lst 3 Tree.cs' l),(1,.fn (.func f) [] [.pt [.int c.kind,.int c.val,lst 3 Tree.cs' c.kids]]),(7,.int l.length),(8,.int k)],[])) (fun k=>k≤l.length∧∀ j (hj:j < l.length),j < k→p l[j]=false) (fun k=>l.length - k) 0 (by simp)
  ⟨[],rfl,by decide,rfl,⟨⟨rfl,rfl⟩,⟨rfl,rfl⟩,⟨rfl,rfl⟩,⟨rfl,rfl⟩,trivial⟩,trivial⟩ ?_
 intro k hk
 repeat' ((first|(apply y83 ok;rfl)|(apply y44;first|omega|(unfold inI;omega))|(((with_reducible apply z4;omega));intro _)|((first|apply z2|apply z47)<;>intro _)|(apply z0 (hf l[k] (y45 _));rfl;rfl))<;>conv=>whnf)
 ·rename_i h h1
  exact z50 rfl rfl (by rw [z179 (by omega) h1 hk.2];rfl)
 ·rename_i h h1
  refine z81 (k+1) [] ⟨by omega,fun j hj hjk=>?_⟩ (by omega) ⟨rfl,by decide,rfl,⟨⟨rfl,rfl⟩,⟨rfl,rfl⟩,⟨rfl,rfl⟩,⟨rfl,rfl⟩,trivial⟩,trivial⟩
  rcases y68 j k with h2|h2
  ·exact hk.2 j hj h2
  ·obtain rfl:j=k:=by omega
   exact h1
 ·exact z50 rfl rfl (by rw [z155 fun j hj=>hk.2 j hj (by omega)];rfl)
theorem z1142 (A B : List Tree) (hA : A.length ≤ maxLen) (hB : B.length ≤ maxLen) (f : FuncId) (hf : ∀ i (h : i < A.length) (h2 : i < B.length), CallsA Tryz.prog f [z24 Tree.cs' A[i], z24 Tree.cs' B[i]] [] (.bool (decide (A[i] = B[i]))) []) :
    CallsA Tryz.prog 277 [lst 3 Tree.cs' A,lst 3 Tree.cs' B,.fn (.func f) [] []] [] (.bool (decide (A=B))) []:=by
  unfold maxLen at hA hB
  by_cases hl:A.length=B.length
  · have hT:(∀ i (h:i < A.length) (h2:i < B.length),A[i]=B[i])→decide (A=B)=true:=fun h=>y80 (y73 hl h)
    have hF:∀ i (h:i < A.length) (h2:i < B.length),A[i]≠B[i]→decide (A=B)=false:=fun i h h2 hne=>y81 fun e=>hne (by subst e;rfl)
    generalize decide (A=B)=D at *
    refine z5 z12 Tryz.func277 rfl (by kernel_rfl) 32 Tryz.ntmps277 (by simp) ?_
    repeat' ((first|(apply y83 ok;rfl)|((apply z8)<;>intro _))<;>conv=>whnf)
    all_goals try (exfalso;omega)
    refine z88 (fun i:Nat=>([(0,lst 3 Tree.cs' A),(1,lst 3 Tree.cs' B),(2,.fn (.func f) [] []),(15,lst 3 Tree.cs' A),(16,.int A.length),(17,.int i)],[])) (fun i=>i≤A.length∧∀ j (h:j < A.length) (h2:j < B.length),j < i→A[j]=B[j]) (fun i=>A.length - i) 0 ⟨y54 _,fun j _ _ h=>absurd h (Nat.not_lt_zero _)⟩ (by refine swR [] [] rfl rfl ?_;(repeat' first|exact y85 _|constructor)) ?_
    rintro i ⟨hi,hj⟩
    by_cases hil:i < A.length
    · have hil2:i < B.length:=by omega
      have c1:=hf i hil hil2
      have gA:(A.map Tree.cs')[i]?=some (Tree.cs' A[i]):=by rw [y52,y46 hil];rfl
      have gB:(B.map Tree.cs')[i]?=some (Tree.cs' B[i]):=by rw [y52,y46 hil2];rfl
      by_cases he:A[i]=B[i]
      · rw [y80 he] at c1
        have hj2:∀ j (h:j < A.length) (h2:j < B.length),j < i+1→A[j]=B[j]:=fun j h h2 hji=>by
          rcases y68 j i with h3|h3
          · exact hj j h h2 h3
          · obtain rfl:j=i:=by omega
            exact he
        generalize A[i]=x at *
        generalize B[i]=y at *
        repeat' ((first|(apply y83 ok;rfl)|(refine z16 (i:=i) rfl gA ?_)|(refine z16 (i:=i) rfl gB ?_)|(apply y44;first|omega|(unfold inI;omega))|((apply z2)<;>intro _)|(apply z0 (c1);rfl;rfl))<;>conv=>whnf)
        all_goals try (exfalso;omega)
        all_goals refine z40 (i+1) ⟨by omega,hj2⟩ (by omega) (by refine swR [] [] rfl rfl ?_;(repeat' first|exact y85 _|constructor))
      · rw [y81 he] at c1
        have hD:=hF i hil hil2 he
        subst hD
        generalize A[i]=x at *
        generalize B[i]=y at *
        repeat' ((first|(apply y83 ok;rfl)|(refine z16 (i:=i) rfl gA ?_)|(refine z16 (i:=i) rfl gB ?_)|(apply y44;omega)|((apply z2)<;>intro _)|(apply z0 (c1);rfl;rfl))<;>conv=>whnf)
        all_goals try (exfalso;omega)
        all_goals (refine rsD [] [] rfl ?_;(repeat' first|exact y85 _|constructor))
    · have hD:=hT (fun j h h2=>hj j h h2 (by omega))
      subst hD
      repeat' ((first|(apply y83 ok;rfl)|(apply y44;omega)|(((with_reducible apply z4;omega));intro _)|((apply z2)<;>intro _))<;>conv=>whnf)
      all_goals try (exfalso;omega)
      all_goals (refine rsD [] [] rfl ?_;(repeat' first|exact y85 _|constructor))
  · rw [y81 (fun e=>hl (by rw [e]))]
    refine z5 z12 Tryz.func277 rfl (by kernel_rfl) 32 Tryz.ntmps277 (by simp) ?_
    repeat' ((first|(apply y83 ok;rfl)|((apply z8)<;>intro _))<;>conv=>whnf)
    all_goals first|(exfalso;omega)|(refine rsD [] [] rfl ?_;(repeat' first|exact y85 _|constructor))
theorem z672 (a:Tree):a.mx→∀ b:Tree,b.mx→CallsA Tryz.prog 274 [z24 Tree.cs' a,z24 Tree.cs' b] [] (.bool (decide (a=b))) []:=by
 induction a using y27 with|h a ih=>?_
 intro ha b hb
 rw [y29] at ha hb
 have cE:=z1142 a.kids b.kids ha.1 hb.1 274 (fun i h h2=>ih _ (y45 _) (ha.2 _ (y45 _)) _ (hb.2 _ (y45 _)))
 clear ih
 rw [y13,y13]
 by_cases hk:a.kind=b.kind∧a.val=b.val
 ·obtain ⟨k1,k2⟩:=hk
  have e:decide (a.kids=b.kids)=decide (a=b):=decide_eq_decide.2 ⟨fun h=>Tree.ext k1 k2 h,fun h=>by rw [h]⟩
  rw [e] at cE
  generalize decide (a=b)=D at *
  cases D
  all_goals
   refine z5 z12 Tryz.func274 rfl rfl 24 Tryz.ntmps274 (by simp) ?_
   repeat' ((first|(apply y83 ok;rfl)|((apply z2)<;>intro _)|(apply z0 (cE);rfl;rfl))<;>conv=>whnf)
   all_goals try (exfalso;omega)
   all_goals (refine rsD [] [] rfl ?_;(repeat' first|exact y85 _|constructor))
 ·rw [y81 (fun e=>hk (by subst e;exact ⟨rfl,rfl⟩))]
  clear cE
  refine z5 z12 Tryz.func274 rfl rfl 24 Tryz.ntmps274 (by simp) ?_
  repeat' ((first|(apply y83 ok;rfl)|((apply z2)<;>intro _))<;>conv=>whnf)
  all_goals first|(exfalso;omega)|(refine rsD [] [] rfl ?_;(repeat' first|exact y85 _|constructor))
theorem z304 (l:List Tree) (hl:l.length≤1000000) (hm:∀ t∈l,t.mx) (t:Tree) (ht:t.mx):CallsA Tryz.prog 254 [lst 3 Tree.cs' l,z24 Tree.cs' t] [] (.int (idxF (fun x=>decide (x=t)) l)) []:=by
 have cI:=z668 t l (by unfold maxLen;omega) (fun x=>decide (x=t)) 273 (fun x hx=>by
  have cS:=z672 x (hm x hx) t ht
  rw [y13 t] at cS
  refine z5 z12 Tryz.func273 rfl rfl 7 Tryz.ntmps273 (by simp) ?_
  rw [y13 x] at cS ⊢
  repeat' ((first|(apply y83 ok;rfl)|(apply z0 (cS);rfl;rfl))<;>conv=>whnf)
  all_goals (refine rsD [] [] rfl ?_;(repeat' first|exact y85 _|constructor)))
 rw [y13 t]
 refine z5 z12 Tryz.func254 rfl rfl 8 Tryz.ntmps254 (by simp) ?_
 repeat' ((first|(apply y83 ok;rfl)|(apply z140 [] [0] [] cI;(focus ((repeat' first|exact z65|apply z36)<;>rfl));rfl;rfl;(focus ((repeat' exact z10)<;>fail));((refine .inr ⟨rfl,?_⟩;repeat' exact True.intro))))<;>conv=>whnf)
 all_goals (refine rsD [] [] rfl ?_;(repeat' first|exact y85 _|constructor))
theorem z1151 (t:Tree) (h:t.sz≤1000000):CallsA Tryz.prog 185 [z24 Tree.cs' t] [] (ownT t) [.cells 3 (t.kids.map Tree.cs')]:=by
 induction t using y27 with|h t ih=>?_
 have hkl:t.kids.length≤1000000:=by rw [y38] at h;omega
 have hks:∀ u∈t.kids,u.sz≤1000000:=fun u hu=>by
  have:=z200 Tree.sz hu
  rw [y38] at h;omega
 rw [y13 t]
 obtain ⟨k,v,l⟩:=t
 simp only [Tree.kind,Tree.val,Tree.kids] at *
 have hcs:∀ (i:Nat) (hi:i < l.length),CallsA Tryz.prog 185 [z24 Tree.cs' l[i]] [] (z24 Tree.cs' l[i]) []:=fun i hi =>
  z320 (ih _ (y45 _) (hks _ (y45 _)))
 have cC:=z171 l (by omega)
 unfold ownT
 simp only [Tree.kind,Tree.val,Tree.kids] at *
 refine z5 z12 Tryz.func185 rfl rfl 30 Tryz.ntmps185 (by simp) ?_
 repeat' ((first|(apply y83 ok;rfl)|(apply z7;kernel_rfl)|(apply z64 [] [2] cC;rfl;rfl;rfl;(focus ((repeat' first|exact z10|apply z14)<;>(refine z26 ?_;((exact z1 fun _=>rfl)))))))<;>conv=>whnf)
 refine z88 (fun i:Nat=>([(1,.ptr 0 none 0),(2,.ptr 1 none 0),(3,.ptr 3 none 0),(15,lst 3 Tree.cs' l),(16,.int l.length),(17,.int i)],[.cells 3 [[.int k,.int v,lst 3 Tree.cs' l]],.cells 3 [[.int 0,.int 0,.nils]],.cells 3 (l.map Tree.cs'),.cells 3 [[.int k,.int v,.sref 2 0 l.length]]])) (fun i=>i≤l.length) (fun i=>l.length - i) 0 (by omega) (by refine swR [0,1,2,3] [] rfl rfl ?_;(repeat' first|exact y85 _|exact z13 _|apply y86|refine z9 rfl (z1 (fun _=>rfl)) ?_|constructor)) ?_
 intro i hi
 by_cases hil:i < l.length
 ·have hc:=hcs i hil
  have gk:(l.map Tree.cs')[i]?=some (Tree.cs' l[i]):=by rw [y52,y46 hil];rfl
  have hset:(l.map Tree.cs').set i (Tree.cs' l[i])=l.map Tree.cs':=by
   apply y73 (by simp)
   intro j h1 h2
   rw [List.getElem_set]
   split
   ·rename_i e;subst e;simp
   ·rfl
  generalize l[i]=x at *
  repeat' ((first|(apply y83 ok;rfl)|(apply z7;kernel_rfl)|(refine z16 (i:=i) rfl gk ?_)|(apply y44;first|omega|(unfold inI;omega))|((apply z2)<;>intro _)|(apply z0 (hc);rfl;rfl))<;>conv=>whnf)
  all_goals try (exfalso;omega)
  all_goals refine z40 (i+1) (by omega) (by omega) (by refine swR [0,1,2,3] [] rfl rfl ?_;(repeat' first|exact y85 _|apply y86|refine z78 rfl (z1 (fun _=>rfl)) ?_|constructor)<;>((refine z48 ?_;exact hset)))
 ·have e:i=l.length:=by omega
  subst e
  repeat' ((first|(apply y83 ok;rfl)|(apply y44;omega)|(((with_reducible apply z4;omega));intro _)|((apply z2)<;>intro _))<;>conv=>whnf)
  all_goals try (exfalso;omega)
  all_goals (refine rsD [2] [] rfl ?_;(repeat' first|exact y85 _|exact z13 _|refine z9 rfl (z1 (fun _=>rfl)) ?_|constructor))
theorem z683 (t:Tree) (h:t.sz≤1000000):CallsA Tryz.prog 185 [z24 Tree.cs' t] [] (z24 Tree.cs' t) []:=z320 (z1151 t h)
theorem z386 (t:Tree) (hs:t.sz≤1000):CallsA Tryz.prog 189 [z24 Tree.cs' t] [] (.tup [z24 Tree.cs' (if t.fmB=true∧(t.nrm false).fmB=true then t.nrm false else dftT),.bool (decide (t.fmB=true∧(t.nrm false).fmB=true))]) []:=by
 have cv:=z136 t (z134 t (by unfold maxLen;omega))
 by_cases h1:t.fmB=true
 ·have hg:=y24 h1
  have cp:=z1113 t hg false
  have hz:=y30 t hg false
  have cw:=z136 (t.nrm false) (z134 _ (by unfold maxLen;omega))
  rw [h1] at cv ⊢
  generalize t.nrm false=u at *
  by_cases h2:u.fmB=true
  ·rw [h2] at cw ⊢
   rw [if_pos ⟨rfl,rfl⟩,y80 ⟨rfl,rfl⟩]
   rw [y13 t] at cv cp ⊢
   rw [y13 u] at cp cw ⊢
   refine z5 z12 Tryz.func189 rfl rfl 16 Tryz.ntmps189 (by simp) ?_
   repeat' ((first|(apply y83 ok;rfl)|(apply z0 (cv);rfl;rfl)|(apply z0 (cp);rfl;rfl)|(apply z0 (cw);rfl;rfl))<;>conv=>whnf)
   all_goals (refine rsD [] [] rfl ?_;(repeat' first|exact y85 _|constructor))
  ·rw [if_neg (fun h=>h2 h.2),y81 (fun h=>h2 h.2)]
   rw [(y70 _).mp h2] at cw
   rw [y13 t] at cv cp ⊢
   rw [y13 u] at cp cw
   refine z5 z12 Tryz.func189 rfl rfl 16 Tryz.ntmps189 (by simp) ?_
   repeat' ((first|(apply y83 ok;rfl)|(apply z0 (cv);rfl;rfl)|(apply z0 (cp);rfl;rfl)|(apply z0 (cw);rfl;rfl))<;>conv=>whnf)
   all_goals (refine rsD [] [] rfl ?_;(repeat' first|exact y85 _|exact z71|apply z70|apply z79|constructor))
 ·rw [if_neg (fun h=>h1 h.1),y81 (fun h=>h1 h.1)]
  rw [(y70 _).mp h1] at cv
  rw [y13 t] at cv ⊢
  refine z5 z12 Tryz.func189 rfl rfl 16 Tryz.ntmps189 (by simp) ?_
  repeat' ((first|(apply y83 ok;rfl)|(apply z0 (cv);rfl;rfl))<;>conv=>whnf)
  all_goals (refine rsD [] [] rfl ?_;(repeat' first|exact y85 _|exact z71|apply z70|apply z79|constructor))
theorem z1135 (a:Tree):a.mx→∀ b:Tree,b.mx→CallsA Tryz.prog 263 [z24 Tree.cs' a,z24 Tree.cs' b] [] (.bool (decide (a=b))) []:=by
 induction a using y27 with|h a ih=>?_
 intro ha b hb
 rw [y29] at ha hb
 have hal:=ha.1
 have hbl:=hb.1
 unfold maxLen at hal hbl
 rw [y13,y13]
 by_cases hk:a.kind=b.kind∧a.val=b.val∧a.kids.length=b.kids.length
 ·obtain ⟨k1,k2,k3⟩:=hk
  have hiff:(a=b)↔∀ i (h:i < a.kids.length) (h2:i < b.kids.length),a.kids[i]=b.kids[i]:=⟨fun e=>by subst e;exact fun _ _ _=>rfl,fun h=>Tree.ext k1 k2 (y73 k3 h)⟩
  have hc:∀ i (h:i < a.kids.length) (h2:i < b.kids.length),CallsA Tryz.prog 263 [z24 Tree.cs' a.kids[i],z24 Tree.cs' b.kids[i]] [] (.bool (decide (a.kids[i]=b.kids[i]))) []:=fun i h h2=>ih _ (y45 _) (ha.2 _ (y45 _)) _ (hb.2 _ (y45 _))
  clear ih
  have hT:(∀ i (h:i < a.kids.length) (h2:i < b.kids.length),a.kids[i]=b.kids[i])→decide (a=b)=true:=fun h=>y80 (hiff.2 h)
  have hF:∀ i (h:i < a.kids.length) (h2:i < b.kids.length),a.kids[i]≠b.kids[i]→decide (a=b)=false:=fun i h h2 hne=>y81 fun e=>hne (hiff.1 e i h h2)
  generalize decide (a=b)=D at *
  clear hiff
  generalize a.kids=A at *
  generalize b.kids=B at *
  refine z5 z12 Tryz.func263 rfl rfl 46 Tryz.ntmps263 (by simp) ?_
  repeat' ((first|(apply y83 ok;rfl)|((apply z8)<;>intro _))<;>conv=>whnf)
  all_goals try (exfalso;omega)
  refine z88 (fun i:Nat=>([(2,.ptr 0 none 0),(3,.ptr 1 none 0),(5,.int i)],[.cells 3 [[.int a.kind,.int a.val,lst 3 Tree.cs' A]],.cells 3 [[.int b.kind,.int b.val,lst 3 Tree.cs' B]]])) (fun i=>i≤A.length∧∀ j (h:j < A.length) (h2:j < B.length),j < i→A[j]=B[j]) (fun i=>A.length - i) 0 ⟨y54 _,fun j _ _ h=>absurd h (Nat.not_lt_zero _)⟩ (by refine swR [0,1] [] rfl rfl ?_;(repeat' first|exact y85 _|apply y86|constructor)) ?_
  rintro i ⟨hi,hj⟩
  by_cases hil:i < A.length
  ·have hil2:i < B.length:=by omega
   have c1:=hc i hil hil2
   have gA:(A.map Tree.cs')[i]?=some (Tree.cs' A[i]):=by rw [y52,y46 hil];rfl
   have gB:(B.map Tree.cs')[i]?=some (Tree.cs' B[i]):=by rw [y52,y46 hil2];rfl
   by_cases he:A[i]=B[i]
   ·rw [y80 he] at c1
    have hj2:∀ j (h:j < A.length) (h2:j < B.length),j < i+1→A[j]=B[j]:=fun j h h2 hji=>by
     rcases y68 j i with h3|h3
     ·exact hj j h h2 h3
     ·obtain rfl:j=i:=by omega
      exact he
    generalize A[i]=x at *
    generalize B[i]=y at *
    repeat' ((first|(apply y83 ok;rfl)|(apply z7;kernel_rfl)|(refine z16 (i:=i) rfl gA ?_)|(refine z16 (i:=i) rfl gB ?_)|(apply y44;first|omega|(unfold inI;omega))|((apply z2)<;>intro _)|(apply z0 (c1);rfl;rfl))<;>conv=>whnf)
    all_goals try (exfalso;omega)
    all_goals refine z40 (i+1) ⟨by omega,hj2⟩ (by omega) (by refine swR [0,1] [] rfl rfl ?_;(repeat' first|exact y85 _|apply y86|constructor))
   ·rw [y81 he] at c1
    have hD:=hF i hil hil2 he
    subst hD
    generalize A[i]=x at *
    generalize B[i]=y at *
    repeat' ((first|(apply y83 ok;rfl)|(apply z7;kernel_rfl)|(refine z16 (i:=i) rfl gA ?_)|(refine z16 (i:=i) rfl gB ?_)|(apply y44;omega)|((apply z2)<;>intro _)|(apply z0 (c1);rfl;rfl))<;>conv=>whnf)
    all_goals try (exfalso;omega)
    all_goals (refine rsD [] [] rfl ?_;(repeat' first|exact y85 _|constructor))
  ·have hD:=hT (fun j h h2=>hj j h h2 (by omega))
   subst hD
   repeat' ((first|(apply y83 ok;rfl)|(apply y44;omega)|(((with_reducible apply z4;omega));intro _)|((apply z2)<;>intro _))<;>conv=>whnf)
   all_goals try (exfalso;omega)
   all_goals (refine rsD [] [] rfl ?_;(repeat' first|exact y85 _|constructor))
 ·rw [y81 (fun e=>hk (by subst e;exact ⟨rfl,rfl,rfl⟩))]
  clear ih
  refine z5 z12 Tryz.func263 rfl rfl 46 Tryz.ntmps263 (by simp) ?_
  repeat' ((first|(apply y83 ok;rfl)|((apply z8)<;>intro _))<;>conv=>whnf)
  all_goals first|(exfalso;omega)|(refine rsD [] [] rfl ?_;(repeat' first|exact y85 _|constructor))
theorem z747 (l:List Tree) (hl:l.length≤1000000) (hm:∀ t∈l,t.mx) (t:Tree) (ht:t.mx):CallsA Tryz.prog 236 [lst 3 Tree.cs' l,z24 Tree.cs' t] [] (.int (idxF (fun x=>decide (x=t)) l)) []:=by
 have hc:∀ i (h:i < l.length),CallsA Tryz.prog 263 [z24 Tree.cs' l[i],z24 Tree.cs' t] [] (.bool (decide (l[i]=t))) []:=fun i h=>z1135 _ (hm _ (y45 _)) _ ht
 rw [y13 t] at *
 refine z5 z12 Tryz.func236 rfl rfl 19 Tryz.ntmps236 (by simp) ?_
 repeat' (((apply y83 ok;rfl))<;>conv=>whnf)
 refine z88 (fun i:Nat=>([(0,lst 3 Tree.cs' l),(3,.ptr 0 none 0),(5,.int i)],[.cells 3 [[.int t.kind,.int t.val,lst 3 Tree.cs' t.kids]]])) (fun i=>i≤l.length∧∀ j (h:j < l.length),j < i→decide (l[j]=t)=false) (fun i=>l.length - i) 0 ⟨y54 _,fun j _ h=>absurd h (Nat.not_lt_zero _)⟩ (by refine swR [0] [] rfl rfl ?_;(repeat' first|exact y85 _|apply y86|constructor)) ?_
 rintro i ⟨hi,hj⟩
 by_cases hil:i < l.length
 ·have c1:=hc i hil
  have gl:(l.map Tree.cs')[i]?=some (Tree.cs' l[i]):=by rw [y52,y46 hil];rfl
  by_cases he:l[i]=t
  ·have e:idxF (fun x=>decide (x=t)) l=i:=z179 hil (y80 he) fun j h h2=>hj j h h2
   rw [e]
   rw [y80 he] at c1
   generalize l[i]=x at *
   repeat' ((first|(apply y83 ok;rfl)|(apply z7;kernel_rfl)|(refine z16 (i:=i) rfl gl ?_)|(apply y44;omega)|((apply z2)<;>intro _)|(apply z0 (c1);rfl;rfl))<;>conv=>whnf)
   all_goals try (exfalso;omega)
   all_goals (refine rsD [] [] rfl ?_;(repeat' first|exact y85 _|constructor))
  ·have hj2:∀ j (h:j < l.length),j < i+1→decide (l[j]=t)=false:=fun j h hji=>by
    rcases y68 j i with h3|h3
    ·exact hj j h h3
    ·obtain rfl:j=i:=by omega
     exact y81 he
   rw [y81 he] at c1
   generalize l[i]=x at *
   repeat' ((first|(apply y83 ok;rfl)|(apply z7;kernel_rfl)|(refine z16 (i:=i) rfl gl ?_)|(apply y44;first|omega|(unfold inI;omega))|((apply z2)<;>intro _)|(apply z0 (c1);rfl;rfl))<;>conv=>whnf)
   all_goals try (exfalso;omega)
   all_goals refine z40 (i+1) ⟨by omega,hj2⟩ (by omega) (by refine swR [0] [] rfl rfl ?_;(repeat' first|exact y85 _|apply y86|constructor))
 ·have e:idxF (fun x=>decide (x=t)) l=-1:=z155 fun j h=>hj j h (by omega)
  rw [e]
  repeat' ((first|(apply y83 ok;rfl)|(apply y44;omega)|(((with_reducible apply z4;omega));intro _)|((apply z2)<;>intro _))<;>conv=>whnf)
  all_goals try (exfalso;omega)
  all_goals (refine rsD [] [] rfl ?_;(repeat' first|exact y85 _|constructor))
theorem z610 (t:Tree) (hg:t.goodF) (hs:t.sz≤1000):CallsA Tryz.prog 223 [z24 Tree.cs' t] [] (.tup [z24 Tree.cs' (if (t.nrm false).fmB=true then t.nrm false else dftT),.bool (t.nrm false).fmB]) []:=by
 have cp:=z1084 t hg false
 have hz:=y30 t hg false
 have cw:=z138 (t.nrm false) (z134 _ (by unfold maxLen;omega))
 generalize t.nrm false=u at *
 rw [y13 t] at *
 rw [y13 u] at *
 by_cases h2:u.fmB=true
 ·rw [if_pos h2,h2,y13 u]
  rw [h2] at cw
  refine z5 z12 Tryz.func223 rfl rfl 12 Tryz.ntmps223 (by simp) ?_
  repeat' ((first|(apply y83 ok;rfl)|(apply z0 (cp);rfl;rfl)|(apply z0 (cw);rfl;rfl))<;>conv=>whnf)
  all_goals (refine rsD [] [] rfl ?_;(repeat' first|exact y85 _|constructor))
 ·rw [if_neg h2,(y70 _).mp h2]
  rw [(y70 _).mp h2] at cw
  refine z5 z12 Tryz.func223 rfl rfl 12 Tryz.ntmps223 (by simp) ?_
  repeat' ((first|(apply y83 ok;rfl)|(apply z0 (cp);rfl;rfl)|(apply z0 (cw);rfl;rfl))<;>conv=>whnf)
  all_goals (refine rsD [] [] rfl ?_;(repeat' first|exact y85 _|exact z71|apply z70|apply z79|constructor))
theorem z1122 (t:Tree) (hs:t.sz≤1000):CallsA Tryz.prog 251 [z24 Tree.cs' t] [] (.tup [z24 Tree.cs' (if t.fmB=true∧(t.nrm false).fmB=true then t.nrm false else dftT),.bool (decide (t.fmB=true∧(t.nrm false).fmB=true))]) []:=by
 have cv:=z138 t (z134 t (by unfold maxLen;omega))
 by_cases h1:t.fmB=true
 ·have cn:=z610 t (y24 h1) hs
  have e:(if t.fmB=true∧(t.nrm false).fmB=true then t.nrm false else dftT)=if (t.nrm false).fmB=true then t.nrm false else dftT:=by simp only [h1,true_and]
  have e2:decide (t.fmB=true∧(t.nrm false).fmB=true)=(t.nrm false).fmB:=by simp [h1]
  rw [e,e2]
  rw [h1] at cv
  clear e e2
  generalize (if (t.nrm false).fmB=true then t.nrm false else dftT)=u at *
  generalize (t.nrm false).fmB=b at *
  rw [y13 t] at cv cn ⊢
  rw [y13 u] at cn ⊢
  refine z5 z12 Tryz.func251 rfl rfl 12 Tryz.ntmps251 (by simp) ?_
  repeat' ((first|(apply y83 ok;rfl)|(apply z0 (cv);rfl;rfl)|(apply z0 (cn);rfl;rfl))<;>conv=>whnf)
  all_goals (refine rsD [] [] rfl ?_;(repeat' first|exact y85 _|constructor))
 ·rw [if_neg (fun h=>h1 h.1),y81 (fun h=>h1 h.1)]
  rw [(y70 _).mp h1] at cv
  rw [y13 t] at cv ⊢
  refine z5 z12 Tryz.func251 rfl rfl 12 Tryz.ntmps251 (by simp) ?_
  repeat' ((first|(apply y83 ok;rfl)|(apply z0 (cv);rfl;rfl))<;>conv=>whnf)
  all_goals (refine rsD [] [] rfl ?_;(repeat' first|exact y85 _|exact z71|apply z70|apply z79|constructor))
theorem z835 (t:Tree) (hg:t.goodF) (hs:t.sz≤1000):CallsA Tryz.prog 130 [z24 Tree.cs' t] [] (z24 Tree.cs' (negT t)) []:=by
 by_cases hk:t.kind=3
 ·have hf:=y22 hg
  cases hf with
  |tr=>simp [Tree.kind] at hk
  |«at» v _ _=>simp [Tree.kind] at hk
  |bin k a b hk2 _ _=>simp only [Tree.kind] at hk;omega
  |un k a _ _ =>
   simp only [Tree.kind] at hk
   subst hk
   have e:negT (.mk 3 0 [a])=a:=by simp [negT,Tree.kind,Tree.kids]
   rw [z337] at hs
   have cc:=z683 a (by omega)
   rw [e,argU 3 0 a]
   refine z5 z12 Tryz.func130 rfl rfl 15 Tryz.ntmps130 (by simp) ?_
   repeat' ((first|(apply y83 ok;rfl)|(refine ⟨_,rfl,?_⟩)|(apply y44;omega)|(apply z0 (cc);rfl;rfl))<;>conv=>whnf)
   all_goals (refine rsD [] [] rfl ?_;(repeat' first|exact y85 _|constructor))
 ·have e:negT t=notT t:=if_neg hk
  have cc:=z683 t (by omega)
  have cf:=z126 3 [t] (by simp)
  rw [e]
  unfold notT
  rw [argU]
  refine z5 z12 Tryz.func130 rfl rfl 15 Tryz.ntmps130 (by simp) ?_
  repeat' ((first|(apply y83 ok;rfl)|(apply y44;omega)|(((with_reducible apply z33;omega));intro _)|((first|apply z2|apply z47)<;>intro _)|(apply z0 (cc);rfl;rfl)|(apply z64 [2] [] cf;rfl;rfl;rfl;(focus ((repeat' first|exact z10|apply z14)<;>exact z77))))<;>conv=>whnf)
  all_goals first|(exfalso;omega)|(refine rsD [] [] rfl ?_;(repeat' first|exact y85 _|constructor))
def ngB (t:Tree):Bool:=t.fmB && (negT t).fmB
def ngT (t:Tree):Tree:=if ngB t=true then negT t else dftT
theorem ngT_sz (t:Tree):(ngT t).sz≤t.sz+1:=by
 unfold ngT
 split
 ·exact z836 t
 ·simp [dftT,z516]
theorem z671 (t:Tree) (hm:t.mx):CallsA Tryz.prog 59 [z24 Tree.cs' t] [] (.tup [z24 Tree.cs' (ngT t),.bool (ngB t)]) []:=by
 have cv:=z138 t hm
 have hz:=z836 t
 unfold ngT ngB
 by_cases h1:t.fmB=true
 ·have hs:=fm_sz h1
  have cn:=z835 t (y24 h1) (by omega)
  have cw:=z138 (negT t) (z134 _ (by unfold maxLen;omega))
  rw [h1,Bool.true_and]
  rw [h1] at cv
  generalize negT t=u at *
  by_cases h2:u.fmB=true
  ·rw [if_pos h2,h2]
   rw [h2] at cw
   rw [y13 t] at cv cn ⊢
   rw [y13 u] at cw cn ⊢
   refine z5 z12 Tryz.func59 rfl rfl 16 Tryz.ntmps59 (by simp) ?_
   repeat' ((first|(apply y83 ok;rfl)|(apply z0 (cv);rfl;rfl)|(apply z0 (cn);rfl;rfl)|(apply z0 (cw);rfl;rfl))<;>conv=>whnf)
   all_goals (refine rsD [] [] rfl ?_;(repeat' first|exact y85 _|constructor))
  ·rw [if_neg h2,(y70 _).mp h2]
   rw [(y70 _).mp h2] at cw
   rw [y13 t] at cv cn ⊢
   rw [y13 u] at cw cn
   refine z5 z12 Tryz.func59 rfl rfl 16 Tryz.ntmps59 (by simp) ?_
   repeat' ((first|(apply y83 ok;rfl)|(apply z0 (cv);rfl;rfl)|(apply z0 (cn);rfl;rfl)|(apply z0 (cw);rfl;rfl))<;>conv=>whnf)
   all_goals (refine rsD [] [] rfl ?_;(repeat' first|exact y85 _|exact z71|apply z70|apply z79|constructor))
 ·rw [(y70 _).mp h1,Bool.false_and,if_neg (by simp)]
  rw [(y70 _).mp h1] at cv
  rw [y13 t] at cv ⊢
  refine z5 z12 Tryz.func59 rfl rfl 16 Tryz.ntmps59 (by simp) ?_
  repeat' ((first|(apply y83 ok;rfl)|(apply z0 (cv);rfl;rfl))<;>conv=>whnf)
  all_goals (refine rsD [] [] rfl ?_;(repeat' first|exact y85 _|exact z71|apply z70|apply z79|constructor))
theorem z641 (t:Tree) (hm:t.mx):CallsA Tryz.prog 175 [z24 Tree.cs' t] [] (.tup [z24 Tree.cs' (ngT t),.bool (ngB t)]) []:=by
 have cv:=z136 t hm
 have hz:=z836 t
 unfold ngT ngB
 by_cases h1:t.fmB=true
 ·have hs:=fm_sz h1
  rw [h1,Bool.true_and]
  by_cases hk:t.kind=3
  ·obtain ⟨a,v,rfl,ha⟩:=fm_kid h1 hk
   have e:negT (.mk 3 v [a])=a:=by simp [negT,Tree.kind,Tree.kids]
   rw [e,if_pos ha,ha]
   rw [h1] at cv
   rw [z337] at hs
   have cc:=z320 (z440 a (by omega))
   rw [argU] at cv ⊢
   refine z5 z12 Tryz.func175 rfl rfl 25 Tryz.ntmps175 (by simp) ?_
   repeat' ((first|(apply y83 ok;rfl)|(refine ⟨_,rfl,?_⟩)|(apply y44;omega)|(apply z0 (cv);rfl;rfl)|(apply z0 (cc);rfl;rfl))<;>conv=>whnf)
   all_goals (refine rsD [] [] rfl ?_;(repeat' first|exact y85 _|constructor))
  ·have e:negT t=notT t:=if_neg hk
   have cc:=z320 (z440 t (by omega))
   have cn:=z490 t
   have cw:=z136 (notT t) (z134 _ (by rw [← e];unfold maxLen;omega))
   rw [h1] at cv
   rw [e]
   generalize notT t=u at *
   by_cases h2:u.fmB=true
   ·rw [if_pos h2,h2]
    rw [h2] at cw
    rw [y13 t] at cv cn cc ⊢
    rw [y13 u] at cw cn ⊢
    refine z5 z12 Tryz.func175 rfl rfl 25 Tryz.ntmps175 (by simp) ?_
    repeat' ((first|(apply y83 ok;rfl)|(apply y44;omega)|(((with_reducible apply z33;omega));intro _)|((apply z2)<;>intro _)|(apply z0 (cv);rfl;rfl)|(apply z0 (cc);rfl;rfl)|(apply z0 (cn);rfl;rfl)|(apply z0 (cw);rfl;rfl))<;>conv=>whnf)
    all_goals first|(exfalso;omega)|(refine rsD [] [] rfl ?_;(repeat' first|exact y85 _|constructor))
   ·rw [if_neg h2,(y70 _).mp h2]
    rw [(y70 _).mp h2] at cw
    rw [y13 t] at cv cn cc ⊢
    rw [y13 u] at cw cn
    refine z5 z12 Tryz.func175 rfl rfl 25 Tryz.ntmps175 (by simp) ?_
    repeat' ((first|(apply y83 ok;rfl)|(apply y44;omega)|(((with_reducible apply z33;omega));intro _)|((apply z2)<;>intro _)|(apply z0 (cv);rfl;rfl)|(apply z0 (cc);rfl;rfl)|(apply z0 (cn);rfl;rfl)|(apply z0 (cw);rfl;rfl))<;>conv=>whnf)
    all_goals first|(exfalso;omega)|(refine rsD [] [] rfl ?_;(repeat' first|exact y85 _|exact z71|apply z70|apply z79|constructor))
 ·rw [(y70 _).mp h1,Bool.false_and,if_neg (by simp)]
  rw [(y70 _).mp h1] at cv
  rw [y13 t] at cv ⊢
  refine z5 z12 Tryz.func175 rfl rfl 25 Tryz.ntmps175 (by simp) ?_
  repeat' ((first|(apply y83 ok;rfl)|(apply z0 (cv);rfl;rfl))<;>conv=>whnf)
  all_goals (refine rsD [] [] rfl ?_;(repeat' first|exact y85 _|exact z71|apply z70|apply z79|constructor))
end Go.Proofs.YtahhobgjcfionaaGreat
