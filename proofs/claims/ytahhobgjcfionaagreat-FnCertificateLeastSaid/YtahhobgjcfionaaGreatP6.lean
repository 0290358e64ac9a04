/- A part of the proofs over this program: T37, T38, T40, T41, T42, T153, T154, T155, T156, T157. -/
import Derived.Test.YtahhobgjcfionaaGreatG0
import Derived.Test.YtahhobgjcfionaaGreatG1
import Derived.Test.YtahhobgjcfionaaGreatG2
import Derived.Test.YtahhobgjcfionaaGreatG3
import Derived.Test.YtahhobgjcfionaaGreatP0
import Derived.Test.YtahhobgjcfionaaGreatP1
import Derived.Test.YtahhobgjcfionaaGreatP2
import Derived.Test.YtahhobgjcfionaaGreatP3
import Derived.Test.YtahhobgjcfionaaGreatP4
import Derived.Test.YtahhobgjcfionaaGreatP5
set_option linter.all false
namespace Go.Proofs.YtahhobgjcfionaaGreat
open Go.Gl
attribute [local irreducible] z29 AWP z46 z50 z47
theorem z774 (l:List Int) (hl:l.length≤1048576):CallsA Tryz.prog 205 [ints l] [] (.sref 0 0 l.length) [.cells 1 (l.map enI)]:=by
 by_cases hp:0 < l.length
 ·exact z605 l hl hp
 ·obtain rfl:l=[]:=y66 (by omega)
  refine z544 (z758 Tryz.func205 rfl (by rfl)) fun ad cap=>?_
  cases ad with
  |none =>
   refine CallsA.nils (res:=.nils) (l:=[.cells 1 []]) ?_ (by simp) z651
   refine z13 z15 Tryz.func205 rfl rfl 8 Tryz.ntmps205 (by simp) ?_
   repeat' ((apply y76 ok;rfl;conv=>whnf))
   all_goals exact z60 rfl rfl rfl
  |some p =>
   refine z13 z15 Tryz.func205 rfl rfl 8 Tryz.ntmps205 (by simp) ?_
   repeat' (first|(apply y76 ok;rfl;conv=>whnf)|(apply y36;(omega);conv=>whnf))
   all_goals (exact z371 rfl z34 rfl rfl rfl)
theorem z668 (l:List Int) (hl:l.length≤1048576):CallsA Tryz.prog 139 [ints l] [] (.sref 0 0 l.length) [.cells 1 (l.map enI)]:=by
 refine z13 z15 Tryz.func139 rfl rfl 6 Tryz.ntmps139 (by simp) ?_
 repeat' (first|(apply y76 ok;rfl;conv=>whnf)|(apply z320 [] [] [0] (z774 l hl);rfl;(focus ((repeat' (exact z59))<;>(fail)));rfl;rfl;rfl;rfl;rfl;(focus ((repeat' (first|exact z17|apply z16))<;>((refine z23 ?_;((exact z4 (fun _=>rfl)))))));(exact .inl rfl);conv=>whnf)|(apply z320 [0] [] [] (z353 l hl);rfl;(focus ((repeat' (first|exact z59|apply z66))<;>((refine z80 rfl ?_;((exact z4 (fun _=>rfl)))))));rfl;rfl;rfl;rfl;rfl;(focus ((repeat' (first|exact z17|apply z16))<;>((refine z23 ?_;((exact z4 (fun _=>rfl)))))));(exact .inl rfl);conv=>whnf))
 exact z371 rfl (z4 fun _=>rfl) rfl rfl rfl
structure RI (rows:List (List Int)) (ini S L:List Int):Prop where
 inS:InN rows.length S
 sub:∀ x∈L,x∈S
 rp:∀ x∈S,RP rows ini x
 base:∀ x∈ini,x∈S
def Shut (rows:List (List Int)) (S:List Int) (x:Int):Prop:=∀ y∈rows.getD x.toNat [],y∈S
set_option maxHeartbeats 1600000 in
theorem z374 (rows:List (List Int)) (ini:List Int) (hr:∀ r∈rows,InN rows.length r) (hi:InN rows.length ini) (hN:rows.length≤1048576) (hrl:∀ r∈rows,r.length≤1000000000) (hil:ini.length≤1048576):CallsA Tryz.prog 99 [lst 1 encL rows,ints ini] [] (.sref 0 0 rows.length) [.cells 1 ((z139 rows ini).map enB)]:=by
 have c0:=z668 ini hil
 refine z13 z15 Tryz.func99 rfl rfl 64 Tryz.ntmps99 (by simp) ?_
 repeat' (first|(apply y76 ok;rfl;conv=>whnf)|(apply y36;((dsimp only;omega));conv=>whnf)|(apply z320 [] [] [1] (c0);rfl;(focus ((repeat' (exact z59))<;>(fail)));rfl;rfl;rfl;rfl;rfl;(focus ((repeat' (first|exact z17|apply z16))<;>((refine z23 ?_;((exact z4 (fun _=>rfl)))))));(exact .inl rfl);conv=>whnf))
 refine z94 (fun i:Nat=>([(0,lst 1 encL rows),(5,.sref 0 0 rows.length),(6,.sref 1 0 ini.length),(17,ints ini),(18,.int ini.length),(19,.int i)],[.cells 1 ((mkB rows.length (ini.take i)).map enB),.cells 1 (ini.map enI)])) (fun i=>i≤ini.length) (fun i=>ini.length - i) 0 (by omega) ⟨[0,1],rfl,by decide,rfl,⟨⟨rfl,rfl⟩,⟨rfl,rfl⟩,⟨rfl,rfl⟩,⟨rfl,rfl⟩,⟨rfl,rfl⟩,⟨rfl,rfl⟩,trivial⟩,⟨z39 (z51 (by rw [List.take_zero,z653,List.map_replicate];rfl)) (z4 fun _=>rfl),z39 rfl (z4 fun _=>rfl),trivial⟩⟩ ?_
 intro i hil2
 by_cases hil3:i < ini.length
 ·have hx:=hi ini[i] (y37 _)
  repeat' (first|(apply y76 ok;rfl;conv=>whnf)|(refine z260 (enc:=enB) (v:=ini[i]) (by rfl) hx.1 hx.2 ?_;conv=>whnf)|(apply y36;(first|omega|(unfold inI;omega));conv=>whnf)|(with_reducible apply z8;omega;intro _;conv=>whnf)|(apply z5<;>intro _<;>conv=>whnf))
  all_goals try (exfalso;omega)
  exact z79 (i+1) [0,1] (by omega) (by omega) ⟨rfl,by decide,rfl,⟨⟨rfl,rfl⟩,⟨rfl,rfl⟩,⟨rfl,rfl⟩,⟨rfl,rfl⟩,⟨rfl,rfl⟩,⟨rfl,rfl⟩,trivial⟩,⟨z39 (z51 (z342 (enc:=enB) (by rfl) hx.1 hx.2 fun x=>by rw [y43 hil3,y47,y48])) (z4 fun _=>rfl),z39 rfl (z4 fun _=>rfl),trivial⟩⟩
 repeat' (first|(apply y76 ok;rfl;conv=>whnf)|(apply y36;(omega);conv=>whnf)|(with_reducible apply z8;omega;intro _;conv=>whnf)|(apply z8;omega;intro _;conv=>whnf)|(apply z5<;>intro _<;>conv=>whnf))
 all_goals try (exfalso;omega)
 obtain rfl:i=ini.length:=by omega
 rw [y49]
 refine z94 (fun x:List Int×List Int×List Int=>([(0,lst 1 encL rows),(5,.sref 0 0 rows.length),(6,.sref 1 0 x.2.1.length)],[.cells 1 ((mkB rows.length x.1).map enB),.cells 1 ((x.2.1++x.2.2).map enI)])) (fun x=>RI rows ini x.1 x.2.1∧(∀ v∈x.1,v ∉ x.2.1→Shut rows x.1 v)∧2 * cntU rows.length x.1+x.2.1.length≤2 * rows.length+ini.length) (fun x=>2 * cntU rows.length x.1+x.2.1.length) (ini,ini,[]) ⟨⟨hi,fun _ h=>h,fun _ h=>.base h,fun _ h=>h⟩,fun v h h'=>absurd h h',by have:=z992 rows.length ini;dsimp only;omega⟩ ⟨[0,1],rfl,by decide,rfl,⟨⟨rfl,rfl⟩,⟨rfl,rfl⟩,⟨rfl,rfl⟩,trivial⟩,⟨z39 rfl (z4 fun _=>rfl),z39 (z51 (by rw [y57])) (z4 fun _=>rfl),trivial⟩⟩ ?_
 rintro ⟨S,L,J⟩ ⟨hRI,hsh,hLl⟩
 dsimp only at hRI hsh hLl ⊢
 rcases List.eq_nil_or_concat L with rfl|⟨L,x,rfl⟩
 ·repeat' ((apply y76 ok;rfl;conv=>whnf))
  refine z416 rfl (z4 fun _=>rfl) rfl ?_
  rw [z729]
  intro v _
  refine ⟨fun h=>hRI.rp _ h,fun h=>?_⟩
  generalize (v:Int)=u at h
  induction h with
  |base h=>exact hRI.base _ h
  |step _ h2 ih=>exact hsh _ ih (by simp) _ h2
 ·rw [List.concat_eq_append] at *
  have hxS:x∈S:=hRI.sub x (by simp)
  have hx:=hRI.inS x hxS
  have e:(L++[x]).length=L.length+1:=by simp
  have hxr:x.toNat < rows.length:=by omega
  rw [e] at hLl
  rw [e,List.append_assoc,List.singleton_append]
  have hg:((L++x::J).map enI)[L.length]?=some (enI x):=by simp
  have hrow:rows.getD x.toNat []=rows[x.toNat]:=z14 hxr
  have hrin:InN rows.length rows[x.toNat]:=hr _ (y37 _)
  have hrl2:=hrl rows[x.toNat] (y37 _)
  repeat' (first|(apply y76 ok;rfl;conv=>whnf)|(refine z12 (i:=L.length) (by omega) hg ?_;conv=>whnf)|(apply y36;(first|omega|(unfold inI;omega));conv=>whnf)|(with_reducible apply z55;omega;intro _;conv=>whnf)|(apply z5<;>intro _<;>conv=>whnf))
  all_goals try (exfalso;omega)
  generalize hrw:rows[x.toNat]=row at *
  refine z94 (fun y:List Int×List Int×List Int×Nat=>([(0,lst 1 encL rows),(5,.sref 0 0 rows.length),(6,.sref 1 0 y.2.1.length),(44,ints row),(45,.int row.length),(46,.int y.2.2.2)],[.cells 1 ((mkB rows.length y.1).map enB),.cells 1 ((y.2.1++y.2.2.1).map enI)])) (fun y=>RI rows ini y.1 y.2.1∧(∀ v∈y.1,v ∉ y.2.1→v≠x→Shut rows y.1 v)∧(∀ v∈row.take y.2.2.2,v∈y.1)∧y.2.2.2≤row.length∧2 * cntU rows.length y.1+y.2.1.length≤2 * cntU rows.length S+L.length) (fun y=>row.length - y.2.2.2) (S,L,x::J,0) ⟨⟨hRI.inS,fun v hv=>hRI.sub v (by simp [hv]),hRI.rp,hRI.base⟩,fun v hv hv' hne=>hsh v hv (by simp [hv',hne]),fun v hv=>by simp at hv,y46 _,y45 _⟩ ⟨[0,1],rfl,by decide,rfl,⟨⟨rfl,rfl⟩,⟨rfl,rfl⟩,⟨rfl,z262 (by dsimp only;omega) rfl⟩,⟨rfl,rfl⟩,⟨rfl,rfl⟩,⟨rfl,rfl⟩,trivial⟩,⟨z39 rfl (z4 fun _=>rfl),z39 rfl (z4 fun _=>rfl),trivial⟩⟩ ?_
  rintro ⟨S',L',J',i⟩ ⟨h1,h2,h3,h4,h5⟩
  dsimp only at h1 h2 h3 h4 h5 ⊢
  by_cases hil4:i < row.length
  ·have hy:=hrin row[i] (y37 _)
   repeat' (first|(apply y76 ok;rfl;conv=>whnf)|(refine z260 (enc:=enB) (v:=row[i]) (by rfl) hy.1 hy.2 ?_;conv=>whnf)|(apply y36;(first|omega|(unfold inI;omega)|((try dsimp only);simp only [y42,y41,y40,y39,y51,y52];omega)|exact ⟨rfl,z19 rfl z26⟩);conv=>whnf)|(with_reducible apply z8;omega;intro _;conv=>whnf)|(apply z5<;>intro _<;>conv=>whnf)|(apply z37<;>intro _<;>conv=>whnf))
   all_goals try (exfalso;omega)
   ·rename_i hn
    have hn:row[i] ∉ S':=by simpa using hn
    have hc:=cntU_lt (S:=S') (S':=S'++[row[i]]) (fun v hv=>by simp [hv]) hn (by simp) rows.length hy.1 hy.2
    refine z79 (S'++[row[i]],L'++[row[i]],[],i+1) [0,3] ⟨⟨fun v hv=>?_,fun v hv=>?_,fun v hv=>?_,fun v hv=>by simp [h1.base v hv]⟩,fun v hv hv' hne=>?_,fun v hv=>?_,by dsimp only;omega,?_⟩ (by dsimp only;omega) ⟨rfl,by decide,rfl,⟨⟨rfl,rfl⟩,⟨rfl,rfl⟩,⟨rfl,z262 (by simp) rfl⟩,⟨rfl,rfl⟩,⟨rfl,rfl⟩,⟨rfl,rfl⟩,trivial⟩,⟨z39 (z51 (z342 (enc:=enB) (by rfl) hy.1 hy.2 fun v=>by simp)) (z4 fun _=>rfl),z39 (z51 ?_) (z4 fun _=>rfl),trivial⟩⟩
    ·rcases List.mem_append.1 hv with hv|hv
     ·exact h1.inS v hv
     ·rw [List.mem_singleton.1 hv];exact hy
    ·rcases List.mem_append.1 hv with hv|hv
     ·exact List.mem_append_left _ (h1.sub v hv)
     ·exact List.mem_append_right _ hv
    ·rcases List.mem_append.1 hv with hv|hv
     ·exact h1.rp v hv
     ·rw [List.mem_singleton.1 hv];exact .step (hRI.rp x hxS) (by rw [hrow];exact y37 _)
    ·dsimp only at hv hv'
     rcases List.mem_append.1 hv with hv|hv
     ·exact fun y hy=>List.mem_append_left _ (h2 v hv (fun h=>hv' (List.mem_append_left _ h)) hne y hy)
     ·exact absurd (List.mem_append_right _ hv) hv'
    ·dsimp only at hv ⊢
     rw [y43 hil4] at hv
     rcases List.mem_append.1 hv with hv|hv
     ·exact List.mem_append_left _ (h3 v hv)
     ·exact List.mem_append_right _ hv
    ·dsimp only
     rw [y40]
     simp only [List.length_singleton]
     omega
    ·dsimp only
     rw [y57,y56,y56,List.take_append_of_le_length (by simp),y50 (by simp)]
     rfl
   ·refine z79 (S',L',J',i+1) [0,1] ⟨h1,h2,fun v hv=>?_,by dsimp only;omega,h5⟩ (by dsimp only;omega) ⟨rfl,by decide,rfl,⟨⟨rfl,rfl⟩,⟨rfl,rfl⟩,⟨rfl,rfl⟩,⟨rfl,rfl⟩,⟨rfl,rfl⟩,⟨rfl,rfl⟩,trivial⟩,⟨z39 rfl (z4 fun _=>rfl),z39 rfl (z4 fun _=>rfl),trivial⟩⟩
    dsimp only at hv ⊢
    rw [y43 hil4] at hv
    rcases List.mem_append.1 hv with hv|hv
    ·exact h3 v hv
    ·rw [List.mem_singleton.1 hv];assumption
  ·repeat' (first|(apply y76 ok;rfl;conv=>whnf)|(apply y36;(omega);conv=>whnf)|(with_reducible apply z8;omega;intro _;conv=>whnf)|(apply z8;omega;intro _;conv=>whnf)|(apply z5<;>intro _<;>conv=>whnf)|(apply z74<;>intro _<;>conv=>whnf))
   all_goals try (exfalso;omega)
   have hie:i=row.length:=by omega
   refine z79 (S',L',J') [0,1] ⟨h1,fun v hv hv'=>?_,by dsimp only;omega⟩ (by dsimp only;rw [e];omega) ⟨rfl,by decide,rfl,⟨⟨rfl,rfl⟩,⟨rfl,rfl⟩,⟨rfl,rfl⟩,trivial⟩,⟨z39 rfl (z4 fun _=>rfl),z39 rfl (z4 fun _=>rfl),trivial⟩⟩
   by_cases hvx:v=x
   ·subst hvx
    intro y hy
    rw [hrow] at hy
    exact h3 y (by rw [hie,y49];exact hy)
   ·exact h2 v hv hv' hvx
theorem z698 {Q:List Int} {x:Int} (h:x ∉ Q):z165 Q x=Q++[x]:=by unfold z165;rw [if_neg h]
theorem z697 {Q:List Int} {x:Int} (h:x∈Q):z165 Q x=Q:=by unfold z165;rw [if_pos h]
theorem z586 {Q Q' : List Int} {x:Int} (h:Q'=Q++[x]):((Q.map enI).take Q.length)++[enI x]=Q'.map enI:=by
 subst h
 rw [y50 (by simp),y56];rfl
set_option maxHeartbeats 1600000 in
theorem z842 (rows:List (List Int)) (ini:List Int) (hr:∀ r∈rows,InN rows.length r) (hi:InN rows.length ini) (hN:rows.length≤1048576) (hrl:∀ r∈rows,r.length≤1000000000) (hil:ini.length≤1048576):CallsA Tryz.prog 168 [lst 1 encL rows,ints ini] [] (.sref 0 0 (bfsL rows ini).length) [.cells 1 ((bfsL rows ini).map enI)]:=by
 refine z13 z15 Tryz.func168 rfl rfl 83 Tryz.ntmps168 (by simp) ?_
 repeat' (first|(apply y76 ok;rfl;conv=>whnf)|(apply y36;((dsimp only;omega));conv=>whnf))
 refine z94 (fun i:Nat=>([(0,lst 1 encL rows),(1,ints ini),(5,.sref 0 0 rows.length),(6,.sref 1 0 (z82 [] (ini.take i)).length),(7,.int i)],[.cells 1 ((mkB rows.length (z82 [] (ini.take i))).map enB),.cells 1 ((z82 [] (ini.take i)).map enI)])) (fun i=>i≤ini.length) (fun i=>ini.length - i) 0 (by omega) ⟨[0,1],rfl,by decide,rfl,⟨⟨rfl,rfl⟩,⟨rfl,rfl⟩,⟨rfl,rfl⟩,⟨rfl,rfl⟩,⟨rfl,rfl⟩,trivial⟩,⟨z39 (z51 (by show _=(mkB rows.length []).map enB;rw [z653,List.map_replicate];rfl)) (z4 fun _=>rfl),z39 rfl (z4 fun _=>rfl),trivial⟩⟩ ?_
 intro i hil2
 have hQn:(z82 [] (ini.take i)).length≤rows.length:=z147 _ _ (z144 (by simp)) (z230 (fun x hx=>by cases hx) fun x hx=>hi x (List.mem_of_mem_take hx))
 by_cases hil3:i < ini.length
 ·have hx:=hi ini[i] (y37 _)
  have hv:=z250 (out:=[]) hil3
  by_cases hn:ini[i] ∉ z82 [] (ini.take i)
  ·repeat' (first|(apply y76 ok;rfl;conv=>whnf)|(refine z260 (enc:=enB) (v:=ini[i]) (by rfl) hx.1 hx.2 ?_;conv=>whnf)|(apply y36;(first|omega|(unfold inI;omega)|((try dsimp only);simp only [y42,y41,y40,y39,y51,y52];omega)|exact ⟨rfl,z19 rfl z26⟩);conv=>whnf)|(with_reducible apply z8;omega;intro _;conv=>whnf)|(apply z5<;>intro _<;>conv=>whnf)|(apply z37<;>intro _<;>conv=>whnf))
   all_goals first|(exfalso;omega)|(exfalso;simp_all;done)|skip
   rw [z698 hn] at hv
   exact z79 (i+1) [0,3] (by omega) (by omega) ⟨rfl,by decide,rfl,⟨⟨rfl,rfl⟩,⟨rfl,rfl⟩,⟨rfl,rfl⟩,⟨rfl,z262 (by rw [hv];simp) rfl⟩,⟨rfl,rfl⟩,trivial⟩,⟨z39 (z51 (z342 (enc:=enB) (by rfl) hx.1 hx.2 fun v=>by rw [hv];simp)) (z4 fun _=>rfl),z39 (z51 (z586 hv)) (z4 fun _=>rfl),trivial⟩⟩
  ·have hn:=Decidable.not_not.1 hn
   repeat' (first|(apply y76 ok;rfl;conv=>whnf)|(refine z260 (enc:=enB) (v:=ini[i]) (by rfl) hx.1 hx.2 ?_;conv=>whnf)|(apply y36;(first|omega|(unfold inI;omega)|((try dsimp only);simp only [y42,y41,y40,y39,y51,y52];omega)|exact ⟨rfl,z19 rfl z26⟩);conv=>whnf)|(with_reducible apply z8;omega;intro _;conv=>whnf)|(apply z5<;>intro _<;>conv=>whnf)|(apply z37<;>intro _<;>conv=>whnf))
   all_goals first|(exfalso;omega)|(exfalso;simp_all;done)|skip
   rw [z697 hn] at hv
   exact z79 (i+1) [0,1] (by omega) (by omega) ⟨rfl,by decide,rfl,⟨⟨rfl,rfl⟩,⟨rfl,rfl⟩,⟨rfl,rfl⟩,⟨rfl,z262 (by rw [hv]) rfl⟩,⟨rfl,rfl⟩,trivial⟩,⟨z39 (z51 (by rw [hv])) (z4 fun _=>rfl),z39 (z51 (by rw [hv])) (z4 fun _=>rfl),trivial⟩⟩
 repeat' (first|(apply y76 ok;rfl;conv=>whnf)|(apply y36;(omega);conv=>whnf)|(with_reducible apply z8;omega;intro _;conv=>whnf)|(apply z8;omega;intro _;conv=>whnf)|(apply z5<;>intro _<;>conv=>whnf)|(apply z74<;>intro _<;>conv=>whnf))
 all_goals try (exfalso;omega)
 obtain rfl:i=ini.length:=by omega
 rw [y49]
 clear hQn
 refine z94 (fun i:Nat=>([(0,lst 1 encL rows),(5,.sref 0 0 rows.length),(6,.sref 1 0 (bfs rows ini i).length),(8,.int i)],[.cells 1 ((mkB rows.length (bfs rows ini i)).map enB),.cells 1 ((bfs rows ini i).map enI)])) (fun i=>i≤(bfs rows ini i).length) (fun i=>rows.length - i) 0 (by omega) ⟨[0,1],rfl,by decide,rfl,⟨⟨rfl,rfl⟩,⟨rfl,rfl⟩,⟨rfl,rfl⟩,⟨rfl,rfl⟩,trivial⟩,⟨z39 rfl (z4 fun _=>rfl),z39 rfl (z4 fun _=>rfl),trivial⟩⟩ ?_
 intro i hi1
 have hbl:=z302 hr hi i
 by_cases hi2:i < (bfs rows ini i).length
 ·have hq:=z303 hr hi i _ (y37 hi2)
  have hb:=bfs.eq_2 rows ini i
  rw [dif_pos hi2] at hb
  have hnd:=z549 (rows:=rows) (ini:=ini) i
  have hin:=z303 hr hi i
  generalize hQ0:bfs rows ini i=Q0 at *
  have hqr:Q0[i].toNat < rows.length:=by omega
  have hrow:rows.getD Q0[i].toNat []=rows[Q0[i].toNat]:=z14 hqr
  have hrin:InN rows.length rows[Q0[i].toNat]:=hr _ (y37 _)
  have hrl2:=hrl rows[Q0[i].toNat] (y37 _)
  rw [hrow] at hb
  repeat' (first|(apply y76 ok;rfl;conv=>whnf)|(apply z5<;>intro _<;>conv=>whnf))
  all_goals try (exfalso;omega)
  refine z94 (fun k:Nat=>([(0,lst 1 encL rows),(5,.sref 0 0 rows.length),(6,.sref 1 0 (z82 Q0 (rows[Q0[i].toNat].take k)).length),(8,.int i),(9,.int k)],[.cells 1 ((mkB rows.length (z82 Q0 (rows[Q0[i].toNat].take k))).map enB),.cells 1 ((z82 Q0 (rows[Q0[i].toNat].take k)).map enI)])) (fun k=>k≤rows[Q0[i].toNat].length) (fun k=>rows[Q0[i].toNat].length - k) 0 (by omega) ⟨[0,1],rfl,by decide,rfl,⟨⟨rfl,rfl⟩,⟨rfl,rfl⟩,⟨rfl,rfl⟩,⟨rfl,rfl⟩,⟨rfl,rfl⟩,trivial⟩,⟨z39 rfl (z4 fun _=>rfl),z39 rfl (z4 fun _=>rfl),trivial⟩⟩ ?_
  intro k hk1
  have hQn:(z82 Q0 (rows[Q0[i].toNat].take k)).length≤rows.length:=z147 _ _ (z144 hnd) (z230 hin fun x hx=>hrin x (List.mem_of_mem_take hx))
  obtain ⟨t,ht⟩:=z402 Q0 (rows[Q0[i].toNat].take k)
  have hgl:i < (z82 Q0 (rows[Q0[i].toNat].take k)).length:=by rw [ht,y40];omega
  have hg:((z82 Q0 (rows[Q0[i].toNat].take k)).map enI)[i]?=some (enI Q0[i]):=by
   rw [ht,y56,y58 (by simpa using hi2),y44,y38 hi2];rfl
  by_cases hk2:k < rows[Q0[i].toNat].length
  ·have hx:=hrin rows[Q0[i].toNat][k] (y37 _)
   have hv:=z250 (out:=Q0) hk2
   by_cases hn:rows[Q0[i].toNat][k] ∉ z82 Q0 (rows[Q0[i].toNat].take k)
   ·repeat' (first|(apply y76 ok;rfl;conv=>whnf)|(refine z260 (enc:=enB) (v:=rows[Q0[i].toNat][k]) (by rfl) hx.1 hx.2 ?_;conv=>whnf)|(refine z12 (i:=i) (by rfl) hg ?_;conv=>whnf)|(apply y36;(first|omega|(unfold inI;omega)|((try dsimp only);simp only [y42,y41,y40,y39,y51,y52];omega)|exact ⟨rfl,z19 rfl z26⟩);conv=>whnf)|(with_reducible apply z8;omega;intro _;conv=>whnf)|(with_reducible apply z55;omega;intro _;conv=>whnf)|(apply z5<;>intro _<;>conv=>whnf)|(apply z37<;>intro _<;>conv=>whnf))
    all_goals first|(exfalso;omega)|(exfalso;simp_all;done)|skip
    rw [z698 hn] at hv
    exact z79 (k+1) [0,3] (by omega) (by omega) ⟨rfl,by decide,rfl,⟨⟨rfl,rfl⟩,⟨rfl,rfl⟩,⟨rfl,z262 (by rw [hv];simp) rfl⟩,⟨rfl,rfl⟩,⟨rfl,rfl⟩,trivial⟩,⟨z39 (z51 (z342 (enc:=enB) (by rfl) hx.1 hx.2 fun v=>by rw [hv];simp)) (z4 fun _=>rfl),z39 (z51 (z586 hv)) (z4 fun _=>rfl),trivial⟩⟩
   ·have hn:=Decidable.not_not.1 hn
    repeat' (first|(apply y76 ok;rfl;conv=>whnf)|(refine z260 (enc:=enB) (v:=rows[Q0[i].toNat][k]) (by rfl) hx.1 hx.2 ?_;conv=>whnf)|(refine z12 (i:=i) (by rfl) hg ?_;conv=>whnf)|(apply y36;(first|omega|(unfold inI;omega)|((try dsimp only);simp only [y42,y41,y40,y39,y51,y52];omega)|exact ⟨rfl,z19 rfl z26⟩);conv=>whnf)|(with_reducible apply z8;omega;intro _;conv=>whnf)|(with_reducible apply z55;omega;intro _;conv=>whnf)|(apply z5<;>intro _<;>conv=>whnf)|(apply z37<;>intro _<;>conv=>whnf))
    all_goals first|(exfalso;omega)|(exfalso;simp_all;done)|skip
    rw [z697 hn] at hv
    exact z79 (k+1) [0,1] (by omega) (by omega) ⟨rfl,by decide,rfl,⟨⟨rfl,rfl⟩,⟨rfl,rfl⟩,⟨rfl,z262 (by rw [hv]) rfl⟩,⟨rfl,rfl⟩,⟨rfl,rfl⟩,trivial⟩,⟨z39 (z51 (by rw [hv])) (z4 fun _=>rfl),z39 (z51 (by rw [hv])) (z4 fun _=>rfl),trivial⟩⟩
  ·repeat' (first|(apply y76 ok;rfl;conv=>whnf)|(refine z12 (i:=i) (by rfl) hg ?_;conv=>whnf)|(apply y36;(first|omega|(unfold inI;omega));conv=>whnf)|(with_reducible apply z8;omega;intro _;conv=>whnf)|(with_reducible apply z55;omega;intro _;conv=>whnf)|(apply z8;omega;intro _;conv=>whnf)|(apply z5<;>intro _<;>conv=>whnf)|(apply z74<;>intro _<;>conv=>whnf))
   all_goals try (exfalso;omega)
   rw [y50 (by omega)] at hgl
   refine z79 (i+1) [0,1] ?_ (by omega) ⟨rfl,by decide,rfl,⟨⟨rfl,rfl⟩,⟨rfl,rfl⟩,⟨rfl,z262 ?_ rfl⟩,⟨rfl,rfl⟩,trivial⟩,⟨z39 (z51 ?_) (z4 fun _=>rfl),z39 (z51 ?_) (z4 fun _=>rfl),trivial⟩⟩
   ·rw [hb];exact hgl
   all_goals (rw [hb,y50 (by omega)])
 ·repeat' (first|(apply y76 ok;rfl;conv=>whnf)|(apply z5<;>intro _<;>conv=>whnf))
  all_goals try (exfalso;omega)
  have he:bfs rows ini i=bfsL rows ini:=z932 hr hi (by omega) (by omega)
  rw [he]
  exact z371 rfl (z4 fun _=>rfl) rfl rfl rfl
theorem z594 (rows:List (List Int)) (ini:List Int) (hr:∀ r∈rows,InN rows.length r) (hi:InN rows.length ini) (hN:rows.length≤1048576) (hrl:∀ r∈rows,r.length≤1000000000) (hil:ini.length≤1048576):CallsA Tryz.prog 168 [lst 1 encL rows,ints ini] [] (ints (bfsL rows ini)) [] :=
 keepI (z842 rows ini hr hi hN hrl hil) rfl
theorem z117 {g:Graph} {a:Aut} (hG:GB g) (hA:AutP a) (ls:List Int):(∀ r∈z27 g ls a,InN (z27 g ls a).length r)∧InN (z27 g ls a).length a.ini∧(z27 g ls a).length≤3840∧(∀ r∈z27 g ls a,r.length≤1000000000)∧a.ini.length≤1048576:=by
 have hrl:(z27 g ls a).length=g.st.length * a.acc.length:=by unfold z27;rw [z71,Nat.mul_comm]
 have hN:=z99 (a:=(g.st.length:Int)) (b:=(a.acc.length:Int)) (A:=60) (B:=64) (by omega) (by have:=hG.1;omega) (by omega) (by have:=hA.1;omega)
 have hN2:((g.st.length * a.acc.length:Nat):Int)=(g.st.length:Int) * a.acc.length:=by simp
 have ha1:=hA.1
 refine ⟨fun r hr x hx=>?_,fun x hx=>?_,by omega,fun r hr=>?_,?_⟩
 ·rw [hrl];exact z344 g hG ls a hA r hr x hx
 ·obtain ⟨i,hi,rfl⟩:=List.mem_iff_getElem.1 hx
  have h1:=(hA.2.2.1 i hi hi).1
  have h2:=z99 (a:=(g.st.length:Int) - 1) (b:=(a.acc.length:Int)) (A:=60) (B:=64) (by have:=hG.1;omega) (by have:=hG.1;omega) (by omega) (by omega)
  rw [Int.sub_mul,Int.one_mul] at h2
  omega
 ·have:=z284 g hG ls a hA r hr;omega
 ·have:=hA.2.2.1.le (by omega);omega
noncomputable def prB (g:Graph) (l:List Tree) (a:Aut):List Bool:=if (glB g l && autB a)=true then z139 (z27 g (g.st.map (z28 l)) a) a.ini else []
theorem prB_le (g:Graph) (l:List Tree) (a:Aut):(prB g l a).length≤3840:=by
 unfold prB
 split
 ·rename_i h
  obtain ⟨h1,h2⟩:=Bool.and_eq_true_iff.1 h
  rw [z167]
  exact (z117 ((z69 g).1 (by unfold glB at h1;exact (Bool.and_eq_true_iff.1 h1).1)) (z96.1 h2) _).2.2.1
 ·simp
theorem z341 (g:Graph) (hg:g.mx) (l:List Tree) (hl:Lmx l) (a:Aut) (ha:a.mx):CallsA Tryz.prog 98 [.agg g.cs,lst 3 Tree.cs' l,.agg a.cs] [] (.tup [lst 1 enB (prB g l a),.bool (glB g l && autB a)]) []:=by
 have k0:=z115 g hg l hl
 have k1:=z95 a ha
 by_cases hgl:(glB g l && autB a)=true
 ·obtain ⟨h1,hab⟩:=Bool.and_eq_true_iff.1 hgl
  have hG:=(z69 g).1 (by unfold glB at h1;exact (Bool.and_eq_true_iff.1 h1).1)
  have hL:=y7 (by unfold glB at h1;exact (Bool.and_eq_true_iff.1 h1).2)
  have hA:=z96.1 hab
  have k2:=z215 g hG (g.st.map (z28 l)) (by simp) (fun x hx=>by
   obtain ⟨s,_,rfl⟩:=List.mem_map.1 hx
   exact z148 hL s) a hA
  obtain ⟨f1,f2,f3,f4,f5⟩:=z117 hG hA (g.st.map (z28 l))
  have e:prB g l a=z139 (z27 g (g.st.map (z28 l)) a) a.ini:=by unfold prB;rw [if_pos hgl]
  rw [if_pos h1,h1] at k0
  rw [hab] at k1
  rw [e,hgl]
  generalize g.st.map (z28 l)=ls at *
  generalize z27 g ls a=rows at *
  have k3:=z594 rows a.ini f1 f2 (by omega) f4 f5
  have hB:=z1000 f1 f2
  have hin:=z303 f1 f2 rows.length
  have hbl:=z302 f1 f2 rows.length
  refine keepB (n:=rows.length) ?_ (z167 _ _) rfl
  rw [← hB]
  unfold bfsL at k3 ⊢
  generalize bfs rows a.ini rows.length=Q at *
  refine z13 z15 Tryz.func98 rfl rfl 52 Tryz.ntmps98 (by simp) ?_
  repeat' (first|(apply y76 ok;rfl;conv=>whnf)|(apply y36;((dsimp only;omega));conv=>whnf)|(apply z6 (k0);rfl;rfl;conv=>whnf)|(apply z6 (k1);rfl;rfl;conv=>whnf)|(apply z6 (k2);rfl;rfl;conv=>whnf)|(apply z6 (k3);rfl;rfl;conv=>whnf))
  refine z94 (fun i:Nat=>([(11,.sref 2 0 rows.length),(12,ints Q),(13,.int i)],[.cells 2 [[lst 2 State.cs g.st,lst 1 encL g.nx]],.cells 3 [[lst 1 enI a.ini,lst 1 enB a.acc,lst 4 Trans.cs a.ed]],.cells 1 ((mkB rows.length (Q.take i)).map enB)])) (fun i=>i≤Q.length) (fun i=>Q.length - i) 0 (by omega) ⟨[0,1,2],rfl,by decide,rfl,⟨⟨rfl,rfl⟩,⟨rfl,rfl⟩,⟨rfl,rfl⟩,trivial⟩,⟨z24 rfl rfl,z24 rfl rfl,z39 (z51 (by rw [List.take_zero,z653,List.map_replicate];rfl)) (z4 fun _=>rfl),trivial⟩⟩ ?_
  intro i hi
  by_cases hil:i < Q.length
  ·have hx:=hin Q[i] (y37 _)
   repeat' (first|(apply y76 ok;rfl;conv=>whnf)|(refine z260 (enc:=enB) (v:=Q[i]) (by rfl) hx.1 hx.2 ?_;conv=>whnf)|(apply y36;(first|omega|(unfold inI;omega));conv=>whnf)|(with_reducible apply z8;omega;intro _;conv=>whnf)|(apply z5<;>intro _<;>conv=>whnf))
   all_goals try (exfalso;omega)
   exact z79 (i+1) [0,1,2] (by omega) (by omega) ⟨rfl,by decide,rfl,⟨⟨rfl,rfl⟩,⟨rfl,rfl⟩,⟨rfl,rfl⟩,trivial⟩,⟨z24 rfl rfl,z24 rfl rfl,z39 (z51 (z342 (enc:=enB) (by rfl) hx.1 hx.2 fun v=>by rw [y43 hil,y47,y48])) (z4 fun _=>rfl),trivial⟩⟩
  ·repeat' (first|(apply y76 ok;rfl;conv=>whnf)|(apply y36;(omega);conv=>whnf)|(with_reducible apply z8;omega;intro _;conv=>whnf)|(apply z8;omega;intro _;conv=>whnf)|(apply z5<;>intro _<;>conv=>whnf))
   all_goals try (exfalso;omega)
   rw [y50 (by omega)]
   exact z110 [2] (by decide) rfl rfl rfl ⟨z39 rfl (z4 fun _=>rfl),trivial⟩
 ·have e:prB g l a=[]:=by unfold prB;rw [if_neg hgl]
  have hgl:=(y64 _).mp hgl
  rw [e,hgl]
  refine z13 z15 Tryz.func98 rfl rfl 52 Tryz.ntmps98 (by simp) ?_
  repeat' (first|(apply y76 ok;rfl;conv=>whnf)|(apply z37<;>intro _<;>conv=>whnf)|(apply z74<;>intro _<;>conv=>whnf)|(apply z6 (k0);rfl;rfl;conv=>whnf)|(apply z6 (k1);rfl;rfl;conv=>whnf))
  all_goals first|exact z727 rfl rfl (z805 z628)|(exfalso;rename_i x y;rw [x,z96.2 y] at hgl;simp at hgl;done)
structure Cert.ok (c:Cert):Prop where
 mx:c.mx
 len:c.ranks.length≤1048576
theorem Cert.ok_of {c:Cert} (h:c.mx) (h1:c.s1≤1048576):c.ok:=⟨h,h1⟩
theorem bor_tup {objs:Nat→AObj} {π Bn:List Nat} {xs ys:List AC} (h:borL objs π Bn xs=ys):bor objs π Bn (.tup xs)=.tup ys:=by
 simp only [bor,h]
end Go.Proofs.YtahhobgjcfionaaGreat
namespace Go.Proofs.YtahhobgjcfionaaGreat
open Go.Gl
attribute [local irreducible] z29 AWP z46 z50 z47 RetS z58
theorem trA_len (t:Tree) (hs:t.sz≤200):(trA t).ini.length≤32∧(trA t).acc.length≤66∧(trA t).ed.length≤2080:=by
 unfold trA trO
 by_cases h:bscB t=true
 ·rw [if_pos h]
  obtain ⟨⟨ht,hn⟩,h5⟩:=of_decide_eq_true (show decide _=true from h)
  have hp:=pow_5 h5
  have hi:=z912 (bscL (t.nrm false)) (t.nrm false)
  cases hS:trS (bscL (t.nrm false)) (t.nrm false) with
  |none=>exact ⟨y46 _,y46 _,y46 _⟩
  |some y =>
   have hg:=z1110 _ _ _ _ _ _ hS
   simp only [y52] at hg
   show (numI _).length≤32∧(if y.L.length=0 then [false] else y.acc).length≤66∧(y.ed.map eT).length≤2080
   rw [z903,y42]
   refine ⟨by omega,?_,by omega⟩
   split
   ·simp
   ·omega
 ·rw [if_neg h];exact ⟨y46 _,y46 _,y46 _⟩
theorem letB_lt {B:List Tree} (hB:BasL B) (s:Int) (i:Nat):((List.range i).foldl (atoI B s) (0,0)).2 < 8:=by
 induction i with
 |zero=>show 0 < 8;omega
 |succ i ih =>
  rw [z608]
  unfold atoI
  split
  ·rename_i hk
   dsimp only
   split
   ·by_cases hil:i < B.length
    ·have hmem:B.getD i dftT∈B:=by rw [z14 hil];exact y37 _
     have hform:=hB.form hmem
     have hvv:(B.getD i dftT).val.toNat≤2:=by
      generalize B.getD i dftT=f at *
      cases hform with
      |«at» v=>have:=hB.av v hmem;show v.toNat≤2;omega
      |nx a _ _=>simp [Tree.kind] at hk
      |un a b _ _ _ _=>simp [Tree.kind] at hk
      |re a b _ _ _ _=>simp [Tree.kind] at hk
     exact z901 ih hvv
    ·rw [y60,y61 (by omega)]
     exact z901 ih (show (0:Nat)≤2 by omega)
   ·exact ih
  ·exact ih
theorem z923 (B:List Tree) (s ph:Int) (i:Nat) (c v:Int):∀ (l:List Nat) (x:List (List Int)×List Edg),∀ e∈(l.foldl (z432 B s ph i c v) x).2,e∈x.2∨e.val=v
 |[],x,e,he=>.inl he
 |t::l,x,e,he=>by
  rw [List.foldl_cons] at he
  rcases z923 B s ph i c v l _ e he with h|h
  ·unfold z432 at h
   split at h
   ·rcases List.mem_append.1 h with h1|h1
    ·exact .inl h1
    ·rw [List.mem_singleton.1 h1];exact .inr rfl
   ·exact .inl h
  ·exact .inr h
theorem z1109 (B:List Tree) (U:List Int):∀ (f i:Nat) (x y:TrS),goS B U f i x=some y→∀ e∈y.ed,e∈x.ed∨∃ s,e.val=((letB B s).2:Int)
 |0,i,x,y,h=>by simp [goS] at h
 |f+1,i,x,y,h=>by
  rw [goS] at h
  split at h
  ·split at h
   ·cases h
   ·intro e he
    rcases z1109 B U f (i+1) _ y h e he with h1|h1
    ·rcases z923 B _ _ i _ _ _ _ e h1 with h2|h2
     ·exact .inl h2
     ·exact .inr ⟨_,h2⟩
    ·exact .inr h1
  ·cases h
   exact fun e he=>.inl he
theorem trA_val (t:Tree) (hs:t.sz≤200):∀ e∈(trA t).ed,e.mx:=by
 unfold trA trO
 by_cases h:bscB t=true
 ·rw [if_pos h]
  obtain ⟨⟨ht,hn⟩,h5⟩:=of_decide_eq_true (show decide _=true from h)
  obtain ⟨hB,_,_⟩:=z1149 ht hn h5 hs
  cases hS:trS (bscL (t.nrm false)) (t.nrm false) with
  |none=>intro e he;cases he
  |some y =>
   intro e he
   obtain ⟨e',he',rfl⟩:=List.mem_map.1 (show e∈y.ed.map eT from he)
   rcases z1109 _ _ _ _ _ _ hS e' he' with h1|⟨s,h1⟩
   ·cases h1
   ·have:=letB_lt hB s (bscL (t.nrm false)).length
    show inI e'.val
    unfold inI
    rw [h1]
    unfold letB
    omega
 ·rw [if_neg h];intro e he;cases he
def iniF (z:List (Bool×Bool)):Nat→List Int
 |0=>[]
 |k+1=>iniF z k++(if (z.getD k (false,false)).2=true then [(k:Int)] else [])
theorem z316 (z:List (Bool×Bool)):∀ k,(iniF z k).length≤k
 |0=>y45 _
 |k+1=>by
  have:=z316 z k
  rw [iniF,y40]
  split
  ·simp;omega
  ·simp;omega
def z118 (z:List (Bool×Bool)) (n k:Nat):List Bool:=(z.take k).map (·.1)++List.replicate (n - k) false
theorem z538 {z:List (Bool×Bool)} {n k:Nat} (h:k < z.length) (hn:k < n) {a:Bool} (ha:z[k].1=a):(z118 z n k).set k a=z118 z n (k+1):=by
 subst ha
 unfold z118
 rw [show n - k=(n - (k+1))+1 by omega,List.replicate_succ,List.set_append_right _ _ (by simp;omega)]
 simp only [y42,y41]
 rw [show k - min k z.length=0 by omega,List.set_cons_zero,y43 h,y56]
 simp
theorem z242 {z:List (Bool×Bool)} {n k:Nat} (h:k≤z.length) (hn:k≤n):(z118 z n k).length=n:=by
 unfold z118;simp;omega
def z1103 (bs:List Int) (i:Nat) (q:Int) (z:Bool×Bool) (q' : Int):Prop:=∃ a:Int,CallsA Tryz.prog 92 [.ptr 0 none 0,.int 3] [rdO bs q] (.int a) [rdO bs (q+1)]∧z.1=decide (a=0) ∧
  ((i=0∧∃ b:Int,CallsA Tryz.prog 92 [.ptr 0 none 0,.int 12] [rdO bs (q+1)] (.int b) [rdO bs (q+1+1)]∧((0 < b∧z.2=true∧q'=q+1+1)∨(¬ 0 < b∧∃ c:Int,CallsA Tryz.prog 92 [.ptr 0 none 0,.int 5] [rdO bs (q+1+1)] (.int c) [rdO bs (q+1+1+1)]∧z.2=decide (c=0)∧q'=q+1+1+1))) ∨
   (i≠0∧∃ c:Int,CallsA Tryz.prog 92 [.ptr 0 none 0,.int 5] [rdO bs (q+1)] (.int c) [rdO bs (q+1+1)]∧z.2=decide (c=0)∧q'=q+1+1))
theorem z1102 (bs:List Int) (hb:BytesOk bs) (i:Nat) (q:Int) (hq:0≤q∧q≤999990000):∃ z q',z1103 bs i q z q'∧q≤q'∧q'≤q+3:=by
 obtain ⟨a,_,ca⟩:=z57 bs hb q 3 (by omega) (by omega) (by omega)
 by_cases h:i=0
 ·obtain ⟨b,_,cb⟩:=z57 bs hb (q+1) 12 (by omega) (by omega) (by omega)
  by_cases h0:0 < b
  ·exact ⟨(decide (a=0),true),q+1+1,⟨a,ca,rfl,.inl ⟨h,b,cb,.inl ⟨h0,rfl,rfl⟩⟩⟩,by omega,by omega⟩
  ·obtain ⟨c,_,cc⟩:=z57 bs hb (q+1+1) 5 (by omega) (by omega) (by omega)
   exact ⟨(decide (a=0),decide (c=0)),q+1+1+1,⟨a,ca,rfl,.inl ⟨h,b,cb,.inr ⟨h0,c,cc,rfl,rfl⟩⟩⟩,by omega,by omega⟩
 ·obtain ⟨c,_,cc⟩:=z57 bs hb (q+1) 5 (by omega) (by omega) (by omega)
  exact ⟨(decide (a=0),decide (c=0)),q+1+1,⟨a,ca,rfl,.inr ⟨h,c,cc,rfl,rfl⟩⟩,by omega,by omega⟩
def isEdge (bs:List Int) (n:Nat) (q:Int) (e:Trans) (q' : Int):Prop:=∃ a w:Int,(0≤w∧w≤7)∧(0≤e.care∧e.care≤7)∧e.src=a∧e.val=((w.toNat &&& e.care.toNat:Nat):Int)∧q'=q+1+1+1+1 ∧
 CallsA Tryz.prog 133 [.ptr 0 none 0,.sref 1 0 5] [rdO bs q,.cells 1 ([1,3,0,2,7].map enI)] (.int e.care) [rdO bs (q+1),.cells 1 ([1,3,0,2,7].map enI)] ∧
 CallsA Tryz.prog 92 [.ptr 0 none 0,.int n] [rdO bs (q+1)] (.int a) [rdO bs (q+1+1)] ∧
 CallsA Tryz.prog 92 [.ptr 0 none 0,.int 8] [rdO bs (q+1+1)] (.int w) [rdO bs (q+1+1+1)] ∧
 CallsA Tryz.prog 92 [.ptr 0 none 0,.int n] [rdO bs (q+1+1+1)] (.int e.dst) [rdO bs (q+1+1+1+1)]
structure AutD (bs:List Int) (q q' : Int) (n m:Nat) (z:List (Bool×Bool)) (E:List Trans) (pf pg:Nat→Int):Prop where
 num:CallsA Tryz.prog 133 [.ptr 0 none 0,.sref 1 0 5] [rdO bs q,.cells 1 ([3,2,4,1,5].map enI)] (.int n) [rdO bs (pf 0),.cells 1 ([3,2,4,1,5].map enI)]
 n1:1≤n
 n5:n≤5
 zl:z.length=n
 node:∀ k (h:k < z.length),z1103 bs k (pf k) z[k] (pf (k+1))
 mid:CallsA Tryz.prog 133 [.ptr 0 none 0,.sref 1 0 5] [rdO bs (pf n),.cells 1 ([6,4,8,3,10].map enI)] (.int m) [rdO bs (pg 0),.cells 1 ([6,4,8,3,10].map enI)]
 m10:m≤10
 el:E.length=m
 edge:∀ k (h:k < E.length),isEdge bs n (pg k) E[k] (pg (k+1))
 last:pg m=q'
 q0:q≤q'
 q1:q'≤q+60
theorem z1154 (bs:List Int) (hb:BytesOk bs) (q:Int) (hq:0≤q∧q≤999980000):∃ q' n m z E pf pg,AutD bs q q' n m z E pf pg:=by
 obtain ⟨w,mw,cw⟩:=z98 bs hb q (by omega) (by omega) [3,2,4,1,5] (by decide) (by decide)
 simp only [List.mem_cons,List.not_mem_nil,or_false] at mw
 obtain ⟨n,rfl⟩:∃ n:Nat,w=n:=⟨w.toNat,by omega⟩
 obtain ⟨z,pf,h1,h2,h3,h4⟩:=z271 (fun k r t r'=>z1103 bs k r t r') (q+1) 3 n (fun k r hk a1 a2=>z1102 bs hb k r ⟨by omega,by omega⟩)
 have h5:=h4 n (y45 _)
 obtain ⟨v,mv,cv⟩:=z98 bs hb (pf n) (by omega) (by omega) [6,4,8,3,10] (by decide) (by decide)
 simp only [List.mem_cons,List.not_mem_nil,or_false] at mv
 obtain ⟨m,rfl⟩:∃ m:Nat,v=m:=⟨v.toNat,by omega⟩
 obtain ⟨E,pg,g1,g2,g3,g4⟩:=z271 (fun _ r t r'=>isEdge bs n r t r') (pf n+1) 4 m (fun k r hk a1 a2=>by
  obtain ⟨c,mc,cc⟩:=z98 bs hb r (by omega) (by omega) [1,3,0,2,7] (by decide) (by decide)
  simp only [List.mem_cons,List.not_mem_nil,or_false] at mc
  obtain ⟨a,_,ca⟩:=z57 bs hb (r+1) n (by omega) (by omega) (by omega)
  obtain ⟨w,_,cw⟩:=z57 bs hb (r+1+1) 8 (by omega) (by omega) (by omega)
  obtain ⟨d,_,cd⟩:=z57 bs hb (r+1+1+1) n (by omega) (by omega) (by omega)
  exact ⟨⟨a,c,((w.toNat &&& c.toNat:Nat):Int),d⟩,r+1+1+1+1,⟨a,w,⟨by omega,by omega⟩,⟨by show 0≤c;omega,by show c≤7;omega⟩,rfl,rfl,rfl,cc,ca,cw,cd⟩,by omega,by omega⟩)
 have g5:=g4 m (y45 _)
 exact ⟨pg m,n,m,z,E,pf,pg,by rw [← h2] at cw;exact cw,by omega,by omega,h1,h3,by rw [g2];exact cv,by omega,g1,g3,rfl,by omega,by omega⟩
set_option maxHeartbeats 6400000 in
theorem z335 (bs : List Int) (hb : BytesOk bs) (p : Int) (hp : few3 p) : ∃ (a : Aut) (p' : Int), (a.ini.length ≤ 32 ∧ a.acc.length ≤ 16 ∧ a.ed.length ≤ 2080 ∧ p ≤ p' ∧ p' ≤ p + 200 ∧ ∀ t ∈ a.ed, t.mx) ∧
  CallsA Tryz.prog 64 [.ptr 0 none 0] [rdO bs p] (.agg [.sref 1 0 a.ini.length,.sref 2 0 a.acc.length,.sref 3 0 a.ed.length]) [rdO bs p',.cells 1 (a.ini.map enI),.cells 1 (a.acc.map enB),.cells 4 (a.ed.map Trans.cs)]:=by
 obtain ⟨v,⟨v0,v1⟩,cv⟩:=z57 bs hb p 3 (by omega) (by omega) (by omega)
 by_cases hv:v=0
 ·subst hv
  obtain ⟨t,q,⟨t1,t2,t3⟩,ct⟩:=z750 bs hb (p+1) ⟨by omega,by omega⟩
  have cT:=z1032 t (by omega)
  obtain ⟨b1,b2,b3⟩:=trA_len t (by omega)
  have b4:=trA_val t (by omega)
  rw [y14] at ct cT
  generalize trA t=A0 at *
  generalize tsB t=B0 at *
  by_cases h16:A0.acc.length≤16∧B0=true
  ·obtain ⟨h16,rfl⟩:=h16
   refine ⟨A0,q,⟨by omega,h16,by omega,by omega,by omega,b4⟩,?_⟩
   refine z7 z15 Tryz.func64 rfl rfl 91 Tryz.ntmps64 (by simp) ?_
   repeat' ((first|(apply y76 ok;rfl)|((apply z5)<;>intro _)|((first|(apply z11 [0] [] cv;rfl;rfl)|(apply z11 [0] [] ct;rfl;rfl)|(apply z11 [] [2,3,4] cT;rfl;rfl));rfl;(focus ((repeat' first|exact z17|apply z16)<;>first|exact z44 rfl rfl|(refine z23 ?_;((exact z4 fun _=>rfl)))))))<;>conv=>whnf)
   all_goals try (exfalso;omega)
   all_goals (refine rsD [0,2,3,4] [] rfl ?_;(repeat' first|exact y78 _|exact z9 _|apply y79|refine z10 rfl (z4 (fun _=>rfl)) ?_|constructor))
  ·obtain ⟨q',n,m,z,E,pf,pg,F⟩:=z1154 bs hb q ⟨by omega,by omega⟩
   obtain ⟨Y1,Y2,Y3,Y4,Y5,Y6,Y7,Y8,Y9,Y10,Y11,Y12⟩:=F
   have hil:=z316 z n
   have hEv:∀ t∈E,t.mx:=fun t ht=>by
    obtain ⟨i,hi,rfl⟩:=List.mem_iff_getElem.1 ht
    obtain ⟨a,w,hw,hc,e1,e2,_⟩:=Y9 i hi
    show inI _
    rw [e2]
    have:=@Nat.and_le_left w.toNat E[i].care.toNat
    unfold inI;omega
   refine ⟨⟨iniF z n,z.map (·.1),E⟩,q',⟨by show (iniF z n).length≤32;omega,by show (z.map (·.1)).length≤16;simp;omega,by show E.length≤2080;omega,by omega,by omega,hEv⟩,?_⟩
   cases B0
   ·refine z7 z15 Tryz.func64 rfl rfl 91 Tryz.ntmps64 (by simp) ?_
    repeat' ((first|(apply y76 ok;rfl)|(apply y36;(dsimp only;omega))|((first|(apply z11 [0] [] cv;rfl;rfl)|(apply z11 [0] [] ct;rfl;rfl)|(apply z11 [] [2,3,4] cT;rfl;rfl)|(apply z11 [0,6] [] Y1;rfl;rfl));rfl;(focus ((repeat' first|exact z17|apply z16)<;>first|exact z44 rfl rfl|(refine z23 ?_;((exact z4 fun _=>rfl)))))))<;>conv=>whnf)
    all_goals
     have hz0:(z118 z n 0).map enB=List.replicate n [.bool false]:=by simp [z118,enB]
     refine y77 (y81 1 rfl) ?_
     refine z65 (fun x:Nat×List Bool×List Int=>([(0,.ptr 0 none 0),(2,.ptr 1 none 0),(5,.int n),(6,.ptr 2 none 0),(7,.int x.1)],[rdO bs (pf x.1),.cells 3 [[.nils,.nils,.nils]],.cells 3 [[.sref 4 0 x.2.2.length,.sref 3 0 n,.nils]],.cells 1 (x.2.1.map enB),.cells 1 (x.2.2.map enI)])) (fun x=>x.1≤n∧x.2.1=z118 z n x.1∧x.2.2=iniF z x.1) (fun x=>n - x.1) (0,z118 z n 0,[]) ⟨by show 0≤n;omega,rfl,rfl⟩ (by refine swR [0,1,8,7,9] [] rfl rfl ?_;(repeat' first|exact y78 _|exact z48|apply y79|((refine z10 rfl ?_ ?_);(focus ((repeat' (first|exact z34|exact z42 rfl));done)))|constructor)<;>((exact z30 hz0.symm))) ?_
     rintro ⟨k,A,I⟩ ⟨hk,hA,hI⟩
     dsimp only at hk hA hI ⊢
     have hAl:A.length=n:=by rw [hA];exact z242 (by omega) hk
     have hIl:=z316 z k
     rw [← hI] at hIl
     by_cases hkn:k < n
     ·have hkz:k < z.length:=by omega
      obtain ⟨a,ca,e1,H⟩:=Y5 k hkz
      have hset:=z538 hkz hkn e1
      rw [← hA] at hset
      have hset2:(A.map enB).set k (enB (decide (a=0)))=(z118 z n (k+1)).map enB:=by rw [← hset,List.map_set]
      have hin:iniF z (k+1)=I++(if (z.getD k (false,false)).2=true then [(k:Int)] else []):=by rw [iniF,hI]
      rw [z14 hkz] at hin
      have hA2l:(z118 z n (k+1)).length=n:=z242 (by omega) (by omega)
      generalize z[k]=zk at *
      obtain ⟨z1,z2⟩:=zk
      dsimp only at e1 H hin
      rcases H with ⟨i0,b,cb,(⟨b0,e2,eq⟩|⟨b0,c,cc,e2,eq⟩)⟩|⟨i0,c,cc,e2,eq⟩
      ·rw [← eq] at cb
       subst e2
       rw [if_pos rfl] at hin
       repeat' ((first|(apply y76 ok;rfl)|(apply z21;kernel_rfl)|(apply y36;first|omega|(unfold inI;omega)|(dsimp only;omega)|exact ⟨rfl,z19 rfl z26⟩)|(((apply z8;omega));intro _)|((apply z5)<;>intro _)|((first|(apply z18 [0] [] ca;rfl;rfl)|(apply z18 [0] [] cb;rfl;rfl));rfl))<;>conv=>whnf)
       all_goals try (exfalso;omega)
       all_goals refine z25 (k+1,z118 z n (k+1),I++[(k:Int)]) ⟨by show k+1≤n;omega,rfl,hin.symm⟩ (by show n - (k+1) < n - k;omega) (by refine swR [0,1,2,3,6] [] rfl rfl ?_;(repeat' first|exact y78 _|(refine z38 ?_;((simp;done)))|apply y79|((first|refine z33 rfl ?_ ?_|refine z43 rfl ?_ ?_);(focus ((repeat' (first|exact z4 (fun _=>rfl)|apply z22));done)))|(refine z76 ?_ ?_;(focus (omega)))|constructor)<;>(exact z30 hset2))
      ·rw [← eq] at cc
       by_cases hc0:c=0
       ·rw [e2,if_pos (y73 hc0)] at hin
        repeat' ((first|(apply y76 ok;rfl)|(apply z21;kernel_rfl)|(apply y36;first|omega|(unfold inI;omega)|(dsimp only;omega)|exact ⟨rfl,z19 rfl z26⟩)|(((apply z8;omega));intro _)|((apply z5)<;>intro _)|((first|(apply z18 [0] [] ca;rfl;rfl)|(apply z18 [0] [] cb;rfl;rfl)|(apply z18 [0] [] cc;rfl;rfl));rfl))<;>conv=>whnf)
        all_goals try (exfalso;omega)
        all_goals refine z25 (k+1,z118 z n (k+1),I++[(k:Int)]) ⟨by show k+1≤n;omega,rfl,hin.symm⟩ (by show n - (k+1) < n - k;omega) (by refine swR [0,1,2,3,6] [] rfl rfl ?_;(repeat' first|exact y78 _|(refine z38 ?_;((simp;done)))|apply y79|((first|refine z33 rfl ?_ ?_|refine z43 rfl ?_ ?_);(focus ((repeat' (first|exact z4 (fun _=>rfl)|apply z22));done)))|(refine z76 ?_ ?_;(focus (omega)))|constructor)<;>(exact z30 hset2))
       ·rw [e2,if_neg (by simpa using hc0),y57] at hin
        repeat' ((first|(apply y76 ok;rfl)|(apply z21;kernel_rfl)|(apply y36;first|omega|(unfold inI;omega))|(((apply z8;omega));intro _)|((apply z5)<;>intro _)|((first|(apply z18 [0] [] ca;rfl;rfl)|(apply z18 [0] [] cb;rfl;rfl)|(apply z18 [0] [] cc;rfl;rfl));rfl))<;>conv=>whnf)
        all_goals try (exfalso;omega)
        all_goals refine z25 (k+1,z118 z n (k+1),I) ⟨by show k+1≤n;omega,rfl,hin.symm⟩ (by show n - (k+1) < n - k;omega) (by refine swR [0,1,2,3,4] [] rfl rfl ?_;(repeat' first|exact y78 _|exact z9 _|apply y79|refine z43 rfl (z4 (fun _=>rfl)) ?_|refine z10 rfl (z4 (fun _=>rfl)) ?_|constructor)<;>(exact z30 hset2))
      ·rw [← eq] at cc
       by_cases hc0:c=0
       ·rw [e2,if_pos (y73 hc0)] at hin
        repeat' ((first|(apply y76 ok;rfl)|(apply z21;kernel_rfl)|(apply y36;first|omega|(unfold inI;omega)|((try dsimp only);simp only [y42,y41,y40,y39,y51,y52];omega)|exact ⟨rfl,z19 rfl z26⟩)|(((apply z8;omega));intro _)|((apply z5)<;>intro _)|((first|(apply z18 [0] [] ca;rfl;rfl)|(apply z18 [0] [] cc;rfl;rfl));rfl))<;>conv=>whnf)
        all_goals try (exfalso;omega)
        all_goals refine z25 (k+1,z118 z n (k+1),I++[(k:Int)]) ⟨by show k+1≤n;omega,rfl,hin.symm⟩ (by show n - (k+1) < n - k;omega) (by refine swR [0,1,2,3,6] [] rfl rfl ?_;(repeat' first|exact y78 _|(refine z38 ?_;((simp;done)))|apply y79|((first|refine z33 rfl ?_ ?_|refine z43 rfl ?_ ?_);(focus ((repeat' (first|exact z4 (fun _=>rfl)|apply z22));done)))|(refine z76 ?_ ?_;(focus (omega)))|constructor)<;>(exact z30 hset2))
       ·rw [e2,if_neg (by simpa using hc0),y57] at hin
        repeat' ((first|(apply y76 ok;rfl)|(apply z21;kernel_rfl)|(apply y36;first|omega|(unfold inI;omega))|(((apply z8;omega));intro _)|((apply z5)<;>intro _)|((first|(apply z18 [0] [] ca;rfl;rfl)|(apply z18 [0] [] cc;rfl;rfl));rfl))<;>conv=>whnf)
        all_goals try (exfalso;omega)
        all_goals refine z25 (k+1,z118 z n (k+1),I) ⟨by show k+1≤n;omega,rfl,hin.symm⟩ (by show n - (k+1) < n - k;omega) (by refine swR [0,1,2,3,4] [] rfl rfl ?_;(repeat' first|exact y78 _|exact z9 _|apply y79|refine z43 rfl (z4 (fun _=>rfl)) ?_|refine z10 rfl (z4 (fun _=>rfl)) ?_|constructor)<;>(exact z30 hset2))
     ·have e:n=k:=by omega
      subst e
      have hA2:z.map (·.1)=A:=by
       rw [hA];unfold z118
       rw [Nat.sub_self,y50 (by omega)];simp
      rw [hA2,← hI]
      clear hA hI hz0 Y5 hA2
      repeat' ((first|(apply y76 ok;rfl)|((apply z5)<;>intro _)|(apply z11 [0,5] [] Y6;rfl;rfl;rfl;(focus ((repeat' first|exact z17|apply z16)<;>first|exact z44 rfl rfl|(refine z23 ?_;((exact z4 fun _=>rfl)))))))<;>conv=>whnf)
      all_goals try (exfalso;omega)
      all_goals
       refine y77 (y81 4 rfl) ?_
       refine z65 (fun j:Nat=>([(0,.ptr 0 none 0),(2,.ptr 1 none 0),(5,.int n),(6,.ptr 2 none 0),(8,.int (m - j))],[rdO bs (pg j),.cells 3 [[.nils,.nils,.nils]],.cells 3 [[.sref 4 0 I.length,.sref 3 0 n,.sref 5 0 j]],.cells 1 (A.map enB),.cells 1 (I.map enI),.cells 4 ((E.take j).map Trans.cs)])) (fun j=>j≤m) (fun j=>m - j) 0 (by omega) (by refine swR [0,1,2,3,4,6] [] rfl rfl ?_;(repeat' first|exact y78 _|exact z48|exact z9 _|apply y79|((refine z10 rfl ?_ ?_);(focus ((repeat' (first|exact z34|exact z4 (fun _=>rfl)));done)))|constructor)) ?_
       intro j hj
       by_cases hjm:j < m
       ·have hjl:j < E.length:=by omega
        obtain ⟨a,w,hw,hc,e1,e2,eq,c1,c2,c3,c4⟩:=Y9 j hjl
        rw [← eq] at c4
        rw [← e1] at c2
        have hbits:z106 w E[j].care:=⟨by omega,by omega,by omega,by omega⟩
        repeat' ((first|(apply y76 ok;rfl)|(apply z21;kernel_rfl)|(refine y36 hbits ?_)|(apply y36;first|(unfold inI;omega)|((try dsimp only);simp only [y42,y41,y40,y39,y51,y52];omega)|exact ⟨rfl,z19 rfl z26⟩)|((apply z5)<;>intro _)|((first|(apply z11 [0,6] [] c1;rfl;rfl)|(apply z11 [0] [] c2;rfl;rfl)|(apply z11 [0] [] c3;rfl;rfl)|(apply z11 [0] [] c4;rfl;rfl));rfl;(focus ((repeat' first|exact z17|apply z16)<;>first|exact z44 rfl rfl|(refine z23 ?_;((exact z4 fun _=>rfl)))))))<;>conv=>whnf)
        all_goals try (exfalso;omega)
        all_goals refine z25 (j+1) (by omega) (by omega) (by refine swR [0,1,2,3,4,8] [] rfl rfl ?_;(repeat' first|exact y78 _|exact z9 _|(refine z105 ?_;omega)|apply y79|((first|refine z33 rfl ?_ ?_|refine z10 rfl ?_ ?_);(focus ((repeat' (first|exact z4 (fun _=>rfl)|apply z22));done)))|refine z119 (by omega) (by omega) ?_|constructor)<;>(fail))
       ·have e:m=j:=by omega
        subst e
        repeat' ((first|(apply y76 ok;rfl)|((apply z5)<;>intro _))<;>conv=>whnf)
        all_goals try (exfalso;omega)
        all_goals (refine rsD [0,4,3,5] [] rfl ?_;(repeat' first|exact y78 _|exact z9 _|(refine z105 ?_;omega)|(refine z38 ?_;(omega))|apply y79|refine z10 rfl (z4 (fun _=>rfl)) ?_|apply z41|constructor))
        all_goals exact z30 (by rw [y50 (by omega)])
   ·have h17:¬ A0.acc.length≤16:=fun h=>h16 ⟨h,rfl⟩
    refine z7 z15 Tryz.func64 rfl rfl 91 Tryz.ntmps64 (by simp) ?_
    repeat' ((first|(apply y76 ok;rfl)|(apply y36;(dsimp only;omega))|((apply z5)<;>intro _)|((first|(apply z11 [0] [] cv;rfl;rfl)|(apply z11 [0] [] ct;rfl;rfl)|(apply z11 [] [2,3,4] cT;rfl;rfl)|(apply z11 [0,6] [] Y1;rfl;rfl));rfl;(focus ((repeat' first|exact z17|apply z16)<;>first|exact z44 rfl rfl|(refine z23 ?_;((exact z4 fun _=>rfl)))))))<;>conv=>whnf)
    all_goals try (exfalso;omega)
    all_goals
     have hz0:(z118 z n 0).map enB=List.replicate n [.bool false]:=by simp [z118,enB]
     refine y77 (y81 1 rfl) ?_
     refine z65 (fun x:Nat×List Bool×List Int=>([(0,.ptr 0 none 0),(2,.ptr 1 none 0),(5,.int n),(6,.ptr 2 none 0),(7,.int x.1)],[rdO bs (pf x.1),.cells 3 [[.nils,.nils,.nils]],.cells 3 [[.sref 4 0 x.2.2.length,.sref 3 0 n,.nils]],.cells 1 (x.2.1.map enB),.cells 1 (x.2.2.map enI)])) (fun x=>x.1≤n∧x.2.1=z118 z n x.1∧x.2.2=iniF z x.1) (fun x=>n - x.1) (0,z118 z n 0,[]) ⟨by show 0≤n;omega,rfl,rfl⟩ (by refine swR [0,1,8,7,9] [] rfl rfl ?_;(repeat' first|exact y78 _|exact z48|apply y79|((refine z10 rfl ?_ ?_);(focus ((repeat' (first|exact z34|exact z42 rfl));done)))|constructor)<;>((exact z30 hz0.symm))) ?_
     rintro ⟨k,A,I⟩ ⟨hk,hA,hI⟩
     dsimp only at hk hA hI ⊢
     have hAl:A.length=n:=by rw [hA];exact z242 (by omega) hk
     have hIl:=z316 z k
     rw [← hI] at hIl
     by_cases hkn:k < n
     ·have hkz:k < z.length:=by omega
      obtain ⟨a,ca,e1,H⟩:=Y5 k hkz
      have hset:=z538 hkz hkn e1
      rw [← hA] at hset
      have hset2:(A.map enB).set k (enB (decide (a=0)))=(z118 z n (k+1)).map enB:=by rw [← hset,List.map_set]
      have hin:iniF z (k+1)=I++(if (z.getD k (false,false)).2=true then [(k:Int)] else []):=by rw [iniF,hI]
      rw [z14 hkz] at hin
      have hA2l:(z118 z n (k+1)).length=n:=z242 (by omega) (by omega)
      generalize z[k]=zk at *
      obtain ⟨z1,z2⟩:=zk
      dsimp only at e1 H hin
      rcases H with ⟨i0,b,cb,(⟨b0,e2,eq⟩|⟨b0,c,cc,e2,eq⟩)⟩|⟨i0,c,cc,e2,eq⟩
      ·rw [← eq] at cb
       subst e2
       rw [if_pos rfl] at hin
       repeat' ((first|(apply y76 ok;rfl)|(apply z21;kernel_rfl)|(apply y36;first|omega|(unfold inI;omega)|(dsimp only;omega)|exact ⟨rfl,z19 rfl z26⟩)|(((apply z8;omega));intro _)|((apply z5)<;>intro _)|((first|(apply z18 [0] [] ca;rfl;rfl)|(apply z18 [0] [] cb;rfl;rfl));rfl))<;>conv=>whnf)
       all_goals try (exfalso;omega)
       all_goals refine z25 (k+1,z118 z n (k+1),I++[(k:Int)]) ⟨by show k+1≤n;omega,rfl,hin.symm⟩ (by show n - (k+1) < n - k;omega) (by refine swR [0,1,2,3,6] [] rfl rfl ?_;(repeat' first|exact y78 _|(refine z38 ?_;((simp;done)))|apply y79|((first|refine z33 rfl ?_ ?_|refine z43 rfl ?_ ?_);(focus ((repeat' (first|exact z4 (fun _=>rfl)|apply z22));done)))|(refine z76 ?_ ?_;(focus (omega)))|constructor)<;>(exact z30 hset2))
      ·rw [← eq] at cc
       by_cases hc0:c=0
       ·rw [e2,if_pos (y73 hc0)] at hin
        repeat' ((first|(apply y76 ok;rfl)|(apply z21;kernel_rfl)|(apply y36;first|omega|(unfold inI;omega)|(dsimp only;omega)|exact ⟨rfl,z19 rfl z26⟩)|(((apply z8;omega));intro _)|((apply z5)<;>intro _)|((first|(apply z18 [0] [] ca;rfl;rfl)|(apply z18 [0] [] cb;rfl;rfl)|(apply z18 [0] [] cc;rfl;rfl));rfl))<;>conv=>whnf)
        all_goals try (exfalso;omega)
        all_goals refine z25 (k+1,z118 z n (k+1),I++[(k:Int)]) ⟨by show k+1≤n;omega,rfl,hin.symm⟩ (by show n - (k+1) < n - k;omega) (by refine swR [0,1,2,3,6] [] rfl rfl ?_;(repeat' first|exact y78 _|(refine z38 ?_;((simp;done)))|apply y79|((first|refine z33 rfl ?_ ?_|refine z43 rfl ?_ ?_);(focus ((repeat' (first|exact z4 (fun _=>rfl)|apply z22));done)))|(refine z76 ?_ ?_;(focus (omega)))|constructor)<;>(exact z30 hset2))
       ·rw [e2,if_neg (by simpa using hc0),y57] at hin
        repeat' ((first|(apply y76 ok;rfl)|(apply z21;kernel_rfl)|(apply y36;first|omega|(unfold inI;omega))|(((apply z8;omega));intro _)|((apply z5)<;>intro _)|((first|(apply z18 [0] [] ca;rfl;rfl)|(apply z18 [0] [] cb;rfl;rfl)|(apply z18 [0] [] cc;rfl;rfl));rfl))<;>conv=>whnf)
        all_goals try (exfalso;omega)
        all_goals refine z25 (k+1,z118 z n (k+1),I) ⟨by show k+1≤n;omega,rfl,hin.symm⟩ (by show n - (k+1) < n - k;omega) (by refine swR [0,1,2,3,4] [] rfl rfl ?_;(repeat' first|exact y78 _|exact z9 _|apply y79|refine z43 rfl (z4 (fun _=>rfl)) ?_|refine z10 rfl (z4 (fun _=>rfl)) ?_|constructor)<;>(exact z30 hset2))
      ·rw [← eq] at cc
       by_cases hc0:c=0
       ·rw [e2,if_pos (y73 hc0)] at hin
        repeat' ((first|(apply y76 ok;rfl)|(apply z21;kernel_rfl)|(apply y36;first|omega|(unfold inI;omega)|((try dsimp only);simp only [y42,y41,y40,y39,y51,y52];omega)|exact ⟨rfl,z19 rfl z26⟩)|(((apply z8;omega));intro _)|((apply z5)<;>intro _)|((first|(apply z18 [0] [] ca;rfl;rfl)|(apply z18 [0] [] cc;rfl;rfl));rfl))<;>conv=>whnf)
        all_goals try (exfalso;omega)
        all_goals refine z25 (k+1,z118 z n (k+1),I++[(k:Int)]) ⟨by show k+1≤n;omega,rfl,hin.symm⟩ (by show n - (k+1) < n - k;omega) (by refine swR [0,1,2,3,6] [] rfl rfl ?_;(repeat' first|exact y78 _|(refine z38 ?_;((simp;done)))|apply y79|((first|refine z33 rfl ?_ ?_|refine z43 rfl ?_ ?_);(focus ((repeat' (first|exact z4 (fun _=>rfl)|apply z22));done)))|(refine z76 ?_ ?_;(focus (omega)))|constructor)<;>(exact z30 hset2))
       ·rw [e2,if_neg (by simpa using hc0),y57] at hin
        repeat' ((first|(apply y76 ok;rfl)|(apply z21;kernel_rfl)|(apply y36;first|omega|(unfold inI;omega))|(((apply z8;omega));intro _)|((apply z5)<;>intro _)|((first|(apply z18 [0] [] ca;rfl;rfl)|(apply z18 [0] [] cc;rfl;rfl));rfl))<;>conv=>whnf)
        all_goals try (exfalso;omega)
        all_goals refine z25 (k+1,z118 z n (k+1),I) ⟨by show k+1≤n;omega,rfl,hin.symm⟩ (by show n - (k+1) < n - k;omega) (by refine swR [0,1,2,3,4] [] rfl rfl ?_;(repeat' first|exact y78 _|exact z9 _|apply y79|refine z43 rfl (z4 (fun _=>rfl)) ?_|refine z10 rfl (z4 (fun _=>rfl)) ?_|constructor)<;>(exact z30 hset2))
     ·have e:n=k:=by omega
      subst e
      have hA2:z.map (·.1)=A:=by
       rw [hA];unfold z118
       rw [Nat.sub_self,y50 (by omega)];simp
      rw [hA2,← hI]
      clear hA hI hz0 Y5 hA2
      repeat' ((first|(apply y76 ok;rfl)|((apply z5)<;>intro _)|(apply z11 [0,5] [] Y6;rfl;rfl;rfl;(focus ((repeat' first|exact z17|apply z16)<;>first|exact z44 rfl rfl|(refine z23 ?_;((exact z4 fun _=>rfl)))))))<;>conv=>whnf)
      all_goals try (exfalso;omega)
      all_goals
       refine y77 (y81 4 rfl) ?_
       refine z65 (fun j:Nat=>([(0,.ptr 0 none 0),(2,.ptr 1 none 0),(5,.int n),(6,.ptr 2 none 0),(8,.int (m - j))],[rdO bs (pg j),.cells 3 [[.nils,.nils,.nils]],.cells 3 [[.sref 4 0 I.length,.sref 3 0 n,.sref 5 0 j]],.cells 1 (A.map enB),.cells 1 (I.map enI),.cells 4 ((E.take j).map Trans.cs)])) (fun j=>j≤m) (fun j=>m - j) 0 (by omega) (by refine swR [0,1,2,3,4,6] [] rfl rfl ?_;(repeat' first|exact y78 _|exact z48|exact z9 _|apply y79|((refine z10 rfl ?_ ?_);(focus ((repeat' (first|exact z34|exact z4 (fun _=>rfl)));done)))|constructor)) ?_
       intro j hj
       by_cases hjm:j < m
       ·have hjl:j < E.length:=by omega
        obtain ⟨a,w,hw,hc,e1,e2,eq,c1,c2,c3,c4⟩:=Y9 j hjl
        rw [← eq] at c4
        rw [← e1] at c2
        have hbits:z106 w E[j].care:=⟨by omega,by omega,by omega,by omega⟩
        repeat' ((first|(apply y76 ok;rfl)|(apply z21;kernel_rfl)|(refine y36 hbits ?_)|(apply y36;first|(unfold inI;omega)|((try dsimp only);simp only [y42,y41,y40,y39,y51,y52];omega)|exact ⟨rfl,z19 rfl z26⟩)|((apply z5)<;>intro _)|((first|(apply z11 [0,6] [] c1;rfl;rfl)|(apply z11 [0] [] c2;rfl;rfl)|(apply z11 [0] [] c3;rfl;rfl)|(apply z11 [0] [] c4;rfl;rfl));rfl;(focus ((repeat' first|exact z17|apply z16)<;>first|exact z44 rfl rfl|(refine z23 ?_;((exact z4 fun _=>rfl)))))))<;>conv=>whnf)
        all_goals try (exfalso;omega)
        all_goals refine z25 (j+1) (by omega) (by omega) (by refine swR [0,1,2,3,4,8] [] rfl rfl ?_;(repeat' first|exact y78 _|exact z9 _|(refine z105 ?_;omega)|apply y79|((first|refine z33 rfl ?_ ?_|refine z10 rfl ?_ ?_);(focus ((repeat' (first|exact z4 (fun _=>rfl)|apply z22));done)))|refine z119 (by omega) (by omega) ?_|constructor)<;>(fail))
       ·have e:m=j:=by omega
        subst e
        repeat' ((first|(apply y76 ok;rfl)|((apply z5)<;>intro _))<;>conv=>whnf)
        all_goals try (exfalso;omega)
        all_goals (refine rsD [0,4,3,5] [] rfl ?_;(repeat' first|exact y78 _|exact z9 _|(refine z105 ?_;omega)|(refine z38 ?_;(omega))|apply y79|refine z10 rfl (z4 (fun _=>rfl)) ?_|apply z41|constructor))
        all_goals exact z30 (by rw [y50 (by omega)])
 ·obtain ⟨q',n,m,z,E,pf,pg,F⟩:=z1154 bs hb (p+1) ⟨by omega,by omega⟩
  obtain ⟨Y1,Y2,Y3,Y4,Y5,Y6,Y7,Y8,Y9,Y10,Y11,Y12⟩:=F
  have hil:=z316 z n
  have hEv:∀ t∈E,t.mx:=fun t ht=>by
   obtain ⟨i,hi,rfl⟩:=List.mem_iff_getElem.1 ht
   obtain ⟨a,w,hw,hc,e1,e2,_⟩:=Y9 i hi
   show inI _
   rw [e2]
   have:=@Nat.and_le_left w.toNat E[i].care.toNat
   unfold inI;omega
  refine ⟨⟨iniF z n,z.map (·.1),E⟩,q',⟨by show (iniF z n).length≤32;omega,by show (z.map (·.1)).length≤16;simp;omega,by show E.length≤2080;omega,by omega,by omega,hEv⟩,?_⟩
  refine z7 z15 Tryz.func64 rfl rfl 91 Tryz.ntmps64 (by simp) ?_
  repeat' ((first|(apply y76 ok;rfl)|(apply y36;(dsimp only;omega))|((apply z5)<;>intro _)|((first|(apply z11 [0] [] cv;rfl;rfl)|(apply z11 [0,2] [] Y1;rfl;rfl));rfl;(focus ((repeat' first|exact z17|apply z16)<;>first|exact z44 rfl rfl|(refine z23 ?_;((exact z4 fun _=>rfl)))))))<;>conv=>whnf)
  all_goals try (exfalso;omega)
  all_goals
   have hz0:(z118 z n 0).map enB=List.replicate n [.bool false]:=by simp [z118,enB]
   refine y77 (y81 1 rfl) ?_
   refine z65 (fun x:Nat×List Bool×List Int=>([(0,.ptr 0 none 0),(2,.ptr 1 none 0),(5,.int n),(6,.ptr 2 none 0),(7,.int x.1)],[rdO bs (pf x.1),.cells 3 [[.nils,.nils,.nils]],.cells 3 [[.sref 4 0 x.2.2.length,.sref 3 0 n,.nils]],.cells 1 (x.2.1.map enB),.cells 1 (x.2.2.map enI)])) (fun x=>x.1≤n∧x.2.1=z118 z n x.1∧x.2.2=iniF z x.1) (fun x=>n - x.1) (0,z118 z n 0,[]) ⟨by show 0≤n;omega,rfl,rfl⟩ (by refine swR [0,1,4,3,5] [] rfl rfl ?_;(repeat' first|exact y78 _|exact z48|apply y79|((refine z10 rfl ?_ ?_);(focus ((repeat' (first|exact z34|exact z42 rfl));done)))|constructor)<;>((exact z30 hz0.symm))) ?_
   rintro ⟨k,A,I⟩ ⟨hk,hA,hI⟩
   dsimp only at hk hA hI ⊢
   have hAl:A.length=n:=by rw [hA];exact z242 (by omega) hk
   have hIl:=z316 z k
   rw [← hI] at hIl
   by_cases hkn:k < n
   ·have hkz:k < z.length:=by omega
    obtain ⟨a,ca,e1,H⟩:=Y5 k hkz
    have hset:=z538 hkz hkn e1
    rw [← hA] at hset
    have hset2:(A.map enB).set k (enB (decide (a=0)))=(z118 z n (k+1)).map enB:=by rw [← hset,List.map_set]
    have hin:iniF z (k+1)=I++(if (z.getD k (false,false)).2=true then [(k:Int)] else []):=by rw [iniF,hI]
    rw [z14 hkz] at hin
    have hA2l:(z118 z n (k+1)).length=n:=z242 (by omega) (by omega)
    generalize z[k]=zk at *
    obtain ⟨z1,z2⟩:=zk
    dsimp only at e1 H hin
    rcases H with ⟨i0,b,cb,(⟨b0,e2,eq⟩|⟨b0,c,cc,e2,eq⟩)⟩|⟨i0,c,cc,e2,eq⟩
    ·rw [← eq] at cb
     subst e2
     rw [if_pos rfl] at hin
     repeat' ((first|(apply y76 ok;rfl)|(apply z21;kernel_rfl)|(apply y36;first|omega|(unfold inI;omega)|(dsimp only;omega)|exact ⟨rfl,z19 rfl z26⟩)|(((apply z8;omega));intro _)|((apply z5)<;>intro _)|((first|(apply z18 [0] [] ca;rfl;rfl)|(apply z18 [0] [] cb;rfl;rfl));rfl))<;>conv=>whnf)
     all_goals try (exfalso;omega)
     all_goals refine z25 (k+1,z118 z n (k+1),I++[(k:Int)]) ⟨by show k+1≤n;omega,rfl,hin.symm⟩ (by show n - (k+1) < n - k;omega) (by refine swR [0,1,2,3,6] [] rfl rfl ?_;(repeat' first|exact y78 _|(refine z38 ?_;((simp;done)))|apply y79|((first|refine z33 rfl ?_ ?_|refine z43 rfl ?_ ?_);(focus ((repeat' (first|exact z4 (fun _=>rfl)|apply z22));done)))|(refine z76 ?_ ?_;(focus (omega)))|constructor)<;>(exact z30 hset2))
    ·rw [← eq] at cc
     by_cases hc0:c=0
     ·rw [e2,if_pos (y73 hc0)] at hin
      repeat' ((first|(apply y76 ok;rfl)|(apply z21;kernel_rfl)|(apply y36;first|omega|(unfold inI;omega)|(dsimp only;omega)|exact ⟨rfl,z19 rfl z26⟩)|(((apply z8;omega));intro _)|((apply z5)<;>intro _)|((first|(apply z18 [0] [] ca;rfl;rfl)|(apply z18 [0] [] cb;rfl;rfl)|(apply z18 [0] [] cc;rfl;rfl));rfl))<;>conv=>whnf)
      all_goals try (exfalso;omega)
      all_goals refine z25 (k+1,z118 z n (k+1),I++[(k:Int)]) ⟨by show k+1≤n;omega,rfl,hin.symm⟩ (by show n - (k+1) < n - k;omega) (by refine swR [0,1,2,3,6] [] rfl rfl ?_;(repeat' first|exact y78 _|(refine z38 ?_;((simp;done)))|apply y79|((first|refine z33 rfl ?_ ?_|refine z43 rfl ?_ ?_);(focus ((repeat' (first|exact z4 (fun _=>rfl)|apply z22));done)))|(refine z76 ?_ ?_;(focus (omega)))|constructor)<;>(exact z30 hset2))
     ·rw [e2,if_neg (by simpa using hc0),y57] at hin
      repeat' ((first|(apply y76 ok;rfl)|(apply z21;kernel_rfl)|(apply y36;first|omega|(unfold inI;omega))|(((apply z8;omega));intro _)|((apply z5)<;>intro _)|((first|(apply z18 [0] [] ca;rfl;rfl)|(apply z18 [0] [] cb;rfl;rfl)|(apply z18 [0] [] cc;rfl;rfl));rfl))<;>conv=>whnf)
      all_goals try (exfalso;omega)
      all_goals refine z25 (k+1,z118 z n (k+1),I) ⟨by show k+1≤n;omega,rfl,hin.symm⟩ (by show n - (k+1) < n - k;omega) (by refine swR [0,1,2,3,4] [] rfl rfl ?_;(repeat' first|exact y78 _|exact z9 _|apply y79|refine z43 rfl (z4 (fun _=>rfl)) ?_|refine z10 rfl (z4 (fun _=>rfl)) ?_|constructor)<;>(exact z30 hset2))
    ·rw [← eq] at cc
     by_cases hc0:c=0
     ·rw [e2,if_pos (y73 hc0)] at hin
      repeat' ((first|(apply y76 ok;rfl)|(apply z21;kernel_rfl)|(apply y36;first|omega|(unfold inI;omega)|((try dsimp only);simp only [y42,y41,y40,y39,y51,y52];omega)|exact ⟨rfl,z19 rfl z26⟩)|(((apply z8;omega));intro _)|((apply z5)<;>intro _)|((first|(apply z18 [0] [] ca;rfl;rfl)|(apply z18 [0] [] cc;rfl;rfl));rfl))<;>conv=>whnf)
      all_goals try (exfalso;omega)
      all_goals refine z25 (k+1,z118 z n (k+1),I++[(k:Int)]) ⟨by show k+1≤n;omega,rfl,hin.symm⟩ (by show n - (k+1) < n - k;omega) (by refine swR [0,1,2,3,6] [] rfl rfl ?_;(repeat' first|exact y78 _|(refine z38 ?_;((simp;done)))|apply y79|((first|refine z33 rfl ?_ ?_|refine z43 rfl ?_ ?_);(focus ((repeat' (first|exact z4 (fun _=>rfl)|apply z22));done)))|(refine z76 ?_ ?_;(focus (omega)))|constructor)<;>(exact z30 hset2))
     ·rw [e2,if_neg (by simpa using hc0),y57] at hin
      repeat' ((first|(apply y76 ok;rfl)|(apply z21;kernel_rfl)|(apply y36;first|omega|(unfold inI;omega))|(((apply z8;omega));intro _)|((apply z5)<;>intro _)|((first|(apply z18 [0] [] ca;rfl;rfl)|(apply z18 [0] [] cc;rfl;rfl));rfl))<;>conv=>whnf)
      all_goals try (exfalso;omega)
      all_goals refine z25 (k+1,z118 z n (k+1),I) ⟨by show k+1≤n;omega,rfl,hin.symm⟩ (by show n - (k+1) < n - k;omega) (by refine swR [0,1,2,3,4] [] rfl rfl ?_;(repeat' first|exact y78 _|exact z9 _|apply y79|refine z43 rfl (z4 (fun _=>rfl)) ?_|refine z10 rfl (z4 (fun _=>rfl)) ?_|constructor)<;>(exact z30 hset2))
   ·have e:n=k:=by omega
    subst e
    have hA2:z.map (·.1)=A:=by
     rw [hA];unfold z118
     rw [Nat.sub_self,y50 (by omega)];simp
    rw [hA2,← hI]
    clear hA hI hz0 Y5 hA2
    repeat' ((first|(apply y76 ok;rfl)|((apply z5)<;>intro _)|(apply z11 [0,5] [] Y6;rfl;rfl;rfl;(focus ((repeat' first|exact z17|apply z16)<;>first|exact z44 rfl rfl|(refine z23 ?_;((exact z4 fun _=>rfl)))))))<;>conv=>whnf)
    all_goals try (exfalso;omega)
    all_goals
     refine y77 (y81 4 rfl) ?_
     refine z65 (fun j:Nat=>([(0,.ptr 0 none 0),(2,.ptr 1 none 0),(5,.int n),(6,.ptr 2 none 0),(8,.int (m - j))],[rdO bs (pg j),.cells 3 [[.nils,.nils,.nils]],.cells 3 [[.sref 4 0 I.length,.sref 3 0 n,.sref 5 0 j]],.cells 1 (A.map enB),.cells 1 (I.map enI),.cells 4 ((E.take j).map Trans.cs)])) (fun j=>j≤m) (fun j=>m - j) 0 (by omega) (by refine swR [0,1,2,3,4,6] [] rfl rfl ?_;(repeat' first|exact y78 _|exact z48|exact z9 _|apply y79|((refine z10 rfl ?_ ?_);(focus ((repeat' (first|exact z34|exact z4 (fun _=>rfl)));done)))|constructor)) ?_
     intro j hj
     by_cases hjm:j < m
     ·have hjl:j < E.length:=by omega
      obtain ⟨a,w,hw,hc,e1,e2,eq,c1,c2,c3,c4⟩:=Y9 j hjl
      rw [← eq] at c4
      rw [← e1] at c2
      have hbits:z106 w E[j].care:=⟨by omega,by omega,by omega,by omega⟩
      repeat' ((first|(apply y76 ok;rfl)|(apply z21;kernel_rfl)|(refine y36 hbits ?_)|(apply y36;first|(unfold inI;omega)|((try dsimp only);simp only [y42,y41,y40,y39,y51,y52];omega)|exact ⟨rfl,z19 rfl z26⟩)|((apply z5)<;>intro _)|((first|(apply z11 [0,6] [] c1;rfl;rfl)|(apply z11 [0] [] c2;rfl;rfl)|(apply z11 [0] [] c3;rfl;rfl)|(apply z11 [0] [] c4;rfl;rfl));rfl;(focus ((repeat' first|exact z17|apply z16)<;>first|exact z44 rfl rfl|(refine z23 ?_;((exact z4 fun _=>rfl)))))))<;>conv=>whnf)
      all_goals try (exfalso;omega)
      all_goals refine z25 (j+1) (by omega) (by omega) (by refine swR [0,1,2,3,4,8] [] rfl rfl ?_;(repeat' first|exact y78 _|exact z9 _|(refine z105 ?_;omega)|apply y79|((first|refine z33 rfl ?_ ?_|refine z10 rfl ?_ ?_);(focus ((repeat' (first|exact z4 (fun _=>rfl)|apply z22));done)))|refine z119 (by omega) (by omega) ?_|constructor)<;>(fail))
     ·have e:m=j:=by omega
      subst e
      repeat' ((first|(apply y76 ok;rfl)|((apply z5)<;>intro _))<;>conv=>whnf)
      all_goals try (exfalso;omega)
      all_goals (refine rsD [0,4,3,5] [] rfl ?_;(repeat' first|exact y78 _|exact z9 _|(refine z105 ?_;omega)|(refine z38 ?_;(omega))|apply y79|refine z10 rfl (z4 (fun _=>rfl)) ?_|apply z41|constructor))
      all_goals exact z30 (by rw [y50 (by omega)])
def Aut.sm (a:Aut):Prop:=a.ini.length≤40∧a.acc.length≤20∧a.ed.length≤2100∧∀ t∈a.ed,t.mx
set_option maxHeartbeats 6400000 in
theorem z347 (bs : List Int) (hb : BytesOk bs) (p : Int) (hp : few p) (a : Aut) (ha : a.ini.length ≤ 32 ∧ a.acc.length ≤ 16 ∧ a.ed.length ≤ 2080 ∧ ∀ t ∈ a.ed, t.mx) : ∃ (a' : Aut) (p' : Int), (a'.sm ∧ p ≤ p' ∧ p' ≤ p + 2) ∧
  CallsA Tryz.prog 63 [.ptr 0 none 0,.agg a.cs] [rdO bs p] (.agg [.sref 1 0 a'.ini.length,.sref 2 0 a'.acc.length,.sref 3 0 a'.ed.length]) [rdO bs p',.cells 1 (a'.ini.map enI),.cells 1 (a'.acc.map enB),.cells 4 (a'.ed.map Trans.cs)]:=by
 obtain ⟨h1,h2,h3,h4⟩:=ha
 obtain ⟨v,⟨v0,v1⟩,cv⟩:=z57 bs hb p 40 (by omega) (by omega) (by omega)
 by_cases e0:v=0
 ·subst e0
  obtain ⟨x,mx,cx⟩:=z98 bs hb (p+1) (by omega) (by omega) [0,-1,64,3] (by decide) (by decide)
  refine ⟨⟨a.ini++[x],a.acc,a.ed⟩,p+1+1,⟨⟨by simp;omega,by show a.acc.length≤20;omega,by show a.ed.length≤2100;omega,h4⟩,by omega,by omega⟩,?_⟩
  refine z7 z15 Tryz.func63 rfl rfl 78 Tryz.ntmps63 (by simp) ?_
  repeat' ((first|(apply y76 ok;rfl)|(apply z21;kernel_rfl)|(apply y36;first|(dsimp only;omega)|((try dsimp only);simp only [y42,y41,y40,y39,y51,y52];omega)|exact z54 (fun _=>rfl)|exact ⟨rfl,z19 rfl z26⟩)|((first|(apply z11 [0] [] cv;rfl;rfl)|(apply z11 [0,10] [] cx;rfl;rfl));rfl;(focus ((repeat' first|exact z17|apply z16)<;>first|exact z44 rfl rfl|(refine z23 ?_;((exact z4 fun _=>rfl)))))))<;>conv=>whnf)
  all_goals (refine rsD [0,12,6,8] [] rfl ?_;(repeat' first|exact y78 _|exact z9 _|(refine z38 ?_;((simp;done)))|apply y79|((first|refine z33 rfl ?_ ?_|refine z10 rfl ?_ ?_);(focus ((repeat' (first|exact z4 (fun _=>rfl)|apply z22));done)))|(refine z76 ?_ ?_;(focus (omega)))|apply z41|constructor))
 by_cases e3:v=3
 ·subst e3
  refine ⟨⟨[],[],[]⟩,p+1,⟨⟨y46 _,y46 _,y46 _,fun t ht=>by cases ht⟩,by omega,by omega⟩,?_⟩
  refine z7 z15 Tryz.func63 rfl rfl 78 Tryz.ntmps63 (by simp) ?_
  repeat' ((first|(apply y76 ok;rfl)|(apply z21;kernel_rfl)|(apply y36;first|(dsimp only;omega)|exact z54 (fun _=>rfl))|(apply z18 [0] [] cv;rfl;rfl;rfl))<;>conv=>whnf)
  all_goals (refine y82 1 ?_;refine y82 1 ?_;refine y82 4 ?_;refine rsD [0,10,11,12] [] rfl ?_;(repeat' first|exact y78 _|exact z48|apply y79|refine z10 rfl (z34) ?_|apply z41|constructor))
 by_cases e1:v=1
 ·subst e1
  by_cases he:0 < a.ed.length
  ·obtain ⟨x,mx,cx⟩:=z98 bs hb (p+1) (by omega) (by omega) [8,-1,7] (by decide) (by decide)
   have hi:0 < a.ed.length:=by omega
   have g0:(a.ed.map Trans.cs)[0]?=some (Trans.cs a.ed[0]):=by rw [y44,y38 hi];rfl
   refine ⟨⟨a.ini,a.acc,a.ed.set 0 ⟨a.ed[0].src,a.ed[0].care,x,a.ed[0].dst⟩⟩,p+1+1,⟨⟨by show a.ini.length≤40;omega,by show a.acc.length≤20;omega,by simp;omega,fun t ht=>by
    rcases List.mem_or_eq_of_mem_set ht with h|rfl
    ·exact h4 t h
    ·have:=h4 _ (y37 hi)
     unfold Trans.mx inI at *
     simp only [List.mem_cons,List.not_mem_nil,or_false] at mx
     dsimp only
     omega⟩,by omega,by omega⟩,?_⟩
   generalize a.ed[0]=e at *
   refine z7 z15 Tryz.func63 rfl rfl 78 Tryz.ntmps63 (by simp) ?_
   repeat' ((first|(apply y76 ok;rfl)|(apply z21;kernel_rfl)|(refine z12 (i:=0) (by simp;try omega) g0 ?_)|(apply y36;first|omega|(dsimp only;omega)|exact z54 (fun _=>rfl))|((apply z5)<;>intro _)|((first|(apply z11 [0] [] cv;rfl;rfl)|(apply z11 [0,10] [] cx;rfl;rfl));rfl;(focus ((repeat' first|exact z17|apply z16)<;>first|exact z44 rfl rfl|(refine z23 ?_;((exact z4 fun _=>rfl)))))))<;>conv=>whnf)
   all_goals try (exfalso;omega)
   all_goals (refine rsD [0,4,6,8] [] rfl ?_;(repeat' first|exact y78 _|exact z9 _|(refine z38 ?_;((simp;done)))|apply y79|refine z43 rfl (z4 (fun _=>rfl)) ?_|refine z10 rfl (z4 (fun _=>rfl)) ?_|refine z163 (by omega) ?_|apply z41|constructor))
   all_goals trace_state
  ·refine ⟨a,p+1,⟨⟨by omega,by omega,by omega,h4⟩,by omega,by omega⟩,?_⟩
   refine z7 z15 Tryz.func63 rfl rfl 78 Tryz.ntmps63 (by simp) ?_
   repeat' ((first|(apply y76 ok;rfl)|(apply z21;kernel_rfl)|(apply y36;first|(dsimp only;omega)|exact z54 (fun _=>rfl))|((apply z5)<;>intro _)|(apply z18 [0] [] cv;rfl;rfl;rfl))<;>conv=>whnf)
   all_goals try (exfalso;omega)
   all_goals (refine rsD [0,4,6,8] [] rfl ?_;(repeat' first|exact y78 _|exact z9 _|(refine z38 ?_;(omega))|apply y79|refine z10 rfl (z4 (fun _=>rfl)) ?_|apply z41|constructor))
 by_cases e2:v=2
 ·subst e2
  by_cases he:0 < a.ed.length
  ·obtain ⟨x,mx,cx⟩:=z98 bs hb (p+1) (by omega) (by omega) [-1,0,64,9223372036854775807] (by decide) (by decide)
   have hi:0 < a.ed.length:=by omega
   have g0:(a.ed.map Trans.cs)[0]?=some (Trans.cs a.ed[0]):=by rw [y44,y38 hi];rfl
   refine ⟨⟨a.ini,a.acc,a.ed.set 0 ⟨a.ed[0].src,a.ed[0].care,a.ed[0].val,x⟩⟩,p+1+1,⟨⟨by show a.ini.length≤40;omega,by show a.acc.length≤20;omega,by simp;omega,fun t ht=>by
    rcases List.mem_or_eq_of_mem_set ht with h|rfl
    ·exact h4 t h
    ·have:=h4 _ (y37 hi)
     unfold Trans.mx inI at *
     simp only [List.mem_cons,List.not_mem_nil,or_false] at mx
     dsimp only
     omega⟩,by omega,by omega⟩,?_⟩
   generalize a.ed[0]=e at *
   refine z7 z15 Tryz.func63 rfl rfl 78 Tryz.ntmps63 (by simp) ?_
   repeat' ((first|(apply y76 ok;rfl)|(apply z21;kernel_rfl)|(refine z12 (i:=0) (by simp;try omega) g0 ?_)|(apply y36;first|omega|(dsimp only;omega)|exact z54 (fun _=>rfl))|((apply z5)<;>intro _)|((first|(apply z11 [0] [] cv;rfl;rfl)|(apply z11 [0,10] [] cx;rfl;rfl));rfl;(focus ((repeat' first|exact z17|apply z16)<;>first|exact z44 rfl rfl|(refine z23 ?_;((exact z4 fun _=>rfl)))))))<;>conv=>whnf)
   all_goals try (exfalso;omega)
   all_goals (refine rsD [0,4,6,8] [] rfl ?_;(repeat' first|exact y78 _|exact z9 _|(refine z38 ?_;((simp;done)))|apply y79|refine z43 rfl (z4 (fun _=>rfl)) ?_|refine z10 rfl (z4 (fun _=>rfl)) ?_|refine z163 (by omega) ?_|apply z41|constructor))
   all_goals trace_state
  ·refine ⟨a,p+1,⟨⟨by omega,by omega,by omega,h4⟩,by omega,by omega⟩,?_⟩
   refine z7 z15 Tryz.func63 rfl rfl 78 Tryz.ntmps63 (by simp) ?_
   repeat' ((first|(apply y76 ok;rfl)|(apply z21;kernel_rfl)|(apply y36;first|(dsimp only;omega)|exact z54 (fun _=>rfl))|((apply z5)<;>intro _)|(apply z18 [0] [] cv;rfl;rfl;rfl))<;>conv=>whnf)
   all_goals try (exfalso;omega)
   all_goals (refine rsD [0,4,6,8] [] rfl ?_;(repeat' first|exact y78 _|exact z9 _|(refine z38 ?_;(omega))|apply y79|refine z10 rfl (z4 (fun _=>rfl)) ?_|apply z41|constructor))
 by_cases e4:v=4
 ·subst e4
  by_cases he:0 < a.ed.length
  ·obtain ⟨x,mx,cx⟩:=z98 bs hb (p+1) (by omega) (by omega) [8,-1,0] (by decide) (by decide)
   have hi:(a.ed.length - 1) < a.ed.length:=by omega
   have g0:(a.ed.map Trans.cs)[(a.ed.length - 1)]?=some (Trans.cs a.ed[(a.ed.length - 1)]):=by rw [y44,y38 hi];rfl
   refine ⟨⟨a.ini,a.acc,a.ed.set (a.ed.length - 1) ⟨a.ed[(a.ed.length - 1)].src,x,a.ed[(a.ed.length - 1)].val,a.ed[(a.ed.length - 1)].dst⟩⟩,p+1+1,⟨⟨by show a.ini.length≤40;omega,by show a.acc.length≤20;omega,by simp;omega,fun t ht=>by
    rcases List.mem_or_eq_of_mem_set ht with h|rfl
    ·exact h4 t h
    ·have:=h4 _ (y37 hi)
     unfold Trans.mx inI at *
     simp only [List.mem_cons,List.not_mem_nil,or_false] at mx
     dsimp only
     omega⟩,by omega,by omega⟩,?_⟩
   generalize a.ed[(a.ed.length - 1)]=e at *
   refine z7 z15 Tryz.func63 rfl rfl 78 Tryz.ntmps63 (by simp) ?_
   repeat' ((first|(apply y76 ok;rfl)|(apply z21;kernel_rfl)|(refine z12 (i:=(a.ed.length - 1)) (by simp;try omega) g0 ?_)|(apply y36;first|omega|(unfold inI;omega)|(dsimp only;omega)|exact z54 (fun _=>rfl))|((apply z5)<;>intro _)|((first|(apply z11 [0] [] cv;rfl;rfl)|(apply z11 [0,10] [] cx;rfl;rfl));rfl;(focus ((repeat' first|exact z17|apply z16)<;>first|exact z44 rfl rfl|(refine z23 ?_;((exact z4 fun _=>rfl)))))))<;>conv=>whnf)
   all_goals try (exfalso;omega)
   all_goals (refine rsD [0,4,6,8] [] rfl ?_;(repeat' first|exact y78 _|exact z9 _|(refine z38 ?_;((simp;done)))|apply y79|refine z43 rfl (z4 (fun _=>rfl)) ?_|refine z10 rfl (z4 (fun _=>rfl)) ?_|refine z163 (by omega) ?_|apply z41|constructor))
   all_goals trace_state
  ·refine ⟨a,p+1,⟨⟨by omega,by omega,by omega,h4⟩,by omega,by omega⟩,?_⟩
   refine z7 z15 Tryz.func63 rfl rfl 78 Tryz.ntmps63 (by simp) ?_
   repeat' ((first|(apply y76 ok;rfl)|(apply z21;kernel_rfl)|(apply y36;first|omega|(dsimp only;omega)|exact z54 (fun _=>rfl))|((apply z5)<;>intro _)|(apply z18 [0] [] cv;rfl;rfl;rfl))<;>conv=>whnf)
   all_goals try (exfalso;omega)
   all_goals (refine rsD [0,4,6,8] [] rfl ?_;(repeat' first|exact y78 _|exact z9 _|(refine z38 ?_;(omega))|apply y79|refine z10 rfl (z4 (fun _=>rfl)) ?_|apply z41|constructor))
 refine ⟨a,p+1,⟨⟨by omega,by omega,by omega,h4⟩,by omega,by omega⟩,?_⟩
 refine z7 z15 Tryz.func63 rfl rfl 78 Tryz.ntmps63 (by simp) ?_
 repeat' ((first|(apply y76 ok;rfl)|(apply z21;kernel_rfl)|(apply y36;first|omega|(dsimp only;omega)|exact z54 (fun _=>rfl))|((apply z5)<;>intro _)|(apply z18 [0] [] cv;rfl;rfl;rfl))<;>conv=>whnf)
 all_goals try (exfalso;omega)
 all_goals (refine rsD [0,4,6,8] [] rfl ?_;(repeat' first|exact y78 _|exact z9 _|(refine z38 ?_;(omega))|apply y79|refine z10 rfl (z4 (fun _=>rfl)) ?_|apply z41|constructor))
def mixB (z a:List Bool) (k:Nat):List Bool:=z.take k++a.drop k
theorem z905 {z a:List Bool} {k:Nat} (h:z.length=a.length) (hk:k≤a.length):(mixB z a k).length=a.length:=by unfold mixB;simp;omega
theorem mixB_set {z a:List Bool} {k:Nat} (h:k < z.length) (ha:k < a.length) {x:Bool} (hx:z[k]=x):(mixB z a k).set k x=mixB z a (k+1):=by
 subst hx
 unfold mixB
 rw [y71 ha,List.set_append_right _ _ (by simp;omega)]
 simp only [y41]
 rw [show k - min k z.length=0 by omega,List.set_cons_zero,y43 h,List.append_assoc,List.singleton_append]
theorem mixB_get {z a:List Bool} {k:Nat} (h:k≤z.length) (ha:k < a.length):((mixB z a k).map enB)[k]?=some (enB a[k]):=by
 unfold mixB
 rw [y56,y59 (by simp;omega)]
 simp only [y42,y41]
 rw [show k - min k z.length=0 by omega]
 simp [ha]
def isAc (bs:List Int) (b:Bool) (q:Int) (z:Bool) (q' : Int):Prop:=(b=false∧z=false∧q'=q)∨(b=true∧∃ c:Int,CallsA Tryz.prog 92 [.ptr 0 none 0,.int 3] [rdO bs q] (.int c) [rdO bs (q+1)]∧z=decide (c=0)∧q'=q+1)
theorem isAc_ex (bs:List Int) (hb:BytesOk bs) (b:Bool) (q:Int) (hq:0≤q∧q≤999999000):∃ z q',isAc bs b q z q'∧q≤q'∧q'≤q+1:=by
 cases b
 ·exact ⟨false,q,.inl ⟨rfl,rfl,rfl⟩,by omega,by omega⟩
 ·obtain ⟨c,_,cc⟩:=z57 bs hb q 3 (by omega) (by omega) (by omega)
  exact ⟨decide (c=0),q+1,.inr ⟨rfl,c,cc,rfl,rfl⟩,by omega,by omega⟩
set_option maxHeartbeats 6400000 in
theorem z593 (bs : List Int) (hb : BytesOk bs) (p : Int) (hp : 0 ≤ p ∧ p ≤ 990000000) : ∃ (g : Graph) (l : List Tree) (a : Aut) (p' : Int), (g.d ∧ Lab.d l ∧ a.sm ∧ p ≤ p' ∧ p' ≤ p + 20000) ∧
  CallsA Tryz.prog 91 [.ptr 0 none 0] [rdO bs p] (.tup [.agg g.cs,lst 3 Tree.cs' l,.agg a.cs]) [rdO bs p']:=by
 obtain ⟨l,p1,⟨l1,l2,l3,l4⟩,c1⟩:=z525 bs hb p ⟨by omega,by omega⟩
 obtain ⟨a0,p2,⟨a1,a2,a3,a4,a5,a6⟩,c2⟩:=z335 bs hb p1 ⟨by omega,by omega⟩
 obtain ⟨w,⟨w0,w1⟩,cw⟩:=z57 bs hb p2 2 (by omega) (by omega) (by omega)
 by_cases hw:w=0
 ·subst hw
  obtain ⟨zs,pf,h1,h2,h3,h4⟩:=z271 (fun k r z r'=>isAc bs (a0.acc.getD k false) r z r') (p2+1) 1 a0.acc.length (fun k r hk b1 b2=>isAc_ex bs hb _ r ⟨by omega,by omega⟩)
  have h5:=h4 _ (y45 _)
  obtain ⟨g0,g,p3,p4,cg0,cg,hg,q1,q2⟩:=z835 bs hb (pf a0.acc.length) ⟨by omega,by omega⟩
  obtain ⟨a',p5,⟨b1,b2,b3⟩,cm⟩:=z347 bs hb p4 ⟨by omega,by omega⟩ ⟨a0.ini,zs,a0.ed⟩ ⟨a1,by show zs.length≤16;omega,a3,a6⟩
  refine ⟨g,l,a',p5,⟨hg,⟨l1,l2⟩,b1,by omega,by omega⟩,?_⟩
  refine z7 z15 Tryz.func91 rfl rfl 44 Tryz.ntmps91 (by simp) ?_
  rw [← h2] at cw
  repeat' ((first|(apply y76 ok;rfl)|((first|(apply z11 [0] [] c1;rfl;rfl)|(apply z11 [0] [3,4,5] c2;rfl;rfl)|(apply z11 [0] [] cw;rfl;rfl));rfl;(focus ((repeat' first|exact z17|apply z16)<;>first|exact z44 rfl rfl|(refine z23 ?_;((exact z4 fun _=>rfl)))))))<;>conv=>whnf)
  all_goals
   refine z65 (fun x:Nat×List Bool=>([(0,.ptr 0 none 0),(2,.ptr 1 none 0),(4,.ptr 2 none 0),(5,lst 3 Tree.cs' l),(6,.ptr 3 none 0),(7,.int x.1)],[rdO bs (pf x.1),.cells 2 [[.nils,.nils]],.cells 3 [[.nils,.nils,.nils]],.cells 3 [[.sref 4 0 a0.ini.length,.sref 5 0 x.2.length,.sref 6 0 a0.ed.length]],.cells 1 (a0.ini.map enI),.cells 1 (x.2.map enB),.cells 4 (a0.ed.map Trans.cs)])) (fun x=>x.1≤a0.acc.length∧x.2=mixB zs a0.acc x.1) (fun x=>a0.acc.length - x.1) (0,a0.acc) ⟨by show 0≤a0.acc.length;omega,by show a0.acc=mixB zs a0.acc 0;simp [mixB]⟩ (by refine swR [0,1,2,6,3,4,5] [] rfl rfl ?_;(repeat' first|exact y78 _|exact z9 _|apply y79|refine z10 rfl (z4 (fun _=>rfl)) ?_|constructor)) ?_
   rintro ⟨k,A⟩ ⟨hk,hA⟩
   dsimp only at hk hA ⊢
   have hAl:A.length=a0.acc.length:=by rw [hA];exact z905 (by omega) hk
   by_cases hkn:k < a0.acc.length
   ·have hkz:k < zs.length:=by omega
    have hget:=mixB_get (z:=zs) (a:=a0.acc) (k:=k) (by omega) hkn
    have hA2l:(mixB zs a0.acc (k+1)).length=a0.acc.length:=z905 (by omega) (by omega)
    have H:=h3 k hkz
    rw [z14 hkn] at H
    have hset:=fun x h=>mixB_set (a:=a0.acc) hkz hkn (x:=x) h
    rw [← hA] at hget hset
    have hset2:∀ x,zs[k]=x→(A.map enB).set k (enB x)=(mixB zs a0.acc (k+1)).map enB:=fun x h=>by rw [← hset x h,List.map_set]
    generalize a0.acc[k]=b at *
    generalize zs[k]=z at *
    rcases H with ⟨rfl,rfl,eq⟩|⟨rfl,c,cc,rfl,eq⟩
    ·rw [← eq]
     repeat' ((first|(apply y76 ok;rfl)|(apply z21;kernel_rfl)|(refine z12 (i:=k) rfl hget ?_)|(apply y36;first|omega|(unfold inI;omega))|((apply z5)<;>intro _))<;>conv=>whnf)
     all_goals try (exfalso;omega)
     all_goals refine z25 (k+1,mixB zs a0.acc (k+1)) ⟨by show k+1≤a0.acc.length;omega,rfl⟩ (by show a0.acc.length - (k+1) < a0.acc.length - k;omega) (by refine swR [0,1,2,3,4,5,6] [] rfl rfl ?_;(repeat' first|exact y78 _|exact z9 _|(refine z38 ?_;((simp;omega)))|apply y79|refine z43 rfl (z4 (fun _=>rfl)) ?_|refine z10 rfl (z4 (fun _=>rfl)) ?_|constructor)<;>(exact z30 (hset2 _ rfl)))
    ·rw [← eq] at cc
     repeat' ((first|(apply y76 ok;rfl)|(apply z21;kernel_rfl)|(refine z12 (i:=k) rfl hget ?_)|(apply y36;first|omega|(unfold inI;omega))|((apply z5)<;>intro _)|(apply z18 [0] [] cc;rfl;rfl;rfl))<;>conv=>whnf)
     all_goals try (exfalso;omega)
     all_goals refine z25 (k+1,mixB zs a0.acc (k+1)) ⟨by show k+1≤a0.acc.length;omega,rfl⟩ (by show a0.acc.length - (k+1) < a0.acc.length - k;omega) (by refine swR [0,1,2,3,4,5,6] [] rfl rfl ?_;(repeat' first|exact y78 _|exact z9 _|(refine z38 ?_;((simp;omega)))|apply y79|refine z43 rfl (z4 (fun _=>rfl)) ?_|refine z10 rfl (z4 (fun _=>rfl)) ?_|constructor)<;>(exact z30 (hset2 _ rfl)))
   ·have e:a0.acc.length=k:=by omega
    have hA2:zs=A:=by rw [hA];unfold mixB;rw [y50 (by omega),y75 (by omega),y57]
    rw [e] at cg0
    rw [hA2] at cm
    repeat' ((first|((fail_if_success apply z104 8);(fail_if_success apply z88 8);apply y76 ok;rfl)|(apply z21;kernel_rfl)|(apply y36;omega)|(((apply z8;omega));intro _)|((first|apply z5|apply z87)<;>intro _))<;>conv=>whnf)
    all_goals try (exfalso;omega)
    all_goals
     refine y77 (y80 (env:=[(0,.ptr 0 none 0),(2,.ptr 1 none 0),(4,.ptr 2 none 0),(5,lst 3 Tree.cs' l),(6,.ptr 3 none 0)]) (objs:=[rdO bs (pf k),.cells 2 [[.nils,.nils]],.cells 3 [[.nils,.nils,.nils]],.cells 3 [(Aut.mk a0.ini A a0.ed).cs]]) [0,1,2,3] [4,5,6] rfl rfl rfl rfl ?_ ?_) ?_
     ·(repeat' first|exact y78 _|constructor)
     ·(repeat' first|exact y78 _|apply y79|((apply z36 rfl rfl rfl);(focus ((repeat ((exact z31 (fun _=>rfl) _)));done));(focus (((simp;done));done)))|constructor)
     conv=>whnf
     repeat' ((first|(apply y76 ok;rfl)|(apply z21;kernel_rfl)|((first|(apply z11 [0] [] cg0;rfl;rfl)|(apply z11 [0] [] cg;rfl;rfl)|(apply z11 [0] [4,5,6] cm;rfl;rfl));rfl;(focus ((repeat' first|exact z17|apply z16)<;>first|exact z44 rfl rfl|(refine z23 ?_;((exact z4 fun _=>rfl)))))))<;>conv=>whnf)
     all_goals (refine rsD [0] [4,5,6] rfl ?_;(repeat' first|exact y78 _|apply y79|((apply z36 rfl rfl rfl);(focus ((repeat ((exact z31 (fun _=>rfl) _)));done));(focus (((simp;done));done)))|apply z41|apply z92|constructor))
 ·obtain ⟨g0,g,p3,p4,cg0,cg,hg,q1,q2⟩:=z835 bs hb (p2+1) ⟨by omega,by omega⟩
  obtain ⟨a',p5,⟨b1,b2,b3⟩,cm⟩:=z347 bs hb p4 ⟨by omega,by omega⟩ a0 ⟨a1,a2,a3,a6⟩
  refine ⟨g,l,a',p5,⟨hg,⟨l1,l2⟩,b1,by omega,by omega⟩,?_⟩
  refine z7 z15 Tryz.func91 rfl rfl 44 Tryz.ntmps91 (by simp) ?_
  repeat' ((first|((fail_if_success apply z104 8);(fail_if_success apply z88 8);apply y76 ok;rfl)|((apply z5)<;>intro _)|((first|(apply z11 [0] [] c1;rfl;rfl)|(apply z11 [0] [3,4,5] c2;rfl;rfl)|(apply z11 [0] [] cw;rfl;rfl));rfl;(focus ((repeat' first|exact z17|apply z16)<;>first|exact z44 rfl rfl|(refine z23 ?_;((exact z4 fun _=>rfl)))))))<;>conv=>whnf)
  all_goals try (exfalso;omega)
  all_goals
   refine y77 (y80 (env:=[(0,.ptr 0 none 0),(2,.ptr 1 none 0),(4,.ptr 2 none 0),(5,lst 3 Tree.cs' l),(6,.ptr 3 none 0)]) (objs:=[rdO bs (p2+1),.cells 2 [[.nils,.nils]],.cells 3 [[.nils,.nils,.nils]],.cells 3 [a0.cs]]) [0,1,2,6] [3,4,5] rfl rfl rfl rfl ?_ ?_) ?_
   ·(repeat' first|exact y78 _|constructor)
   ·(repeat' first|exact y78 _|apply y79|((apply z36 rfl rfl rfl);(focus ((repeat ((exact z31 (fun _=>rfl) _)));done));(focus (((simp;done));done)))|constructor)
   conv=>whnf
   repeat' ((first|(apply y76 ok;rfl)|(apply z21;kernel_rfl)|((first|(apply z11 [0] [] cg0;rfl;rfl)|(apply z11 [0] [] cg;rfl;rfl)|(apply z11 [0] [4,5,6] cm;rfl;rfl));rfl;(focus ((repeat' first|exact z17|apply z16)<;>first|exact z44 rfl rfl|(refine z23 ?_;((exact z4 fun _=>rfl)))))))<;>conv=>whnf)
   all_goals (refine rsD [0] [4,5,6] rfl ?_;(repeat' first|exact y78 _|apply y79|((apply z36 rfl rfl rfl);(focus ((repeat ((exact z31 (fun _=>rfl) _)));done));(focus (((simp;done));done)))|apply z41|apply z92|constructor))
set_option maxHeartbeats 3200000 in
theorem z747 (P:List Int) (hP:P.length≤100000) (f:Nat) (to:Int) (h:BackOk P f to) (hf:f≤100000):CallsA Tryz.prog 150 [ints P,.int to] [] (ints (bkw P f to [])) []:=by
 generalize hR:bkw P f to []=R
 have hto:=h
 refine z7 z15 Tryz.func150 rfl rfl 25 Tryz.ntmps150 (by simp) ?_
 repeat' (((apply y76 ok;rfl))<;>conv=>whnf)
 refine z65 (fun x:Nat×Int×List Int=>([(0,ints P),(5,.sref 0 0 (x.2.2.length+1))],[.cells 1 ((x.2.1::x.2.2).map enI)])) (fun x=>BackOk P x.1 x.2.1∧bkw P x.1 x.2.1 x.2.2=R∧x.1+x.2.2.length≤100000) (fun x=>x.1) (f,to,[]) ⟨hto,hR,by show f+0≤100000;omega⟩ (by refine swR [0] [] rfl rfl ?_;(repeat' first|exact y78 _|apply y79|constructor)) ?_
 rintro ⟨g,v,tl⟩ ⟨hB,hE,hl⟩
 dsimp only at hB hE hl ⊢
 have hv:0≤v∧v < P.length:=by cases g<;>exact hB.1
 have hg:(P.map enI)[v.toNat]?=some (enI (P.getD v.toNat 0)):=by rw [y44,y38 (by omega),z14 (by omega)];rfl
 by_cases h0:0≤P.getD v.toNat 0
 ·cases g with
  |zero=>exact absurd hB.2 (by omega)
  |succ g =>
   rw [bkw,if_pos h0] at hE
   have hB2:BackOk P g (P.getD v.toNat 0):=by
    rcases hB.2 with h|h
    ·omega
    ·exact h
   generalize P.getD v.toNat 0=y at *
   have hst:(List.map enI (v::tl)).length=tl.length+1∧Stor (List.map enI (v::tl)):=⟨by simp,z54 (fun _=>rfl)⟩
   repeat' ((first|(apply y76 ok;rfl)|(refine z12 (i:=v.toNat) (by simp) hg ?_)|(refine y36 hst ?_)|(apply y36;first|omega|((try dsimp only);simp only [y42,y41,y40,y39,y51,y52];omega))|apply z108|((apply z5)<;>intro _))<;>conv=>whnf)
   all_goals try (exfalso;omega)
   all_goals refine z25 (g,y,v::tl) ⟨hB2,hE,by show g+(v::tl).length≤100000;rw [y51];omega⟩ (by show g < g+1;omega) (by refine swR [2] [0,1] rfl rfl ?_;(repeat' first|exact y78 _|exact z9 _|(refine z38 ?_;((simp;omega)))|((refine z10 rfl ?_ ?_);(focus ((repeat' (first|exact z4 (fun _=>rfl)|exact z208 rfl z34|apply z70));done)))|constructor))
 ·have hE2:v::tl=R:=by
   cases g with
   |zero=>exact hE
   |succ g=>rw [bkw,if_neg h0] at hE;exact hE
  subst hE2
  generalize P.getD v.toNat 0=y at *
  repeat' ((first|(apply y76 ok;rfl)|(refine z12 (i:=v.toNat) (by simp) hg ?_)|(apply y36;omega)|(((apply z8;omega));intro _)|apply z108|((apply z5)<;>intro _))<;>conv=>whnf)
  all_goals try (exfalso;omega)
  all_goals (refine rsD [] [0] rfl ?_;(repeat' first|exact y78 _|((apply z36 rfl rfl rfl);(focus ((repeat ((exact z31 (fun _=>rfl) _)));done));(focus (((simp;done));done)))|constructor))
def z859 (k:Nat):List Int:=List.replicate k (-1)
theorem z602 (k:Nat):z859 (k+1)=z859 k++[-1]:=by unfold z859;rw [List.replicate_succ']
theorem z656 {l:List Int} {k:Nat} (h:k < l.length) (x:Int):x∈l.take (k+1)↔x∈l.take k∨x=l[k]:=by
 rw [y43 h,y47,y48]
set_option maxHeartbeats 12800000 in
theorem z450 (rows:List (List Int)) (ini:List Int) (hr:∀ r∈rows,InN rows.length r) (hi:InN rows.length ini) (hn:ini.Nodup) (hN:rows.length≤100000) (hrl:∀ r∈rows,r.length≤1000000000):CallsA Tryz.prog 148 [lst 1 encL rows,ints ini] [] (.tup [.sref 0 0 (srP rows ini).length,.sref 1 0 (srQ rows ini).length]) [.cells 1 ((srP rows ini).map enI),.cells 1 ((srQ rows ini).map enI)]:=by
 have hil:ini.length≤rows.length:=z147 _ _ hn hi
 refine z7 z15 Tryz.func148 rfl rfl 91 Tryz.ntmps148 (by simp) ?_
 repeat' ((first|(apply y76 ok;rfl)|(apply y36;(dsimp only;omega)))<;>conv=>whnf)
 refine z65 (fun x:Nat×List Int=>([(0,lst 1 encL rows),(1,ints ini),(6,.sref 0 0 x.2.length),(7,.sref 1 0 rows.length),(8,.int x.1)],[.cells 1 (x.2.map enI),.cells 1 ((mkB rows.length []).map enB)])) (fun x=>x.1≤rows.length∧x.2.length=x.1∧x.2=z859 x.1) (fun x=>rows.length - x.1) (0,[]) ⟨by show 0≤rows.length;omega,rfl,rfl⟩ (by refine swR [0,1] [] rfl rfl ?_;(repeat' first|exact y78 _|((refine z10 rfl ?_ ?_);(focus ((repeat' (first|exact z34|exact z42 rfl));done)))|constructor)<;>((refine z30 ?_;rw [z653,List.map_replicate];rfl))) ?_
 rintro ⟨i,F⟩ ⟨hF1,hFl,hF2⟩
 dsimp only at hF1 hFl hF2 ⊢
 by_cases hi2:i < rows.length
 ·repeat' ((first|(apply y76 ok;rfl)|(apply y36;first|omega|(unfold inI;omega)|((try dsimp only);simp only [y42,y41,y40,y39,y51,y52];omega)|exact ⟨rfl,z19 rfl z26⟩)|((apply z5)<;>intro _))<;>conv=>whnf)
  all_goals try (exfalso;omega)
  all_goals refine z25 (i+1,F++[-1]) ⟨hi2,by rw [y40,hFl];rfl,by show _=z859 (i+1);rw [z602,← hF2]⟩ (by show rows.length - (i+1) < _;omega) (by refine swR [3,1] [] rfl rfl ?_;(repeat' first|exact y78 _|exact z9 _|(refine z38 ?_;((simp;done)))|((first|refine z33 rfl ?_ ?_|refine z10 rfl ?_ ?_);(focus ((repeat' (first|exact z4 (fun _=>rfl)|apply z22));done)))|(refine z76 ?_ ?_;(focus (omega)))|constructor))
 ·have e:rows.length=i:=by omega
  have hs0:srS rows ini 0=(ini,F):=by rw [hF2,← e];rfl
  rw [← e] at hFl
  subst e
  clear hF1 hF2 hi2
  repeat' ((first|(apply y76 ok;rfl)|(apply y36;first|omega|(dsimp only;omega)|exact z54 (fun _=>rfl))|((apply z5)<;>intro _))<;>conv=>whnf)
  all_goals try (exfalso;omega)
  all_goals
   refine z65 (fun i:Nat=>([(0,lst 1 encL rows),(1,ints ini),(6,.sref 0 0 rows.length),(7,.sref 1 0 rows.length),(9,.sref 2 0 ini.length),(10,.int i)],[.cells 1 (F.map enI),.cells 1 ((mkB rows.length (ini.take i)).map enB),.cells 1 (ini.map enI)])) (fun i=>i≤ini.length) (fun i=>ini.length - i) 0 (by omega) (by refine swR [0,1,3] [] rfl rfl ?_;(repeat' first|exact y78 _|exact z9 _|(refine z38 ?_;(omega))|refine z10 rfl (z4 (fun _=>rfl)) ?_|constructor)) ?_
   intro i hi1
   by_cases hi2:i < ini.length
   ·have hx:=hi ini[i] (y37 _)
    have hset:=z342 (enc:=enB) rfl hx.1 hx.2 (z656 hi2)
    have hml:=mkB_len rows.length (ini.take i)
    repeat' ((first|(apply y76 ok;rfl)|(apply y36;first|omega|(unfold inI;omega))|((first|(with_reducible apply z8;omega)|(apply z8;omega));intro _)|((apply z5)<;>intro _))<;>conv=>whnf)
    all_goals try (exfalso;omega)
    all_goals refine z25 (i+1) (by omega) (by omega) (by refine swR [0,1,2] [] rfl rfl ?_;(repeat' first|exact y78 _|exact z9 _|refine z43 rfl (z4 (fun _=>rfl)) ?_|refine z10 rfl (z4 (fun _=>rfl)) ?_|constructor)<;>(exact z30 hset))
   ·have e:ini.length=i:=by omega
    subst e
    rw [y49]
    repeat' ((first|(apply y76 ok;rfl)|(apply y36;omega)|((first|(with_reducible apply z8;omega)|(apply z8;omega));intro _)|((apply z5)<;>intro _))<;>conv=>whnf)
    all_goals try (exfalso;omega)
    refine z65 (fun x:Nat×List Int×List Int=>([(0,lst 1 encL rows),(6,.sref 0 0 rows.length),(7,.sref 1 0 rows.length),(9,.sref 2 0 x.2.1.length),(11,.int x.1)],[.cells 1 (x.2.2.map enI),.cells 1 ((mkB rows.length x.2.1).map enB),.cells 1 (x.2.1.map enI)])) (fun x=>srS rows ini x.1=(x.2.1,x.2.2)∧x.1≤x.2.1.length) (fun x=>rows.length - x.1) (0,ini,F) ⟨hs0,y46 _⟩ (by refine swR [0,1,2] [] rfl rfl ?_;(repeat' first|exact y78 _|exact z9 _|refine z10 rfl (z4 (fun _=>rfl)) ?_|constructor)) ?_
    clear hs0 hFl F
    rintro ⟨i,Q,P⟩ ⟨hS,hiQ⟩
    dsimp only at hS hiQ ⊢
    have hJ:=z280 hr hi hn i
    rw [hS] at hJ
    have hQl:=z147 _ _ hJ.nd hJ.inn
    have hPl:=hJ.len
    dsimp only at hQl hPl
    by_cases hi2:i < Q.length
    ·have hq:=hJ.inn _ (y37 hi2)
     have hS1:srS rows ini (i+1)=visPs Q[i] (Q,P) (rows.getD Q[i].toNat []):=by rw [srS,dif_pos (by rw [hS];exact hi2)];simp only [hS]
     have hqr:Q[i].toNat < rows.length:=by omega
     have hrow:rows.getD Q[i].toNat []=rows[Q[i].toNat]:=z14 hqr
     have hrin:InN rows.length rows[Q[i].toNat]:=hr _ (y37 _)
     have hrl2:=hrl rows[Q[i].toNat] (y37 _)
     rw [hrow] at hS1
     repeat' ((first|(apply y76 ok;rfl)|((apply z5)<;>intro _))<;>conv=>whnf)
     all_goals try (exfalso;omega)
     refine z65 (fun y:Nat×List Int×List Int=>([(0,lst 1 encL rows),(6,.sref 0 0 rows.length),(7,.sref 1 0 rows.length),(9,.sref 2 0 y.2.1.length),(11,.int i),(12,.int y.1)],[.cells 1 (y.2.2.map enI),.cells 1 ((mkB rows.length y.2.1).map enB),.cells 1 (y.2.1.map enI)])) (fun y=>visPs Q[i] (Q,P) (rows[Q[i].toNat].take y.1)=(y.2.1,y.2.2)∧y.1≤rows[Q[i].toNat].length) (fun y=>rows[Q[i].toNat].length - y.1) (0,Q,P) ⟨rfl,y46 _⟩ (by refine swR [0,1,2] [] rfl rfl ?_;(repeat' first|exact y78 _|exact z9 _|refine z10 rfl (z4 (fun _=>rfl)) ?_|constructor)) ?_
     rintro ⟨k,Q',P'⟩ ⟨hV,hk⟩
     dsimp only at hV hk ⊢
     obtain ⟨hJ',hi',hu⟩:=PJ.visPs (rows[Q[i].toNat].take k) hJ hi2 rfl (fun x hx=>hrin x (List.mem_of_mem_take hx))
     simp only [hV] at hJ' hi' hu
     have hQl':=z147 _ _ hJ'.nd hJ'.inn
     have hPl':=hJ'.len
     dsimp only at hQl' hPl'
     have hg:(Q'.map enI)[i]?=some (enI Q[i]):=by rw [y44,y38 hi',hu];rfl
     by_cases hk2:k < rows[Q[i].toNat].length
     ·have hx:=hrin rows[Q[i].toNat][k] (y37 _)
      have hv:=z403 (u:=Q[i]) (x:=(Q,P)) hk2
      rw [hV] at hv
      have hkk:(rows[Q[i].toNat].map enI)[k]?=some (enI rows[Q[i].toNat][k]):=by rw [y44,y38 hk2];rfl
      generalize Q[i]=u at *
      generalize rows[u.toNat][k]=v at *
      by_cases hn2:v∈Q'
      ·rw [z357 hn2] at hv
       repeat' ((first|(apply y76 ok;rfl)|(refine z12 (i:=i) rfl hg ?_)|(refine z12 (i:=k) rfl hkk ?_)|(refine z260 (enc:=enB) (v:=v) (by rfl) hx.1 hx.2 ?_)|(apply y36;first|omega|(unfold inI;omega)|((try dsimp only);simp only [y42,y41,y40,y39,y51,y52];omega)|exact ⟨rfl,z19 rfl z26⟩)|((first|(with_reducible apply z55;omega)|(apply z8;omega));intro _)|((first|apply z5|apply z37)<;>intro _))<;>conv=>whnf)
       all_goals first|(exfalso;omega)|(exfalso;contradiction)|skip
       all_goals refine z25 (k+1,Q',P') ⟨hv,hk2⟩ (by show rows[u.toNat].length - (k+1) < rows[u.toNat].length - k;omega) (by refine swR [0,1,2] [] rfl rfl ?_;(repeat' first|exact y78 _|exact z9 _|refine z10 rfl (z4 (fun _=>rfl)) ?_|constructor))
      ·rw [z358 hn2] at hv
       have hset:=z342 (enc:=enB) (S:=Q') (S':=Q'++[v]) rfl hx.1 hx.2 (fun x=>by simp)
       repeat' ((first|(apply y76 ok;rfl)|(refine z12 (i:=i) rfl hg ?_)|(refine z12 (i:=k) rfl hkk ?_)|(refine z260 (enc:=enB) (v:=v) (by rfl) hx.1 hx.2 ?_)|(apply y36;first|omega|(unfold inI;omega)|((try dsimp only);simp only [y42,y41,y40,y39,y51,y52];omega)|exact ⟨rfl,z19 rfl z26⟩)|((first|(with_reducible apply z55;omega)|(apply z8;omega));intro _)|((first|apply z5|apply z37)<;>intro _))<;>conv=>whnf)
       all_goals first|(exfalso;omega)|(exfalso;contradiction)|skip
       all_goals refine z25 (k+1,Q'++[v],P'.set v.toNat u) ⟨hv,hk2⟩ (by show rows[u.toNat].length - (k+1) < rows[u.toNat].length - k;omega) (by refine swR [0,1,4] [] rfl rfl ?_;(repeat' first|exact y78 _|(refine z38 ?_;((simp;done)))|((first|refine z33 rfl ?_ ?_|refine z43 rfl ?_ ?_);(focus ((repeat' (first|exact z4 (fun _=>rfl)|apply z22));done)))|refine z163 (by omega) ?_|(refine z76 ?_ ?_;(focus (omega)))|constructor)<;>(exact z30 hset))
     ·rw [y50 (by omega)] at hV
      rw [hV] at hS1
      repeat' ((first|(apply y76 ok;rfl)|(refine z12 (i:=i) rfl hg ?_)|(apply y36;first|omega|(unfold inI;omega))|((first|(with_reducible apply z8;omega)|(with_reducible apply z55;omega)|(apply z8;omega));intro _)|((first|apply z5|apply z74)<;>intro _))<;>conv=>whnf)
      all_goals try (exfalso;omega)
      all_goals refine z25 (i+1,Q',P') ⟨hS1,hi'⟩ (by show rows.length - (i+1) < rows.length - i;omega) (by refine swR [0,1,2] [] rfl rfl ?_;(repeat' first|exact y78 _|exact z9 _|refine z10 rfl (z4 (fun _=>rfl)) ?_|constructor))
    ·have hE:=z1035 (rows:=rows) (ini:=ini) (i:=i) (by rw [hS];show Q.length≤i;omega) (by omega)
     rw [hS] at hE
     obtain ⟨e1,e2⟩:=Prod.mk.inj hE
     rw [← e1,← e2]
     repeat' ((first|(apply y76 ok;rfl)|((apply z5)<;>intro _))<;>conv=>whnf)
     all_goals try (exfalso;omega)
     all_goals (refine rsD [0,2] [] rfl ?_;(repeat' first|exact y78 _|exact z9 _|(refine z38 ?_;(omega))|refine z10 rfl (z4 (fun _=>rfl)) ?_|apply z92|constructor))
theorem z839 (rows:List (List Int)) (ini:List Int) (hr:∀ r∈rows,InN rows.length r) (hi:InN rows.length ini) (hn:ini.Nodup) (hN:rows.length≤100000) (hrl:∀ r∈rows,r.length≤1000000000):CallsA Tryz.prog 148 [lst 1 encL rows,ints ini] [] (.tup [ints (srP rows ini),ints (srQ rows ini)]) [] :=
 (z450 rows ini hr hi hn hN hrl).lend [] [0,1] rfl rfl rfl (bor_tup (z56 (z102 rfl rfl rfl) (z56 (z102 rfl rfl rfl) z84))) z59
end Go.Proofs.YtahhobgjcfionaaGreat
