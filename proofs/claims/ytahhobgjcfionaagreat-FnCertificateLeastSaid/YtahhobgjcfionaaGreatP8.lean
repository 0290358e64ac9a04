/- A part of the proofs over this program: T204, T33P, T67, T68, T210, T98, T43R, T211, T212, T190, T213, T187, T214, T215. -/
import Derived.Test.YtahhobgjcfionaaGreatG0
import Derived.Test.YtahhobgjcfionaaGreatG1
import Derived.Test.YtahhobgjcfionaaGreatG2
import Derived.Test.YtahhobgjcfionaaGreatG3
import Derived.Test.YtahhobgjcfionaaGreatP0
import Derived.Test.YtahhobgjcfionaaGreatP1
import Derived.Test.YtahhobgjcfionaaGreatP2
import Derived.Test.YtahhobgjcfionaaGreatP3
import Derived.Test.YtahhobgjcfionaaGreatP4
import Derived.Test.YtahhobgjcfionaaGreatP5
import Derived.Test.YtahhobgjcfionaaGreatP6
import Derived.Test.YtahhobgjcfionaaGreatP7
set_option linter.all false
namespace Go.Proofs.YtahhobgjcfionaaGreat
open Go.Gl
attribute [local irreducible] z29 AWP z46 z50 z47 RetS z58
theorem Aut.sm.mx' {a:Aut} (ha:a.sm):a.mx:=⟨by have:=ha.1;unfold maxLen;omega,by have:=ha.2.1;unfold maxLen;omega,by have:=ha.2.2.1;unfold maxLen;omega,ha.2.2.2⟩
theorem z1077 {g:Graph} {ls:List Int} {a:Aut} (hr:∀ r∈z27 g ls a,InN (z27 g ls a).length r) (hi:InN (z27 g ls a).length a.ini) (hn:a.ini.Nodup) (h:z1169 (z27 g ls a) a.ini a.acc):trcO g ls a=none:=by
 unfold trcO
 rw [Option.map_eq_none_iff,← z315 hr hi hn,z743]
 rintro v hv ⟨h1,h2⟩
 have hvN:=z303 hr hi _ v hv
 have hc:=z218.1 h2
 rw [Int.toNat_of_nonneg hvN.1] at hc
 have:=h v ((z140 hr hi v).1 hv) hc
 rw [h1] at this;cases this
structure MkF (g:Graph) (l:List Tree) (a:Aut):Prop where
 gl:(glB g l && autB a)=true
 f1:∀ r∈z27 g (g.st.map (z28 l)) a,InN (z27 g (g.st.map (z28 l)) a).length r
 f2:InN (z27 g (g.st.map (z28 l)) a).length a.ini
 f3:(z27 g (g.st.map (z28 l)) a).length≤3840
 len:(z27 g (g.st.map (z28 l)) a).length=g.st.length * a.acc.length
 no:z1169 (z27 g (g.st.map (z28 l)) a) a.ini a.acc
 eq:mkR g l a=rkL (z27 g (g.st.map (z28 l)) a) a.ini a.acc (-1)
theorem z652 {g:Graph} {l:List Tree} {a:Aut} (h:mkOk g l a=true):MkF g l a:=by
 have h0:=h
 unfold mkOk at h
 obtain ⟨h1,h2⟩:=Bool.and_eq_true_iff.1 h
 obtain ⟨h3,hab⟩:=Bool.and_eq_true_iff.1 h1
 have hG:=(z69 g).1 (by unfold glB at h3;exact (Bool.and_eq_true_iff.1 h3).1)
 have hA:=z96.1 hab
 obtain ⟨f1,f2,f3,f4,f5⟩:=z117 hG hA (g.st.map (z28 l))
 have hno:=z708 (g:=g) (ls:=g.st.map (z28 l)) (a:=a) f1 f2 hA.2.2.1.nd (by
  cases ht:trcO g (g.st.map (z28 l)) a with
  |none=>rfl
  |some p=>rw [ht] at h2;cases h2)
 refine ⟨h1,f1,f2,f3,by unfold z27;rw [z71,Nat.mul_comm],hno,?_⟩
 unfold mkR
 rw [if_pos h0,z909 f1 f2 hno]
theorem z681 {g:Graph} {l:List Tree} {a:Aut} {c:Cert} (h:z275 g l a c=true):mkOk g l a=true:=by
 unfold z275 at h
 obtain ⟨h1,h2⟩:=Bool.and_eq_true_iff.1 h
 obtain ⟨h3,hab⟩:=Bool.and_eq_true_iff.1 h1
 have hG:=(z69 g).1 (by unfold glB at h3;exact (Bool.and_eq_true_iff.1 h3).1)
 have hA:=z96.1 hab
 obtain ⟨f1,f2,f3,f4,f5⟩:=z117 hG hA (g.st.map (z28 l))
 have h2:=of_decide_eq_true h2
 rw [show g.st.length * a.acc.length=(z27 g (g.st.map (z28 l)) a).length by unfold z27;rw [z71,Nat.mul_comm]] at h2
 unfold mkOk
 rw [h1,z1077 f1 f2 hA.2.2.1.nd (z994 f1 f2 h2)];rfl
theorem certB_le {g:Graph} {l:List Tree} {a:Aut} {R:List Int} (h:z275 g l a ⟨R⟩=true):(mkR g l a).length=R.length∧∀ i,i < R.length→(mkR g l a).getD i 0≤R.getD i 0:=by
 have F:=z652 (z681 h)
 unfold z275 at h
 obtain ⟨h1,h2⟩:=Bool.and_eq_true_iff.1 h
 have h2:=of_decide_eq_true h2
 rw [← F.len] at h2
 have hc:=h2
 obtain ⟨c1,c2,c3,c4⟩:=h2
 have c1:R.length=(z27 g (g.st.map (z28 l)) a).length:=c1
 rw [F.eq]
 refine ⟨by rw [z641];exact c1.symm,fun i hi=>?_⟩
 rw [rkL_at _ (by omega)]
 by_cases hp:RP (z27 g (g.st.map (z28 l)) a) a.ini (i:Int)
 ·rw [if_pos hp]
  have:=z1141 F.f1 F.f2 hc (bfsL (z27 g (g.st.map (z28 l)) a) a.ini).length (i:Int) hp
  unfold rk at this
  rwa [y69] at this
 ·rw [if_neg hp,z14 hi]
  exact (c2 _ (y37 hi)).1
end Go.Proofs.YtahhobgjcfionaaGreat
namespace Go.Proofs.YtahhobgjcfionaaGreat
open Go.Gl
attribute [local irreducible] z29 AWP z46 z50 z47
def pick (bl:List Int) (p:Int):Int:=bl.getD p.toNat 0
theorem z587 (bl places:List Int) (hl:places.length≤1048576) (hp:InN bl.length places) (hb:bl.length≤1048576):CallsA Tryz.prog 77 [ints bl,ints places] [] (.sref 0 0 places.length) [.cells 1 ((places.map (pick bl)).map enI)]:=by
 refine z13 z15 Tryz.func77 rfl rfl 27 Tryz.ntmps77 (by simp) ?_
 repeat' (first|(apply y76 ok;rfl;conv=>whnf)|(apply y36;((dsimp only;omega));conv=>whnf))
 refine z94 (fun k:Nat=>([(0,ints bl),(5,.sref 0 0 places.length),(11,ints places),(12,.int places.length),(13,.int k)],[.cells 1 ((places.take k).map (fun p=>enI (pick bl p))++List.replicate (places.length - k) [.int 0])])) (fun k=>k≤places.length) (fun k=>places.length - k) 0 (by omega) ⟨[0],rfl,by decide,rfl,⟨⟨rfl,rfl⟩,⟨rfl,rfl⟩,⟨rfl,rfl⟩,⟨rfl,rfl⟩,⟨rfl,rfl⟩,trivial⟩,⟨z39 (by rfl) (z70 (z4 fun _=>rfl) (z42 rfl)),trivial⟩⟩ ?_
 intro k hk
 by_cases hkl:k < places.length
 ·have hx:=hp places[k] (y37 _)
  have hxb:places[k].toNat < bl.length:=by omega
  repeat' (first|(apply y76 ok;rfl;conv=>whnf)|(apply y36;(first|omega|(unfold inI;omega));conv=>whnf)|(with_reducible apply z8;omega;intro _;conv=>whnf)|(with_reducible apply z55;omega;intro _;conv=>whnf)|(apply z193;omega;conv=>whnf)|(apply z5<;>intro _<;>conv=>whnf))
  all_goals try (exfalso;omega)
  exact z79 (k+1) [0] (by omega) (by omega) ⟨rfl,by decide,rfl,⟨⟨rfl,rfl⟩,⟨rfl,rfl⟩,⟨rfl,rfl⟩,⟨rfl,rfl⟩,⟨rfl,rfl⟩,trivial⟩,⟨z902 hkl rfl (y69 k) (by unfold pick;rw [z14 hxb];rfl) (fun _=>rfl) rfl,trivial⟩⟩
 ·repeat' (first|(apply y76 ok;rfl;conv=>whnf)|(apply y36;(omega);conv=>whnf)|(with_reducible apply z8;omega;intro _;conv=>whnf)|(with_reducible apply z55;omega;intro _;conv=>whnf)|(apply z193;omega;conv=>whnf)|(apply z5<;>intro _<;>conv=>whnf))
  all_goals try (exfalso;omega)
  obtain rfl:k=places.length:=by omega
  exact z416 rfl (z4 fun _=>rfl) rfl (by rw [z920 _ _ _ _ rfl,List.map_map];rfl)
def letW (l:List Int):Bool:=!(l.any fun n=>!btw n 0 7)
theorem z837 (n:Int):CallsA Tryz.prog 215 [.int n] [] (.bool (!btw n 0 7)) []:=by
 refine z13 z15 Tryz.func215 rfl rfl 6 Tryz.ntmps215 (by simp) ?_
 repeat' ((first|(apply y76 ok;rfl)|(apply z21;kernel_rfl)|(apply y36;first|omega|(unfold inI;omega)|(dsimp only;omega)|((try dsimp only);simp only [y42,y41,y40,y39,y51,y52];omega)|exact z54 (fun _=>rfl)|exact ⟨rfl,z19 rfl z26⟩|exact ⟨rfl,z54 (fun _=>rfl) _⟩|exact ⟨⟨rfl,by omega⟩,z54 (fun _=>rfl) _⟩|(unfold z106;omega)|(simp only [z97] at *;first|omega|(unfold inI;omega)|(unfold z106;omega)))|((first|(with_reducible apply z8;omega)|(with_reducible apply z55;omega)|(apply z8;omega));intro _)|(apply z193;omega)|apply z108|(apply z261;omega;intro _)|((first|apply z406|apply z308|apply z405|apply z486|apply z5|apply z37|apply z74|apply z87)<;>intro _)|(apply z6 (z326 n 0 7);rfl;rfl))<;>conv=>whnf)
 exact z20 rfl rfl
theorem z592 (l:List Int) (hl:l.length≤maxLen):CallsA Tryz.prog 156 [ints l] [] (.bool (letW l)) []:=by
 have hk:=z187 l hl (fun n=>!btw n 0 7) 215 (fun x _=>z837 x)
 refine z13 z15 Tryz.func156 rfl rfl 6 Tryz.ntmps156 (by simp) ?_
 repeat' ((first|(apply y76 ok;rfl)|(apply z21;kernel_rfl)|(apply y36;first|omega|(unfold inI;omega)|(dsimp only;omega)|((try dsimp only);simp only [y42,y41,y40,y39,y51,y52];omega)|exact z54 (fun _=>rfl)|exact ⟨rfl,z19 rfl z26⟩|exact ⟨rfl,z54 (fun _=>rfl) _⟩|exact ⟨⟨rfl,by omega⟩,z54 (fun _=>rfl) _⟩|(unfold z106;omega)|(simp only [z97] at *;first|omega|(unfold inI;omega)|(unfold z106;omega)))|((first|(with_reducible apply z8;omega)|(with_reducible apply z55;omega)|(apply z8;omega));intro _)|(apply z193;omega)|apply z108|(apply z261;omega;intro _)|((first|apply z406|apply z308|apply z405|apply z486|apply z5|apply z37|apply z74|apply z87)<;>intro _)|(apply z6 (hk);rfl;rfl))<;>conv=>whnf)
 exact z20 rfl rfl
def lasB (t:Trace):Bool:=letW t.stem && (letW t.loop && (decide (t.stem.length≤80) && btw t.loop.length 1 80))
theorem z452 (t:Trace) (h1:t.stem.length≤maxLen) (h2:t.loop.length≤maxLen):CallsA Tryz.prog 78 [.agg t.cs] [] (.bool (lasB t)) []:=by
 have k1:=z592 t.stem h1
 have k2:=z592 t.loop h2
 have k3:=z326 (t.loop.length:Int) 1 80
 unfold maxLen at h1 h2
 unfold lasB
 generalize letW t.stem=a at *
 generalize letW t.loop=b at *
 refine z13 z15 Tryz.func78 rfl rfl 23 Tryz.ntmps78 (by simp) ?_
 cases a<;>cases b
 all_goals
  repeat' ((first|(apply y76 ok;rfl)|(apply z21;kernel_rfl)|(apply y36;first|omega|(unfold inI;omega)|(dsimp only;omega)|((try dsimp only);simp only [y42,y41,y40,y39,y51,y52];omega)|exact z54 (fun _=>rfl)|exact ⟨rfl,z19 rfl z26⟩|exact ⟨rfl,z54 (fun _=>rfl) _⟩|exact ⟨⟨rfl,by omega⟩,z54 (fun _=>rfl) _⟩|(unfold z106;omega)|(simp only [z97] at *;first|omega|(unfold inI;omega)|(unfold z106;omega)))|((first|(with_reducible apply z8;omega)|(with_reducible apply z55;omega)|(apply z8;omega));intro _)|(apply z193;omega)|apply z108|(apply z261;omega;intro _)|((first|apply z406|apply z308|apply z405|apply z486|apply z5|apply z37|apply z74|apply z87)<;>intro _)|(apply z6 (k1);rfl;rfl)|(apply z6 (k2);rfl;rfl)|(apply z6 (k3);rfl;rfl))<;>conv=>whnf)
  all_goals first|(exfalso;omega)|exact z20 rfl rfl|exact z20 rfl (by grind)|skip
def z114 (L:List Int) (t:Trace):Trace:=⟨t.stem.map (pick L),t.loop.map (pick L)⟩
noncomputable def twB (g:Graph) (l:List Tree) (t:Trace):Bool:=glB g l && (trB g t && lasB (z114 (g.st.map (z28 l)) t))
noncomputable def twT (g:Graph) (l:List Tree) (t:Trace):Trace:=if twB g l t then z114 (g.st.map (z28 l)) t else ⟨[],[]⟩
theorem trB_in {g:Graph} {t:Trace} (h:trB g t=true):InN g.st.length t.stem∧InN g.st.length t.loop∧t.stem.length+t.loop.length≤8000:=by
 unfold trB at h
 rw [y63,y63,decide_eq_true_eq] at h
 have key:∀ x∈t.all,0≤x∧x < g.st.length:=fun x hx=>by
  obtain ⟨i,hi,rfl⟩:=List.mem_iff_getElem.1 hx
  exact z513 h.2.1 i hi
 exact ⟨fun x hx=>key x (List.mem_append_left _ hx),fun x hx=>key x (List.mem_append_right _ hx),h.1.2⟩
theorem z882 {g:Graph} {l:List Tree} {t:Trace} : (twT g l t).stem.length≤80∧(twT g l t).loop.length≤80:=by
 unfold twT
 split
 ·rename_i h
  unfold twB lasB at h
  simp only [y63,decide_eq_true_eq,z97] at h
  exact ⟨by omega,by omega⟩
 ·simp
theorem z785 {o p:Nat} {b:AC} : ACle (.tup [.agg [.nils,.nils],b]) (.tup [.agg [.sref o 0 0,.sref p 0 0],b]):=fun G hh v hv=>by
 simp only [V,VL] at hv ⊢
 obtain ⟨c,rfl,hs,⟨u,h1,c2,rfl,hs2,⟨u1,h2,h3⟩,⟨u2,h4,h5⟩,_⟩,hr⟩:=hv
 refine ⟨c,rfl,hs,⟨_,h1,c2,rfl,hs2,⟨u1,h2,?_⟩,⟨u2,h4,?_⟩,trivial⟩,hr⟩
 ·have:=(z651 (o:=o)) G hh u1 (by simpa [V] using h3)
  simpa [V] using this
 ·have:=(z651 (o:=p)) G hh u2 (by simpa [V] using h5)
  simpa [V] using this
set_option maxHeartbeats 1600000 in
theorem z170 (g:Graph) (hg:g.mx) (l:List Tree) (hl:Lmx l) (t:Trace) (h1:t.stem.length≤1048576) (h2:t.loop.length≤1048576):CallsA Tryz.prog 19 [.agg g.cs,lst 3 Tree.cs' l,.agg t.cs] [] (.tup [.agg [.sref 0 0 (twT g l t).stem.length,.sref 1 0 (twT g l t).loop.length],.bool (twB g l t)]) [.cells 1 ((twT g l t).stem.map enI),.cells 1 ((twT g l t).loop.map enI)]:=by
 have k1:=z451 g hg t h1 h2
 have k2:=z334 l hl.1 hl.2
 by_cases hv:(trB g t && z186 l)=true
 ·obtain ⟨ht,hlb⟩:=Bool.and_eq_true_iff.1 hv
  have hgb:z206 g=true:=by
   unfold trB at ht
   rw [y63,y63] at ht
   exact z588 ht.2.1
  have hG:=(z69 g).1 hgb
  have hL:=y7 hlb
  have k3:=z911 g hG.vals hG.1.2 l hL
  obtain ⟨i1,i2,i3⟩:=trB_in ht
  have hLl:(g.st.map (z28 l)).length=g.st.length:=by simp
  have h60:=hG.1.2
  have hglb:glB g l=true:=by unfold glB;rw [hgb,hlb];rfl
  have eb:twB g l t=lasB (z114 (g.st.map (z28 l)) t):=by unfold twB;rw [hglb,ht];rfl
  have et:twT g l t=if lasB (z114 (g.st.map (z28 l)) t) then z114 (g.st.map (z28 l)) t else ⟨[],[]⟩:=by unfold twT;rw [eb]
  rw [eb,et]
  generalize g.st.map (z28 l)=L at *
  have kp1:=z587 L t.stem h1 (by rw [hLl];exact i1) (by omega)
  have kp2:=z587 L t.loop h2 (by rw [hLl];exact i2) (by omega)
  have hw1:(z114 L t).stem.length=t.stem.length:=by simp [z114]
  have hw2:(z114 L t).loop.length=t.loop.length:=by simp [z114]
  have kl:=z452 (z114 L t) (by unfold maxLen;omega) (by unfold maxLen;omega)
  have e1:t.stem.map (pick L)=(z114 L t).stem:=rfl
  have e2:t.loop.map (pick L)=(z114 L t).loop:=rfl
  rw [e1,← hw1] at kp1
  rw [e2,← hw2] at kp2
  rw [ht] at k1
  rw [hlb] at k2
  generalize hW:z114 L t=W at *
  by_cases hb:lasB W=true
  ·rw [hb] at kl ⊢
   rw [if_pos rfl]
   refine z13 z15 Tryz.func19 rfl rfl 37 Tryz.ntmps19 (by simp) ?_
   repeat' ((first|(apply y76 ok;rfl)|(apply z21;kernel_rfl)|(apply y36;first|omega|(unfold inI;omega)|(dsimp only;omega)|((try dsimp only);simp only [y42,y41,y40,y39,y51,y52];omega)|exact z54 (fun _=>rfl)|exact ⟨rfl,z19 rfl z26⟩|exact ⟨rfl,z54 (fun _=>rfl) _⟩|exact ⟨⟨rfl,by omega⟩,z54 (fun _=>rfl) _⟩|(unfold z106;omega)|(simp only [z97] at *;first|omega|(unfold inI;omega)|(unfold z106;omega)))|((first|(with_reducible apply z8;omega)|(with_reducible apply z55;omega)|(apply z8;omega));intro _)|(apply z193;omega)|apply z108|(apply z261;omega;intro _)|((first|apply z406|apply z308|apply z405|apply z486|apply z5|apply z37|apply z74|apply z87)<;>intro _)|(apply z6 (k1);rfl;rfl)|(apply z6 (k2);rfl;rfl)|(apply z6 (k3);rfl;rfl)|((first|(apply z395 [] [] [3] kp1;rfl;(focus ((repeat' first|exact z59|apply z66)<;>first|rfl|(refine z80 rfl ?_;(first|exact z4 fun _=>rfl|exact z34|exact z42 rfl|(apply z70<;>exact z4 fun _=>rfl)|assumption)))))|(apply z395 [] [] [4] kp2;rfl;(focus ((repeat' first|exact z59|apply z66)<;>first|rfl|(refine z80 rfl ?_;(first|exact z4 fun _=>rfl|exact z34|exact z42 rfl|(apply z70<;>exact z4 fun _=>rfl)|assumption)))))|(apply z395 [] [3,4] [] kl;(focus (exact z56 (z1145 (z56 (z102 rfl rfl rfl) (z56 (z102 rfl rfl rfl) z84))) z84));(focus ((repeat' first|exact z59|apply z66)<;>first|rfl|(refine z80 rfl ?_;(first|exact z4 fun _=>rfl|exact z34|exact z42 rfl|(apply z70<;>exact z4 fun _=>rfl)|assumption))))));rfl;(focus ((repeat' first|exact z17|apply z16)<;>first|exact z372|exact z44 rfl rfl|(refine z23 ?_;(first|exact z4 fun _=>rfl|exact z34|exact z42 rfl|(apply z70<;>exact z4 fun _=>rfl)|assumption))));(first|exact .inl rfl|(refine .inr ⟨rfl,?_⟩;repeat' first|exact True.intro|apply y36|exact rfl|exact z121 (fun _=>rfl) _))))<;>conv=>whnf)
   all_goals first|(exfalso;omega)|(exfalso;simp_all;done)|skip
   all_goals exact z110 [3,4] (by decide) rfl rfl rfl ⟨z39 rfl (z4 fun _=>rfl),z39 rfl (z4 fun _=>rfl),trivial⟩
  ·rw [(y64 _).mp hb] at kl ⊢
   rw [if_neg (by simp)]
   refine CallsA.nils (res:=.tup [.agg [.nils,.nils],.bool false]) ?_ (by simp) z785
   refine z13 z15 Tryz.func19 rfl rfl 37 Tryz.ntmps19 (by simp) ?_
   repeat' ((first|(apply y76 ok;rfl)|(apply z21;kernel_rfl)|(apply y36;first|omega|(unfold inI;omega)|(dsimp only;omega)|((try dsimp only);simp only [y42,y41,y40,y39,y51,y52];omega)|exact z54 (fun _=>rfl)|exact ⟨rfl,z19 rfl z26⟩|exact ⟨rfl,z54 (fun _=>rfl) _⟩|exact ⟨⟨rfl,by omega⟩,z54 (fun _=>rfl) _⟩|(unfold z106;omega)|(simp only [z97] at *;first|omega|(unfold inI;omega)|(unfold z106;omega)))|((first|(with_reducible apply z8;omega)|(with_reducible apply z55;omega)|(apply z8;omega));intro _)|(apply z193;omega)|apply z108|(apply z261;omega;intro _)|((first|apply z406|apply z308|apply z405|apply z486|apply z5|apply z37|apply z74|apply z87)<;>intro _)|(apply z6 (k1);rfl;rfl)|(apply z6 (k2);rfl;rfl)|(apply z6 (k3);rfl;rfl)|((first|(apply z395 [] [] [3] kp1;rfl;(focus ((repeat' first|exact z59|apply z66)<;>first|rfl|(refine z80 rfl ?_;(first|exact z4 fun _=>rfl|exact z34|exact z42 rfl|(apply z70<;>exact z4 fun _=>rfl)|assumption)))))|(apply z395 [] [] [4] kp2;rfl;(focus ((repeat' first|exact z59|apply z66)<;>first|rfl|(refine z80 rfl ?_;(first|exact z4 fun _=>rfl|exact z34|exact z42 rfl|(apply z70<;>exact z4 fun _=>rfl)|assumption)))))|(apply z395 [] [3,4] [] kl;(focus (exact z56 (z1145 (z56 (z102 rfl rfl rfl) (z56 (z102 rfl rfl rfl) z84))) z84));(focus ((repeat' first|exact z59|apply z66)<;>first|rfl|(refine z80 rfl ?_;(first|exact z4 fun _=>rfl|exact z34|exact z42 rfl|(apply z70<;>exact z4 fun _=>rfl)|assumption))))));rfl;(focus ((repeat' first|exact z17|apply z16)<;>first|exact z372|exact z44 rfl rfl|(refine z23 ?_;(first|exact z4 fun _=>rfl|exact z34|exact z42 rfl|(apply z70<;>exact z4 fun _=>rfl)|assumption))));(first|exact .inl rfl|(refine .inr ⟨rfl,?_⟩;repeat' first|exact True.intro|apply y36|exact rfl|exact z121 (fun _=>rfl) _))))<;>conv=>whnf)
   all_goals first|(exfalso;omega)|exact z60 rfl rfl rfl|(exfalso;simp_all;done)|skip
 ·have hv:=(y64 _).mp hv
  have eb:twB g l t=false:=by
   unfold twB glB
   revert hv
   cases trB g t<;>cases z186 l<;>cases z206 g<;>simp
  have et:twT g l t=⟨[],[]⟩:=by unfold twT;rw [eb];rfl
  rw [eb,et]
  generalize trB g t=b1 at *
  generalize z186 l=b2 at *
  refine CallsA.nils (res:=.tup [.agg [.nils,.nils],.bool false]) ?_ (by simp) z785
  refine z13 z15 Tryz.func19 rfl rfl 37 Tryz.ntmps19 (by simp) ?_
  cases b1<;>cases b2<;>first|(exfalso;revert hv;decide)|skip
  all_goals
   repeat' ((first|(apply y76 ok;rfl)|(apply z21;kernel_rfl)|(apply y36;first|omega|(unfold inI;omega)|(dsimp only;omega)|((try dsimp only);simp only [y42,y41,y40,y39,y51,y52];omega)|exact z54 (fun _=>rfl)|exact ⟨rfl,z19 rfl z26⟩|exact ⟨rfl,z54 (fun _=>rfl) _⟩|exact ⟨⟨rfl,by omega⟩,z54 (fun _=>rfl) _⟩|(unfold z106;omega)|(simp only [z97] at *;first|omega|(unfold inI;omega)|(unfold z106;omega)))|((first|(with_reducible apply z8;omega)|(with_reducible apply z55;omega)|(apply z8;omega));intro _)|(apply z193;omega)|apply z108|(apply z261;omega;intro _)|((first|apply z406|apply z308|apply z405|apply z486|apply z5|apply z37|apply z74|apply z87)<;>intro _)|(apply z6 (k1);rfl;rfl)|(apply z6 (k2);rfl;rfl))<;>conv=>whnf)
   all_goals first|(exfalso;omega)|exact z60 rfl rfl rfl|(exfalso;simp_all;done)|skip
end Go.Proofs.YtahhobgjcfionaaGreat
namespace Go.Proofs.YtahhobgjcfionaaGreat
open Go.Gl
attribute [local irreducible] z29 AWP z46 z50 z47 RetS z58
def nxW (N s:Nat) (i:Nat):Int:=if i+1=N then (s:Int) else ((i+1:Nat):Int)
def z343 (a:Aut) (word:List Int) (s i:Nat):List (Nat×Int):=a.ed.flatMap (z129 a.acc.length i (word.getD i 0) (nxW word.length s i))
def accW (a:Aut) (word:List Int) (s:Nat):List (List Int):=build (word.length * a.acc.length) ((List.range word.length).flatMap (z343 a word s))
theorem z934 (a:Aut) (word:List Int) (s:Nat):(accW a word s).length=word.length * a.acc.length:=by unfold accW;rw [z71]
theorem nxW_in {N s i:Nat} (hs:s < N) (hi:i < N):0≤nxW N s i∧nxW N s i≤N - 1:=by unfold nxW;split<;>omega
theorem z730 (a:Aut) (ha:a.ed.length≤2048) (word:List Int) (s:Nat):∀ i,((List.range i).flatMap (z343 a word s)).length≤i * 2048:=fun i=>by
 have h5:=z176 (f:=z343 a word s) (c:=2048) (List.range i) (fun j _=>by
  have h6:=z176 (f:=z129 a.acc.length j (word.getD j 0) (nxW word.length s j)) (c:=1) a.ed (fun e _=>by unfold z129;split<;>simp)
  unfold z343
  omega)
 rwa [List.length_range] at h5
theorem z609 {a:Aut} (hA:AutP a) {word:List Int} {s:Nat} (hs:s < word.length) (hN:word.length≤160):(∀ r∈accW a word s,InN (accW a word s).length r)∧InN (accW a word s).length a.ini∧(accW a word s).length≤10240∧(∀ r∈accW a word s,r.length≤1000000000)∧a.ini.length≤1048576:=by
 have hl:=z934 a word s
 have hm2:((word.length * a.acc.length:Nat):Int)=(word.length:Int) * a.acc.length:=by simp
 have ha1:=hA.1
 have hm0:=z99 (a:=(word.length:Int)) (b:=(a.acc.length:Int)) (A:=160) (B:=64) (by omega) (by omega) (by omega) (by omega)
 refine ⟨fun r hr x hx=>?_,fun x hx=>?_,by omega,fun r hr=>?_,?_⟩
 ·rw [hl]
  unfold accW build at hr
  obtain ⟨q,_,rfl⟩:=List.mem_map.1 hr
  obtain ⟨⟨p,v⟩,hp,rfl⟩:=List.mem_map.1 hx
  have hp:=(List.mem_filter.1 hp).1
  obtain ⟨i,hi,hp⟩:=List.mem_flatMap.1 hp
  rw [y53] at hi
  unfold z343 at hp
  obtain ⟨e,he,hp⟩:=List.mem_flatMap.1 hp
  have h1:=nxW_in hs hi
  have h2:=(hA.2.2.2 e he).2.1
  unfold z129 at hp
  split at hp
  ·simp only [y48,Prod.mk.injEq] at hp
   obtain ⟨_,rfl⟩:=hp
   have h3:0≤nxW word.length s i * (a.acc.length:Int):=Int.mul_nonneg h1.1 (by omega)
   have h4:(nxW word.length s i+1) * (a.acc.length:Int)≤word.length * a.acc.length:=Int.mul_le_mul_of_nonneg_right (by omega) (by omega)
   rw [Int.add_mul,Int.one_mul] at h4
   rw [hm2]
   dsimp only
   omega
  ·simp at hp
 ·rw [hl]
  obtain ⟨i,hi,rfl⟩:=List.mem_iff_getElem.1 hx
  have h1:=(hA.2.2.1 i hi hi).1
  have h4:(1:Int) * (a.acc.length:Int)≤word.length * a.acc.length:=Int.mul_le_mul_of_nonneg_right (by omega) (by omega)
  rw [hm2]
  omega
 ·obtain ⟨i,hi,rfl⟩:=List.mem_iff_getElem.1 hr
  have h1:=z184 (N:=word.length * a.acc.length) (ps:=(List.range word.length).flatMap (z343 a word s)) hi
  have h2:=z730 a hA.2.1 word s word.length
  have h3:(accW a word s)[i].length≤((List.range word.length).flatMap (z343 a word s)).length:=h1
  omega
 ·have:=hA.2.2.1.le (by omega);omega
theorem all_ok (t:Trace) (h0:1≤t.loop.length) (h1:t.stem.length+t.loop.length≤1000000):CallsA Tryz.prog 159 [.agg t.cs] [] (ints t.all) []:=by
 have k:=z604 t.stem t.loop (by omega) (by omega)
 have hl:t.all.length=t.stem.length+t.loop.length:=by unfold Trace.all;simp
 refine keepI (n:=t.stem.length+t.loop.length) ?_ hl
 refine z7 z15 Tryz.func159 rfl rfl 9 Tryz.ntmps159 (by simp) ?_
 repeat' ((first|(apply y76 ok;rfl)|(apply z112 [] [1] [2] k;(focus ((repeat' first|exact z84|apply z56)<;>rfl));rfl;rfl;(focus ((repeat' first|exact z17|apply z16)<;>(refine z23 ?_;((exact z4 fun _=>rfl)))));((refine .inr ⟨rfl,?_⟩;repeat' first|exact True.intro|apply y36|exact z121 (fun _=>rfl) _))))<;>conv=>whnf)
 all_goals (refine rsD [2] [] rfl ?_;(repeat' first|exact y78 _|exact z9 _|refine z10 rfl (z4 (fun _=>rfl)) ?_|constructor))
theorem next_ok (t:Trace) (h1:t.stem.length+t.loop.length≤1000000) (i:Nat) (hi:i≤1000000):CallsA Tryz.prog 160 [.agg t.cs,.int i] [] (.int (nxW (t.stem.length+t.loop.length) t.stem.length i)) []:=by
 unfold nxW
 refine z7 z15 Tryz.func160 rfl rfl 20 Tryz.ntmps160 (by simp) ?_
 by_cases h:i+1=t.stem.length+t.loop.length
 ·rw [if_pos h]
  repeat' ((first|(apply y76 ok;rfl)|(apply y36;first|omega|(unfold inI;omega))|((apply z5)<;>intro _))<;>conv=>whnf)
  all_goals try (exfalso;omega)
  all_goals (refine rsD [] [] rfl ?_;(repeat' first|exact y78 _|constructor))
 ·rw [if_neg h]
  repeat' ((first|(apply y76 ok;rfl)|(apply y36;(unfold inI;omega))|((apply z5)<;>intro _))<;>conv=>whnf)
  all_goals try (exfalso;omega)
  all_goals (refine rsD [] [] rfl ?_;(repeat' first|exact y78 _|constructor))
theorem z1086 {l:List Int} (h:letW l=true):∀ x∈l,0≤x∧x≤7:=fun x hx=>by
 unfold letW at h
 simp only [Bool.not_eq_true',List.any_eq_false,Bool.not_eq_eq_eq_not,Bool.not_true,Bool.not_eq_false] at h
 exact z97.1 (by have:=h x hx;simpa using this)
set_option maxHeartbeats 3200000 in
theorem z1009 (a:Aut) (hA:AutP a) (t:Trace) (ht:lasB t=true) (r:Bool) (hr:r=true↔∃ x,RP (accW a t.all t.stem.length) a.ini x∧Cyc (accW a t.all t.stem.length) x∧a.acc.getD (x % a.acc.length).toNat false=true):CallsA Tryz.prog 80 [.agg a.cs,.agg t.cs] [] (.bool r) []:=by
 unfold lasB at ht
 simp only [y63,decide_eq_true_eq,z97] at ht
 obtain ⟨ls1,ls2,hs,hl⟩:=ht
 have hal:t.all.length=t.stem.length+t.loop.length:=by unfold Trace.all;simp
 have hN:t.all.length≤160:=by omega
 have c1:=all_ok t (by omega) (by omega)
 have cn:=fun i (hi:i≤1000000)=>next_ok t (by omega) i hi
 rw [← hal] at cn
 have hlet:∀ i,i < t.all.length→0≤t.all.getD i 0∧t.all.getD i 0≤7:=fun i hi=>by
  rw [z14 hi]
  have hm:=y37 hi
  unfold Trace.all at hm
  rcases List.mem_append.1 hm with h|h
  ·exact z1086 ls1 _ h
  ·exact z1086 ls2 _ h
 obtain ⟨f1,f2,f3,f4,f5⟩:=z609 hA (word:=t.all) (s:=t.stem.length) (by omega) hN
 obtain ⟨⟨a1,a2⟩,a3,a4,a5⟩:=hA
 generalize t.all=word at *
 have hm0:=z99 (a:=(word.length:Int)) (b:=(a.acc.length:Int)) (A:=160) (B:=64) (by omega) (by omega) (by omega) (by omega)
 have hm2:((word.length * a.acc.length:Nat):Int)=(word.length:Int) * a.acc.length:=by simp
 have hm3:((word.length:Int) * a.acc.length).toNat=word.length * a.acc.length:=by omega
 have hpl:=z730 a a3 word t.stem.length
 refine z7 z15 Tryz.func80 rfl rfl 100 Tryz.ntmps80 (by simp) ?_
 repeat' ((first|(apply y76 ok;rfl)|(apply z21;kernel_rfl)|(apply y36;first|(unfold inI;omega)|(dsimp only;omega))|(apply z6 (c1);rfl;rfl))<;>conv=>whnf)
 rw [hm3]
 refine y77 (Gl.Reach.weaken (es':=List.replicate (word.length * a.acc.length) [.own 1 []]) 2 rfl (by rw [y39,y39]) z255 rfl) ?_
 conv=>whnf
 refine z65 (fun i:Nat=>([(2,.ptr 0 none 0),(3,.ptr 1 none 0),(5,ints word),(6,.int a.acc.length),(7,.sref 2 0 (word.length * a.acc.length)),(25,ints word),(26,.int word.length),(27,.int i)],[.cells 3 [a.cs],.cells 2 [t.cs],.cells 1 ((build (word.length * a.acc.length) ((List.range i).flatMap (z343 a word t.stem.length))).map z83)])) (fun i=>i≤word.length) (fun i=>word.length - i) 0 (y46 _) (by refine swR [0,1,2] [] rfl rfl ?_;(repeat' first|exact y78 _|apply y79|refine z10 rfl (z42 rfl) ?_|constructor)<;>((refine z30 ?_;exact (z640 _).symm))) ?_
 intro i hi
 by_cases hi2:i < word.length
 ·have g1:(word.map enI)[i]?=some (enI (word.getD i 0)):=by rw [y44,y38 hi2,z14 hi2];rfl
  have hli:=hlet i hi2
  have hpi:=hpl i
  have hps:(List.range (i+1)).flatMap (z343 a word t.stem.length)=(List.range i).flatMap (z343 a word t.stem.length)++a.ed.flatMap (z129 a.acc.length i (word.getD i 0) (nxW word.length t.stem.length i)):=by
   rw [y54,List.flatMap_append];simp [z343]
  have cni:=cn i (by omega)
  have hnx:0≤nxW word.length t.stem.length i∧nxW word.length t.stem.length i≤word.length - 1:=by
   unfold nxW;split<;>omega
  generalize nxW word.length t.stem.length i=to at *
  generalize word.getD i 0=lt at *
  generalize (List.range i).flatMap (z343 a word t.stem.length)=P0 at *
  have hm4:=z99 (a:=(i:Int)) (b:=(a.acc.length:Int)) (A:=160) (B:=64) (by omega) (by omega) (by omega) (by omega)
  have hm5:=z99 (a:=to) (b:=(a.acc.length:Int)) (A:=160) (B:=64) (by omega) (by omega) (by omega) (by omega)
  repeat' ((first|(apply y76 ok;rfl)|(refine z12 (i:=i) rfl g1 ?_)|(apply y36;omega)|((apply z5)<;>intro _))<;>conv=>whnf)
  all_goals try (exfalso;omega)
  refine z65 (fun k:Nat=>([(2,.ptr 0 none 0),(3,.ptr 1 none 0),(5,ints word),(6,.int a.acc.length),(7,.sref 2 0 (word.length * a.acc.length)),(25,ints word),(26,.int word.length),(27,.int i),(8,.int i),(9,.int lt),(33,lst 4 Trans.cs a.ed),(34,.int a.ed.length),(35,.int k)],[.cells 3 [a.cs],.cells 2 [t.cs],.cells 1 ((build (word.length * a.acc.length) (P0++(a.ed.take k).flatMap (z129 a.acc.length i lt to))).map z83)])) (fun k=>k≤a.ed.length) (fun k=>a.ed.length - k) 0 (y46 _) (by refine swR [0,1,2] [] rfl rfl ?_;(repeat' first|exact y78 _|apply y79|refine z10 rfl (z4 (fun _=>rfl)) ?_|constructor)<;>((refine z30 ?_;rw [List.take_zero];simp))) ?_
  intro k hk
  have hpk:(P0++(a.ed.take k).flatMap (z129 a.acc.length i lt to)).length≤1000000:=by
   have h5:=z176 (f:=z129 a.acc.length i lt to) (c:=1) (a.ed.take k) (fun e _=>by unfold z129;split<;>simp)
   rw [y41] at h5
   rw [y40]
   omega
  by_cases hke:k < a.ed.length
  ·have he:=a5 a.ed[k] (y37 hke)
   unfold z328 at he
   have cT:=z884 a.ed[k] lt hli.1 hli.2 he.2.2.1
   have ge:(a.ed.map Trans.cs)[k]?=some (Trans.cs a.ed[k]):=by rw [y44,y38 hke];rfl
   have hnext:(a.ed.take (k+1)).flatMap (z129 a.acc.length i lt to)=(a.ed.take k).flatMap (z129 a.acc.length i lt to)++z129 a.acc.length i lt to a.ed[k]:=by
    rw [y43 hke,List.flatMap_append];simp
   generalize a.ed[k]=e at *
   by_cases hon:((lt.toNat &&& e.care.toNat:Nat):Int)=e.val
   ·have hpe:z129 a.acc.length i lt to e=[(i * a.acc.length+e.src.toNat,to * a.acc.length+e.dst)]:=by
     unfold z129 onB;rw [if_pos (y73 hon)]
    rw [hpe] at hnext
    rw [y73 hon] at cT
    repeat' ((first|((fail_if_success apply z104 10);(fail_if_success apply z88 10);apply y76 ok;rfl)|(refine z12 (i:=k) rfl ge ?_)|(apply y36;omega)|((apply z5)<;>intro _)|(apply z6 (cT);rfl;rfl))<;>conv=>whnf)
    all_goals try (exfalso;omega)
    have hidx:i * a.acc.length+e.src.toNat < word.length * a.acc.length:=by
     have h1:(i+1) * a.acc.length≤word.length * a.acc.length:=Nat.mul_le_mul_right _ hi2
     rw [Nat.add_mul,Nat.one_mul] at h1
     omega
    have hix:((i:Int) * a.acc.length+e.src).toNat=i * a.acc.length+e.src.toNat:=by
     have e:((i * a.acc.length:Nat):Int)=(i:Int) * a.acc.length:=by simp
     omega
    have hlt2:((i:Int) * a.acc.length+e.src).toNat < word.length * a.acc.length:=by rw [hix];exact hidx
    have hnext2:P0++(a.ed.take (k+1)).flatMap (z129 a.acc.length i lt to)=(P0++(a.ed.take k).flatMap (z129 a.acc.length i lt to))++[(i * a.acc.length+e.src.toNat,to * a.acc.length+e.dst)]:=by rw [hnext,List.append_assoc]
    generalize P0++(a.ed.take k).flatMap (z129 a.acc.length i lt to)=ps at *
    have hlt' : i * a.acc.length+e.src.toNat < (build (word.length * a.acc.length) ps).length:=by rw [z71];exact hidx
    have hmap:i * a.acc.length+e.src.toNat < ((build (word.length * a.acc.length) ps).map z83).length:=by rw [y42];exact hlt'
    have hrl:(build (word.length * a.acc.length) ps)[i * a.acc.length+e.src.toNat].length≤1000000000:=by
     have h1:=z184 (N:=word.length * a.acc.length) (ps:=ps) hlt'
     omega
    refine y77 (Gl.Reach.expose (e:=z83 (build (word.length * a.acc.length) ps)[i * a.acc.length+e.src.toNat]) 2 (i * a.acc.length+e.src.toNat) 0 rfl (by rw [y44,y38 hlt'];rfl) rfl (z214 (fun _=>rfl) _) rfl) ?_
    conv=>whnf
    repeat' ((first|(apply y76 ok;rfl)|(apply z21;kernel_rfl)|(apply z534;exact hix;exact hmap)|(apply y36;first|omega|(unfold inI;omega)|((try dsimp only);simp only [y42,y41,y40,y39,y51,y52];omega)|exact ⟨rfl,z19 rfl z26⟩)|(apply z6 (cni);rfl;rfl))<;>conv=>whnf)
    all_goals refine z25 (k+1) hke (by omega) (Reach.trans (Gl.Reach.absorb 2 6 (i * a.acc.length+e.src.toNat) 0 rfl (z915 hix (by rw [List.length_set];exact hmap)) rfl rfl (by simp) rfl (z70 (fun e he=>(z4 (fun _=>rfl)) e (List.mem_of_mem_take he)) (z208 rfl z34)) rfl) ?_)
    all_goals exact PickL.reach (π:=[0,1,2]) ⟨rfl,by decide,rfl,⟨⟨rfl,rfl⟩,⟨rfl,rfl⟩,⟨rfl,rfl⟩,⟨rfl,rfl⟩,⟨rfl,rfl⟩,⟨rfl,rfl⟩,⟨rfl,rfl⟩,⟨rfl,rfl⟩,⟨rfl,rfl⟩,⟨rfl,rfl⟩,⟨rfl,rfl⟩,⟨rfl,rfl⟩,⟨rfl,rfl⟩,trivial⟩,⟨z24 rfl rfl,z24 rfl rfl,z39 (z51 ((rows_push' hlt' hix (by simp)).trans (by rw [hnext2]))) (z4 fun _=>rfl),trivial⟩⟩
   ·have hpe:z129 a.acc.length i lt to e=[]:=by
     unfold z129 onB;rw [if_neg (by simpa using hon)]
    rw [hpe,y57] at hnext
    rw [y74 hon] at cT
    repeat' ((first|(apply y76 ok;rfl)|(refine z12 (i:=k) rfl ge ?_)|(apply y36;first|omega|(unfold inI;omega))|((apply z5)<;>intro _)|(apply z6 (cT);rfl;rfl))<;>conv=>whnf)
    all_goals try (exfalso;omega)
    all_goals refine z25 (k+1) hke (by omega) (by refine swR [0,1,2] [] rfl rfl ?_;(repeat' first|exact y78 _|apply y79|refine z10 rfl (z4 (fun _=>rfl)) ?_|constructor)<;>((rw [hnext];(repeat' (exact z9 _)))))
  obtain rfl:k=a.ed.length:=by omega
  rw [y49,← hps]
  repeat' ((first|(apply y76 ok;rfl)|(apply y36;first|omega|(unfold inI;omega))|(((with_reducible apply z8;omega));intro _)|((apply z5)<;>intro _))<;>conv=>whnf)
  all_goals try (exfalso;omega)
  all_goals refine z25 (i+1) hi2 (by omega) (by refine swR [0,1,2] [] rfl rfl ?_;(repeat' first|exact y78 _|exact z9 _|apply y79|refine z10 rfl (z4 (fun _=>rfl)) ?_|constructor))
 obtain rfl:i=word.length:=by omega
 have hb:build (word.length * a.acc.length) ((List.range word.length).flatMap (z343 a word t.stem.length))=accW a word t.stem.length:=rfl
 have hrl:=z934 a word t.stem.length
 rw [hb,← hrl]
 clear hb hpl hlet cn
 generalize accW a word t.stem.length=rows at *
 have k2':=z603 rows f1 (by omega) f4
 rw [← z677 rows] at k2'
 have k2:CallsA Tryz.prog 140 [lst 1 encL rows] [] (lst 1 enB (cycB rows)) []:=(by refine y4 (k2') [] [0] rfl rfl rfl ?_ ?_<;>(repeat' first|exact y78 _|((apply z36 rfl rfl rfl);(focus ((repeat ((exact z31 (fun _=>rfl) _)));done));(focus (((simp;done));done)))|constructor))
 clear k2'
 have k3':=z374 rows a.ini f1 f2 (by omega) f4 f5
 rw [← z167 rows a.ini] at k3'
 have k3:CallsA Tryz.prog 99 [lst 1 encL rows,ints a.ini] [] (lst 1 enB (z139 rows a.ini)) []:=(by refine y4 (k3') [] [0] rfl rfl rfl ?_ ?_<;>(repeat' first|exact y78 _|((apply z36 rfl rfl rfl);(focus ((repeat ((exact z31 (fun _=>rfl) _)));done));(focus (((simp;done));done)))|constructor))
 clear k3'
 have hRl:=z167 rows a.ini
 have hCl:=z677 rows
 have hat:∀ i,i < rows.length→((z139 rows a.ini).getD i false=decide (RP rows a.ini (i:Int))∧(cycB rows).getD i false=cycD rows i):=fun i hi=>by
  refine ⟨?_,?_⟩
  ·rw [z14 (by rw [hRl];exact hi)];simp [z139]
  ·rw [z14 (by rw [hCl];exact hi)];simp [cycB]
 have hyes:∀ i,i < rows.length→(z139 rows a.ini).getD i false=true→(cycB rows).getD i false=true→a.acc.getD (i % a.acc.length) false=true→r=true:=fun i hi h1 h2 h3=>by
  rw [(hat i hi).1] at h1
  rw [(hat i hi).2] at h2
  refine hr.2 ⟨(i:Int),of_decide_eq_true h1,z218.1 h2,?_⟩
  rw [← Int.natCast_emod,y69];exact h3
 have hno:(∀ i,i < rows.length→¬ ((z139 rows a.ini).getD i false=true∧(cycB rows).getD i false=true∧a.acc.getD (i % a.acc.length) false=true))→r=false:=fun h=>by
  cases hrr:r with
  |false=>rfl
  |true =>
   exfalso
   obtain ⟨x,h1,h2,h3⟩:=hr.1 hrr
   have hx:=RP.in f1 f2 h1
   have hxe:((x.toNat:Nat):Int)=x:=Int.toNat_of_nonneg hx.1
   refine h x.toNat (by omega) ⟨?_,?_,?_⟩
   ·rw [(hat _ (by omega)).1,hxe];exact y73 h1
   ·rw [(hat _ (by omega)).2];exact z218.2 (by rw [hxe];exact h2)
   ·rw [← hxe,← Int.natCast_emod,y69] at h3;exact h3
 clear hat hr f1 f2 f4
 generalize z139 rows a.ini=RB at *
 generalize cycB rows=CB at *
 repeat' ((first|((fail_if_success apply z104 13);(fail_if_success apply z88 13);apply y76 ok;rfl)|(apply y36;omega)|(((with_reducible apply z8;omega));intro _)|((apply z5)<;>intro _))<;>conv=>whnf)
 all_goals try (exfalso;omega)
 refine y77 (SealL.reach (π:=[0,1]) (Bn:=[2]) (env:=[(2,.ptr 0 none 0),(6,.int a.acc.length),(7,lst 1 encL rows)]) (objs:=[.cells 3 [a.cs],.cells 2 [t.cs]]) ⟨rfl,rfl,by simp,rfl,by intro o ho;simp at ho;rcases ho with rfl|rfl<;>rfl,⟨rfl,rfl,?_,trivial⟩,rfl⟩) ?_
 ·show bor _ _ _ (.sref 2 0 rows.length)=_
  rw [z267 (w:=1) (es:=rows.map z83) rfl rfl rfl (by rw [y42]),z146];rfl
 conv=>whnf
 repeat' ((first|(apply y76 ok;rfl)|(apply z6 (k2);rfl;rfl)|(apply z6 (k3);rfl;rfl))<;>conv=>whnf)
 refine z65 (fun i:Nat=>([(2,.ptr 0 none 0),(6,.int a.acc.length),(12,lst 1 enB CB),(76,lst 1 enB RB),(77,.int RB.length),(78,.int i)],[.cells 3 [a.cs]])) (fun i=>i≤RB.length∧∀ j,j < i→¬ (RB.getD j false=true∧CB.getD j false=true∧a.acc.getD (j % a.acc.length) false=true)) (fun i=>RB.length - i) 0 ⟨y46 _,fun j hj=>by omega⟩ (by refine swR [0] [] rfl rfl ?_;(repeat' first|exact y78 _|apply y79|constructor)) ?_
 rintro i ⟨hi,hbf⟩
 by_cases hi3:i < RB.length
 ·have g1:(RB.map enB)[i]?=some (enB (RB.getD i false)):=by rw [y44,y38 hi3,z14 hi3];rfl
  have g2:(CB.map enB)[i]?=some (enB (CB.getD i false)):=by rw [y44,y38 (by omega),z14 (by omega)];rfl
  have hm:=Nat.mod_lt i (show 0 < a.acc.length by omega)
  have hmi:((i:Int) % (a.acc.length:Int))=((i % a.acc.length:Nat):Int):=by rw [Int.natCast_emod]
  have g3:(a.acc.map enB)[((i:Int) % (a.acc.length:Int)).toNat]?=some (enB (a.acc.getD (i % a.acc.length) false)):=by rw [hmi,y69,y44,y38 hm,z14 hm];rfl
  have hm0' : 0≤(i:Int) % (a.acc.length:Int):=Int.emod_nonneg _ (by omega)
  have hm1' : (i:Int) % (a.acc.length:Int) < a.acc.length:=Int.emod_lt_of_pos _ (by omega)
  have hy:=hyes i (by omega)
  have hn2:¬ (RB.getD i false=true∧CB.getD i false=true∧a.acc.getD (i % a.acc.length) false=true)→∀ j,j < i+1→¬ (RB.getD j false=true∧CB.getD j false=true∧a.acc.getD (j % a.acc.length) false=true):=fun h j hj=>by
   rcases y62 j i with h1|h1
   ·exact hbf j h1
   ·obtain rfl:j=i:=by omega
    exact h
  clear hmi hm hbf hno hyes
  generalize RB.getD i false=b1 at *
  generalize CB.getD i false=b2 at *
  generalize a.acc.getD (i % a.acc.length) false=b3 at *
  by_cases hb:b1=true∧b2=true∧b3=true
  ·obtain ⟨rfl,rfl,rfl⟩:=hb
   obtain rfl:=hy rfl rfl rfl
   repeat' ((first|(apply y76 ok;rfl)|(apply z21;kernel_rfl)|(refine z12 (i:=i) rfl g1 ?_)|(refine z12 (i:=i) rfl g2 ?_)|(refine z12 (i:=((i:Int) % (a.acc.length:Int)).toNat) rfl g3 ?_)|(apply y36;omega)|((apply z5)<;>intro _))<;>conv=>whnf)
   all_goals first|(exfalso;omega)|(refine rsD [] [] rfl ?_;(repeat' first|exact y78 _|constructor))
  ·have hn3:=hn2 hb
   cases b1<;>cases b2<;>cases b3<;>first|(exfalso;exact hb ⟨rfl,rfl,rfl⟩)|skip
   all_goals
    repeat' ((first|(apply y76 ok;rfl)|(apply z21;kernel_rfl)|(refine z12 (i:=i) rfl g1 ?_)|(refine z12 (i:=i) rfl g2 ?_)|(refine z12 (i:=((i:Int) % (a.acc.length:Int)).toNat) rfl g3 ?_)|(apply y36;first|omega|(unfold inI;omega))|((apply z5)<;>intro _))<;>conv=>whnf)
    all_goals try (exfalso;omega)
    all_goals refine z25 (i+1) ⟨hi3,hn3⟩ (by omega) (by refine swR [0] [] rfl rfl ?_;(repeat' first|exact y78 _|apply y79|constructor))
 ·obtain rfl:i=RB.length:=by omega
  have hrf:=hno fun j hj=>hbf j (by omega)
  subst hrf
  repeat' ((first|(apply y76 ok;rfl)|(apply z21;kernel_rfl)|(apply y36;omega)|((first|(with_reducible apply z8;omega)|(with_reducible apply z55;omega));intro _)|((first|apply z5|apply z87)<;>intro _))<;>conv=>whnf)
  all_goals first|(exfalso;omega)|(refine rsD [] [] rfl ?_;(repeat' first|exact y78 _|constructor))
theorem z887 (l:List Int) (i:Nat):List.take ((i:Int).toNat - Int.toNat 0) (List.drop (Int.toNat 0) (List.map enI l))=List.map enI (l.take i):=by
 simp [List.map_take]
theorem z888 (l:List Int) (i:Nat):List.take ((l.length:Int).toNat - (i:Int).toNat) (List.drop (i:Int).toNat (List.map enI l))=List.map enI (l.drop i):=by
 rw [y69,y69,← List.map_drop,y50 (by simp)]
end Go.Proofs.YtahhobgjcfionaaGreat
namespace Go.Proofs.YtahhobgjcfionaaGreat
open Go.Gl
attribute [local irreducible] z29 AWP z46 z50 z47
theorem GB.row {g:Graph} (h:GB g):∀ i (hi:i < g.nx.length),1≤g.nx[i].length∧g.nx[i].length≤60∧InN g.st.length g.nx[i]:=fun i hi=>by
 obtain ⟨⟨g1,g2⟩,g3,g4⟩:=h
 have h4:=g4 i hi hi (by omega)
 refine ⟨by have:=h4.2.1;omega,by have:=h4.2.1;omega,fun x hx=>?_⟩
 obtain ⟨j,hj,rfl⟩:=List.mem_iff_getElem.1 hx
 have:=(h4.2.2.2 j hj hj).1
 omega
end Go.Proofs.YtahhobgjcfionaaGreat
namespace Go.Proofs.YtahhobgjcfionaaGreat
open Go.Gl
attribute [local irreducible] z29 AWP z46 z50 z47 RetS z58
def AccP (a:Aut) (t:Trace):Prop:=∃ x,RP (accW a t.all t.stem.length) a.ini x∧Cyc (accW a t.all t.stem.length) x∧a.acc.getD (x % a.acc.length).toNat false=true
noncomputable def accR (a:Aut) (t:Trace):Bool:=@decide (AccP a t) (Classical.propDecidable _)
theorem z688 {a:Aut} {t:Trace} : accR a t=true↔AccP a t:=by unfold accR;exact @decide_eq_true_iff _ (Classical.propDecidable _)
theorem z226 (a:Aut) (ha:a.mx) (t:Trace) (h1:t.stem.length≤maxLen) (h2:t.loop.length≤maxLen):CallsA Tryz.prog 20 [.agg a.cs,.agg t.cs] [] (.tup [.bool (autB a && lasB t && accR a t),.bool (autB a && lasB t)]) []:=by
 have k1:=z246 a ha
 have k2:=z452 t h1 h2
 by_cases hA:autB a=true
 ·by_cases hL:lasB t=true
  ·have k3:=z1009 a (z96.1 hA) t hL (accR a t) z688
   rw [hA,hL]
   rw [hA] at k1
   rw [hL] at k2
   rw [Bool.true_and,Bool.true_and]
   generalize accR a t=r at *
   refine z7 z15 Tryz.func20 rfl rfl 17 Tryz.ntmps20 (by simp) ?_
   repeat' ((first|(apply y76 ok;rfl)|(apply z6 (k1);rfl;rfl)|(apply z6 (k2);rfl;rfl)|(apply z6 (k3);rfl;rfl))<;>conv=>whnf)
   all_goals (refine rsD [] [] rfl ?_;(repeat' first|exact y78 _|constructor))
  ·have hL:=(y64 _).mp hL
   rw [hA,hL]
   rw [hA] at k1
   rw [hL] at k2
   refine z7 z15 Tryz.func20 rfl rfl 17 Tryz.ntmps20 (by simp) ?_
   repeat' ((first|(apply y76 ok;rfl)|(apply z6 (k1);rfl;rfl)|(apply z6 (k2);rfl;rfl))<;>conv=>whnf)
   all_goals (refine rsD [] [] rfl ?_;(repeat' first|exact y78 _|constructor))
 ·have hA:=(y64 _).mp hA
  rw [hA]
  rw [hA] at k1
  rw [Bool.false_and,Bool.false_and]
  refine z7 z15 Tryz.func20 rfl rfl 17 Tryz.ntmps20 (by simp) ?_
  repeat' ((first|(apply y76 ok;rfl)|(apply z6 (k1);rfl;rfl))<;>conv=>whnf)
  all_goals (refine rsD [] [] rfl ?_;(repeat' first|exact y78 _|constructor))
def wkC (c:List Int) (k:Nat):Int:=if k < c.length then c.getD k 0 else (k:Int)
def wkN (rows:List (List Int)) (c:List Int) (path:List Int) (k:Nat):Int:=(rows.getD (path.getD (path.length - 1) 0).toNat []).getD (wkC c k % (rows.getD (path.getD (path.length - 1) 0).toNat []).length).toNat 0
def wkB (c:List Int) (k:Nat):Bool:=decide (c.length≤k) || (decide (6 < k) || decide (99 < c.getD k 0))
def srcW (path:List Int) (n:Int) (b:Bool):Nat→Nat→Option Nat
 |0,_=>none
 |f+1,i=>if path.getD i 0=n∧b=true then some i else srcW path n b f (i+1)
def wkT (rows:List (List Int)) (c:List Int):Nat→Nat→List Int→Trace
 |0,_,path=>⟨path,[]⟩
 |f+1,k,path=>match srcW path (wkN rows c path k) (wkB c k) path.length 0 with
  |some i=>⟨path.take i,path.drop i⟩
  |none=>wkT rows c f (k+1) (path++[wkN rows c path k])
theorem z796 (rows:List (List Int)) (c:List Int):∀ (f k:Nat) (path:List Int),path.length+f≤71→(wkT rows c f k path).stem.length≤71∧(wkT rows c f k path).loop.length≤71
 |0,_,path,h=>by simp only [wkT];simp;omega
 |f+1,k,path,h=>by
  rw [wkT]
  split
  ·simp only [y41,List.length_drop];omega
  ·exact z796 rows c f (k+1) _ (by simp;omega)
set_option maxHeartbeats 6400000 in
theorem z693 (g:Graph) (hg:g.d) (hG:GB g) (c:List Int) (hc:CodeOk c):CallsA Tryz.prog 23 [.agg g.cs,lst 1 enU c] [] (.agg (wkT g.nx c 70 0 [0]).cs) []:=by
 have hnx:g.nx.length=g.st.length:=hG.2.1
 have h60:=hG.1.2
 have h1:=hG.1.1
 have hlen:=hc.len
 unfold maxLen at hlen
 have hrow:∀ i (hi:i < g.nx.length),1≤g.nx[i].length∧g.nx[i].length≤60∧∀ x∈g.nx[i],0≤x∧x < (g.st.length:Int):=fun i hi=>by
  obtain ⟨a1,a2,a3⟩:=GB.row hG i hi
  exact ⟨a1,by omega,a3⟩
 generalize hR:wkT g.nx c 70 0 [0]=R
 refine z7 z15 Tryz.func23 rfl rfl 85 Tryz.ntmps23 (by simp) ?_
 repeat' (((apply y76 ok;rfl))<;>conv=>whnf)
 refine z65 (fun x:Nat×List Int=>([(1,lst 1 enU c),(2,.ptr 0 none 0),(4,.ptr 1 none 0),(5,.sref 2 0 x.2.length),(6,.int x.1)],[.cells 2 [g.cs],.cells 2 [[.nils,.nils]],.cells 1 (x.2.map enI)])) (fun x=>x.1≤70∧x.2.length=x.1+1∧(∀ y∈x.2,0≤y∧y < (g.st.length:Int))∧wkT g.nx c (70 - x.1) x.1 x.2=R) (fun x=>70 - x.1) (0,[0]) ⟨y46 _,rfl,by simp;omega,hR⟩ (by refine swR [0,1,2] [] rfl rfl ?_;(repeat' first|exact y78 _|apply y79|constructor)) ?_
 rintro ⟨k,path⟩ ⟨hk,hpl,hin,hw⟩
 dsimp only at hk hpl hin hw ⊢
 by_cases hk7:k < 70
 ·rw [show 70 - k=(70 - (k+1))+1 by omega,wkT] at hw
  have hla:path.length - 1 < path.length:=by omega
  have gl:(path.map enI)[path.length - 1]?=some (enI (path.getD (path.length - 1) 0)):=by rw [y44,y38 hla,z14 hla];rfl
  have hx:=hin (path.getD (path.length - 1) 0) (by rw [z14 hla];exact y37 _)
  have est:wkN g.nx c path k=(g.nx.getD (path.getD (path.length - 1) 0).toNat []).getD (wkC c k % (g.nx.getD (path.getD (path.length - 1) 0).toNat []).length).toNat 0:=rfl
  generalize path.getD (path.length - 1) 0=x at *
  have hxn:x.toNat < g.nx.length:=by omega
  have gr:(g.nx.map encL)[x.toNat]?=some (encL (g.nx.getD x.toNat [])):=by rw [y44,y38 hxn,z14 hxn];rfl
  have hr:=hrow x.toNat hxn
  rw [← z14 hxn (d:=[])] at hr
  generalize g.nx.getD x.toNat []=row at *
  have hcb:k < c.length→0≤c.getD k 0∧c.getD k 0≤255:=fun h=>by
   rw [z14 h];exact hc.el _ (y37 h)
  have hcc:wkC c k=if k < c.length then c.getD k 0 else (k:Int):=rfl
  have hbb:wkB c k=true↔(c.length≤k∨6 < k∨99 < c.getD k 0):=by unfold wkB;simp
  have hch:0≤wkC c k:=by
   rw [hcc];split
   ·rename_i h;exact (hcb h).1
   ·omega
  have hm0:0≤wkC c k % (row.length:Int):=Int.emod_nonneg _ (by omega)
  have hm1:wkC c k % (row.length:Int) < row.length:=Int.emod_lt_of_pos _ (by omega)
  have gn:(row.map enI)[(wkC c k % (row.length:Int)).toNat]?=some (enI (wkN g.nx c path k)):=by
   rw [est,y44,y38 (by omega),z14 (by omega)];rfl
  have hn:=hr.2.2 (wkN g.nx c path k) (by rw [est,z14 (by omega)];exact y37 _)
  have gc:k < c.length→(c.map enU)[k]?=some (enU (c.getD k 0)):=fun h=>by
   rw [y44,y38 h,z14 h];rfl
  clear est
  generalize wkN g.nx c path k=n at *
  generalize wkB c k=b at *
  generalize wkC c k=ch at *
  generalize c.getD k 0=v at *
  generalize hS:srcW path n b path.length 0=SR at *
  by_cases hkc:k < c.length
  ·rw [if_pos hkc] at hcc
   subst hcc
   have gc:=gc hkc
   have hcb:=hcb hkc
   have hwr:IntKind.i64.wrap ch=ch:=z216 (by unfold inI;omega)
   repeat' ((first|(apply y76 ok;rfl)|(apply z21;kernel_rfl)|(refine z12 (i:=path.length - 1) (by omega) gl ?_)|(refine z12 (i:=x.toNat) rfl gr ?_)|(refine z12 (i:=k) rfl gc ?_)|(refine y36 hwr ?_)|(refine z12 (i:=(ch % (row.length:Int)).toNat) rfl gn ?_)|(apply y36;first|omega|(unfold inI;omega))|(((with_reducible apply z55;omega));intro _)|((apply z5)<;>intro _))<;>conv=>whnf)
   all_goals try (exfalso;omega)
   refine z65 (fun i:Nat=>([(1,lst 1 enU c),(2,.ptr 0 none 0),(4,.ptr 1 none 0),(5,.sref 2 0 path.length),(6,.int k),(9,.int n),(10,.int i)],[.cells 2 [g.cs],.cells 2 [[.nils,.nils]],.cells 1 (path.map enI)])) (fun i=>i≤path.length∧srcW path n b (path.length - i) i=SR) (fun i=>path.length - i) 0 ⟨y46 _,hS⟩ (by refine swR [0,1,2] [] rfl rfl ?_;(repeat' first|exact y78 _|exact z9 _|apply y79|refine z10 rfl (z4 (fun _=>rfl)) ?_|constructor)) ?_
   rintro i ⟨hi,hSi⟩
   dsimp only at hi hSi ⊢
   by_cases hil:i < path.length
   ·have gy:(path.map enI)[i]?=some (enI (path.getD i 0)):=by rw [y44,y38 hil,z14 hil];rfl
    rw [show path.length - i=(path.length - (i+1))+1 by omega,srcW] at hSi
    generalize path.getD i 0=y at *
    by_cases hy:y=n∧b=true
    ·rw [if_pos hy] at hSi
     subst hSi
     dsimp only at hw
     subst hw
     obtain ⟨rfl,rfl⟩:=hy
     have hb3:=hbb.1 rfl
     repeat' ((first|((fail_if_success apply z104 14);(fail_if_success apply z88 14);apply y76 ok;rfl)|(refine z12 (i:=i) rfl gy ?_)|(refine z12 (i:=k) rfl gc ?_)|(apply y36;omega)|((apply z5)<;>intro _))<;>conv=>whnf)
     all_goals try (exfalso;omega)
     all_goals
      refine y77 (y80 (env:=[(4,.ptr 1 none 0),(5,ints path),(10,.int i)]) (objs:=[.cells 2 [g.cs],.cells 2 [[.nils,.nils]]]) [0,1] [2] rfl rfl rfl rfl ?_ ?_) ?_
      ·(repeat' first|exact y78 _|((apply z36 rfl rfl rfl);(focus ((repeat ((exact z31 (fun _=>rfl) _)));done));(focus (((simp;done));done)))|constructor)
      ·(repeat' first|exact y78 _|apply y79|constructor)
      conv=>whnf
      repeat' ((first|(apply y76 ok;rfl)|(apply z21;kernel_rfl)|(apply y36;omega))<;>conv=>whnf)
      all_goals (refine rsD [] [] rfl ?_;(repeat' first|apply z41|(refine z81 ?_ ?_;(focus (simp;done)))|constructor))
      all_goals first|refine z81 ?_ (z30 ?_)|refine z30 ?_
      all_goals first|exact z887 path i|exact z888 path i|(show (i:Int).toNat - Int.toNat 0=(List.take i path).length;rw [y41];omega)
    ·rw [if_neg hy] at hSi
     have hy2:y=n→¬ (c.length≤k∨6 < k∨99 < ch):=fun h1 h2=>hy ⟨h1,hbb.2 h2⟩
     repeat' ((first|(apply y76 ok;rfl)|(apply z21;kernel_rfl)|(refine z12 (i:=i) rfl gy ?_)|(refine z12 (i:=k) rfl gc ?_)|(apply y36;first|omega|(unfold inI;omega))|((apply z5)<;>intro _))<;>conv=>whnf)
     all_goals try (exfalso;omega)
     all_goals refine z25 (i+1) ⟨hil,hSi⟩ (by show path.length - (i+1) < path.length - i;omega) (by refine swR [0,1,2] [] rfl rfl ?_;(repeat' first|exact y78 _|exact z9 _|apply y79|refine z10 rfl (z4 (fun _=>rfl)) ?_|constructor))
   ·obtain rfl:i=path.length:=by omega
    rw [Nat.sub_self,srcW] at hSi
    subst hSi
    dsimp only at hw
    repeat' ((first|(apply y76 ok;rfl)|(apply z21;kernel_rfl)|(apply y36;first|omega|(unfold inI;omega)|((try dsimp only);simp only [y42,y41,y40,y39,y51,y52];omega)|exact ⟨rfl,z19 rfl z26⟩)|((first|(with_reducible apply z8;omega)|(apply z8;omega));intro _)|((apply z5)<;>intro _))<;>conv=>whnf)
    all_goals try (exfalso;omega)
    all_goals refine z25 (k+1,path++[n]) ⟨by show k+1≤70;omega,by simp;omega,fun z hz=>by rcases List.mem_append.1 hz with h|h;exact hin z h;rw [List.mem_singleton.1 h];exact hn,hw⟩ (by show 70 - (k+1) < 70 - k;omega) (by refine swR [0,1,4] [] rfl rfl ?_;(repeat' first|exact y78 _|(refine z38 ?_;((simp;done)))|apply y79|((refine z33 rfl ?_ ?_);(focus ((repeat' (first|exact z4 (fun _=>rfl)|apply z22));done)))|(refine z76 ?_ ?_;(focus (omega)))|constructor))
  ·rw [if_neg hkc] at hcc
   clear gc hcb
   subst hcc
   repeat' ((first|(apply y76 ok;rfl)|(apply z21;kernel_rfl)|(refine z12 (i:=path.length - 1) (by omega) gl ?_)|(refine z12 (i:=x.toNat) rfl gr ?_)|(refine z12 (i:=((k:Int) % (row.length:Int)).toNat) rfl gn ?_)|(apply y36;first|omega|(unfold inI;omega))|((first|(with_reducible apply z8;omega)|(with_reducible apply z55;omega));intro _)|((apply z5)<;>intro _))<;>conv=>whnf)
   all_goals try (exfalso;omega)
   refine z65 (fun i:Nat=>([(1,lst 1 enU c),(2,.ptr 0 none 0),(4,.ptr 1 none 0),(5,.sref 2 0 path.length),(6,.int k),(9,.int n),(10,.int i)],[.cells 2 [g.cs],.cells 2 [[.nils,.nils]],.cells 1 (path.map enI)])) (fun i=>i≤path.length∧srcW path n b (path.length - i) i=SR) (fun i=>path.length - i) 0 ⟨y46 _,hS⟩ (by refine swR [0,1,2] [] rfl rfl ?_;(repeat' first|exact y78 _|exact z9 _|apply y79|refine z10 rfl (z4 (fun _=>rfl)) ?_|constructor)) ?_
   rintro i ⟨hi,hSi⟩
   dsimp only at hi hSi ⊢
   by_cases hil:i < path.length
   ·have gy:(path.map enI)[i]?=some (enI (path.getD i 0)):=by rw [y44,y38 hil,z14 hil];rfl
    rw [show path.length - i=(path.length - (i+1))+1 by omega,srcW] at hSi
    generalize path.getD i 0=y at *
    by_cases hy:y=n∧b=true
    ·rw [if_pos hy] at hSi
     subst hSi
     dsimp only at hw
     subst hw
     obtain ⟨rfl,rfl⟩:=hy
     have hb3:=hbb.1 rfl
     repeat' ((first|((fail_if_success apply z104 14);(fail_if_success apply z88 14);apply y76 ok;rfl)|(refine z12 (i:=i) rfl gy ?_)|(apply y36;omega)|(((with_reducible apply z8;omega));intro _)|((apply z5)<;>intro _))<;>conv=>whnf)
     all_goals try (exfalso;omega)
     all_goals
      refine y77 (y80 (env:=[(4,.ptr 1 none 0),(5,ints path),(10,.int i)]) (objs:=[.cells 2 [g.cs],.cells 2 [[.nils,.nils]]]) [0,1] [2] rfl rfl rfl rfl ?_ ?_) ?_
      ·(repeat' first|exact y78 _|((apply z36 rfl rfl rfl);(focus ((repeat ((exact z31 (fun _=>rfl) _)));done));(focus (((simp;done));done)))|constructor)
      ·(repeat' first|exact y78 _|apply y79|constructor)
      conv=>whnf
      repeat' ((first|(apply y76 ok;rfl)|(apply z21;kernel_rfl)|(apply y36;omega))<;>conv=>whnf)
      all_goals (refine rsD [] [] rfl ?_;(repeat' first|apply z41|(refine z81 ?_ ?_;(focus (simp;done)))|constructor))
      all_goals first|refine z81 ?_ (z30 ?_)|refine z30 ?_
      all_goals first|exact z887 path i|exact z888 path i|(show (i:Int).toNat - Int.toNat 0=(List.take i path).length;rw [y41];omega)
    ·rw [if_neg hy] at hSi
     have hy2:y=n→¬ (c.length≤k∨6 < k∨99 < v):=fun h1 h2=>hy ⟨h1,hbb.2 h2⟩
     repeat' ((first|(apply y76 ok;rfl)|(apply z21;kernel_rfl)|(refine z12 (i:=i) rfl gy ?_)|(apply y36;first|omega|(unfold inI;omega))|(((with_reducible apply z8;omega));intro _)|((apply z5)<;>intro _))<;>conv=>whnf)
     all_goals try (exfalso;omega)
     all_goals refine z25 (i+1) ⟨hil,hSi⟩ (by show path.length - (i+1) < path.length - i;omega) (by refine swR [0,1,2] [] rfl rfl ?_;(repeat' first|exact y78 _|exact z9 _|apply y79|refine z10 rfl (z4 (fun _=>rfl)) ?_|constructor))
   ·obtain rfl:i=path.length:=by omega
    rw [Nat.sub_self,srcW] at hSi
    subst hSi
    dsimp only at hw
    repeat' ((first|(apply y76 ok;rfl)|(apply z21;kernel_rfl)|(apply y36;first|omega|(unfold inI;omega)|((try dsimp only);simp only [y42,y41,y40,y39,y51,y52];omega)|exact ⟨rfl,z19 rfl z26⟩)|((first|(with_reducible apply z8;omega)|(apply z8;omega));intro _)|((apply z5)<;>intro _))<;>conv=>whnf)
    all_goals try (exfalso;omega)
    all_goals refine z25 (k+1,path++[n]) ⟨by show k+1≤70;omega,by simp;omega,fun z hz=>by rcases List.mem_append.1 hz with h|h;exact hin z h;rw [List.mem_singleton.1 h];exact hn,hw⟩ (by show 70 - (k+1) < 70 - k;omega) (by refine swR [0,1,4] [] rfl rfl ?_;(repeat' first|exact y78 _|(refine z38 ?_;((simp;done)))|apply y79|((refine z33 rfl ?_ ?_);(focus ((repeat' (first|exact z4 (fun _=>rfl)|apply z22));done)))|(refine z76 ?_ ?_;(focus (omega)))|constructor))
 ·obtain rfl:k=70:=by omega
  rw [show 70 - 70=0 by omega,wkT] at hw
  subst hw
  repeat' (((apply y76 ok;rfl))<;>conv=>whnf)
  all_goals (refine rsD [] [2] rfl ?_;(repeat' first|exact y78 _|exact z53|((apply z36 rfl rfl rfl);(focus ((repeat ((exact z31 (fun _=>rfl) _)));done));(focus (((simp;done));done)))|apply z41|constructor))
theorem z396 {N:Nat} {ps:List (Nat×Int)} {r:Nat} {y:Int} : y∈(build N ps).getD r []↔r < N∧(r,y)∈ps:=by
 by_cases h:r < N
 ·rw [z14 (by rw [z71];exact h),z397 (by rw [z71];exact h)]
  simp only [List.mem_map,List.mem_filter,beq_iff_eq,h,true_and]
  constructor
  ·rintro ⟨⟨p,v⟩,⟨h1,h2⟩,h3⟩
   dsimp only at h2 h3
   subst h2;subst h3;exact h1
  ·intro h1;exact ⟨(r,y),⟨h1,rfl⟩,rfl⟩
 ·have e:(build N ps).getD r []=[]:=by rw [y60,y61 (by rw [z71];omega)];rfl
  rw [e];simp [h]
theorem z1159 {a:Aut} {word:List Int} {s r:Nat} {y:Int} (h:y∈(accW a word s).getD r []):∃ i e,i < word.length∧e∈a.ed∧onB e (word.getD i 0)=true∧r=i * a.acc.length+e.src.toNat∧y=nxW word.length s i * a.acc.length+e.dst:=by
 unfold accW at h
 obtain ⟨_,h⟩:=z396.1 h
 obtain ⟨i,hi,h⟩:=List.mem_flatMap.1 h
 unfold z343 at h
 obtain ⟨e,he,h⟩:=List.mem_flatMap.1 h
 unfold z129 at h
 split at h
 ·rename_i hon
  simp only [y48,Prod.mk.injEq] at h
  exact ⟨i,e,List.mem_range.1 hi,he,hon,h.1,h.2⟩
 ·cases h
theorem z1066 {g:Graph} {ls:List Int} {a:Aut} {i:Nat} {to:Int} {e:Trans} (hsrc:e.src.toNat < a.acc.length) (hi:i < g.st.length) (hto:to∈g.nx.getD i []) (he:e∈a.ed) (hon:onB e (ls.getD i 0)=true):to * a.acc.length+e.dst∈(z27 g ls a).getD (i * a.acc.length+e.src.toNat) []:=by
 unfold z27
 refine z396.2 ⟨?_,List.mem_flatMap.2 ⟨i,List.mem_range.2 hi,?_⟩⟩
 ·have h1:(i+1) * a.acc.length≤g.st.length * a.acc.length:=Nat.mul_le_mul_right _ hi
  rw [Nat.add_mul,Nat.one_mul,Nat.mul_comm g.st.length] at h1
  omega
 ·unfold z419
  refine List.mem_flatMap.2 ⟨to,hto,List.mem_flatMap.2 ⟨e,he,?_⟩⟩
  unfold z129
  rw [if_pos hon];simp
def homN (all:List Int) (n:Nat) (x:Int):Int:=all.getD (x / n).toNat 0 * n+x % n
theorem z853 {all:List Int} {n:Nat} {i:Int} {q:Int} (h0:0≤q) (h1:q < n):homN all n (i * n+q)=all.getD i.toNat 0 * n+q:=by
 unfold homN
 have hn:(n:Int)≠0:=by omega
 have e1:(i * n+q) / (n:Int)=i:=by rw [Int.add_comm,Int.add_mul_ediv_right _ _ hn,Int.ediv_eq_zero_of_lt h0 h1,Int.zero_add]
 have e2:(i * n+q) % (n:Int)=q:=by rw [Int.add_comm,Int.add_mul_emod_self_right,Int.emod_eq_of_lt h0 h1]
 rw [e1,e2]
section
variable {g:Graph} {ls:List Int} {a:Aut} {t:Trace}
theorem z615:(z114 ls t).all=t.all.map (pick ls):=by unfold Trace.all z114;simp
theorem trB_step (ht:trB g t=true) {i:Nat} (hi:i < t.all.length):(0≤t.all.getD i 0∧t.all.getD i 0 < g.st.length)∧t.all.getD (nxW t.all.length t.stem.length i).toNat 0∈g.nx.getD (t.all.getD i 0).toNat []:=by
 have h0:=ht
 unfold trB at ht
 simp only [y63,decide_eq_true_eq] at ht
 obtain ⟨⟨a1,a2⟩,a3,a4,a5⟩:=ht
 have hal:t.all.length=t.stem.length+t.loop.length:=by unfold Trace.all;simp
 have hin:=z513 a3 i hi
 have hst:∀ i,i < t.all.length→z340 g t.all i=true:=fun i hi=>by
  unfold z285 at a3
  rw [y63,y63,y70] at a3
  exact a3.2.2 i (List.mem_range.2 hi)
 refine ⟨by rw [z14 hi];exact hin,?_⟩
 unfold nxW
 split
 ·rename_i h
  have e1:t.all.getD t.stem.length 0=t.loop.getD 0 0:=by
   unfold Trace.all
   rw [y60,y60,y59 (y45 _),Nat.sub_self]
  have e2:t.all.getD i 0=t.loop.getD (t.loop.length - 1) 0:=by
   unfold Trace.all
   rw [y60,y60,y59 (by omega),show i - t.stem.length=t.loop.length - 1 by omega]
  rw [y69,e1,e2];exact a5
 ·have h2:=hst (i+1) (by omega)
  unfold z340 at h2
  simp only [y63,Bool.or_eq_true,decide_eq_true_eq] at h2
  rw [y69]
  rcases h2.2 with h3|h3
  ·omega
  ·rwa [Nat.add_sub_cancel] at h3
theorem z913 (hA:AutP a) (ht:trB g t=true) {x y:Int} (hx:0≤x) (h:y∈(accW a (z114 ls t).all (z114 ls t).stem.length).getD x.toNat []):homN t.all a.acc.length y∈(z27 g ls a).getD (homN t.all a.acc.length x).toNat []:=by
 obtain ⟨i,e,hi,he,hon,hr,rfl⟩:=z1159 h
 rw [z615] at hi hon ⊢
 have hsl:(z114 ls t).stem.length=t.stem.length:=by simp [z114]
 rw [hsl,y42]
 rw [y42] at hi
 have hE:=hA.2.2.2 e he
 unfold z328 at hE
 obtain ⟨h1,h2⟩:=trB_step ht hi
 have hm:((i * a.acc.length:Nat):Int)=(i:Int) * a.acc.length:=by simp
 have hxe:x=(i:Int) * a.acc.length+e.src:=by omega
 rw [hxe,z853 hE.1.1 (by omega),z853 hE.2.1.1 (by omega),y69]
 have hl:(t.all.map (pick ls)).getD i 0=ls.getD (t.all.getD i 0).toNat 0:=by
  rw [z14 (by simpa using hi),List.getElem_map,z14 hi];rfl
 rw [hl] at hon
 have:=z1066 (g:=g) (ls:=ls) (a:=a) (i:=(t.all.getD i 0).toNat) (e:=e) (by omega) (by omega) h2 he hon
 have e3:(t.all.getD i 0 * (a.acc.length:Int)+e.src).toNat=(t.all.getD i 0).toNat * a.acc.length+e.src.toNat:=by
  have e4:(((t.all.getD i 0).toNat * a.acc.length:Nat):Int)=t.all.getD i 0 * a.acc.length:=by
   rw [Int.natCast_mul,Int.toNat_of_nonneg h1.1]
  omega
 rw [e3]
 exact this
theorem hom_rp (hA:AutP a) (ht:trB g t=true) {ini ini' : List Int} (hi:∀ x∈ini,0≤x∧homN t.all a.acc.length x∈ini') {x:Int} (h:RP (accW a (z114 ls t).all (z114 ls t).stem.length) ini x) (hrow:∀ r∈accW a (z114 ls t).all (z114 ls t).stem.length,InN (accW a (z114 ls t).all (z114 ls t).stem.length).length r):0≤x∧RP (z27 g ls a) ini' (homN t.all a.acc.length x):=by
 induction h with
 |base hb=>exact ⟨(hi _ hb).1,.base (hi _ hb).2⟩
 |step h1 h2 ih =>
  obtain ⟨i1,i2⟩:=ih
  exact ⟨(z182 hrow _ _ h2).1,.step i2 (z913 hA ht i1 h2)⟩
theorem acc_hom (hA:AutP a) (ht:trB g t=true) (hl:(z114 ls t).all.length≤160) (h:∃ x,RP (accW a (z114 ls t).all (z114 ls t).stem.length) a.ini x∧Cyc (accW a (z114 ls t).all (z114 ls t).stem.length) x∧a.acc.getD (x % a.acc.length).toNat false=true):¬ z1169 (z27 g ls a) a.ini a.acc:=by
 obtain ⟨x,h1,⟨y,h2,h3⟩,h4⟩:=h
 have hal:t.all.length=t.stem.length+t.loop.length:=by unfold Trace.all;simp
 have h0:=ht
 unfold trB at h0
 simp only [y63,decide_eq_true_eq] at h0
 obtain ⟨⟨a1,a2⟩,a3,a4,a5⟩:=h0
 have hsl:(z114 ls t).stem.length=t.stem.length:=by simp [z114]
 have hwl:(z114 ls t).all.length=t.all.length:=by rw [z615];simp
 obtain ⟨f1,f2,f3,f4,f5⟩:=z609 hA (word:=(z114 ls t).all) (s:=(z114 ls t).stem.length) (by omega) hl
 have hini:∀ x∈a.ini,0≤x∧homN t.all a.acc.length x∈a.ini:=fun x hx=>by
  obtain ⟨i,hi,rfl⟩:=List.mem_iff_getElem.1 hx
  have h5:=(hA.2.2.1 i hi hi).1
  refine ⟨h5.1,?_⟩
  have:=z853 (all:=t.all) (n:=a.acc.length) (i:=0) h5.1 (by omega)
  rw [Int.zero_mul,Int.zero_add,Int.toNat_zero,a4,Int.zero_mul,Int.zero_add] at this
  rw [this];exact hx
 obtain ⟨x0,r1⟩:=hom_rp hA ht hini h1 f1
 have r2:=z913 hA ht x0 h2
 have y0:=(z182 f1 _ _ h2).1
 obtain ⟨_,r3⟩:=hom_rp hA ht (ini':=[homN t.all a.acc.length y]) (fun z hz=>by rw [List.mem_singleton.1 hz];exact ⟨y0,by simp⟩) h3 f1
 intro hno
 have hac:=hA.1
 have h5:=hno _ r1 ⟨_,r2,r3⟩
 have e:homN t.all a.acc.length x % (a.acc.length:Int)=x % a.acc.length:=by
  unfold homN
  rw [Int.add_comm,Int.add_mul_emod_self_right,Int.emod_emod_of_dvd _ (Int.dvd_refl _)]
 rw [e,h4] at h5
 cases h5
end
end Go.Proofs.YtahhobgjcfionaaGreat
namespace Go.Proofs.YtahhobgjcfionaaGreat
open Go.Gl
attribute [local irreducible] z29 AWP z46 z50 z47 RetS z58
set_option maxHeartbeats 12800000 in
theorem z1127 (bs:List Int) (hb:CodeOk bs):∃ (g:Graph) (l:List Tree) (a:Aut) (R:List Int),(g.d∧Lab.d l∧a.sm∧R.length≤3840)∧CallsA Tryz.prog 24 [lst 1 enU bs] [] (.tup [.agg g.cs,lst 3 Tree.cs' l,.agg a.cs,.agg [ints R]]) []:=by
 have co:=z427 bs hb.len
 have hbt:=hb.take
 generalize bs.take 2000=b0 at *
 obtain ⟨g,l,a,p1,⟨hg,hl,ha,q1,q2⟩,c1⟩:=z593 b0 hbt 0 ⟨by omega,by omega⟩
 have hax:a.mx:=⟨by have:=ha.1;unfold maxLen;omega,by have:=ha.2.1;unfold maxLen;omega,by have:=ha.2.2.1;unfold maxLen;omega,ha.2.2.2⟩
 have cM:=z442 g hg.mx l hl.mx a hax
 obtain ⟨m1,m2,m3⟩:=z740 (g:=g) (l:=l) (a:=a)
 have hmN:mkOk g l a=false→mkR g l a=[]:=fun h=>by unfold mkR;rw [h];rfl
 generalize mkR g l a=R0 at *
 generalize mkOk g l a=ok at *
 cases ok
 ·obtain rfl:=hmN rfl
  have hac:=ha.2.1
  have hgs:g.st.length≤100:=by have:=hg.st;omega
  have hn:g.st.length * a.acc.length≤100 * 20:=Nat.mul_le_mul hgs hac
  obtain ⟨zs,pf,h1,h2,h3,h4⟩:=z271 (fun k r z r'=>(0≤z∧z≤3)∧r'=r+1∧CallsA Tryz.prog 92 [.ptr 0 none 0,.int 4] [rdO b0 r] (.int z) [rdO b0 r']) p1 1 (g.st.length * a.acc.length) (fun k r hk b1 b2=>by
   obtain ⟨w,⟨w0,w1⟩,cw⟩:=z57 b0 hbt r 4 (by omega) (by omega) (by omega)
   exact ⟨w,r+1,⟨⟨w0,by omega⟩,rfl,cw⟩,by omega,by omega⟩)
  have h5:=h4 _ (y45 _)
  obtain ⟨RR,hRR⟩:∃ RR:List Int,RR=zs.map fun z=>z - 1:=⟨_,rfl⟩
  have hRl:RR.length=g.st.length * a.acc.length:=by rw [hRR,y42,h1]
  have hRb:Bd 16000000 RR:=fun x hx=>by
   rw [hRR] at hx
   obtain ⟨z,hz,rfl⟩:=List.mem_map.1 hx
   obtain ⟨i,hi,rfl⟩:=List.mem_iff_getElem.1 hz
   have:=(h3 i hi).1
   omega
  obtain ⟨R',p',⟨r1,r2,r3⟩,cb⟩:=z383 b0 hbt (pf (g.st.length * a.acc.length)) ⟨by omega,by omega⟩ RR (by omega) hRb
  refine ⟨g,l,a,R',⟨hg,hl,ha,r1⟩,?_⟩
  rw [← h2] at c1
  have hm:((g.st.length:Nat):Int) * (a.acc.length:Nat)=((g.st.length * a.acc.length:Nat):Int):=by simp
  refine z7 z15 Tryz.func24 rfl rfl 55 Tryz.ntmps24 (by simp) ?_
  repeat' ((first|(apply y76 ok;rfl)|((first|(apply z11 [] [3] co;rfl;rfl)|(apply z11 [3] [] c1;rfl;rfl)|(apply z11 [] [6] cM;rfl;rfl));rfl;(focus ((repeat' first|exact z17|apply z16)<;>first|exact z44 rfl rfl|(refine z23 ?_;((exact z4 fun _=>rfl)))))))<;>conv=>whnf)
  all_goals
   refine z65 (fun k:Nat=>([(2,.ptr 0 none 0),(4,.ptr 1 none 0),(5,.ptr 2 none 0),(6,.ptr 3 none 0),(7,.ptr 4 none 0),(8,lst 3 Tree.cs' l),(9,.ptr 5 none 0),(10,.ptr 6 none 0),(12,.int k)],[.cells 2 [[.nils,.nils]],.cells 3 [[.nils,.nils,.nils]],.cells 1 [[.nils]],rdO b0 (pf k),.cells 2 [g.cs],.cells 3 [a.cs],.cells 1 [[.sref 7 0 (RR.take k).length]],.cells 1 ((RR.take k).map enI)])) (fun k=>k≤g.st.length * a.acc.length) (fun k=>g.st.length * a.acc.length - k) 0 (y46 _) (by refine swR [0,1,2,3,4,5,7,6] [] rfl rfl ?_;(repeat' first|exact y78 _|apply y79|refine z10 rfl (z34) ?_|constructor)) ?_
   intro k hk
   have htl:(RR.take k).length=k:=by rw [y41];omega
   have hm2:0≤((g.st.length:Nat):Int) * (a.acc.length:Nat)∧((g.st.length:Nat):Int) * (a.acc.length:Nat)≤2000:=by rw [hm];omega
   by_cases hk2:k < g.st.length * a.acc.length
   ·have hkz:k < zs.length:=by omega
    obtain ⟨hz,hp,cw⟩:=h3 k hkz
    have hRk:RR[k]'(by omega)=zs[k] - 1:=by simp [hRR]
    have hlt2:(k:Int) < ((g.st.length:Nat):Int) * (a.acc.length:Nat):=by rw [hm];omega
    generalize zs[k]=z at *
    repeat' ((first|(apply y76 ok;rfl)|(apply z21;kernel_rfl)|(refine y36 ?_ ?_;(focus (unfold inI;omega)))|(apply y36;first|((try dsimp only);simp only [y42,y41,y40,y39,y51,y52];omega)|exact ⟨rfl,z19 rfl z26⟩)|((apply z5)<;>intro _)|(apply z18 [3] [] cw;rfl;rfl;rfl))<;>conv=>whnf)
    all_goals try (exfalso;omega)
    all_goals refine z25 (k+1) hk2 (by omega) (by refine swR [0,1,2,3,4,5,6,9] [] rfl rfl ?_;(repeat' first|exact y78 _|(refine z105 ?_;omega)|(refine z38 ?_;((simp;omega)))|apply y79|((refine z33 rfl ?_ ?_);(focus ((repeat' (first|exact z4 (fun _=>rfl)|apply z22));done)))|refine z119 (by omega) (by omega) ?_|constructor))
   ·obtain rfl:k=g.st.length * a.acc.length:=by omega
    have ht:RR.take (g.st.length * a.acc.length)=RR:=by rw [← hRl,y49]
    have hge:¬ ((g.st.length * a.acc.length:Nat):Int) < ((g.st.length:Nat):Int) * (a.acc.length:Nat):=by rw [hm];omega
    rw [ht]
    repeat' ((first|((fail_if_success apply z104 9);(fail_if_success apply z88 9);apply y76 ok;rfl)|(apply y36;(unfold inI;omega))|((apply z5)<;>intro _))<;>conv=>whnf)
    all_goals try (exfalso;omega)
    all_goals
     refine y77 (y80 (env:=[(2,.ptr 0 none 0),(4,.ptr 1 none 0),(5,.ptr 2 none 0),(6,.ptr 3 none 0),(7,.ptr 4 none 0),(8,lst 3 Tree.cs' l),(9,.ptr 5 none 0),(10,.ptr 6 none 0)]) (objs:=[.cells 2 [[.nils,.nils]],.cells 3 [[.nils,.nils,.nils]],.cells 1 [[.nils]],rdO b0 (pf (g.st.length * a.acc.length)),.cells 2 [g.cs],.cells 3 [a.cs],.cells 1 [[ints RR]]]) [0,1,2,3,4,5,6] [7] rfl rfl rfl rfl ?_ ?_) ?_
     ·(repeat' first|exact y78 _|constructor)
     ·(repeat' first|exact y78 _|apply y79|((apply z36 rfl rfl rfl);(focus ((repeat ((exact z31 (fun _=>rfl) _)));done));(focus (((simp;done));done)))|constructor)
     conv=>whnf
     repeat' ((first|(apply y76 ok;rfl)|(apply z21;kernel_rfl)|(apply z18 [3] [] cb;rfl;rfl;rfl))<;>conv=>whnf)
     all_goals (refine rsD [] [] rfl ?_;(repeat' first|exact y78 _|constructor))
 ·obtain ⟨R',p',⟨r1,r2,r3⟩,cb⟩:=z383 b0 hbt p1 ⟨by omega,by omega⟩ R0 (by omega) m3
  refine ⟨g,l,a,R',⟨hg,hl,ha,r1⟩,?_⟩
  refine z7 z15 Tryz.func24 rfl rfl 55 Tryz.ntmps24 (by simp) ?_
  repeat' ((first|((fail_if_success apply z104 9);(fail_if_success apply z88 9);apply y76 ok;rfl)|((first|(apply z11 [] [3] co;rfl;rfl)|(apply z11 [3] [] c1;rfl;rfl)|(apply z11 [] [6] cM;rfl;rfl));rfl;(focus ((repeat' first|exact z17|apply z16)<;>first|exact z44 rfl rfl|(refine z23 ?_;((exact z4 fun _=>rfl)))))))<;>conv=>whnf)
  all_goals
   refine y77 (y80 (env:=[(2,.ptr 0 none 0),(4,.ptr 1 none 0),(5,.ptr 2 none 0),(6,.ptr 3 none 0),(7,.ptr 4 none 0),(8,lst 3 Tree.cs' l),(9,.ptr 5 none 0),(10,.ptr 6 none 0)]) (objs:=[.cells 2 [[.nils,.nils]],.cells 3 [[.nils,.nils,.nils]],.cells 1 [[.nils]],rdO b0 p1,.cells 2 [g.cs],.cells 3 [a.cs],.cells 1 [[ints R0]]]) [0,1,2,3,4,5,7] [6] rfl rfl rfl rfl ?_ ?_) ?_
   ·(repeat' first|exact y78 _|constructor)
   ·(repeat' first|exact y78 _|apply y79|((apply z36 rfl rfl rfl);(focus ((repeat ((exact z31 (fun _=>rfl) _)));done));(focus (((simp;done));done)))|constructor)
   conv=>whnf
   repeat' ((first|(apply y76 ok;rfl)|(apply z21;kernel_rfl)|(apply z18 [3] [] cb;rfl;rfl;rfl))<;>conv=>whnf)
   all_goals (refine rsD [] [] rfl ?_;(repeat' first|exact y78 _|constructor))
theorem z739 {g:Graph} {l:List Tree} {a:Aut} (h:mkOk g l a=true) (t:Trace) (ht:twB g l t=true):accR a (twT g l t)=false:=by
 have F:=z652 h
 have hA:=z96.1 (Bool.and_eq_true_iff.1 F.gl).2
 have e:twT g l t=z114 (g.st.map (z28 l)) t:=by unfold twT;rw [if_pos ht]
 obtain ⟨w1,w2⟩:=z882 (g:=g) (l:=l) (t:=t)
 have htr:trB g t=true:=by
  unfold twB at ht
  exact (Bool.and_eq_true_iff.1 (Bool.and_eq_true_iff.1 ht).2).1
 cases hr:accR a (twT g l t) with
 |false=>rfl
 |true =>
  exfalso
  have hp:=z688.1 hr
  unfold AccP at hp
  rw [e] at hp w1 w2
  exact acc_hom hA htr (by show ((z114 _ t).stem++(z114 _ t).loop).length≤160;rw [y40];omega) hp F.no
set_option maxHeartbeats 6400000 in
theorem z290 (c:List Int) (hc:CodeOk c) (d:List Int) (hd:CodeOk d):CallsA Tryz.prog 4 [lst 1 enU c,lst 1 enU d] [] (.bool true) []:=by
 obtain ⟨g,l,a,R,⟨hg,hl,ha,hR⟩,cd⟩:=z1127 c hc
 have hgm:=hg.mx
 have hlm:=hl.mx
 have hlen:=hc.len
 have hlen2:=hd.len
 unfold maxLen at hlen hlen2
 have ham:=Aut.sm.mx' ha
 have hcm:(Cert.mk R).mx:=by show R.length≤maxLen;unfold maxLen;omega
 have k1:=z209 g hgm l hlm a ham ⟨R⟩ hcm
 have k2:=z152 g hgm l hlm a ham ⟨R⟩ hcm
 change CallsA _ _ [.agg g.cs,lst 3 Tree.cs' l,.agg a.cs,.agg [ints R]] _ _ _ at k1 k2
 by_cases hcb:z275 g l a ⟨R⟩=true
 ·rw [hcb] at k1 k2
  have hmk:=z681 hcb
  have F:=z652 hmk
  have hft:(ftO g l a).isSome=false:=by
   unfold ftO
   rw [if_pos F.gl]
   unfold mkOk at hmk
   have:=(Bool.and_eq_true_iff.1 hmk).2
   simpa using this
  have k3:CallsA Tryz.prog 16 [.agg g.cs,lst 3 Tree.cs' l,.agg a.cs] [] (.tup [.agg (ftL g l a).cs,.bool (ftO g l a).isSome]) []:=(by refine y4 (z171 g hgm l hlm a ham) [] [0,1] rfl rfl rfl ?_ ?_<;>(repeat' first|exact y78 _|((apply z36 rfl rfl rfl);(focus ((repeat ((exact z31 (fun _=>rfl) _)));done));(focus (((simp;done));done)))|apply z41|apply z92|constructor))
  rw [hft] at k3
  have hG:=(z69 g).1 (by
   have:=(Bool.and_eq_true_iff.1 F.gl).1
   unfold glB at this;exact (Bool.and_eq_true_iff.1 this).1)
  have k4:=z693 g hg hG d hd
  obtain ⟨b1,b2⟩:=z796 g.nx d 70 0 [0] (by simp)
  generalize wkT g.nx d 70 0 [0]=t at *
  have k5:CallsA Tryz.prog 19 [.agg g.cs,lst 3 Tree.cs' l,.agg t.cs] [] (.tup [.agg (twT g l t).cs,.bool (twB g l t)]) []:=(by refine y4 (z170 g hgm l hlm t (by omega) (by omega)) [] [0,1] rfl rfl rfl ?_ ?_<;>(repeat' first|exact y78 _|((apply z36 rfl rfl rfl);(focus ((repeat ((exact z31 (fun _=>rfl) _)));done));(focus (((simp;done));done)))|apply z41|apply z92|constructor))
  obtain ⟨w1,w2⟩:=z882 (g:=g) (l:=l) (t:=t)
  have k6:=z226 a ham (twT g l t) (by unfold maxLen;omega) (by unfold maxLen;omega)
  have hacc:twB g l t=true→(autB a && lasB (twT g l t) && accR a (twT g l t))=false:=fun h=>by rw [z739 hmk t h,Bool.and_false]
  generalize (autB a && lasB (twT g l t) && accR a (twT g l t))=rb at *
  generalize (autB a && lasB (twT g l t))=vb at *
  generalize twT g l t=W at *
  generalize twB g l t=wb at *
  generalize ftL g l a=tl at *
  clear F hft hmk hcb
  refine z7 z15 Tryz.func4 rfl rfl 86 Tryz.ntmps4 (by simp) ?_
  cases wb
  ·cases rb
   all_goals
    repeat' ((first|(apply y76 ok;rfl)|(apply z21;kernel_rfl)|((apply z5)<;>intro _)|(apply z6 (cd);rfl;rfl)|(apply z6 (k1);rfl;rfl)|(apply z6 (k2);rfl;rfl)|(apply z6 (k3);rfl;rfl)|(apply z6 (k4);rfl;rfl)|(apply z6 (k5);rfl;rfl)|(apply z6 (k6);rfl;rfl))<;>conv=>whnf)
    all_goals (refine rsD [] [] rfl ?_;(repeat' first|exact y78 _|constructor))
  ·obtain rfl:=hacc rfl
   repeat' ((first|(apply y76 ok;rfl)|(apply z21;kernel_rfl)|((apply z5)<;>intro _)|(apply z6 (cd);rfl;rfl)|(apply z6 (k1);rfl;rfl)|(apply z6 (k2);rfl;rfl)|(apply z6 (k3);rfl;rfl)|(apply z6 (k4);rfl;rfl)|(apply z6 (k5);rfl;rfl)|(apply z6 (k6);rfl;rfl))<;>conv=>whnf)
   all_goals (refine rsD [] [] rfl ?_;(repeat' first|exact y78 _|constructor))
 ·rw [(y64 _).mp hcb] at k1 k2
  refine z7 z15 Tryz.func4 rfl rfl 86 Tryz.ntmps4 (by simp) ?_
  repeat' ((first|(apply y76 ok;rfl)|((apply z5)<;>intro _)|(apply z6 (cd);rfl;rfl)|(apply z6 (k1);rfl;rfl)|(apply z6 (k2);rfl;rfl))<;>conv=>whnf)
  all_goals (refine rsD [] [] rfl ?_;(repeat' first|exact y78 _|constructor))
theorem ftL_le {g:Graph} {l:List Tree} {a:Aut} : (ftL g l a).stem.length≤3841∧(ftL g l a).loop.length≤3841:=by
 unfold ftL ftO
 by_cases h:(glB g l && autB a)=true
 ·rw [if_pos h]
  obtain ⟨h1,hab⟩:=Bool.and_eq_true_iff.1 h
  have hG:=(z69 g).1 (by unfold glB at h1;exact (Bool.and_eq_true_iff.1 h1).1)
  have hA:=z96.1 hab
  obtain ⟨f1,f2,f3,f4,f5⟩:=z117 hG hA (g.st.map (z28 l))
  have hnd:=hA.2.2.1.nd
  unfold trcO
  cases hf:finS (z27 g (g.st.map (z28 l)) a) a.ini a.acc with
  |none=>simp
  |some pq =>
   obtain ⟨p,q⟩:=pq
   rw [← z315 f1 f2 hnd] at hf
   obtain ⟨b1,b2,b3,b4,_⟩:=z838 f1 f2 hnd hf
   simp only [Option.map_some,Option.getD_some,stL,y42,y41]
   omega
 ·rw [if_neg h];simp
set_option maxHeartbeats 3200000 in
theorem z457 (g:Graph) (hg:g.mx) (l:List Tree) (hl:Lmx l) (a:Aut) (ha:a.mx):CallsA Tryz.prog 17 [.agg g.cs,lst 3 Tree.cs' l,.agg a.cs] [] (.tup [.agg (ftL g l a).cs,.bool (ftO g l a).isSome]) []:=by
 have k0:=z115 g hg l hl
 have k1:=z95 a ha
 by_cases hgl:(glB g l && autB a)=true
 ·obtain ⟨h1,hab⟩:=Bool.and_eq_true_iff.1 hgl
  have hG:=(z69 g).1 (by unfold glB at h1;exact (Bool.and_eq_true_iff.1 h1).1)
  have hL:=y7 (by unfold glB at h1;exact (Bool.and_eq_true_iff.1 h1).2)
  have hA:=z96.1 hab
  have k3:=z746 g hG (g.st.map (z28 l)) (by simp) (fun x hx=>by
   obtain ⟨s,_,rfl⟩:=List.mem_map.1 hx
   exact z148 hL s) a hA
  rw [if_pos h1,h1] at k0
  rw [hab] at k1
  have e1:ftO g l a=trcO g (g.st.map (z28 l)) a:=by unfold ftO;rw [if_pos hgl]
  have e2:ftL g l a=⟨(trcL g (g.st.map (z28 l)) a).1,(trcL g (g.st.map (z28 l)) a).2⟩:=by unfold ftL trcL;rw [e1]
  rw [e1,e2]
  generalize g.st.map (z28 l)=ls at *
  generalize (trcO g ls a).isSome=tb at *
  generalize trcL g ls a=tl at *
  refine z7 z15 Tryz.func17 rfl rfl 30 Tryz.ntmps17 (by simp) ?_
  repeat' ((first|(apply y76 ok;rfl)|(apply z6 (k0);rfl;rfl)|(apply z6 (k1);rfl;rfl)|(apply z6 (k3);rfl;rfl))<;>conv=>whnf)
  all_goals (refine rsD [] [] rfl ?_;(repeat' first|exact y78 _|constructor))
 ·have e1:ftO g l a=none:=by unfold ftO;rw [(y64 _).mp hgl];rfl
  have e2:ftL g l a=⟨[],[]⟩:=by unfold ftL;rw [e1];rfl
  rw [e1,e2]
  show CallsA _ _ _ _ (.tup [.agg [.list 1 0 [],.list 1 0 []],.bool false]) _
  generalize (if glB g l=true then g.st.map (z28 l) else [])=ls at *
  refine z7 z15 Tryz.func17 rfl rfl 30 Tryz.ntmps17 (by simp) ?_
  cases hb1:glB g l
  ·rw [hb1] at k0
   repeat' ((first|(apply y76 ok;rfl)|(apply z6 (k0);rfl;rfl))<;>conv=>whnf)
   all_goals (refine rsD [] [] rfl ?_;(repeat' first|exact y78 _|exact z53|apply z41|apply z92|constructor))
  ·rw [hb1] at k0 hgl
   have hb2:autB a=false:=by simpa using hgl
   rw [hb2] at k1
   repeat' ((first|(apply y76 ok;rfl)|(apply z6 (k0);rfl;rfl)|(apply z6 (k1);rfl;rfl))<;>conv=>whnf)
   all_goals (refine rsD [] [] rfl ?_;(repeat' first|exact y78 _|exact z53|apply z41|apply z92|constructor))
theorem z644 {g:Graph} {ls:List Int} {a:Aut} {x y:Int} (hx:0≤x) (h:y∈(z27 g ls a).getD x.toNat []) (hA:AutP a):∃ (i:Nat) (to:Int) (e:Trans),i < g.st.length∧to∈g.nx.getD i []∧e∈a.ed∧onB e (ls.getD i 0)=true∧x / a.acc.length=i∧x % a.acc.length=e.src∧y / a.acc.length=to∧y % a.acc.length=e.dst:=by
 unfold z27 at h
 obtain ⟨_,h⟩:=z396.1 h
 unfold z510 at h
 obtain ⟨i,hi,h⟩:=List.mem_flatMap.1 h
 unfold z419 at h
 obtain ⟨to,hto,h⟩:=List.mem_flatMap.1 h
 unfold z511 at h
 obtain ⟨e,he,h⟩:=List.mem_flatMap.1 h
 unfold z129 at h
 split at h
 ·rename_i hon
  simp only [y48,Prod.mk.injEq] at h
  obtain ⟨h1,h2⟩:=h
  have hE:=hA.2.2.2 e he
  unfold z328 at hE
  have hac:=hA.1
  have hn:(a.acc.length:Int)≠0:=by omega
  have hm:((i * a.acc.length:Nat):Int)=(i:Int) * a.acc.length:=by simp
  have hxe:x=(i:Int) * a.acc.length+e.src:=by omega
  have d1:∀ (b q:Int),0≤q→q < a.acc.length→(b * a.acc.length+q) / (a.acc.length:Int)=b∧(b * a.acc.length+q) % (a.acc.length:Int)=q:=fun b q q0 q1 =>
   ⟨by rw [Int.add_comm,Int.add_mul_ediv_right _ _ hn,Int.ediv_eq_zero_of_lt q0 q1,Int.zero_add],by rw [Int.add_comm,Int.add_mul_emod_self_right,Int.emod_eq_of_lt q0 q1]⟩
  have k1:=d1 i e.src hE.1.1 (by omega)
  have k2:=d1 to e.dst hE.2.1.1 (by omega)
  exact ⟨i,to,e,List.mem_range.1 hi,hto,he,hon,by rw [hxe];exact k1.1,by rw [hxe];exact k1.2,by rw [h2];exact k2.1,by rw [h2];exact k2.2⟩
 ·cases h
structure FndP (g:Graph) (ls:List Int) (a:Aut) (s q:List Int):Prop where
 inn:∀ x∈s++q,0≤x
 path:PathP (z27 g ls a) (s++q)
 ini:(s++q).getD 0 0∈a.ini
 pos:0 < q.length
 back:q.getD 0 0∈(z27 g ls a).getD (q.getD (q.length - 1) 0).toNat []
 acc:a.acc.getD (q.getD 0 0 % a.acc.length).toNat false=true
section
variable {g:Graph} {ls:List Int} {a:Aut} {s q:List Int}
theorem FndP.step (h:FndP g ls a s q) {k:Nat} (hk:k < (s++q).length):(s++q).getD (nxW (s++q).length s.length k).toNat 0∈(z27 g ls a).getD ((s++q).getD k 0).toNat []:=by
 have hl:(s++q).length=s.length+q.length:=by simp
 have hsq:∀ j,(s++q).getD (s.length+j) 0=q.getD j 0:=fun j=>by
  rw [y60,y60,y59 (by omega),show s.length+j - s.length=j by omega]
 have hp:=h.pos
 unfold nxW
 split
 ·rename_i e
  rw [y69,show s.length=s.length+0 by omega,hsq,show k=s.length+(q.length - 1) by omega,hsq]
  exact h.back
 ·rw [y69];exact h.path k (by omega)
theorem z580 {l:List Int} {n k:Nat} (hk:k < l.length):(stL l n).getD k 0=l.getD k 0 / n:=by
 unfold stL;rw [z14 (by simpa using hk),List.getElem_map,z14 hk]
theorem FndP.word (hA:AutP a) (h:FndP g ls a s q) {w:List Int} (hw:w.length=(s++q).length) (hwl:∀ k,k < w.length→w.getD k 0=ls.getD ((s++q).getD k 0 / a.acc.length).toNat 0):∃ x,RP (accW a w s.length) a.ini x∧Cyc (accW a w s.length) x∧a.acc.getD (x % a.acc.length).toNat false=true:=by
 have hac:=hA.1
 have hn:(a.acc.length:Int)≠0:=by omega
 have hl:(s++q).length=s.length+q.length:=by simp
 have hp:=h.pos
 have hsq0:(s++q).getD s.length 0=q.getD 0 0:=by
  rw [y60,y60,y59 (y45 _),Nat.sub_self]
 obtain ⟨P,hP⟩:∃ P:Nat→Int,P=fun (k:Nat)=>(k:Int) * a.acc.length+(s++q).getD k 0 % a.acc.length:=⟨_,rfl⟩
 have hP0:∀ k,0≤P k:=fun k=>by
  rw [hP]
  have:=Int.mul_nonneg (show (0:Int)≤k by omega) (show (0:Int)≤a.acc.length by omega)
  have:=Int.emod_nonneg ((s++q).getD k 0) hn
  dsimp only;omega
 have hPm:∀ k,P k % (a.acc.length:Int)=(s++q).getD k 0 % a.acc.length:=fun k=>by
  rw [hP];dsimp only
  rw [Int.add_comm,Int.add_mul_emod_self_right,Int.emod_emod_of_dvd _ (Int.dvd_refl _)]
 have edge:∀ k,k < w.length→P (nxW w.length s.length k).toNat∈(accW a w s.length).getD (P k).toNat []:=fun k hk=>by
  have hst:=h.step (k:=k) (by omega)
  rw [← hw] at hst
  have hx0:=h.inn ((s++q).getD k 0) (by rw [z14 (by omega)];exact y37 _)
  obtain ⟨i,to,e,h1,h2,h3,h4,h5,h6,h7,h8⟩:=z644 hx0 hst hA
  have hE:=hA.2.2.2 e h3
  unfold z328 at hE
  have hnx:=nxW_in (N:=w.length) (s:=s.length) (i:=k) (by omega) hk
  have hon:onB e (w.getD k 0)=true:=by rw [hwl k hk,h5,y69];exact h4
  have hm:((k * a.acc.length:Nat):Int)=(k:Int) * a.acc.length:=by simp
  have e1:(P k).toNat=k * a.acc.length+e.src.toNat:=by
   rw [hP];dsimp only;rw [h6];omega
  have e2:P (nxW w.length s.length k).toNat=nxW w.length s.length k * a.acc.length+e.dst:=by
   rw [hP];dsimp only;rw [h8,Int.toNat_of_nonneg hnx.1]
  rw [e1,e2]
  unfold accW
  refine z396.2 ⟨?_,List.mem_flatMap.2 ⟨k,List.mem_range.2 hk,?_⟩⟩
  ·have h9:(k+1) * a.acc.length≤w.length * a.acc.length:=Nat.mul_le_mul_right _ hk
   rw [Nat.add_mul,Nat.one_mul] at h9
   omega
  ·unfold z343
   refine List.mem_flatMap.2 ⟨e,h3,?_⟩
   unfold z129
   rw [if_pos hon];simp
 have rp:∀ k,k < w.length→RP (accW a w s.length) a.ini (P k):=by
  intro k
  induction k with
  |zero =>
   intro _
   refine .base ?_
   have hi:=h.ini
   obtain ⟨j,hj,e⟩:=List.mem_iff_getElem.1 hi
   have h5:=(hA.2.2.1 j hj hj).1
   rw [e] at h5
   have:P 0=(s++q).getD 0 0:=by rw [hP];dsimp only;rw [Int.emod_eq_of_lt h5.1 (by omega)];simp
   rw [this];exact hi
  |succ k ih =>
   intro hk
   have:=edge k (by omega)
   unfold nxW at this
   rw [if_neg (by omega),y69] at this
   exact .step (ih (by omega)) this
 have round:∀ d k,k+d+1=w.length→s.length≤k→RP (accW a w s.length) [P k] (P s.length):=by
  intro d
  induction d with
  |zero =>
   intro k hk _
   have:=edge k (by omega)
   unfold nxW at this
   rw [if_pos (by omega),y69] at this
   exact .step (.base (by simp)) this
  |succ d ih =>
   intro k hk hs
   have:=edge k (by omega)
   unfold nxW at this
   rw [if_neg (by omega),y69] at this
   exact RP.trans (.base (by simp)) this (ih (k+1) (by omega) (by omega))
 refine ⟨P s.length,rp _ (by omega),⟨_,edge s.length (by omega),?_⟩,by rw [hPm,hsq0];exact h.acc⟩
 unfold nxW
 split
 ·rw [y69];exact .base (by simp)
 ·rw [y69];exact round (w.length - (s.length+1) - 1) (s.length+1) (by omega) (by omega)
end
end Go.Proofs.YtahhobgjcfionaaGreat
namespace Go.Proofs.YtahhobgjcfionaaGreat
open Go.Gl
attribute [local irreducible] z29 AWP z46 z50 z47 RetS z58
section
variable {g:Graph} {ls:List Int} {a:Aut} {s q:List Int}
theorem FndP.tr (hG:GB g) (hA:AutP a) (h:FndP g ls a s q) (hl8:s.length+q.length≤8000):trB g ⟨stL s a.acc.length,stL q a.acc.length⟩=true:=by
 have hac:=hA.1
 have hl:(s++q).length=s.length+q.length:=by simp
 have hp:=h.pos
 have hall:(Trace.mk (stL s a.acc.length) (stL q a.acc.length)).all=stL (s++q) a.acc.length:=by unfold Trace.all stL;simp
 have hsl:(stL s a.acc.length).length=s.length:=by simp [stL]
 have hql:(stL q a.acc.length).length=q.length:=by simp [stL]
 have hal:(stL (s++q) a.acc.length).length=s.length+q.length:=by simp [stL]
 have inv:∀ k,k < (s++q).length→∃ (i:Nat) (to:Int),i < g.st.length∧to∈g.nx.getD i []∧(s++q).getD k 0 / a.acc.length=i∧(s++q).getD (nxW (s++q).length s.length k).toNat 0 / a.acc.length=to:=fun k hk=>by
  obtain ⟨i,to,e,h1,h2,h3,h4,h5,h6,h7,h8⟩:=z644 (h.inn ((s++q).getD k 0) (by rw [z14 hk];exact y37 _)) (h.step hk) hA
  exact ⟨i,to,h1,h2,h5,h7⟩
 unfold trB
 simp only [y63,decide_eq_true_eq]
 refine ⟨⟨by rw [hql];exact hp,by rw [hsl,hql];exact hl8⟩,?_,?_,?_⟩
 ·rw [hall]
  refine z589 ((z69 _).2 hG) (by rw [hal];omega) fun k hk=>?_
  rw [hal] at hk
  have hk' : k < (s++q).length:=by omega
  obtain ⟨i,to,h1,h2,h3,h4⟩:=inv k hk'
  unfold z340
  rw [z580 hk',h3]
  simp only [y63,Bool.or_eq_true,decide_eq_true_eq]
  refine ⟨⟨by omega,by omega⟩,?_⟩
  by_cases hk0:k=0
  ·exact .inl hk0
  ·right
   obtain ⟨i',to',g1,g2,g3,g4⟩:=inv (k - 1) (by omega)
   unfold nxW at g4
   rw [if_neg (by omega),y69,show k - 1+1=k by omega,h3] at g4
   rw [z580 (by omega),g3,y69,g4]
   exact g2
 ·rw [hall,z580 (by omega)]
  obtain ⟨j,hj,e⟩:=List.mem_iff_getElem.1 h.ini
  have h5:=(hA.2.2.1 j hj hj).1
  rw [e] at h5
  exact Int.ediv_eq_zero_of_lt h5.1 (by omega)
 ·show (stL q a.acc.length).getD 0 0∈g.nx.getD ((stL q a.acc.length).getD ((stL q a.acc.length).length - 1) 0).toNat []
  rw [hql,z580 hp,z580 (by omega)]
  have hx0:=h.inn (q.getD (q.length - 1) 0) (by rw [z14 (by omega)];exact List.mem_append.2 (.inr (y37 _)))
  obtain ⟨i,to,e,h1,h2,h3,h4,h5,h6,h7,h8⟩:=z644 hx0 h.back hA
  rw [h7,h5,y69]
  exact h2
end
theorem z855 {g:Graph} {l:List Tree} {a:Aut} (h1:(glB g l && autB a)=true) {st lp:List Int} (h:ftO g l a=some (st,lp)):∃ s q,FndP g (g.st.map (z28 l)) a s q∧st=stL s a.acc.length∧lp=stL q a.acc.length∧s.length+q.length≤8000:=by
 obtain ⟨h3,hab⟩:=Bool.and_eq_true_iff.1 h1
 have hG:=(z69 g).1 (by unfold glB at h3;exact (Bool.and_eq_true_iff.1 h3).1)
 have hA:=z96.1 hab
 obtain ⟨f1,f2,f3,f4,f5⟩:=z117 hG hA (g.st.map (z28 l))
 have hnd:=hA.2.2.1.nd
 unfold ftO at h
 rw [if_pos h1] at h
 unfold trcO at h
 rw [← z315 f1 f2 hnd,Option.map_eq_some_iff] at h
 obtain ⟨⟨p,q⟩,hpq,e⟩:=h
 simp only [Prod.mk.injEq] at e
 obtain ⟨e1,e2⟩:=e
 obtain ⟨v,s,k1,k2,k3,k4,k5,k6,k7⟩:=las_path f1 f2 hnd hpq
 obtain ⟨b1,b2,b3,b4,b5,b6⟩:=z838 f1 f2 hnd hpq
 subst k2
 have hts:(s++[v]).take ((s++[v]).length - 1)=s:=by simp
 rw [hts] at e1
 rw [y40,List.length_singleton] at b3
 refine ⟨s,q,⟨fun x hx=>?_,k3,k4,k6,by rw [k5];exact k7,by rw [k5];exact k1⟩,e1.symm,e2.symm,by omega⟩
 rcases List.mem_append.1 hx with hx|hx
 ·exact (b1 x (List.mem_append.2 (.inl hx))).1
 ·exact (b2 x hx).1
theorem found_ok {g:Graph} {l:List Tree} {a:Aut} (h1:(glB g l && autB a)=true) (h:(ftO g l a).isSome=true):trB g (ftL g l a)=true∧(twB g l (ftL g l a)=true→accR a (twT g l (ftL g l a))=true):=by
 obtain ⟨h3,hab⟩:=Bool.and_eq_true_iff.1 h1
 have hG:=(z69 g).1 (by unfold glB at h3;exact (Bool.and_eq_true_iff.1 h3).1)
 have hA:=z96.1 hab
 cases hf:ftO g l a with
 |none=>rw [hf] at h;cases h
 |some x =>
  obtain ⟨st,lp⟩:=x
  obtain ⟨s,q,F,rfl,rfl,hl8⟩:=z855 h1 hf
  have e:ftL g l a=⟨stL s a.acc.length,stL q a.acc.length⟩:=by unfold ftL;rw [hf];rfl
  rw [e]
  have htr:=F.tr hG hA hl8
  refine ⟨htr,fun ht=>z688.2 ?_⟩
  have ew:twT g l ⟨stL s a.acc.length,stL q a.acc.length⟩=z114 (g.st.map (z28 l)) ⟨stL s a.acc.length,stL q a.acc.length⟩:=by unfold twT;rw [if_pos ht]
  have hall:(Trace.mk (stL s a.acc.length) (stL q a.acc.length)).all=stL (s++q) a.acc.length:=by unfold Trace.all stL;simp
  unfold AccP
  rw [ew,z615,hall]
  have hsl:(z114 (g.st.map (z28 l)) ⟨stL s a.acc.length,stL q a.acc.length⟩).stem.length=s.length:=by simp [z114,stL]
  rw [hsl]
  refine F.word hA (by simp [stL]) fun k hk=>?_
  have hk' : k < (s++q).length:=by simpa [stL] using hk
  rw [z14 hk,List.getElem_map]
  unfold pick
  congr 2
  rw [← z580 hk',z14 (by simpa [stL] using hk')]
end Go.Proofs.YtahhobgjcfionaaGreat
