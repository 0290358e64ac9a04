/- A part of the proofs over this program: T149, T150, T151, T152, T34, T35, T39, T24, T25, T26, T27. -/
import Derived.Test.YtahhobgjcfionaaGreatG0
import Derived.Test.YtahhobgjcfionaaGreatG1
import Derived.Test.YtahhobgjcfionaaGreatG2
import Derived.Test.YtahhobgjcfionaaGreatG3
import Derived.Test.YtahhobgjcfionaaGreatP0
import Derived.Test.YtahhobgjcfionaaGreatP1
import Derived.Test.YtahhobgjcfionaaGreatP2
import Derived.Test.YtahhobgjcfionaaGreatP3
import Derived.Test.YtahhobgjcfionaaGreatP4
set_option linter.all false
namespace Go.Proofs.YtahhobgjcfionaaGreat
open Go.Gl
attribute [local irreducible] z29 AWP z46 z50 z47 RetS z58
theorem z748 (B:List Tree) (hB:BasL B) (s:Int) (s0:0≤s) (s1:s≤31) (u:Nat) (hu:u < B.length) (hk:(B.getD u dftT).kind=7):CallsA Tryz.prog 237 [lst 3 Tree.cs' B,.int s,.int u] [] (.bool (fulB B s u)) []:=by
 have hl:=hB.len
 have gk:(B.map Tree.cs')[u]?=some (Tree.cs' (B.getD u dftT)):=by rw [y44,y38 hu,z14 hu];rfl
 have hf:=hB.form (x:=B.getD u dftT) (by rw [z14 hu];exact y37 _)
 have cw:=z292 s u s0 s1 (by omega) (by omega)
 have e:fulB B s u=(!hasB s u || kidV B s (B.getD u dftT) 1):=rfl
 rw [e]
 generalize B.getD u dftT=f at *
 generalize hasB s u=x at *
 cases hf with
 |«at» v=>simp [Tree.kind] at hk
 |nx a _ _=>simp [Tree.kind] at hk
 |re a b _ _ _ _=>simp [Tree.kind] at hk
 |un a b ha hb sa sb =>
  have cb:=z169 B hB s s0 s1 b hb sb
  rw [csB2] at gk
  have e2:kidV B s (.mk 7 0 [a,b]) 1=vlB B s b:=by simp [kidV,Tree.kids]
  rw [e2]
  clear e e2
  generalize vlB B s b=y at *
  cases x
  all_goals
   refine z7 z15 Tryz.func237 rfl rfl 23 Tryz.ntmps237 (by simp) ?_
   repeat' ((first|(apply y76 ok;rfl)|(refine z12 (i:=u) rfl gk ?_)|(refine ⟨_,rfl,?_⟩)|(apply y36;omega)|(apply z6 (cw);rfl;rfl)|(apply z6 (cb);rfl;rfl))<;>conv=>whnf)
   all_goals (refine rsD [] [] rfl ?_;(repeat' first|exact y78 _|constructor))
def untL (B:List Tree) (i:Nat):List Int:=((List.range i).filter fun i=>decide ((B.getD i dftT).kind=7)).map Int.ofNat
theorem z1030 (B:List Tree) (i:Nat):untL B (i+1)=untL B i++(if (B.getD i dftT).kind=7 then [(i:Int)] else []):=by
 unfold untL
 rw [y54,List.filter_append,y56]
 congr 1
 by_cases h:(B.getD i dftT).kind=7
 ·rw [if_pos h,List.filter_cons_of_pos (by simpa using h)];rfl
 ·rw [if_neg h,List.filter_cons_of_neg (by simpa using h)];rfl
theorem z621 (B:List Tree) (i:Nat):(untL B i).length≤i:=by
 unfold untL
 rw [y42]
 have:=List.length_filter_le (fun i=>decide ((B.getD i dftT).kind=7)) (List.range i)
 simpa using this
theorem z841 (B:List Tree) (hl:B.length≤1000):CallsA Tryz.prog 190 [lst 3 Tree.cs' B] [] (ints (untB B)) []:=by
 refine z7 z15 Tryz.func190 rfl rfl 23 Tryz.ntmps190 (by simp) ?_
 repeat' (((apply y76 ok;rfl))<;>conv=>whnf)
 refine z65 (fun x:Nat×List Int=>([(0,lst 3 Tree.cs' B),(3,.sref 0 0 x.2.length),(4,.int x.1)],[.cells 1 (x.2.map enI)])) (fun x=>x.1≤B.length∧untL B x.1=x.2) (fun x=>B.length - x.1) (0,[]) ⟨y46 _,rfl⟩ (by refine swR [0] [] rfl rfl ?_;(repeat' first|exact y78 _|refine z10 rfl (z34) ?_|constructor)) ?_
 rintro ⟨i,U⟩ ⟨hi,hU⟩
 dsimp only at hi hU ⊢
 have hul:=z621 B i
 rw [hU] at hul
 by_cases hil:i < B.length
 ·have gk:(B.map Tree.cs')[i]?=some (Tree.cs' (B.getD i dftT)):=by rw [y44,y38 hil,z14 hil];rfl
  have hs:=z1030 B i
  rw [hU] at hs
  generalize B.getD i dftT=f at *
  by_cases hk:f.kind=7
  ·rw [if_pos hk] at hs
   repeat' ((first|(apply y76 ok;rfl)|(refine z12 (i:=i) rfl gk ?_)|(apply y36;first|omega|(unfold inI;omega)|((try dsimp only);simp only [y42,y41,y40,y39,y51,y52];omega)|exact ⟨rfl,z19 rfl z26⟩)|((apply z5)<;>intro _))<;>conv=>whnf)
   all_goals try (exfalso;omega)
   all_goals refine z25 (i+1,U++[(i:Int)]) ⟨by show i+1≤_;omega,hs⟩ (by show B.length - (i+1) < B.length - i;omega) (by refine swR [2] [] rfl rfl ?_;(repeat' first|exact y78 _|(refine z38 ?_;((simp;done)))|((refine z33 rfl ?_ ?_);(focus ((repeat' (first|exact z4 (fun _=>rfl)|apply z22));done)))|(refine z76 ?_ ?_;(focus (omega)))|constructor))
  ·rw [if_neg hk,y57] at hs
   repeat' ((first|(apply y76 ok;rfl)|(refine z12 (i:=i) rfl gk ?_)|(apply y36;first|omega|(unfold inI;omega))|((apply z5)<;>intro _))<;>conv=>whnf)
   all_goals try (exfalso;omega)
   all_goals refine z25 (i+1,U) ⟨by show i+1≤_;omega,hs⟩ (by show B.length - (i+1) < B.length - i;omega) (by refine swR [0] [] rfl rfl ?_;(repeat' first|exact y78 _|exact z9 _|refine z10 rfl (z4 (fun _=>rfl)) ?_|constructor))
 ·obtain rfl:i=B.length:=by omega
  have e:untB B=U:=hU
  rw [e]
  repeat' ((first|(apply y76 ok;rfl)|(apply y36;omega)|(((with_reducible apply z8;omega));intro _)|((apply z5)<;>intro _))<;>conv=>whnf)
  all_goals first|(exfalso;omega)|(refine rsD [] [0] rfl ?_;(repeat' first|exact y78 _|((apply z36 rfl rfl rfl);(focus ((repeat ((exact z31 (fun _=>rfl) _)));done));(focus (((simp;done));done)))|constructor))
theorem untB_mem {B:List Tree} {x:Int} (h:x∈untB B):∃ u:Nat,x=u∧u < B.length∧(B.getD u dftT).kind=7:=by
 unfold untB at h
 obtain ⟨u,hu,rfl⟩:=List.mem_map.1 h
 obtain ⟨h1,h2⟩:=List.mem_filter.1 hu
 exact ⟨u,rfl,List.mem_range.1 h1,of_decide_eq_true h2⟩
theorem z970 (B:List Tree) (hB:BasL B) (s:Int) (s0:0≤s) (s1:s≤31) (ph:Nat) (hp:(untB B).length=0∨ph < (untB B).length):CallsA Tryz.prog 192 [lst 3 Tree.cs' B,ints (untB B),.int s,.int ph] [] (.tup [.int (phB B (untB B) s ph).1,.bool (phB B (untB B) s ph).2]) []:=by
 have hl:=hB.len
 have hul:(untB B).length≤B.length:=z621 B B.length
 have hm:=fun x=>@untB_mem B x
 unfold phB
 generalize untB B=U at *
 by_cases h0:U.length=0
 ·rw [if_pos h0]
  refine z7 z15 Tryz.func192 rfl rfl 28 Tryz.ntmps192 (by simp) ?_
  repeat' ((first|(apply y76 ok;rfl)|(apply y36;omega)|(((with_reducible apply z8;omega));intro _)|((apply z5)<;>intro _))<;>conv=>whnf)
  all_goals first|(exfalso;omega)|(refine rsD [] [] rfl ?_;(repeat' first|exact y78 _|constructor))
 ·rw [if_neg h0]
  have hpl:ph < U.length:=by omega
  have gu:(U.map enI)[ph]?=some (enI (U.getD ph 0)):=by rw [y44,y38 hpl,z14 hpl];rfl
  obtain ⟨u,e,hu,hk⟩:=hm (U.getD ph 0) (by rw [z14 hpl];exact y37 _)
  rw [e] at gu
  have cf:=z748 B hB s s0 s1 u hu hk
  rw [y69,e]
  generalize fulB B s u=z at *
  cases z
  ·refine z7 z15 Tryz.func192 rfl rfl 28 Tryz.ntmps192 (by simp) ?_
   repeat' ((first|(apply y76 ok;rfl)|(refine z12 (i:=ph) rfl gu ?_)|(apply y36;omega)|((apply z5)<;>intro _)|(apply z6 (cf);rfl;rfl))<;>conv=>whnf)
   all_goals first|(exfalso;omega)|(refine rsD [] [] rfl ?_;(repeat' first|exact y78 _|constructor))
  ·refine z7 z15 Tryz.func192 rfl rfl 28 Tryz.ntmps192 (by simp) ?_
   repeat' ((first|(apply y76 ok;rfl)|(refine z12 (i:=ph) rfl gu ?_)|(apply y36;first|omega|(unfold inI;omega))|((apply z5)<;>intro _)|(apply z6 (cf);rfl;rfl))<;>conv=>whnf)
   all_goals try (exfalso;omega)
   all_goals (refine rsD [] [] rfl ?_;(repeat' first|exact y78 _|constructor))
theorem z608 {B:List Tree} {s:Int} (i:Nat):(List.range (i+1)).foldl (atoI B s) (0,0)=atoI B s ((List.range i).foldl (atoI B s) (0,0)) i:=by
 rw [y54,y55];rfl
theorem z901 {c k:Nat} (h:c < 8) (hk:k≤2):c ||| 2 ^ k < 8:=by
 have:k=0∨k=1∨k=2:=by omega
 rcases this with rfl|rfl|rfl<;>exact Nat.or_lt_two_pow (n:=3) h (by decide)
set_option maxHeartbeats 3200000 in
theorem z843 (B:List Tree) (hB:BasL B) (s:Int) (s0:0≤s) (s1:s≤31):CallsA Tryz.prog 193 [lst 3 Tree.cs' B,.int s] [] (.tup [.int (letB B s).1,.int (letB B s).2]) []:=by
 have hl:=hB.len
 refine z7 z15 Tryz.func193 rfl rfl 44 Tryz.ntmps193 (by simp) ?_
 repeat' (((apply y76 ok;rfl))<;>conv=>whnf)
 refine z65 (fun x:Nat×Nat×Nat=>([(0,lst 3 Tree.cs' B),(1,.int s),(6,.int x.2.1),(7,.int x.2.2),(8,.int x.1)],[])) (fun x=>x.1≤B.length∧(List.range x.1).foldl (atoI B s) (0,0)=x.2∧x.2.1 < 8∧x.2.2 < 8) (fun x=>B.length - x.1) (0,0,0) ⟨y46 _,rfl,by decide,by decide⟩ (by refine swR [] [] rfl rfl ?_;(repeat' first|exact y78 _|constructor)) ?_
 rintro ⟨i,c,v⟩ ⟨hi,hf,hc,hv⟩
 dsimp only at hi hf hc hv ⊢
 by_cases hil:i < B.length
 ·have gk:(B.map Tree.cs')[i]?=some (Tree.cs' (B.getD i dftT)):=by rw [y44,y38 hil,z14 hil];rfl
  have hmem:B.getD i dftT∈B:=by rw [z14 hil];exact y37 _
  have hform:=hB.form hmem
  have cw:=z292 s i s0 s1 (by omega) (by omega)
  have hs:=z608 (B:=B) (s:=s) i
  rw [hf] at hs
  unfold atoI at hs
  dsimp only at hs
  by_cases hk:(B.getD i dftT).kind=2
  ·rw [if_pos hk] at hs
   have hvv:∃ a:Nat,(B.getD i dftT).val=a∧a≤2:=by
    generalize B.getD i dftT=f at *
    cases hform with
    |«at» v=>have:=hB.av v hmem;exact ⟨v.toNat,by simp [Tree.val];omega,by omega⟩
    |nx a _ _=>simp [Tree.kind] at hk
    |un a b _ _ _ _=>simp [Tree.kind] at hk
    |re a b _ _ _ _=>simp [Tree.kind] at hk
   obtain ⟨a,ea,ha⟩:=hvv
   have gk2:(B.map Tree.cs')[i]?=some [.int 2,.int a,.list 3 (B.getD i dftT).kids.length ((B.getD i dftT).kids.map Tree.cs)]:=by rw [gk,← hk,← ea];rfl
   have o1:=z901 hc ha
   have o2:=z901 hv ha
   have e:=z1050 a (by omega)
   have hp:=z512 (show a < 3 by omega)
   have hw:IntKind.u64.wrap (a:Int)=a:=by
    have:a=0∨a=1∨a=2:=by omega
    rcases this with rfl|rfl|rfl<;>rfl
   rw [ea,y69] at hs
   clear gk hform hmem hk ea
   generalize hasB s i=z at *
   generalize (B.getD i dftT).kids=ks at *
   cases z
   ·rw [if_neg (by simp)] at hs
    repeat' ((first|(apply y76 ok;rfl)|(refine z12 (i:=i) rfl gk2 ?_)|(apply y36;first|omega|(unfold inI;omega))|((apply z5)<;>intro _))<;>conv=>whnf)
    all_goals try (exfalso;omega)
    refine y36 (by rw [e];unfold z106;omega) ?_
    conv=>whnf
    repeat' ((first|(apply y76 ok;rfl)|(apply y36;(unfold inI;omega))|(apply z6 (cw);rfl;rfl))<;>conv=>whnf)
    all_goals refine z25 (i+1,c ||| 2 ^ a,v) ⟨by show i+1≤_;omega,hs,o1,hv⟩ (by show B.length - (i+1) < B.length - i;omega) (by refine swR [] [] rfl rfl ?_;(repeat' first|exact y78 _|constructor)<;>((rw [e];exact y78 _)))
   ·rw [if_pos rfl] at hs
    repeat' ((first|(apply y76 ok;rfl)|(refine z12 (i:=i) rfl gk2 ?_)|(apply y36;first|omega|(unfold inI;omega))|((apply z5)<;>intro _))<;>conv=>whnf)
    all_goals try (exfalso;omega)
    refine y36 (by rw [e];unfold z106;omega) ?_
    conv=>whnf
    repeat' ((first|(apply y76 ok;rfl)|(refine z12 (i:=i) rfl gk2 ?_)|(apply y36;first|omega|(unfold inI;omega))|(apply z6 (cw);rfl;rfl))<;>conv=>whnf)
    refine y36 (by rw [e];unfold z106;omega) ?_
    conv=>whnf
    repeat' ((first|(apply y76 ok;rfl)|(apply y36;(unfold inI;omega)))<;>conv=>whnf)
    all_goals refine z25 (i+1,c ||| 2 ^ a,v ||| 2 ^ a) ⟨by show i+1≤_;omega,hs,o1,o2⟩ (by show B.length - (i+1) < B.length - i;omega) (by refine swR [] [] rfl rfl ?_;(repeat' first|exact y78 _|constructor)<;>((rw [e];exact y78 _)))
  ·rw [if_neg hk] at hs
   generalize B.getD i dftT=f at *
   repeat' ((first|(apply y76 ok;rfl)|(refine z12 (i:=i) rfl gk ?_)|(apply y36;first|omega|(unfold inI;omega))|((apply z5)<;>intro _)|(apply z6 (cw);rfl;rfl))<;>conv=>whnf)
   all_goals try (exfalso;omega)
   all_goals refine z25 (i+1,c,v) ⟨by show i+1≤_;omega,hs,hc,hv⟩ (by show B.length - (i+1) < B.length - i;omega) (by refine swR [] [] rfl rfl ?_;(repeat' first|exact y78 _|constructor))
 ·obtain rfl:i=B.length:=by omega
  have e:letB B s=(c,v):=hf
  rw [e]
  repeat' ((first|(apply y76 ok;rfl)|(apply y36;omega)|(((with_reducible apply z8;omega));intro _)|((apply z5)<;>intro _))<;>conv=>whnf)
  all_goals first|(exfalso;omega)|(refine rsD [] [] rfl ?_;(repeat' first|exact y78 _|constructor))
theorem z1092 (L:List (List Int)) (hL:L.length≤1000) (hr:∀ r∈L,r.length≤1000) (p:List Int) (hp:p.length≤1000):CallsA Tryz.prog 195 [.sref 0 0 L.length,.sref 1 0 p.length] [.cells 1 (L.map encL),.cells 1 (p.map enI)] (.tup [.sref 2 0 (z422 L p).length,.int (z732 L p)]) [.dead,.dead,.cells 1 ((z422 L p).map encL)]:=by
 have hc:∀ i (h:i < L.length),CallsA Tryz.prog 238 [ints L[i],ints p] [] (.bool (decide (L[i]=p))) []:=fun i h=>z527 _ _ (by have:=hr _ (y37 h);unfold maxLen;omega) (by unfold maxLen;omega)
 refine z7 z15 Tryz.func195 rfl rfl 27 Tryz.ntmps195 (by simp) ?_
 refine y77 (Reach.rnm 0 rfl) ?_
 refine y77 (Reach.rnm 1 rfl) ?_
 conv=>whnf
 repeat' (((apply y76 ok;rfl))<;>conv=>whnf)
 refine z65 (fun i:Nat=>([(0,.sref 2 0 L.length),(1,.sref 3 0 p.length),(6,.int i)],[.dead,.dead,.cells 1 (L.map encL),.cells 1 (p.map enI)])) (fun i=>i≤L.length∧∀ j (h:j < L.length),j < i→L[j]≠p) (fun i=>L.length - i) 0 ⟨y46 _,fun j _ h=>absurd h (Nat.not_lt_zero _)⟩ (by refine swR [0,1,2,3] [] rfl rfl ?_;(repeat' first|exact y78 _|exact z9 _|refine z10 rfl (z4 (fun _=>rfl)) ?_|constructor)) ?_
 rintro i ⟨hi,hj⟩
 by_cases hil:i < L.length
 ·have gk:(L.map encL)[i]?=some (encL L[i]):=by rw [y44,y38 hil];rfl
  have c1:=hc i hil
  by_cases he:L[i]=p
  ·have e1:z422 L p=L:=by unfold z422;rw [if_pos (by rw [← he];exact y37 hil)]
   have e2:z732 L p=i:=by
    unfold z732
    have h1:p∈L:=by rw [← he];exact y37 hil
    have h2:=List.idxOf_lt_length_of_mem h1
    have h3:=List.getElem_idxOf h2
    rcases Nat.lt_trichotomy (L.idxOf p) i with h|h|h
    ·exact absurd h3 (hj _ h2 h)
    ·exact h
    ·exfalso
     have:=List.not_of_lt_findIdx (p:=(· == p)) (xs:=L) (i:=i) (by simpa [List.idxOf] using h)
     simp [he] at this
   rw [e1,e2]
   rw [y73 he] at c1
   generalize L[i]=q at *
   repeat' ((first|(apply y76 ok;rfl)|(refine z12 (i:=i) rfl gk ?_)|(apply y36;omega)|((apply z5)<;>intro _)|(apply z112 [] [3] [] c1;(focus ((repeat' first|exact z84|apply z56)<;>first|exact z102 rfl rfl rfl|rfl));rfl;rfl;(focus ((repeat' exact z17)<;>fail));((refine .inr ⟨rfl,?_⟩;repeat' exact True.intro))))<;>conv=>whnf)
   all_goals try (exfalso;omega)
   all_goals (refine rsD [0,1,2] [] rfl ?_;(repeat' first|exact y78 _|exact z9 _|refine z10 rfl (z4 (fun _=>rfl)) ?_|constructor))
  ·rw [y74 he] at c1
   have hj2:∀ j (h:j < L.length),j < i+1→L[j]≠p:=fun j h hji=>by
    rcases y62 j i with h3|h3
    ·exact hj j h h3
    ·obtain rfl:j=i:=by omega
     exact he
   generalize L[i]=q at *
   repeat' ((first|(apply y76 ok;rfl)|(refine z12 (i:=i) rfl gk ?_)|(apply y36;first|omega|(unfold inI;omega))|((apply z5)<;>intro _)|(apply z112 [] [3] [] c1;(focus ((repeat' first|exact z84|apply z56)<;>first|exact z102 rfl rfl rfl|rfl));rfl;rfl;(focus ((repeat' exact z17)<;>fail));((refine .inr ⟨rfl,?_⟩;repeat' exact True.intro))))<;>conv=>whnf)
   all_goals try (exfalso;omega)
   all_goals refine z25 (i+1) ⟨by omega,hj2⟩ (by omega) (by refine swR [0,1,2,3] [] rfl rfl ?_;(repeat' first|exact y78 _|exact z9 _|refine z10 rfl (z4 (fun _=>rfl)) ?_|constructor))
 ·have hn:p ∉ L:=fun h=>by
   obtain ⟨j,hjl,e⟩:=List.mem_iff_getElem.1 h
   exact hj j hjl (by omega) e
  have e1:z422 L p=L++[p]:=by unfold z422;rw [if_neg hn]
  have e2:z732 L p=L.length:=by unfold z732;exact List.idxOf_eq_length hn
  rw [e1,e2]
  obtain rfl:i=L.length:=by omega
  repeat' ((first|(apply y76 ok;rfl)|(apply y36;first|omega|((try dsimp only);simp only [y42,y41,y40,y39,y51,y52];omega)|exact ⟨rfl,z19 rfl z26⟩)|(((apply z8;omega));intro _)|((apply z5)<;>intro _))<;>conv=>whnf)
  all_goals try (exfalso;omega)
  all_goals (refine rsD [0,1,5] [3] rfl ?_;(repeat' first|exact y78 _|(refine z38 ?_;((simp;done)))|((refine z33 rfl ?_ ?_);(focus ((repeat' (first|exact z4 (fun _=>rfl)|apply z22));done)))|(refine z76 ?_ ?_;(focus (omega)))|((apply z89 rfl rfl rfl);(focus ((repeat ((exact z31 (fun _=>rfl) _)));done));(focus (((simp;done));done)))|apply z92|constructor))
def eT (e:Edg):Trans:=⟨e.src,e.care,e.val,e.dst⟩
noncomputable def trOut (n0:Nat) (x:TrS):Aut:=⟨numI n0,if x.L.length=0 then [false] else x.acc,x.ed.map eT⟩
noncomputable def trO (t:Tree):Option Aut:=if bscB t=true then (trS (bscL (t.nrm false)) (t.nrm false)).map (trOut (iniS (bscL (t.nrm false)) (t.nrm false)).length) else none
noncomputable def trA (t:Tree):Aut:=(trO t).getD ⟨[],[],[]⟩
noncomputable def tsB (t:Tree):Bool:=(trO t).isSome
theorem z1149 {t:Tree} (ht:t.fmB=true) (hn:(t.nrm false).fmB=true) (h5:(bscL (t.nrm false)).length≤5) (hs:t.sz≤200):BasL (bscL (t.nrm false))∧In (·∈bscL (t.nrm false)) (t.nrm false)∧(t.nrm false).sz≤1000:=by
 have hg:=y21 ht
 have hz:=y26 t hg false
 obtain ⟨a1,a2,a3,a4,a5,a6⟩:=z999 (y21 hn) (nrm_NF t hg false)
 exact ⟨⟨h5,a1,fun x hx=>by have:=a2 x hx;omega,a3,a4,a5⟩,a6,by omega⟩
theorem pow_5 {n:Nat} (h:n≤5):1≤2 ^ n∧2 ^ n≤32:=by
 have:n=0∨n=1∨n=2∨n=3∨n=4∨n=5:=by omega
 rcases this with rfl|rfl|rfl|rfl|rfl|rfl<;>decide
set_option maxHeartbeats 12800000 in
theorem z1032 (t:Tree) (hs:t.sz≤200):CallsA Tryz.prog 134 [z52 Tree.cs' t] [] (.tup [.agg [.sref 0 0 (trA t).ini.length,.sref 1 0 (trA t).acc.length,.sref 2 0 (trA t).ed.length],.bool (tsB t)]) [.cells 1 ((trA t).ini.map enI),.cells 1 ((trA t).acc.map enB),.cells 4 ((trA t).ed.map Trans.cs)]:=by
 have cb:=z1148 t hs
 have cn:=z377 t (by omega)
 unfold trA tsB trO
 by_cases h:bscB t=true
 ·obtain ⟨⟨ht,hn⟩,h5⟩:=of_decide_eq_true (show decide _=true from h)
  obtain ⟨hB,hIn,hsz⟩:=z1149 ht hn h5 hs
  rw [if_pos h] at cb ⊢
  rw [h] at cb
  rw [if_pos ⟨ht,hn⟩,y73 ⟨ht,hn⟩] at cn
  clear h ht hn
  generalize t.nrm false=g at *
  generalize bscL g=B at *
  have hp:=pow_5 h5
  have cU:=z841 B (by omega)
  have hi0:=z912 B g
  have hul:(untB B).length≤B.length:=z621 B B.length
  have e2:((1:Int) * 2 ^ ((B.length:Int).toNat))=((2 ^ B.length:Nat):Int):=by
   rw [y69,Int.one_mul];norm_cast
  have hw:IntKind.u64.wrap (B.length:Int)=B.length:=by
   have:B.length=0∨B.length=1∨B.length=2∨B.length=3∨B.length=4∨B.length=5:=by omega
   rcases this with h|h|h|h|h|h<;>rw [h]<;>rfl
  rw [y14 t] at cb cn ⊢
  have cV:=fun s a b=>z169 B hB s a b g hIn hsz
  rw [y14 g] at cn cV
  refine z7 z15 Tryz.func134 rfl rfl 137 Tryz.ntmps134 (by simp) ?_
  repeat' ((first|(apply y76 ok;rfl)|(apply y36;first|omega|(unfold inI;omega))|(apply z6 (cb);rfl;rfl)|(apply z6 (cn);rfl;rfl)|(apply z6 (cU);rfl;rfl))<;>conv=>whnf)
  refine y77 (y81 1 rfl) ?_
  refine y77 (y81 1 rfl) ?_
  refine y77 (y81 4 rfl) ?_
  refine z65 (fun x:Nat×List (List Int)×List Int=>([(2,.ptr 0 none 0),(4,lst 3 Tree.cs' B),(6,.ptr 1 none 0),(8,.int ((2 ^ B.length:Nat):Int)),(9,ints (untB B)),(10,.ptr 2 none 0),(11,.sref 3 0 x.2.1.length),(12,.int x.1)],[.cells 3 [[.nils,.nils,.nils]],.cells 3 [[.int g.kind,.int g.val,lst 3 Tree.cs' g.kids]],.cells 3 [[.sref 4 0 x.2.2.length,.sref 5 0 0,.sref 6 0 0]],.cells 1 (x.2.1.map encL),.cells 1 (x.2.2.map enI),.cells 1 [],.cells 4 []])) (fun x=>x.1≤2 ^ B.length∧iniK B (fun s=>vlB B (s:Nat) g) x.1=x.2.1∧numI x.2.1.length=x.2.2) (fun x=>2 ^ B.length - x.1) (0,[],[]) ⟨y46 _,rfl,rfl⟩ (by refine swR [1,2,3,4,5,6,7] [] rfl rfl ?_;(repeat' first|exact y78 _|exact z48|(refine z105 ?_;omega)|apply y79|refine z10 rfl (z34) ?_|constructor)<;>((rw [e2];exact y78 _))) ?_
  rintro ⟨k,L,N⟩ ⟨hk,hL,hN⟩
  dsimp only at hk hL hN ⊢
  have hLl:=iniK_len B (fun s=>vlB B (s:Nat) g) k
  rw [hL] at hLl
  have nl:=z903 L.length
  have ns:=z1072 L.length
  rw [hN] at nl ns
  by_cases hkl:k < 2 ^ B.length
  ·have hsu:=z1106 B (fun s=>vlB B (s:Nat) g) k
   rw [hL] at hsu
   have cv:=cV k (by omega) (by omega)
   generalize vlB B (k:Nat) g=z at *
   cases z
   ·rw [if_neg (by simp),y57] at hsu
    repeat' ((first|(apply y76 ok;rfl)|(apply y36;(unfold inI;omega))|((apply z5)<;>intro _)|(apply z6 (cv);rfl;rfl))<;>conv=>whnf)
    all_goals try (exfalso;omega)
    all_goals refine z25 (k+1,L,N) ⟨by show k+1≤_;omega,hsu,hN⟩ (by show 2 ^ B.length - (k+1) < 2 ^ B.length - k;omega) (by refine swR [0,1,2,3,4,5,6] [] rfl rfl ?_;(repeat' first|exact y78 _|exact z9 _|apply y79|((refine z10 rfl ?_ ?_);(focus ((repeat' (first|exact z34|exact z4 (fun _=>rfl)));done)))|constructor))
   ·rw [if_pos rfl] at hsu
    repeat' ((first|(apply y76 ok;rfl)|(apply y36;first|(unfold inI;omega)|((try dsimp only);simp only [y42,y41,y40,y39,y51,y52];omega)|exact ⟨rfl,z19 rfl z26⟩)|((apply z5)<;>intro _)|(apply z6 (cv);rfl;rfl))<;>conv=>whnf)
    all_goals try (exfalso;omega)
    all_goals refine z25 (k+1,L++[[(k:Int),0]],N++[(L.length:Int)]) ⟨by show k+1≤_;omega,hsu,by show numI (L++[[(k:Int),0]]).length=_;rw [y40];exact ns⟩ (by show 2 ^ B.length - (k+1) < 2 ^ B.length - k;omega) (by refine swR [0,1,2,11,8,5,6] [9] rfl rfl ?_;(repeat' first|exact y78 _|(refine z38 ?_;((simp;done)))|apply y79|((first|refine z33 rfl ?_ ?_|refine z10 rfl ?_ ?_);(focus ((repeat' (first|exact z34|exact z4 (fun _=>rfl)|apply z22));done)))|(refine z76 ?_ ?_;(focus (omega)))|constructor))
  ·obtain rfl:k=2 ^ B.length:=by omega
   have hrows:=iniK_row B (fun s=>vlB B (s:Nat) g) (2 ^ B.length) B.length (untB B) (y45 _)
   rw [hL] at hrows
   have hL0:iniS B g=L:=hL
   have hR:goS B (untB B) 65 0 ⟨L,[],[]⟩=trS B g:=by rw [← hL0];rfl
   have hO:trOut L.length=fun x=>⟨N,if x.L.length=0 then [false] else x.acc,x.ed.map eT⟩:=by unfold trOut;rw [hN]
   rw [hL0,hO]
   clear hO
   clear hL hkl cV cb cn cU hi0 ns hN hIn hsz hw e2 hk
   have hphase:=fun (s ph:Nat) (h:s < 2 ^ B.length) (h2:(untB B).length=0∨ph < (untB B).length)=>z970 B hB s (by omega) (by omega) ph h2
   have hletter:=fun (s:Nat) (h:s < 2 ^ B.length)=>z843 B hB s (by omega) (by omega)
   have hfol:=fun (s k:Nat) (h:s < 2 ^ B.length) (h2:k < 2 ^ B.length)=>z749 B hB s k (by omega) (by omega) (by omega) (by omega)
   have hrowq:=fun (s ph:Nat) (h:(untB B).length=0∨ph < (untB B).length)=>phB_row (B:=B) (s:=s) h
   generalize trS B g=R at *
   have hRO:∀ x,R=some x→Option.map (fun x:TrS=>(⟨N,if x.L.length=0 then [false] else x.acc,x.ed.map eT⟩:Aut)) R=some ⟨N,if x.L.length=0 then [false] else x.acc,x.ed.map eT⟩:=fun x h=>by rw [h];rfl
   have hRN:R=none→Option.map (fun x:TrS=>(⟨N,if x.L.length=0 then [false] else x.acc,x.ed.map eT⟩:Aut)) R=none:=fun h=>by rw [h];rfl
   generalize Option.map (fun x:TrS=>(⟨N,if x.L.length=0 then [false] else x.acc,x.ed.map eT⟩:Aut)) R=O at *
   repeat' ((first|(apply y76 ok;rfl)|((apply z5)<;>intro _))<;>conv=>whnf)
   all_goals try (exfalso;omega)
   refine z65 (fun x:Nat×TrS=>([(2,.ptr 0 none 0),(4,lst 3 Tree.cs' B),(8,.int ((2 ^ B.length:Nat):Int)),(9,ints (untB B)),(10,.ptr 1 none 0),(11,.sref 2 0 x.2.L.length),(13,.int x.1)],[.cells 3 [[.nils,.nils,.nils]],.cells 3 [[.sref 3 0 N.length,.sref 4 0 x.2.acc.length,.sref 5 0 x.2.ed.length]],.cells 1 (x.2.L.map encL),.cells 1 (N.map enI),.cells 1 (x.2.acc.map enB),.cells 4 (x.2.ed.map fun e=>Trans.cs (eT e))])) (fun x=>x.1≤64∧goS B (untB B) (65 - x.1) x.1 x.2=R∧(∀ r∈x.2.L,RowS B.length (untB B) r)∧x.2.acc.length≤x.1∧x.2.ed.length≤x.1 * 32∧x.2.L.length≤100) (fun x=>65 - x.1) (0,⟨L,[],[]⟩) ⟨by omega,hR,hrows,y45 _,y45 _,by show L.length≤100;omega⟩ (by refine swR [0,2,3,4,5,6] [] rfl rfl ?_;(repeat' first|exact y78 _|exact z9 _|apply y79|((refine z10 rfl ?_ ?_);(focus ((repeat' (first|exact z34|exact z4 (fun _=>rfl)));done)))|constructor)) ?_
   have hN100:N.length≤100:=by omega
   clear hL0 hR hrows hLl nl L
   rintro ⟨i,⟨L,acc,ed⟩⟩ ⟨hi,hR,hrows,hacc,hed,hL⟩
   dsimp only at hi hR hrows hacc hed hL ⊢
   rw [show 65 - i=(64 - i)+1 by omega,goS] at hR
   dsimp only at hR
   by_cases hil:i < L.length
   ·rw [if_pos hil] at hR
    by_cases h64:64 < L.length
    ·rw [if_pos h64] at hR
     have hO:=hRN hR.symm
     subst hO
     repeat' ((first|(apply y76 ok;rfl)|(apply y36;omega)|((first|(with_reducible apply z55;omega)|(apply z8;omega));intro _)|((apply z5)<;>intro _))<;>conv=>whnf)
     all_goals try (exfalso;omega)
     all_goals (refine y82 1 ?_;refine y82 1 ?_;refine y82 4 ?_;refine rsD [6,7,8] [] rfl ?_;(repeat' first|exact y78 _|exact z48|refine z10 rfl (z34) ?_|apply z41|apply z92|constructor))
    ·rw [if_neg h64] at hR
     obtain ⟨s,ph,er,hs2,hph⟩:=hrows (L.getD i []) (by rw [z14 hil];exact y37 _)
     have gk:(L.map encL)[i]?=some (encL [(s:Int),(ph:Int)]):=by rw [y44,y38 hil,← er,z14 hil];rfl
     have cP:=hphase s ph hs2 hph
     have cL:=hletter s hs2
     obtain ⟨q,eq,hq⟩:=hrowq s ph hph
     have hRS:z505 B (untB B) i ⟨L,acc,ed⟩=⟨((List.range (2 ^ B.length)).foldl (z432 B s q i (letB B s).1 (letB B s).2) (L,ed)).1,acc++[(phB B (untB B) s ph).2],((List.range (2 ^ B.length)).foldl (z432 B s q i (letB B s).1 (letB B s).2) (L,ed)).2⟩:=by
      unfold z505
      dsimp only
      rw [er,← eq];rfl
     rw [hRS] at hR
     rw [eq] at cP
     have hfol:=fun k h=>hfol s k hs2 h
     generalize (phB B (untB B) s ph).2=z at *
     generalize (letB B s).1=c at *
     generalize (letB B s).2=v at *
     clear hphase hletter hrowq hRS eq
     repeat' ((first|(apply y76 ok;rfl)|(refine z12 (i:=i) rfl gk ?_)|(refine ⟨_,rfl,?_⟩)|(apply y36;first|omega|((try dsimp only);simp only [y42,y41,y40,y39,y51,y52];omega)|exact ⟨rfl,z19 rfl z26⟩)|((apply z5)<;>intro _)|(apply z6 (cP);rfl;rfl)|(apply z6 (cL);rfl;rfl))<;>conv=>whnf)
     all_goals try (exfalso;omega)
     have hrow0:∀ r∈L,r.length≤1000:=fun r hr=>by obtain ⟨_,_,e,_,_⟩:=hrows r hr;rw [e];simp
     refine z65 (fun y:Nat×List (List Int)×List Edg=>([(2,.ptr 0 none 0),(4,lst 3 Tree.cs' B),(8,.int ((2 ^ B.length:Nat):Int)),(9,ints (untB B)),(10,.ptr 1 none 0),(11,.sref 2 0 y.2.1.length),(13,.int i),(14,.int s),(15,.int q),(17,.int c),(18,.int v),(19,.int y.1)],[.cells 3 [[.nils,.nils,.nils]],.cells 3 [[.sref 3 0 N.length,.sref 4 0 (acc.length+1),.sref 5 0 y.2.2.length]],.cells 1 (y.2.1.map encL),.cells 1 (N.map enI),.cells 1 ((acc++[z]).map enB),.cells 4 (y.2.2.map fun e=>Trans.cs (eT e))])) (fun y=>y.1≤2 ^ B.length∧(List.range y.1).foldl (z432 B s q i c v) (L,ed)=y.2∧(∀ r∈y.2.1,RowS B.length (untB B) r)∧y.2.1.length≤L.length+y.1∧y.2.2.length≤ed.length+y.1) (fun y=>2 ^ B.length - y.1) (0,L,ed) ⟨y46 _,rfl,hrows,y45 _,y45 _⟩ (by refine swR [0,1,2,3,7,5] [] rfl rfl ?_;(repeat' first|exact y78 _|exact z9 _|apply y79|((first|refine z33 rfl ?_ ?_|refine z10 rfl ?_ ?_);(focus ((repeat' (first|exact z4 (fun _=>rfl)|apply z22));done)))|(refine z76 ?_ ?_;(focus (omega)))|constructor)) ?_
     rintro ⟨k,L',ed'⟩ ⟨hk,hf,hrows',hLl,hel⟩
     dsimp only at hk hf hrows' hLl hel ⊢
     by_cases hkl:k < 2 ^ B.length
     ·have cF:=hfol k hkl
      have hfs:(List.range (k+1)).foldl (z432 B s q i c v) (L,ed)=z432 B s q i c v (L',ed') k:=by rw [y54,y55,hf];rfl
      have he:z432 B s q i c v (L',ed') k=if folB B s k=true then (z422 L' [(k:Int),(q:Int)],ed'++[⟨i,c,v,z732 L' [(k:Int),(q:Int)]⟩]) else (L',ed'):=rfl
      rw [he] at hfs
      clear he
      by_cases hb:folB B s k=true
      ·rw [if_pos hb] at hfs
       rw [hb] at cF
       have cQ:=z1092 L' (by omega) (fun r hr=>by obtain ⟨_,_,e,_,_⟩:=hrows' r hr;rw [e];simp) [(k:Int),(q:Int)] (by simp)
       have hpl:(z422 L' [(k:Int),(q:Int)]).length≤L'.length+1:=by unfold z422;split<;>simp
       have hpr:∀ r∈z422 L' [(k:Int),(q:Int)],RowS B.length (untB B) r:=fun r hr=>by
        unfold z422 at hr
        split at hr
        ·exact hrows' r hr
        ·rcases List.mem_append.1 hr with h|h
         ·exact hrows' r h
         ·rw [List.mem_singleton.1 h];exact ⟨k,q,rfl,hkl,hq⟩
       generalize z422 L' [(k:Int),(q:Int)]=L2 at *
       generalize z732 L' [(k:Int),(q:Int)]=n at *
       repeat' ((first|(apply y76 ok;rfl)|(apply y36;first|omega|(unfold inI;omega)|((try dsimp only);simp only [y42,y41,y40,y39,y51,y52];omega)|exact ⟨rfl,z19 rfl z26⟩)|((apply z5)<;>intro _)|(apply z6 (cF);rfl;rfl)|(apply z159 [2,6] [7] cQ;rfl;(focus ((repeat' first|exact z59|apply z66)<;>first|rfl|(refine z80 rfl ?_;((exact z4 fun _=>rfl)))));rfl;(focus ((repeat' first|exact z17|apply z16)<;>first|exact z372|(refine z23 ?_;((exact z4 fun _=>rfl)))))))<;>conv=>whnf)
       all_goals try (exfalso;omega)
       all_goals refine z25 (k+1,L2,ed'++[⟨i,c,v,n⟩]) ⟨by show k+1≤_;omega,hfs,hpr,by show L2.length≤L.length+(k+1);omega,by show (ed'++[_]).length≤ed.length+(k+1);simp;omega⟩ (by show 2 ^ B.length - (k+1) < 2 ^ B.length - k;omega) (by refine swR [0,1,7,3,4,9] [] rfl rfl ?_;(repeat' first|exact y78 _|exact z9 _|(refine z38 ?_;((simp;done)))|apply y79|((first|refine z33 rfl ?_ ?_|refine z10 rfl ?_ ?_);(focus ((repeat' (first|exact z4 (fun _=>rfl)|apply z22));done)))|(refine z76 ?_ ?_;(focus (omega)))|constructor))
      ·rw [if_neg hb] at hfs
       rw [(y64 _).mp hb] at cF
       repeat' ((first|(apply y76 ok;rfl)|(apply y36;first|omega|(unfold inI;omega))|((apply z5)<;>intro _)|(apply z6 (cF);rfl;rfl))<;>conv=>whnf)
       all_goals try (exfalso;omega)
       all_goals refine z25 (k+1,L',ed') ⟨by show k+1≤_;omega,hfs,hrows',by show L'.length≤L.length+(k+1);omega,by show ed'.length≤ed.length+(k+1);omega⟩ (by show 2 ^ B.length - (k+1) < 2 ^ B.length - k;omega) (by refine swR [0,1,2,3,4,5] [] rfl rfl ?_;(repeat' first|exact y78 _|exact z9 _|apply y79|refine z10 rfl (z4 (fun _=>rfl)) ?_|constructor))
     ·obtain rfl:k=2 ^ B.length:=by omega
      rw [hf] at hR
      have hed2:ed'.length≤(i+1) * 32:=by omega
      repeat' ((first|(apply y76 ok;rfl)|(apply y36;(unfold inI;omega))|((apply z5)<;>intro _))<;>conv=>whnf)
      all_goals try (exfalso;omega)
      all_goals refine z25 (i+1,⟨L',acc++[z],ed'⟩) ⟨by show i+1≤64;omega,by rw [show 65 - (i+1)=64 - i by omega];exact hR,hrows',by show (acc++[z]).length≤i+1;simp;omega,hed2,by show L'.length≤100;omega⟩ (by show 65 - (i+1) < 65 - i;omega) (by refine swR [0,1,2,3,4,5] [] rfl rfl ?_;(repeat' first|exact y78 _|exact z9 _|(refine z38 ?_;((simp;done)))|apply y79|refine z10 rfl (z4 (fun _=>rfl)) ?_|constructor))
   ·rw [if_neg hil] at hR
    have hO:=hRO _ hR.symm
    dsimp only at hO
    by_cases h0:L.length=0
    ·rw [if_pos h0] at hO
     subst hO
     repeat' ((first|(apply y76 ok;rfl)|(apply y36;omega)|((first|(with_reducible apply z55;omega)|(apply z8;omega));intro _)|((apply z5)<;>intro _))<;>conv=>whnf)
     all_goals try (exfalso;omega)
     all_goals (refine rsD [3,6,5] [] rfl ?_;(repeat' first|exact y78 _|exact z9 _|(refine z38 ?_;((simp;done)))|apply y79|refine z10 rfl (z4 (fun _=>rfl)) ?_|apply z41|apply z92|constructor))
     all_goals exact z30 (by show _=List.map Trans.cs (List.map eT ed);rw [List.map_map];rfl)
    ·rw [if_neg h0] at hO
     subst hO
     repeat' ((first|(apply y76 ok;rfl)|(apply y36;omega)|((first|(with_reducible apply z55;omega)|(apply z8;omega));intro _)|((apply z5)<;>intro _))<;>conv=>whnf)
     all_goals try (exfalso;omega)
     all_goals (refine rsD [3,4,5] [] rfl ?_;(repeat' first|exact y78 _|exact z9 _|(refine z38 ?_;((simp;done)))|refine z10 rfl (z4 (fun _=>rfl)) ?_|apply z41|apply z92|constructor))
     all_goals exact z30 (by show _=List.map Trans.cs (List.map eT ed);rw [List.map_map];rfl)
 ·rw [if_neg h] at cb ⊢
  rw [(y64 _).mp h] at cb
  refine z7 z15 Tryz.func134 rfl rfl 137 Tryz.ntmps134 (by simp) ?_
  repeat' ((first|(apply y76 ok;rfl)|(apply z6 (cb);rfl;rfl))<;>conv=>whnf)
  all_goals (refine y82 1 ?_;refine y82 1 ?_;refine y82 4 ?_;refine rsD [2,3,4] [] rfl ?_;(repeat' first|exact y78 _|exact z48|refine z10 rfl (z34) ?_|apply z41|apply z92|constructor))
end Go.Proofs.YtahhobgjcfionaaGreat
namespace Go.Proofs.YtahhobgjcfionaaGreat
open Go.Gl
attribute [local irreducible] z29 AWP z46 z50 z47
structure Aut.ok (a:Aut):Prop where
 mx:a.mx
 ini:a.ini.length≤1048576
 acc:a.acc.length≤1048576
 ed:a.ed.length≤1048576
theorem Aut.ok_of {a:Aut} (h:a.mx) (h1:a.s1≤1048576) (h2:a.s2≤1048576) (h3:a.s3≤1048576):a.ok:=⟨h,h1,h2,h3⟩
def onB (t:Trans) (n:Int):Bool:=decide (((n.toNat &&& t.care.toNat:Nat):Int)=t.val)
def z129 (n:Nat) (i:Nat) (ℓ to:Int) (e:Trans):List (Nat×Int):=if onB e ℓ then [((i:Nat) * n+e.src.toNat,to * n+e.dst)] else []
def z511 (n:Nat) (ed:List Trans) (i:Nat) (ℓ to:Int):List (Nat×Int):=ed.flatMap (z129 n i ℓ to)
def z419 (n:Nat) (ed:List Trans) (nx:List (List Int)) (ls:List Int) (i:Nat):List (Nat×Int):=(nx.getD i []).flatMap (z511 n ed i (ls.getD i 0))
def z510 (g:Graph) (ls:List Int) (a:Aut):List (Nat×Int):=(List.range g.st.length).flatMap (z419 a.acc.length a.ed g.nx ls)
def z27 (g:Graph) (ls:List Int) (a:Aut):List (List Int):=build (a.acc.length * g.st.length) (z510 g ls a)
theorem z509 (g:Graph) (hg:GB g) (ls:List Int) (a:Aut) (ha:AutP a):(z510 g ls a).length≤7372800:=by
 obtain ⟨⟨g1,g2⟩,g3,g4⟩:=hg
 have h1:∀ i ℓ to,(z511 a.acc.length a.ed i ℓ to).length≤2048:=fun i ℓ to=>by
  have:=z176 (f:=z129 a.acc.length i ℓ to) (c:=1) a.ed (fun e _=>by unfold z129;split<;>simp)
  have:=ha.2.1
  unfold z511;omega
 have h2:∀ i∈List.range g.st.length,(z419 a.acc.length a.ed g.nx ls i).length≤122880:=fun i hi=>by
  rw [y53] at hi
  unfold z419
  rw [z14 (l:=g.nx) (by omega)]
  have h3:=z176 (f:=z511 a.acc.length a.ed i (ls.getD i 0)) (c:=2048) g.nx[i] (fun e _=>h1 _ _ _)
  have h4:=(g4 i (by omega) (by omega) hi).2.1
  have:g.nx[i].length * 2048≤60 * 2048:=Nat.mul_le_mul_right _ (by omega)
  omega
 have h5:=z176 (f:=z419 a.acc.length a.ed g.nx ls) (c:=122880) (List.range g.st.length) h2
 rw [List.length_range] at h5
 have:g.st.length * 122880≤60 * 122880:=Nat.mul_le_mul_right _ (by omega)
 unfold z510;omega
theorem z659 (g:Graph) (hg:GB g) (ls:List Int) (hls:ls.length=g.st.length) (hlr:∀ x∈ls,0≤x∧x≤7) (a:Aut) (ha:AutP a):CallsA Tryz.prog 96 [.agg g.cs,ints ls,.agg a.cs] [] (.sref 0 0 (a.acc.length * g.st.length)) [.cells 1 ((z27 g ls a).map z83)]:=by
 have hpl:=z509 g hg ls a ha
 obtain ⟨⟨g1,g2⟩,g3,g4⟩:=hg
 obtain ⟨⟨a1,a2⟩,a3,_,a5⟩:=ha
 have hN:=z99 (a:=(a.acc.length:Int)) (b:=(g.st.length:Int)) (A:=64) (B:=60) (by omega) (by omega) (by omega) (by omega)
 have hNn:((a.acc.length * g.st.length:Nat):Int)=(a.acc.length:Int) * g.st.length:=by simp
 refine z13 z15 Tryz.func96 rfl rfl 93 Tryz.ntmps96 (by simp) ?_
 repeat' (first|(apply y76 ok;rfl;conv=>whnf)|(apply y36;(first|(unfold inI;omega)|(dsimp only;omega));conv=>whnf))
 refine y77 (Gl.Reach.weaken (es':=List.replicate (a.acc.length * g.st.length) [.own 1 []]) 2 rfl (by rw [y39,y39];rfl) z255 rfl) ?_
 conv=>whnf
 have hrow:∀ i (hi:i < g.nx.length),∀ x∈g.nx[i],0≤x∧x≤g.st.length - 1:=fun i hi x hx=>by
  obtain ⟨j,hj,rfl⟩:=List.mem_iff_getElem.1 hx
  exact ((g4 i hi hi (by omega)).2.2.2 j hj hj).1
 have hlen:∀ i (hi:i < g.nx.length),g.nx[i].length≤60:=fun i hi=>by
  have:=(g4 i hi hi (by omega)).2.1;omega
 refine z94 (fun x:Nat×List (Nat×Int)=>([(1,ints ls),(3,.ptr 0 none 0),(5,.ptr 1 none 0),(7,.int a.acc.length),(8,.sref 2 0 (a.acc.length * g.st.length)),(9,.int x.1)],[.cells 2 [[lst 2 State.cs g.st,lst 1 encL g.nx]],.cells 3 [[lst 1 enI a.ini,lst 1 enB a.acc,lst 4 Trans.cs a.ed]],.cells 1 ((build (a.acc.length * g.st.length) x.2).map z83)])) (fun x=>x.1≤g.st.length∧x.2++((List.range g.st.length).drop x.1).flatMap (z419 a.acc.length a.ed g.nx ls)=z510 g ls a) (fun x=>g.st.length - x.1) (0,[]) ⟨by omega,rfl⟩
  ⟨[0,1,2],rfl,by decide,rfl,⟨⟨rfl,rfl⟩,⟨rfl,rfl⟩,⟨rfl,rfl⟩,⟨rfl,rfl⟩,⟨rfl,rfl⟩,⟨rfl,rfl⟩,trivial⟩,⟨z24 rfl rfl,z24 rfl rfl,z39 (z51 (z640 _).symm) (z4 fun _=>rfl),trivial⟩⟩ ?_
 rintro ⟨i,ps⟩ ⟨hi1,hi2⟩
 dsimp only at hi1 hi2 ⊢
 repeat' (first|(apply y76 ok;rfl;conv=>whnf)|(apply z5<;>intro _<;>conv=>whnf))
 ·have hig:i < g.st.length:=by omega
  rw [z183 _ _ _ (by simpa using hig),List.getElem_range] at hi2
  have hin:i < g.nx.length:=by omega
  have hrow:=hrow i hin
  have hlen:=hlen i hin
  have hli:=hlr ls[i] (y37 _)
  have hpI:z419 a.acc.length a.ed g.nx ls i=g.nx[i].flatMap (z511 a.acc.length a.ed i ls[i]):=by
   unfold z419
   rw [z14 hin,z14 (by omega)]
  rw [hpI] at hi2
  refine z94 (fun x:Nat×List (Nat×Int)=>([(1,ints ls),(3,.ptr 0 none 0),(5,.ptr 1 none 0),(7,.int a.acc.length),(8,.sref 2 0 (a.acc.length * g.st.length)),(9,.int i),(10,.int x.1)],[.cells 2 [[lst 2 State.cs g.st,lst 1 encL g.nx]],.cells 3 [[lst 1 enI a.ini,lst 1 enB a.acc,lst 4 Trans.cs a.ed]],.cells 1 ((build (a.acc.length * g.st.length) x.2).map z83)])) (fun x=>x.1≤g.nx[i].length∧x.2++((g.nx[i].drop x.1).flatMap (z511 a.acc.length a.ed i ls[i])++((List.range g.st.length).drop (i+1)).flatMap (z419 a.acc.length a.ed g.nx ls))=z510 g ls a) (fun x=>g.nx[i].length - x.1) (0,ps) ⟨by omega,hi2⟩
   ⟨[0,1,2],rfl,by decide,rfl,⟨⟨rfl,rfl⟩,⟨rfl,rfl⟩,⟨rfl,rfl⟩,⟨rfl,rfl⟩,⟨rfl,rfl⟩,⟨rfl,rfl⟩,⟨rfl,rfl⟩,trivial⟩,⟨z24 rfl rfl,z24 rfl rfl,z39 rfl (z4 fun _=>rfl),trivial⟩⟩ ?_
  rintro ⟨j,ps⟩ ⟨hj1,hj2⟩
  dsimp only at hj1 hj2 ⊢
  repeat' (first|(apply y76 ok;rfl;conv=>whnf)|(apply y36;(first|omega|(unfold inI;omega));conv=>whnf)|(with_reducible apply z8;omega;intro _;conv=>whnf)|(apply z5<;>intro _<;>conv=>whnf))
  ·have hjn:j < g.nx[i].length:=by omega
   rw [z183 _ _ _ hjn,List.append_assoc] at hj2
   have hto:=hrow g.nx[i][j] (y37 _)
   refine z94 (fun x:Nat×List (Nat×Int)=>([(1,ints ls),(3,.ptr 0 none 0),(5,.ptr 1 none 0),(7,.int a.acc.length),(8,.sref 2 0 (a.acc.length * g.st.length)),(9,.int i),(10,.int j),(11,.int x.1)],[.cells 2 [[lst 2 State.cs g.st,lst 1 encL g.nx]],.cells 3 [[lst 1 enI a.ini,lst 1 enB a.acc,lst 4 Trans.cs a.ed]],.cells 1 ((build (a.acc.length * g.st.length) x.2).map z83)])) (fun x=>x.1≤a.ed.length∧x.2++((a.ed.drop x.1).flatMap (z129 a.acc.length i ls[i] g.nx[i][j])++((g.nx[i].drop (j+1)).flatMap (z511 a.acc.length a.ed i ls[i])++((List.range g.st.length).drop (i+1)).flatMap (z419 a.acc.length a.ed g.nx ls)))=z510 g ls a) (fun x=>a.ed.length - x.1) (0,ps) ⟨by omega,hj2⟩
    ⟨[0,1,2],rfl,by decide,rfl,⟨⟨rfl,rfl⟩,⟨rfl,rfl⟩,⟨rfl,rfl⟩,⟨rfl,rfl⟩,⟨rfl,rfl⟩,⟨rfl,rfl⟩,⟨rfl,rfl⟩,⟨rfl,rfl⟩,trivial⟩,⟨z24 rfl rfl,z24 rfl rfl,z39 rfl (z4 fun _=>rfl),trivial⟩⟩ ?_
   rintro ⟨k,ps⟩ ⟨hk1,hk2⟩
   dsimp only at hk1 hk2 ⊢
   have hm1:=z99 (a:=(i:Int)) (b:=(a.acc.length:Int)) (A:=60) (B:=64) (by omega) (by omega) (by omega) (by omega)
   have hm2:=z99 (a:=g.nx[i][j]) (b:=(a.acc.length:Int)) (A:=60) (B:=64) (by omega) (by omega) (by omega) (by omega)
   by_cases hke:k < a.ed.length
   ·have he:=a5 a.ed[k] (y37 hke)
    unfold z328 at he
    have hlt:i * a.acc.length+a.ed[k].src.toNat < (build (a.acc.length * g.st.length) ps).length:=by
     rw [z71]
     have h1:(i+1) * a.acc.length≤g.st.length * a.acc.length:=Nat.mul_le_mul_right _ hig
     rw [Nat.add_mul,Nat.one_mul,Nat.mul_comm g.st.length] at h1
     omega
    repeat' (first|((fail_if_success apply z104 14);(fail_if_success apply z88 14);apply y76 ok;rfl;conv=>whnf)|(apply z21;kernel_rfl;conv=>whnf)|(apply y36;(first|omega|(unfold inI;omega));conv=>whnf)|(with_reducible apply z8;omega;intro _;conv=>whnf)|(apply z5<;>intro _<;>conv=>whnf)|(apply z6 (l7On_ok a.ed[k] ls[i] hli.1 hli.2 (a5 _ (y37 _)).2.2.1);rfl;rfl;conv=>whnf))
    ·have hon:((ls[i].toNat &&& a.ed[k].care.toNat:Nat):Int)=a.ed[k].val:=by assumption
     have hrl:(build (a.acc.length * g.st.length) ps)[i * a.acc.length+a.ed[k].src.toNat].length≤1000000000:=by
      have h1:=z184 (N:=a.acc.length * g.st.length) (ps:=ps) hlt
      have h2:=congrArg List.length hk2
      rw [y40] at h2
      omega
     have hin:((i:Int) * a.acc.length+a.ed[k].src).toNat=i * a.acc.length+a.ed[k].src.toNat:=by
      have e:((i * a.acc.length:Nat):Int)=(i:Int) * a.acc.length:=by simp
      omega
     have hlt2:((i:Int) * a.acc.length+a.ed[k].src).toNat < a.acc.length * g.st.length:=by
      rw [hin,← z71 (a.acc.length * g.st.length) ps];exact hlt
     have hmap:i * a.acc.length+a.ed[k].src.toNat < ((build (a.acc.length * g.st.length) ps).map z83).length:=by rw [y42];exact hlt
     refine y77 (Gl.Reach.expose (e:=z83 (build (a.acc.length * g.st.length) ps)[i * a.acc.length+a.ed[k].src.toNat]) 2 (i * a.acc.length+a.ed[k].src.toNat) 0 rfl (by rw [y44,y38 hlt];rfl) rfl (z214 (fun _=>rfl) _) rfl) ?_
     conv=>whnf
     (apply y76 ok;rfl;conv=>whnf)
     repeat' (first|(apply z21;kernel_rfl;conv=>whnf)|(apply z534;exact hin;exact hmap;conv=>whnf)|(apply y36;(first|omega|(unfold inI;omega)|((try dsimp only);simp only [y42,y41,y40,y39,y51,y52];omega)|exact ⟨rfl,z19 rfl z26⟩);conv=>whnf)|(with_reducible apply z8;omega;intro _;conv=>whnf))
     refine y77 (Gl.Reach.absorb 2 5 (i * a.acc.length+a.ed[k].src.toNat) 0 rfl (z915 hin (by rw [List.length_set];exact hmap)) rfl rfl (by simp) rfl (z70 (fun e he=>(z4 (fun _=>rfl)) e (List.mem_of_mem_take he)) (z208 rfl z34)) rfl) ?_
     conv=>whnf
     repeat' (first|(apply y76 ok;rfl;conv=>whnf)|(apply y36;((unfold inI;omega));conv=>whnf))
     rw [z183 _ _ _ hke] at hk2
     have hpe:z129 a.acc.length i ls[i] g.nx[i][j] a.ed[k]=[(i * a.acc.length+a.ed[k].src.toNat,g.nx[i][j] * a.acc.length+a.ed[k].dst)]:=by
      unfold z129 onB;rw [if_pos (y73 hon)]
     rw [hpe,List.append_assoc,← List.append_assoc] at hk2
     exact z79 (k+1,ps++[(i * a.acc.length+a.ed[k].src.toNat,g.nx[i][j] * a.acc.length+a.ed[k].dst)]) [0,1,2] ⟨by dsimp only;omega,hk2⟩ (by dsimp only;omega)
      ⟨rfl,by decide,rfl,⟨⟨rfl,rfl⟩,⟨rfl,rfl⟩,⟨rfl,rfl⟩,⟨rfl,rfl⟩,⟨rfl,rfl⟩,⟨rfl,rfl⟩,⟨rfl,rfl⟩,⟨rfl,rfl⟩,trivial⟩,⟨z24 rfl rfl,z24 rfl rfl,z39 (z51 (rows_push' hlt hin (by simp))) (z4 fun _=>rfl),trivial⟩⟩
    ·rename_i hon
     rw [z183 _ _ _ hke] at hk2
     have hpe:z129 a.acc.length i ls[i] g.nx[i][j] a.ed[k]=[]:=by
      unfold z129 onB;rw [if_neg (by simpa using hon)]
     rw [hpe,List.nil_append] at hk2
     exact z79 (k+1,ps) [0,1,2] ⟨by dsimp only;omega,hk2⟩ (by dsimp only;omega)
      ⟨rfl,by decide,rfl,⟨⟨rfl,rfl⟩,⟨rfl,rfl⟩,⟨rfl,rfl⟩,⟨rfl,rfl⟩,⟨rfl,rfl⟩,⟨rfl,rfl⟩,⟨rfl,rfl⟩,⟨rfl,rfl⟩,trivial⟩,⟨z24 rfl rfl,z24 rfl rfl,z39 rfl (z4 fun _=>rfl),trivial⟩⟩
    ·omega
   ·repeat' (first|((fail_if_success apply z104 14);(fail_if_success apply z88 14);apply y76 ok;rfl;conv=>whnf)|(apply y36;(first|omega|(unfold inI;omega));conv=>whnf)|(with_reducible apply z8;omega;intro _;conv=>whnf)|(apply z5<;>intro _<;>conv=>whnf))
    ·omega
    ·rw [z123 _ _ _ (by omega),List.nil_append] at hk2
     exact z79 (j+1,ps) [0,1,2] ⟨by dsimp only;omega,hk2⟩ (by dsimp only;omega)
      ⟨rfl,by decide,rfl,⟨⟨rfl,rfl⟩,⟨rfl,rfl⟩,⟨rfl,rfl⟩,⟨rfl,rfl⟩,⟨rfl,rfl⟩,⟨rfl,rfl⟩,⟨rfl,rfl⟩,trivial⟩,⟨z24 rfl rfl,z24 rfl rfl,z39 rfl (z4 fun _=>rfl),trivial⟩⟩
  ·rw [z123 _ _ _ (by omega),List.nil_append] at hj2
   exact z79 (i+1,ps) [0,1,2] ⟨by dsimp only;omega,hj2⟩ (by dsimp only;omega)
    ⟨rfl,by decide,rfl,⟨⟨rfl,rfl⟩,⟨rfl,rfl⟩,⟨rfl,rfl⟩,⟨rfl,rfl⟩,⟨rfl,rfl⟩,⟨rfl,rfl⟩,trivial⟩,⟨z24 rfl rfl,z24 rfl rfl,z39 rfl (z4 fun _=>rfl),trivial⟩⟩
 ·rw [z123 _ _ _ (by simp;omega),y57] at hi2
  subst hi2
  exact z416 rfl (z4 fun _=>rfl) rfl rfl
theorem keepRows {f:FuncId} {args:List AC} {n:Nat} {l:List (List Int)} (h:CallsA Tryz.prog f args [] (.sref 0 0 n) [.cells 1 (l.map z83)]) (hl:l.length=n):CallsA Tryz.prog f args [] (lst 1 encL l) []:=by
 refine h.lend [] [0] rfl rfl rfl ?_ z59
 rw [z267 (w:=1) (es:=l.map z83) rfl rfl rfl (by rw [y42];exact hl),z146,← hl];rfl
theorem z215 (g:Graph) (hg:GB g) (ls:List Int) (hls:ls.length=g.st.length) (hlr:∀ x∈ls,0≤x∧x≤7) (a:Aut) (ha:AutP a):CallsA Tryz.prog 96 [.agg g.cs,ints ls,.agg a.cs] [] (lst 1 encL (z27 g ls a)) [] :=
 keepRows (z659 g hg ls hls hlr a ha) (z71 _ _)
def z75 (a:Aut):List (List Trans):=z120 a.acc.length (a.ed.map fun e=>(e.src.toNat,e))
def encT (r:List Trans):List AC:=[.list 4 r.length (r.map Trans.cs)]
theorem ltr_lt (v:List Int):∀ (l:List Tree) (k n:Nat),n < 2 ^ k→ltr v l k n < 2 ^ (k+l.length):=by
 intro l
 induction l with
 |nil=>intro k n h;simpa [ltr] using h
 |cons t l ih =>
  intro k n h
  rw [ltr]
  have e:k+(t::l).length=k+1+l.length:=by simp only [y51];omega
  rw [e]
  refine ih (k+1) _ ?_
  split
  ·rw [Nat.pow_succ];omega
  ·exact or_lt h
theorem z148 {l:List Tree} (hl:z178 l) (s:State):0≤z28 l s∧z28 l s≤7:=by
 have:=ltr_lt s.b l 0 0 (by decide)
 rw [hl.1] at this
 unfold z28
 have e:(2:Nat) ^ (0+3)=8:=by decide
 omega
def pE2 (n i q:Nat) (ℓ to:Int) (e:Trans):List (Nat×Int):=if onB e ℓ then [(i * n+q,to * n+e.dst)] else []
def pTo (n:Nat) (row:List Trans) (i q:Nat) (ℓ to:Int):List (Nat×Int):=row.flatMap (pE2 n i q ℓ to)
def pQ (n:Nat) (nxi:List Int) (rows:List (List Trans)) (i:Nat) (ℓ:Int) (q:Nat):List (Nat×Int):=nxi.flatMap (pTo n (rows.getD q []) i q ℓ)
def pI2 (n:Nat) (nx:List (List Int)) (rows:List (List Trans)) (ls:List Int) (i:Nat):List (Nat×Int):=(List.range n).flatMap (pQ n (nx.getD i []) rows i (ls.getD i 0))
def pS2 (g:Graph) (ls:List Int) (a:Aut):List (Nat×Int):=(List.range g.st.length).flatMap (pI2 a.acc.length g.nx (z75 a) ls)
theorem z318 {a:Aut} {q:Nat} (h:q < a.acc.length):(z75 a).getD q []=a.ed.filter (fun e=>e.src.toNat == q):=by
 unfold z75
 rw [z14 (by rw [z160];exact h),z321,List.filter_map,List.map_map]
 exact List.map_id _
theorem z1065 {β:Type} {F:Nat→List β} {n q0:Nat} (hq:q0 < n) (h:∀ q,q < n→q≠q0→F q=[]):(List.range n).flatMap F=F q0:=by
 have:∀ m,(List.range m).flatMap F=if q0 < m∧m≤n then F q0 else if m≤n then [] else (List.range m).flatMap F:=by
  intro m
  induction m with
  |zero=>simp
  |succ m ih =>
   by_cases hm:m+1≤n
   ·rw [y54,List.flatMap_append,ih,List.flatMap_cons,List.flatMap_nil,y57]
    by_cases h1:q0 < m
    ·rw [if_pos ⟨h1,by omega⟩,if_pos ⟨by omega,hm⟩,h m (by omega) (by omega),y57]
    ·rw [if_neg (by omega),if_pos (by omega)]
     by_cases h2:q0=m
     ·subst h2;rw [if_pos ⟨by omega,hm⟩];rfl
     ·rw [if_neg (by omega),if_pos hm,h m (by omega) (by omega)];rfl
   ·rw [if_neg (by omega),if_neg hm]
 rw [this n,if_pos ⟨hq,y45 _⟩]
theorem z958 {β:Type} {F:Nat→List β} {n:Nat} (h:∀ q,q < n→F q=[]):(List.range n).flatMap F=[]:=by
 rw [List.flatMap_eq_nil_iff]
 intro q hq
 exact h q (List.mem_range.1 hq)
theorem pS2_rows (g:Graph) (ls:List Int) (a:Aut) (ha:AutP a) (r:Nat):(pS2 g ls a).filter (fun p=>p.1 == r)=(z510 g ls a).filter (fun p=>p.1 == r):=by
 unfold pS2 z510
 rw [List.filter_flatMap,List.filter_flatMap]
 refine z601 fun i hi=>?_
 unfold pI2 z419
 rw [List.filter_flatMap,List.filter_flatMap]
 have hsrc:∀ e∈a.ed,e.src.toNat < a.acc.length:=fun e he=>by
  have:=(ha.2.2.2 e he).1;omega
 by_cases hr:i * a.acc.length≤r∧r < i * a.acc.length+a.acc.length
 ·obtain ⟨q0,rfl⟩:∃ q0,r=i * a.acc.length+q0:=⟨r - i * a.acc.length,by omega⟩
  have hq0:q0 < a.acc.length:=by omega
  rw [z1065 hq0 (fun q hq hne=>by
   unfold pQ
   rw [List.filter_flatMap]
   refine List.flatMap_eq_nil_iff.2 fun to _=>?_
   unfold pTo
   rw [List.filter_flatMap]
   refine List.flatMap_eq_nil_iff.2 fun e _=>?_
   unfold pE2
   split
   ·simp;omega
   ·rfl)]
  unfold pQ
  rw [List.filter_flatMap,z318 hq0]
  refine z601 fun to _=>?_
  unfold pTo z511
  rw [List.filter_flatMap,List.filter_flatMap]
  induction a.ed with
  |nil=>rfl
  |cons e es ih =>
   rw [List.flatMap_cons,← ih,List.filter_cons]
   by_cases he:e.src.toNat=q0
   ·rw [if_pos (by simpa using he),List.flatMap_cons]
    unfold pE2 z129
    rw [he]
   ·rw [if_neg (by simpa using he)]
    have:(z129 a.acc.length i (ls.getD i 0) to e).filter (fun p=>p.1 == i * a.acc.length+q0)=[]:=by
     unfold z129
     split
     ·simp;omega
     ·rfl
    rw [this,List.nil_append]
 ·rw [z958 (fun q hq=>by
   unfold pQ
   rw [List.filter_flatMap]
   refine List.flatMap_eq_nil_iff.2 fun to _=>?_
   unfold pTo
   rw [List.filter_flatMap]
   refine List.flatMap_eq_nil_iff.2 fun e _=>?_
   unfold pE2
   split
   ·simp;omega
   ·rfl)]
  symm
  refine List.flatMap_eq_nil_iff.2 fun to _=>?_
  unfold z511
  rw [List.filter_flatMap]
  refine List.flatMap_eq_nil_iff.2 fun e he=>?_
  have:=hsrc e he
  unfold z129
  split
  ·simp;omega
  ·rfl
theorem pS2_len (g:Graph) (hg:GB g) (ls:List Int) (a:Aut) (ha:AutP a):(pS2 g ls a).length≤1000000000:=by
 obtain ⟨⟨g1,g2⟩,g3,g4⟩:=hg
 have h2:∀ i∈List.range g.st.length,(pI2 a.acc.length g.nx (z75 a) ls i).length≤7864320:=fun i hi=>by
  rw [y53] at hi
  unfold pI2
  rw [z14 (l:=g.nx) (by omega)]
  have h3:=z176 (f:=pQ a.acc.length g.nx[i] (z75 a) i (ls.getD i 0)) (c:=122880) (List.range a.acc.length) (fun q hq=>by
   have h1:∀ to,(pTo a.acc.length ((z75 a).getD q []) i q (ls.getD i 0) to).length≤2048:=fun to=>by
    have h5:=z176 (f:=pE2 a.acc.length i q (ls.getD i 0) to) (c:=1) ((z75 a).getD q []) (fun e _=>by unfold pE2;split<;>simp)
    rw [z318 (List.mem_range.1 hq)] at h5 ⊢
    have:=List.length_filter_le (fun e:Trans=>e.src.toNat == q) a.ed
    have:=ha.2.1
    unfold pTo;omega
   have h3:=z176 (f:=pTo a.acc.length ((z75 a).getD q []) i q (ls.getD i 0)) (c:=2048) g.nx[i] (fun to _=>h1 to)
   have h4:=(g4 i (by omega) (by omega) hi).2.1
   have:g.nx[i].length * 2048≤60 * 2048:=Nat.mul_le_mul_right _ (by omega)
   unfold pQ;omega)
  rw [List.length_range] at h3
  have:a.acc.length * 122880≤64 * 122880:=Nat.mul_le_mul_right _ ha.1.2
  omega
 have h5:=z176 (f:=pI2 a.acc.length g.nx (z75 a) ls) (c:=7864320) (List.range g.st.length) h2
 rw [List.length_range] at h5
 have:g.st.length * 7864320≤60 * 7864320:=Nat.mul_le_mul_right _ (by omega)
 unfold pS2;omega
theorem z1143 (g:Graph) (ls:List Int) (a:Aut) (ha:AutP a):build (g.st.length * a.acc.length) (pS2 g ls a)=z27 g ls a:=by
 unfold z27 build
 rw [Nat.mul_comm]
 refine List.map_congr_left fun r _=>?_
 rw [pS2_rows g ls a ha r]
set_option maxHeartbeats 800000 in
theorem z826 (g:Graph) (hg:GB g) (l:List Tree) (hl:z178 l) (a:Aut) (ha:AutP a):CallsA Tryz.prog 68 [.agg g.cs,lst 3 Tree.cs' l,.agg a.cs] [] (.tup [.sref 0 0 (g.st.length * a.acc.length),ints a.ini]) [.cells 1 ((z27 g (g.st.map (z28 l)) a).map z83)]:=by
 have hvals:=hg.vals
 have hpl:=z509 g hg (g.st.map (z28 l)) a ha
 have hini:=ha.2.2.1.le (by omega)
 obtain ⟨⟨g1,g2⟩,g3,g4⟩:=hg
 obtain ⟨⟨a1,a2⟩,a3,a4,a5⟩:=ha
 have hN:=z99 (a:=(g.st.length:Int)) (b:=(a.acc.length:Int)) (A:=60) (B:=64) (by omega) (by omega) (by omega) (by omega)
 refine z13 z15 Tryz.func68 rfl rfl 117 Tryz.ntmps68 (by simp) ?_
 repeat' (first|(apply y76 ok;rfl;conv=>whnf)|(apply y36;((dsimp only;omega));conv=>whnf))
 refine y77 (Gl.Reach.weaken (es':=List.replicate a.acc.length [.own 4 []]) 2 rfl (by rw [y39,y39];rfl) z255 rfl) ?_
 conv=>whnf
 refine z94 (fun k:Nat=>([(1,lst 3 Tree.cs' l),(3,.ptr 0 none 0),(5,.ptr 1 none 0),(8,.int a.acc.length),(9,.sref 2 0 a.acc.length),(26,lst 4 Trans.cs a.ed),(27,.int a.ed.length),(28,.int k)],[.cells 2 [[lst 2 State.cs g.st,lst 1 encL g.nx]],.cells 3 [[lst 1 enI a.ini,lst 1 enB a.acc,lst 4 Trans.cs a.ed]],.cells 1 ((z120 a.acc.length ((a.ed.take k).map fun e=>(e.src.toNat,e))).map (ownG 4 Trans.cs))])) (fun k=>k≤a.ed.length) (fun k=>a.ed.length - k) 0 (by omega)
  ⟨[0,1,2],rfl,by decide,rfl,⟨⟨rfl,rfl⟩,⟨rfl,rfl⟩,⟨rfl,rfl⟩,⟨rfl,rfl⟩,⟨rfl,rfl⟩,⟨rfl,rfl⟩,⟨rfl,rfl⟩,⟨rfl,rfl⟩,trivial⟩,⟨z24 rfl rfl,z24 rfl rfl,z39 (z51 (z1057 _ _ _).symm) (z4 fun _=>rfl),trivial⟩⟩ ?_
 intro k hk
 have hN2:((g.st.length * a.acc.length:Nat):Int)=(g.st.length:Int) * a.acc.length:=by simp
 repeat' (first|((fail_if_success apply z104 6);(fail_if_success apply z88 6);(fail_if_success apply z104 8);(fail_if_success apply z88 8);apply y76 ok;rfl;conv=>whnf)|(apply y36;(omega);conv=>whnf)|(with_reducible apply z8;omega;intro _;conv=>whnf)|(apply z5<;>intro _<;>conv=>whnf))
 ·have hkl:k < a.ed.length:=by assumption
  have he:=a5 a.ed[k] (y37 hkl)
  unfold z328 at he
  have hlt:a.ed[k].src.toNat < (z120 a.acc.length ((a.ed.take k).map fun e=>(e.src.toNat,e))).length:=by rw [z160];omega
  have hmap:a.ed[k].src.toNat < ((z120 a.acc.length ((a.ed.take k).map fun e=>(e.src.toNat,e))).map (ownG 4 Trans.cs)).length:=by rw [y42];exact hlt
  have hrl:=z684 hlt
  rw [y42,y41] at hrl
  refine y77 (Gl.Reach.expose (e:=ownG 4 Trans.cs (z120 a.acc.length ((a.ed.take k).map fun e=>(e.src.toNat,e)))[a.ed[k].src.toNat]) 2 a.ed[k].src.toNat 0 rfl (by rw [y44,y38 hlt];rfl) rfl (z214 (fun _=>rfl) _) rfl) ?_
  conv=>whnf
  (apply y76 ok;rfl;conv=>whnf)
  repeat' (first|(apply z21;kernel_rfl;conv=>whnf)|(apply z534;exact Nat.add_zero _;exact hmap;conv=>whnf)|(apply y36;(first|omega|((try dsimp only);simp only [y42,y41,y40,y39,y51,y52];omega)|exact ⟨rfl,z19 rfl z26⟩);conv=>whnf))
  refine y77 (Gl.Reach.absorb 2 6 a.ed[k].src.toNat 0 rfl (z915 (Nat.add_zero _) (by rw [List.length_set];exact hmap)) rfl rfl (by simp) rfl (z70 (fun e he=>(z4 (fun _=>rfl)) e (List.mem_of_mem_take he)) (z208 rfl z34)) rfl) ?_
  conv=>whnf
  repeat' (first|((fail_if_success apply z104 6);(fail_if_success apply z88 6);(fail_if_success apply z104 8);(fail_if_success apply z88 8);apply y76 ok;rfl;conv=>whnf)|(apply y36;((unfold inI;omega));conv=>whnf))
  refine z79 (k+1) [0,1,2] (by omega) (by omega)
   ⟨rfl,by decide,rfl,⟨⟨rfl,rfl⟩,⟨rfl,rfl⟩,⟨rfl,rfl⟩,⟨rfl,rfl⟩,⟨rfl,rfl⟩,⟨rfl,rfl⟩,⟨rfl,rfl⟩,⟨rfl,rfl⟩,trivial⟩,⟨z24 rfl rfl,z24 rfl rfl,z39 (z51 ?_) (z4 fun _=>rfl),trivial⟩⟩
  have e1:((a.ed.take (k+1)).map fun e=>(e.src.toNat,e))=((a.ed.take k).map fun e=>(e.src.toNat,e))++[(a.ed[k].src.toNat,a.ed[k])]:=by
   rw [y43 hkl,y56];rfl
  rw [e1]
  exact z957 hlt (Nat.add_zero _) (by simp) rfl
 obtain rfl:k=a.ed.length:=by omega
 refine y77 (SealL.reach (π:=[0,1]) (Bn:=[2]) (env:=[(1,lst 3 Tree.cs' l),(3,.ptr 0 none 0),(5,.ptr 1 none 0),(8,.int a.acc.length),(9,lst 1 encT (z75 a))]) (objs:=[.cells 2 [[lst 2 State.cs g.st,lst 1 encL g.nx]],.cells 3 [[lst 1 enI a.ini,lst 1 enB a.acc,lst 4 Trans.cs a.ed]]]) ⟨rfl,rfl,by simp,rfl,by intro o ho;simp at ho;rcases ho with rfl|rfl<;>rfl,⟨rfl,rfl,rfl,rfl,?_,trivial⟩,rfl⟩) ?_
 ·show bor _ _ _ (.sref 2 0 a.acc.length)=_
  rw [z267 (w:=1) (es:=(z120 a.acc.length ((a.ed.take a.ed.length).map fun e=>(e.src.toNat,e))).map (ownG 4 Trans.cs)) rfl rfl rfl (by rw [y42,z160]),z823 (fun t=>Trans.unown t),y49]
  unfold lst z75
  rw [z160];rfl
 conv=>whnf
 repeat' (first|(apply y76 ok;rfl;conv=>whnf)|(apply y36;(first|(unfold inI;omega)|(dsimp only;omega));conv=>whnf)|(apply z6 (z911 g hvals g2 l hl);rfl;rfl;conv=>whnf))
 refine y77 (Gl.Reach.weaken (es':=List.replicate (g.st.length * a.acc.length) [.own 1 []]) 2 rfl (by rw [y39,y39];rfl) z255 rfl) ?_
 conv=>whnf
 have hls:(g.st.map (z28 l)).length=g.st.length:=by simp
 have hlr:∀ x∈g.st.map (z28 l),0≤x∧x≤7:=fun x hx=>by
  obtain ⟨s,_,rfl⟩:=List.mem_map.1 hx
  exact z148 hl s
 rw [← z1143 g _ a ⟨⟨a1,a2⟩,a3,a4,a5⟩]
 have hpl2:=pS2_len g ⟨⟨g1,g2⟩,g3,g4⟩ (g.st.map (z28 l)) a ⟨⟨a1,a2⟩,a3,a4,a5⟩
 generalize hlsd:g.st.map (z28 l)=ls at hls hlr hpl hpl2
 have hrow:∀ i (hi:i < g.nx.length),∀ x∈g.nx[i],0≤x∧x≤g.st.length - 1:=fun i hi x hx=>by
  obtain ⟨j,hj,rfl⟩:=List.mem_iff_getElem.1 hx
  exact ((g4 i hi hi (by omega)).2.2.2 j hj hj).1
 have hlen:∀ i (hi:i < g.nx.length),g.nx[i].length≤60:=fun i hi=>by
  have:=(g4 i hi hi (by omega)).2.1;omega
 have hel:(z75 a).length=a.acc.length:=z160 _ _
 have hed:∀ q (hq:q < (z75 a).length),∀ e∈(z75 a)[q],e∈a.ed:=fun q hq e he=>by
  rw [← z14 (d:=[]) hq,z318 (by omega)] at he;exact (List.mem_filter.1 he).1
 have hedl:∀ q (hq:q < (z75 a).length),(z75 a)[q].length≤2048:=fun q hq=>by
  rw [← z14 (d:=[]) hq,z318 (by omega)];exact Nat.le_trans (List.length_filter_le _ _) a3
 refine z94 (fun x:Nat×List (Nat×Int)=>([(3,.ptr 0 none 0),(5,.ptr 1 none 0),(8,.int a.acc.length),(9,lst 1 encT (z75 a)),(12,.sref 2 0 (g.st.length * a.acc.length)),(53,ints ls),(54,.int ls.length),(55,.int x.1)],[.cells 2 [[lst 2 State.cs g.st,lst 1 encL g.nx]],.cells 3 [[lst 1 enI a.ini,lst 1 enB a.acc,lst 4 Trans.cs a.ed]],.cells 1 ((build (g.st.length * a.acc.length) x.2).map z83)])) (fun x=>x.1≤ls.length∧x.2++((List.range g.st.length).drop x.1).flatMap (pI2 a.acc.length g.nx (z75 a) ls)=pS2 g ls a) (fun x=>ls.length - x.1) (0,[]) ⟨by omega,rfl⟩
  ⟨[0,1,2],rfl,by decide,rfl,⟨⟨rfl,by rfl⟩,⟨rfl,by rfl⟩,⟨rfl,by rfl⟩,⟨rfl,by rfl⟩,⟨rfl,by rfl⟩,⟨rfl,by rfl⟩,⟨rfl,by rfl⟩,⟨rfl,by rfl⟩,trivial⟩,⟨z24 rfl rfl,z24 rfl rfl,z39 (z51 (z640 _).symm) (z4 fun _=>rfl),trivial⟩⟩ ?_
 rintro ⟨i,ps⟩ ⟨hi1,hi2⟩
 dsimp only at hi1 hi2 ⊢
 repeat' (first|(apply y76 ok;rfl;conv=>whnf)|(apply y36;(omega);conv=>whnf)|(with_reducible apply z8;omega;intro _;conv=>whnf)|(apply z5<;>intro _<;>conv=>whnf))
 ·have hig:i < g.st.length:=by omega
  rw [z183 _ _ _ (by simpa using hig),List.getElem_range] at hi2
  have hin:i < g.nx.length:=by omega
  have hrow:=hrow i hin
  have hlen:=hlen i hin
  have hil:i < ls.length:=by omega
  have hli:=hlr ls[i] (y37 _)
  have hpI:pI2 a.acc.length g.nx (z75 a) ls i=(List.range a.acc.length).flatMap (pQ a.acc.length g.nx[i] (z75 a) i ls[i]):=by
   unfold pI2
   rw [z14 (l:=g.nx) hin,z14 (l:=ls) hil]
  rw [hpI] at hi2
  have hm1:=z99 (a:=(i:Int)) (b:=(a.acc.length:Int)) (A:=60) (B:=64) (by omega) (by omega) (by omega) (by omega)
  refine z94 (fun x:Nat×List (Nat×Int)=>([(3,.ptr 0 none 0),(5,.ptr 1 none 0),(8,.int a.acc.length),(9,lst 1 encT (z75 a)),(12,.sref 2 0 (g.st.length * a.acc.length)),(53,ints ls),(54,.int ls.length),(55,.int i),(13,.int i),(14,.int ls[i]),(60,.int a.acc.length),(61,.int x.1)],[.cells 2 [[lst 2 State.cs g.st,lst 1 encL g.nx]],.cells 3 [[lst 1 enI a.ini,lst 1 enB a.acc,lst 4 Trans.cs a.ed]],.cells 1 ((build (g.st.length * a.acc.length) x.2).map z83)])) (fun x=>x.1≤a.acc.length∧x.2++(((List.range a.acc.length).drop x.1).flatMap (pQ a.acc.length g.nx[i] (z75 a) i ls[i])++((List.range g.st.length).drop (i+1)).flatMap (pI2 a.acc.length g.nx (z75 a) ls))=pS2 g ls a) (fun x=>a.acc.length - x.1) (0,ps) ⟨by omega,hi2⟩
   ⟨[0,1,2],rfl,by decide,rfl,⟨⟨rfl,rfl⟩,⟨rfl,rfl⟩,⟨rfl,rfl⟩,⟨rfl,rfl⟩,⟨rfl,rfl⟩,⟨rfl,rfl⟩,⟨rfl,rfl⟩,⟨rfl,rfl⟩,⟨rfl,rfl⟩,⟨rfl,rfl⟩,⟨rfl,rfl⟩,⟨rfl,rfl⟩,trivial⟩,⟨z24 rfl rfl,z24 rfl rfl,z39 rfl (z4 fun _=>rfl),trivial⟩⟩ ?_
  rintro ⟨q,ps⟩ ⟨hq1,hq2⟩
  dsimp only at hq1 hq2 ⊢
  repeat' (first|(apply y76 ok;rfl;conv=>whnf)|(apply y36;(first|omega|(unfold inI;omega));conv=>whnf)|(with_reducible apply z8;omega;intro _;conv=>whnf)|(apply z5<;>intro _<;>conv=>whnf))
  ·have hqn:q < a.acc.length:=by omega
   rw [z183 _ _ _ (by simpa using hqn),List.getElem_range,List.append_assoc] at hq2
   have hqe:q < (z75 a).length:=by omega
   have hpQ:pQ a.acc.length g.nx[i] (z75 a) i ls[i] q=g.nx[i].flatMap (pTo a.acc.length (z75 a)[q] i q ls[i]):=by
    unfold pQ;rw [z14 hqe]
   rw [hpQ] at hq2
   have hedl:=hedl q hqe
   have hlt:i * a.acc.length+q < g.st.length * a.acc.length:=by
    have h1:(i+1) * a.acc.length≤g.st.length * a.acc.length:=Nat.mul_le_mul_right _ hig
    rw [Nat.add_mul,Nat.one_mul] at h1
    omega
   refine z94 (fun x:Nat×List (Nat×Int)=>([(3,.ptr 0 none 0),(5,.ptr 1 none 0),(8,.int a.acc.length),(9,lst 1 encT (z75 a)),(12,.sref 2 0 (g.st.length * a.acc.length)),(53,ints ls),(54,.int ls.length),(55,.int i),(13,.int i),(14,.int ls[i]),(60,.int a.acc.length),(61,.int q),(15,.int q),(68,ints g.nx[i]),(69,.int g.nx[i].length),(70,.int x.1)],[.cells 2 [[lst 2 State.cs g.st,lst 1 encL g.nx]],.cells 3 [[lst 1 enI a.ini,lst 1 enB a.acc,lst 4 Trans.cs a.ed]],.cells 1 ((build (g.st.length * a.acc.length) x.2).map z83)])) (fun x=>x.1≤g.nx[i].length∧x.2++((g.nx[i].drop x.1).flatMap (pTo a.acc.length (z75 a)[q] i q ls[i])++(((List.range a.acc.length).drop (q+1)).flatMap (pQ a.acc.length g.nx[i] (z75 a) i ls[i])++((List.range g.st.length).drop (i+1)).flatMap (pI2 a.acc.length g.nx (z75 a) ls)))=pS2 g ls a) (fun x=>g.nx[i].length - x.1) (0,ps) ⟨by omega,hq2⟩
    ⟨[0,1,2],rfl,by decide,rfl,⟨⟨rfl,rfl⟩,⟨rfl,rfl⟩,⟨rfl,rfl⟩,⟨rfl,rfl⟩,⟨rfl,rfl⟩,⟨rfl,rfl⟩,⟨rfl,rfl⟩,⟨rfl,rfl⟩,⟨rfl,rfl⟩,⟨rfl,rfl⟩,⟨rfl,rfl⟩,⟨rfl,rfl⟩,⟨rfl,rfl⟩,⟨rfl,rfl⟩,⟨rfl,rfl⟩,⟨rfl,rfl⟩,trivial⟩,⟨z24 rfl rfl,z24 rfl rfl,z39 rfl (z4 fun _=>rfl),trivial⟩⟩ ?_
   rintro ⟨j,ps⟩ ⟨hj1,hj2⟩
   dsimp only at hj1 hj2 ⊢
   repeat' (first|(apply y76 ok;rfl;conv=>whnf)|(apply y36;(first|omega|(unfold inI;omega));conv=>whnf)|(with_reducible apply z8;omega;intro _;conv=>whnf)|(apply z5<;>intro _<;>conv=>whnf))
   ·have hjn:j < g.nx[i].length:=by omega
    rw [z183 _ _ _ hjn,List.append_assoc] at hj2
    have hto:=hrow g.nx[i][j] (y37 _)
    have hm2:=z99 (a:=g.nx[i][j]) (b:=(a.acc.length:Int)) (A:=60) (B:=64) (by omega) (by omega) (by omega) (by omega)
    refine z94 (fun x:Nat×List (Nat×Int)=>([(3,.ptr 0 none 0),(5,.ptr 1 none 0),(8,.int a.acc.length),(9,lst 1 encT (z75 a)),(12,.sref 2 0 (g.st.length * a.acc.length)),(53,ints ls),(54,.int ls.length),(55,.int i),(13,.int i),(14,.int ls[i]),(60,.int a.acc.length),(61,.int q),(15,.int q),(68,ints g.nx[i]),(69,.int g.nx[i].length),(70,.int j),(17,.int g.nx[i][j]),(77,lst 4 Trans.cs (z75 a)[q]),(78,.int (z75 a)[q].length),(79,.int x.1)],[.cells 2 [[lst 2 State.cs g.st,lst 1 encL g.nx]],.cells 3 [[lst 1 enI a.ini,lst 1 enB a.acc,lst 4 Trans.cs a.ed]],.cells 1 ((build (g.st.length * a.acc.length) x.2).map z83)])) (fun x=>x.1≤(z75 a)[q].length∧x.2++(((z75 a)[q].drop x.1).flatMap (pE2 a.acc.length i q ls[i] g.nx[i][j])++((g.nx[i].drop (j+1)).flatMap (pTo a.acc.length (z75 a)[q] i q ls[i])++(((List.range a.acc.length).drop (q+1)).flatMap (pQ a.acc.length g.nx[i] (z75 a) i ls[i])++((List.range g.st.length).drop (i+1)).flatMap (pI2 a.acc.length g.nx (z75 a) ls))))=pS2 g ls a) (fun x=>(z75 a)[q].length - x.1) (0,ps) ⟨by omega,hj2⟩
     ⟨[0,1,2],rfl,by decide,rfl,⟨⟨rfl,rfl⟩,⟨rfl,rfl⟩,⟨rfl,rfl⟩,⟨rfl,rfl⟩,⟨rfl,rfl⟩,⟨rfl,rfl⟩,⟨rfl,rfl⟩,⟨rfl,rfl⟩,⟨rfl,rfl⟩,⟨rfl,rfl⟩,⟨rfl,rfl⟩,⟨rfl,rfl⟩,⟨rfl,rfl⟩,⟨rfl,rfl⟩,⟨rfl,rfl⟩,⟨rfl,rfl⟩,⟨rfl,rfl⟩,⟨rfl,rfl⟩,⟨rfl,rfl⟩,⟨rfl,rfl⟩,trivial⟩,⟨z24 rfl rfl,z24 rfl rfl,z39 rfl (z4 fun _=>rfl),trivial⟩⟩ ?_
    rintro ⟨k,ps⟩ ⟨hk1,hk2⟩
    dsimp only at hk1 hk2 ⊢
    by_cases hke:k < (z75 a)[q].length
    ·have he:=a5 (z75 a)[q][k] (hed q hqe _ (y37 hke))
     unfold z328 at he
     have hlt' : i * a.acc.length+q < (build (g.st.length * a.acc.length) ps).length:=by rw [z71];exact hlt
     have hmap:i * a.acc.length+q < ((build (g.st.length * a.acc.length) ps).map z83).length:=by rw [y42];exact hlt'
     have hrl:(build (g.st.length * a.acc.length) ps)[i * a.acc.length+q].length≤1000000000:=by
      have h1:=z184 (N:=g.st.length * a.acc.length) (ps:=ps) hlt'
      have h2:=congrArg List.length hk2
      rw [y40] at h2
      omega
     have hix:((i:Int) * a.acc.length+q).toNat=i * a.acc.length+q:=by
      have e:((i * a.acc.length:Nat):Int)=(i:Int) * a.acc.length:=by simp
      omega
     have hlt2:((i:Int) * a.acc.length+q).toNat < g.st.length * a.acc.length:=by rw [hix];exact hlt
     rw [z183 _ _ _ hke] at hk2
     repeat' (first|((fail_if_success apply z104 22);(fail_if_success apply z88 22);apply y76 ok;rfl;conv=>whnf)|(apply y36;(first|omega|(unfold inI;omega));conv=>whnf)|(with_reducible apply z8;omega;intro _;conv=>whnf)|(apply z5<;>intro _<;>conv=>whnf)|(apply z6 (z884 (z75 a)[q][k] ls[i] hli.1 hli.2 he.2.2.1);rfl;rfl;conv=>whnf))
     ·have hon:((ls[i].toNat &&& (z75 a)[q][k].care.toNat:Nat):Int)=(z75 a)[q][k].val:=by assumption
      refine y77 (Gl.Reach.expose (e:=z83 (build (g.st.length * a.acc.length) ps)[i * a.acc.length+q]) 2 (i * a.acc.length+q) 0 rfl (by rw [y44,y38 hlt'];rfl) rfl (z214 (fun _=>rfl) _) rfl) ?_
      conv=>whnf
      (apply y76 ok;rfl;conv=>whnf)
      repeat' (first|(apply z21;kernel_rfl;conv=>whnf)|(apply z534;exact hix;exact hmap;conv=>whnf)|(apply y36;(first|omega|(unfold inI;omega)|((try dsimp only);simp only [y42,y41,y40,y39,y51,y52];omega)|exact ⟨rfl,z19 rfl z26⟩);conv=>whnf))
      refine y77 (Gl.Reach.absorb 2 6 (i * a.acc.length+q) 0 rfl (z915 hix (by rw [List.length_set];exact hmap)) rfl rfl (by simp) rfl (z70 (fun e he=>(z4 (fun _=>rfl)) e (List.mem_of_mem_take he)) (z208 rfl z34)) rfl) ?_
      conv=>whnf
      repeat' (first|(apply y76 ok;rfl;conv=>whnf)|(apply y36;((unfold inI;omega));conv=>whnf))
      have hpe:pE2 a.acc.length i q ls[i] g.nx[i][j] (z75 a)[q][k]=[(i * a.acc.length+q,g.nx[i][j] * a.acc.length+(z75 a)[q][k].dst)]:=by
       unfold pE2 onB;rw [if_pos (y73 hon)]
      rw [hpe,List.append_assoc,← List.append_assoc] at hk2
      exact z79 (k+1,ps++[(i * a.acc.length+q,g.nx[i][j] * a.acc.length+(z75 a)[q][k].dst)]) [0,1,2] ⟨by dsimp only;omega,hk2⟩ (by dsimp only;omega) ⟨rfl,by decide,rfl,⟨⟨rfl,rfl⟩,⟨rfl,rfl⟩,⟨rfl,rfl⟩,⟨rfl,rfl⟩,⟨rfl,rfl⟩,⟨rfl,rfl⟩,⟨rfl,rfl⟩,⟨rfl,rfl⟩,⟨rfl,rfl⟩,⟨rfl,rfl⟩,⟨rfl,rfl⟩,⟨rfl,rfl⟩,⟨rfl,rfl⟩,⟨rfl,rfl⟩,⟨rfl,rfl⟩,⟨rfl,rfl⟩,⟨rfl,rfl⟩,⟨rfl,rfl⟩,⟨rfl,rfl⟩,⟨rfl,rfl⟩,trivial⟩,⟨z24 rfl rfl,z24 rfl rfl,z39 (z51 (rows_push' hlt' hix (by simp))) (z4 fun _=>rfl),trivial⟩⟩
     ·have hon:¬ ((ls[i].toNat &&& (z75 a)[q][k].care.toNat:Nat):Int)=(z75 a)[q][k].val:=by assumption
      have hpe:pE2 a.acc.length i q ls[i] g.nx[i][j] (z75 a)[q][k]=[]:=by
       unfold pE2 onB;rw [if_neg (by simpa using hon)]
      rw [hpe,List.nil_append] at hk2
      exact z79 (k+1,ps) [0,1,2] ⟨by dsimp only;omega,hk2⟩ (by dsimp only;omega) ⟨rfl,by decide,rfl,⟨⟨rfl,rfl⟩,⟨rfl,rfl⟩,⟨rfl,rfl⟩,⟨rfl,rfl⟩,⟨rfl,rfl⟩,⟨rfl,rfl⟩,⟨rfl,rfl⟩,⟨rfl,rfl⟩,⟨rfl,rfl⟩,⟨rfl,rfl⟩,⟨rfl,rfl⟩,⟨rfl,rfl⟩,⟨rfl,rfl⟩,⟨rfl,rfl⟩,⟨rfl,rfl⟩,⟨rfl,rfl⟩,⟨rfl,rfl⟩,⟨rfl,rfl⟩,⟨rfl,rfl⟩,⟨rfl,rfl⟩,trivial⟩,⟨z24 rfl rfl,z24 rfl rfl,z39 rfl (z4 fun _=>rfl),trivial⟩⟩
     ·omega
    ·repeat' (first|((fail_if_success apply z104 22);(fail_if_success apply z88 22);apply y76 ok;rfl;conv=>whnf)|(apply y36;(first|omega|(unfold inI;omega));conv=>whnf)|(with_reducible apply z8;omega;intro _;conv=>whnf)|(apply z5<;>intro _<;>conv=>whnf))
     ·omega
     ·rw [z123 _ _ _ (by omega),List.nil_append] at hk2
      exact z79 (j+1,ps) [0,1,2] ⟨by dsimp only;omega,hk2⟩ (by dsimp only;omega) ⟨rfl,by decide,rfl,⟨⟨rfl,rfl⟩,⟨rfl,rfl⟩,⟨rfl,rfl⟩,⟨rfl,rfl⟩,⟨rfl,rfl⟩,⟨rfl,rfl⟩,⟨rfl,rfl⟩,⟨rfl,rfl⟩,⟨rfl,rfl⟩,⟨rfl,rfl⟩,⟨rfl,rfl⟩,⟨rfl,rfl⟩,⟨rfl,rfl⟩,⟨rfl,rfl⟩,⟨rfl,rfl⟩,⟨rfl,rfl⟩,trivial⟩,⟨z24 rfl rfl,z24 rfl rfl,z39 rfl (z4 fun _=>rfl),trivial⟩⟩
   ·rw [z123 _ _ _ (by omega),List.nil_append] at hj2
    exact z79 (q+1,ps) [0,1,2] ⟨by dsimp only;omega,hj2⟩ (by dsimp only;omega) ⟨rfl,by decide,rfl,⟨⟨rfl,rfl⟩,⟨rfl,rfl⟩,⟨rfl,rfl⟩,⟨rfl,rfl⟩,⟨rfl,rfl⟩,⟨rfl,rfl⟩,⟨rfl,rfl⟩,⟨rfl,rfl⟩,⟨rfl,rfl⟩,⟨rfl,rfl⟩,⟨rfl,rfl⟩,⟨rfl,rfl⟩,trivial⟩,⟨z24 rfl rfl,z24 rfl rfl,z39 rfl (z4 fun _=>rfl),trivial⟩⟩
  ·rw [z123 _ _ _ (by simp;omega),List.nil_append] at hq2
   exact z79 (i+1,ps) [0,1,2] ⟨by dsimp only;omega,hq2⟩ (by dsimp only;omega) ⟨rfl,by decide,rfl,⟨⟨rfl,rfl⟩,⟨rfl,rfl⟩,⟨rfl,rfl⟩,⟨rfl,rfl⟩,⟨rfl,rfl⟩,⟨rfl,rfl⟩,⟨rfl,rfl⟩,⟨rfl,rfl⟩,trivial⟩,⟨z24 rfl rfl,z24 rfl rfl,z39 rfl (z4 fun _=>rfl),trivial⟩⟩
 ·rw [z123 _ _ _ (by simp;omega),y57] at hi2
  subst hi2
  repeat' (first|(apply y76 ok;rfl;conv=>whnf)|(apply z6 (z761 a.ini (by omega));rfl;rfl;conv=>whnf))
  exact z110 [2] (by decide) rfl rfl rfl ⟨z39 rfl (z4 fun _=>rfl),trivial⟩
theorem z420 (g:Graph) (hg:GB g) (l:List Tree) (hl:z178 l) (a:Aut) (ha:AutP a):CallsA Tryz.prog 68 [.agg g.cs,lst 3 Tree.cs' l,.agg a.cs] [] (.tup [lst 1 encL (z27 g (g.st.map (z28 l)) a),ints a.ini]) []:=by
 have h:=z826 g hg l hl a ha
 have hlen:(z27 g (g.st.map (z28 l)) a).length=g.st.length * a.acc.length:=by unfold z27;rw [z71,Nat.mul_comm]
 refine h.lend [] [0] rfl rfl rfl ?_ z59
 show AC.tup [bor _ _ _ (.sref 0 0 _),bor _ _ _ (ints a.ini)]=_
 rw [z267 (w:=1) (es:=(z27 g (g.st.map (z28 l)) a).map z83) rfl rfl rfl (by rw [y42];exact hlen),z146,← hlen]
 rfl
theorem z344 (g:Graph) (hg:GB g) (ls:List Int) (a:Aut) (ha:AutP a):∀ row∈z27 g ls a,∀ x∈row,0≤x∧x < ((g.st.length * a.acc.length:Nat):Int):=by
 intro row hrow x hx
 unfold z27 build at hrow
 obtain ⟨r,_,rfl⟩:=List.mem_map.1 hrow
 obtain ⟨⟨p,v⟩,hp,rfl⟩:=List.mem_map.1 hx
 have hp:=(List.mem_filter.1 hp).1
 unfold z510 at hp
 obtain ⟨i,hi,hp⟩:=List.mem_flatMap.1 hp
 rw [y53] at hi
 unfold z419 at hp
 obtain ⟨to,hto,hp⟩:=List.mem_flatMap.1 hp
 unfold z511 at hp
 obtain ⟨e,he,hp⟩:=List.mem_flatMap.1 hp
 have hin:i < g.nx.length:=by have:=hg.2.1;omega
 rw [z14 hin] at hto
 obtain ⟨j,hj,rfl⟩:=List.mem_iff_getElem.1 hto
 have h1:=((hg.2.2 i hin hin hi).2.2.2 j hj hj).1
 have h2:=(ha.2.2.2 e he).2.1
 unfold z129 at hp
 split at hp
 ·simp only [y48,Prod.mk.injEq] at hp
  obtain ⟨_,rfl⟩:=hp
  have h3:0≤g.nx[i][j] * (a.acc.length:Int):=Int.mul_nonneg h1.1 (by omega)
  have h4:(g.nx[i][j]+1) * (a.acc.length:Int)≤g.st.length * a.acc.length:=Int.mul_le_mul_of_nonneg_right (by omega) (by omega)
  rw [Int.add_mul,Int.one_mul] at h4
  have e:((g.st.length * a.acc.length:Nat):Int)=(g.st.length:Int) * a.acc.length:=by simp
  rw [e]
  dsimp only
  omega
 ·simp at hp
theorem z284 (g:Graph) (hg:GB g) (ls:List Int) (a:Aut) (ha:AutP a):∀ row∈z27 g ls a,row.length≤7372800:=by
 intro row hrow
 obtain ⟨i,hi,rfl⟩:=List.mem_iff_getElem.1 hrow
 exact Nat.le_trans (z184 (N:=a.acc.length * g.st.length) (ps:=z510 g ls a) hi) (z509 g hg ls a ha)
def rk (ranks:List Int) (x:Int):Int:=ranks.getD x.toNat 0
def less (acc:Bool) (r:Int):Int:=if acc then r - 1 else r
def z423 (row ranks:List Int) (rank:Int) (acc:Bool):Prop:=∀ x∈row,0≤rk ranks x∧rk ranks x≤less acc rank
instance {row ranks:List Int} {rank:Int} {acc:Bool} : Decidable (z423 row ranks rank acc):=by unfold z423;infer_instance
theorem z1091 (row ranks:List Int) (rank:Int) (acc:Bool) (hr:row.length≤maxLen) (hb:∀ x∈row,0≤x∧x < ranks.length):CallsA Tryz.prog 97 [ints row,ints ranks,.int rank,.bool acc] [] (.bool (decide (z423 row ranks rank acc))) []:=by
 unfold maxLen at hr
 refine z13 z15 Tryz.func97 rfl rfl 39 Tryz.ntmps97 (by simp) ?_
 repeat' ((apply y76 ok;rfl;conv=>whnf))
 refine z94 (fun k:Nat=>([(0,ints row),(1,ints ranks),(2,.int rank),(3,.bool acc),(9,.int k)],[])) (fun k=>k≤row.length∧∀ i (h:i < row.length),i < k→0≤rk ranks row[i]∧rk ranks row[i]≤less acc rank) (fun k=>row.length - k) 0 ⟨by omega,fun i h hi=>by omega⟩ ⟨[],rfl,by decide,rfl,by repeat' (first|exact True.intro|exact ⟨rfl,rfl⟩|apply y36),by repeat' (exact True.intro)⟩ ?_
 rintro k ⟨hk1,hk2⟩
 by_cases hkl:k < row.length
 ·have hx:=hb row[k] (y37 _)
  have hrk:rk ranks row[k]=ranks[row[k].toNat]'(by omega):=z14 (by omega)
  have hno:(¬ 0≤rk ranks row[k]∨rank < rk ranks row[k]∨(acc=true∧rk ranks row[k]=rank))→¬ z423 row ranks rank acc:=fun h h2=>by
   have h3:=h2 _ (y37 hkl)
   unfold less at h3
   rcases h with h|h|⟨rfl,h⟩
   ·omega
   ·split at h3<;>omega
   ·rw [if_pos rfl] at h3;omega
  have hyes:(0≤rk ranks row[k]∧rk ranks row[k]≤rank∧(acc=false∨rk ranks row[k]≠rank))→∀ i (h:i < row.length),i < k+1→0≤rk ranks row[i]∧rk ranks row[i]≤less acc rank:=fun h i hi hik=>by
   rcases y62 i k with h3|h3
   ·exact hk2 i hi h3
   ·obtain rfl:i=k:=by omega
    refine ⟨h.1,?_⟩
    unfold less
    rcases h.2.2 with h4|h4
    ·rw [h4,if_neg (by simp)];omega
    ·split<;>omega
  rw [hrk] at hno hyes
  repeat' (first|(apply y76 ok;rfl;conv=>whnf)|(apply y36;(first|omega|(unfold inI;omega));conv=>whnf)|(with_reducible apply z8;omega;intro _;conv=>whnf)|(with_reducible apply z55;omega;intro _;conv=>whnf)|(apply z5<;>intro _<;>conv=>whnf)|(apply z87<;>intro _<;>conv=>whnf))
  all_goals first
   |exact z20 rfl (y74 (hno (by first|exact .inl (by omega)|exact .inr (.inl (by omega))|exact .inr (.inr ⟨by assumption,by assumption⟩))))
   |exact z79 (k+1) [] ⟨by omega,hyes ⟨by omega,by omega,by first|exact .inl (by assumption)|exact .inr (by assumption)⟩⟩ (by omega) ⟨rfl,by decide,rfl,by repeat' (first|exact True.intro|exact ⟨rfl,rfl⟩|apply y36),by repeat' (exact True.intro)⟩
   |omega
 ·repeat' (first|(apply y76 ok;rfl;conv=>whnf)|(apply y36;(omega);conv=>whnf)|(with_reducible apply z8;omega;intro _;conv=>whnf)|(with_reducible apply z55;omega;intro _;conv=>whnf)|(apply z5<;>intro _<;>conv=>whnf)|(apply z87<;>intro _<;>conv=>whnf))
  all_goals try (exfalso;omega)
  refine z20 rfl (y73 ?_)
  intro x hx
  obtain ⟨i,hi,rfl⟩:=List.mem_iff_getElem.1 hx
  exact hk2 i hi (by omega)
def z543 (rows:List (List Int)) (ini:List Int) (acc:List Bool) (N:Nat) (ranks:List Int):Prop :=
 ranks.length=N∧(∀ x∈ranks,-1≤x∧x≤4000)∧(∀ x∈ini,0≤rk ranks x)∧∀ i (h:i < ranks.length),0≤ranks[i]→z423 (rows.getD i []) ranks ranks[i] (acc.getD (i % acc.length) false)
noncomputable instance {rows:List (List Int)} {ini:List Int} {acc:List Bool} {N:Nat} {ranks:List Int} : Decidable (z543 rows ini acc N ranks):=Classical.propDecidable _
noncomputable def z275 (g:Graph) (l:List Tree) (a:Aut) (c:Cert):Bool:=glB g l && autB a && decide (z543 (z27 g (g.st.map (z28 l)) a) a.ini a.acc (g.st.length * a.acc.length) c.ranks)
def Cert.mx (c:Cert):Prop:=c.ranks.length≤maxLen
set_option maxHeartbeats 800000 in
theorem z152 (g:Graph) (hg:g.mx) (l:List Tree) (hl:Lmx l) (a:Aut) (ha:a.mx) (c:Cert) (hc:c.mx):CallsA Tryz.prog 26 [.agg g.cs,lst 3 Tree.cs' l,.agg a.cs,.agg c.cs] [] (.bool (z275 g l a c)) []:=by
 have hcm:=hc
 unfold Cert.mx maxLen at hcm
 by_cases hgl:glB g l=true
 ·have hG:=(z69 g).1 (by unfold glB at hgl;exact (Bool.and_eq_true_iff.1 hgl).1)
  have hL:=y7 (by unfold glB at hgl;exact (Bool.and_eq_true_iff.1 hgl).2)
  have k1:=z115 g hg l hl
  rw [hgl,if_pos rfl] at k1
  by_cases hab:autB a=true
  ·have hA:=z96.1 hab
   have hlr:∀ x∈g.st.map (z28 l),0≤x∧x≤7:=fun x hx=>by
    obtain ⟨s,_,rfl⟩:=List.mem_map.1 hx
    exact z148 hL s
   have k2:=z215 g hG (g.st.map (z28 l)) (by simp) hlr a hA
   have hrows:=z344 g hG (g.st.map (z28 l)) a hA
   have hrl:(z27 g (g.st.map (z28 l)) a).length=g.st.length * a.acc.length:=by unfold z27;rw [z71,Nat.mul_comm]
   have hN:=z99 (a:=(g.st.length:Int)) (b:=(a.acc.length:Int)) (A:=60) (B:=64) (by omega) (by have:=hG.1;omega) (by omega) (by have:=hA.1;omega)
   have hN2:((g.st.length * a.acc.length:Nat):Int)=(g.st.length:Int) * a.acc.length:=by simp
   have hini:=hA.2.2.1
   have e:z275 g l a c=decide (z543 (z27 g (g.st.map (z28 l)) a) a.ini a.acc (g.st.length * a.acc.length) c.ranks):=by unfold z275;rw [hgl,hab];rfl
   rw [e]
   have hrowl:=z284 g hG (g.st.map (z28 l)) a hA
   generalize z27 g (g.st.map (z28 l)) a=rows at k2 hrows hrl hrowl
   have k3:=z95 a ha
   rw [hab] at k3
   have ha1:=hA.1
   refine z13 z15 Tryz.func26 rfl rfl 112 Tryz.ntmps26 (by simp) ?_
   repeat' (first|(apply y76 ok;rfl;conv=>whnf)|(apply y36;((unfold inI;omega));conv=>whnf)|(apply z37<;>intro _<;>conv=>whnf)|(apply z6 (k1);rfl;rfl;conv=>whnf)|(apply z6 (k3);rfl;rfl;conv=>whnf)|(apply z6 (k2);rfl;rfl;conv=>whnf))
   ·rename_i hlen
    exact z20 rfl (y74 fun h=>hlen (by rw [h.1];exact hN2))
   rename_i hlen
   have hcl:c.ranks.length=g.st.length * a.acc.length:=by omega
   have hmod:∀ k:Nat,(((k:Int) % (a.acc.length:Int)).toNat)=k % a.acc.length:=fun k=>by omega
   have hmodlt:∀ k:Nat,k % a.acc.length < a.acc.length:=fun k=>Nat.mod_lt _ (by omega)
   refine z94 (fun k:Nat=>([(4,.ptr 0 none 0),(6,.ptr 1 none 0),(7,.ptr 2 none 0),(11,lst 1 encL rows),(12,.int k)],[.cells 2 [[lst 2 State.cs g.st,lst 1 encL g.nx]],.cells 3 [[lst 1 enI a.ini,lst 1 enB a.acc,lst 4 Trans.cs a.ed]],.cells 1 [[lst 1 enI c.ranks]]])) (fun k=>k≤c.ranks.length∧∀ i (h:i < c.ranks.length),i < k→(-1≤c.ranks[i]∧c.ranks[i]≤4000)∧(0≤c.ranks[i]→z423 (rows.getD i []) c.ranks c.ranks[i] (a.acc.getD (i % a.acc.length) false))) (fun k=>c.ranks.length - k) 0 ⟨by omega,fun i h hi=>by omega⟩ ⟨[0,1,2],rfl,by decide,rfl,by repeat' (first|exact True.intro|exact ⟨rfl,rfl⟩|apply y36),by repeat' (first|exact True.intro|exact z24 rfl rfl|apply y36)⟩ ?_
   rintro k ⟨hk1,hk2⟩
   have hm:=hmod k
   have hml:=hmodlt k
   by_cases hkl:k < c.ranks.length
   ·have hrr:k < rows.length:=by omega
    have hacc:a.acc.getD (k % a.acc.length) false=a.acc[((k:Int) % (a.acc.length:Int)).toNat]'(by omega):=by
     rw [z14 hml];simp only [hm]
    have hrw:rows.getD k []=rows[k]:=z14 hrr
    have hrl2:rows[k].length≤maxLen:=by have:=hrowl _ (y37 hrr);unfold maxLen;omega
    have hxs:∀ x∈rows[k],0≤x∧x < c.ranks.length:=fun x hx=>by
     have:=hrows _ (y37 hrr) x hx
     rw [hcl];exact this
    have hkacc:((k:Int) % (a.acc.length:Int)).toNat < a.acc.length:=by omega
    have hnode:=z1091 rows[k] c.ranks c.ranks[k] (a.acc[((k:Int) % (a.acc.length:Int)).toNat]'hkacc) hrl2 hxs
    have hno:z543 rows a.ini a.acc (g.st.length * a.acc.length) c.ranks→(-1≤c.ranks[k]∧c.ranks[k]≤4000)∧(0≤c.ranks[k]→z423 rows[k] c.ranks c.ranks[k] (a.acc[((k:Int) % (a.acc.length:Int)).toNat]'hkacc)):=fun h=>by
     have h1:=h.2.2.2 k hkl
     rw [hrw,hacc] at h1
     exact ⟨h.2.1 _ (y37 _),h1⟩
    have hyes:((-1≤c.ranks[k]∧c.ranks[k]≤4000)∧(0≤c.ranks[k]→z423 rows[k] c.ranks c.ranks[k] (a.acc[((k:Int) % (a.acc.length:Int)).toNat]'hkacc)))→∀ i (h:i < c.ranks.length),i < k+1→(-1≤c.ranks[i]∧c.ranks[i]≤4000)∧(0≤c.ranks[i]→z423 (rows.getD i []) c.ranks c.ranks[i] (a.acc.getD (i % a.acc.length) false)):=fun h i hi hik=>by
     rcases y62 i k with h3|h3
     ·exact hk2 i hi h3
     ·obtain rfl:i=k:=by omega
      rw [hrw,hacc];exact h
    repeat' (first|(apply y76 ok;rfl;conv=>whnf)|(apply z21;kernel_rfl;conv=>whnf)|(apply y36;(first|omega|(unfold inI;omega));conv=>whnf)|(with_reducible apply z8;omega;intro _;conv=>whnf)|(with_reducible apply z55;omega;intro _;conv=>whnf)|(apply z5<;>intro _<;>conv=>whnf)|(apply z37<;>intro _<;>conv=>whnf)|(apply z6 (hnode);rfl;rfl;conv=>whnf))
    ·exact z20 rfl (y74 fun h=>by have:=(hno h).1;omega)
    ·exact z20 rfl (y74 fun h=>by have:=(hno h).1;omega)
    ·rename_i hn
     exact z20 rfl (y74 fun h=>hn ((hno h).2 (by assumption)))
    ·rename_i hn
     exact z79 (k+1) [0,1,2] ⟨by omega,hyes ⟨by omega,fun _=>hn⟩⟩ (by omega) ⟨rfl,by decide,rfl,by repeat' (first|exact True.intro|exact ⟨rfl,rfl⟩|apply y36),by repeat' (first|exact True.intro|exact z24 rfl rfl|apply y36)⟩
    ·rename_i hn
     exact z79 (k+1) [0,1,2] ⟨by omega,hyes ⟨by omega,fun h=>absurd h hn⟩⟩ (by omega) ⟨rfl,by decide,rfl,by repeat' (first|exact True.intro|exact ⟨rfl,rfl⟩|apply y36),by repeat' (first|exact True.intro|exact z24 rfl rfl|apply y36)⟩
    ·omega
   ·repeat' (first|(apply y76 ok;rfl;conv=>whnf)|(apply z21;kernel_rfl;conv=>whnf)|(apply y36;(omega);conv=>whnf)|(with_reducible apply z8;omega;intro _;conv=>whnf)|(with_reducible apply z55;omega;intro _;conv=>whnf)|(apply z5<;>intro _<;>conv=>whnf))
    all_goals try (exfalso;omega)
    obtain rfl:k=c.ranks.length:=by omega
    have hil:=hini.le (by omega)
    refine z94 (fun j:Nat=>([(6,.ptr 1 none 0),(7,.ptr 2 none 0),(13,.int j)],[.cells 2 [[lst 2 State.cs g.st,lst 1 encL g.nx]],.cells 3 [[lst 1 enI a.ini,lst 1 enB a.acc,lst 4 Trans.cs a.ed]],.cells 1 [[lst 1 enI c.ranks]]])) (fun j=>j≤a.ini.length∧∀ i (h:i < a.ini.length),i < j→0≤rk c.ranks a.ini[i]) (fun j=>a.ini.length - j) 0 ⟨by omega,fun i h hi=>by omega⟩ ⟨[0,1,2],rfl,by decide,rfl,by repeat' (first|exact True.intro|exact ⟨rfl,rfl⟩|apply y36),by repeat' (first|exact True.intro|exact z24 rfl rfl|apply y36)⟩ ?_
    rintro j ⟨hj1,hj2⟩
    by_cases hjl:j < a.ini.length
    ·have hin:=(hini j hjl hjl).1
     have hb1:=z99 (a:=(g.st.length:Int) - 1) (b:=(a.acc.length:Int)) (A:=60) (B:=64) (by have:=hG.1;omega) (by have:=hG.1;omega) (by omega) (by omega)
     rw [Int.sub_mul,Int.one_mul] at hb1
     have hix:a.ini[j].toNat < c.ranks.length:=by rw [hcl];omega
     have hrk:rk c.ranks a.ini[j]=c.ranks[a.ini[j].toNat]'hix:=z14 hix
     repeat' (first|(apply y76 ok;rfl;conv=>whnf)|(apply z21;kernel_rfl;conv=>whnf)|(apply y36;(first|omega|(unfold inI;omega));conv=>whnf)|(with_reducible apply z8;omega;intro _;conv=>whnf)|(with_reducible apply z55;omega;intro _;conv=>whnf)|(apply z5<;>intro _<;>conv=>whnf))
     ·exact z20 rfl (y74 fun h=>by have:=h.2.2.1 _ (y37 hjl);rw [hrk] at this;omega)
     ·refine z79 (j+1) [0,1,2] ⟨by omega,fun i hi hij=>?_⟩ (by omega) ⟨rfl,by decide,rfl,by repeat' (first|exact True.intro|exact ⟨rfl,rfl⟩|apply y36),by repeat' (first|exact True.intro|exact z24 rfl rfl|apply y36)⟩
      rcases y62 i j with h3|h3
      ·exact hj2 i hi h3
      ·obtain rfl:i=j:=by omega
       rw [hrk];omega
     ·omega
    ·repeat' (first|(apply y76 ok;rfl;conv=>whnf)|(apply z21;kernel_rfl;conv=>whnf)|(apply y36;(omega);conv=>whnf)|(with_reducible apply z8;omega;intro _;conv=>whnf)|(with_reducible apply z55;omega;intro _;conv=>whnf)|(apply z5<;>intro _<;>conv=>whnf))
     all_goals try (exfalso;omega)
     refine z20 rfl (y73 ⟨hcl,fun x hx=>?_,fun x hx=>?_,fun i h=>?_⟩)
     ·obtain ⟨i,hi,rfl⟩:=List.mem_iff_getElem.1 hx
      exact (hk2 i hi hi).1
     ·obtain ⟨i,hi,rfl⟩:=List.mem_iff_getElem.1 hx
      exact hj2 i hi (by omega)
     ·exact (hk2 i h h).2
  ·have hab:=(y64 _).mp hab
   have e:z275 g l a c=false:=by unfold z275;rw [hab,Bool.and_false];rfl
   have k3:=z95 a ha
   rw [hab] at k3
   rw [e]
   refine z13 z15 Tryz.func26 rfl rfl 112 Tryz.ntmps26 (by simp) ?_
   repeat' (first|(apply y76 ok;rfl;conv=>whnf)|(apply z6 (k1);rfl;rfl;conv=>whnf)|(apply z6 (k3);rfl;rfl;conv=>whnf))
   all_goals (refine z20 rfl ?_;rfl)
 ·have k1:=z115 g hg l hl
  have hgl:=(y64 _).mp hgl
  rw [hgl,if_neg (by simp)] at k1
  have e:z275 g l a c=false:=by unfold z275;rw [hgl];rfl
  rw [e]
  refine z13 z15 Tryz.func26 rfl rfl 112 Tryz.ntmps26 (by simp) ?_
  repeat' (first|(apply y76 ok;rfl;conv=>whnf)|(apply z6 (k1);rfl;rfl;conv=>whnf))
  all_goals (refine z20 rfl ?_;rfl)
theorem z680 (n:Int):CallsA Tryz.prog 95 [.int n] [] (.bool (!btw n (-1) 4000)) []:=by
 refine z13 z15 Tryz.func95 rfl rfl 6 Tryz.ntmps95 (by simp) ?_
 repeat' (first|(apply y76 ok;rfl;conv=>whnf)|(apply z6 (z326 n (-1) 4000);rfl;rfl;conv=>whnf))
 exact z20 rfl rfl
set_option maxHeartbeats 1600000 in
theorem z209 (g:Graph) (hg:g.mx) (l:List Tree) (hl:Lmx l) (a:Aut) (ha:a.mx) (c:Cert) (hc:c.mx):CallsA Tryz.prog 25 [.agg g.cs,lst 3 Tree.cs' l,.agg a.cs,.agg c.cs] [] (.bool (z275 g l a c)) []:=by
 have hcm:=hc
 unfold Cert.mx maxLen at hcm
 have k1:=z435 g hg l hl a ha
 by_cases hgl:(glB g l && autB a)=true
 ·rw [hgl] at k1
  obtain ⟨hgl,hab⟩:=Bool.and_eq_true_iff.1 hgl
  have hG:=(z69 g).1 (by unfold glB at hgl;exact (Bool.and_eq_true_iff.1 hgl).1)
  have hL:=y7 (by unfold glB at hgl;exact (Bool.and_eq_true_iff.1 hgl).2)
  have hA:=z96.1 hab
  have k2:=z420 g hG l hL a hA
  have kc:=z187 c.ranks hc (fun n=>!btw n (-1) 4000) 95 (fun x _=>z680 x)
  have hrows:=z344 g hG (g.st.map (z28 l)) a hA
  have hrowl:=z284 g hG (g.st.map (z28 l)) a hA
  have hrl:(z27 g (g.st.map (z28 l)) a).length=g.st.length * a.acc.length:=by unfold z27;rw [z71,Nat.mul_comm]
  have ha1:=hA.1
  have hN:=z99 (a:=(g.st.length:Int)) (b:=(a.acc.length:Int)) (A:=60) (B:=64) (by omega) (by have:=hG.1;omega) (by omega) (by omega)
  have hN2:((g.st.length * a.acc.length:Nat):Int)=(g.st.length:Int) * a.acc.length:=by simp
  have hini:=hA.2.2.1
  have e:z275 g l a c=decide (z543 (z27 g (g.st.map (z28 l)) a) a.ini a.acc (g.st.length * a.acc.length) c.ranks):=by unfold z275;rw [hgl,hab];rfl
  rw [e]
  generalize z27 g (g.st.map (z28 l)) a=rows at k2 hrows hrl hrowl
  refine z13 z15 Tryz.func25 rfl rfl 104 Tryz.ntmps25 (by simp) ?_
  repeat' (first|(apply y76 ok;rfl;conv=>whnf)|(apply y36;((unfold inI;omega));conv=>whnf)|(apply z37<;>intro _<;>conv=>whnf)|(apply z87<;>intro _<;>conv=>whnf)|(apply z6 (k1);rfl;rfl;conv=>whnf)|(apply z6 (kc);rfl;rfl;conv=>whnf)|(apply z6 (k2);rfl;rfl;conv=>whnf))
  ·rename_i hlen
   exact z20 rfl (y74 fun h=>hlen (by rw [h.1];exact hN2))
  ·rename_i hlen hany
   refine z20 rfl (y74 fun h=>?_)
   obtain ⟨x,hx,hb⟩:=List.any_eq_true.1 hany
   have:=h.2.1 x hx
   rw [← z97] at this
   rw [this] at hb;simp at hb
  rename_i hlen hany
  have hcl:c.ranks.length=g.st.length * a.acc.length:=by omega
  have hrng:∀ x∈c.ranks,-1≤x∧x≤4000:=fun x hx=>by
   have:=List.any_eq_false.1 hany x hx
   rw [← z97];simpa using this
  have hmod:∀ k:Nat,(((k:Int) % (a.acc.length:Int)).toNat)=k % a.acc.length:=fun k=>by omega
  have hmodlt:∀ k:Nat,k % a.acc.length < a.acc.length:=fun k=>Nat.mod_lt _ (by omega)
  have hil:=hini.le (by omega)
  refine z94 (fun j:Nat=>([(6,.ptr 1 none 0),(7,.ptr 2 none 0),(9,lst 1 encL rows),(48,ints a.ini),(49,.int a.ini.length),(50,.int j)],[.cells 2 [[lst 2 State.cs g.st,lst 1 encL g.nx]],.cells 3 [[lst 1 enI a.ini,lst 1 enB a.acc,lst 4 Trans.cs a.ed]],.cells 1 [[lst 1 enI c.ranks]]])) (fun j=>j≤a.ini.length∧∀ i (h:i < a.ini.length),i < j→0≤rk c.ranks a.ini[i]) (fun j=>a.ini.length - j) 0 ⟨by omega,fun i h hi=>by omega⟩ ⟨[0,1,2],rfl,by decide,rfl,by repeat' (first|exact True.intro|exact ⟨rfl,rfl⟩|apply y36),by repeat' (first|exact True.intro|exact z24 rfl rfl|apply y36)⟩ ?_
  rintro j ⟨hj1,hj2⟩
  by_cases hjl:j < a.ini.length
  ·have hin:=(hini j hjl hjl).1
   have hb1:=z99 (a:=(g.st.length:Int) - 1) (b:=(a.acc.length:Int)) (A:=60) (B:=64) (by have:=hG.1;omega) (by have:=hG.1;omega) (by omega) (by omega)
   rw [Int.sub_mul,Int.one_mul] at hb1
   have hix:a.ini[j].toNat < c.ranks.length:=by rw [hcl];omega
   have hrk:rk c.ranks a.ini[j]=c.ranks[a.ini[j].toNat]'hix:=z14 hix
   repeat' (first|(apply y76 ok;rfl;conv=>whnf)|(apply y36;(first|omega|(unfold inI;omega));conv=>whnf)|(with_reducible apply z8;omega;intro _;conv=>whnf)|(with_reducible apply z55;omega;intro _;conv=>whnf)|(apply z5<;>intro _<;>conv=>whnf))
   ·exact z20 rfl (y74 fun h=>by have:=h.2.2.1 _ (y37 hjl);rw [hrk] at this;omega)
   ·refine z79 (j+1) [0,1,2] ⟨by omega,fun i hi hij=>?_⟩ (by omega) ⟨rfl,by decide,rfl,by repeat' (first|exact True.intro|exact ⟨rfl,rfl⟩|apply y36),by repeat' (first|exact True.intro|exact z24 rfl rfl|apply y36)⟩
    rcases y62 i j with h3|h3
    ·exact hj2 i hi h3
    ·obtain rfl:i=j:=by omega
     rw [hrk];omega
   ·omega
  repeat' (first|(apply y76 ok;rfl;conv=>whnf)|(apply y36;(omega);conv=>whnf)|(with_reducible apply z8;omega;intro _;conv=>whnf)|(with_reducible apply z55;omega;intro _;conv=>whnf)|(apply z5<;>intro _<;>conv=>whnf))
  all_goals try (exfalso;omega)
  have hiniR:∀ x∈a.ini,0≤rk c.ranks x:=fun x hx=>by
   obtain ⟨i,hi,rfl⟩:=List.mem_iff_getElem.1 hx
   exact hj2 i hi (by omega)
  clear hj1 hj2 hjl
  refine z94 (fun k:Nat=>([(6,.ptr 1 none 0),(7,.ptr 2 none 0),(9,lst 1 encL rows),(62,ints c.ranks),(63,.int c.ranks.length),(64,.int k)],[.cells 2 [[lst 2 State.cs g.st,lst 1 encL g.nx]],.cells 3 [[lst 1 enI a.ini,lst 1 enB a.acc,lst 4 Trans.cs a.ed]],.cells 1 [[lst 1 enI c.ranks]]])) (fun k=>k≤c.ranks.length∧∀ i (h:i < c.ranks.length),i < k→0≤c.ranks[i]→z423 (rows.getD i []) c.ranks c.ranks[i] (a.acc.getD (i % a.acc.length) false)) (fun k=>c.ranks.length - k) 0 ⟨by omega,fun i h hi=>by omega⟩ ⟨[0,1,2],rfl,by decide,rfl,by repeat' (first|exact True.intro|exact ⟨rfl,rfl⟩|apply y36),by repeat' (first|exact True.intro|exact z24 rfl rfl|apply y36)⟩ ?_
  rintro k ⟨hk1,hk2⟩
  have hm:=hmod k
  have hml:=hmodlt k
  by_cases hkl:k < c.ranks.length
  ·have hrr:k < rows.length:=by omega
   have hkacc:((k:Int) % (a.acc.length:Int)).toNat < a.acc.length:=by omega
   have hacc:a.acc.getD (k % a.acc.length) false=(a.acc[((k:Int) % (a.acc.length:Int)).toNat]'hkacc):=by
    rw [z14 hml];simp only [hm]
   have hrw:rows.getD k []=rows[k]:=z14 hrr
   have hrl2:rows[k].length≤7372800:=hrowl _ (y37 hrr)
   have hxs:∀ x∈rows[k],0≤x∧x < c.ranks.length:=fun x hx=>by
    have:=hrows _ (y37 hrr) x hx
    rw [hcl];exact this
   have hrk:=hrng c.ranks[k] (y37 hkl)
   have hno:z543 rows a.ini a.acc (g.st.length * a.acc.length) c.ranks→0≤c.ranks[k]→z423 rows[k] c.ranks c.ranks[k] (a.acc[((k:Int) % (a.acc.length:Int)).toNat]'hkacc):=fun h=>by
    have h1:=h.2.2.2 k hkl
    rw [hrw,hacc] at h1
    exact h1
   have hyes:(0≤c.ranks[k]→z423 rows[k] c.ranks c.ranks[k] (a.acc[((k:Int) % (a.acc.length:Int)).toNat]'hkacc))→∀ i (h:i < c.ranks.length),i < k+1→0≤c.ranks[i]→z423 (rows.getD i []) c.ranks c.ranks[i] (a.acc.getD (i % a.acc.length) false):=fun h i hi hik=>by
    rcases y62 i k with h3|h3
    ·exact hk2 i hi h3
    ·obtain rfl:i=k:=by omega
     rw [hrw,hacc];exact h
   generalize hacd:(a.acc[((k:Int) % (a.acc.length:Int)).toNat]'hkacc)=ac at hno hyes
   repeat' (first|(apply y76 ok;rfl;conv=>whnf)|(apply z21;kernel_rfl;conv=>whnf)|(apply y36;(first|omega|(unfold inI;omega));conv=>whnf)|(with_reducible apply z8;omega;intro _;conv=>whnf)|(with_reducible apply z55;omega;intro _;conv=>whnf)|(apply z5<;>intro _<;>conv=>whnf)|(apply z87<;>intro _<;>conv=>whnf))
   all_goals try (exfalso;omega)
   all_goals (rw [hacd] at *)
   all_goals
    refine z94 (fun j:Nat=>([(6,.ptr 1 none 0),(7,.ptr 2 none 0),(9,lst 1 encL rows),(62,ints c.ranks),(63,.int c.ranks.length),(64,.int k),(14,.int c.ranks[k]),(15,.int (less ac c.ranks[k])),(84,ints rows[k]),(85,.int rows[k].length),(86,.int j)],[.cells 2 [[lst 2 State.cs g.st,lst 1 encL g.nx]],.cells 3 [[lst 1 enI a.ini,lst 1 enB a.acc,lst 4 Trans.cs a.ed]],.cells 1 [[lst 1 enI c.ranks]]])) (fun j=>j≤rows[k].length∧∀ i (h:i < rows[k].length),i < j→0≤c.ranks[k]→0≤rk c.ranks rows[k][i]∧rk c.ranks rows[k][i]≤less ac c.ranks[k]) (fun j=>rows[k].length - j) 0 ⟨by omega,fun i h hi=>by omega⟩ ⟨[0,1,2],rfl,by decide,rfl,⟨⟨rfl,rfl⟩,⟨rfl,rfl⟩,⟨rfl,rfl⟩,⟨rfl,rfl⟩,⟨rfl,rfl⟩,⟨rfl,rfl⟩,⟨rfl,rfl⟩,⟨rfl,by first|(rw [show less ac c.ranks[k]=c.ranks[k] - 1 from if_pos (by assumption)];rfl)|(rw [show less ac c.ranks[k]=c.ranks[k] from if_neg (by simp [*])];rfl)⟩,⟨rfl,rfl⟩,⟨rfl,rfl⟩,⟨rfl,rfl⟩,trivial⟩,⟨z24 rfl rfl,z24 rfl rfl,z24 rfl rfl,trivial⟩⟩ ?_
    rintro j ⟨hj1,hj2⟩
    by_cases hjl:j < rows[k].length
    ·have hx:=hxs _ (y37 hjl)
     have hix:rows[k][j].toNat < c.ranks.length:=by omega
     have hrk2:rk c.ranks rows[k][j]=c.ranks[rows[k][j].toNat]'hix:=z14 hix
     repeat' (first|(apply y76 ok;rfl;conv=>whnf)|(apply y36;(first|omega|(unfold inI;omega));conv=>whnf)|(with_reducible apply z8;omega;intro _;conv=>whnf)|(with_reducible apply z55;omega;intro _;conv=>whnf)|(apply z5<;>intro _<;>conv=>whnf)|(apply z74<;>intro _<;>conv=>whnf)|(apply z6 (z326 _ 0 (less ac c.ranks[k]));rfl;rfl;conv=>whnf))
     ·rename_i hb
      rw [z300] at hb
      exact z20 rfl (y74 fun h=>hb (by rw [← hrk2];exact hno h (by assumption) _ (y37 hjl)))
     ·rename_i hb
      refine z79 (j+1) [0,1,2] ⟨by omega,fun i hi hij h0=>?_⟩ (by omega) ⟨rfl,by decide,rfl,by repeat' (first|exact True.intro|exact ⟨rfl,rfl⟩|apply y36),by repeat' (first|exact True.intro|exact z24 rfl rfl|apply y36)⟩
      rcases y62 i j with h3|h3
      ·exact hj2 i hi h3 h0
      ·obtain rfl:i=j:=by omega
       rw [hrk2];exact z97.1 hb
     ·refine z79 (j+1) [0,1,2] ⟨by omega,fun i hi hij h0=>?_⟩ (by omega) ⟨rfl,by decide,rfl,by repeat' (first|exact True.intro|exact ⟨rfl,rfl⟩|apply y36),by repeat' (first|exact True.intro|exact z24 rfl rfl|apply y36)⟩
      exact absurd h0 (by assumption)
     ·omega
    ·repeat' (first|(apply y76 ok;rfl;conv=>whnf)|(apply y36;(first|omega|(unfold inI;omega));conv=>whnf)|(with_reducible apply z8;omega;intro _;conv=>whnf)|(with_reducible apply z55;omega;intro _;conv=>whnf)|(apply z5<;>intro _<;>conv=>whnf))
     all_goals try (exfalso;omega)
     refine z79 (k+1) [0,1,2] ⟨by omega,hyes fun h0 x hx=>?_⟩ (by omega) ⟨rfl,by decide,rfl,by repeat' (first|exact True.intro|exact ⟨rfl,rfl⟩|apply y36),by repeat' (first|exact True.intro|exact z24 rfl rfl|apply y36)⟩
     obtain ⟨i,hi,rfl⟩:=List.mem_iff_getElem.1 hx
     exact hj2 i hi (by omega) h0
  ·repeat' (first|(apply y76 ok;rfl;conv=>whnf)|(apply z21;kernel_rfl;conv=>whnf)|(apply y36;(omega);conv=>whnf)|(with_reducible apply z8;omega;intro _;conv=>whnf)|(with_reducible apply z55;omega;intro _;conv=>whnf)|(apply z5<;>intro _<;>conv=>whnf)|(apply z87<;>intro _<;>conv=>whnf))
   all_goals try (exfalso;omega)
   exact z20 rfl (y73 ⟨hcl,hrng,hiniR,fun i h=>hk2 i h (by omega)⟩)
 ·have hgl:=(y64 _).mp hgl
  rw [hgl] at k1
  have e:z275 g l a c=false:=by unfold z275;rw [hgl];rfl
  rw [e]
  refine z13 z15 Tryz.func25 rfl rfl 104 Tryz.ntmps25 (by simp) ?_
  repeat' (first|(apply y76 ok;rfl;conv=>whnf)|(apply z6 (k1);rfl;rfl;conv=>whnf))
  all_goals (refine z20 rfl ?_;rfl)
end Go.Proofs.YtahhobgjcfionaaGreat
