/- A part of the proofs over this program: T229, T150, T151, T152, T230, T231, T35, T39, T232, T38, T40, T41, T42, T153, T233, T234, T235, T236, T181, T182, T183, T113. -/
import Derived.Test.YtjhgpfaodkchjaaGreatG0
import Derived.Test.YtjhgpfaodkchjaaGreatG1
import Derived.Test.YtjhgpfaodkchjaaGreatG2
import Derived.Test.YtjhgpfaodkchjaaGreatG3
import Derived.Test.YtjhgpfaodkchjaaGreatP0
import Derived.Test.YtjhgpfaodkchjaaGreatP1
import Derived.Test.YtjhgpfaodkchjaaGreatP2
import Derived.Test.YtjhgpfaodkchjaaGreatP3
set_option linter.all false
namespace Go.Proofs.YtjhgpfaodkchjaaGreat
open Go.Gl
attribute [local irreducible] z19 AWP z25 z31 z28 RetS z38
set_option maxHeartbeats 6400000 in
theorem z982 (B:List Tree) (U:List Int) (hB:BasL B) (s t:Int) (s0:0≤s) (s1:s≤31) (t0:0≤t) (t1:t≤31):CallsA Tryz.prog 233 [.pt [lst 3 Tree.cs' B,ints U],.int s,.int t] [] (.bool (folB B s t)) []:=by
 have hl:=hB.len
 refine z7 z17 Tryz.func233 rfl rfl 90 Tryz.ntmps233 (by simp) ?_
 repeat' (((apply y4 ok;rfl))<;>conv=>whnf)
 refine z86 (fun i:Nat=>([(0,.pt [lst 3 Tree.cs' B,ints U]),(1,.int s),(2,.int t),(15,lst 3 Tree.cs' B),(16,.int B.length),(17,.int i)],[])) (fun i=>i≤B.length∧∀ j,j < i→folI B s t j=true) (fun i=>B.length - i) 0 ⟨y55 _,fun j h=>absurd h (Nat.not_lt_zero _)⟩ (by refine swR [] [] rfl rfl ?_;(repeat' first|exact y88 _|constructor)) ?_
 rintro i ⟨hi,hj⟩
 by_cases hil:i < B.length
 ·have gk:(B.map Tree.cs')[i]?=some (Tree.cs' (B.getD i dftT)):=by rw [y53,y47 hil,z20 hil];rfl
  have hf:=hB.form (x:=B.getD i dftT) (by rw [z20 hil];exact y46 _)
  have d1:=z763 (i:=i) s0 s1 (by omega)
  have d2:=z763 (i:=i) t0 t1 (by omega)
  have hI:folI B s t i=(folV B s t (B.getD i dftT) (hasB s i) (hasB t i) == hasB s i):=rfl
  have hT:folI B s t i=true→∀ j,j < i+1→folI B s t j=true:=fun h j hji=>by
   rcases y72 j i with h3|h3
   ·exact hj j h3
   ·obtain rfl:j=i:=by omega
    exact h
  have hF:folI B s t i=false→folB B s t=false:=z983 hil
  rw [hI] at hT hF
  clear hI hj
  generalize B.getD i dftT=f at *
  repeat' ((first|((fail_if_success apply z130 5);(fail_if_success apply z96 5);apply y4 ok;rfl)|(apply z32;kernel_rfl)|(refine z12 (i:=i) rfl gk ?_)|(refine y45 (by unfold z111;(rw [y79];omega)) ?_)|(apply y45;omega)|((apply z5)<;>intro _))<;>conv=>whnf)
  all_goals try (exfalso;omega)
  refine y87 (show Gl.Reach _ _ (mkSt _ [(0,.pt [lst 3 Tree.cs' B,ints U]),(1,.int s),(2,.int t),(8,.ptr 0 none 0),(9,.bool (hasB s i)),(10,.bool (hasB t i)),(15,lst 3 Tree.cs' B),(16,.int B.length),(17,.int i)] [.cells 3 [Tree.cs' f]]) from (by refine swR [0] [] rfl rfl ?_;(repeat' first|exact y88 _|apply y89|constructor))) ?_
  generalize hasB s i=x at *
  generalize hasB t i=y at *
  cases hf with
  |«at» v =>
   have hT2:=hT (by simp [folV,Tree.kind])
   clear hT hF
   cases x
   all_goals
    repeat' ((first|(apply y4 ok;rfl)|(apply y45;(unfold inI;omega)))<;>conv=>whnf)
    all_goals refine z41 (i+1) ⟨by omega,hT2⟩ (by omega) (by refine swR [] [] rfl rfl ?_;(repeat' first|exact y88 _|constructor))
  |nx a ha sa =>
   have ca:=z253 B U hB t t0 t1 a ha sa
   have e:folV B s t (.mk 6 0 [a]) x y=vlB B t a:=by simp [folV,kidV,Tree.kind,Tree.kids]
   rw [e] at hT hF
   rw [csU]
   clear e
   generalize vlB B t a=z at *
   cases x<;>cases z
   all_goals first|have hT:=hT rfl|(have hF:=hF rfl;rw [hF])
   all_goals
    repeat' ((first|(apply y4 ok;rfl)|(refine ⟨_,rfl,?_⟩)|(apply y45;first|omega|(unfold inI;omega))|(apply z6 (ca);rfl;rfl))<;>conv=>whnf)
    all_goals first|(refine z41 (i+1) ⟨by omega,hT⟩ (by omega) (by refine swR [] [] rfl rfl ?_;(repeat' first|exact y88 _|constructor)))|(refine rsD [] [] rfl ?_;(repeat' first|exact y88 _|constructor))
  |un a b ha hb sa sb =>
   have ca:=z253 B U hB s s0 s1 a ha sa
   have cb:=z253 B U hB s s0 s1 b hb sb
   have e:folV B s t (.mk 7 0 [a,b]) x y=(vlB B s b || (vlB B s a && y)):=by simp [folV,kidV,Tree.kind,Tree.kids]
   rw [e] at hT hF
   rw [csB2]
   clear e
   generalize vlB B s a=z at *
   generalize vlB B s b=u at *
   cases x<;>cases y<;>cases z<;>cases u
   all_goals first|have hT:=hT rfl|(have hF:=hF rfl;rw [hF])
   all_goals
    repeat' ((first|(apply y4 ok;rfl)|(refine ⟨_,rfl,?_⟩)|(apply y45;first|omega|(unfold inI;omega))|(apply z6 (ca);rfl;rfl)|(apply z6 (cb);rfl;rfl))<;>conv=>whnf)
    all_goals first|(refine z41 (i+1) ⟨by omega,hT⟩ (by omega) (by refine swR [] [] rfl rfl ?_;(repeat' first|exact y88 _|constructor)))|(refine rsD [] [] rfl ?_;(repeat' first|exact y88 _|constructor))
  |re a b ha hb sa sb =>
   have ca:=z253 B U hB s s0 s1 a ha sa
   have cb:=z253 B U hB s s0 s1 b hb sb
   have e:folV B s t (.mk 8 0 [a,b]) x y=(vlB B s b && (vlB B s a || y)):=by simp [folV,kidV,Tree.kind,Tree.kids]
   rw [e] at hT hF
   rw [csB2]
   clear e
   generalize vlB B s a=z at *
   generalize vlB B s b=u at *
   cases x<;>cases y<;>cases z<;>cases u
   all_goals first|have hT:=hT rfl|(have hF:=hF rfl;rw [hF])
   all_goals
    repeat' ((first|(apply y4 ok;rfl)|(refine ⟨_,rfl,?_⟩)|(apply y45;first|omega|(unfold inI;omega))|(apply z6 (ca);rfl;rfl)|(apply z6 (cb);rfl;rfl))<;>conv=>whnf)
    all_goals first|(refine z41 (i+1) ⟨by omega,hT⟩ (by omega) (by refine swR [] [] rfl rfl ?_;(repeat' first|exact y88 _|constructor)))|(refine rsD [] [] rfl ?_;(repeat' first|exact y88 _|constructor))
 ·obtain rfl:i=B.length:=by omega
  rw [z1125 fun j hji=>hj j hji]
  repeat' ((first|(apply y4 ok;rfl)|(apply z32;kernel_rfl)|(apply y45;omega)|((first|(with_reducible apply z10;omega)|(with_reducible apply z127;omega));intro _)|((first|apply z5|apply z45|apply z74)<;>intro _))<;>conv=>whnf)
  all_goals first|(exfalso;omega)|(refine rsD [] [] rfl ?_;(repeat' first|exact y88 _|constructor))
theorem z593 (B:List Tree) (U:List Int) (hB:BasL B) (s:Int) (s0:0≤s) (s1:s≤31) (ph u:Nat) (hph:ph < U.length) (hUl:U.length≤100) (e:U.getD ph 0=u) (hu:u < B.length) (hk:(B.getD u dftT).kind=7):CallsA Tryz.prog 149 [.pt [lst 3 Tree.cs' B,ints U],.int s,.int ph] [] (.bool (fulB B s u)) []:=by
 have hl:=hB.len
 have gu:(U.map enI)[ph]?=some (enI u):=by rw [← e,y53,y47 hph,z20 hph];rfl
 have gk:(B.map Tree.cs')[u]?=some (Tree.cs' (B.getD u dftT)):=by rw [y53,y47 hu,z20 hu];rfl
 have hf:=hB.form (x:=B.getD u dftT) (by rw [z20 hu];exact y46 _)
 have d1:=z763 (i:=u) s0 s1 (by omega)
 have e:fulB B s u=(!hasB s u || kidV B s (B.getD u dftT) 1):=rfl
 have hx:(hasB s u=true→((((s / 2 ^ ((u:Int)).toNat).toNat &&& (1:Int).toNat:Nat):Int))=1)∧(hasB s u=false→((((s / 2 ^ ((u:Int)).toNat).toNat &&& (1:Int).toNat:Nat):Int))=0):=by
  have h1:∀ n:Nat,n &&& 1=n % 2:=fun n=>Nat.and_one_is_mod n
  unfold hasB
  constructor
  ·intro h;exact of_decide_eq_true h
  ·intro h
   have:=of_decide_eq_false h
   rw [show (1:Int).toNat=1 from rfl,h1] at *
   omega
 rw [e]
 generalize B.getD u dftT=f at *
 cases hf with
 |«at» v=>simp [Tree.kind] at hk
 |nx a _ _=>simp [Tree.kind] at hk
 |re a b _ _ _ _=>simp [Tree.kind] at hk
 |un a b ha hb sa sb =>
  have cb:=z253 B U hB s s0 s1 b hb sb
  rw [csB2] at gk
  have e2:kidV B s (.mk 7 0 [a,b]) 1=vlB B s b:=by simp [kidV,Tree.kids]
  rw [e2]
  clear e e2
  generalize vlB B s b=y at *
  generalize hasB s u=x at *
  cases x
  ·have hx:=hx.2 rfl
   refine z7 z17 Tryz.func149 rfl rfl 35 Tryz.ntmps149 (by simp) ?_
   repeat' ((first|(apply y4 ok;rfl)|(refine z12 (i:=ph) rfl gu ?_)|(refine z12 (i:=u) rfl gk ?_)|(refine ⟨_,rfl,?_⟩)|(refine y45 (by unfold z111;(rw [y79];omega)) ?_)|(apply y45;omega)|((apply z5)<;>intro _)|(apply z6 (cb);rfl;rfl))<;>conv=>whnf)
   all_goals try (exfalso;omega)
   all_goals (refine rsD [] [] rfl ?_;(repeat' first|exact y88 _|constructor))
  ·have hx:=hx.1 rfl
   refine z7 z17 Tryz.func149 rfl rfl 35 Tryz.ntmps149 (by simp) ?_
   repeat' ((first|(apply y4 ok;rfl)|(refine z12 (i:=ph) rfl gu ?_)|(refine z12 (i:=u) rfl gk ?_)|(refine ⟨_,rfl,?_⟩)|(refine y45 (by unfold z111;(rw [y79];omega)) ?_)|(apply y45;omega)|((apply z5)<;>intro _)|(apply z6 (cb);rfl;rfl))<;>conv=>whnf)
   all_goals try (exfalso;omega)
   all_goals (refine rsD [] [] rfl ?_;(repeat' first|exact y88 _|constructor))
theorem z418 {B:List Tree} {s:Int} (i:Nat):(List.range (i+1)).foldl (atoI B s) (0,0)=atoI B s ((List.range i).foldl (atoI B s) (0,0)) i:=by
 rw [y64,y65];rfl
theorem z719 {c k:Nat} (h:c < 8) (hk:k≤2):c ||| 2 ^ k < 8:=by
 have:k=0∨k=1∨k=2:=by omega
 rcases this with rfl|rfl|rfl<;>exact Nat.or_lt_two_pow (n:=3) h (by decide)
def eT (e:Edg):Trans:=⟨e.src,e.care,e.val,e.dst⟩
noncomputable def z348 (n0:Nat) (x:TrS):Aut:=⟨numI n0,if x.L.length=0 then [false] else x.acc,x.ed.map eT⟩
noncomputable def trO (t:Tree):Option Aut:=if bscB t=true then (trS (bscL (t.nrm false)) (t.nrm false)).map (z348 (iniS (bscL (t.nrm false)) (t.nrm false)).length) else none
noncomputable def trA (t:Tree):Aut:=(trO t).getD ⟨[],[],[]⟩
noncomputable def tsB (t:Tree):Bool:=(trO t).isSome
theorem z672 {t:Tree} (ht:t.fmB=true) (hn:(t.nrm false).fmB=true) (h5:(bscL (t.nrm false)).length≤5) (hs:t.sz≤200):BasL (bscL (t.nrm false))∧In (·∈bscL (t.nrm false)) (t.nrm false)∧(t.nrm false).sz≤1000:=by
 have hg:=y23 ht
 have hz:=y28 t hg false
 obtain ⟨a1,a2,a3,a4,a5,a6⟩:=z999 (y23 hn) (nrm_NF t hg false)
 exact ⟨⟨h5,a1,fun x hx=>by have:=a2 x hx;omega,a3,a4,a5⟩,a6,by omega⟩
theorem z1070 {n:Nat} (h:n≤5):1≤2 ^ n∧2 ^ n≤32:=by
 have:n=0∨n=1∨n=2∨n=3∨n=4∨n=5:=by omega
 rcases this with rfl|rfl|rfl|rfl|rfl|rfl<;>decide
noncomputable def mvK (B:List Tree) (s:Int) (k:Nat):List Nat:=(List.range k).filter fun t=>folB B s t
theorem mvK_succ (B:List Tree) (s:Int) (k:Nat):mvK B s (k+1)=mvK B s k++(if folB B s k=true then [k] else []):=by
 unfold mvK
 rw [y64,List.filter_append]
 congr 1
 by_cases h:folB B s k=true
 ·rw [if_pos h,List.filter_cons_of_pos (p:=fun t:Nat=>folB B s t) h];rfl
 ·rw [if_neg h,List.filter_cons_of_neg (p:=fun t:Nat=>folB B s t) h];rfl
theorem z1091 (B:List Tree) (s:Int) (k:Nat):(mvK B s k).length≤k:=by
 unfold mvK
 have:=List.length_filter_le (fun t:Nat=>folB B s t) (List.range k)
 simpa using this
def enMv (c v:Nat) (q:Int) (x:Nat):List AC:=[.int c,.int v,.int x,.int q]
theorem bit_of (s:Int) (i:Nat):(hasB s i=true→((((s / 2 ^ ((i:Int)).toNat).toNat &&& (1:Int).toNat:Nat):Int))=1)∧(hasB s i=false→((((s / 2 ^ ((i:Int)).toNat).toNat &&& (1:Int).toNat:Nat):Int))=0):=by
 have h1:∀ n:Nat,n &&& 1=n % 2:=fun n=>Nat.and_one_is_mod n
 unfold hasB
 constructor
 ·intro h;exact of_decide_eq_true h
 ·intro h
  have:=of_decide_eq_false h
  rw [show (1:Int).toNat=1 from rfl,h1] at *
  omega
set_option maxHeartbeats 6400000 in
theorem z1092 (B : List Tree) (hB : BasL B) (s ph : Nat) (s1 : s ≤ 31) (hp : (untB B).length = 0 ∧ ph = 0 ∨ ph < (untB B).length) :
    CallsA Tryz.prog 151 [.pt [lst 3 Tree.cs' B,ints (untB B)],.agg [.int s,.int ph]] [] (.sref 0 0 (mvK B s (2 ^ B.length)).length) [.cells 4 ((mvK B s (2 ^ B.length)).map (enMv (letB B s).1 (letB B s).2 (phB B (untB B) s ph).1))]:=by
  have hl:=hB.len
  have hp5:=z1070 hl
  have hul:(untB B).length≤B.length:=z449 B B.length
  refine z7 z17 Tryz.func151 rfl rfl 87 Tryz.ntmps151 (by simp) ?_
  repeat' ((first|(apply y4 ok;rfl)|(apply z32;kernel_rfl))<;>conv=>whnf)
  refine z86 (fun x:Nat×Nat×Nat=>([(0,.pt [lst 3 Tree.cs' B,ints (untB B)]),(3,.ptr 0 none 0),(5,.int x.2.1),(6,.int x.2.2),(7,.int ph),(18,lst 3 Tree.cs' B),(19,.int B.length),(20,.int x.1)],[.cells 2 [[.int s,.int ph]]])) (fun x=>x.1≤B.length∧(List.range x.1).foldl (atoI B s) (0,0)=x.2∧x.2.1 < 8∧x.2.2 < 8) (fun x=>B.length - x.1) (0,0,0) ⟨y55 _,rfl,by decide,by decide⟩ (by refine swR [0] [] rfl rfl ?_;(repeat' first|exact y88 _|apply y89|constructor)) ?_
  rintro ⟨i,c,v⟩ ⟨hi,hf,hc,hv⟩
  dsimp only at hi hf hc hv ⊢
  by_cases hil:i < B.length
  · have gk:(B.map Tree.cs')[i]?=some (Tree.cs' (B.getD i dftT)):=by rw [y53,y47 hil,z20 hil];rfl
    have hmem:B.getD i dftT∈B:=by rw [z20 hil];exact y46 _
    have hform:=hB.form hmem
    have hs:=z418 (B:=B) (s:=s) i
    have hbt:=bit_of s i
    have d1:=z763 (s:=s) (i:=i) (by omega) (by omega) (by omega)
    rw [hf] at hs
    unfold atoI at hs
    dsimp only at hs
    by_cases hk:(B.getD i dftT).kind=2
    · rw [if_pos hk] at hs
      have hvv:∃ a:Nat,(B.getD i dftT).val=a∧a≤2:=by
        generalize B.getD i dftT=f at *
        cases hform with
        | «at» v=>have:=hB.av v hmem;exact ⟨v.toNat,by simp [Tree.val];omega,by omega⟩
        | nx a _ _=>simp [Tree.kind] at hk
        | un a b _ _ _ _=>simp [Tree.kind] at hk
        | re a b _ _ _ _=>simp [Tree.kind] at hk
      obtain ⟨a,ea,ha⟩:=hvv
      have gk2:(B.map Tree.cs')[i]?=some [.int 2,.int a,.list 3 (B.getD i dftT).kids.length ((B.getD i dftT).kids.map Tree.cs)]:=by rw [gk,← hk,← ea];rfl
      have o1:=z719 hc ha
      have o2:=z719 hv ha
      have e:=z1054 a (by omega)
      have hpb:=z506 (show a < 3 by omega)
      rw [ea,y79] at hs
      clear gk hform hmem hk ea
      generalize hasB s i=z at *
      generalize (B.getD i dftT).kids=ks at *
      cases z
      · rw [if_neg (by simp)] at hs
        have hb:=hbt.2 rfl
        repeat' ((first|(apply y4 ok;rfl)|(apply z32;kernel_rfl)|(refine z12 (i:=i) rfl gk2 ?_)|(rw [hb])|(rw [Int.zero_mul])|(rw [e])|(refine y45 (by unfold z111;first|omega|(rw [y79];omega)) ?_)|(apply y45;first|omega|(unfold inI;omega))|((apply z5)<;>intro _))<;>conv=>whnf)
        all_goals try (exfalso;omega)
        all_goals refine z41 (i+1,c ||| 2 ^ a,v) ⟨by show i+1≤_;omega,hs,o1,hv⟩ (by show B.length - (i+1) < B.length - i;omega) (by refine swR [0] [] rfl rfl ?_;(repeat' first|exact y88 _|apply y89|constructor)<;>((refine z168 ?_;simp)))
      · rw [if_pos rfl] at hs
        have hb:=hbt.1 rfl
        repeat' ((first|(apply y4 ok;rfl)|(apply z32;kernel_rfl)|(refine z12 (i:=i) rfl gk2 ?_)|(rw [hb])|(rw [e])|(refine y45 (by unfold z111;first|omega|(rw [y79];omega)) ?_)|(apply y45;first|omega|(unfold inI;omega))|((apply z5)<;>intro _))<;>conv=>whnf)
        all_goals try (exfalso;omega)
        all_goals refine z41 (i+1,c ||| 2 ^ a,v ||| 2 ^ a) ⟨by show i+1≤_;omega,hs,o1,o2⟩ (by show B.length - (i+1) < B.length - i;omega) (by refine swR [0] [] rfl rfl ?_;(repeat' first|exact y88 _|apply y89|constructor)<;>((refine z168 ?_;simp)))
    · rw [if_neg hk] at hs
      generalize B.getD i dftT=f at *
      repeat' ((first|(apply y4 ok;rfl)|(apply z32;kernel_rfl)|(refine z12 (i:=i) rfl gk ?_)|(apply y45;first|omega|(unfold inI;omega))|((apply z5)<;>intro _))<;>conv=>whnf)
      all_goals try (exfalso;omega)
      all_goals refine z41 (i+1,c,v) ⟨by show i+1≤_;omega,hs,hc,hv⟩ (by show B.length - (i+1) < B.length - i;omega) (by refine swR [0] [] rfl rfl ?_;(repeat' first|exact y88 _|apply y89|constructor))
  · obtain rfl:i=B.length:=by omega
    have eL:letB B s=(c,v):=hf
    rw [eL]
    clear hf eL
    have e2:((1:Int) * 2 ^ ((B.length:Int).toNat))=((2 ^ B.length:Nat):Int):=by
      rw [y79,Int.one_mul];norm_cast
    obtain ⟨q,eq,hcase⟩:∃ q:Nat,(phB B (untB B) s ph).1=q∧(((untB B).length=0∧True∧q=ph)∨(ph < (untB B).length∧fulB B s ((untB B).getD ph 0)=true∧q=(ph+1) % (untB B).length)∨(ph < (untB B).length∧fulB B s ((untB B).getD ph 0)=false∧q=ph)):=by
      unfold phB
      by_cases h0:(untB B).length=0
      · rw [if_pos h0];exact ⟨0,rfl,.inl ⟨h0,trivial,by omega⟩⟩
      · rw [if_neg h0]
        by_cases hb:fulB B s ((untB B).getD ph 0)=true
        · rw [y79,if_pos hb]
          exact ⟨(ph+1) % (untB B).length,by simp,.inr (.inl ⟨by omega,hb,rfl⟩)⟩
        · rw [y79,if_neg hb]
          exact ⟨ph,rfl,.inr (.inr ⟨by omega,(y74 _).mp hb,rfl⟩)⟩
    rw [eq]
    have hu:=fun (h:ph < (untB B).length)=>z886 (B:=B) (x:=(untB B).getD ph 0) (by rw [z20 h];exact y46 _)
    have cFu:ph < (untB B).length→CallsA Tryz.prog 149 [.pt [lst 3 Tree.cs' B,ints (untB B)],.int s,.int ph] [] (.bool (fulB B s ((untB B).getD ph 0))) []:=fun h=>by
      obtain ⟨u,e1,e3,e4⟩:=hu h
      have:=z593 B (untB B) hB s (by omega) (by omega) ph u h (by omega) e1 e3 e4
      rw [← e1] at this;exact this
    have cFo:=fun (k:Nat) (h:k < 2 ^ B.length)=>z982 B (untB B) hB s k (by omega) (by omega) (by omega) (by omega)
    clear hu
    have hpq:q≤100:=by
      rcases hcase with ⟨_,_,h⟩|⟨h1,_,h⟩|⟨_,_,h⟩
      · omega
      · have h3:(ph+1) % (untB B).length < (untB B).length:=Nat.mod_lt _ (by omega)
        rw [← h] at h3;omega
      · omega
    rcases hcase with ⟨h1,h2,hq⟩|⟨h1,h2,hq⟩|⟨h1,h2,hq⟩
    all_goals first|(have cF:=cFu h1;rw [h2] at cF)|have cF:=True.intro
    all_goals clear cFu eq hp
    all_goals repeat' ((first|(apply y4 ok;rfl)|(apply z32;kernel_rfl)|(rw [e2])|(apply y45;first|omega|(unfold inI;omega))|(((with_reducible apply z10;omega));intro _)|((apply z5)<;>intro _)|(apply z6 (cF);rfl;rfl))<;>conv=>whnf)
    all_goals try (exfalso;omega)
    all_goals
      refine y87 (y90 4 rfl) ?_
      refine z86 (fun x:Nat×List Nat=>([(0,.pt [lst 3 Tree.cs' B,ints (untB B)]),(3,.ptr 0 none 0),(5,.int c),(6,.int v),(7,.int q),(11,.sref 1 0 x.2.length),(67,.int ((2 ^ B.length:Nat):Int)),(68,.int x.1)],[.cells 2 [[.int s,.int ph]],.cells 4 (x.2.map (enMv c v q))])) (fun x=>x.1≤2 ^ B.length∧mvK B s x.1=x.2) (fun x=>2 ^ B.length - x.1) (0,[]) ⟨y55 _,rfl⟩ (by refine swR [0,1] [] rfl rfl ?_;(repeat' first|exact y88 _|exact z46|(refine z168 ?_;omega)|apply y89|refine z14 rfl (z33) ?_|constructor)<;>((refine z168 ?_;rw [hq];(simp;done)))) ?_
      clear h1 h2 hq cF
      rintro ⟨k,M⟩ ⟨hk,hM⟩
      dsimp only at hk hM ⊢
      have hMl:=z1091 B s k
      rw [hM] at hMl
      by_cases hkl:k < 2 ^ B.length
      · have cO:=cFo k hkl
        have hs:=mvK_succ B s k
        rw [hM] at hs
        by_cases hb:folB B s k=true
        · rw [hb] at cO
          rw [if_pos hb] at hs
          repeat' ((first|(apply y4 ok;rfl)|(apply y45;first|(unfold inI;omega)|((try dsimp only);simp only [y51,y50,y49,y48,y60,y61];omega)|exact ⟨rfl,z22 rfl z29⟩)|((apply z5)<;>intro _)|(apply z6 (cO);rfl;rfl))<;>conv=>whnf)
          all_goals try (exfalso;omega)
          all_goals refine z41 (k+1,M++[k]) ⟨by show k+1≤_;omega,hs⟩ (by show 2 ^ B.length - (k+1) < 2 ^ B.length - k;omega) (by refine swR [0,3] [] rfl rfl ?_;(repeat' first|exact y88 _|(refine z67 ?_;((simp;done)))|apply y89|((refine z40 rfl ?_ ?_);(focus ((repeat' (first|exact z4 (fun _=>rfl)|apply z27));done)))|(refine z97 ?_ ?_;(focus (omega)))|constructor))
        · rw [(y74 _).mp hb] at cO
          rw [if_neg hb,y67] at hs
          repeat' ((first|(apply y4 ok;rfl)|(apply y45;(unfold inI;omega))|((apply z5)<;>intro _)|(apply z6 (cO);rfl;rfl))<;>conv=>whnf)
          all_goals try (exfalso;omega)
          all_goals refine z41 (k+1,M) ⟨by show k+1≤_;omega,hs⟩ (by show 2 ^ B.length - (k+1) < 2 ^ B.length - k;omega) (by refine swR [0,1] [] rfl rfl ?_;(repeat' first|exact y88 _|exact z16 _|apply y89|refine z14 rfl (z4 (fun _=>rfl)) ?_|constructor))
      · obtain rfl:k=2 ^ B.length:=by omega
        rw [hM]
        repeat' ((first|(apply y4 ok;rfl)|((apply z5)<;>intro _))<;>conv=>whnf)
        all_goals try (exfalso;omega)
        all_goals (refine rsD [1] [] rfl ?_;(repeat' first|exact y88 _|exact z16 _|refine z14 rfl (z4 (fun _=>rfl)) ?_|constructor))
set_option maxRecDepth 20000 in
theorem keyT_ph:KeyT Tryz.prog 176 2:=by
 refine ⟨by kernel_rfl,by kernel_rfl,?_,by kernel_rfl⟩
 intro i f h
 unfold Program.fieldsOf at h
 rw [Tryz.underlying176] at h
 match i,h with
 |0,h=>cases h;exact ⟨by decide,rfl,Tryz.underlying3⟩
 |1,h=>cases h;exact ⟨by decide,rfl,Tryz.underlying3⟩
 |i+2,h=>simp at h
@[reducible] def objsX (L:List (List Int)):List AObj:=[.cells 1 [[.mref 1]],.mp 2 (z266 0 L),.cells 1 [[.own 2 (L.map enP)]]]
set_option maxRecDepth 20000 in
set_option maxHeartbeats 3200000 in
theorem z1130 (L : List (List Int)) (hL : L.length ≤ 5000) (s ph : Nat) :
    CallsA Tryz.prog 231 [.agg [.int s,.int ph],.ptr 0 none 0,.ptr 2 none 0] (objsX L) (.int (z278 L [(s:Int),(ph:Int)])) (objsX (z166 L [(s:Int),(ph:Int)])):=by
  have m1:=z583 [(s:Int),(ph:Int)] 0 L
  have ke:=keyT_ph
  unfold z278 z166
  by_cases h : [(s:Int),(ph:Int)]∈L
  · rw [if_pos h,Nat.zero_add] at m1
    rw [if_pos h]
    refine z7 z17 Tryz.func231 rfl (by kernel_rfl) 25 Tryz.ntmps231 (by simp) ?_
    repeat' ((first|(apply y4 ok;rfl)|(refine y45 ke ?_)|(rw [m1]))<;>conv=>whnf)
    all_goals (refine rsD [0,1,2] [] rfl ?_;(repeat' first|exact y88 _|apply y89|constructor))
    all_goals rfl
  · rw [if_neg h] at m1
    rw [if_neg h,List.idxOf_eq_length h]
    have m6:mput (z266 0 L) [(s:Int),(ph:Int)] (L.length:Int)=z266 0 (L++[[(s:Int),(ph:Int)]]):=by
      rw [z582 _ _ _ h,z757,Nat.zero_add]
    have e2:(L.map enP).take L.length++[[AC.int s,AC.int ph]]=(L++[[(s:Int),(ph:Int)]]).map enP:=by
      rw [y59 (by simp),y66];rfl
    refine z7 z17 Tryz.func231 rfl (by kernel_rfl) 25 Tryz.ntmps231 (by simp) ?_
    refine y87 (Gl.Reach.expose 2 0 0 rfl rfl rfl (z158 (fun _=>rfl) _) rfl) ?_
    refine y87 (show Gl.Reach _ _ (mkSt _ [(0,.agg [.int s,.int ph]),(1,.ptr 0 none 0),(2,.ptr 2 none 0)] [.cells 1 [[.mref 1]],.mp 2 (z266 0 L),.cells 1 [[.sref 3 0 L.length]],.cells 2 (L.map enP)]) from (by refine swR [0,1,2,3] [] rfl rfl ?_;(repeat' first|exact y88 _|exact z16 _|(refine z67 ?_;((simp;done)))|apply y89|refine z14 rfl (z4 (fun _=>rfl)) ?_|constructor)<;>(rfl))) ?_
    repeat' ((first|(apply y4 ok;rfl)|(refine y45 ke ?_)|(rw [m6])|(rw [m1])|(apply y45;first|((try dsimp only);simp only [y51,y50,y49,y48,y60,y61];omega)|exact ⟨rfl,z22 rfl z29⟩))<;>conv=>whnf)
    all_goals
      refine Gl.RetS.absorb 2 6 0 0 rfl rfl rfl rfl (by simp) rfl (z53 (fun e he=>(z4 (fun _=>rfl)) e (List.mem_of_mem_take he)) (z194 rfl z33)) ?_
      conv=>whnf
      (refine rsD [0,1,2] [] rfl ?_;(repeat' first|exact y88 _|apply y89|constructor))
      all_goals first|rfl|exact y9 (congrArg (AC.own 2) e2)
end Go.Proofs.YtjhgpfaodkchjaaGreat
namespace Go.Proofs.YtjhgpfaodkchjaaGreat
open Go.Gl
attribute [local irreducible] z19 AWP z25 z31 z28
theorem z1151 {objs:Nat→AObj} {π Bn:List Nat} {o:Nat} {l:List Trans} (ho:objs o=.cells 4 (l.map Trans.cs)) (h1:idx π o=none) (h2:inB Bn o=true):bor objs π Bn (.sref o 0 l.length)=lst 4 Trans.cs l :=
 z209 ho h1 h2 (by simp) (z242 Trans.unown l)
theorem z868 {objs : Nat → AObj} {π Bn : List Nat} {o1 o2 o3 : Nat} {a : Aut} (h1 : objs o1 = .cells 1 (a.ini.map enI)) (h2 : objs o2 = .cells 1 (a.acc.map enB)) (h3 : objs o3 = .cells 4 (a.ed.map Trans.cs)) (i1 : idx π o1 = none) (b1 : inB Bn o1 = true) (i2 : idx π o2 = none) (b2 : inB Bn o2 = true) (i3 : idx π o3 = none) (b3 : inB Bn o3 = true) :
    bor objs π Bn (.agg [.sref o1 0 a.ini.length,.sref o2 0 a.acc.length,.sref o3 0 a.ed.length])=.agg a.cs :=
  bor_agg (z51 (z210 h1 i1 b1) (z51 (z1152 h2 i2 b2) (z51 (z1151 h3 i3 b3) z88)))
structure Aut.ok (a:Aut):Prop where
 mx:a.mx
 ini:a.ini.length≤1048576
 acc:a.acc.length≤1048576
 ed:a.ed.length≤1048576
theorem Aut.ok_of {a:Aut} (h:a.mx) (h1:a.s1≤1048576) (h2:a.s2≤1048576) (h3:a.s3≤1048576):a.ok:=⟨h,h1,h2,h3⟩
theorem clB_full (l:List Bool) (hl:l.length≤1048576) (hp:0 < l.length):CallsA Tryz.prog 301 [lst 1 enB l] [] (.sref 0 0 l.length) [.cells 1 (l.map enB)]:=by
 refine z9 z17 Tryz.func301 rfl rfl 8 Tryz.ntmps301 (by simp) ?_
 repeat' (first|(apply y4 ok;rfl;conv=>whnf)|(apply y45;(first|omega|(dsimp only;omega)|exact z75 (fun _=>rfl));conv=>whnf))
 exact z72 rfl (z4 fun _=>rfl) (Nat.zero_add _) rfl rfl
theorem clB_new0 (l:List Bool) (hl:l.length≤1048576):CallsA Tryz.prog 301 [lst 1 enB l] [] (.sref 0 0 l.length) [.cells 1 (l.map enB)]:=by
 by_cases hp:0 < l.length
 ·exact clB_full l hl hp
 ·obtain rfl:l=[]:=y76 (by omega)
  refine z195 (z284 Tryz.func301 rfl (by rfl)) fun ad cap=>?_
  cases ad with
  |none =>
   refine CallsA.nils (res:=.nils) (l:=[.cells 1 []]) ?_ (by simp) z364
   refine z9 z17 Tryz.func301 rfl rfl 8 Tryz.ntmps301 (by simp) ?_
   repeat' ((apply y4 ok;rfl;conv=>whnf))
   all_goals exact z39 rfl rfl rfl
  |some p =>
   refine z9 z17 Tryz.func301 rfl rfl 8 Tryz.ntmps301 (by simp) ?_
   repeat' (first|(apply y4 ok;rfl;conv=>whnf)|(apply y45;(omega);conv=>whnf))
   all_goals (exact z72 rfl z33 rfl rfl rfl)
theorem clB_clip (l:List Bool) (hl:l.length≤1048576):CallsA Tryz.prog 300 [.sref 0 0 l.length] [.cells 1 (l.map enB)] (.sref 0 0 l.length) [.cells 1 (l.map enB)]:=by
 refine z9 z17 Tryz.func300 rfl rfl 9 Tryz.ntmps300 (by simp) ?_
 repeat' (first|(apply y4 ok;rfl;conv=>whnf)|(apply y45;(omega);conv=>whnf))
 exact z72 rfl (z4 fun _=>rfl) (by omega) rfl rfl
theorem clB_new (l:List Bool) (hl:l.length≤1048576):CallsA Tryz.prog 274 [lst 1 enB l] [] (.sref 0 0 l.length) [.cells 1 (l.map enB)]:=by
 refine z9 z17 Tryz.func274 rfl rfl 6 Tryz.ntmps274 (by simp) ?_
 repeat' (first|(apply y4 ok;rfl;conv=>whnf)|(apply z92 [] [] [0] (clB_new0 l hl);rfl;(focus ((repeat' (exact z47))<;>(fail)));rfl;rfl;rfl;rfl;rfl;(focus ((repeat' (first|exact z13|apply z11))<;>((refine z21 ?_;((exact z4 (fun _=>rfl)))))));(exact .inl rfl);conv=>whnf)|(apply z92 [0] [] [] (clB_clip l hl);rfl;(focus ((repeat' (first|exact z47|apply z59))<;>((refine z84 rfl ?_;((exact z4 (fun _=>rfl)))))));rfl;rfl;rfl;rfl;rfl;(focus ((repeat' (first|exact z13|apply z11))<;>((refine z21 ?_;((exact z4 (fun _=>rfl)))))));(exact .inl rfl);conv=>whnf))
 exact z72 rfl (z4 fun _=>rfl) rfl rfl rfl
theorem clT_full (l:List Trans) (hl:l.length≤1048576) (hp:0 < l.length):CallsA Tryz.prog 303 [lst 4 Trans.cs l] [] (.sref 0 0 l.length) [.cells 4 (l.map Trans.cs)]:=by
 refine z9 z17 Tryz.func303 rfl rfl 8 Tryz.ntmps303 (by simp) ?_
 repeat' (first|(apply y4 ok;rfl;conv=>whnf)|(apply y45;(first|omega|(dsimp only;omega)|exact z75 (fun _=>rfl));conv=>whnf))
 exact z72 rfl (z4 fun _=>rfl) (Nat.zero_add _) rfl rfl
theorem clT_new0 (l:List Trans) (hl:l.length≤1048576):CallsA Tryz.prog 303 [lst 4 Trans.cs l] [] (.sref 0 0 l.length) [.cells 4 (l.map Trans.cs)]:=by
 by_cases hp:0 < l.length
 ·exact clT_full l hl hp
 ·obtain rfl:l=[]:=y76 (by omega)
  refine z195 (z284 Tryz.func303 rfl (by rfl)) fun ad cap=>?_
  cases ad with
  |none =>
   refine CallsA.nils (res:=.nils) (l:=[.cells 4 []]) ?_ (by simp) z364
   refine z9 z17 Tryz.func303 rfl rfl 8 Tryz.ntmps303 (by simp) ?_
   repeat' ((apply y4 ok;rfl;conv=>whnf))
   all_goals exact z39 rfl rfl rfl
  |some p =>
   refine z9 z17 Tryz.func303 rfl rfl 8 Tryz.ntmps303 (by simp) ?_
   repeat' (first|(apply y4 ok;rfl;conv=>whnf)|(apply y45;(omega);conv=>whnf))
   all_goals (exact z72 rfl z33 rfl rfl rfl)
theorem clT_clip (l:List Trans) (hl:l.length≤1048576):CallsA Tryz.prog 302 [.sref 0 0 l.length] [.cells 4 (l.map Trans.cs)] (.sref 0 0 l.length) [.cells 4 (l.map Trans.cs)]:=by
 refine z9 z17 Tryz.func302 rfl rfl 9 Tryz.ntmps302 (by simp) ?_
 repeat' (first|(apply y4 ok;rfl;conv=>whnf)|(apply y45;(omega);conv=>whnf))
 exact z72 rfl (z4 fun _=>rfl) (by omega) rfl rfl
theorem clT_new (l:List Trans) (hl:l.length≤1048576):CallsA Tryz.prog 275 [lst 4 Trans.cs l] [] (.sref 0 0 l.length) [.cells 4 (l.map Trans.cs)]:=by
 refine z9 z17 Tryz.func275 rfl rfl 6 Tryz.ntmps275 (by simp) ?_
 repeat' (first|(apply y4 ok;rfl;conv=>whnf)|(apply z92 [] [] [0] (clT_new0 l hl);rfl;(focus ((repeat' (exact z47))<;>(fail)));rfl;rfl;rfl;rfl;rfl;(focus ((repeat' (first|exact z13|apply z11))<;>((refine z21 ?_;((exact z4 (fun _=>rfl)))))));(exact .inl rfl);conv=>whnf)|(apply z92 [0] [] [] (clT_clip l hl);rfl;(focus ((repeat' (first|exact z47|apply z59))<;>((refine z84 rfl ?_;((exact z4 (fun _=>rfl)))))));rfl;rfl;rfl;rfl;rfl;(focus ((repeat' (first|exact z13|apply z11))<;>((refine z21 ?_;((exact z4 (fun _=>rfl)))))));(exact .inl rfl);conv=>whnf))
 exact z72 rfl (z4 fun _=>rfl) rfl rfl rfl
theorem z873 (a:Aut) (h1:a.ini.length≤100000) (h2:a.acc.length≤100000) (h3:a.ed.length≤100000):CallsA Tryz.prog 232 [.agg a.cs] [] (.agg [.sref 0 0 a.ini.length,.sref 1 0 a.acc.length,.sref 2 0 a.ed.length]) [.cells 1 (a.ini.map enI),.cells 1 (a.acc.map enB),.cells 4 (a.ed.map Trans.cs)]:=by
 have c1:=z654 a.ini (by omega)
 have c2:=clB_new a.acc (by omega)
 have c3:=clT_new a.ed (by omega)
 refine z9 z17 Tryz.func232 rfl rfl 13 Tryz.ntmps232 (by simp) ?_
 repeat' (first|(apply y4 ok;rfl;conv=>whnf)|(apply z32;kernel_rfl;conv=>whnf)|(apply z92 [] [] [2] (c1);rfl;(focus ((repeat' (exact z47))<;>(fail)));rfl;rfl;rfl;rfl;rfl;(focus ((repeat' (first|exact z13|apply z11))<;>((refine z21 ?_;((exact z4 (fun _=>rfl)))))));(exact .inl rfl);conv=>whnf)|(apply z92 [] [] [3] (c2);rfl;(focus ((repeat' (exact z47))<;>(fail)));rfl;rfl;rfl;rfl;rfl;(focus ((repeat' (first|exact z13|apply z11))<;>((refine z21 ?_;((exact z4 (fun _=>rfl)))))));(exact .inl rfl);conv=>whnf)|(apply z92 [] [] [4] (c3);rfl;(focus ((repeat' (exact z47))<;>(fail)));rfl;rfl;rfl;rfl;rfl;(focus ((repeat' (first|exact z13|apply z11))<;>((refine z21 ?_;((exact z4 (fun _=>rfl)))))));(exact .inl rfl);conv=>whnf))
 exact z56 [2,3,4] (by decide) rfl rfl rfl ⟨z18 rfl (z4 fun _=>rfl),z18 rfl (z4 fun _=>rfl),z18 rfl (z4 fun _=>rfl),trivial⟩
theorem z578 {g:Graph} {a:Aut} (hG:GB g) (hA:AutP a) (ls:List Int):(∀ r∈z55 g ls a,InN (z55 g ls a).length r)∧InN (z55 g ls a).length a.ini∧(z55 g ls a).length≤3840∧(∀ r∈z55 g ls a,r.length≤1000000000)∧a.ini.length≤1048576:=by
 have hrl:(z55 g ls a).length=g.st.length * a.acc.length:=by unfold z55;rw [z122,Nat.mul_comm]
 have hN:=z281 (a:=(g.st.length:Int)) (b:=(a.acc.length:Int)) (A:=60) (B:=64) (by omega) (by have:=hG.1;omega) (by omega) (by have:=hA.1;omega)
 have hN2:((g.st.length * a.acc.length:Nat):Int)=(g.st.length:Int) * a.acc.length:=by simp
 have ha1:=hA.1
 refine ⟨fun r hr x hx=>?_,fun x hx=>?_,by omega,fun r hr=>?_,?_⟩
 ·rw [hrl];exact z828 g hG ls a hA r hr x hx
 ·obtain ⟨i,hi,rfl⟩:=List.mem_iff_getElem.1 hx
  have h1:=(hA.2.2.1 i hi hi).1
  have h2:=z281 (a:=(g.st.length:Int) - 1) (b:=(a.acc.length:Int)) (A:=60) (B:=64) (by have:=hG.1;omega) (by have:=hG.1;omega) (by omega) (by omega)
  rw [Int.sub_mul,Int.one_mul] at h2
  omega
 ·have:=z715 g hG ls a hA r hr;omega
 ·have:=hA.2.2.1.le (by omega);omega
structure Cert.ok (c:Cert):Prop where
 mx:c.mx
 len:c.ranks.length≤1048576
theorem Cert.ok_of {c:Cert} (h:c.mx) (h1:c.s1≤1048576):c.ok:=⟨h,h1⟩
theorem bor_tup {objs:Nat→AObj} {π Bn:List Nat} {xs ys:List AC} (h:borL objs π Bn xs=ys):bor objs π Bn (.tup xs)=.tup ys:=by
 simp only [bor,h]
end Go.Proofs.YtjhgpfaodkchjaaGreat
namespace Go.Proofs.YtjhgpfaodkchjaaGreat
open Go.Gl
attribute [local irreducible] z19 AWP z25 z31 z28 RetS z38
theorem trA_len (t:Tree) (hs:t.sz≤200):(trA t).ini.length≤32∧(trA t).acc.length≤66∧(trA t).ed.length≤2080:=by
 unfold trA trO
 by_cases h:bscB t=true
 ·rw [if_pos h]
  obtain ⟨⟨ht,hn⟩,h5⟩:=of_decide_eq_true (show decide _=true from h)
  have hp:=z1070 h5
  have hi:=z913 (bscL (t.nrm false)) (t.nrm false)
  cases hS:trS (bscL (t.nrm false)) (t.nrm false) with
  |none=>exact ⟨y55 _,y55 _,y55 _⟩
  |some y =>
   have hg:=z1118 _ _ _ _ _ _ hS
   simp only [y61] at hg
   show (numI _).length≤32∧(if y.L.length=0 then [false] else y.acc).length≤66∧(y.ed.map eT).length≤2080
   rw [z633,y51]
   refine ⟨by omega,?_,by omega⟩
   split
   ·simp
   ·omega
 ·rw [if_neg h];exact ⟨y55 _,y55 _,y55 _⟩
theorem letB_lt {B:List Tree} (hB:BasL B) (s:Int) (i:Nat):((List.range i).foldl (atoI B s) (0,0)).2 < 8:=by
 induction i with
 |zero=>show 0 < 8;omega
 |succ i ih =>
  rw [z418]
  unfold atoI
  split
  ·rename_i hk
   dsimp only
   split
   ·by_cases hil:i < B.length
    ·have hmem:B.getD i dftT∈B:=by rw [z20 hil];exact y46 _
     have hform:=hB.form hmem
     have hvv:(B.getD i dftT).val.toNat≤2:=by
      generalize B.getD i dftT=f at *
      cases hform with
      |«at» v=>have:=hB.av v hmem;show v.toNat≤2;omega
      |nx a _ _=>simp [Tree.kind] at hk
      |un a b _ _ _ _=>simp [Tree.kind] at hk
      |re a b _ _ _ _=>simp [Tree.kind] at hk
     exact z719 ih hvv
    ·rw [y70,y71 (by omega)]
     exact z719 ih (show (0:Nat)≤2 by omega)
   ·exact ih
  ·exact ih
theorem z923 (B:List Tree) (s ph:Int) (i:Nat) (c v:Int):∀ (l:List Nat) (x:List (List Int)×List Edg),∀ e∈(l.foldl (z109 B s ph i c v) x).2,e∈x.2∨e.val=v
 |[],x,e,he=>.inl he
 |t::l,x,e,he=>by
  rw [List.foldl_cons] at he
  rcases z923 B s ph i c v l _ e he with h|h
  ·unfold z109 at h
   split at h
   ·rcases List.mem_append.1 h with h1|h1
    ·exact .inl h1
    ·rw [List.mem_singleton.1 h1];exact .inr rfl
   ·exact .inl h
  ·exact .inr h
theorem z1117 (B:List Tree) (U:List Int):∀ (f i:Nat) (x y:TrS),goS B U f i x=some y→∀ e∈y.ed,e∈x.ed∨∃ s,e.val=((letB B s).2:Int)
 |0,i,x,y,h=>by simp [goS] at h
 |f+1,i,x,y,h=>by
  rw [goS] at h
  split at h
  ·split at h
   ·cases h
   ·intro e he
    rcases z1117 B U f (i+1) _ y h e he with h1|h1
    ·rcases z923 B _ _ i _ _ _ _ e h1 with h2|h2
     ·exact .inl h2
     ·exact .inr ⟨_,h2⟩
    ·exact .inr h1
  ·cases h
   exact fun e he=>.inl he
theorem trA_val (t:Tree) (hs:t.sz≤200):∀ e∈(trA t).ed,e.mx:=by
 unfold trA trO
 by_cases h:bscB t=true
 ·rw [if_pos h]
  obtain ⟨⟨ht,hn⟩,h5⟩:=of_decide_eq_true (show decide _=true from h)
  obtain ⟨hB,_,_⟩:=z672 ht hn h5 hs
  cases hS:trS (bscL (t.nrm false)) (t.nrm false) with
  |none=>intro e he;cases he
  |some y =>
   intro e he
   obtain ⟨e',he',rfl⟩:=List.mem_map.1 (show e∈y.ed.map eT from he)
   rcases z1117 _ _ _ _ _ _ hS e' he' with h1|⟨s,h1⟩
   ·cases h1
   ·have:=letB_lt hB s (bscL (t.nrm false)).length
    show inI e'.val
    unfold inI
    rw [h1]
    unfold letB
    omega
 ·rw [if_neg h];intro e he;cases he
theorem acc_ok (B:List Tree) (hB:BasL B) (s ph:Nat) (s1:s≤31) (hp:(untB B).length=0∧ph=0∨ph < (untB B).length):CallsA Tryz.prog 148 [.agg [.int s,.int ph],.pt [.pt [lst 3 Tree.cs' B,ints (untB B)]]] [] (.bool (phB B (untB B) s ph).2) []:=by
 have hl:=hB.len
 have hul:(untB B).length≤B.length:=z449 B B.length
 have hu:=fun (h:ph < (untB B).length)=>z886 (B:=B) (x:=(untB B).getD ph 0) (by rw [z20 h];exact y46 _)
 have cFu:ph < (untB B).length→CallsA Tryz.prog 149 [.pt [lst 3 Tree.cs' B,ints (untB B)],.int s,.int ph] [] (.bool (fulB B s ((untB B).getD ph 0))) []:=fun h=>by
  obtain ⟨u,e1,e3,e4⟩:=hu h
  have:=z593 B (untB B) hB s (by omega) (by omega) ph u h (by omega) e1 e3 e4
  rw [← e1] at this;exact this
 clear hu
 unfold phB
 generalize untB B=U at *
 by_cases h0:U.length=0
 ·rw [if_pos h0]
  refine z7 z17 Tryz.func148 rfl rfl 21 Tryz.ntmps148 (by simp) ?_
  repeat' ((first|(apply y4 ok;rfl)|((apply z5)<;>intro _))<;>conv=>whnf)
  all_goals first|(exfalso;omega)|(refine rsD [] [] rfl ?_;(repeat' first|exact y88 _|constructor))
 ·rw [if_neg h0,y79]
  by_cases h1:ph=0
  ·subst h1
   have cF:=cFu (by omega)
   generalize fulB B s (U.getD 0 0)=z at *
   cases z
   all_goals
    refine z7 z17 Tryz.func148 rfl rfl 21 Tryz.ntmps148 (by simp) ?_
    repeat' ((first|(apply y4 ok;rfl)|((apply z5)<;>intro _)|(apply z6 (cF);rfl;rfl))<;>conv=>whnf)
    all_goals first|(exfalso;omega)|(refine rsD [] [] rfl ?_;(repeat' first|exact y88 _|constructor))
  ·have e:(if fulB B s (U.getD ph 0)=true then (((ph:Int)+1) % (U.length:Int),decide ((ph:Int)=0)) else ((ph:Int),false)).2=false:=by
    split
    ·exact y85 (by omega)
    ·rfl
   rw [e]
   clear cFu
   refine z7 z17 Tryz.func148 rfl rfl 21 Tryz.ntmps148 (by simp) ?_
   repeat' ((first|(apply y4 ok;rfl)|((apply z5)<;>intro _))<;>conv=>whnf)
   all_goals first|(exfalso;omega)|(refine rsD [] [] rfl ?_;(repeat' first|exact y88 _|constructor))
theorem ren_mp {M d:Nat} {r:Nat→Nat} {es:List (List Int×Int)} : z601 M r (.mp d es) (.mp d es):=⟨trivial,rfl⟩
noncomputable def z857 (q i:Nat) (c v:Nat) (y:List (List Int)×List Edg) (x:Nat):List (List Int)×List Edg:=(z166 y.1 [(x:Int),(q:Int)],y.2++[⟨i,c,v,z278 y.1 [(x:Int),(q:Int)]⟩])
theorem fold_mv (B:List Tree) (s:Int) (q i c v k:Nat) (y:List (List Int)×List Edg):(mvK B s k).foldl (z857 q i c v) y=(List.range k).foldl (z109 B s q i c v) y:=by
 unfold mvK
 rw [List.foldl_filter]
 rfl
theorem numI_ini (n m:Nat) (h:n≤m):IniP (numI n) m (numI n).length:=by
 intro i hi _
 have e:∀ j (hj:j < (numI n).length),(numI n)[j]=(j:Int):=fun j hj=>by simp [numI]
 have hl:=z633 n
 rw [e i hi]
 refine ⟨by omega,fun j hj=>?_⟩
 rw [e j (by omega)];omega
theorem ExI.valid {B:List Tree} {U:List Int} {n0 i:Nat} {x:TrS} (hB:BasL B) (h:ExI B U n0 i x) (h1:1≤n0) (hi:i≤64) (he:x.L.length≤i):autB ⟨numI n0,x.acc,x.ed.map eT⟩=true:=by
 have h2:=h.base;have h3:=h.acc;have h4:=h.edl;have h5:=h.le
 have hp:=z1070 hB.len
 have hmul:i * 2 ^ B.length≤64 * 32:=Nat.mul_le_mul hi hp.2
 rw [z261]
 refine ⟨⟨by show 1≤x.acc.length;omega,by show x.acc.length≤64;omega⟩,by show (x.ed.map eT).length≤2048;rw [y51];omega,numI_ini n0 x.acc.length (by omega),fun e he=>?_⟩
 obtain ⟨e',he',rfl⟩:=List.mem_map.1 he
 obtain ⟨⟨a1,a2⟩,⟨a3,a4⟩,s,a5,a6⟩:=h.ed e' he'
 have l1:(letB B s).1 < 8:=by
  have:∀ n,((List.range n).foldl (atoI B s) (0,0)).1 < 8:=by
   intro n
   induction n with
   |zero=>show (0:Nat) < 8;omega
   |succ n ih =>
    rw [z418]
    unfold atoI
    split
    ·rename_i hk
     refine z719 ih ?_
     by_cases hil:n < B.length
     ·have hmem:B.getD n dftT∈B:=by rw [z20 hil];exact y46 _
      have hform:=hB.form hmem
      generalize B.getD n dftT=f at *
      cases hform with
      |«at» v=>have:=hB.av v hmem;show v.toNat≤2;omega
      |nx a _ _=>simp [Tree.kind] at hk
      |un a b _ _ _ _=>simp [Tree.kind] at hk
      |re a b _ _ _ _=>simp [Tree.kind] at hk
     ·rw [y70,y71 (by omega)]
      show (0:Nat)≤2;omega
    ·exact ih
  exact this _
 refine ⟨⟨a1,?_⟩,⟨a3,?_⟩,⟨?_,?_⟩,?_,?_⟩
 ·show e'.src≤(x.acc.length:Int) - 1;omega
 ·show e'.dst≤(x.acc.length:Int) - 1;omega
 ·show 0≤e'.care;omega
 ·show e'.care≤7;omega
 ·show 0≤e'.val;omega
 ·show e'.val.toNat &&& e'.care.toNat=e'.val.toNat
  rw [a5,a6];exact letB_sub B s
@[reducible] noncomputable def accF (B:List Tree):AC:=.fn (.func 148) [] [.pt [.pt [lst 3 Tree.cs' B,ints (untB B)]]]
@[reducible] noncomputable def movF (B:List Tree):AC:=.fn (.func 151) [.pt [lst 3 Tree.cs' B,ints (untB B)]] []
@[reducible] def fndF:AC:=.fn (.func 231) [] [.ptr 3 none 0,.ptr 4 none 0]
@[reducible] def objsE (N:List Int) (L:List (List Int)) (acc:List Bool) (E:List Trans) (fb:AC):List AObj:=[.cells 3 [[.nils,.nils,.nils]],.cells 3 [[.sref 5 0 N.length,.sref 6 0 acc.length,.sref 7 0 E.length]],.mp 2 (z266 0 L),.cells 1 [[.mref 2]],.cells 1 [[fb]],.cells 1 (N.map enI),.cells 1 (acc.map enB),.cells 4 (E.map Trans.cs)]
noncomputable def expO (B:List Tree) (L0:List (List Int)):Option Aut:=(goS B (untB B) 65 0 ⟨L0,[],[]⟩).map (z348 L0.length)
set_option maxRecDepth 20000 in
set_option maxHeartbeats 25600000 in
theorem z854 (B : List Tree) (hB : BasL B) (L0 : List (List Int)) (hr : ∀ r ∈ L0, RowP B.length (untB B) r) (hn : L0.Nodup) (hl0 : L0.length ≤ 32) :
    CallsA Tryz.prog 150 [lst 2 enP L0,accF B,movF B] [] (.tup [.agg [.sref 0 0 ((expO B L0).getD ⟨[],[],[]⟩).ini.length,.sref 1 0 ((expO B L0).getD ⟨[],[],[]⟩).acc.length,.sref 2 0 ((expO B L0).getD ⟨[],[],[]⟩).ed.length],.bool (expO B L0).isSome])
      [.cells 1 (((expO B L0).getD ⟨[],[],[]⟩).ini.map enI),.cells 1 (((expO B L0).getD ⟨[],[],[]⟩).acc.map enB),.cells 4 (((expO B L0).getD ⟨[],[],[]⟩).ed.map Trans.cs)]:=by
  unfold expO
  have hp5:=z1070 hB.len
  by_cases h0:L0.length=0
  · obtain rfl:L0=[]:=y76 h0
    refine z7 z17 Tryz.func150 rfl (by kernel_rfl) 98 Tryz.ntmps150 (by simp) ?_
    repeat' ((first|(apply y4 ok;rfl)|(apply y45;(dsimp only;omega)))<;>conv=>whnf)
    all_goals (refine y91 1 ?_;refine y91 4 ?_;refine rsD [2,1,3] [] rfl ?_;(repeat' first|exact y88 _|exact z46|apply y89|refine z14 rfl (z33) ?_|apply z52|apply z104|constructor))
  have hRO:∀ x,goS B (untB B) 65 0 ⟨L0,[],[]⟩=some x→x.L.length≠0→(goS B (untB B) 65 0 ⟨L0,[],[]⟩).map (z348 L0.length)=some ⟨numI L0.length,x.acc,x.ed.map eT⟩:=fun x h h2=>by
    rw [h];unfold z348;simp only [Option.map_some];rw [if_neg h2]
  have hRN:goS B (untB B) 65 0 ⟨L0,[],[]⟩=none→(goS B (untB B) 65 0 ⟨L0,[],[]⟩).map (z348 L0.length)=none:=fun h=>by rw [h];rfl
  generalize (goS B (untB B) 65 0 ⟨L0,[],[]⟩).map (z348 L0.length)=O at *
  obtain ⟨R,hR0⟩:∃ R,goS B (untB B) 65 0 ⟨L0,[],[]⟩=R:=⟨_,rfl⟩
  rw [hR0] at hRO hRN
  refine z7 z17 Tryz.func150 rfl (by kernel_rfl) 98 Tryz.ntmps150 (by simp) ?_
  repeat' ((first|(apply y4 ok;rfl)|(apply y45;omega)|((apply z5)<;>intro _))<;>conv=>whnf)
  all_goals try (exfalso;omega)
  refine y87 (y90 1 rfl) ?_
  refine z86 (fun x:Nat×List Int=>([(1,accF B),(2,movF B),(6,.ptr 0 none 0),(8,.ptr 1 none 0),(10,.ptr 4 none 0),(11,fndF),(24,lst 2 enP L0),(25,.int L0.length),(26,.int x.1)],[.cells 3 [[.nils,.nils,.nils]],.cells 3 [[.sref 5 0 x.2.length,.nils,.nils]],.mp 2 (z266 0 (L0.take x.1)),.cells 1 [[.mref 2]],.cells 1 [[.own 2 ((L0.take x.1).map enP)]],.cells 1 (x.2.map enI)])) (fun x=>x.1≤L0.length∧numI x.1=x.2) (fun x=>L0.length - x.1) (0,[]) ⟨y55 _,rfl⟩ (by refine swR [0,1,2,3,4,5] [] rfl rfl ?_;(repeat' first|exact y88 _|exact z46|apply y89|refine z14 rfl (z33) ?_|constructor)<;>(first|rfl|exact z304)) ?_
  rintro ⟨i,N⟩ ⟨hi,hN⟩
  dsimp only at hi hN ⊢
  have hNl:=z633 i
  rw [hN] at hNl
  by_cases hil:i < L0.length
  · have gk:(L0.map enP)[i]?=some (enP L0[i]):=by rw [y53,y47 hil];rfl
    obtain ⟨s,ph,er,hs,hp⟩:=hr L0[i] (y46 _)
    have hni:L0[i] ∉ L0.take i:=fun h=>by
      obtain ⟨j,hj,e⟩:=List.mem_iff_getElem.1 h
      rw [y50] at hj
      rw [List.getElem_take] at e
      exact List.pairwise_iff_getElem.1 (List.nodup_iff_pairwise_ne.1 hn) j i (by omega) hil (by omega) e
    have hts:L0.take (i+1)=L0.take i++[L0[i]]:=y52 hil
    have htl:(L0.take i).length=i:=by rw [y50];omega
    rw [er] at gk hni hts
    have cf:=z1130 (L0.take i) (by omega) s ph
    have e1:z166 (L0.take i) [(s:Int),(ph:Int)]=L0.take (i+1):=by unfold z166;rw [if_neg hni,hts]
    have e2:z278 (L0.take i) [(s:Int),(ph:Int)]=i:=by unfold z278;rw [List.idxOf_eq_length hni,htl]
    rw [e1,e2] at cf
    have ns:=z1081 i
    rw [hN] at ns
    repeat' ((first|(apply y4 ok;rfl)|(apply z32;kernel_rfl)|(refine z12 (i:=i) rfl gk ?_)|(apply y45;first|omega|(unfold inI;omega)|((try dsimp only);simp only [y51,y50,y49,y48,y60,y61];omega)|exact ⟨rfl,z22 rfl z29⟩)|((apply z5)<;>intro _)|(apply z8 [3,2,4] [] cf;rfl;rfl;rfl;(focus ((repeat' first|exact z13|apply z11)<;>first|exact ren_mp|exact z44 rfl rfl))))<;>conv=>whnf)
    all_goals try (exfalso;omega)
    all_goals refine z41 (i+1,N++[(i:Int)]) ⟨by show i+1≤_;omega,ns⟩ (by show L0.length - (i+1) < L0.length - i;omega) (by refine swR [0,1,2,3,4,8] [] rfl rfl ?_;(repeat' first|exact y88 _|(refine z67 ?_;((simp;done)))|apply y89|((refine z40 rfl ?_ ?_);(focus ((repeat' (first|exact z4 (fun _=>rfl)|apply z27));done)))|(refine z97 ?_ ?_;(focus (omega)))|constructor)<;>(rfl))
  obtain rfl:i=L0.length:=by omega
  rw [y58]
  have hNe:numI L0.length=N:=hN
  rw [hNe] at hRO
  have hI0:ExI B (untB B) L0.length 0 ⟨L0,[],[]⟩:=⟨hr,y54 _,rfl,y55 _,y55 _,by show L0.length≤L0.length+0 * _;omega,fun e he=>by cases he⟩
  have hval:=fun i x h h2 h3=>ExI.valid (B:=B) (U:=untB B) (n0:=L0.length) (i:=i) (x:=x) hB h (by omega) h2 h3
  rw [hNe] at hval
  have hN32:N.length≤32:=by omega
  repeat' ((first|(apply y4 ok;rfl)|(apply y45;omega)|(((with_reducible apply z10;omega));intro _)|((apply z5)<;>intro _))<;>conv=>whnf)
  all_goals try (exfalso;omega)
  refine y87 (y90 1 rfl) ?_
  refine y87 (y90 4 rfl) ?_
  refine z86 (fun x:Nat×List (List Int)×List Bool×List Trans=>([(1,accF B),(2,movF B),(6,.ptr 0 none 0),(8,.ptr 1 none 0),(10,.ptr 4 none 0),(11,fndF),(14,.int x.1)],objsE N x.2.1 x.2.2.1 x.2.2.2 (.own 2 (x.2.1.map enP)))) (fun x=>x.1≤64∧∃ ed:List Edg,x.2.2.2=ed.map eT∧(goS B (untB B) (65 - x.1) x.1 ⟨x.2.1,x.2.2.1,ed⟩=R∨(64 < x.2.1.length∧R=none))∧ExI B (untB B) L0.length x.1 ⟨x.2.1,x.2.2.1,ed⟩) (fun x=>65 - x.1) (0,L0,[],[]) ⟨y55 _,[],rfl,.inl hR0,hI0⟩ (by refine swR [0,1,2,3,4,5,6,7] [] rfl rfl ?_;(repeat' first|exact y88 _|exact z46|exact z16 _|apply y89|((refine z14 rfl ?_ ?_);(focus ((repeat' (first|exact z33|exact z4 (fun _=>rfl)));done)))|constructor)<;>(rfl)) ?_
  have hL00:L0.length≠0:=h0
  clear hI0 hR0 hNe hNl hN hi hil hn hr
  rintro ⟨i,L,acc,E⟩ ⟨hi,ed,hE,hR,hI⟩
  dsimp only at hi hE hR hI ⊢
  have hmul:i * 2 ^ B.length≤64 * 32:=Nat.mul_le_mul hi hp5.2
  have hLl:=hI.ln
  have hedl:=hI.edl
  have hacl:=hI.acc
  dsimp only at hLl hedl hacl
  have hEl:E.length=ed.length:=by rw [hE,y51]
  rw [show 65 - i=(64 - i)+1 by omega,goS] at hR
  dsimp only at hR
  refine y87 (Gl.Reach.expose 4 0 0 rfl rfl rfl (z158 (fun _=>rfl) _) rfl) ?_
  refine y87 (show Gl.Reach _ _ (mkSt _ [(1,accF B),(2,movF B),(6,.ptr 0 none 0),(8,.ptr 1 none 0),(10,.ptr 4 none 0),(11,fndF),(14,.int i)] (objsE N L acc E (.sref 8 0 L.length)++[.cells 2 (L.map enP)])) from (by refine swR [0,1,2,3,4,5,6,7,8] [] rfl rfl ?_;(repeat' first|exact y88 _|exact z16 _|(refine z67 ?_;((simp;done)))|apply y89|refine z14 rfl (z4 (fun _=>rfl)) ?_|constructor)<;>(rfl))) ?_
  by_cases hil:i < L.length
  · rw [if_pos hil] at hR
    by_cases h64:i=64
    · have hRn:R=none:=by
        rcases hR with h|h
        · rw [if_pos (by omega)] at h;exact h.symm
        · exact h.2
      have hO:=hRN hRn
      subst hO
      repeat' ((first|(apply y4 ok;rfl)|(apply y45;omega)|(((apply z10;omega));intro _)|((apply z5)<;>intro _))<;>conv=>whnf)
      all_goals try (exfalso;omega)
      all_goals (refine y91 1 ?_;refine y91 1 ?_;refine y91 4 ?_;refine rsD [9,10,11] [] rfl ?_;(repeat' first|exact y88 _|exact z46|refine z14 rfl (z33) ?_|apply z52|apply z104|constructor))
    · obtain ⟨s,ph,er,hs,hp⟩:=hI.rows (L.getD i []) (by rw [z20 hil];exact y46 _)
      have gk:(L.map enP)[i]?=some (enP [(s:Int),(ph:Int)]):=by rw [y53,y47 hil,← er,z20 hil];rfl
      have cA:=acc_ok B hB s ph (by omega) hp
      have cM:=z1092 B hB s ph (by omega) hp
      obtain ⟨q,eq,hq⟩:=z901 (B:=B) (s:=s) hp
      have hst:=hI.step hil
      have hRS:z199 B (untB B) i ⟨L,acc,ed⟩=⟨((mvK B s (2 ^ B.length)).foldl (z857 q i (letB B s).1 (letB B s).2) (L,ed)).1,acc++[(phB B (untB B) s ph).2],((mvK B s (2 ^ B.length)).foldl (z857 q i (letB B s).1 (letB B s).2) (L,ed)).2⟩:=by
        rw [fold_mv]
        unfold z199
        dsimp only
        rw [er,← eq];rfl
      rw [hRS] at hst hR
      rw [eq] at cM
      have hMl:=z1091 B s (2 ^ B.length)
      clear eq hRS gk
      have gk:(L.map enP)[i]?=some (enP [(s:Int),(ph:Int)]):=by rw [y53,y47 hil,← er,z20 hil];rfl
      generalize (phB B (untB B) s ph).2=z at *
      generalize (letB B s).1=c at *
      generalize (letB B s).2=v at *
      generalize mvK B s (2 ^ B.length)=M at *
      repeat' ((first|(apply y4 ok;rfl)|(apply z32;kernel_rfl)|(refine z12 (i:=i) rfl gk ?_)|(apply y45;first|omega|((try dsimp only);simp only [y51,y50,y49,y48,y60,y61];omega)|exact ⟨rfl,z22 rfl z29⟩)|((apply z5)<;>intro _)|(apply z6 (cA);rfl;rfl)|(apply z8 [] [11] cM;rfl;rfl;rfl;(focus ((repeat' first|exact z13|apply z11)<;>(refine z21 ?_;((exact z4 fun _=>rfl)))))))<;>conv=>whnf)
      all_goals try (exfalso;omega)
      refine y87 (Gl.Reach.absorb 4 8 0 0 rfl rfl rfl rfl (by simp) rfl (z4 fun _=>rfl) rfl) ?_
      refine z86 (fun x:Nat×List (List Int)×List Trans=>([(1,accF B),(2,movF B),(6,.ptr 0 none 0),(8,.ptr 1 none 0),(10,.ptr 4 none 0),(11,fndF),(14,.int i),(70,.sref 8 0 M.length),(71,.int M.length),(72,.int x.1)],objsE N x.2.1 (acc++[z]) x.2.2 (.own 2 (x.2.1.map enP))++[.cells 4 (M.map (enMv c v q))])) (fun x=>x.1≤M.length∧∃ ed' : List Edg,x.2.2=ed'.map eT∧(M.take x.1).foldl (z857 q i c v) (L,ed)=(x.2.1,ed')∧x.2.1.length≤L.length+x.1∧x.2.2.length≤E.length+x.1) (fun x=>M.length - x.1) (0,L,E) ⟨y55 _,ed,hE,rfl,y54 _,y54 _⟩ (by refine swR [0,1,2,3,4,5,10,7,11] [] rfl rfl ?_;(repeat' first|exact y88 _|exact z16 _|(refine z67 ?_;((simp;done)))|apply y89|((first|refine z40 rfl ?_ ?_|refine z14 rfl ?_ ?_);(focus ((repeat' (first|exact z4 (fun _=>rfl)|apply z27));done)))|(refine z97 ?_ ?_;(focus (omega)))|constructor)<;>(rfl)) ?_
      rintro ⟨k,L',E'⟩ ⟨hk,ed',hE',hf,hL',hel⟩
      dsimp only at hk hE' hf hL' hel ⊢
      by_cases hkl:k < M.length
      · have gM:(M.map (enMv c v q))[k]?=some (enMv c v q M[k]):=by rw [y53,y47 hkl];rfl
        have hfs:(M.take (k+1)).foldl (z857 q i c v) (L,ed)=z857 q i c v (L',ed') M[k]:=by rw [y52 hkl,y65,hf];rfl
        generalize M[k]=x at *
        have cf:=z1130 L' (by omega) x q
        have hpl:=z631 L' [(x:Int),(q:Int)]
        unfold z857 at hfs
        dsimp only at hfs
        generalize z166 L' [(x:Int),(q:Int)]=L2 at *
        generalize z278 L' [(x:Int),(q:Int)]=n2 at *
        repeat' ((first|(apply y4 ok;rfl)|(apply z32;kernel_rfl)|(refine z12 (i:=k) rfl gM ?_)|(apply y45;first|omega|(unfold inI;omega)|((try dsimp only);simp only [y51,y50,y49,y48,y60,y61];omega)|exact ⟨rfl,z22 rfl z29⟩)|((apply z5)<;>intro _)|(apply z8 [3,2,4] [] cf;rfl;rfl;rfl;(focus ((repeat' first|exact z13|apply z11)<;>first|exact ren_mp|exact z44 rfl rfl))))<;>conv=>whnf)
        all_goals try (exfalso;omega)
        all_goals refine z41 (k+1,L2,E'++[eT ⟨i,c,v,n2⟩]) ⟨by show k+1≤_;omega,_,by rw [hE'];simp,hfs,by show L2.length≤L.length+(k+1);omega,by show (E'++[_]).length≤E.length+(k+1);simp;omega⟩ (by show M.length - (k+1) < M.length - k;omega) (by refine swR [0,1,2,3,4,5,6,11,8] [] rfl rfl ?_;(repeat' first|exact y88 _|exact z16 _|(refine z67 ?_;((simp;done)))|apply y89|((first|refine z40 rfl ?_ ?_|refine z14 rfl ?_ ?_);(focus ((repeat' (first|exact z4 (fun _=>rfl)|apply z27));done)))|(refine z97 ?_ ?_;(focus (omega)))|constructor)<;>(rfl))
      · obtain rfl:k=M.length:=by omega
        rw [y58] at hf
        rw [hf] at hst hR
        dsimp only at hst hR
        repeat' ((first|(apply y4 ok;rfl)|(apply y45;first|omega|(unfold inI;omega))|(((apply z10;omega));intro _)|((apply z5)<;>intro _))<;>conv=>whnf)
        all_goals try (exfalso;omega)
        all_goals refine z41 (i+1,L',acc++[z],E') ⟨by show i+1≤64;omega,ed',hE',?_,hst.1⟩ (by show 65 - (i+1) < 65 - i;omega) (by refine swR [0,1,2,3,4,5,6,7] [] rfl rfl ?_;(repeat' first|exact y88 _|exact z16 _|apply y89|refine z14 rfl (z4 (fun _=>rfl)) ?_|constructor)<;>(rfl))
        all_goals
          show goS B (untB B) (65 - (i+1)) (i+1) ⟨L',acc++[z],ed'⟩=R∨_
          have h2:L.length≤L'.length:=hst.2
          rw [show 65 - (i+1)=64 - i by omega]
          rcases hR with h|h
          · by_cases h65:64 < L.length
            · rw [if_pos h65] at h
              exact .inr ⟨by show 64 < L'.length;omega,h.symm⟩
            · rw [if_neg h65] at h
              exact .inl h
          · exact .inr ⟨by show 64 < L'.length;omega,h.2⟩
  · rw [if_neg hil] at hR
    have hRs:R=some ⟨L,acc,ed⟩:=by
      rcases hR with h|h
      · exact h.symm
      · omega
    have hb:=hI.base
    have hO:=hRO _ hRs (by show L.length≠0;have:L0.length≤L.length:=hb;omega)
    have hv:=hval i ⟨L,acc,ed⟩ hI hi (by show L.length≤i;omega)
    dsimp only at hO hv
    rw [← hE] at hO hv
    subst hO
    have hP:=z261.1 hv
    have hmx:Aut.mx ⟨N,acc,E⟩:=⟨by show N.length≤_;unfold maxLen;omega,by show acc.length≤_;unfold maxLen;omega,by show E.length≤_;unfold maxLen;omega,fun e he=>by
      obtain ⟨_,_,⟨c1,c2⟩,v1,v2⟩:=hP.2.2.2 e he
      have:=@Nat.and_le_right e.val.toNat e.care.toNat
      show inI e.val
      unfold inI;omega⟩
    have cV:=z238 ⟨N,acc,E⟩ hmx
    rw [hv] at cV
    have cC:=z873 ⟨N,acc,E⟩ (by show N.length≤_;omega) (by show acc.length≤_;omega) (by show E.length≤_;omega)
    repeat' ((first|(apply y4 ok;rfl)|(apply y45;omega)|(((apply z10;omega));intro _)|((apply z5)<;>intro _)|((first|(apply z95 [] [5,6,7] [] cV;(focus (exact z51 (z868 (a:=⟨N,acc,E⟩) rfl rfl rfl rfl rfl rfl rfl rfl rfl) z88));rfl)|(apply z95 [] [5,6,7] [9,10,11] cC;(focus (exact z51 (z868 (a:=⟨N,acc,E⟩) rfl rfl rfl rfl rfl rfl rfl rfl rfl) z88));rfl));rfl;(focus ((repeat' first|exact z13|apply z11)<;>(refine z21 ?_;((exact z4 fun _=>rfl)))));((refine .inr ⟨rfl,?_⟩;repeat' first|exact True.intro|apply y45|exact z136 (fun _=>rfl) _))))<;>conv=>whnf)
    all_goals try (exfalso;omega)
    all_goals (refine rsD [9,10,11] [] rfl ?_;(repeat' first|exact y88 _|exact z16 _|refine z14 rfl (z4 (fun _=>rfl)) ?_|constructor))
theorem z744 (B:List Tree) (g:Tree):∀ r∈iniS B g,RowP B.length (untB B) r:=by
 intro r hr
 unfold iniS at hr
 obtain ⟨s,hs,rfl⟩:=List.mem_map.1 hr
 have:=List.mem_range.1 (List.mem_filter.1 hs).1
 exact ⟨s,0,rfl,this,by omega⟩
theorem z980 (B:List Tree) (g:Tree):(iniS B g).Nodup:=by
 unfold iniS
 exact ((List.nodup_range).filter _).map _ fun a b h e=>h (by simp at e;omega)
set_option maxRecDepth 20000 in
set_option maxHeartbeats 12800000 in
theorem z651 (t:Tree) (hs:t.sz≤200):CallsA Tryz.prog 73 [z30 Tree.cs' t] [] (.tup [.agg [.sref 0 0 (trA t).ini.length,.sref 1 0 (trA t).acc.length,.sref 2 0 (trA t).ed.length],.bool (tsB t)]) [.cells 1 ((trA t).ini.map enI),.cells 1 ((trA t).acc.map enB),.cells 4 ((trA t).ed.map Trans.cs)]:=by
 have cb:=z655 t hs
 unfold trA tsB trO
 by_cases h:bscB t=true
 ·obtain ⟨⟨ht,hn⟩,h5⟩:=of_decide_eq_true (show decide _=true from h)
  obtain ⟨hB,hIn,hsz⟩:=z672 ht hn h5 hs
  have cn:=z589 t (y23 ht) (by omega)
  rw [if_pos h] at cb ⊢
  rw [h] at cb
  rw [if_pos hn,hn] at cn
  clear h ht hn
  generalize t.nrm false=g at *
  generalize bscL g=B at *
  have hp:=z1070 h5
  have hi0:=z913 B g
  have cE:=z854 B hB (iniS B g) (z744 B g) (z980 B g) (by omega)
  have hEx:(trS B g).map (z348 (iniS B g).length)=expO B (iniS B g):=rfl
  rw [hEx]
  clear hEx
  generalize expO B (iniS B g)=O at *
  have hul:(untB B).length≤B.length:=z449 B B.length
  have e2:((1:Int) * 2 ^ ((B.length:Int).toNat))=((2 ^ B.length:Nat):Int):=by
   rw [y79,Int.one_mul];norm_cast
  have cV:=fun s a b=>z253 B (untB B) hB s a b g hIn hsz
  have hkk:=fun i=>z1032 B i
  rw [y15 t] at cb cn ⊢
  rw [y15 g] at cn cV
  refine z7 z17 Tryz.func73 rfl rfl 75 Tryz.ntmps73 (by simp) ?_
  repeat' ((first|(apply y4 ok;rfl)|(apply z6 (cb);rfl;rfl)|(apply z6 (cn);rfl;rfl))<;>conv=>whnf)
  refine y87 (y90 1 rfl) ?_
  refine z86 (fun x:Nat×List Int=>([(2,.ptr 1 none 0),(4,lst 3 Tree.cs' B),(6,.ptr 2 none 0),(8,.ptr 4 none 0),(30,lst 3 Tree.cs' B),(31,.int B.length),(32,.int x.1)],[.cells 3 [[.int t.kind,.int t.val,lst 3 Tree.cs' t.kids]],.cells 3 [[.nils,.nils,.nils]],.cells 3 [[.int g.kind,.int g.val,lst 3 Tree.cs' g.kids]],.cells 2 [[lst 3 Tree.cs' B,.sref 5 0 x.2.length]],.cells 1 [[.ptr 3 none 0]],.cells 1 (x.2.map enI)])) (fun x=>x.1≤B.length∧untL B x.1=x.2) (fun x=>B.length - x.1) (0,[]) ⟨y55 _,rfl⟩ (by refine swR [0,1,2,3,4,5] [] rfl rfl ?_;(repeat' first|exact y88 _|exact z46|apply y89|refine z14 rfl (z33) ?_|constructor)) ?_
  rintro ⟨i,U⟩ ⟨hi,hU⟩
  dsimp only at hi hU ⊢
  have hul2:=z449 B i
  rw [hU] at hul2
  by_cases hil:i < B.length
  ·have gk:(B.map Tree.cs')[i]?=some (Tree.cs' (B.getD i dftT)):=by rw [y53,y47 hil,z20 hil];rfl
   have hs:=hkk i
   rw [hU] at hs
   generalize B.getD i dftT=f at *
   by_cases hk:f.kind=7
   ·rw [if_pos hk] at hs
    repeat' ((first|(apply y4 ok;rfl)|(apply z32;kernel_rfl)|(refine z12 (i:=i) rfl gk ?_)|(apply y45;first|omega|(unfold inI;omega)|((try dsimp only);simp only [y51,y50,y49,y48,y60,y61];omega)|exact ⟨rfl,z22 rfl z29⟩)|((apply z5)<;>intro _))<;>conv=>whnf)
    all_goals try (exfalso;omega)
    all_goals refine z41 (i+1,U++[(i:Int)]) ⟨by show i+1≤_;omega,hs⟩ (by show B.length - (i+1) < B.length - i;omega) (by refine swR [0,1,2,3,4,8] [] rfl rfl ?_;(repeat' first|exact y88 _|(refine z67 ?_;((simp;done)))|apply y89|((refine z40 rfl ?_ ?_);(focus ((repeat' (first|exact z4 (fun _=>rfl)|apply z27));done)))|(refine z97 ?_ ?_;(focus (omega)))|constructor))
   ·rw [if_neg hk,y67] at hs
    repeat' ((first|(apply y4 ok;rfl)|(apply z32;kernel_rfl)|(refine z12 (i:=i) rfl gk ?_)|(apply y45;first|omega|(unfold inI;omega))|((apply z5)<;>intro _))<;>conv=>whnf)
    all_goals try (exfalso;omega)
    all_goals refine z41 (i+1,U) ⟨by show i+1≤_;omega,hs⟩ (by show B.length - (i+1) < B.length - i;omega) (by refine swR [0,1,2,3,4,5] [] rfl rfl ?_;(repeat' first|exact y88 _|exact z16 _|apply y89|refine z14 rfl (z4 (fun _=>rfl)) ?_|constructor))
  ·obtain rfl:i=B.length:=by omega
   have hU2:untB B=U:=hU
   rw [hU2] at cV
   have cE2:=cE
   unfold accF movF at cE2
   rw [hU2] at cE2
   clear cE hkk hU hU2
   repeat' ((first|(apply y4 ok;rfl)|(apply z32;kernel_rfl)|(rw [e2])|(apply y45;first|omega|(unfold inI;omega))|(((with_reducible apply z10;omega));intro _)|((apply z5)<;>intro _))<;>conv=>whnf)
   all_goals try (exfalso;omega)
   refine y87 (y90 2 rfl) ?_
   refine y87 (show Gl.Reach _ _ (mkSt _ [(2,.ptr 0 none 0),(6,.ptr 1 none 0),(8,.ptr 3 none 0),(11,.sref 4 0 0),(53,.int ((2 ^ B.length:Nat):Int)),(54,.int 0)] [.cells 3 [[.nils,.nils,.nils]],.cells 3 [[.int g.kind,.int g.val,lst 3 Tree.cs' g.kids]],.cells 2 [[lst 3 Tree.cs' B,ints U]],.cells 1 [[.ptr 2 none 0]],.cells 2 []]) from (by refine swR [1,2,3,4,6] [5] rfl rfl ?_;(repeat' first|exact y88 _|exact z46|apply y89|refine z14 rfl (z33) ?_|((apply z54 rfl rfl rfl);(focus ((repeat ((exact z42 (fun _=>rfl) _)));done));(focus (((simp;done));done)))|constructor))) ?_
   refine y87 (show Gl.Reach _ _ (mkSt _ [(2,.ptr 0 none 0),(6,.ptr 1 none 0),(8,.ptr 2 none 0),(11,.sref 3 0 0),(53,.int ((2 ^ B.length:Nat):Int)),(54,.int 0)] [.cells 3 [[.nils,.nils,.nils]],.cells 3 [[.int g.kind,.int g.val,lst 3 Tree.cs' g.kids]],.cells 1 [[.pt [lst 3 Tree.cs' B,ints U]]],.cells 2 []]) from (by refine swR [0,1,3,4] [2] rfl rfl ?_;(repeat' first|exact y88 _|apply y89|refine z14 rfl (z33) ?_|constructor))) ?_
   refine z86 (fun x:Nat×List (List Int)=>([(2,.ptr 0 none 0),(6,.ptr 1 none 0),(8,.pt [.pt [lst 3 Tree.cs' B,ints U]]),(11,.sref 2 0 x.2.length),(53,.int ((2 ^ B.length:Nat):Int)),(54,.int x.1)],[.cells 3 [[.nils,.nils,.nils]],.cells 3 [[.int g.kind,.int g.val,lst 3 Tree.cs' g.kids]],.cells 2 (x.2.map enP)])) (fun x=>x.1≤2 ^ B.length∧iniK B (fun s=>vlB B (s:Nat) g) x.1=x.2) (fun x=>2 ^ B.length - x.1) (0,[]) ⟨y55 _,rfl⟩ (by refine swR [0,1,3] [2] rfl rfl ?_;(repeat' first|exact y88 _|apply y89|refine z14 rfl (z33) ?_|constructor)) ?_
   rintro ⟨k,L⟩ ⟨hk,hL⟩
   dsimp only at hk hL ⊢
   have hLl:=iniK_len B (fun s=>vlB B (s:Nat) g) k
   rw [hL] at hLl
   by_cases hkl:k < 2 ^ B.length
   ·have hsu:=z1113 B (fun s=>vlB B (s:Nat) g) k
    rw [hL] at hsu
    have cv:=cV k (by omega) (by omega)
    generalize vlB B (k:Nat) g=z at *
    cases z
    ·rw [if_neg (by simp),y67] at hsu
     repeat' ((first|(apply y4 ok;rfl)|(apply y45;(unfold inI;omega))|((apply z5)<;>intro _)|(apply z6 (cv);rfl;rfl))<;>conv=>whnf)
     all_goals try (exfalso;omega)
     all_goals refine z41 (k+1,L) ⟨by show k+1≤_;omega,hsu⟩ (by show 2 ^ B.length - (k+1) < 2 ^ B.length - k;omega) (by refine swR [0,1,2] [] rfl rfl ?_;(repeat' first|exact y88 _|exact z16 _|apply y89|refine z14 rfl (z4 (fun _=>rfl)) ?_|constructor))
    ·rw [if_pos rfl] at hsu
     repeat' ((first|(apply y4 ok;rfl)|(apply y45;first|(unfold inI;omega)|((try dsimp only);simp only [y51,y50,y49,y48,y60,y61];omega)|exact ⟨rfl,z22 rfl z29⟩)|((apply z5)<;>intro _)|(apply z6 (cv);rfl;rfl))<;>conv=>whnf)
     all_goals try (exfalso;omega)
     all_goals refine z41 (k+1,L++[[(k:Int),0]]) ⟨by show k+1≤_;omega,hsu⟩ (by show 2 ^ B.length - (k+1) < 2 ^ B.length - k;omega) (by refine swR [0,1,4] [] rfl rfl ?_;(repeat' first|exact y88 _|(refine z67 ?_;((simp;done)))|apply y89|((refine z40 rfl ?_ ?_);(focus ((repeat' (first|exact z4 (fun _=>rfl)|apply z27));done)))|(refine z97 ?_ ?_;(focus (omega)))|constructor))
   ·obtain rfl:k=2 ^ B.length:=by omega
    have hL0:iniS B g=L:=hL
    rw [hL0] at cE2
    repeat' ((first|(apply y4 ok;rfl)|((apply z5)<;>intro _)|(apply z95 [] [2] [3,4,5] cE2;(focus (exact z51 (z209 rfl rfl rfl (by simp) (z42 (fun _=>rfl) _)) (z51 rfl (z51 rfl z88))));rfl;rfl;(focus ((repeat' first|exact z13|apply z11)<;>(refine z21 ?_;((exact z4 fun _=>rfl)))));((refine .inr ⟨rfl,?_⟩;repeat' first|exact True.intro|apply y45|exact z136 (fun _=>rfl) _))))<;>conv=>whnf)
    all_goals try (exfalso;omega)
    all_goals (refine rsD [3,4,5] [] rfl ?_;(repeat' first|exact y88 _|exact z16 _|refine z14 rfl (z4 (fun _=>rfl)) ?_|constructor))
 ·rw [if_neg h] at cb ⊢
  rw [(y74 _).mp h] at cb
  refine z7 z17 Tryz.func73 rfl rfl 75 Tryz.ntmps73 (by simp) ?_
  repeat' ((first|(apply y4 ok;rfl)|(apply z6 (cb);rfl;rfl))<;>conv=>whnf)
  all_goals (refine y91 1 ?_;refine y91 1 ?_;refine y91 4 ?_;refine rsD [2,3,4] [] rfl ?_;(repeat' first|exact y88 _|exact z46|refine z14 rfl (z33) ?_|apply z52|apply z104|constructor))
noncomputable def ngA (t:Tree):Aut:=if ngB t=true then trA (ngT t) else ⟨[],[],[]⟩
noncomputable def ngS (t:Tree):Bool:=ngB t && tsB (ngT t)
theorem ngB_fm {t:Tree} (h:ngB t=true):t.fmB=true:=by
 unfold ngB at h
 rw [y73] at h
 exact h.1
theorem z511 {t:Tree} (h:ngB t=true):(ngT t).sz≤12:=by
 have h1:=ngT_sz t
 have h2:=fm_sz (ngB_fm h)
 omega
theorem ngA_len (t:Tree):(ngA t).ini.length≤32∧(ngA t).acc.length≤66∧(ngA t).ed.length≤2080:=by
 unfold ngA
 split
 ·rename_i h
  exact trA_len _ (by have:=z511 h;omega)
 ·simp
theorem ngA_mx (t:Tree):(ngA t).mx:=by
 obtain ⟨h1,h2,h3⟩:=ngA_len t
 refine ⟨by unfold maxLen;omega,by unfold maxLen;omega,by unfold maxLen;omega,?_⟩
 unfold ngA
 split
 ·rename_i h
  exact trA_val _ (by have:=z511 h;omega)
 ·intro e he;cases he
theorem z523 (t:Tree) (hm:t.mx):CallsA Tryz.prog 31 [z30 Tree.cs' t] [] (.tup [.agg [.sref 0 0 (ngA t).ini.length,.sref 1 0 (ngA t).acc.length,.sref 2 0 (ngA t).ed.length],.bool (ngS t)]) [.cells 1 ((ngA t).ini.map enI),.cells 1 ((ngA t).acc.map enB),.cells 4 ((ngA t).ed.map Trans.cs)]:=by
 have cN:=z652 t hm
 unfold ngA ngS
 by_cases h:ngB t=true
 ·have hz:=z511 h
  have cT:=z651 (ngT t) (by omega)
  rw [if_pos h,h,Bool.true_and]
  rw [h] at cN
  generalize ngT t=u at *
  generalize trA u=a at *
  generalize tsB u=q at *
  rw [y15 t] at cN ⊢
  rw [y15 u] at cN cT
  refine z7 z17 Tryz.func31 rfl rfl 18 Tryz.ntmps31 (by simp) ?_
  repeat' ((first|(apply y4 ok;rfl)|(apply z6 (cN);rfl;rfl)|(apply z8 [] [3,4,5] cT;rfl;rfl;rfl;(focus ((repeat' first|exact z13|apply z11)<;>(refine z21 ?_;((exact z4 fun _=>rfl)))))))<;>conv=>whnf)
  all_goals (refine rsD [3,4,5] [] rfl ?_;(repeat' first|exact y88 _|exact z16 _|refine z14 rfl (z4 (fun _=>rfl)) ?_|constructor))
 ·rw [if_neg h,(y74 _).mp h,Bool.false_and]
  rw [(y74 _).mp h] at cN
  generalize ngT t=u at *
  rw [y15 t] at cN ⊢
  rw [y15 u] at cN
  refine z7 z17 Tryz.func31 rfl rfl 18 Tryz.ntmps31 (by simp) ?_
  repeat' ((first|(apply y4 ok;rfl)|(apply z6 (cN);rfl;rfl))<;>conv=>whnf)
  all_goals (refine y91 1 ?_;refine y91 1 ?_;refine y91 4 ?_;refine rsD [3,4,5] [] rfl ?_;(repeat' first|exact y88 _|exact z46|refine z14 rfl (z33) ?_|apply z52|apply z104|constructor))
theorem z557 (t:Tree) (hm:t.mx):CallsA Tryz.prog 31 [z30 Tree.cs' t] [] (.tup [.agg (ngA t).cs,.bool (ngS t)]) [] :=
 (z523 t hm).lend [] [0,1,2] rfl rfl rfl (bor_tup (z51 (z868 rfl rfl rfl rfl rfl rfl rfl rfl rfl) (z51 rfl z88))) z47
theorem z307 (N:Nat):List.replicate N [AC.int 0]=(fnL N fun _=>0).map enI:=by
 apply y77 (by simp [fnL])
 intro i h1 h2
 simp [fnL,enI]
theorem z749 {N:Nat} {f g:Nat→Int} (h:∀ i,i < N→f i=g i):fnL N f=fnL N g:=List.map_congr_left fun i hi=>h i (List.mem_range.1 hi)
theorem z656 {N i:Nat} (f:Nat→Int) (h:i < (fnL N f).length):(fnL N f)[i]=f i:=by simp [fnL]
set_option maxHeartbeats 12800000 in
theorem z566 (rows:List (List Int)) (hr:∀ r∈rows,InN rows.length r) (hN:rows.length≤100000) (hrl:∀ r∈rows,r.length≤1000000000):CallsA Tryz.prog 245 [lst 1 encL rows] [] (.sref 0 0 rows.length) [.cells 1 ((cmpL rows).map enI)]:=by
 refine z7 z17 Tryz.func245 rfl rfl 77 Tryz.ntmps245 (by simp) ?_
 repeat' ((first|(apply y4 ok;rfl)|(apply z32;kernel_rfl)|(apply y45;(dsimp only;omega)))<;>conv=>whnf)
 obtain ⟨qm,hqm⟩:∃ qm:Nat→Nat→Int,qm=fun i j=>if j < i then -1 else 0:=⟨_,rfl⟩
 have q0:qm 0=fun _=>0:=by rw [hqm];rfl
 have qE:fnL rows.length (qm rows.length)=fnL rows.length fun _=>-1:=z749 fun i hi=>by rw [hqm];dsimp only;rw [if_pos hi]
 have qS:∀ i,qm (i+1)=upd (qm i) i (-1):=fun i=>by
  funext j
  by_cases h:j=i
  ·subst h;rw [z26,hqm];dsimp only;rw [if_pos (by omega)]
  ·rw [z49 _ _ h,hqm];dsimp only;split<;>split<;>first|rfl|omega
 clear hqm
 refine z86 (fun i:Nat=>([(1,.ptr 0 none 0),(3,.int rows.length),(4,.ptr 4 none 0),(5,.ptr 5 none 0),(6,.ptr 6 none 0),(27,.int rows.length),(28,.int i)],[.cells 1 [[lst 1 encL rows]],.cells 1 ((fnL rows.length fun _=>0).map enI),.cells 1 ((fnL rows.length fun _=>0).map enI),.cells 1 ((fnL rows.length (qm i)).map enI),.cells 1 [[.sref 1 0 rows.length]],.cells 1 [[.sref 2 0 rows.length]],.cells 1 [[.sref 3 0 rows.length]]])) (fun i=>i≤rows.length) (fun i=>rows.length - i) 0 (y55 _) (by refine swR [0,1,2,3,4,5,6] [] rfl rfl ?_;(repeat' first|exact y88 _|apply y89|refine z14 rfl (z37 rfl) ?_|constructor)<;>(first|(refine z61 ?_;exact z307 _)|(refine z61 ?_;rw [q0];exact z307 _))) ?_
 intro i hi
 by_cases hi2:i < rows.length
 ·have g1:=z170 (qm i) hi2
  have l1:=z113 rows.length (qm i)
  have e1:=z148 (N:=rows.length) (u:=i) (qm i) (-1)
  rw [← qS] at e1
  repeat' ((first|(apply y4 ok;rfl)|(refine z12 (i:=i) rfl g1 ?_)|(apply y45;first|omega|(unfold inI;omega))|((apply z5)<;>intro _))<;>conv=>whnf)
  all_goals try (exfalso;omega)
  all_goals refine z41 (i+1) hi2 (by omega) (by refine swR [0,1,2,3,4,5,6] [] rfl rfl ?_;(repeat' first|exact y88 _|exact z16 _|apply y89|refine z73 rfl (z4 (fun _=>rfl)) ?_|refine z14 rfl (z4 (fun _=>rfl)) ?_|constructor)<;>((refine z61 ?_;exact e1)))
 obtain rfl:i=rows.length:=by omega
 rw [qE]
 clear qE qS q0
 repeat' ((first|(apply y4 ok;rfl)|(apply y45;omega)|(((apply z10;omega));intro _)|((apply z5)<;>intro _))<;>conv=>whnf)
 all_goals try (exfalso;omega)
 obtain ⟨S,hS⟩:∃ S:Nat→TS,S=fun k=>(List.range k).foldl (tTop rows) z349:=⟨_,rfl⟩
 have hTT:∀ k,k≤rows.length→TT rows (S k) k:=fun k hk=>by rw [hS];exact z616 hr k hk
 have hS0:S 0=z349:=by rw [hS];rfl
 have hSs:∀ k,S (k+1)=tTop rows (S k) k:=fun k=>by
  rw [hS];show (List.range (k+1)).foldl _ _=_
  rw [y64,y65];rfl
 have hSE:S rows.length=tAll rows:=by rw [hS];rfl
 clear hS
 refine z86 (fun k:Nat=>([(1,.ptr 6 none 0),(4,.ptr 1 none 0),(6,.ptr 8 none 0),(11,.ptr 7 none 0),(36,.int rows.length),(37,.int k)],z1078 rows (S k))) (fun k=>k≤rows.length) (fun k=>rows.length - k) 0 (y55 _) (by refine swR [8,4,1,5,2,7,0,10,6,3,9] [] rfl rfl ?_;(repeat' first|exact y88 _|apply y89|refine z14 rfl (z4 (fun _=>rfl)) ?_|constructor)<;>(first|(rw [hS0];exact y88 _)|(rw [hS0];exact z16 _)|(rw [hS0];exact z304))) ?_
 intro k hk
 have hT:=hTT k hk
 have hTn:∀ h:k < rows.length,TT rows (S (k+1)) (k+1):=fun h=>hTT (k+1) h
 by_cases hk2:k < rows.length
 ·have hs2:=hSs k
  generalize hS1:S k=s1 at *
  generalize hS2:S (k+1)=s2 at *
  have g1:=z170 s1.num hk2
  have l1:=z113 rows.length s1.num
  unfold tTop at hs2
  by_cases h0:s1.num k=0
  ·rw [if_pos h0] at hs2
   have cV:=z938 rows hr hN hrl rows.length s1 [] k (by have:=hT.inv.ct;omega) hT.inv h0 hk2 (by simp) hT.prt
   rw [← hs2] at cV
   repeat' ((first|(apply y4 ok;rfl)|(refine z12 (i:=k) rfl g1 ?_)|(apply y45;first|omega|(unfold inI;omega))|((apply z5)<;>intro _)|(apply z150 [0,1,2,3,4,5,6,7,8,9,10] [] cV;rfl;(focus ((repeat' first|exact z47|apply z59)<;>first|rfl|(refine z84 rfl ?_;((exact z4 fun _=>rfl)))));rfl;(focus ((repeat' first|exact z13|apply z11)<;>first|exact z44 rfl rfl|(refine z21 ?_;((exact z4 fun _=>rfl)))))))<;>conv=>whnf)
   all_goals try (exfalso;omega)
   all_goals refine z41 (k+1) hk2 (by omega) ?_
   all_goals dsimp only
   all_goals rw [hS2]
   all_goals exact (by refine swR [0,1,2,3,4,5,6,7,8,9,10] [] rfl rfl ?_;(repeat' first|exact y88 _|exact z16 _|apply y89|refine z14 rfl (z4 (fun _=>rfl)) ?_|constructor))
  ·rw [if_neg h0] at hs2
   repeat' ((first|(apply y4 ok;rfl)|(refine z12 (i:=k) rfl g1 ?_)|(apply y45;first|omega|(unfold inI;omega))|((apply z5)<;>intro _))<;>conv=>whnf)
   all_goals try (exfalso;omega)
   all_goals refine z41 (k+1) hk2 (by omega) ?_
   all_goals dsimp only
   all_goals rw [hS2,hs2]
   all_goals exact (by refine swR [0,1,2,3,4,5,6,7,8,9,10] [] rfl rfl ?_;(repeat' first|exact y88 _|exact z16 _|apply y89|refine z14 rfl (z4 (fun _=>rfl)) ?_|constructor))
 obtain rfl:k=rows.length:=by omega
 rw [hSE]
 clear hTT hS0 hSs hSE hTn hT
 have hcmp:cmpL rows=(List.range rows.length).map fun i=>nmI (fnL rows.length (tAll rows).part) i:=rfl
 obtain ⟨P,hP⟩:∃ P,P=fnL rows.length (tAll rows).part:=⟨_,rfl⟩
 rw [← hP] at hcmp
 have hPl:P.length=rows.length:=by rw [hP,z113]
 generalize tAll rows=s0 at *
 obtain ⟨pm,hpm⟩:∃ pm:Nat→Nat→Int,pm=fun i j=>if j < i then nmI P j else s0.part j:=⟨_,rfl⟩
 have q0:pm 0=s0.part:=by rw [hpm];funext j;simp
 have qE:fnL rows.length (pm rows.length)=cmpL rows:=by
  rw [hcmp]
  exact z749 fun i hi=>by rw [hpm];dsimp only;rw [if_pos hi]
 have qA:∀ i (h:i < rows.length),pm i i=P[i]'(by omega):=fun i h=>by
  rw [hpm];dsimp only;rw [if_neg (by omega)]
  simp only [hP,z656]
 have qS:∀ i,pm (i+1)=upd (pm i) i (nmI P i):=fun i=>by
  funext j
  by_cases h:j=i
  ·subst h;rw [z26,hpm];dsimp only;rw [if_pos (by omega)]
  ·rw [z49 _ _ h,hpm];dsimp only;split<;>split<;>first|rfl|omega
 clear hpm hcmp
 repeat' ((first|(apply y4 ok;rfl)|(apply y45;omega)|(((apply z10;omega));intro _)|((apply z5)<;>intro _))<;>conv=>whnf)
 all_goals try (exfalso;omega)
 refine z86 (fun i:Nat=>([(6,.ptr 1 none 0),(13,.mref 0),(50,.sref 2 0 rows.length),(51,.int rows.length),(52,.int i)],[.mp 0 (z234 0 (metL P i)),.cells 1 [[.sref 2 0 rows.length]],.cells 1 ((fnL rows.length (pm i)).map enI)])) (fun i=>i≤rows.length) (fun i=>rows.length - i) 0 (y55 _) (by refine swR [11,8,9] [] rfl rfl ?_;(repeat' first|exact y88 _|apply y89|refine z14 rfl (z4 (fun _=>rfl)) ?_|constructor)<;>(first|(rw [q0];exact z16 _)|rfl)) ?_
 intro i hi
 by_cases hi2:i < rows.length
 ·have g1:=z170 (pm i) hi2
  have l1:=z113 rows.length (pm i)
  have e1:=z148 (N:=rows.length) (u:=i) (pm i) (nmI P i)
  rw [← qS] at e1
  rw [qA i hi2] at g1
  have hiP:i < P.length:=by omega
  have m1:=z513 P[i] 0 (metL P i)
  have m2:=z513 P[i] 0 (metL P (i+1))
  rw [if_pos (z636 hiP),Nat.zero_add,← nmI_at hiP] at m2
  have m3:=z365 hiP
  have m4:=z526 0 (metL P i)
  by_cases hp:P[i]∈metL P i
  ·rw [if_pos hp] at m1
   have m5:metL P (i+1)=metL P i:=by rw [m3];unfold z185;rw [if_pos hp]
   rw [m5] at m2
   generalize hes:z234 0 (metL P i)=es at *
   generalize hes2:z234 0 (metL P (i+1))=es2 at *
   have m6:es2=es:=by rw [← hes2,m5,hes]
   generalize nmI P i=nm at *
   generalize P[i]=p at *
   repeat' ((first|(apply y4 ok;rfl)|(refine z12 (i:=i) rfl g1 ?_)|(rw [m2])|(apply y45;first|omega|(unfold inI;omega))|((apply z5)<;>intro _))<;>conv=>whnf)
   all_goals try (exfalso;omega)
   all_goals refine z41 (i+1) hi2 (by omega) ?_
   all_goals dsimp only
   all_goals rw [hes2,m6]
   all_goals exact (by refine swR [0,1,2] [] rfl rfl ?_;(repeat' first|exact y88 _|apply y89|refine z73 rfl (z4 (fun _=>rfl)) ?_|constructor)<;>(first|(refine z61 ?_;exact e1)|rfl))
  ·rw [if_neg hp] at m1
   have m5:metL P (i+1)=metL P i++[P[i]]:=by rw [m3];unfold z185;rw [if_neg hp]
   have m6:mput (z234 0 (metL P i)) [P[i]] (z234 0 (metL P i)).length=z234 0 (metL P (i+1)):=by
    rw [z726 _ _ _ hp,m5,z758,z526,Nat.zero_add]
   generalize hes:z234 0 (metL P i)=es at *
   generalize hes2:z234 0 (metL P (i+1))=es2 at *
   generalize nmI P i=nm at *
   generalize P[i]=p at *
   repeat' ((first|(apply y4 ok;rfl)|(refine z12 (i:=i) rfl g1 ?_)|(rw [m6])|(rw [m2])|(rw [m1])|(apply y45;first|omega|(unfold inI;omega))|((apply z5)<;>intro _))<;>conv=>whnf)
   all_goals try (exfalso;omega)
   all_goals refine z41 (i+1) hi2 (by omega) ?_
   all_goals dsimp only
   all_goals rw [hes2]
   all_goals exact (by refine swR [0,1,2] [] rfl rfl ?_;(repeat' first|exact y88 _|apply y89|refine z73 rfl (z4 (fun _=>rfl)) ?_|constructor)<;>(first|(refine z61 ?_;exact e1)|rfl))
 obtain rfl:i=rows.length:=by omega
 rw [qE]
 repeat' ((first|(apply y4 ok;rfl)|(apply y45;omega)|(((apply z10;omega));intro _)|((first|apply z5|apply z81)<;>intro _))<;>conv=>whnf)
 all_goals try (exfalso;omega)
 all_goals (refine rsD [2] [] rfl ?_;(repeat' first|exact y88 _|exact z16 _|refine z14 rfl (z4 (fun _=>rfl)) ?_|constructor))
def fnB (N:Nat) (f:Nat→Bool):List Bool:=(List.range N).map f
theorem z1126 (N:Nat) (f:Nat→Bool):(fnB N f).length=N:=by simp [fnB]
theorem z1127 {N u:Nat} (f:Nat→Bool) (h:u < N):((fnB N f).map enB)[u]?=some (enB (f u)):=by
 unfold fnB
 rw [y53,y53,List.getElem?_range h];rfl
theorem z920 {N u:Nat} (f:Nat→Bool) (x:Bool):((fnB N f).map enB).set u (enB x)=(fnB N (upd f u x)).map enB:=by
 rw [← List.map_set]
 congr 1
 apply y77 (by simp [fnB])
 intro i h1 h2
 rw [List.getElem_set]
 simp only [fnB,List.getElem_map,List.getElem_range]
 split
 ·rename_i e;subst e;rw [z26]
 ·rename_i e;rw [z49 _ _ (fun h=>e h.symm)]
theorem z919 (N:Nat):List.replicate N [AC.bool false]=(fnB N fun _=>false).map enB:=by
 apply y77 (by simp [fnB])
 intro i h1 h2
 simp [fnB,enB]
set_option maxHeartbeats 12800000 in
theorem z990 (rows:List (List Int)) (hr:∀ r∈rows,InN rows.length r) (hN:rows.length≤100000) (hrl:∀ r∈rows,r.length≤1000000000):CallsA Tryz.prog 175 [lst 1 encL rows] [] (.sref 0 0 rows.length) [.cells 1 ((cycB rows).map enB)]:=by
 have cC:=z566 rows hr hN hrl
 have hPl:=z382 rows
 have hPi:=z1143 (rows:=rows)
 have hcy:=fun x hx=>cyc_cnt hr (x:=x) hx
 have hcl:=fun x (hx:x < rows.length)=>z861 hx
 have ccB:cycB rows=fnB rows.length (cycD rows):=rfl
 rw [ccB]
 generalize cmpL rows=P at *
 refine z7 z17 Tryz.func175 rfl rfl 56 Tryz.ntmps175 (by simp) ?_
 repeat' ((first|(apply y4 ok;rfl)|(apply y45;(dsimp only;omega))|(apply z8 [] [0] cC;rfl;rfl;rfl;(focus ((repeat' first|exact z13|apply z11)<;>(refine z21 ?_;((exact z4 fun _=>rfl)))))))<;>conv=>whnf)
 obtain ⟨cm,hcm⟩:∃ cm:Nat→Nat→Int,cm=fun i v=>((cntL P i v:Nat):Int):=⟨_,rfl⟩
 have c0:cm 0=fun _=>0:=by rw [hcm];funext v;simp [cntL]
 have cS:∀ i (h:i < P.length),cm (i+1)=upd (cm i) (P[i]).toNat (cm i (P[i]).toNat+1):=fun i h=>by
  have hp:=hPi _ (y46 h)
  funext v
  rw [hcm]
  dsimp only
  rw [z768 h]
  by_cases e:v=(P[i]).toNat
  ·rw [e,z26,if_pos (by omega)];omega
  ·rw [z49 _ _ e,if_neg (by omega)];omega
 have cE:∀ v,cm rows.length v=((cntL P rows.length v:Nat):Int):=fun v=>by rw [hcm]
 have cB:∀ i v,0≤cm i v∧cm i v≤i:=fun i v=>by rw [hcm];have:=cntL_le P i v;dsimp only;omega
 clear hcm
 refine z86 (fun i:Nat=>([(0,lst 1 encL rows),(3,.sref 0 0 rows.length),(4,.sref 1 0 rows.length),(14,.sref 0 0 rows.length),(15,.int rows.length),(16,.int i)],[.cells 1 (P.map enI),.cells 1 ((fnL rows.length (cm i)).map enI)])) (fun i=>i≤rows.length) (fun i=>rows.length - i) 0 (y55 _) (by refine swR [0,1] [] rfl rfl ?_;(repeat' first|exact y88 _|exact z16 _|((refine z14 rfl ?_ ?_);(focus ((repeat' (first|exact z37 rfl|exact z4 (fun _=>rfl)));done)))|constructor)<;>((refine z61 ?_;rw [c0];exact z307 _))) ?_
 intro i hi
 by_cases hi2:i < rows.length
 ·have hiP:i < P.length:=by omega
  have hp:=hPi _ (y46 hiP)
  have gp:(P.map enI)[i]?=some (enI P[i]):=by rw [y53,y47 hiP];rfl
  have cS2:=cS i hiP
  generalize P[i]=p at *
  obtain ⟨v,rfl⟩:∃ v:Nat,p=v:=⟨p.toNat,by omega⟩
  rw [y79] at cS2
  have hv:v < rows.length:=by omega
  have gv:=z170 (cm i) hv
  have l1:=z113 rows.length (cm i)
  have e1:=z148 (N:=rows.length) (u:=v) (cm i) (cm i v+1)
  rw [← cS2] at e1
  have b1:=cB i v
  repeat' ((first|(apply y4 ok;rfl)|(refine z12 (i:=i) rfl gp ?_)|(refine z12 (i:=v) rfl gv ?_)|(apply y45;first|omega|(unfold inI;omega))|((apply z5)<;>intro _))<;>conv=>whnf)
  all_goals try (exfalso;omega)
  all_goals refine z41 (i+1) hi2 (by omega) (by refine swR [0,1] [] rfl rfl ?_;(repeat' first|exact y88 _|exact z16 _|refine z73 rfl (z4 (fun _=>rfl)) ?_|refine z14 rfl (z4 (fun _=>rfl)) ?_|constructor)<;>((refine z61 ?_;exact e1)))
 obtain rfl:i=rows.length:=by omega
 repeat' ((first|(apply y4 ok;rfl)|(apply y45;first|omega|(dsimp only;omega))|(((apply z10;omega));intro _)|((apply z5)<;>intro _))<;>conv=>whnf)
 all_goals try (exfalso;omega)
 obtain ⟨bm,hbm⟩:∃ bm:Nat→Nat→Bool,bm=fun i j=>if j < i then cycD rows j else false:=⟨_,rfl⟩
 have b0:bm 0=fun _=>false:=by rw [hbm];rfl
 have bE:fnB rows.length (bm rows.length)=fnB rows.length (cycD rows):=List.map_congr_left fun i hi=>by
  have:=List.mem_range.1 hi
  rw [hbm];dsimp only;rw [if_pos this]
 have bS:∀ i,bm (i+1)=upd (bm i) i (cycD rows i):=fun i=>by
  funext j
  by_cases h:j=i
  ·subst h;rw [z26,hbm];dsimp only;rw [if_pos (by omega)]
  ·rw [z49 _ _ h,hbm];dsimp only;split<;>split<;>first|rfl|omega
 clear hbm
 refine z86 (fun i:Nat=>([(0,lst 1 encL rows),(3,.sref 0 0 rows.length),(4,.sref 1 0 rows.length),(7,.sref 2 0 rows.length),(31,.int rows.length),(32,.int i)],[.cells 1 (P.map enI),.cells 1 ((fnL rows.length (cm rows.length)).map enI),.cells 1 ((fnB rows.length (bm i)).map enB)])) (fun i=>i≤rows.length) (fun i=>rows.length - i) 0 (y55 _) (by refine swR [0,1,2] [] rfl rfl ?_;(repeat' first|exact y88 _|exact z16 _|((refine z14 rfl ?_ ?_);(focus ((repeat' (first|exact z37 rfl|exact z4 (fun _=>rfl)));done)))|constructor)<;>((refine z61 ?_;rw [b0];exact z919 _))) ?_
 intro i hi
 by_cases hi2:i < rows.length
 ·have hiP:i < P.length:=by omega
  have hp:=hPi _ (y46 hiP)
  have gp:(P.map enI)[i]?=some (enI P[i]):=by rw [y53,y47 hiP];rfl
  have hc:=hcy i hi2
  have e1:=z920 (N:=rows.length) (u:=i) (bm i) (cycD rows i)
  rw [← bS] at e1
  rw [z20 hiP] at hc
  generalize P[i]=p at *
  obtain ⟨v,rfl⟩:∃ v:Nat,p=v:=⟨p.toNat,by omega⟩
  rw [y79] at hc
  have hv:v < rows.length:=by omega
  have gv:=z170 (cm rows.length) hv
  have l1:=z113 rows.length (cm rows.length)
  have l2:=z1126 rows.length (bm i)
  have g2:=z1127 (bm i) hi2
  have gr:=z502 hi2
  have hrow:(rows.getD i []).length≤1000000000:=by rw [z20 hi2];exact hrl _ (y46 _)
  have cct:=z161 (rows.getD i []) (by unfold maxLen;omega) i
  rw [cE] at gv
  generalize cycD rows i=cy at *
  generalize rows.getD i []=row at *
  generalize cntL P rows.length v=cn at *
  by_cases h1:1 < cn
  ·rw [y84 h1,Bool.true_or] at hc
   subst hc
   repeat' ((first|(apply y4 ok;rfl)|(refine z12 (i:=i) rfl gp ?_)|(refine z12 (i:=v) rfl gv ?_)|(refine z12 (i:=i) rfl g2 ?_)|(refine z12 (i:=i) rfl gr ?_)|(apply y45;first|omega|(unfold inI;omega))|((apply z5)<;>intro _)|(apply z6 (cct);rfl;rfl))<;>conv=>whnf)
   all_goals try (exfalso;omega)
   all_goals refine z41 (i+1) hi2 (by omega) (by refine swR [0,1,2] [] rfl rfl ?_;(repeat' first|exact y88 _|exact z16 _|refine z73 rfl (z4 (fun _=>rfl)) ?_|refine z14 rfl (z4 (fun _=>rfl)) ?_|constructor)<;>((refine z61 ?_;exact e1)))
  ·rw [y85 h1,Bool.false_or] at hc
   rw [← hc] at cct
   repeat' ((first|(apply y4 ok;rfl)|(refine z12 (i:=i) rfl gp ?_)|(refine z12 (i:=v) rfl gv ?_)|(refine z12 (i:=i) rfl g2 ?_)|(refine z12 (i:=i) rfl gr ?_)|(apply y45;first|omega|(unfold inI;omega))|((apply z5)<;>intro _)|(apply z6 (cct);rfl;rfl))<;>conv=>whnf)
   all_goals try (exfalso;omega)
   all_goals refine z41 (i+1) hi2 (by omega) (by refine swR [0,1,2] [] rfl rfl ?_;(repeat' first|exact y88 _|exact z16 _|refine z73 rfl (z4 (fun _=>rfl)) ?_|refine z14 rfl (z4 (fun _=>rfl)) ?_|constructor)<;>((refine z61 ?_;exact e1)))
 obtain rfl:i=rows.length:=by omega
 rw [bE]
 repeat' ((first|(apply y4 ok;rfl)|(apply y45;omega)|((first|(with_reducible apply z10;omega)|(apply z10;omega));intro _)|((apply z5)<;>intro _))<;>conv=>whnf)
 all_goals try (exfalso;omega)
 all_goals (refine rsD [2] [] rfl ?_;(repeat' first|exact y88 _|exact z16 _|refine z14 rfl (z4 (fun _=>rfl)) ?_|constructor))
def inM (Q:List Int) (i:Nat):Bool:=decide ((i:Int)∈Q)
theorem inM_upd (Q:List Int) (w:Nat):inM (Q++[(w:Int)])=upd (inM Q) w true:=by
 funext j
 by_cases h:j=w
 ·subst h;rw [z26];unfold inM;simp
 ·rw [z49 _ _ h];unfold inM;congr 1
  have:¬ (j:Int)=w:=by omega
  simp [this]
theorem inM_nil:inM []=fun _=>false:=by funext j;simp [inM]
@[reducible] def findF:AC:=.fn (.func 154) [] [.ptr 0 none 0,.ptr 2 none 0]
@[reducible] def z1079 (N:Nat) (Q:List Int):List AObj:=[.cells 1 [[.sref 1 0 N]],.cells 1 ((fnB N (inM Q)).map enB),.cells 1 [[.own 1 (Q.map enI)]]]
set_option maxHeartbeats 3200000 in
theorem z751 (N : Nat) (hN : N ≤ 100000) (Q : List Int) (hQ : Q.length ≤ 100000) (v : Int) (hv : 0 ≤ v ∧ v < N) :
    CallsA Tryz.prog 154 [.int v,.ptr 0 none 0,.ptr 2 none 0] (z1079 N Q) (.tup []) (z1079 N (z185 Q v)):=by
  obtain ⟨w,rfl⟩:∃ w:Nat,v=w:=⟨v.toNat,by omega⟩
  have hw:w < N:=by omega
  have g1:=z1127 (inM Q) hw
  have l1:=z1126 N (inM Q)
  unfold z185
  by_cases h:(w:Int)∈Q
  · rw [if_pos h]
    have e:inM Q w=true:=by unfold inM;simp [h]
    rw [e] at g1
    refine z7 z17 Tryz.func154 rfl rfl 16 Tryz.ntmps154 (by simp) ?_
    repeat' ((first|(apply y4 ok;rfl)|(refine z12 (i:=w) rfl g1 ?_)|(apply y45;omega))<;>conv=>whnf)
    all_goals (refine rsD [0,1,2] [] rfl ?_;(repeat' first|exact y88 _|exact z16 _|apply y89|refine z14 rfl (z4 (fun _=>rfl)) ?_|constructor))
  · rw [if_neg h]
    have e:inM Q w=false:=by unfold inM;simp [h]
    rw [e] at g1
    have e1:=z920 (N:=N) (u:=w) (inM Q) true
    rw [← inM_upd] at e1
    have e2:(List.map enI Q).take (List.map enI Q).length++[enI (w:Int)]=(Q++[(w:Int)]).map enI:=by
      rw [y58];simp
    refine z7 z17 Tryz.func154 rfl rfl 16 Tryz.ntmps154 (by simp) ?_
    repeat' ((first|((fail_if_success apply z130 2);(fail_if_success apply z96 2);apply y4 ok;rfl)|(refine z12 (i:=w) rfl g1 ?_)|(apply y45;omega))<;>conv=>whnf)
    all_goals
      refine y87 (Gl.Reach.expose 2 0 0 rfl rfl rfl (z158 (fun _=>rfl) _) rfl) ?_
      conv=>whnf
      repeat' ((first|(apply y4 ok;rfl)|(apply y45;first|((try dsimp only);simp only [y51,y50,y49,y48,y60,y61];omega)|exact ⟨rfl,z22 rfl z29⟩))<;>conv=>whnf)
      refine Gl.RetS.absorb 2 5 0 0 rfl rfl rfl rfl (by simp) rfl (z53 (fun e he=>(z4 (fun _=>rfl)) e (List.mem_of_mem_take he)) (z194 rfl z33)) ?_
      conv=>whnf
      (refine rsD [0,1,2] [] rfl ?_;(repeat' first|exact y88 _|apply y89|refine z73 rfl (z4 (fun _=>rfl)) ?_|constructor))
      all_goals first|(refine z61 ?_;exact e1)|exact y9 (congrArg (AC.own 1) e2)
set_option maxHeartbeats 6400000 in
theorem z1073 (rows : List (List Int)) (ini : List Int) (hr : ∀ r ∈ rows, InN rows.length r) (hi : InN rows.length ini) (hN : rows.length ≤ 100000) (hrl : ∀ r ∈ rows, r.length ≤ 1000000000) (hil : ini.length ≤ 1000000000) :
    CallsA Tryz.prog 77 [lst 1 encL rows,ints ini] [] (.sref 0 0 (bfsL rows ini).length) [.cells 1 ((bfsL rows ini).map enI)]:=by
  have hvl:∀ l:List Int,InN rows.length l→(z90 [] l).length≤100000:=fun l hl=>by
    have:=z188 rows.length (z90 [] l) (z197 (by simp)) (z342 (fun x hx=>by cases hx) hl)
    omega
  refine z7 z17 Tryz.func77 rfl rfl 50 Tryz.ntmps77 (by simp) ?_
  repeat' ((first|(apply y4 ok;rfl)|(apply y45;(dsimp only;omega)))<;>conv=>whnf)
  refine z86 (fun i:Nat=>([(0,lst 1 encL rows),(6,.ptr 2 none 0),(7,findF),(17,ints ini),(18,.int ini.length),(19,.int i)],z1079 rows.length (z90 [] (ini.take i)))) (fun i=>i≤ini.length) (fun i=>ini.length - i) 0 (y55 _) (by refine swR [1,0,2] [] rfl rfl ?_;(repeat' first|exact y88 _|apply y89|refine z14 rfl (z37 rfl) ?_|constructor)<;>(first|exact z304|(refine z61 ?_;show _=(fnB rows.length (inM [])).map enB;rw [inM_nil];exact z919 _))) ?_
  intro i hil1
  by_cases hil2:i < ini.length
  · have gk:(ini.map enI)[i]?=some (enI ini[i]):=by rw [y53,y47 hil2];rfl
    have hv:=hi _ (y46 hil2)
    have hQl:=hvl (ini.take i) fun x hx=>hi x (List.mem_of_mem_take hx)
    have e1:=z475 (out:=[]) hil2
    generalize ini[i]=v at *
    have cf:=z751 rows.length hN (z90 [] (ini.take i)) hQl v hv
    rw [← e1] at cf
    repeat' ((first|(apply y4 ok;rfl)|(refine z12 (i:=i) rfl gk ?_)|(apply y45;first|omega|(unfold inI;omega))|((apply z5)<;>intro _)|(apply z150 [0,1,2] [] cf;rfl;(focus ((repeat' first|exact z47|apply z59)<;>first|rfl|(refine z84 rfl ?_;((exact z4 fun _=>rfl)))));rfl;(focus ((repeat' first|exact z13|apply z11)<;>first|exact z44 rfl rfl|(refine z21 ?_;((exact z4 fun _=>rfl)))))))<;>conv=>whnf)
    all_goals try (exfalso;omega)
    all_goals refine z41 (i+1) hil2 (by omega) (by refine swR [0,1,2] [] rfl rfl ?_;(repeat' first|exact y88 _|exact z16 _|apply y89|refine z14 rfl (z4 (fun _=>rfl)) ?_|constructor))
  obtain rfl:i=ini.length:=by omega
  rw [y58]
  repeat' ((first|(apply y4 ok;rfl)|(apply y45;omega)|(((with_reducible apply z10;omega));intro _)|((apply z5)<;>intro _))<;>conv=>whnf)
  all_goals try (exfalso;omega)
  refine z86 (fun i:Nat=>([(0,lst 1 encL rows),(6,.ptr 2 none 0),(7,findF),(10,.int i)],z1079 rows.length (bfs rows ini i))) (fun i=>i≤rows.length) (fun i=>rows.length - i) 0 (y55 _) (by refine swR [0,1,2] [] rfl rfl ?_;(repeat' first|exact y88 _|exact z16 _|apply y89|refine z14 rfl (z4 (fun _=>rfl)) ?_|constructor)) ?_
  intro i hi1
  have hQl:=z872 hr hi i
  have hQi:=z774 hr hi i
  refine y87 (Gl.Reach.expose 2 0 0 rfl rfl rfl (z158 (fun _=>rfl) _) rfl) ?_
  by_cases hi2:i < (bfs rows ini i).length
  · have hx:=hQi _ (y46 hi2)
    have gx:((bfs rows ini i).map enI)[i]?=some (enI (bfs rows ini i)[i]):=by rw [y53,y47 hi2];rfl
    have hnx:bfs rows ini (i+1)=z90 (bfs rows ini i) (rows.getD ((bfs rows ini i)[i]).toNat []):=by rw [bfs,dif_pos hi2]
    have hnd:=z773 (rows:=rows) (ini:=ini) i
    generalize hQ' : bfs rows ini (i+1)=Q' at *
    generalize (bfs rows ini i)[i]=x at *
    generalize hQ:bfs rows ini i=Q at *
    obtain ⟨u,rfl⟩:∃ u:Nat,x=u:=⟨x.toNat,by omega⟩
    rw [y79] at hnx
    have hu:u < rows.length:=by omega
    have gr:=z502 hu
    have hrow:=z226 hr (u:Int)
    rw [y79] at hrow
    have hrowl:(rows.getD u []).length≤1000000000:=by rw [z20 hu];exact hrl _ (y46 _)
    generalize rows.getD u []=row at *
    repeat' ((first|(apply y4 ok;rfl)|(refine z12 (i:=i) rfl gx ?_)|(refine z12 (i:=u) rfl gr ?_)|(apply y45;omega)|((apply z5)<;>intro _))<;>conv=>whnf)
    all_goals first|(exfalso;simp at *;omega)|skip
    all_goals
      refine y87 (Gl.Reach.absorb 2 3 0 0 rfl rfl rfl rfl (by simp) rfl (z4 fun _=>rfl) rfl) ?_
      refine z86 (fun j:Nat=>([(0,lst 1 encL rows),(6,.ptr 2 none 0),(7,findF),(10,.int i),(39,ints row),(40,.int row.length),(41,.int j)],z1079 rows.length (z90 Q (row.take j)))) (fun j=>j≤row.length) (fun j=>row.length - j) 0 (y55 _) (by refine swR [0,1,2] [] rfl rfl ?_;(repeat' first|exact y88 _|exact z16 _|apply y89|refine z14 rfl (z4 (fun _=>rfl)) ?_|constructor)) ?_
      intro j hj
      by_cases hj2:j < row.length
      · have gj:(row.map enI)[j]?=some (enI row[j]):=by rw [y53,y47 hj2];rfl
        have hv:=hrow _ (y46 hj2)
        have hWl:(z90 Q (row.take j)).length≤100000:=by
          have:=z188 rows.length (z90 Q (row.take j)) (z197 hnd) (z342 hQi fun x hx=>hrow x (List.mem_of_mem_take hx))
          omega
        have e1:=z475 (out:=Q) hj2
        generalize row[j]=v at *
        have cf:=z751 rows.length hN (z90 Q (row.take j)) hWl v hv
        rw [← e1] at cf
        repeat' ((first|(apply y4 ok;rfl)|(refine z12 (i:=j) rfl gj ?_)|(apply y45;first|omega|(unfold inI;omega))|((apply z5)<;>intro _)|(apply z150 [0,1,2] [] cf;rfl;(focus ((repeat' first|exact z47|apply z59)<;>first|rfl|(refine z84 rfl ?_;((exact z4 fun _=>rfl)))));rfl;(focus ((repeat' first|exact z13|apply z11)<;>first|exact z44 rfl rfl|(refine z21 ?_;((exact z4 fun _=>rfl)))))))<;>conv=>whnf)
        all_goals try (exfalso;omega)
        all_goals refine z41 (j+1) hj2 (by omega) (by refine swR [0,1,2] [] rfl rfl ?_;(repeat' first|exact y88 _|exact z16 _|apply y89|refine z14 rfl (z4 (fun _=>rfl)) ?_|constructor))
      obtain rfl:j=row.length:=by omega
      rw [y58,← hnx]
      repeat' ((first|(apply y4 ok;rfl)|(apply y45;first|omega|(unfold inI;omega))|(((with_reducible apply z10;omega));intro _)|((apply z5)<;>intro _))<;>conv=>whnf)
      all_goals try (exfalso;omega)
      all_goals refine z41 (i+1) (by omega) (by omega) ?_
      all_goals dsimp only
      all_goals rw [hQ']
      all_goals exact (by refine swR [0,1,2] [] rfl rfl ?_;(repeat' first|exact y88 _|exact z16 _|apply y89|refine z14 rfl (z4 (fun _=>rfl)) ?_|constructor))
  · have hE:=bfsL_end hr hi (i:=i) (by omega) hi1
    rw [← hE]
    repeat' ((first|(apply y4 ok;rfl)|(apply y45;omega)|((apply z5)<;>intro _))<;>conv=>whnf)
    all_goals first|(exfalso;simp at *;omega)|skip
    all_goals (refine rsD [3] [] rfl ?_;(repeat' first|exact z16 _|(refine z67 ?_;((simp;done)))|refine z14 rfl (z4 (fun _=>rfl)) ?_|constructor))
theorem swp_map (l:List Int) (i j:Nat):((l.map enI).set i (enI (l.getD j 0))).set j (enI (l.getD i 0))=(swp l i j).map enI:=by
 unfold swp;rw [List.map_set,List.map_set]
set_option maxHeartbeats 1600000 in
theorem z575 (l:List Int) (h1:1≤l.length) (h2:l.length≤1048576):CallsA Tryz.prog 246 [.sref 0 0 l.length] [.cells 1 (l.map enI)] (.tup []) [.cells 1 ((rvs l).map enI)]:=by
 have hR:revG l.length 0 (l.length - 1) l=rvs l:=rfl
 generalize rvs l=R at *
 generalize hn:l.length=n at *
 refine z7 z17 Tryz.func246 rfl rfl 28 Tryz.ntmps246 (by simp) ?_
 repeat' ((first|(apply y4 ok;rfl)|(apply y45;(unfold inI;omega)))<;>conv=>whnf)
 refine z86 (fun x:Nat×Nat×List Int=>([(0,.sref 0 0 n),(2,.int x.1),(3,.int x.2.1)],[.cells 1 (x.2.2.map enI)])) (fun x=>x.1≤n∧x.2.1 < n∧x.2.2.length=n∧revG (n - x.1) x.1 x.2.1 x.2.2=R) (fun x=>n - x.1) (0,n - 1,l) ⟨by simp,by show n - 1 < n;omega,hn,hR⟩ (by refine swR [0] [] rfl rfl ?_;(repeat' first|exact y88 _|exact z16 _|refine z14 rfl (z4 (fun _=>rfl)) ?_|constructor)<;>((rw [show ((n - 1:Nat):Int)=(n:Int) - 1 by omega];exact y88 _))) ?_
 rintro ⟨i,j,l'⟩ ⟨i1,i2,i3,i4⟩
 dsimp only at i1 i2 i3 i4 ⊢
 by_cases hij:i < j
 ·rw [show n - i=(n - (i+1))+1 by omega,revG,if_pos hij] at i4
  have gi:(l'.map enI)[i]?=some (enI (l'.getD i 0)):=by rw [y53,y47 (by omega),z20 (by omega)];rfl
  have gj:(l'.map enI)[j]?=some (enI (l'.getD j 0)):=by rw [y53,y47 (by omega),z20 (by omega)];rfl
  have gj2:((l'.map enI).set i (enI (l'.getD j 0)))[j]?=some (enI (l'.getD j 0)):=by rw [List.getElem?_set_ne (by omega)];exact gj
  have es:=swp_map l' i j
  repeat' ((first|(apply y4 ok;rfl)|(apply z32;kernel_rfl)|(refine z12 (i:=i) rfl gi ?_)|(refine z12 (i:=j) rfl gj ?_)|(refine z12 (i:=j) rfl gj2 ?_)|(apply y45;first|omega|(unfold inI;omega))|((apply z5)<;>intro _))<;>conv=>whnf)
  all_goals try (exfalso;omega)
  all_goals refine z41 (i+1,j - 1,swp l' i j) ⟨by show i+1≤n;omega,by show j - 1 < n;omega,by show (swp l' i j).length=n;simp [swp,i3],i4⟩ (by show n - (i+1) < n - i;omega) (by refine swR [0] [] rfl rfl ?_;(repeat' first|exact y88 _|((refine z73 rfl ?_ ?_);(focus ((repeat' (first|exact z4 (fun _=>rfl)|(refine z750 ?_ _ rfl)));done)))|constructor)<;>(first|(rw [show ((j - 1:Nat):Int)=(j:Int) - 1 by omega];exact y88 _)|exact z61 es))
 ·have:revG (n - i) i j l'=l':=by cases n - i<;>simp [revG,hij]
  rw [this] at i4
  subst i4
  repeat' ((first|(apply y4 ok;rfl)|(apply y45;omega)|(((apply z10;omega));intro _)|((apply z5)<;>intro _))<;>conv=>whnf)
  all_goals try (exfalso;omega)
  all_goals (refine rsD [0] [] rfl ?_;(repeat' first|exact y88 _|exact z16 _|refine z14 rfl (z4 (fun _=>rfl)) ?_|constructor))
end Go.Proofs.YtjhgpfaodkchjaaGreat
