/- A part of the proofs over this program: T148, T149, T228, T229, T150, T151, T152, T230, T231, T35, T39, T232, T38, T40, T41, T42, T153, T233, T234, T235, T236, T181, T182, T183, T113. -/
import Derived.Test.YtahhobgjcfionaaGreatG0
import Derived.Test.YtahhobgjcfionaaGreatG1
import Derived.Test.YtahhobgjcfionaaGreatG2
import Derived.Test.YtahhobgjcfionaaGreatG3
import Derived.Test.YtahhobgjcfionaaGreatP0
import Derived.Test.YtahhobgjcfionaaGreatP1
import Derived.Test.YtahhobgjcfionaaGreatP2
import Derived.Test.YtahhobgjcfionaaGreatP3
set_option linter.all false
namespace Go.Proofs.YtahhobgjcfionaaGreat
open Go.Gl
attribute [local irreducible] z19 AWP z36 z44 z39 RetS z47
theorem csU (k v:Int) (a:Tree):Tree.cs' (.mk k v [a])=[.int k,.int v,.list 3 1 [Tree.cs' a]]:=AC.agg.inj (argU k v a)
theorem csB2 (k v:Int) (a b:Tree):Tree.cs' (.mk k v [a,b])=[.int k,.int v,.list 3 2 [Tree.cs' a,Tree.cs' b]]:=AC.agg.inj (argB k v a b)
inductive FormB (B:List Tree):Tree→Prop
 |at (v:Int):FormB B (.mk 2 v [])
 |nx (a:Tree) (ha:In (·∈B) a) (sa:a.sz≤1000):FormB B (.mk 6 0 [a])
 |un (a b:Tree) (ha:In (·∈B) a) (hb:In (·∈B) b) (sa:a.sz≤1000) (sb:b.sz≤1000):FormB B (.mk 7 0 [a,b])
 |re (a b:Tree) (ha:In (·∈B) a) (hb:In (·∈B) b) (sa:a.sz≤1000) (sb:b.sz≤1000):FormB B (.mk 8 0 [a,b])
theorem BasL.form {B:List Tree} (h:BasL B) {x:Tree} (hx:x∈B):FormB B x:=by
 have h1:=h.cl x hx
 have h2:=h.bk x hx
 have h3:=h.sz x hx
 cases h1 with
 |tr=>simp [z89,Tree.kind] at h2
 |«at» v _=>exact .at v
 |nt=>simp [z89,Tree.kind] at h2
 |na v _=>simp [z89,Tree.kind] at h2
 |an _ _=>simp [z89,Tree.kind] at h2
 |or _ _=>simp [z89,Tree.kind] at h2
 |nx _ ha=>rw [z455] at h3;exact .nx _ ha (by omega)
 |un _ ha hb=>rw [z403] at h3;exact .un _ _ ha hb (by omega) (by omega)
 |re _ ha hb=>rw [z403] at h3;exact .re _ _ ha hb (by omega) (by omega)
theorem z1051 {B:List Tree} {s t:Int} (h:∀ i,i < B.length→folI B s t i=true):folB B s t=true:=by
 unfold folB;rw [y70];exact fun i hi=>h i (List.mem_range.1 hi)
theorem z913 {B:List Tree} {s t:Int} {i:Nat} (hi:i < B.length) (h:folI B s t i=false):folB B s t=false:=by
 unfold folB;rw [List.all_eq_false];exact ⟨i,List.mem_range.2 hi,by rw [h];simp⟩
set_option maxHeartbeats 6400000 in
theorem z685 (B:List Tree) (hB:BasL B) (s t:Int) (s0:0≤s) (s1:s≤31) (t0:0≤t) (t1:t≤31):CallsA Tryz.prog 194 [lst 3 Tree.cs' B,.int s,.int t] [] (.bool (folB B s t)) []:=by
 have hl:=hB.len
 refine z7 z16 Tryz.func194 rfl rfl 85 Tryz.ntmps194 (by simp) ?_
 repeat' (((apply y76 ok;rfl))<;>conv=>whnf)
 refine z65 (fun i:Nat=>([(0,lst 3 Tree.cs' B),(1,.int s),(2,.int t),(7,.int i)],[])) (fun i=>i≤B.length∧∀ j,j < i→folI B s t j=true) (fun i=>B.length - i) 0 ⟨y46 _,fun j h=>absurd h (Nat.not_lt_zero _)⟩ (by refine swR [] [] rfl rfl ?_;(repeat' first|exact y78 _|constructor)) ?_
 rintro i ⟨hi,hj⟩
 by_cases hil:i < B.length
 ·have gk:(B.map Tree.cs')[i]?=some (Tree.cs' (B.getD i dftT)):=by rw [y44,y38 hil,z20 hil];rfl
  have hf:=hB.form (x:=B.getD i dftT) (by rw [z20 hil];exact y37 _)
  have cw:=z274 s i s0 s1 (by omega) (by omega)
  have cn:=z274 t i t0 t1 (by omega) (by omega)
  have hI:folI B s t i=(folV B s t (B.getD i dftT) (hasB s i) (hasB t i) == hasB s i):=rfl
  have hT:folI B s t i=true→∀ j,j < i+1→folI B s t j=true:=fun h j hji=>by
   rcases y62 j i with h3|h3
   ·exact hj j h3
   ·obtain rfl:j=i:=by omega
    exact h
  have hF:folI B s t i=false→folB B s t=false:=z913 hil
  rw [hI] at hT hF
  clear hI hj
  generalize B.getD i dftT=f at *
  generalize hasB s i=x at *
  generalize hasB t i=y at *
  cases hf with
  |«at» v =>
   have hT2:=hT (by simp [folV,Tree.kind])
   clear hT hF
   cases x
   all_goals
    repeat' ((first|(apply y76 ok;rfl)|(refine z12 (i:=i) rfl gk ?_)|(apply y36;first|omega|(unfold inI;omega))|((apply z5)<;>intro _)|(apply z6 (cw);rfl;rfl))<;>conv=>whnf)
    all_goals try (exfalso;omega)
    all_goals refine z23 (i+1) ⟨by omega,hT2⟩ (by omega) (by refine swR [] [] rfl rfl ?_;(repeat' first|exact y78 _|constructor))
  |nx a ha sa =>
   have ca:=z158 B hB t t0 t1 a ha sa
   have e:folV B s t (.mk 6 0 [a]) x y=vlB B t a:=by simp [folV,kidV,Tree.kind,Tree.kids]
   rw [e] at hT hF
   rw [csU] at gk
   clear e
   generalize vlB B t a=z at *
   cases x<;>cases z
   all_goals first|have hT:=hT rfl|(have hF:=hF rfl;rw [hF])
   all_goals
    repeat' ((first|(apply y76 ok;rfl)|(refine z12 (i:=i) rfl gk ?_)|(refine ⟨_,rfl,?_⟩)|(apply y36;first|omega|(unfold inI;omega))|((apply z5)<;>intro _)|(apply z6 (cw);rfl;rfl)|(apply z6 (ca);rfl;rfl))<;>conv=>whnf)
    all_goals try (exfalso;omega)
    all_goals first|(refine z23 (i+1) ⟨by omega,hT⟩ (by omega) (by refine swR [] [] rfl rfl ?_;(repeat' first|exact y78 _|constructor)))|(refine rsD [] [] rfl ?_;(repeat' first|exact y78 _|constructor))
  |un a b ha hb sa sb =>
   have ca:=z158 B hB s s0 s1 a ha sa
   have cb:=z158 B hB s s0 s1 b hb sb
   have e:folV B s t (.mk 7 0 [a,b]) x y=(vlB B s b || (vlB B s a && y)):=by simp [folV,kidV,Tree.kind,Tree.kids]
   rw [e] at hT hF
   rw [csB2] at gk
   clear e
   generalize vlB B s a=z at *
   generalize vlB B s b=u at *
   cases x<;>cases y<;>cases z<;>cases u
   all_goals first|have hT:=hT rfl|(have hF:=hF rfl;rw [hF])
   all_goals
    repeat' ((first|(apply y76 ok;rfl)|(refine z12 (i:=i) rfl gk ?_)|(refine ⟨_,rfl,?_⟩)|(apply y36;first|omega|(unfold inI;omega))|((apply z5)<;>intro _)|(apply z6 (cw);rfl;rfl)|(apply z6 (cn);rfl;rfl)|(apply z6 (ca);rfl;rfl)|(apply z6 (cb);rfl;rfl))<;>conv=>whnf)
    all_goals try (exfalso;omega)
    all_goals first|(refine z23 (i+1) ⟨by omega,hT⟩ (by omega) (by refine swR [] [] rfl rfl ?_;(repeat' first|exact y78 _|constructor)))|(refine rsD [] [] rfl ?_;(repeat' first|exact y78 _|constructor))
  |re a b ha hb sa sb =>
   have ca:=z158 B hB s s0 s1 a ha sa
   have cb:=z158 B hB s s0 s1 b hb sb
   have e:folV B s t (.mk 8 0 [a,b]) x y=(vlB B s b && (vlB B s a || y)):=by simp [folV,kidV,Tree.kind,Tree.kids]
   rw [e] at hT hF
   rw [csB2] at gk
   clear e
   generalize vlB B s a=z at *
   generalize vlB B s b=u at *
   cases x<;>cases y<;>cases z<;>cases u
   all_goals first|have hT:=hT rfl|(have hF:=hF rfl;rw [hF])
   all_goals
    repeat' ((first|(apply y76 ok;rfl)|(refine z12 (i:=i) rfl gk ?_)|(refine ⟨_,rfl,?_⟩)|(apply y36;first|omega|(unfold inI;omega))|((apply z5)<;>intro _)|(apply z6 (cw);rfl;rfl)|(apply z6 (cn);rfl;rfl)|(apply z6 (ca);rfl;rfl)|(apply z6 (cb);rfl;rfl))<;>conv=>whnf)
    all_goals try (exfalso;omega)
    all_goals first|(refine z23 (i+1) ⟨by omega,hT⟩ (by omega) (by refine swR [] [] rfl rfl ?_;(repeat' first|exact y78 _|constructor)))|(refine rsD [] [] rfl ?_;(repeat' first|exact y78 _|constructor))
 ·obtain rfl:i=B.length:=by omega
  rw [z1051 fun j hji=>hj j hji]
  repeat' ((first|(apply y76 ok;rfl)|(apply y36;omega)|(((with_reducible apply z8;omega));intro _)|((apply z5)<;>intro _))<;>conv=>whnf)
  all_goals first|(exfalso;omega)|(refine rsD [] [] rfl ?_;(repeat' first|exact y78 _|constructor))
theorem z684 (B:List Tree) (hB:BasL B) (s:Int) (s0:0≤s) (s1:s≤31) (u:Nat) (hu:u < B.length) (hk:(B.getD u dftT).kind=7):CallsA Tryz.prog 237 [lst 3 Tree.cs' B,.int s,.int u] [] (.bool (fulB B s u)) []:=by
 have hl:=hB.len
 have gk:(B.map Tree.cs')[u]?=some (Tree.cs' (B.getD u dftT)):=by rw [y44,y38 hu,z20 hu];rfl
 have hf:=hB.form (x:=B.getD u dftT) (by rw [z20 hu];exact y37 _)
 have cw:=z274 s u s0 s1 (by omega) (by omega)
 have e:fulB B s u=(!hasB s u || kidV B s (B.getD u dftT) 1):=rfl
 rw [e]
 generalize B.getD u dftT=f at *
 generalize hasB s u=x at *
 cases hf with
 |«at» v=>simp [Tree.kind] at hk
 |nx a _ _=>simp [Tree.kind] at hk
 |re a b _ _ _ _=>simp [Tree.kind] at hk
 |un a b ha hb sa sb =>
  have cb:=z158 B hB s s0 s1 b hb sb
  rw [csB2] at gk
  have e2:kidV B s (.mk 7 0 [a,b]) 1=vlB B s b:=by simp [kidV,Tree.kids]
  rw [e2]
  clear e e2
  generalize vlB B s b=y at *
  cases x
  all_goals
   refine z7 z16 Tryz.func237 rfl rfl 23 Tryz.ntmps237 (by simp) ?_
   repeat' ((first|(apply y76 ok;rfl)|(refine z12 (i:=u) rfl gk ?_)|(refine ⟨_,rfl,?_⟩)|(apply y36;omega)|(apply z6 (cw);rfl;rfl)|(apply z6 (cb);rfl;rfl))<;>conv=>whnf)
   all_goals (refine rsD [] [] rfl ?_;(repeat' first|exact y78 _|constructor))
def untL (B:List Tree) (i:Nat):List Int:=((List.range i).filter fun i=>decide ((B.getD i dftT).kind=7)).map Int.ofNat
theorem z957 (B:List Tree) (i:Nat):untL B (i+1)=untL B i++(if (B.getD i dftT).kind=7 then [(i:Int)] else []):=by
 unfold untL
 rw [y54,List.filter_append,y56]
 congr 1
 by_cases h:(B.getD i dftT).kind=7
 ·rw [if_pos h,List.filter_cons_of_pos (by simpa using h)];rfl
 ·rw [if_neg h,List.filter_cons_of_neg (by simpa using h)];rfl
theorem z573 (B:List Tree) (i:Nat):(untL B i).length≤i:=by
 unfold untL
 rw [y42]
 have:=List.length_filter_le (fun i=>decide ((B.getD i dftT).kind=7)) (List.range i)
 simpa using this
theorem z778 (B:List Tree) (hl:B.length≤1000):CallsA Tryz.prog 190 [lst 3 Tree.cs' B] [] (ints (untB B)) []:=by
 refine z7 z16 Tryz.func190 rfl rfl 23 Tryz.ntmps190 (by simp) ?_
 repeat' (((apply y76 ok;rfl))<;>conv=>whnf)
 refine z65 (fun x:Nat×List Int=>([(0,lst 3 Tree.cs' B),(3,.sref 0 0 x.2.length),(4,.int x.1)],[.cells 1 (x.2.map enI)])) (fun x=>x.1≤B.length∧untL B x.1=x.2) (fun x=>B.length - x.1) (0,[]) ⟨y46 _,rfl⟩ (by refine swR [0] [] rfl rfl ?_;(repeat' first|exact y78 _|refine z10 rfl (z32) ?_|constructor)) ?_
 rintro ⟨i,U⟩ ⟨hi,hU⟩
 dsimp only at hi hU ⊢
 have hul:=z573 B i
 rw [hU] at hul
 by_cases hil:i < B.length
 ·have gk:(B.map Tree.cs')[i]?=some (Tree.cs' (B.getD i dftT)):=by rw [y44,y38 hil,z20 hil];rfl
  have hs:=z957 B i
  rw [hU] at hs
  generalize B.getD i dftT=f at *
  by_cases hk:f.kind=7
  ·rw [if_pos hk] at hs
   repeat' ((first|(apply y76 ok;rfl)|(refine z12 (i:=i) rfl gk ?_)|(apply y36;first|omega|(unfold inI;omega)|((try dsimp only);simp only [y42,y41,y40,y39,y51,y52];omega)|exact ⟨rfl,z18 rfl z25⟩)|((apply z5)<;>intro _))<;>conv=>whnf)
   all_goals try (exfalso;omega)
   all_goals refine z23 (i+1,U++[(i:Int)]) ⟨by show i+1≤_;omega,hs⟩ (by show B.length - (i+1) < B.length - i;omega) (by refine swR [2] [] rfl rfl ?_;(repeat' first|exact y78 _|(refine z34 ?_;((simp;done)))|((refine z27 rfl ?_ ?_);(focus ((repeat' (first|exact z4 (fun _=>rfl)|apply z17));done)))|(refine z69 ?_ ?_;(focus (omega)))|constructor))
  ·rw [if_neg hk,y57] at hs
   repeat' ((first|(apply y76 ok;rfl)|(refine z12 (i:=i) rfl gk ?_)|(apply y36;first|omega|(unfold inI;omega))|((apply z5)<;>intro _))<;>conv=>whnf)
   all_goals try (exfalso;omega)
   all_goals refine z23 (i+1,U) ⟨by show i+1≤_;omega,hs⟩ (by show B.length - (i+1) < B.length - i;omega) (by refine swR [0] [] rfl rfl ?_;(repeat' first|exact y78 _|exact z9 _|refine z10 rfl (z4 (fun _=>rfl)) ?_|constructor))
 ·obtain rfl:i=B.length:=by omega
  have e:untB B=U:=hU
  rw [e]
  repeat' ((first|(apply y76 ok;rfl)|(apply y36;omega)|(((with_reducible apply z8;omega));intro _)|((apply z5)<;>intro _))<;>conv=>whnf)
  all_goals first|(exfalso;omega)|(refine rsD [] [0] rfl ?_;(repeat' first|exact y78 _|((apply z45 rfl rfl rfl);(focus ((repeat ((exact z37 (fun _=>rfl) _)));done));(focus (((simp;done));done)))|constructor))
theorem untB_mem {B:List Tree} {x:Int} (h:x∈untB B):∃ u:Nat,x=u∧u < B.length∧(B.getD u dftT).kind=7:=by
 unfold untB at h
 obtain ⟨u,hu,rfl⟩:=List.mem_map.1 h
 obtain ⟨h1,h2⟩:=List.mem_filter.1 hu
 exact ⟨u,rfl,List.mem_range.1 h1,of_decide_eq_true h2⟩
theorem z898 (B:List Tree) (hB:BasL B) (s:Int) (s0:0≤s) (s1:s≤31) (ph:Nat) (hp:(untB B).length=0∨ph < (untB B).length):CallsA Tryz.prog 192 [lst 3 Tree.cs' B,ints (untB B),.int s,.int ph] [] (.tup [.int (phB B (untB B) s ph).1,.bool (phB B (untB B) s ph).2]) []:=by
 have hl:=hB.len
 have hul:(untB B).length≤B.length:=z573 B B.length
 have hm:=fun x=>@untB_mem B x
 unfold phB
 generalize untB B=U at *
 by_cases h0:U.length=0
 ·rw [if_pos h0]
  refine z7 z16 Tryz.func192 rfl rfl 28 Tryz.ntmps192 (by simp) ?_
  repeat' ((first|(apply y76 ok;rfl)|(apply y36;omega)|(((with_reducible apply z8;omega));intro _)|((apply z5)<;>intro _))<;>conv=>whnf)
  all_goals first|(exfalso;omega)|(refine rsD [] [] rfl ?_;(repeat' first|exact y78 _|constructor))
 ·rw [if_neg h0]
  have hpl:ph < U.length:=by omega
  have gu:(U.map enI)[ph]?=some (enI (U.getD ph 0)):=by rw [y44,y38 hpl,z20 hpl];rfl
  obtain ⟨u,e,hu,hk⟩:=hm (U.getD ph 0) (by rw [z20 hpl];exact y37 _)
  rw [e] at gu
  have cf:=z684 B hB s s0 s1 u hu hk
  rw [y69,e]
  generalize fulB B s u=z at *
  cases z
  ·refine z7 z16 Tryz.func192 rfl rfl 28 Tryz.ntmps192 (by simp) ?_
   repeat' ((first|(apply y76 ok;rfl)|(refine z12 (i:=ph) rfl gu ?_)|(apply y36;omega)|((apply z5)<;>intro _)|(apply z6 (cf);rfl;rfl))<;>conv=>whnf)
   all_goals first|(exfalso;omega)|(refine rsD [] [] rfl ?_;(repeat' first|exact y78 _|constructor))
  ·refine z7 z16 Tryz.func192 rfl rfl 28 Tryz.ntmps192 (by simp) ?_
   repeat' ((first|(apply y76 ok;rfl)|(refine z12 (i:=ph) rfl gu ?_)|(apply y36;first|omega|(unfold inI;omega))|((apply z5)<;>intro _)|(apply z6 (cf);rfl;rfl))<;>conv=>whnf)
   all_goals try (exfalso;omega)
   all_goals (refine rsD [] [] rfl ?_;(repeat' first|exact y78 _|constructor))
theorem z399 {B:List Tree} {s:Int} (i:Nat):(List.range (i+1)).foldl (atoI B s) (0,0)=atoI B s ((List.range i).foldl (atoI B s) (0,0)) i:=by
 rw [y54,y55];rfl
theorem z673 {c k:Nat} (h:c < 8) (hk:k≤2):c ||| 2 ^ k < 8:=by
 have:k=0∨k=1∨k=2:=by omega
 rcases this with rfl|rfl|rfl<;>exact Nat.or_lt_two_pow (n:=3) h (by decide)
set_option maxHeartbeats 3200000 in
theorem z780 (B:List Tree) (hB:BasL B) (s:Int) (s0:0≤s) (s1:s≤31):CallsA Tryz.prog 193 [lst 3 Tree.cs' B,.int s] [] (.tup [.int (letB B s).1,.int (letB B s).2]) []:=by
 have hl:=hB.len
 refine z7 z16 Tryz.func193 rfl rfl 44 Tryz.ntmps193 (by simp) ?_
 repeat' (((apply y76 ok;rfl))<;>conv=>whnf)
 refine z65 (fun x:Nat×Nat×Nat=>([(0,lst 3 Tree.cs' B),(1,.int s),(6,.int x.2.1),(7,.int x.2.2),(8,.int x.1)],[])) (fun x=>x.1≤B.length∧(List.range x.1).foldl (atoI B s) (0,0)=x.2∧x.2.1 < 8∧x.2.2 < 8) (fun x=>B.length - x.1) (0,0,0) ⟨y46 _,rfl,by decide,by decide⟩ (by refine swR [] [] rfl rfl ?_;(repeat' first|exact y78 _|constructor)) ?_
 rintro ⟨i,c,v⟩ ⟨hi,hf,hc,hv⟩
 dsimp only at hi hf hc hv ⊢
 by_cases hil:i < B.length
 ·have gk:(B.map Tree.cs')[i]?=some (Tree.cs' (B.getD i dftT)):=by rw [y44,y38 hil,z20 hil];rfl
  have hmem:B.getD i dftT∈B:=by rw [z20 hil];exact y37 _
  have hform:=hB.form hmem
  have cw:=z274 s i s0 s1 (by omega) (by omega)
  have hs:=z399 (B:=B) (s:=s) i
  rw [hf] at hs
  unfold atoI at hs
  dsimp only at hs
  by_cases hk:(B.getD i dftT).kind=2
  ·rw [if_pos hk] at hs
   have hvv:∃ a:Nat,(B.getD i dftT).val=a∧a≤2:=by
    generalize B.getD i dftT=f at *
    cases hform with
    |«at» v=>have:=hB.av v hmem;exact ⟨v.toNat,by simp [Tree.val];omega,by omega⟩
    |nx a _ _=>simp [Tree.kind] at hk
    |un a b _ _ _ _=>simp [Tree.kind] at hk
    |re a b _ _ _ _=>simp [Tree.kind] at hk
   obtain ⟨a,ea,ha⟩:=hvv
   have gk2:(B.map Tree.cs')[i]?=some [.int 2,.int a,.list 3 (B.getD i dftT).kids.length ((B.getD i dftT).kids.map Tree.cs)]:=by rw [gk,← hk,← ea];rfl
   have o1:=z673 hc ha
   have o2:=z673 hv ha
   have e:=z977 a (by omega)
   have hp:=z475 (show a < 3 by omega)
   have hw:IntKind.u64.wrap (a:Int)=a:=by
    have:a=0∨a=1∨a=2:=by omega
    rcases this with rfl|rfl|rfl<;>rfl
   rw [ea,y69] at hs
   clear gk hform hmem hk ea
   generalize hasB s i=z at *
   generalize (B.getD i dftT).kids=ks at *
   cases z
   ·rw [if_neg (by simp)] at hs
    repeat' ((first|(apply y76 ok;rfl)|(refine z12 (i:=i) rfl gk2 ?_)|(apply y36;first|omega|(unfold inI;omega))|((apply z5)<;>intro _))<;>conv=>whnf)
    all_goals try (exfalso;omega)
    refine y36 (by rw [e];unfold z153;omega) ?_
    conv=>whnf
    repeat' ((first|(apply y76 ok;rfl)|(apply y36;(unfold inI;omega))|(apply z6 (cw);rfl;rfl))<;>conv=>whnf)
    all_goals refine z23 (i+1,c ||| 2 ^ a,v) ⟨by show i+1≤_;omega,hs,o1,hv⟩ (by show B.length - (i+1) < B.length - i;omega) (by refine swR [] [] rfl rfl ?_;(repeat' first|exact y78 _|constructor)<;>((rw [e];exact y78 _)))
   ·rw [if_pos rfl] at hs
    repeat' ((first|(apply y76 ok;rfl)|(refine z12 (i:=i) rfl gk2 ?_)|(apply y36;first|omega|(unfold inI;omega))|((apply z5)<;>intro _))<;>conv=>whnf)
    all_goals try (exfalso;omega)
    refine y36 (by rw [e];unfold z153;omega) ?_
    conv=>whnf
    repeat' ((first|(apply y76 ok;rfl)|(refine z12 (i:=i) rfl gk2 ?_)|(apply y36;first|omega|(unfold inI;omega))|(apply z6 (cw);rfl;rfl))<;>conv=>whnf)
    refine y36 (by rw [e];unfold z153;omega) ?_
    conv=>whnf
    repeat' ((first|(apply y76 ok;rfl)|(apply y36;(unfold inI;omega)))<;>conv=>whnf)
    all_goals refine z23 (i+1,c ||| 2 ^ a,v ||| 2 ^ a) ⟨by show i+1≤_;omega,hs,o1,o2⟩ (by show B.length - (i+1) < B.length - i;omega) (by refine swR [] [] rfl rfl ?_;(repeat' first|exact y78 _|constructor)<;>((rw [e];exact y78 _)))
  ·rw [if_neg hk] at hs
   generalize B.getD i dftT=f at *
   repeat' ((first|(apply y76 ok;rfl)|(refine z12 (i:=i) rfl gk ?_)|(apply y36;first|omega|(unfold inI;omega))|((apply z5)<;>intro _)|(apply z6 (cw);rfl;rfl))<;>conv=>whnf)
   all_goals try (exfalso;omega)
   all_goals refine z23 (i+1,c,v) ⟨by show i+1≤_;omega,hs,hc,hv⟩ (by show B.length - (i+1) < B.length - i;omega) (by refine swR [] [] rfl rfl ?_;(repeat' first|exact y78 _|constructor))
 ·obtain rfl:i=B.length:=by omega
  have e:letB B s=(c,v):=hf
  rw [e]
  repeat' ((first|(apply y76 ok;rfl)|(apply y36;omega)|(((with_reducible apply z8;omega));intro _)|((apply z5)<;>intro _))<;>conv=>whnf)
  all_goals first|(exfalso;omega)|(refine rsD [] [] rfl ?_;(repeat' first|exact y78 _|constructor))
theorem z1027 (L:List (List Int)) (hL:L.length≤1000) (hr:∀ r∈L,r.length≤1000) (p:List Int) (hp:p.length≤1000):CallsA Tryz.prog 195 [.sref 0 0 L.length,.sref 1 0 p.length] [.cells 1 (L.map encL),.cells 1 (p.map enI)] (.tup [.sref 2 0 (z139 L p).length,.int (z258 L p)]) [.dead,.dead,.cells 1 ((z139 L p).map encL)]:=by
 have hc:∀ i (h:i < L.length),CallsA Tryz.prog 238 [ints L[i],ints p] [] (.bool (decide (L[i]=p))) []:=fun i h=>z490 _ _ (by have:=hr _ (y37 h);unfold maxLen;omega) (by unfold maxLen;omega)
 refine z7 z16 Tryz.func195 rfl rfl 27 Tryz.ntmps195 (by simp) ?_
 refine y77 (Reach.rnm 0 rfl) ?_
 refine y77 (Reach.rnm 1 rfl) ?_
 conv=>whnf
 repeat' (((apply y76 ok;rfl))<;>conv=>whnf)
 refine z65 (fun i:Nat=>([(0,.sref 2 0 L.length),(1,.sref 3 0 p.length),(6,.int i)],[.dead,.dead,.cells 1 (L.map encL),.cells 1 (p.map enI)])) (fun i=>i≤L.length∧∀ j (h:j < L.length),j < i→L[j]≠p) (fun i=>L.length - i) 0 ⟨y46 _,fun j _ h=>absurd h (Nat.not_lt_zero _)⟩ (by refine swR [0,1,2,3] [] rfl rfl ?_;(repeat' first|exact y78 _|exact z9 _|refine z10 rfl (z4 (fun _=>rfl)) ?_|constructor)) ?_
 rintro i ⟨hi,hj⟩
 by_cases hil:i < L.length
 ·have gk:(L.map encL)[i]?=some (encL L[i]):=by rw [y44,y38 hil];rfl
  have c1:=hc i hil
  by_cases he:L[i]=p
  ·have e1:z139 L p=L:=by unfold z139;rw [if_pos (by rw [← he];exact y37 hil)]
   have e2:z258 L p=i:=by
    unfold z258
    have h1:p∈L:=by rw [← he];exact y37 hil
    have h2:=List.idxOf_lt_length_of_mem h1
    have h3:=List.getElem_idxOf h2
    rcases Nat.lt_trichotomy (L.idxOf p) i with h|h|h
    ·exact absurd h3 (hj _ h2 h)
    ·exact h
    ·exfalso
     have:=List.not_of_lt_findIdx (p:=(· == p)) (xs:=L) (i:=i) (by simpa [List.idxOf] using h)
     simp [he] at this
   rw [e1,e2]
   rw [y73 he] at c1
   generalize L[i]=q at *
   repeat' ((first|(apply y76 ok;rfl)|(refine z12 (i:=i) rfl gk ?_)|(apply y36;omega)|((apply z5)<;>intro _)|(apply z99 [] [3] [] c1;(focus ((repeat' first|exact z78|apply z54)<;>first|exact z116 rfl rfl rfl|rfl));rfl;rfl;(focus ((repeat' exact z15)<;>fail));((refine .inr ⟨rfl,?_⟩;repeat' exact True.intro))))<;>conv=>whnf)
   all_goals try (exfalso;omega)
   all_goals (refine rsD [0,1,2] [] rfl ?_;(repeat' first|exact y78 _|exact z9 _|refine z10 rfl (z4 (fun _=>rfl)) ?_|constructor))
  ·rw [y74 he] at c1
   have hj2:∀ j (h:j < L.length),j < i+1→L[j]≠p:=fun j h hji=>by
    rcases y62 j i with h3|h3
    ·exact hj j h h3
    ·obtain rfl:j=i:=by omega
     exact he
   generalize L[i]=q at *
   repeat' ((first|(apply y76 ok;rfl)|(refine z12 (i:=i) rfl gk ?_)|(apply y36;first|omega|(unfold inI;omega))|((apply z5)<;>intro _)|(apply z99 [] [3] [] c1;(focus ((repeat' first|exact z78|apply z54)<;>first|exact z116 rfl rfl rfl|rfl));rfl;rfl;(focus ((repeat' exact z15)<;>fail));((refine .inr ⟨rfl,?_⟩;repeat' exact True.intro))))<;>conv=>whnf)
   all_goals try (exfalso;omega)
   all_goals refine z23 (i+1) ⟨by omega,hj2⟩ (by omega) (by refine swR [0,1,2,3] [] rfl rfl ?_;(repeat' first|exact y78 _|exact z9 _|refine z10 rfl (z4 (fun _=>rfl)) ?_|constructor))
 ·have hn:p ∉ L:=fun h=>by
   obtain ⟨j,hjl,e⟩:=List.mem_iff_getElem.1 h
   exact hj j hjl (by omega) e
  have e1:z139 L p=L++[p]:=by unfold z139;rw [if_neg hn]
  have e2:z258 L p=L.length:=by unfold z258;exact List.idxOf_eq_length hn
  rw [e1,e2]
  obtain rfl:i=L.length:=by omega
  repeat' ((first|(apply y76 ok;rfl)|(apply y36;first|omega|((try dsimp only);simp only [y42,y41,y40,y39,y51,y52];omega)|exact ⟨rfl,z18 rfl z25⟩)|(((apply z8;omega));intro _)|((apply z5)<;>intro _))<;>conv=>whnf)
  all_goals try (exfalso;omega)
  all_goals (refine rsD [0,1,5] [3] rfl ?_;(repeat' first|exact y78 _|(refine z34 ?_;((simp;done)))|((refine z27 rfl ?_ ?_);(focus ((repeat' (first|exact z4 (fun _=>rfl)|apply z17));done)))|(refine z69 ?_ ?_;(focus (omega)))|((apply z76 rfl rfl rfl);(focus ((repeat ((exact z37 (fun _=>rfl) _)));done));(focus (((simp;done));done)))|apply z88|constructor))
def eT (e:Edg):Trans:=⟨e.src,e.care,e.val,e.dst⟩
noncomputable def trOut (n0:Nat) (x:TrS):Aut:=⟨numI n0,if x.L.length=0 then [false] else x.acc,x.ed.map eT⟩
noncomputable def trO (t:Tree):Option Aut:=if bscB t=true then (trS (bscL (t.nrm false)) (t.nrm false)).map (trOut (iniS (bscL (t.nrm false)) (t.nrm false)).length) else none
noncomputable def trA (t:Tree):Aut:=(trO t).getD ⟨[],[],[]⟩
noncomputable def tsB (t:Tree):Bool:=(trO t).isSome
theorem z1080 {t:Tree} (ht:t.fmB=true) (hn:(t.nrm false).fmB=true) (h5:(bscL (t.nrm false)).length≤5) (hs:t.sz≤200):BasL (bscL (t.nrm false))∧In (·∈bscL (t.nrm false)) (t.nrm false)∧(t.nrm false).sz≤1000:=by
 have hg:=y21 ht
 have hz:=y26 t hg false
 obtain ⟨a1,a2,a3,a4,a5,a6⟩:=z928 (y21 hn) (nrm_NF t hg false)
 exact ⟨⟨h5,a1,fun x hx=>by have:=a2 x hx;omega,a3,a4,a5⟩,a6,by omega⟩
theorem pow_5 {n:Nat} (h:n≤5):1≤2 ^ n∧2 ^ n≤32:=by
 have:n=0∨n=1∨n=2∨n=3∨n=4∨n=5:=by omega
 rcases this with rfl|rfl|rfl|rfl|rfl|rfl<;>decide
set_option maxHeartbeats 12800000 in
theorem z960 (t:Tree) (hs:t.sz≤200):CallsA Tryz.prog 134 [z51 Tree.cs' t] [] (.tup [.agg [.sref 0 0 (trA t).ini.length,.sref 1 0 (trA t).acc.length,.sref 2 0 (trA t).ed.length],.bool (tsB t)]) [.cells 1 ((trA t).ini.map enI),.cells 1 ((trA t).acc.map enB),.cells 4 ((trA t).ed.map Trans.cs)]:=by
 have cb:=z1079 t hs
 have cn:=z347 t (by omega)
 unfold trA tsB trO
 by_cases h:bscB t=true
 ·obtain ⟨⟨ht,hn⟩,h5⟩:=of_decide_eq_true (show decide _=true from h)
  obtain ⟨hB,hIn,hsz⟩:=z1080 ht hn h5 hs
  rw [if_pos h] at cb ⊢
  rw [h] at cb
  rw [if_pos ⟨ht,hn⟩,y73 ⟨ht,hn⟩] at cn
  clear h ht hn
  generalize t.nrm false=g at *
  generalize bscL g=B at *
  have hp:=pow_5 h5
  have cU:=z778 B (by omega)
  have hi0:=z839 B g
  have hul:(untB B).length≤B.length:=z573 B B.length
  have e2:((1:Int) * 2 ^ ((B.length:Int).toNat))=((2 ^ B.length:Nat):Int):=by
   rw [y69,Int.one_mul];norm_cast
  have hw:IntKind.u64.wrap (B.length:Int)=B.length:=by
   have:B.length=0∨B.length=1∨B.length=2∨B.length=3∨B.length=4∨B.length=5:=by omega
   rcases this with h|h|h|h|h|h<;>rw [h]<;>rfl
  rw [y14 t] at cb cn ⊢
  have cV:=fun s a b=>z158 B hB s a b g hIn hsz
  rw [y14 g] at cn cV
  refine z7 z16 Tryz.func134 rfl rfl 137 Tryz.ntmps134 (by simp) ?_
  repeat' ((first|(apply y76 ok;rfl)|(apply y36;first|omega|(unfold inI;omega))|(apply z6 (cb);rfl;rfl)|(apply z6 (cn);rfl;rfl)|(apply z6 (cU);rfl;rfl))<;>conv=>whnf)
  refine y77 (y80 1 rfl) ?_
  refine y77 (y80 1 rfl) ?_
  refine y77 (y80 4 rfl) ?_
  refine z65 (fun x:Nat×List (List Int)×List Int=>([(2,.ptr 0 none 0),(4,lst 3 Tree.cs' B),(6,.ptr 1 none 0),(8,.int ((2 ^ B.length:Nat):Int)),(9,ints (untB B)),(10,.ptr 2 none 0),(11,.sref 3 0 x.2.1.length),(12,.int x.1)],[.cells 3 [[.nils,.nils,.nils]],.cells 3 [[.int g.kind,.int g.val,lst 3 Tree.cs' g.kids]],.cells 3 [[.sref 4 0 x.2.2.length,.sref 5 0 0,.sref 6 0 0]],.cells 1 (x.2.1.map encL),.cells 1 (x.2.2.map enI),.cells 1 [],.cells 4 []])) (fun x=>x.1≤2 ^ B.length∧iniK B (fun s=>vlB B (s:Nat) g) x.1=x.2.1∧numI x.2.1.length=x.2.2) (fun x=>2 ^ B.length - x.1) (0,[],[]) ⟨y46 _,rfl,rfl⟩ (by refine swR [1,2,3,4,5,6,7] [] rfl rfl ?_;(repeat' first|exact y78 _|exact z48|(refine z101 ?_;omega)|apply y79|refine z10 rfl (z32) ?_|constructor)<;>((rw [e2];exact y78 _))) ?_
  rintro ⟨k,L,N⟩ ⟨hk,hL,hN⟩
  dsimp only at hk hL hN ⊢
  have hLl:=iniK_len B (fun s=>vlB B (s:Nat) g) k
  rw [hL] at hLl
  have nl:=z596 L.length
  have ns:=z1006 L.length
  rw [hN] at nl ns
  by_cases hkl:k < 2 ^ B.length
  ·have hsu:=z1041 B (fun s=>vlB B (s:Nat) g) k
   rw [hL] at hsu
   have cv:=cV k (by omega) (by omega)
   generalize vlB B (k:Nat) g=z at *
   cases z
   ·rw [if_neg (by simp),y57] at hsu
    repeat' ((first|(apply y76 ok;rfl)|(apply y36;(unfold inI;omega))|((apply z5)<;>intro _)|(apply z6 (cv);rfl;rfl))<;>conv=>whnf)
    all_goals try (exfalso;omega)
    all_goals refine z23 (k+1,L,N) ⟨by show k+1≤_;omega,hsu,hN⟩ (by show 2 ^ B.length - (k+1) < 2 ^ B.length - k;omega) (by refine swR [0,1,2,3,4,5,6] [] rfl rfl ?_;(repeat' first|exact y78 _|exact z9 _|apply y79|((refine z10 rfl ?_ ?_);(focus ((repeat' (first|exact z32|exact z4 (fun _=>rfl)));done)))|constructor))
   ·rw [if_pos rfl] at hsu
    repeat' ((first|(apply y76 ok;rfl)|(apply y36;first|(unfold inI;omega)|((try dsimp only);simp only [y42,y41,y40,y39,y51,y52];omega)|exact ⟨rfl,z18 rfl z25⟩)|((apply z5)<;>intro _)|(apply z6 (cv);rfl;rfl))<;>conv=>whnf)
    all_goals try (exfalso;omega)
    all_goals refine z23 (k+1,L++[[(k:Int),0]],N++[(L.length:Int)]) ⟨by show k+1≤_;omega,hsu,by show numI (L++[[(k:Int),0]]).length=_;rw [y40];exact ns⟩ (by show 2 ^ B.length - (k+1) < 2 ^ B.length - k;omega) (by refine swR [0,1,2,11,8,5,6] [9] rfl rfl ?_;(repeat' first|exact y78 _|(refine z34 ?_;((simp;done)))|apply y79|((first|refine z27 rfl ?_ ?_|refine z10 rfl ?_ ?_);(focus ((repeat' (first|exact z32|exact z4 (fun _=>rfl)|apply z17));done)))|(refine z69 ?_ ?_;(focus (omega)))|constructor))
  ·obtain rfl:k=2 ^ B.length:=by omega
   have hrows:=iniK_row B (fun s=>vlB B (s:Nat) g) (2 ^ B.length) B.length (untB B) (y45 _)
   rw [hL] at hrows
   have hL0:iniS B g=L:=hL
   have hR:goS B (untB B) 65 0 ⟨L,[],[]⟩=trS B g:=by rw [← hL0];rfl
   have hO:trOut L.length=fun x=>⟨N,if x.L.length=0 then [false] else x.acc,x.ed.map eT⟩:=by unfold trOut;rw [hN]
   rw [hL0,hO]
   clear hO
   clear hL hkl cV cb cn cU hi0 ns hN hIn hsz hw e2 hk
   have hphase:=fun (s ph:Nat) (h:s < 2 ^ B.length) (h2:(untB B).length=0∨ph < (untB B).length)=>z898 B hB s (by omega) (by omega) ph h2
   have hletter:=fun (s:Nat) (h:s < 2 ^ B.length)=>z780 B hB s (by omega) (by omega)
   have hfol:=fun (s k:Nat) (h:s < 2 ^ B.length) (h2:k < 2 ^ B.length)=>z685 B hB s k (by omega) (by omega) (by omega) (by omega)
   have hrowq:=fun (s ph:Nat) (h:(untB B).length=0∨ph < (untB B).length)=>phB_row (B:=B) (s:=s) h
   generalize trS B g=R at *
   have hRO:∀ x,R=some x→Option.map (fun x:TrS=>(⟨N,if x.L.length=0 then [false] else x.acc,x.ed.map eT⟩:Aut)) R=some ⟨N,if x.L.length=0 then [false] else x.acc,x.ed.map eT⟩:=fun x h=>by rw [h];rfl
   have hRN:R=none→Option.map (fun x:TrS=>(⟨N,if x.L.length=0 then [false] else x.acc,x.ed.map eT⟩:Aut)) R=none:=fun h=>by rw [h];rfl
   generalize Option.map (fun x:TrS=>(⟨N,if x.L.length=0 then [false] else x.acc,x.ed.map eT⟩:Aut)) R=O at *
   repeat' ((first|(apply y76 ok;rfl)|((apply z5)<;>intro _))<;>conv=>whnf)
   all_goals try (exfalso;omega)
   refine z65 (fun x:Nat×TrS=>([(2,.ptr 0 none 0),(4,lst 3 Tree.cs' B),(8,.int ((2 ^ B.length:Nat):Int)),(9,ints (untB B)),(10,.ptr 1 none 0),(11,.sref 2 0 x.2.L.length),(13,.int x.1)],[.cells 3 [[.nils,.nils,.nils]],.cells 3 [[.sref 3 0 N.length,.sref 4 0 x.2.acc.length,.sref 5 0 x.2.ed.length]],.cells 1 (x.2.L.map encL),.cells 1 (N.map enI),.cells 1 (x.2.acc.map enB),.cells 4 (x.2.ed.map fun e=>Trans.cs (eT e))])) (fun x=>x.1≤64∧goS B (untB B) (65 - x.1) x.1 x.2=R∧(∀ r∈x.2.L,RowS B.length (untB B) r)∧x.2.acc.length≤x.1∧x.2.ed.length≤x.1 * 32∧x.2.L.length≤100) (fun x=>65 - x.1) (0,⟨L,[],[]⟩) ⟨by omega,hR,hrows,y45 _,y45 _,by show L.length≤100;omega⟩ (by refine swR [0,2,3,4,5,6] [] rfl rfl ?_;(repeat' first|exact y78 _|exact z9 _|apply y79|((refine z10 rfl ?_ ?_);(focus ((repeat' (first|exact z32|exact z4 (fun _=>rfl)));done)))|constructor)) ?_
   have hN100:N.length≤100:=by omega
   clear hL0 hR hrows hLl nl L
   rintro ⟨i,⟨L,acc,ed⟩⟩ ⟨hi,hR,hrows,hacc,hed,hL⟩
   dsimp only at hi hR hrows hacc hed hL ⊢
   rw [show 65 - i=(64 - i)+1 by omega,goS] at hR
   dsimp only at hR
   by_cases hil:i < L.length
   ·rw [if_pos hil] at hR
    by_cases h64:64 < L.length
    ·rw [if_pos h64] at hR
     have hO:=hRN hR.symm
     subst hO
     repeat' ((first|(apply y76 ok;rfl)|(apply y36;omega)|((first|(with_reducible apply z87;omega)|(apply z8;omega));intro _)|((apply z5)<;>intro _))<;>conv=>whnf)
     all_goals try (exfalso;omega)
     all_goals (refine y81 1 ?_;refine y81 1 ?_;refine y81 4 ?_;refine rsD [6,7,8] [] rfl ?_;(repeat' first|exact y78 _|exact z48|refine z10 rfl (z32) ?_|apply z42|apply z88|constructor))
    ·rw [if_neg h64] at hR
     obtain ⟨s,ph,er,hs2,hph⟩:=hrows (L.getD i []) (by rw [z20 hil];exact y37 _)
     have gk:(L.map encL)[i]?=some (encL [(s:Int),(ph:Int)]):=by rw [y44,y38 hil,← er,z20 hil];rfl
     have cP:=hphase s ph hs2 hph
     have cL:=hletter s hs2
     obtain ⟨q,eq,hq⟩:=hrowq s ph hph
     have hRS:z198 B (untB B) i ⟨L,acc,ed⟩=⟨((List.range (2 ^ B.length)).foldl (z102 B s q i (letB B s).1 (letB B s).2) (L,ed)).1,acc++[(phB B (untB B) s ph).2],((List.range (2 ^ B.length)).foldl (z102 B s q i (letB B s).1 (letB B s).2) (L,ed)).2⟩:=by
      unfold z198
      dsimp only
      rw [er,← eq];rfl
     rw [hRS] at hR
     rw [eq] at cP
     have hfol:=fun k h=>hfol s k hs2 h
     generalize (phB B (untB B) s ph).2=z at *
     generalize (letB B s).1=c at *
     generalize (letB B s).2=v at *
     clear hphase hletter hrowq hRS eq
     repeat' ((first|(apply y76 ok;rfl)|(refine z12 (i:=i) rfl gk ?_)|(refine ⟨_,rfl,?_⟩)|(apply y36;first|omega|((try dsimp only);simp only [y42,y41,y40,y39,y51,y52];omega)|exact ⟨rfl,z18 rfl z25⟩)|((apply z5)<;>intro _)|(apply z6 (cP);rfl;rfl)|(apply z6 (cL);rfl;rfl))<;>conv=>whnf)
     all_goals try (exfalso;omega)
     have hrow0:∀ r∈L,r.length≤1000:=fun r hr=>by obtain ⟨_,_,e,_,_⟩:=hrows r hr;rw [e];simp
     refine z65 (fun y:Nat×List (List Int)×List Edg=>([(2,.ptr 0 none 0),(4,lst 3 Tree.cs' B),(8,.int ((2 ^ B.length:Nat):Int)),(9,ints (untB B)),(10,.ptr 1 none 0),(11,.sref 2 0 y.2.1.length),(13,.int i),(14,.int s),(15,.int q),(17,.int c),(18,.int v),(19,.int y.1)],[.cells 3 [[.nils,.nils,.nils]],.cells 3 [[.sref 3 0 N.length,.sref 4 0 (acc.length+1),.sref 5 0 y.2.2.length]],.cells 1 (y.2.1.map encL),.cells 1 (N.map enI),.cells 1 ((acc++[z]).map enB),.cells 4 (y.2.2.map fun e=>Trans.cs (eT e))])) (fun y=>y.1≤2 ^ B.length∧(List.range y.1).foldl (z102 B s q i c v) (L,ed)=y.2∧(∀ r∈y.2.1,RowS B.length (untB B) r)∧y.2.1.length≤L.length+y.1∧y.2.2.length≤ed.length+y.1) (fun y=>2 ^ B.length - y.1) (0,L,ed) ⟨y46 _,rfl,hrows,y45 _,y45 _⟩ (by refine swR [0,1,2,3,7,5] [] rfl rfl ?_;(repeat' first|exact y78 _|exact z9 _|apply y79|((first|refine z27 rfl ?_ ?_|refine z10 rfl ?_ ?_);(focus ((repeat' (first|exact z4 (fun _=>rfl)|apply z17));done)))|(refine z69 ?_ ?_;(focus (omega)))|constructor)) ?_
     rintro ⟨k,L',ed'⟩ ⟨hk,hf,hrows',hLl,hel⟩
     dsimp only at hk hf hrows' hLl hel ⊢
     by_cases hkl:k < 2 ^ B.length
     ·have cF:=hfol k hkl
      have hfs:(List.range (k+1)).foldl (z102 B s q i c v) (L,ed)=z102 B s q i c v (L',ed') k:=by rw [y54,y55,hf];rfl
      have he:z102 B s q i c v (L',ed') k=if folB B s k=true then (z139 L' [(k:Int),(q:Int)],ed'++[⟨i,c,v,z258 L' [(k:Int),(q:Int)]⟩]) else (L',ed'):=rfl
      rw [he] at hfs
      clear he
      by_cases hb:folB B s k=true
      ·rw [if_pos hb] at hfs
       rw [hb] at cF
       have cQ:=z1027 L' (by omega) (fun r hr=>by obtain ⟨_,_,e,_,_⟩:=hrows' r hr;rw [e];simp) [(k:Int),(q:Int)] (by simp)
       have hpl:(z139 L' [(k:Int),(q:Int)]).length≤L'.length+1:=by unfold z139;split<;>simp
       have hpr:∀ r∈z139 L' [(k:Int),(q:Int)],RowS B.length (untB B) r:=fun r hr=>by
        unfold z139 at hr
        split at hr
        ·exact hrows' r hr
        ·rcases List.mem_append.1 hr with h|h
         ·exact hrows' r h
         ·rw [List.mem_singleton.1 h];exact ⟨k,q,rfl,hkl,hq⟩
       generalize z139 L' [(k:Int),(q:Int)]=L2 at *
       generalize z258 L' [(k:Int),(q:Int)]=n at *
       repeat' ((first|(apply y76 ok;rfl)|(apply y36;first|omega|(unfold inI;omega)|((try dsimp only);simp only [y42,y41,y40,y39,y51,y52];omega)|exact ⟨rfl,z18 rfl z25⟩)|((apply z5)<;>intro _)|(apply z6 (cF);rfl;rfl)|(apply z147 [2,6] [7] cQ;rfl;(focus ((repeat' first|exact z55|apply z71)<;>first|rfl|(refine z82 rfl ?_;((exact z4 fun _=>rfl)))));rfl;(focus ((repeat' first|exact z15|apply z14)<;>first|exact z589|(refine z21 ?_;((exact z4 fun _=>rfl)))))))<;>conv=>whnf)
       all_goals try (exfalso;omega)
       all_goals refine z23 (k+1,L2,ed'++[⟨i,c,v,n⟩]) ⟨by show k+1≤_;omega,hfs,hpr,by show L2.length≤L.length+(k+1);omega,by show (ed'++[_]).length≤ed.length+(k+1);simp;omega⟩ (by show 2 ^ B.length - (k+1) < 2 ^ B.length - k;omega) (by refine swR [0,1,7,3,4,9] [] rfl rfl ?_;(repeat' first|exact y78 _|exact z9 _|(refine z34 ?_;((simp;done)))|apply y79|((first|refine z27 rfl ?_ ?_|refine z10 rfl ?_ ?_);(focus ((repeat' (first|exact z4 (fun _=>rfl)|apply z17));done)))|(refine z69 ?_ ?_;(focus (omega)))|constructor))
      ·rw [if_neg hb] at hfs
       rw [(y64 _).mp hb] at cF
       repeat' ((first|(apply y76 ok;rfl)|(apply y36;first|omega|(unfold inI;omega))|((apply z5)<;>intro _)|(apply z6 (cF);rfl;rfl))<;>conv=>whnf)
       all_goals try (exfalso;omega)
       all_goals refine z23 (k+1,L',ed') ⟨by show k+1≤_;omega,hfs,hrows',by show L'.length≤L.length+(k+1);omega,by show ed'.length≤ed.length+(k+1);omega⟩ (by show 2 ^ B.length - (k+1) < 2 ^ B.length - k;omega) (by refine swR [0,1,2,3,4,5] [] rfl rfl ?_;(repeat' first|exact y78 _|exact z9 _|apply y79|refine z10 rfl (z4 (fun _=>rfl)) ?_|constructor))
     ·obtain rfl:k=2 ^ B.length:=by omega
      rw [hf] at hR
      have hed2:ed'.length≤(i+1) * 32:=by omega
      repeat' ((first|(apply y76 ok;rfl)|(apply y36;(unfold inI;omega))|((apply z5)<;>intro _))<;>conv=>whnf)
      all_goals try (exfalso;omega)
      all_goals refine z23 (i+1,⟨L',acc++[z],ed'⟩) ⟨by show i+1≤64;omega,by rw [show 65 - (i+1)=64 - i by omega];exact hR,hrows',by show (acc++[z]).length≤i+1;simp;omega,hed2,by show L'.length≤100;omega⟩ (by show 65 - (i+1) < 65 - i;omega) (by refine swR [0,1,2,3,4,5] [] rfl rfl ?_;(repeat' first|exact y78 _|exact z9 _|(refine z34 ?_;((simp;done)))|apply y79|refine z10 rfl (z4 (fun _=>rfl)) ?_|constructor))
   ·rw [if_neg hil] at hR
    have hO:=hRO _ hR.symm
    dsimp only at hO
    by_cases h0:L.length=0
    ·rw [if_pos h0] at hO
     subst hO
     repeat' ((first|(apply y76 ok;rfl)|(apply y36;omega)|((first|(with_reducible apply z87;omega)|(apply z8;omega));intro _)|((apply z5)<;>intro _))<;>conv=>whnf)
     all_goals try (exfalso;omega)
     all_goals (refine rsD [3,6,5] [] rfl ?_;(repeat' first|exact y78 _|exact z9 _|(refine z34 ?_;((simp;done)))|apply y79|refine z10 rfl (z4 (fun _=>rfl)) ?_|apply z42|apply z88|constructor))
     all_goals exact z26 (by show _=List.map Trans.cs (List.map eT ed);rw [List.map_map];rfl)
    ·rw [if_neg h0] at hO
     subst hO
     repeat' ((first|(apply y76 ok;rfl)|(apply y36;omega)|((first|(with_reducible apply z87;omega)|(apply z8;omega));intro _)|((apply z5)<;>intro _))<;>conv=>whnf)
     all_goals try (exfalso;omega)
     all_goals (refine rsD [3,4,5] [] rfl ?_;(repeat' first|exact y78 _|exact z9 _|(refine z34 ?_;((simp;done)))|refine z10 rfl (z4 (fun _=>rfl)) ?_|apply z42|apply z88|constructor))
     all_goals exact z26 (by show _=List.map Trans.cs (List.map eT ed);rw [List.map_map];rfl)
 ·rw [if_neg h] at cb ⊢
  rw [(y64 _).mp h] at cb
  refine z7 z16 Tryz.func134 rfl rfl 137 Tryz.ntmps134 (by simp) ?_
  repeat' ((first|(apply y76 ok;rfl)|(apply z6 (cb);rfl;rfl))<;>conv=>whnf)
  all_goals (refine y81 1 ?_;refine y81 1 ?_;refine y81 4 ?_;refine rsD [2,3,4] [] rfl ?_;(repeat' first|exact y78 _|exact z48|refine z10 rfl (z32) ?_|apply z42|apply z88|constructor))
end Go.Proofs.YtahhobgjcfionaaGreat
namespace Go.Proofs.YtahhobgjcfionaaGreat
open Go.Gl
attribute [local irreducible] z19 AWP z36 z44 z39
theorem z1075 {objs:Nat→AObj} {π Bn:List Nat} {o:Nat} {l:List Trans} (ho:objs o=.cells 4 (l.map Trans.cs)) (h1:idx π o=none) (h2:inB Bn o=true):bor objs π Bn (.sref o 0 l.length)=lst 4 Trans.cs l :=
 z300 ho h1 h2 (by simp) (z319 Trans.unown l)
theorem z802 {objs : Nat → AObj} {π Bn : List Nat} {o1 o2 o3 : Nat} {a : Aut} (h1 : objs o1 = .cells 1 (a.ini.map enI)) (h2 : objs o2 = .cells 1 (a.acc.map enB)) (h3 : objs o3 = .cells 4 (a.ed.map Trans.cs)) (i1 : idx π o1 = none) (b1 : inB Bn o1 = true) (i2 : idx π o2 = none) (b2 : inB Bn o2 = true) (i3 : idx π o3 = none) (b3 : inB Bn o3 = true) :
    bor objs π Bn (.agg [.sref o1 0 a.ini.length,.sref o2 0 a.acc.length,.sref o3 0 a.ed.length])=.agg a.cs :=
  bor_agg (z54 (z116 h1 i1 b1) (z54 (z1076 h2 i2 b2) (z54 (z1075 h3 i3 b3) z78)))
structure Aut.ok (a:Aut):Prop where
 mx:a.mx
 ini:a.ini.length≤1048576
 acc:a.acc.length≤1048576
 ed:a.ed.length≤1048576
theorem Aut.ok_of {a:Aut} (h:a.mx) (h1:a.s1≤1048576) (h2:a.s2≤1048576) (h3:a.s3≤1048576):a.ok:=⟨h,h1,h2,h3⟩
theorem clB_full (l:List Bool) (hl:l.length≤1048576) (hp:0 < l.length):CallsA Tryz.prog 218 [lst 1 enB l] [] (.sref 0 0 l.length) [.cells 1 (l.map enB)]:=by
 refine z13 z16 Tryz.func218 rfl rfl 8 Tryz.ntmps218 (by simp) ?_
 repeat' (first|(apply y76 ok;rfl;conv=>whnf)|(apply y36;(first|omega|(dsimp only;omega)|exact z84 (fun _=>rfl));conv=>whnf))
 exact z123 rfl (z4 fun _=>rfl) (Nat.zero_add _) rfl rfl
theorem clB_new0 (l:List Bool) (hl:l.length≤1048576):CallsA Tryz.prog 218 [lst 1 enB l] [] (.sref 0 0 l.length) [.cells 1 (l.map enB)]:=by
 by_cases hp:0 < l.length
 ·exact clB_full l hl hp
 ·obtain rfl:l=[]:=y66 (by omega)
  refine z251 (z352 Tryz.func218 rfl (by rfl)) fun ad cap=>?_
  cases ad with
  |none =>
   refine CallsA.nils (res:=.nils) (l:=[.cells 1 []]) ?_ (by simp) z599
   refine z13 z16 Tryz.func218 rfl rfl 8 Tryz.ntmps218 (by simp) ?_
   repeat' ((apply y76 ok;rfl;conv=>whnf))
   all_goals exact z53 rfl rfl rfl
  |some p =>
   refine z13 z16 Tryz.func218 rfl rfl 8 Tryz.ntmps218 (by simp) ?_
   repeat' (first|(apply y76 ok;rfl;conv=>whnf)|(apply y36;(omega);conv=>whnf))
   all_goals (exact z123 rfl z32 rfl rfl rfl)
theorem clB_clip (l:List Bool) (hl:l.length≤1048576):CallsA Tryz.prog 217 [.sref 0 0 l.length] [.cells 1 (l.map enB)] (.sref 0 0 l.length) [.cells 1 (l.map enB)]:=by
 refine z13 z16 Tryz.func217 rfl rfl 9 Tryz.ntmps217 (by simp) ?_
 repeat' (first|(apply y76 ok;rfl;conv=>whnf)|(apply y36;(omega);conv=>whnf))
 exact z123 rfl (z4 fun _=>rfl) (by omega) rfl rfl
theorem clB_new (l:List Bool) (hl:l.length≤1048576):CallsA Tryz.prog 172 [lst 1 enB l] [] (.sref 0 0 l.length) [.cells 1 (l.map enB)]:=by
 refine z13 z16 Tryz.func172 rfl rfl 6 Tryz.ntmps172 (by simp) ?_
 repeat' (first|(apply y76 ok;rfl;conv=>whnf)|(apply z132 [] [] [0] (clB_new0 l hl);rfl;(focus ((repeat' (exact z55))<;>(fail)));rfl;rfl;rfl;rfl;rfl;(focus ((repeat' (first|exact z15|apply z14))<;>((refine z21 ?_;((exact z4 (fun _=>rfl)))))));(exact .inl rfl);conv=>whnf)|(apply z132 [0] [] [] (clB_clip l hl);rfl;(focus ((repeat' (first|exact z55|apply z71))<;>((refine z82 rfl ?_;((exact z4 (fun _=>rfl)))))));rfl;rfl;rfl;rfl;rfl;(focus ((repeat' (first|exact z15|apply z14))<;>((refine z21 ?_;((exact z4 (fun _=>rfl)))))));(exact .inl rfl);conv=>whnf))
 exact z123 rfl (z4 fun _=>rfl) rfl rfl rfl
theorem clT_full (l:List Trans) (hl:l.length≤1048576) (hp:0 < l.length):CallsA Tryz.prog 220 [lst 4 Trans.cs l] [] (.sref 0 0 l.length) [.cells 4 (l.map Trans.cs)]:=by
 refine z13 z16 Tryz.func220 rfl rfl 8 Tryz.ntmps220 (by simp) ?_
 repeat' (first|(apply y76 ok;rfl;conv=>whnf)|(apply y36;(first|omega|(dsimp only;omega)|exact z84 (fun _=>rfl));conv=>whnf))
 exact z123 rfl (z4 fun _=>rfl) (Nat.zero_add _) rfl rfl
theorem clT_new0 (l:List Trans) (hl:l.length≤1048576):CallsA Tryz.prog 220 [lst 4 Trans.cs l] [] (.sref 0 0 l.length) [.cells 4 (l.map Trans.cs)]:=by
 by_cases hp:0 < l.length
 ·exact clT_full l hl hp
 ·obtain rfl:l=[]:=y66 (by omega)
  refine z251 (z352 Tryz.func220 rfl (by rfl)) fun ad cap=>?_
  cases ad with
  |none =>
   refine CallsA.nils (res:=.nils) (l:=[.cells 4 []]) ?_ (by simp) z599
   refine z13 z16 Tryz.func220 rfl rfl 8 Tryz.ntmps220 (by simp) ?_
   repeat' ((apply y76 ok;rfl;conv=>whnf))
   all_goals exact z53 rfl rfl rfl
  |some p =>
   refine z13 z16 Tryz.func220 rfl rfl 8 Tryz.ntmps220 (by simp) ?_
   repeat' (first|(apply y76 ok;rfl;conv=>whnf)|(apply y36;(omega);conv=>whnf))
   all_goals (exact z123 rfl z32 rfl rfl rfl)
theorem clT_clip (l:List Trans) (hl:l.length≤1048576):CallsA Tryz.prog 219 [.sref 0 0 l.length] [.cells 4 (l.map Trans.cs)] (.sref 0 0 l.length) [.cells 4 (l.map Trans.cs)]:=by
 refine z13 z16 Tryz.func219 rfl rfl 9 Tryz.ntmps219 (by simp) ?_
 repeat' (first|(apply y76 ok;rfl;conv=>whnf)|(apply y36;(omega);conv=>whnf))
 exact z123 rfl (z4 fun _=>rfl) (by omega) rfl rfl
theorem clT_new (l:List Trans) (hl:l.length≤1048576):CallsA Tryz.prog 173 [lst 4 Trans.cs l] [] (.sref 0 0 l.length) [.cells 4 (l.map Trans.cs)]:=by
 refine z13 z16 Tryz.func173 rfl rfl 6 Tryz.ntmps173 (by simp) ?_
 repeat' (first|(apply y76 ok;rfl;conv=>whnf)|(apply z132 [] [] [0] (clT_new0 l hl);rfl;(focus ((repeat' (exact z55))<;>(fail)));rfl;rfl;rfl;rfl;rfl;(focus ((repeat' (first|exact z15|apply z14))<;>((refine z21 ?_;((exact z4 (fun _=>rfl)))))));(exact .inl rfl);conv=>whnf)|(apply z132 [0] [] [] (clT_clip l hl);rfl;(focus ((repeat' (first|exact z55|apply z71))<;>((refine z82 rfl ?_;((exact z4 (fun _=>rfl)))))));rfl;rfl;rfl;rfl;rfl;(focus ((repeat' (first|exact z15|apply z14))<;>((refine z21 ?_;((exact z4 (fun _=>rfl)))))));(exact .inl rfl);conv=>whnf))
 exact z123 rfl (z4 fun _=>rfl) rfl rfl rfl
theorem z511 (a:Aut) (h1:a.ini.length≤100000) (h2:a.acc.length≤100000) (h3:a.ed.length≤100000):CallsA Tryz.prog 103 [.agg a.cs] [] (.agg [.sref 0 0 a.ini.length,.sref 1 0 a.acc.length,.sref 2 0 a.ed.length]) [.cells 1 (a.ini.map enI),.cells 1 (a.acc.map enB),.cells 4 (a.ed.map Trans.cs)]:=by
 have c1:=z353 a.ini (by omega)
 have c2:=clB_new a.acc (by omega)
 have c3:=clT_new a.ed (by omega)
 refine z13 z16 Tryz.func103 rfl rfl 13 Tryz.ntmps103 (by simp) ?_
 repeat' (first|(apply y76 ok;rfl;conv=>whnf)|(apply z31;kernel_rfl;conv=>whnf)|(apply z132 [] [] [2] (c1);rfl;(focus ((repeat' (exact z55))<;>(fail)));rfl;rfl;rfl;rfl;rfl;(focus ((repeat' (first|exact z15|apply z14))<;>((refine z21 ?_;((exact z4 (fun _=>rfl)))))));(exact .inl rfl);conv=>whnf)|(apply z132 [] [] [3] (c2);rfl;(focus ((repeat' (exact z55))<;>(fail)));rfl;rfl;rfl;rfl;rfl;(focus ((repeat' (first|exact z15|apply z14))<;>((refine z21 ?_;((exact z4 (fun _=>rfl)))))));(exact .inl rfl);conv=>whnf)|(apply z132 [] [] [4] (c3);rfl;(focus ((repeat' (exact z55))<;>(fail)));rfl;rfl;rfl;rfl;rfl;(focus ((repeat' (first|exact z15|apply z14))<;>((refine z21 ?_;((exact z4 (fun _=>rfl)))))));(exact .inl rfl);conv=>whnf))
 exact z115 [2,3,4] (by decide) rfl rfl rfl ⟨z35 rfl (z4 fun _=>rfl),z35 rfl (z4 fun _=>rfl),z35 rfl (z4 fun _=>rfl),trivial⟩
theorem z637 {Q:List Int} {x:Int} (h:x ∉ Q):z154 Q x=Q++[x]:=by unfold z154;rw [if_neg h]
theorem z636 {Q:List Int} {x:Int} (h:x∈Q):z154 Q x=Q:=by unfold z154;rw [if_pos h]
theorem z547 {Q Q' : List Int} {x:Int} (h:Q'=Q++[x]):((Q.map enI).take Q.length)++[enI x]=Q'.map enI:=by
 subst h
 rw [y50 (by simp),y56];rfl
set_option maxHeartbeats 1600000 in
theorem z779 (rows:List (List Int)) (ini:List Int) (hr:∀ r∈rows,InN rows.length r) (hi:InN rows.length ini) (hN:rows.length≤1048576) (hrl:∀ r∈rows,r.length≤1000000000) (hil:ini.length≤1048576):CallsA Tryz.prog 168 [lst 1 encL rows,ints ini] [] (.sref 0 0 (bfsL rows ini).length) [.cells 1 ((bfsL rows ini).map enI)]:=by
 refine z13 z16 Tryz.func168 rfl rfl 83 Tryz.ntmps168 (by simp) ?_
 repeat' (first|(apply y76 ok;rfl;conv=>whnf)|(apply y36;((dsimp only;omega));conv=>whnf))
 refine z97 (fun i:Nat=>([(0,lst 1 encL rows),(1,ints ini),(5,.sref 0 0 rows.length),(6,.sref 1 0 (z73 [] (ini.take i)).length),(7,.int i)],[.cells 1 ((mkB rows.length (z73 [] (ini.take i))).map enB),.cells 1 ((z73 [] (ini.take i)).map enI)])) (fun i=>i≤ini.length) (fun i=>ini.length - i) 0 (by omega) ⟨[0,1],rfl,by decide,rfl,⟨⟨rfl,rfl⟩,⟨rfl,rfl⟩,⟨rfl,rfl⟩,⟨rfl,rfl⟩,⟨rfl,rfl⟩,trivial⟩,⟨z35 (z61 (by show _=(mkB rows.length []).map enB;rw [z773,List.map_replicate];rfl)) (z4 fun _=>rfl),z35 rfl (z4 fun _=>rfl),trivial⟩⟩ ?_
 intro i hil2
 have hQn:(z73 [] (ini.take i)).length≤rows.length:=z129 _ _ (z135 (by simp)) (z212 (fun x hx=>by cases hx) fun x hx=>hi x (List.mem_of_mem_take hx))
 by_cases hil3:i < ini.length
 ·have hx:=hi ini[i] (y37 _)
  have hv:=z233 (out:=[]) hil3
  by_cases hn:ini[i] ∉ z73 [] (ini.take i)
  ·repeat' (first|(apply y76 ok;rfl;conv=>whnf)|(refine z276 (enc:=enB) (v:=ini[i]) (by rfl) hx.1 hx.2 ?_;conv=>whnf)|(apply y36;(first|omega|(unfold inI;omega)|((try dsimp only);simp only [y42,y41,y40,y39,y51,y52];omega)|exact ⟨rfl,z18 rfl z25⟩);conv=>whnf)|(with_reducible apply z8;omega;intro _;conv=>whnf)|(apply z5<;>intro _<;>conv=>whnf)|(apply z40<;>intro _<;>conv=>whnf))
   all_goals first|(exfalso;omega)|(exfalso;simp_all;done)|skip
   rw [z637 hn] at hv
   exact z86 (i+1) [0,3] (by omega) (by omega) ⟨rfl,by decide,rfl,⟨⟨rfl,rfl⟩,⟨rfl,rfl⟩,⟨rfl,rfl⟩,⟨rfl,z247 (by rw [hv];simp) rfl⟩,⟨rfl,rfl⟩,trivial⟩,⟨z35 (z61 (z380 (enc:=enB) (by rfl) hx.1 hx.2 fun v=>by rw [hv];simp)) (z4 fun _=>rfl),z35 (z61 (z547 hv)) (z4 fun _=>rfl),trivial⟩⟩
  ·have hn:=Decidable.not_not.1 hn
   repeat' (first|(apply y76 ok;rfl;conv=>whnf)|(refine z276 (enc:=enB) (v:=ini[i]) (by rfl) hx.1 hx.2 ?_;conv=>whnf)|(apply y36;(first|omega|(unfold inI;omega)|((try dsimp only);simp only [y42,y41,y40,y39,y51,y52];omega)|exact ⟨rfl,z18 rfl z25⟩);conv=>whnf)|(with_reducible apply z8;omega;intro _;conv=>whnf)|(apply z5<;>intro _<;>conv=>whnf)|(apply z40<;>intro _<;>conv=>whnf))
   all_goals first|(exfalso;omega)|(exfalso;simp_all;done)|skip
   rw [z636 hn] at hv
   exact z86 (i+1) [0,1] (by omega) (by omega) ⟨rfl,by decide,rfl,⟨⟨rfl,rfl⟩,⟨rfl,rfl⟩,⟨rfl,rfl⟩,⟨rfl,z247 (by rw [hv]) rfl⟩,⟨rfl,rfl⟩,trivial⟩,⟨z35 (z61 (by rw [hv])) (z4 fun _=>rfl),z35 (z61 (by rw [hv])) (z4 fun _=>rfl),trivial⟩⟩
 repeat' (first|(apply y76 ok;rfl;conv=>whnf)|(apply y36;(omega);conv=>whnf)|(with_reducible apply z8;omega;intro _;conv=>whnf)|(apply z8;omega;intro _;conv=>whnf)|(apply z5<;>intro _<;>conv=>whnf)|(apply z93<;>intro _<;>conv=>whnf))
 all_goals try (exfalso;omega)
 obtain rfl:i=ini.length:=by omega
 rw [y49]
 clear hQn
 refine z97 (fun i:Nat=>([(0,lst 1 encL rows),(5,.sref 0 0 rows.length),(6,.sref 1 0 (bfs rows ini i).length),(8,.int i)],[.cells 1 ((mkB rows.length (bfs rows ini i)).map enB),.cells 1 ((bfs rows ini i).map enI)])) (fun i=>i≤(bfs rows ini i).length) (fun i=>rows.length - i) 0 (by omega) ⟨[0,1],rfl,by decide,rfl,⟨⟨rfl,rfl⟩,⟨rfl,rfl⟩,⟨rfl,rfl⟩,⟨rfl,rfl⟩,trivial⟩,⟨z35 rfl (z4 fun _=>rfl),z35 rfl (z4 fun _=>rfl),trivial⟩⟩ ?_
 intro i hi1
 have hbl:=z398 hr hi i
 by_cases hi2:i < (bfs rows ini i).length
 ·have hq:=z368 hr hi i _ (y37 hi2)
  have hb:=bfs.eq_2 rows ini i
  rw [dif_pos hi2] at hb
  have hnd:=z510 (rows:=rows) (ini:=ini) i
  have hin:=z368 hr hi i
  generalize hQ0:bfs rows ini i=Q0 at *
  have hqr:Q0[i].toNat < rows.length:=by omega
  have hrow:rows.getD Q0[i].toNat []=rows[Q0[i].toNat]:=z20 hqr
  have hrin:InN rows.length rows[Q0[i].toNat]:=hr _ (y37 _)
  have hrl2:=hrl rows[Q0[i].toNat] (y37 _)
  rw [hrow] at hb
  repeat' (first|(apply y76 ok;rfl;conv=>whnf)|(apply z5<;>intro _<;>conv=>whnf))
  all_goals try (exfalso;omega)
  refine z97 (fun k:Nat=>([(0,lst 1 encL rows),(5,.sref 0 0 rows.length),(6,.sref 1 0 (z73 Q0 (rows[Q0[i].toNat].take k)).length),(8,.int i),(9,.int k)],[.cells 1 ((mkB rows.length (z73 Q0 (rows[Q0[i].toNat].take k))).map enB),.cells 1 ((z73 Q0 (rows[Q0[i].toNat].take k)).map enI)])) (fun k=>k≤rows[Q0[i].toNat].length) (fun k=>rows[Q0[i].toNat].length - k) 0 (by omega) ⟨[0,1],rfl,by decide,rfl,⟨⟨rfl,rfl⟩,⟨rfl,rfl⟩,⟨rfl,rfl⟩,⟨rfl,rfl⟩,⟨rfl,rfl⟩,trivial⟩,⟨z35 rfl (z4 fun _=>rfl),z35 rfl (z4 fun _=>rfl),trivial⟩⟩ ?_
  intro k hk1
  have hQn:(z73 Q0 (rows[Q0[i].toNat].take k)).length≤rows.length:=z129 _ _ (z135 hnd) (z212 hin fun x hx=>hrin x (List.mem_of_mem_take hx))
  obtain ⟨t,ht⟩:=z371 Q0 (rows[Q0[i].toNat].take k)
  have hgl:i < (z73 Q0 (rows[Q0[i].toNat].take k)).length:=by rw [ht,y40];omega
  have hg:((z73 Q0 (rows[Q0[i].toNat].take k)).map enI)[i]?=some (enI Q0[i]):=by
   rw [ht,y56,y58 (by simpa using hi2),y44,y38 hi2];rfl
  by_cases hk2:k < rows[Q0[i].toNat].length
  ·have hx:=hrin rows[Q0[i].toNat][k] (y37 _)
   have hv:=z233 (out:=Q0) hk2
   by_cases hn:rows[Q0[i].toNat][k] ∉ z73 Q0 (rows[Q0[i].toNat].take k)
   ·repeat' (first|(apply y76 ok;rfl;conv=>whnf)|(refine z276 (enc:=enB) (v:=rows[Q0[i].toNat][k]) (by rfl) hx.1 hx.2 ?_;conv=>whnf)|(refine z12 (i:=i) (by rfl) hg ?_;conv=>whnf)|(apply y36;(first|omega|(unfold inI;omega)|((try dsimp only);simp only [y42,y41,y40,y39,y51,y52];omega)|exact ⟨rfl,z18 rfl z25⟩);conv=>whnf)|(with_reducible apply z8;omega;intro _;conv=>whnf)|(with_reducible apply z87;omega;intro _;conv=>whnf)|(apply z5<;>intro _<;>conv=>whnf)|(apply z40<;>intro _<;>conv=>whnf))
    all_goals first|(exfalso;omega)|(exfalso;simp_all;done)|skip
    rw [z637 hn] at hv
    exact z86 (k+1) [0,3] (by omega) (by omega) ⟨rfl,by decide,rfl,⟨⟨rfl,rfl⟩,⟨rfl,rfl⟩,⟨rfl,z247 (by rw [hv];simp) rfl⟩,⟨rfl,rfl⟩,⟨rfl,rfl⟩,trivial⟩,⟨z35 (z61 (z380 (enc:=enB) (by rfl) hx.1 hx.2 fun v=>by rw [hv];simp)) (z4 fun _=>rfl),z35 (z61 (z547 hv)) (z4 fun _=>rfl),trivial⟩⟩
   ·have hn:=Decidable.not_not.1 hn
    repeat' (first|(apply y76 ok;rfl;conv=>whnf)|(refine z276 (enc:=enB) (v:=rows[Q0[i].toNat][k]) (by rfl) hx.1 hx.2 ?_;conv=>whnf)|(refine z12 (i:=i) (by rfl) hg ?_;conv=>whnf)|(apply y36;(first|omega|(unfold inI;omega)|((try dsimp only);simp only [y42,y41,y40,y39,y51,y52];omega)|exact ⟨rfl,z18 rfl z25⟩);conv=>whnf)|(with_reducible apply z8;omega;intro _;conv=>whnf)|(with_reducible apply z87;omega;intro _;conv=>whnf)|(apply z5<;>intro _<;>conv=>whnf)|(apply z40<;>intro _<;>conv=>whnf))
    all_goals first|(exfalso;omega)|(exfalso;simp_all;done)|skip
    rw [z636 hn] at hv
    exact z86 (k+1) [0,1] (by omega) (by omega) ⟨rfl,by decide,rfl,⟨⟨rfl,rfl⟩,⟨rfl,rfl⟩,⟨rfl,z247 (by rw [hv]) rfl⟩,⟨rfl,rfl⟩,⟨rfl,rfl⟩,trivial⟩,⟨z35 (z61 (by rw [hv])) (z4 fun _=>rfl),z35 (z61 (by rw [hv])) (z4 fun _=>rfl),trivial⟩⟩
  ·repeat' (first|(apply y76 ok;rfl;conv=>whnf)|(refine z12 (i:=i) (by rfl) hg ?_;conv=>whnf)|(apply y36;(first|omega|(unfold inI;omega));conv=>whnf)|(with_reducible apply z8;omega;intro _;conv=>whnf)|(with_reducible apply z87;omega;intro _;conv=>whnf)|(apply z8;omega;intro _;conv=>whnf)|(apply z5<;>intro _<;>conv=>whnf)|(apply z93<;>intro _<;>conv=>whnf))
   all_goals try (exfalso;omega)
   rw [y50 (by omega)] at hgl
   refine z86 (i+1) [0,1] ?_ (by omega) ⟨rfl,by decide,rfl,⟨⟨rfl,rfl⟩,⟨rfl,rfl⟩,⟨rfl,z247 ?_ rfl⟩,⟨rfl,rfl⟩,trivial⟩,⟨z35 (z61 ?_) (z4 fun _=>rfl),z35 (z61 ?_) (z4 fun _=>rfl),trivial⟩⟩
   ·rw [hb];exact hgl
   all_goals (rw [hb,y50 (by omega)])
 ·repeat' (first|(apply y76 ok;rfl;conv=>whnf)|(apply z5<;>intro _<;>conv=>whnf))
  all_goals try (exfalso;omega)
  have he:bfs rows ini i=bfsL rows ini:=z857 hr hi (by omega) (by omega)
  rw [he]
  exact z123 rfl (z4 fun _=>rfl) rfl rfl rfl
theorem z897 (rows:List (List Int)) (ini:List Int) (hr:∀ r∈rows,InN rows.length r) (hi:InN rows.length ini) (hN:rows.length≤1048576) (hrl:∀ r∈rows,r.length≤1000000000) (hil:ini.length≤1048576):CallsA Tryz.prog 168 [lst 1 encL rows,ints ini] [] (ints (bfsL rows ini)) [] :=
 keepI (z779 rows ini hr hi hN hrl hil) rfl
theorem z221 {g:Graph} {a:Aut} (hG:GB g) (hA:AutP a) (ls:List Int):(∀ r∈z38 g ls a,InN (z38 g ls a).length r)∧InN (z38 g ls a).length a.ini∧(z38 g ls a).length≤3840∧(∀ r∈z38 g ls a,r.length≤1000000000)∧a.ini.length≤1048576:=by
 have hrl:(z38 g ls a).length=g.st.length * a.acc.length:=by unfold z38;rw [z85,Nat.mul_comm]
 have hN:=z169 (a:=(g.st.length:Int)) (b:=(a.acc.length:Int)) (A:=60) (B:=64) (by omega) (by have:=hG.1;omega) (by omega) (by have:=hA.1;omega)
 have hN2:((g.st.length * a.acc.length:Nat):Int)=(g.st.length:Int) * a.acc.length:=by simp
 have ha1:=hA.1
 refine ⟨fun r hr x hx=>?_,fun x hx=>?_,by omega,fun r hr=>?_,?_⟩
 ·rw [hrl];exact z766 g hG ls a hA r hr x hx
 ·obtain ⟨i,hi,rfl⟩:=List.mem_iff_getElem.1 hx
  have h1:=(hA.2.2.1 i hi hi).1
  have h2:=z169 (a:=(g.st.length:Int) - 1) (b:=(a.acc.length:Int)) (A:=60) (B:=64) (by have:=hG.1;omega) (by have:=hG.1;omega) (by omega) (by omega)
  rw [Int.sub_mul,Int.one_mul] at h2
  omega
 ·have:=z669 g hG ls a hA r hr;omega
 ·have:=hA.2.2.1.le (by omega);omega
structure Cert.ok (c:Cert):Prop where
 mx:c.mx
 len:c.ranks.length≤1048576
theorem Cert.ok_of {c:Cert} (h:c.mx) (h1:c.s1≤1048576):c.ok:=⟨h,h1⟩
theorem bor_tup {objs:Nat→AObj} {π Bn:List Nat} {xs ys:List AC} (h:borL objs π Bn xs=ys):bor objs π Bn (.tup xs)=.tup ys:=by
 simp only [bor,h]
end Go.Proofs.YtahhobgjcfionaaGreat
namespace Go.Proofs.YtahhobgjcfionaaGreat
open Go.Gl
attribute [local irreducible] z19 AWP z36 z44 z39 RetS z47
theorem trA_len (t:Tree) (hs:t.sz≤200):(trA t).ini.length≤32∧(trA t).acc.length≤66∧(trA t).ed.length≤2080:=by
 unfold trA trO
 by_cases h:bscB t=true
 ·rw [if_pos h]
  obtain ⟨⟨ht,hn⟩,h5⟩:=of_decide_eq_true (show decide _=true from h)
  have hp:=pow_5 h5
  have hi:=z839 (bscL (t.nrm false)) (t.nrm false)
  cases hS:trS (bscL (t.nrm false)) (t.nrm false) with
  |none=>exact ⟨y46 _,y46 _,y46 _⟩
  |some y =>
   have hg:=z1045 _ _ _ _ _ _ hS
   simp only [y52] at hg
   show (numI _).length≤32∧(if y.L.length=0 then [false] else y.acc).length≤66∧(y.ed.map eT).length≤2080
   rw [z596,y42]
   refine ⟨by omega,?_,by omega⟩
   split
   ·simp
   ·omega
 ·rw [if_neg h];exact ⟨y46 _,y46 _,y46 _⟩
theorem letB_lt {B:List Tree} (hB:BasL B) (s:Int) (i:Nat):((List.range i).foldl (atoI B s) (0,0)).2 < 8:=by
 induction i with
 |zero=>show 0 < 8;omega
 |succ i ih =>
  rw [z399]
  unfold atoI
  split
  ·rename_i hk
   dsimp only
   split
   ·by_cases hil:i < B.length
    ·have hmem:B.getD i dftT∈B:=by rw [z20 hil];exact y37 _
     have hform:=hB.form hmem
     have hvv:(B.getD i dftT).val.toNat≤2:=by
      generalize B.getD i dftT=f at *
      cases hform with
      |«at» v=>have:=hB.av v hmem;show v.toNat≤2;omega
      |nx a _ _=>simp [Tree.kind] at hk
      |un a b _ _ _ _=>simp [Tree.kind] at hk
      |re a b _ _ _ _=>simp [Tree.kind] at hk
     exact z673 ih hvv
    ·rw [y60,y61 (by omega)]
     exact z673 ih (show (0:Nat)≤2 by omega)
   ·exact ih
  ·exact ih
theorem z847 (B:List Tree) (s ph:Int) (i:Nat) (c v:Int):∀ (l:List Nat) (x:List (List Int)×List Edg),∀ e∈(l.foldl (z102 B s ph i c v) x).2,e∈x.2∨e.val=v
 |[],x,e,he=>.inl he
 |t::l,x,e,he=>by
  rw [List.foldl_cons] at he
  rcases z847 B s ph i c v l _ e he with h|h
  ·unfold z102 at h
   split at h
   ·rcases List.mem_append.1 h with h1|h1
    ·exact .inl h1
    ·rw [List.mem_singleton.1 h1];exact .inr rfl
   ·exact .inl h
  ·exact .inr h
theorem z1044 (B:List Tree) (U:List Int):∀ (f i:Nat) (x y:TrS),goS B U f i x=some y→∀ e∈y.ed,e∈x.ed∨∃ s,e.val=((letB B s).2:Int)
 |0,i,x,y,h=>by simp [goS] at h
 |f+1,i,x,y,h=>by
  rw [goS] at h
  split at h
  ·split at h
   ·cases h
   ·intro e he
    rcases z1044 B U f (i+1) _ y h e he with h1|h1
    ·rcases z847 B _ _ i _ _ _ _ e h1 with h2|h2
     ·exact .inl h2
     ·exact .inr ⟨_,h2⟩
    ·exact .inr h1
  ·cases h
   exact fun e he=>.inl he
theorem trA_val (t:Tree) (hs:t.sz≤200):∀ e∈(trA t).ed,e.mx:=by
 unfold trA trO
 by_cases h:bscB t=true
 ·rw [if_pos h]
  obtain ⟨⟨ht,hn⟩,h5⟩:=of_decide_eq_true (show decide _=true from h)
  obtain ⟨hB,_,_⟩:=z1080 ht hn h5 hs
  cases hS:trS (bscL (t.nrm false)) (t.nrm false) with
  |none=>intro e he;cases he
  |some y =>
   intro e he
   obtain ⟨e',he',rfl⟩:=List.mem_map.1 (show e∈y.ed.map eT from he)
   rcases z1044 _ _ _ _ _ _ hS e' he' with h1|⟨s,h1⟩
   ·cases h1
   ·have:=letB_lt hB s (bscL (t.nrm false)).length
    show inI e'.val
    unfold inI
    rw [h1]
    unfold letB
    omega
 ·rw [if_neg h];intro e he;cases he
theorem numI_ini (n m:Nat) (h:n≤m):IniP (numI n) m (numI n).length:=by
 intro i hi _
 have e:∀ j (hj:j < (numI n).length),(numI n)[j]=(j:Int):=fun j hj=>by simp [numI]
 have hl:=z596 n
 rw [e i hi]
 refine ⟨by omega,fun j hj=>?_⟩
 rw [e j (by omega)];omega
theorem ExI.valid {B:List Tree} {U:List Int} {n0 i:Nat} {x:TrS} (hB:BasL B) (h:ExI B U n0 i x) (h1:1≤n0) (hi:i≤64) (he:x.L.length≤i):autB ⟨numI n0,x.acc,x.ed.map eT⟩=true:=by
 have h2:=h.base;have h3:=h.acc;have h4:=h.edl;have h5:=h.le
 have hp:=pow_5 hB.len
 have hmul:i * 2 ^ B.length≤64 * 32:=Nat.mul_le_mul hi hp.2
 rw [z126]
 refine ⟨⟨by show 1≤x.acc.length;omega,by show x.acc.length≤64;omega⟩,by show (x.ed.map eT).length≤2048;rw [y42];omega,numI_ini n0 x.acc.length (by omega),fun e he=>?_⟩
 obtain ⟨e',he',rfl⟩:=List.mem_map.1 he
 obtain ⟨⟨a1,a2⟩,⟨a3,a4⟩,s,a5,a6⟩:=h.ed e' he'
 have l1:(letB B s).1 < 8:=by
  have:∀ n,((List.range n).foldl (atoI B s) (0,0)).1 < 8:=by
   intro n
   induction n with
   |zero=>show (0:Nat) < 8;omega
   |succ n ih =>
    rw [z399]
    unfold atoI
    split
    ·rename_i hk
     refine z673 ih ?_
     by_cases hil:n < B.length
     ·have hmem:B.getD n dftT∈B:=by rw [z20 hil];exact y37 _
      have hform:=hB.form hmem
      generalize B.getD n dftT=f at *
      cases hform with
      |«at» v=>have:=hB.av v hmem;show v.toNat≤2;omega
      |nx a _ _=>simp [Tree.kind] at hk
      |un a b _ _ _ _=>simp [Tree.kind] at hk
      |re a b _ _ _ _=>simp [Tree.kind] at hk
     ·rw [y60,y61 (by omega)]
      show (0:Nat)≤2;omega
    ·exact ih
  exact this _
 refine ⟨⟨a1,?_⟩,⟨a3,?_⟩,⟨?_,?_⟩,?_,?_⟩
 ·show e'.src≤(x.acc.length:Int) - 1;omega
 ·show e'.dst≤(x.acc.length:Int) - 1;omega
 ·show 0≤e'.care;omega
 ·show e'.care≤7;omega
 ·show 0≤e'.val;omega
 ·show e'.val.toNat &&& e'.care.toNat=e'.val.toNat
  rw [a5,a6];exact letB_sub B s
theorem z296 (N:Nat):List.replicate N [AC.int 0]=(fnL N fun _=>0).map enI:=by
 apply y67 (by simp [fnL])
 intro i h1 h2
 simp [fnL,enI]
theorem z699 {N:Nat} {f g:Nat→Int} (h:∀ i,i < N→f i=g i):fnL N f=fnL N g:=List.map_congr_left fun i hi=>h i (List.mem_range.1 hi)
theorem z394 {N i:Nat} (f:Nat→Int) (h:i < (fnL N f).length):(fnL N f)[i]=f i:=by simp [fnL]
set_option maxHeartbeats 12800000 in
theorem z540 (rows:List (List Int)) (hr:∀ r∈rows,InN rows.length r) (hN:rows.length≤100000) (hrl:∀ r∈rows,r.length≤1000000000):CallsA Tryz.prog 206 [lst 1 encL rows] [] (.sref 0 0 rows.length) [.cells 1 ((cmpL rows).map enI)]:=by
 refine z7 z16 Tryz.func206 rfl rfl 77 Tryz.ntmps206 (by simp) ?_
 repeat' ((first|(apply y76 ok;rfl)|(apply z31;kernel_rfl)|(apply y36;(dsimp only;omega)))<;>conv=>whnf)
 obtain ⟨qm,hqm⟩:∃ qm:Nat→Nat→Int,qm=fun i j=>if j < i then -1 else 0:=⟨_,rfl⟩
 have q0:qm 0=fun _=>0:=by rw [hqm];rfl
 have qE:fnL rows.length (qm rows.length)=fnL rows.length fun _=>-1:=z699 fun i hi=>by rw [hqm];dsimp only;rw [if_pos hi]
 have qS:∀ i,qm (i+1)=upd (qm i) i (-1):=fun i=>by
  funext j
  by_cases h:j=i
  ·subst h;rw [z24,hqm];dsimp only;rw [if_pos (by omega)]
  ·rw [z43 _ _ h,hqm];dsimp only;split<;>split<;>first|rfl|omega
 clear hqm
 refine z65 (fun i:Nat=>([(1,.ptr 0 none 0),(3,.int rows.length),(4,.ptr 4 none 0),(5,.ptr 5 none 0),(6,.ptr 6 none 0),(27,.int rows.length),(28,.int i)],[.cells 1 [[lst 1 encL rows]],.cells 1 ((fnL rows.length fun _=>0).map enI),.cells 1 ((fnL rows.length fun _=>0).map enI),.cells 1 ((fnL rows.length (qm i)).map enI),.cells 1 [[.sref 1 0 rows.length]],.cells 1 [[.sref 2 0 rows.length]],.cells 1 [[.sref 3 0 rows.length]]])) (fun i=>i≤rows.length) (fun i=>rows.length - i) 0 (y46 _) (by refine swR [0,1,2,3,4,5,6] [] rfl rfl ?_;(repeat' first|exact y78 _|apply y79|refine z10 rfl (z64 rfl) ?_|constructor)<;>(first|(refine z26 ?_;exact z296 _)|(refine z26 ?_;rw [q0];exact z296 _))) ?_
 intro i hi
 by_cases hi2:i < rows.length
 ·have g1:=z152 (qm i) hi2
  have l1:=z95 rows.length (qm i)
  have e1:=z131 (N:=rows.length) (u:=i) (qm i) (-1)
  rw [← qS] at e1
  repeat' ((first|(apply y76 ok;rfl)|(refine z12 (i:=i) rfl g1 ?_)|(apply y36;first|omega|(unfold inI;omega))|((apply z5)<;>intro _))<;>conv=>whnf)
  all_goals try (exfalso;omega)
  all_goals refine z23 (i+1) hi2 (by omega) (by refine swR [0,1,2,3,4,5,6] [] rfl rfl ?_;(repeat' first|exact y78 _|exact z9 _|apply y79|refine z41 rfl (z4 (fun _=>rfl)) ?_|refine z10 rfl (z4 (fun _=>rfl)) ?_|constructor)<;>((refine z26 ?_;exact e1)))
 obtain rfl:i=rows.length:=by omega
 rw [qE]
 clear qE qS q0
 repeat' ((first|(apply y76 ok;rfl)|(apply y36;omega)|(((apply z8;omega));intro _)|((apply z5)<;>intro _))<;>conv=>whnf)
 all_goals try (exfalso;omega)
 obtain ⟨S,hS⟩:∃ S:Nat→TS,S=fun k=>(List.range k).foldl (tTop rows) z336:=⟨_,rfl⟩
 have hTT:∀ k,k≤rows.length→TT rows (S k) k:=fun k hk=>by rw [hS];exact z577 hr k hk
 have hS0:S 0=z336:=by rw [hS];rfl
 have hSs:∀ k,S (k+1)=tTop rows (S k) k:=fun k=>by
  rw [hS];show (List.range (k+1)).foldl _ _=_
  rw [y54,y55];rfl
 have hSE:S rows.length=tAll rows:=by rw [hS];rfl
 clear hS
 refine z65 (fun k:Nat=>([(1,.ptr 6 none 0),(4,.ptr 1 none 0),(6,.ptr 8 none 0),(11,.ptr 7 none 0),(36,.int rows.length),(37,.int k)],z1004 rows (S k))) (fun k=>k≤rows.length) (fun k=>rows.length - k) 0 (y46 _) (by refine swR [8,4,1,5,2,7,0,10,6,3,9] [] rfl rfl ?_;(repeat' first|exact y78 _|apply y79|refine z10 rfl (z4 (fun _=>rfl)) ?_|constructor)<;>(first|(rw [hS0];exact y78 _)|(rw [hS0];exact z9 _)|(rw [hS0];exact z598))) ?_
 intro k hk
 have hT:=hTT k hk
 have hTn:∀ h:k < rows.length,TT rows (S (k+1)) (k+1):=fun h=>hTT (k+1) h
 by_cases hk2:k < rows.length
 ·have hs2:=hSs k
  generalize hS1:S k=s1 at *
  generalize hS2:S (k+1)=s2 at *
  have g1:=z152 s1.num hk2
  have l1:=z95 rows.length s1.num
  unfold tTop at hs2
  by_cases h0:s1.num k=0
  ·rw [if_pos h0] at hs2
   have cV:=z865 rows hr hN hrl rows.length s1 [] k (by have:=hT.inv.ct;omega) hT.inv h0 hk2 (by simp) hT.prt
   rw [← hs2] at cV
   repeat' ((first|(apply y76 ok;rfl)|(refine z12 (i:=k) rfl g1 ?_)|(apply y36;first|omega|(unfold inI;omega))|((apply z5)<;>intro _)|(apply z147 [0,1,2,3,4,5,6,7,8,9,10] [] cV;rfl;(focus ((repeat' first|exact z55|apply z71)<;>first|rfl|(refine z82 rfl ?_;((exact z4 fun _=>rfl)))));rfl;(focus ((repeat' first|exact z15|apply z14)<;>first|exact z46 rfl rfl|(refine z21 ?_;((exact z4 fun _=>rfl)))))))<;>conv=>whnf)
   all_goals try (exfalso;omega)
   all_goals refine z23 (k+1) hk2 (by omega) ?_
   all_goals dsimp only
   all_goals rw [hS2]
   all_goals exact (by refine swR [0,1,2,3,4,5,6,7,8,9,10] [] rfl rfl ?_;(repeat' first|exact y78 _|exact z9 _|apply y79|refine z10 rfl (z4 (fun _=>rfl)) ?_|constructor))
  ·rw [if_neg h0] at hs2
   repeat' ((first|(apply y76 ok;rfl)|(refine z12 (i:=k) rfl g1 ?_)|(apply y36;first|omega|(unfold inI;omega))|((apply z5)<;>intro _))<;>conv=>whnf)
   all_goals try (exfalso;omega)
   all_goals refine z23 (k+1) hk2 (by omega) ?_
   all_goals dsimp only
   all_goals rw [hS2,hs2]
   all_goals exact (by refine swR [0,1,2,3,4,5,6,7,8,9,10] [] rfl rfl ?_;(repeat' first|exact y78 _|exact z9 _|apply y79|refine z10 rfl (z4 (fun _=>rfl)) ?_|constructor))
 obtain rfl:k=rows.length:=by omega
 rw [hSE]
 clear hTT hS0 hSs hSE hTn hT
 have hcmp:cmpL rows=(List.range rows.length).map fun i=>nmI (fnL rows.length (tAll rows).part) i:=rfl
 obtain ⟨P,hP⟩:∃ P,P=fnL rows.length (tAll rows).part:=⟨_,rfl⟩
 rw [← hP] at hcmp
 have hPl:P.length=rows.length:=by rw [hP,z95]
 generalize tAll rows=s0 at *
 obtain ⟨pm,hpm⟩:∃ pm:Nat→Nat→Int,pm=fun i j=>if j < i then nmI P j else s0.part j:=⟨_,rfl⟩
 have q0:pm 0=s0.part:=by rw [hpm];funext j;simp
 have qE:fnL rows.length (pm rows.length)=cmpL rows:=by
  rw [hcmp]
  exact z699 fun i hi=>by rw [hpm];dsimp only;rw [if_pos hi]
 have qA:∀ i (h:i < rows.length),pm i i=P[i]'(by omega):=fun i h=>by
  rw [hpm];dsimp only;rw [if_neg (by omega)]
  simp only [hP,z394]
 have qS:∀ i,pm (i+1)=upd (pm i) i (nmI P i):=fun i=>by
  funext j
  by_cases h:j=i
  ·subst h;rw [z24,hpm];dsimp only;rw [if_pos (by omega)]
  ·rw [z43 _ _ h,hpm];dsimp only;split<;>split<;>first|rfl|omega
 clear hpm hcmp
 repeat' ((first|(apply y76 ok;rfl)|(apply y36;omega)|(((apply z8;omega));intro _)|((apply z5)<;>intro _))<;>conv=>whnf)
 all_goals try (exfalso;omega)
 refine z65 (fun i:Nat=>([(6,.ptr 1 none 0),(13,.mref 0),(50,.sref 2 0 rows.length),(51,.int rows.length),(52,.int i)],[.mp 0 (z228 0 (metL P i)),.cells 1 [[.sref 2 0 rows.length]],.cells 1 ((fnL rows.length (pm i)).map enI)])) (fun i=>i≤rows.length) (fun i=>rows.length - i) 0 (y46 _) (by refine swR [11,8,9] [] rfl rfl ?_;(repeat' first|exact y78 _|apply y79|refine z10 rfl (z4 (fun _=>rfl)) ?_|constructor)<;>(first|(rw [q0];exact z9 _)|rfl)) ?_
 intro i hi
 by_cases hi2:i < rows.length
 ·have g1:=z152 (pm i) hi2
  have l1:=z95 rows.length (pm i)
  have e1:=z131 (N:=rows.length) (u:=i) (pm i) (nmI P i)
  rw [← qS] at e1
  rw [qA i hi2] at g1
  have hiP:i < P.length:=by omega
  have m1:=z481 P[i] 0 (metL P i)
  have m2:=z481 P[i] 0 (metL P (i+1))
  rw [if_pos (z601 hiP),Nat.zero_add,← nmI_at hiP] at m2
  have m3:=z348 hiP
  have m4:=z503 0 (metL P i)
  by_cases hp:P[i]∈metL P i
  ·rw [if_pos hp] at m1
   have m5:metL P (i+1)=metL P i:=by rw [m3];unfold z154;rw [if_pos hp]
   rw [m5] at m2
   generalize hes:z228 0 (metL P i)=es at *
   generalize hes2:z228 0 (metL P (i+1))=es2 at *
   have m6:es2=es:=by rw [← hes2,m5,hes]
   generalize nmI P i=nm at *
   generalize P[i]=p at *
   repeat' ((first|(apply y76 ok;rfl)|(refine z12 (i:=i) rfl g1 ?_)|(rw [m2])|(apply y36;first|omega|(unfold inI;omega))|((apply z5)<;>intro _))<;>conv=>whnf)
   all_goals try (exfalso;omega)
   all_goals refine z23 (i+1) hi2 (by omega) ?_
   all_goals dsimp only
   all_goals rw [hes2,m6]
   all_goals exact (by refine swR [0,1,2] [] rfl rfl ?_;(repeat' first|exact y78 _|apply y79|refine z41 rfl (z4 (fun _=>rfl)) ?_|constructor)<;>(first|(refine z26 ?_;exact e1)|rfl))
  ·rw [if_neg hp] at m1
   have m5:metL P (i+1)=metL P i++[P[i]]:=by rw [m3];unfold z154;rw [if_neg hp]
   have m6:mput (z228 0 (metL P i)) [P[i]] (z228 0 (metL P i)).length=z228 0 (metL P (i+1)):=by
    rw [z677 _ _ _ hp,m5,z703,z503,Nat.zero_add]
   generalize hes:z228 0 (metL P i)=es at *
   generalize hes2:z228 0 (metL P (i+1))=es2 at *
   generalize nmI P i=nm at *
   generalize P[i]=p at *
   repeat' ((first|(apply y76 ok;rfl)|(refine z12 (i:=i) rfl g1 ?_)|(rw [m6])|(rw [m2])|(rw [m1])|(apply y36;first|omega|(unfold inI;omega))|((apply z5)<;>intro _))<;>conv=>whnf)
   all_goals try (exfalso;omega)
   all_goals refine z23 (i+1) hi2 (by omega) ?_
   all_goals dsimp only
   all_goals rw [hes2]
   all_goals exact (by refine swR [0,1,2] [] rfl rfl ?_;(repeat' first|exact y78 _|apply y79|refine z41 rfl (z4 (fun _=>rfl)) ?_|constructor)<;>(first|(refine z26 ?_;exact e1)|rfl))
 obtain rfl:i=rows.length:=by omega
 rw [qE]
 repeat' ((first|(apply y76 ok;rfl)|(apply y36;omega)|(((apply z8;omega));intro _)|((first|apply z5|apply z93)<;>intro _))<;>conv=>whnf)
 all_goals try (exfalso;omega)
 all_goals (refine rsD [2] [] rfl ?_;(repeat' first|exact y78 _|exact z9 _|refine z10 rfl (z4 (fun _=>rfl)) ?_|constructor))
def fnB (N:Nat) (f:Nat→Bool):List Bool:=(List.range N).map f
theorem z1052 (N:Nat) (f:Nat→Bool):(fnB N f).length=N:=by simp [fnB]
theorem z1053 {N u:Nat} (f:Nat→Bool) (h:u < N):((fnB N f).map enB)[u]?=some (enB (f u)):=by
 unfold fnB
 rw [y44,y44,List.getElem?_range h];rfl
theorem z844 {N u:Nat} (f:Nat→Bool) (x:Bool):((fnB N f).map enB).set u (enB x)=(fnB N (upd f u x)).map enB:=by
 rw [← List.map_set]
 congr 1
 apply y67 (by simp [fnB])
 intro i h1 h2
 rw [List.getElem_set]
 simp only [fnB,List.getElem_map,List.getElem_range]
 split
 ·rename_i e;subst e;rw [z24]
 ·rename_i e;rw [z43 _ _ (fun h=>e h.symm)]
theorem z843 (N:Nat):List.replicate N [AC.bool false]=(fnB N fun _=>false).map enB:=by
 apply y67 (by simp [fnB])
 intro i h1 h2
 simp [fnB,enB]
set_option maxHeartbeats 12800000 in
theorem z920 (rows:List (List Int)) (hr:∀ r∈rows,InN rows.length r) (hN:rows.length≤100000) (hrl:∀ r∈rows,r.length≤1000000000):CallsA Tryz.prog 140 [lst 1 encL rows] [] (.sref 0 0 rows.length) [.cells 1 ((cycB rows).map enB)]:=by
 have cC:=z540 rows hr hN hrl
 have hPl:=z362 rows
 have hPi:=z1068 (rows:=rows)
 have hcy:=fun x hx=>cyc_cnt hr (x:=x) hx
 have hcl:=fun x (hx:x < rows.length)=>z796 hx
 have ccB:cycB rows=fnB rows.length (cycD rows):=rfl
 rw [ccB]
 generalize cmpL rows=P at *
 refine z7 z16 Tryz.func140 rfl rfl 56 Tryz.ntmps140 (by simp) ?_
 repeat' ((first|(apply y76 ok;rfl)|(apply y36;(dsimp only;omega))|(apply z11 [] [0] cC;rfl;rfl;rfl;(focus ((repeat' first|exact z15|apply z14)<;>(refine z21 ?_;((exact z4 fun _=>rfl)))))))<;>conv=>whnf)
 obtain ⟨cm,hcm⟩:∃ cm:Nat→Nat→Int,cm=fun i v=>((cntL P i v:Nat):Int):=⟨_,rfl⟩
 have c0:cm 0=fun _=>0:=by rw [hcm];funext v;simp [cntL]
 have cS:∀ i (h:i < P.length),cm (i+1)=upd (cm i) (P[i]).toNat (cm i (P[i]).toNat+1):=fun i h=>by
  have hp:=hPi _ (y37 h)
  funext v
  rw [hcm]
  dsimp only
  rw [z710 h]
  by_cases e:v=(P[i]).toNat
  ·rw [e,z24,if_pos (by omega)];omega
  ·rw [z43 _ _ e,if_neg (by omega)];omega
 have cE:∀ v,cm rows.length v=((cntL P rows.length v:Nat):Int):=fun v=>by rw [hcm]
 have cB:∀ i v,0≤cm i v∧cm i v≤i:=fun i v=>by rw [hcm];have:=cntL_le P i v;dsimp only;omega
 clear hcm
 refine z65 (fun i:Nat=>([(0,lst 1 encL rows),(3,.sref 0 0 rows.length),(4,.sref 1 0 rows.length),(14,.sref 0 0 rows.length),(15,.int rows.length),(16,.int i)],[.cells 1 (P.map enI),.cells 1 ((fnL rows.length (cm i)).map enI)])) (fun i=>i≤rows.length) (fun i=>rows.length - i) 0 (y46 _) (by refine swR [0,1] [] rfl rfl ?_;(repeat' first|exact y78 _|exact z9 _|((refine z10 rfl ?_ ?_);(focus ((repeat' (first|exact z64 rfl|exact z4 (fun _=>rfl)));done)))|constructor)<;>((refine z26 ?_;rw [c0];exact z296 _))) ?_
 intro i hi
 by_cases hi2:i < rows.length
 ·have hiP:i < P.length:=by omega
  have hp:=hPi _ (y37 hiP)
  have gp:(P.map enI)[i]?=some (enI P[i]):=by rw [y44,y38 hiP];rfl
  have cS2:=cS i hiP
  generalize P[i]=p at *
  obtain ⟨v,rfl⟩:∃ v:Nat,p=v:=⟨p.toNat,by omega⟩
  rw [y69] at cS2
  have hv:v < rows.length:=by omega
  have gv:=z152 (cm i) hv
  have l1:=z95 rows.length (cm i)
  have e1:=z131 (N:=rows.length) (u:=v) (cm i) (cm i v+1)
  rw [← cS2] at e1
  have b1:=cB i v
  repeat' ((first|(apply y76 ok;rfl)|(refine z12 (i:=i) rfl gp ?_)|(refine z12 (i:=v) rfl gv ?_)|(apply y36;first|omega|(unfold inI;omega))|((apply z5)<;>intro _))<;>conv=>whnf)
  all_goals try (exfalso;omega)
  all_goals refine z23 (i+1) hi2 (by omega) (by refine swR [0,1] [] rfl rfl ?_;(repeat' first|exact y78 _|exact z9 _|refine z41 rfl (z4 (fun _=>rfl)) ?_|refine z10 rfl (z4 (fun _=>rfl)) ?_|constructor)<;>((refine z26 ?_;exact e1)))
 obtain rfl:i=rows.length:=by omega
 repeat' ((first|(apply y76 ok;rfl)|(apply y36;first|omega|(dsimp only;omega))|(((apply z8;omega));intro _)|((apply z5)<;>intro _))<;>conv=>whnf)
 all_goals try (exfalso;omega)
 obtain ⟨bm,hbm⟩:∃ bm:Nat→Nat→Bool,bm=fun i j=>if j < i then cycD rows j else false:=⟨_,rfl⟩
 have b0:bm 0=fun _=>false:=by rw [hbm];rfl
 have bE:fnB rows.length (bm rows.length)=fnB rows.length (cycD rows):=List.map_congr_left fun i hi=>by
  have:=List.mem_range.1 hi
  rw [hbm];dsimp only;rw [if_pos this]
 have bS:∀ i,bm (i+1)=upd (bm i) i (cycD rows i):=fun i=>by
  funext j
  by_cases h:j=i
  ·subst h;rw [z24,hbm];dsimp only;rw [if_pos (by omega)]
  ·rw [z43 _ _ h,hbm];dsimp only;split<;>split<;>first|rfl|omega
 clear hbm
 refine z65 (fun i:Nat=>([(0,lst 1 encL rows),(3,.sref 0 0 rows.length),(4,.sref 1 0 rows.length),(7,.sref 2 0 rows.length),(31,.int rows.length),(32,.int i)],[.cells 1 (P.map enI),.cells 1 ((fnL rows.length (cm rows.length)).map enI),.cells 1 ((fnB rows.length (bm i)).map enB)])) (fun i=>i≤rows.length) (fun i=>rows.length - i) 0 (y46 _) (by refine swR [0,1,2] [] rfl rfl ?_;(repeat' first|exact y78 _|exact z9 _|((refine z10 rfl ?_ ?_);(focus ((repeat' (first|exact z64 rfl|exact z4 (fun _=>rfl)));done)))|constructor)<;>((refine z26 ?_;rw [b0];exact z843 _))) ?_
 intro i hi
 by_cases hi2:i < rows.length
 ·have hiP:i < P.length:=by omega
  have hp:=hPi _ (y37 hiP)
  have gp:(P.map enI)[i]?=some (enI P[i]):=by rw [y44,y38 hiP];rfl
  have hc:=hcy i hi2
  have e1:=z844 (N:=rows.length) (u:=i) (bm i) (cycD rows i)
  rw [← bS] at e1
  rw [z20 hiP] at hc
  generalize P[i]=p at *
  obtain ⟨v,rfl⟩:∃ v:Nat,p=v:=⟨p.toNat,by omega⟩
  rw [y69] at hc
  have hv:v < rows.length:=by omega
  have gv:=z152 (cm rows.length) hv
  have l1:=z95 rows.length (cm rows.length)
  have l2:=z1052 rows.length (bm i)
  have g2:=z1053 (bm i) hi2
  have gr:=z467 hi2
  have hrow:(rows.getD i []).length≤1000000000:=by rw [z20 hi2];exact hrl _ (y37 _)
  have cct:=z163 (rows.getD i []) (by unfold maxLen;omega) i
  rw [cE] at gv
  generalize cycD rows i=cy at *
  generalize rows.getD i []=row at *
  generalize cntL P rows.length v=cn at *
  by_cases h1:1 < cn
  ·rw [y73 h1,Bool.true_or] at hc
   subst hc
   repeat' ((first|(apply y76 ok;rfl)|(refine z12 (i:=i) rfl gp ?_)|(refine z12 (i:=v) rfl gv ?_)|(refine z12 (i:=i) rfl g2 ?_)|(refine z12 (i:=i) rfl gr ?_)|(apply y36;first|omega|(unfold inI;omega))|((apply z5)<;>intro _)|(apply z6 (cct);rfl;rfl))<;>conv=>whnf)
   all_goals try (exfalso;omega)
   all_goals refine z23 (i+1) hi2 (by omega) (by refine swR [0,1,2] [] rfl rfl ?_;(repeat' first|exact y78 _|exact z9 _|refine z41 rfl (z4 (fun _=>rfl)) ?_|refine z10 rfl (z4 (fun _=>rfl)) ?_|constructor)<;>((refine z26 ?_;exact e1)))
  ·rw [y74 h1,Bool.false_or] at hc
   rw [← hc] at cct
   repeat' ((first|(apply y76 ok;rfl)|(refine z12 (i:=i) rfl gp ?_)|(refine z12 (i:=v) rfl gv ?_)|(refine z12 (i:=i) rfl g2 ?_)|(refine z12 (i:=i) rfl gr ?_)|(apply y36;first|omega|(unfold inI;omega))|((apply z5)<;>intro _)|(apply z6 (cct);rfl;rfl))<;>conv=>whnf)
   all_goals try (exfalso;omega)
   all_goals refine z23 (i+1) hi2 (by omega) (by refine swR [0,1,2] [] rfl rfl ?_;(repeat' first|exact y78 _|exact z9 _|refine z41 rfl (z4 (fun _=>rfl)) ?_|refine z10 rfl (z4 (fun _=>rfl)) ?_|constructor)<;>((refine z26 ?_;exact e1)))
 obtain rfl:i=rows.length:=by omega
 rw [bE]
 repeat' ((first|(apply y76 ok;rfl)|(apply y36;omega)|((first|(with_reducible apply z8;omega)|(apply z8;omega));intro _)|((apply z5)<;>intro _))<;>conv=>whnf)
 all_goals try (exfalso;omega)
 all_goals (refine rsD [2] [] rfl ?_;(repeat' first|exact y78 _|exact z9 _|refine z10 rfl (z4 (fun _=>rfl)) ?_|constructor))
def inM (Q:List Int) (i:Nat):Bool:=decide ((i:Int)∈Q)
theorem inM_upd (Q:List Int) (w:Nat):inM (Q++[(w:Int)])=upd (inM Q) w true:=by
 funext j
 by_cases h:j=w
 ·subst h;rw [z24];unfold inM;simp
 ·rw [z43 _ _ h];unfold inM;congr 1
  have:¬ (j:Int)=w:=by omega
  simp [this]
theorem inM_nil:inM []=fun _=>false:=by funext j;simp [inM]
@[reducible] def findF:AC:=.fn (.func 169) [] [.ptr 0 none 0,.ptr 2 none 0]
@[reducible] def z1005 (N:Nat) (Q:List Int):List AObj:=[.cells 1 [[.sref 1 0 N]],.cells 1 ((fnB N (inM Q)).map enB),.cells 1 [[.own 1 (Q.map enI)]]]
set_option maxHeartbeats 3200000 in
theorem z700 (N : Nat) (hN : N ≤ 100000) (Q : List Int) (hQ : Q.length ≤ 100000) (v : Int) (hv : 0 ≤ v ∧ v < N) :
    CallsA Tryz.prog 169 [.int v,.ptr 0 none 0,.ptr 2 none 0] (z1005 N Q) (.tup []) (z1005 N (z154 Q v)):=by
  obtain ⟨w,rfl⟩:∃ w:Nat,v=w:=⟨v.toNat,by omega⟩
  have hw:w < N:=by omega
  have g1:=z1053 (inM Q) hw
  have l1:=z1052 N (inM Q)
  unfold z154
  by_cases h:(w:Int)∈Q
  · rw [if_pos h]
    have e:inM Q w=true:=by unfold inM;simp [h]
    rw [e] at g1
    refine z7 z16 Tryz.func169 rfl rfl 16 Tryz.ntmps169 (by simp) ?_
    repeat' ((first|(apply y76 ok;rfl)|(refine z12 (i:=w) rfl g1 ?_)|(apply y36;omega))<;>conv=>whnf)
    all_goals (refine rsD [0,1,2] [] rfl ?_;(repeat' first|exact y78 _|exact z9 _|apply y79|refine z10 rfl (z4 (fun _=>rfl)) ?_|constructor))
  · rw [if_neg h]
    have e:inM Q w=false:=by unfold inM;simp [h]
    rw [e] at g1
    have e1:=z844 (N:=N) (u:=w) (inM Q) true
    rw [← inM_upd] at e1
    have e2:(List.map enI Q).take (List.map enI Q).length++[enI (w:Int)]=(Q++[(w:Int)]).map enI:=by
      rw [y49];simp
    refine z7 z16 Tryz.func169 rfl rfl 16 Tryz.ntmps169 (by simp) ?_
    repeat' ((first|((fail_if_success apply z151 2);(fail_if_success apply z112 2);apply y76 ok;rfl)|(refine z12 (i:=w) rfl g1 ?_)|(apply y36;omega))<;>conv=>whnf)
    all_goals
      refine y77 (Gl.Reach.expose 2 0 0 rfl rfl rfl (z239 (fun _=>rfl) _) rfl) ?_
      conv=>whnf
      repeat' ((first|(apply y76 ok;rfl)|(apply y36;first|((try dsimp only);simp only [y42,y41,y40,y39,y51,y52];omega)|exact ⟨rfl,z18 rfl z25⟩))<;>conv=>whnf)
      refine Gl.RetS.absorb 2 5 0 0 rfl rfl rfl rfl (by simp) rfl (z92 (fun e he=>(z4 (fun _=>rfl)) e (List.mem_of_mem_take he)) (z223 rfl z32)) ?_
      conv=>whnf
      (refine rsD [0,1,2] [] rfl ?_;(repeat' first|exact y78 _|apply y79|refine z41 rfl (z4 (fun _=>rfl)) ?_|constructor))
      all_goals first|(refine z26 ?_;exact e1)|exact y8 (congrArg (AC.own 1) e2)
set_option maxHeartbeats 6400000 in
theorem z671 (rows : List (List Int)) (ini : List Int) (hr : ∀ r ∈ rows, InN rows.length r) (hi : InN rows.length ini) (hN : rows.length ≤ 100000) (hrl : ∀ r ∈ rows, r.length ≤ 1000000000) (hil : ini.length ≤ 1000000000) :
    CallsA Tryz.prog 100 [lst 1 encL rows,ints ini] [] (.sref 0 0 (bfsL rows ini).length) [.cells 1 ((bfsL rows ini).map enI)]:=by
  have hvl:∀ l:List Int,InN rows.length l→(z73 [] l).length≤100000:=fun l hl=>by
    have:=z129 rows.length (z73 [] l) (z135 (by simp)) (z212 (fun x hx=>by cases hx) hl)
    omega
  refine z7 z16 Tryz.func100 rfl rfl 50 Tryz.ntmps100 (by simp) ?_
  repeat' ((first|(apply y76 ok;rfl)|(apply y36;(dsimp only;omega)))<;>conv=>whnf)
  refine z65 (fun i:Nat=>([(0,lst 1 encL rows),(6,.ptr 2 none 0),(7,findF),(17,ints ini),(18,.int ini.length),(19,.int i)],z1005 rows.length (z73 [] (ini.take i)))) (fun i=>i≤ini.length) (fun i=>ini.length - i) 0 (y46 _) (by refine swR [1,0,2] [] rfl rfl ?_;(repeat' first|exact y78 _|apply y79|refine z10 rfl (z64 rfl) ?_|constructor)<;>(first|exact z598|(refine z26 ?_;show _=(fnB rows.length (inM [])).map enB;rw [inM_nil];exact z843 _))) ?_
  intro i hil1
  by_cases hil2:i < ini.length
  · have gk:(ini.map enI)[i]?=some (enI ini[i]):=by rw [y44,y38 hil2];rfl
    have hv:=hi _ (y37 hil2)
    have hQl:=hvl (ini.take i) fun x hx=>hi x (List.mem_of_mem_take hx)
    have e1:=z233 (out:=[]) hil2
    generalize ini[i]=v at *
    have cf:=z700 rows.length hN (z73 [] (ini.take i)) hQl v hv
    rw [← e1] at cf
    repeat' ((first|(apply y76 ok;rfl)|(refine z12 (i:=i) rfl gk ?_)|(apply y36;first|omega|(unfold inI;omega))|((apply z5)<;>intro _)|(apply z147 [0,1,2] [] cf;rfl;(focus ((repeat' first|exact z55|apply z71)<;>first|rfl|(refine z82 rfl ?_;((exact z4 fun _=>rfl)))));rfl;(focus ((repeat' first|exact z15|apply z14)<;>first|exact z46 rfl rfl|(refine z21 ?_;((exact z4 fun _=>rfl)))))))<;>conv=>whnf)
    all_goals try (exfalso;omega)
    all_goals refine z23 (i+1) hil2 (by omega) (by refine swR [0,1,2] [] rfl rfl ?_;(repeat' first|exact y78 _|exact z9 _|apply y79|refine z10 rfl (z4 (fun _=>rfl)) ?_|constructor))
  obtain rfl:i=ini.length:=by omega
  rw [y49]
  repeat' ((first|(apply y76 ok;rfl)|(apply y36;omega)|(((with_reducible apply z8;omega));intro _)|((apply z5)<;>intro _))<;>conv=>whnf)
  all_goals try (exfalso;omega)
  refine z65 (fun i:Nat=>([(0,lst 1 encL rows),(6,.ptr 2 none 0),(7,findF),(10,.int i)],z1005 rows.length (bfs rows ini i))) (fun i=>i≤rows.length) (fun i=>rows.length - i) 0 (y46 _) (by refine swR [0,1,2] [] rfl rfl ?_;(repeat' first|exact y78 _|exact z9 _|apply y79|refine z10 rfl (z4 (fun _=>rfl)) ?_|constructor)) ?_
  intro i hi1
  have hQl:=z398 hr hi i
  have hQi:=z368 hr hi i
  refine y77 (Gl.Reach.expose 2 0 0 rfl rfl rfl (z239 (fun _=>rfl) _) rfl) ?_
  by_cases hi2:i < (bfs rows ini i).length
  · have hx:=hQi _ (y37 hi2)
    have gx:((bfs rows ini i).map enI)[i]?=some (enI (bfs rows ini i)[i]):=by rw [y44,y38 hi2];rfl
    have hnx:bfs rows ini (i+1)=z73 (bfs rows ini i) (rows.getD ((bfs rows ini i)[i]).toNat []):=by rw [bfs,dif_pos hi2]
    have hnd:=z510 (rows:=rows) (ini:=ini) i
    generalize hQ' : bfs rows ini (i+1)=Q' at *
    generalize (bfs rows ini i)[i]=x at *
    generalize hQ:bfs rows ini i=Q at *
    obtain ⟨u,rfl⟩:∃ u:Nat,x=u:=⟨x.toNat,by omega⟩
    rw [y69] at hnx
    have hu:u < rows.length:=by omega
    have gr:=z467 hu
    have hrow:=z197 hr (u:Int)
    rw [y69] at hrow
    have hrowl:(rows.getD u []).length≤1000000000:=by rw [z20 hu];exact hrl _ (y37 _)
    generalize rows.getD u []=row at *
    repeat' ((first|(apply y76 ok;rfl)|(refine z12 (i:=i) rfl gx ?_)|(refine z12 (i:=u) rfl gr ?_)|(apply y36;omega)|((apply z5)<;>intro _))<;>conv=>whnf)
    all_goals first|(exfalso;simp at *;omega)|skip
    all_goals
      refine y77 (Gl.Reach.absorb 2 3 0 0 rfl rfl rfl rfl (by simp) rfl (z4 fun _=>rfl) rfl) ?_
      refine z65 (fun j:Nat=>([(0,lst 1 encL rows),(6,.ptr 2 none 0),(7,findF),(10,.int i),(39,ints row),(40,.int row.length),(41,.int j)],z1005 rows.length (z73 Q (row.take j)))) (fun j=>j≤row.length) (fun j=>row.length - j) 0 (y46 _) (by refine swR [0,1,2] [] rfl rfl ?_;(repeat' first|exact y78 _|exact z9 _|apply y79|refine z10 rfl (z4 (fun _=>rfl)) ?_|constructor)) ?_
      intro j hj
      by_cases hj2:j < row.length
      · have gj:(row.map enI)[j]?=some (enI row[j]):=by rw [y44,y38 hj2];rfl
        have hv:=hrow _ (y37 hj2)
        have hWl:(z73 Q (row.take j)).length≤100000:=by
          have:=z129 rows.length (z73 Q (row.take j)) (z135 hnd) (z212 hQi fun x hx=>hrow x (List.mem_of_mem_take hx))
          omega
        have e1:=z233 (out:=Q) hj2
        generalize row[j]=v at *
        have cf:=z700 rows.length hN (z73 Q (row.take j)) hWl v hv
        rw [← e1] at cf
        repeat' ((first|(apply y76 ok;rfl)|(refine z12 (i:=j) rfl gj ?_)|(apply y36;first|omega|(unfold inI;omega))|((apply z5)<;>intro _)|(apply z147 [0,1,2] [] cf;rfl;(focus ((repeat' first|exact z55|apply z71)<;>first|rfl|(refine z82 rfl ?_;((exact z4 fun _=>rfl)))));rfl;(focus ((repeat' first|exact z15|apply z14)<;>first|exact z46 rfl rfl|(refine z21 ?_;((exact z4 fun _=>rfl)))))))<;>conv=>whnf)
        all_goals try (exfalso;omega)
        all_goals refine z23 (j+1) hj2 (by omega) (by refine swR [0,1,2] [] rfl rfl ?_;(repeat' first|exact y78 _|exact z9 _|apply y79|refine z10 rfl (z4 (fun _=>rfl)) ?_|constructor))
      obtain rfl:j=row.length:=by omega
      rw [y49,← hnx]
      repeat' ((first|(apply y76 ok;rfl)|(apply y36;first|omega|(unfold inI;omega))|(((with_reducible apply z8;omega));intro _)|((apply z5)<;>intro _))<;>conv=>whnf)
      all_goals try (exfalso;omega)
      all_goals refine z23 (i+1) (by omega) (by omega) ?_
      all_goals dsimp only
      all_goals rw [hQ']
      all_goals exact (by refine swR [0,1,2] [] rfl rfl ?_;(repeat' first|exact y78 _|exact z9 _|apply y79|refine z10 rfl (z4 (fun _=>rfl)) ?_|constructor))
  · have hE:=z857 hr hi (i:=i) (by omega) hi1
    rw [← hE]
    repeat' ((first|(apply y76 ok;rfl)|(apply y36;omega)|((apply z5)<;>intro _))<;>conv=>whnf)
    all_goals first|(exfalso;simp at *;omega)|skip
    all_goals (refine rsD [3] [] rfl ?_;(repeat' first|exact z9 _|(refine z34 ?_;((simp;done)))|refine z10 rfl (z4 (fun _=>rfl)) ?_|constructor))
theorem swp_map (l:List Int) (i j:Nat):((l.map enI).set i (enI (l.getD j 0))).set j (enI (l.getD i 0))=(swp l i j).map enI:=by
 unfold swp;rw [List.map_set,List.map_set]
set_option maxHeartbeats 1600000 in
theorem z545 (l:List Int) (h1:1≤l.length) (h2:l.length≤1048576):CallsA Tryz.prog 207 [.sref 0 0 l.length] [.cells 1 (l.map enI)] (.tup []) [.cells 1 ((rvs l).map enI)]:=by
 have hR:revG l.length 0 (l.length - 1) l=rvs l:=rfl
 generalize rvs l=R at *
 generalize hn:l.length=n at *
 refine z7 z16 Tryz.func207 rfl rfl 28 Tryz.ntmps207 (by simp) ?_
 repeat' ((first|(apply y76 ok;rfl)|(apply y36;(unfold inI;omega)))<;>conv=>whnf)
 refine z65 (fun x:Nat×Nat×List Int=>([(0,.sref 0 0 n),(2,.int x.1),(3,.int x.2.1)],[.cells 1 (x.2.2.map enI)])) (fun x=>x.1≤n∧x.2.1 < n∧x.2.2.length=n∧revG (n - x.1) x.1 x.2.1 x.2.2=R) (fun x=>n - x.1) (0,n - 1,l) ⟨by simp,by show n - 1 < n;omega,hn,hR⟩ (by refine swR [0] [] rfl rfl ?_;(repeat' first|exact y78 _|exact z9 _|refine z10 rfl (z4 (fun _=>rfl)) ?_|constructor)<;>((rw [show ((n - 1:Nat):Int)=(n:Int) - 1 by omega];exact y78 _))) ?_
 rintro ⟨i,j,l'⟩ ⟨i1,i2,i3,i4⟩
 dsimp only at i1 i2 i3 i4 ⊢
 by_cases hij:i < j
 ·rw [show n - i=(n - (i+1))+1 by omega,revG,if_pos hij] at i4
  have gi:(l'.map enI)[i]?=some (enI (l'.getD i 0)):=by rw [y44,y38 (by omega),z20 (by omega)];rfl
  have gj:(l'.map enI)[j]?=some (enI (l'.getD j 0)):=by rw [y44,y38 (by omega),z20 (by omega)];rfl
  have gj2:((l'.map enI).set i (enI (l'.getD j 0)))[j]?=some (enI (l'.getD j 0)):=by rw [List.getElem?_set_ne (by omega)];exact gj
  have es:=swp_map l' i j
  repeat' ((first|(apply y76 ok;rfl)|(apply z31;kernel_rfl)|(refine z12 (i:=i) rfl gi ?_)|(refine z12 (i:=j) rfl gj ?_)|(refine z12 (i:=j) rfl gj2 ?_)|(apply y36;first|omega|(unfold inI;omega))|((apply z5)<;>intro _))<;>conv=>whnf)
  all_goals try (exfalso;omega)
  all_goals refine z23 (i+1,j - 1,swp l' i j) ⟨by show i+1≤n;omega,by show j - 1 < n;omega,by show (swp l' i j).length=n;simp [swp,i3],i4⟩ (by show n - (i+1) < n - i;omega) (by refine swR [0] [] rfl rfl ?_;(repeat' first|exact y78 _|((refine z41 rfl ?_ ?_);(focus ((repeat' (first|exact z4 (fun _=>rfl)|(refine z1055 ?_ _ rfl)));done)))|constructor)<;>(first|(rw [show ((j - 1:Nat):Int)=(j:Int) - 1 by omega];exact y78 _)|exact z26 es))
 ·have:revG (n - i) i j l'=l':=by cases n - i<;>simp [revG,hij]
  rw [this] at i4
  subst i4
  repeat' ((first|(apply y76 ok;rfl)|(apply y36;omega)|(((apply z8;omega));intro _)|((apply z5)<;>intro _))<;>conv=>whnf)
  all_goals try (exfalso;omega)
  all_goals (refine rsD [0] [] rfl ?_;(repeat' first|exact y78 _|exact z9 _|refine z10 rfl (z4 (fun _=>rfl)) ?_|constructor))
end Go.Proofs.YtahhobgjcfionaaGreat
