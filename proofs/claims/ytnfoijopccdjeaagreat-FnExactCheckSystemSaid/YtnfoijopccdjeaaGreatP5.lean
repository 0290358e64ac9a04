/- A part of the proofs over this program: T149, T228, T229, T150, T151, T152, T230, T231, T39, T232, T38, T40, T41, T42, T153, T233, T234. -/
import Derived.Test.YtnfoijopccdjeaaGreatG0
import Derived.Test.YtnfoijopccdjeaaGreatG1
import Derived.Test.YtnfoijopccdjeaaGreatG2
import Derived.Test.YtnfoijopccdjeaaGreatG3
import Derived.Test.YtnfoijopccdjeaaGreatP0
import Derived.Test.YtnfoijopccdjeaaGreatP1
import Derived.Test.YtnfoijopccdjeaaGreatP2
import Derived.Test.YtnfoijopccdjeaaGreatP3
import Derived.Test.YtnfoijopccdjeaaGreatP4
set_option linter.all false
namespace Go.Proofs.YtnfoijopccdjeaaGreat
open Go.Gl
attribute [local irreducible] z16 AWP z29 z32 z30 RetS z36
theorem z780 (B:List Tree) (hB:BasL B) (s:Int) (s0:0≤s) (s1:s≤31) (u:Nat) (hu:u < B.length) (hk:(B.getD u dftT).kind=7):CallsA Tryz.prog 263 [lst 3 Tree.cs' B,.int s,.int u] [] (.bool (fulB B s u)) []:=by
 have hl:=hB.len
 have gk:(B.map Tree.cs')[u]?=some (Tree.cs' (B.getD u dftT)):=by rw [y58,y52 hu,z18 hu];rfl
 have hf:=hB.form (x:=B.getD u dftT) (by rw [z18 hu];exact y51 _)
 have cw:=z296 s u s0 s1 (by omega) (by omega)
 have e:fulB B s u=(!hasB s u || kidV B s (B.getD u dftT) 1):=rfl
 rw [e]
 generalize B.getD u dftT=f at *
 generalize hasB s u=x at *
 cases hf with
 |«at» v=>simp [Tree.kind] at hk
 |nx a _ _=>simp [Tree.kind] at hk
 |re a b _ _ _ _=>simp [Tree.kind] at hk
 |un a b ha hb sa sb =>
  have cb:=z169 B hB s s0 s1 b hb sb
  rw [csB2] at gk
  have e2:kidV B s (.mk 7 0 [a,b]) 1=vlB B s b:=by simp [kidV,Tree.kids]
  rw [e2]
  clear e e2
  generalize vlB B s b=y at *
  cases x
  all_goals
   refine z6 z9 Tryz.func263 rfl rfl 23 Tryz.ntmps263 (by simp) ?_
   repeat' ((first|(apply y4 ok;rfl)|(refine z13 (i:=u) rfl gk ?_)|(refine ⟨_,rfl,?_⟩)|(apply y50;omega)|(apply z0 (cw);rfl;rfl)|(apply z0 (cb);rfl;rfl))<;>conv=>whnf)
   all_goals (refine rsD [] [] rfl ?_;(repeat' first|exact y93 _|constructor))
def untL (B:List Tree) (i:Nat):List Int:=((List.range i).filter fun i=>decide ((B.getD i dftT).kind=7)).map Int.ofNat
theorem z734 (B:List Tree) (i:Nat):untL B (i+1)=untL B i++(if (B.getD i dftT).kind=7 then [(i:Int)] else []):=by
 unfold untL
 rw [y68,List.filter_append,y70]
 congr 1
 by_cases h:(B.getD i dftT).kind=7
 ·rw [if_pos h,List.filter_cons_of_pos (by simpa using h)];rfl
 ·rw [if_neg h,List.filter_cons_of_neg (by simpa using h)];rfl
theorem z246 (B:List Tree) (i:Nat):(untL B i).length≤i:=by
 unfold untL
 rw [y56]
 have:=List.length_filter_le (fun i=>decide ((B.getD i dftT).kind=7)) (List.range i)
 simpa using this
theorem z884 (B:List Tree) (hl:B.length≤1000):CallsA Tryz.prog 227 [lst 3 Tree.cs' B] [] (ints (untB B)) []:=by
 refine z6 z9 Tryz.func227 rfl rfl 23 Tryz.ntmps227 (by simp) ?_
 repeat' (((apply y4 ok;rfl))<;>conv=>whnf)
 refine z77 (fun x:Nat×List Int=>([(0,lst 3 Tree.cs' B),(3,.sref 0 0 x.2.length),(4,.int x.1)],[.cells 1 (x.2.map enI)])) (fun x=>x.1≤B.length∧untL B x.1=x.2) (fun x=>B.length - x.1) (0,[]) ⟨y60 _,rfl⟩ (by refine swR [0] [] rfl rfl ?_;(repeat' first|exact y93 _|refine z10 rfl (z33) ?_|constructor)) ?_
 rintro ⟨i,U⟩ ⟨hi,hU⟩
 dsimp only at hi hU ⊢
 have hul:=z246 B i
 rw [hU] at hul
 by_cases hil:i < B.length
 ·have gk:(B.map Tree.cs')[i]?=some (Tree.cs' (B.getD i dftT)):=by rw [y58,y52 hil,z18 hil];rfl
  have hs:=z734 B i
  rw [hU] at hs
  generalize B.getD i dftT=f at *
  by_cases hk:f.kind=7
  ·rw [if_pos hk] at hs
   repeat' ((first|(apply y4 ok;rfl)|(refine z13 (i:=i) rfl gk ?_)|(apply y50;first|omega|(unfold inI;omega)|((try dsimp only);simp only [y56,y55,y54,y53,y64,y65];omega)|exact ⟨rfl,z38 rfl z45⟩)|((apply z5)<;>intro _))<;>conv=>whnf)
   all_goals try (exfalso;omega)
   all_goals refine z34 (i+1,U++[(i:Int)]) ⟨by show i+1≤_;omega,hs⟩ (by show B.length - (i+1) < B.length - i;omega) (by refine swR [2] [] rfl rfl ?_;(repeat' first|exact y93 _|(refine z43 ?_;((simp;done)))|((refine z51 rfl ?_ ?_);(focus ((repeat' (first|exact z4 (fun _=>rfl)|apply z40));done)))|(refine z73 ?_ ?_;(focus (omega)))|constructor))
  ·rw [if_neg hk,y71] at hs
   repeat' ((first|(apply y4 ok;rfl)|(refine z13 (i:=i) rfl gk ?_)|(apply y50;first|omega|(unfold inI;omega))|((apply z5)<;>intro _))<;>conv=>whnf)
   all_goals try (exfalso;omega)
   all_goals refine z34 (i+1,U) ⟨by show i+1≤_;omega,hs⟩ (by show B.length - (i+1) < B.length - i;omega) (by refine swR [0] [] rfl rfl ?_;(repeat' first|exact y93 _|exact z11 _|refine z10 rfl (z4 (fun _=>rfl)) ?_|constructor))
 ·obtain rfl:i=B.length:=by omega
  have e:untB B=U:=hU
  rw [e]
  repeat' ((first|(apply y4 ok;rfl)|(apply y50;omega)|(((with_reducible apply z8;omega));intro _)|((apply z5)<;>intro _))<;>conv=>whnf)
  all_goals first|(exfalso;omega)|(refine rsD [] [0] rfl ?_;(repeat' first|exact y93 _|((apply z66 rfl rfl rfl);(focus ((repeat ((exact z53 (fun _=>rfl) _)));done));(focus (((simp;done));done)))|constructor))
theorem z654 {B:List Tree} {x:Int} (h:x∈untB B):∃ u:Nat,x=u∧u < B.length∧(B.getD u dftT).kind=7:=by
 unfold untB at h
 obtain ⟨u,hu,rfl⟩:=List.mem_map.1 h
 obtain ⟨h1,h2⟩:=List.mem_filter.1 hu
 exact ⟨u,rfl,List.mem_range.1 h1,of_decide_eq_true h2⟩
theorem z1021 (B:List Tree) (hB:BasL B) (s:Int) (s0:0≤s) (s1:s≤31) (ph:Nat) (hp:(untB B).length=0∨ph < (untB B).length):CallsA Tryz.prog 229 [lst 3 Tree.cs' B,ints (untB B),.int s,.int ph] [] (.tup [.int (phB B (untB B) s ph).1,.bool (phB B (untB B) s ph).2]) []:=by
 have hl:=hB.len
 have hul:(untB B).length≤B.length:=z246 B B.length
 have hm:=fun x=>@z654 B x
 unfold phB
 generalize untB B=U at *
 by_cases h0:U.length=0
 ·rw [if_pos h0]
  refine z6 z9 Tryz.func229 rfl rfl 28 Tryz.ntmps229 (by simp) ?_
  repeat' ((first|(apply y4 ok;rfl)|(apply y50;omega)|(((with_reducible apply z8;omega));intro _)|((apply z5)<;>intro _))<;>conv=>whnf)
  all_goals first|(exfalso;omega)|(refine rsD [] [] rfl ?_;(repeat' first|exact y93 _|constructor))
 ·rw [if_neg h0]
  have hpl:ph < U.length:=by omega
  have gu:(U.map enI)[ph]?=some (enI (U.getD ph 0)):=by rw [y58,y52 hpl,z18 hpl];rfl
  obtain ⟨u,e,hu,hk⟩:=hm (U.getD ph 0) (by rw [z18 hpl];exact y51 _)
  rw [e] at gu
  have cf:=z780 B hB s s0 s1 u hu hk
  rw [y83,e]
  generalize fulB B s u=z at *
  cases z
  ·refine z6 z9 Tryz.func229 rfl rfl 28 Tryz.ntmps229 (by simp) ?_
   repeat' ((first|(apply y4 ok;rfl)|(refine z13 (i:=ph) rfl gu ?_)|(apply y50;omega)|((apply z5)<;>intro _)|(apply z0 (cf);rfl;rfl))<;>conv=>whnf)
   all_goals first|(exfalso;omega)|(refine rsD [] [] rfl ?_;(repeat' first|exact y93 _|constructor))
  ·refine z6 z9 Tryz.func229 rfl rfl 28 Tryz.ntmps229 (by simp) ?_
   repeat' ((first|(apply y4 ok;rfl)|(refine z13 (i:=ph) rfl gu ?_)|(apply y50;first|omega|(unfold inI;omega))|((apply z5)<;>intro _)|(apply z0 (cf);rfl;rfl))<;>conv=>whnf)
   all_goals try (exfalso;omega)
   all_goals (refine rsD [] [] rfl ?_;(repeat' first|exact y93 _|constructor))
theorem z812 {s:Int} {i:Nat} (s0:0≤s) (s1:s≤31) (hi:i≤5):0≤s / 2 ^ i∧s / 2 ^ i≤31:=by
 have:i=0∨i=1∨i=2∨i=3∨i=4∨i=5:=by omega
 rcases this with rfl|rfl|rfl|rfl|rfl|rfl<;>simp<;>omega
theorem div_bd2 {s a:Int} (s0:0≤s) (s1:s≤31) (h0:0≤a) (h1:a≤5):0≤s / 2 ^ a.toNat∧s / 2 ^ a.toNat≤31:=z812 s0 s1 (by omega)
set_option maxHeartbeats 3200000 in
theorem z259 (B:List Tree) (U:List Int) (hB:BasL B) (s:Int) (s0:0≤s) (s1:s≤31) (t:Tree) (h:In (·∈B) t):t.sz≤1000→CallsA Tryz.prog 188 [.pt [lst 3 Tree.cs' B,ints U],z20 Tree.cs' t,.int s] [] (.bool (vlB B s t)) []:=by
 have hl:=hB.len
 have basic:∀ t,t∈B→CallsA Tryz.prog 188 [.pt [lst 3 Tree.cs' B,ints U],z20 Tree.cs' t,.int s] [] (.bool (sgB B s t)) []:=fun t ht=>by
  have cF:=z301 B (by omega) hB.mx t (hB.mx t ht)
  have hp:=z1131 ht
  have e:idxF (fun x=>decide (x=t)) B=plc B t:=rfl
  rw [e] at cF
  have hd:=div_bd2 s0 s1 hp.1 (show plc B t≤5 by omega)
  unfold sgB
  generalize plc B t=p at *
  rw [y17 t] at cF ⊢
  refine z6 z9 Tryz.func188 rfl rfl 69 Tryz.ntmps188 (by simp) ?_
  repeat' ((first|(apply y4 ok;rfl)|(apply z17;kernel_rfl)|(refine y50 (by unfold z161;omega) ?_)|(apply y50;omega)|(((with_reducible apply z103;omega));intro _)|((apply z5)<;>intro _)|(apply z0 (cF);rfl;rfl))<;>conv=>whnf)
  all_goals first|(exfalso;omega)|(refine rsD [] [] rfl ?_;(repeat' first|exact y93 _|constructor))
 have none:∀ t:Tree,t.sz≤1000→z75 t=false→CallsA Tryz.prog 239 [lst 3 Tree.cs' B,z20 Tree.cs' t] [] (.int (-1)) []:=fun t hs hb=>by
  have cF:=z301 B (by omega) hB.mx t (z88 t (by unfold maxLen;omega))
  have e:idxF (fun x=>decide (x=t)) B=-1:=z129 fun j hj=>y90 fun e=>by have:=hB.bk _ (y51 hj);rw [e,hb] at this;cases this
  rwa [e] at cF
 unfold vlB
 induction h with
 |tr =>
  intro hs
  have cn:=none (.mk 1 0 []) hs rfl
  rw [z497]
  refine z6 z9 Tryz.func188 rfl rfl 69 Tryz.ntmps188 (by simp) ?_
  repeat' ((first|(apply y4 ok;rfl)|(apply z17;kernel_rfl)|(apply z0 (cn);rfl;rfl))<;>conv=>whnf)
  all_goals (refine rsD [] [] rfl ?_;(repeat' first|exact y93 _|constructor))
 |«at» v hb=>intro _;rw [z460];exact basic _ hb
 |nt =>
  intro hs
  have cn:=none (.mk 3 0 [.mk 1 0 []]) hs rfl
  have cn2:=none (.mk 1 0 []) (by simp [z508]) rfl
  rw [z270,z497]
  have c1:CallsA Tryz.prog 188 [.pt [lst 3 Tree.cs' B,ints U],z20 Tree.cs' (.mk 1 0 []),.int s] [] (.bool true) []:=by
   refine z6 z9 Tryz.func188 rfl rfl 69 Tryz.ntmps188 (by simp) ?_
   repeat' ((first|(apply y4 ok;rfl)|(apply z17;kernel_rfl)|(apply z0 (cn2);rfl;rfl))<;>conv=>whnf)
   all_goals (refine rsD [] [] rfl ?_;(repeat' first|exact y93 _|constructor))
  rw [argU] at cn ⊢
  refine z6 z9 Tryz.func188 rfl rfl 69 Tryz.ntmps188 (by simp) ?_
  repeat' ((first|(apply y4 ok;rfl)|(apply z17;kernel_rfl)|(refine ⟨_,rfl,?_⟩)|(apply y50;omega)|(apply z0 (cn);rfl;rfl)|(apply z0 (c1);rfl;rfl))<;>conv=>whnf)
  all_goals (refine rsD [] [] rfl ?_;(repeat' first|exact y93 _|constructor))
 |na v hb =>
  intro hs
  have cn:=none (.mk 3 0 [.mk 2 v []]) hs rfl
  rw [z270,z460]
  have c1:=basic _ hb
  rw [argU] at cn ⊢
  refine z6 z9 Tryz.func188 rfl rfl 69 Tryz.ntmps188 (by simp) ?_
  repeat' ((first|(apply y4 ok;rfl)|(apply z17;kernel_rfl)|(refine ⟨_,rfl,?_⟩)|(apply y50;omega)|(apply z0 (cn);rfl;rfl)|(apply z0 (c1);rfl;rfl))<;>conv=>whnf)
  all_goals (refine rsD [] [] rfl ?_;(repeat' first|exact y93 _|constructor))
 |an _ _ iha ihb =>
  rename_i a b _ _
  intro hs
  have cn:=none (.mk 4 0 [a,b]) hs rfl
  rw [z336] at hs
  have ca:=iha (by omega)
  have cb:=ihb (by omega)
  rw [z606,argB]
  rw [argB] at cn
  generalize a.vl (sgB B s)=x at *
  generalize b.vl (sgB B s)=y at *
  cases x
  all_goals
   refine z6 z9 Tryz.func188 rfl rfl 69 Tryz.ntmps188 (by simp) ?_
   repeat' ((first|(apply y4 ok;rfl)|(apply z17;kernel_rfl)|(refine ⟨_,rfl,?_⟩)|(apply y50;omega)|(apply z0 (cn);rfl;rfl)|(apply z0 (ca);rfl;rfl)|(apply z0 (cb);rfl;rfl))<;>conv=>whnf)
   all_goals (refine rsD [] [] rfl ?_;(repeat' first|exact y93 _|constructor))
 |or _ _ iha ihb =>
  rename_i a b _ _
  intro hs
  have cn:=none (.mk 5 0 [a,b]) hs rfl
  rw [z336] at hs
  have ca:=iha (by omega)
  have cb:=ihb (by omega)
  rw [z976,argB]
  rw [argB] at cn
  generalize a.vl (sgB B s)=x at *
  generalize b.vl (sgB B s)=y at *
  cases x
  all_goals
   refine z6 z9 Tryz.func188 rfl rfl 69 Tryz.ntmps188 (by simp) ?_
   repeat' ((first|(apply y4 ok;rfl)|(apply z17;kernel_rfl)|(refine ⟨_,rfl,?_⟩)|(apply y50;omega)|(apply z0 (cn);rfl;rfl)|(apply z0 (ca);rfl;rfl)|(apply z0 (cb);rfl;rfl))<;>conv=>whnf)
   all_goals (refine rsD [] [] rfl ?_;(repeat' first|exact y93 _|constructor))
 |nx hb _ _=>intro _;rw [z977];exact basic _ hb
 |un hb _ _ _ _=>intro _;rw [z974];exact basic _ hb
 |re hb _ _ _ _=>intro _;rw [z975];exact basic _ hb
set_option maxHeartbeats 6400000 in
theorem z1034 (B:List Tree) (U:List Int) (hB:BasL B) (s t:Int) (s0:0≤s) (s1:s≤31) (t0:0≤t) (t1:t≤31):CallsA Tryz.prog 242 [.pt [lst 3 Tree.cs' B,ints U],.int s,.int t] [] (.bool (folB B s t)) []:=by
 have hl:=hB.len
 refine z6 z9 Tryz.func242 rfl rfl 90 Tryz.ntmps242 (by simp) ?_
 repeat' (((apply y4 ok;rfl))<;>conv=>whnf)
 refine z77 (fun i:Nat=>([(0,.pt [lst 3 Tree.cs' B,ints U]),(1,.int s),(2,.int t),(15,lst 3 Tree.cs' B),(16,.int B.length),(17,.int i)],[])) (fun i=>i≤B.length∧∀ j,j < i→folI B s t j=true) (fun i=>B.length - i) 0 ⟨y60 _,fun j h=>absurd h (Nat.not_lt_zero _)⟩ (by refine swR [] [] rfl rfl ?_;(repeat' first|exact y93 _|constructor)) ?_
 rintro i ⟨hi,hj⟩
 by_cases hil:i < B.length
 ·have gk:(B.map Tree.cs')[i]?=some (Tree.cs' (B.getD i dftT)):=by rw [y58,y52 hil,z18 hil];rfl
  have hf:=hB.form (x:=B.getD i dftT) (by rw [z18 hil];exact y51 _)
  have d1:=z812 (i:=i) s0 s1 (by omega)
  have d2:=z812 (i:=i) t0 t1 (by omega)
  have hI:folI B s t i=(folV B s t (B.getD i dftT) (hasB s i) (hasB t i) == hasB s i):=rfl
  have hT:folI B s t i=true→∀ j,j < i+1→folI B s t j=true:=fun h j hji=>by
   rcases y76 j i with h3|h3
   ·exact hj j h3
   ·obtain rfl:j=i:=by omega
    exact h
  have hF:folI B s t i=false→folB B s t=false:=z633 hil
  rw [hI] at hT hF
  clear hI hj
  generalize B.getD i dftT=f at *
  repeat' ((first|((fail_if_success apply z65 5);(fail_if_success apply z50 5);apply y4 ok;rfl)|(apply z17;kernel_rfl)|(refine z13 (i:=i) rfl gk ?_)|(refine y50 (by unfold z161;(rw [y83];omega)) ?_)|(apply y50;omega)|((apply z5)<;>intro _))<;>conv=>whnf)
  all_goals try (exfalso;omega)
  refine y92 (show Gl.Reach _ _ (mkSt _ [(0,.pt [lst 3 Tree.cs' B,ints U]),(1,.int s),(2,.int t),(8,.ptr 0 none 0),(9,.bool (hasB s i)),(10,.bool (hasB t i)),(15,lst 3 Tree.cs' B),(16,.int B.length),(17,.int i)] [.cells 3 [Tree.cs' f]]) from (by refine swR [0] [] rfl rfl ?_;(repeat' first|exact y93 _|apply y94|constructor))) ?_
  generalize hasB s i=x at *
  generalize hasB t i=y at *
  cases hf with
  |«at» v =>
   have hT2:=hT (by simp [folV,Tree.kind])
   clear hT hF
   cases x
   all_goals
    repeat' ((first|(apply y4 ok;rfl)|(apply y50;(unfold inI;omega)))<;>conv=>whnf)
    all_goals refine z34 (i+1) ⟨by omega,hT2⟩ (by omega) (by refine swR [] [] rfl rfl ?_;(repeat' first|exact y93 _|constructor))
  |nx a ha sa =>
   have ca:=z259 B U hB t t0 t1 a ha sa
   have e:folV B s t (.mk 6 0 [a]) x y=vlB B t a:=by simp [folV,kidV,Tree.kind,Tree.kids]
   rw [e] at hT hF
   rw [csU]
   clear e
   generalize vlB B t a=z at *
   cases x<;>cases z
   all_goals first|have hT:=hT rfl|(have hF:=hF rfl;rw [hF])
   all_goals
    repeat' ((first|(apply y4 ok;rfl)|(refine ⟨_,rfl,?_⟩)|(apply y50;first|omega|(unfold inI;omega))|(apply z0 (ca);rfl;rfl))<;>conv=>whnf)
    all_goals first|(refine z34 (i+1) ⟨by omega,hT⟩ (by omega) (by refine swR [] [] rfl rfl ?_;(repeat' first|exact y93 _|constructor)))|(refine rsD [] [] rfl ?_;(repeat' first|exact y93 _|constructor))
  |un a b ha hb sa sb =>
   have ca:=z259 B U hB s s0 s1 a ha sa
   have cb:=z259 B U hB s s0 s1 b hb sb
   have e:folV B s t (.mk 7 0 [a,b]) x y=(vlB B s b || (vlB B s a && y)):=by simp [folV,kidV,Tree.kind,Tree.kids]
   rw [e] at hT hF
   rw [csB2]
   clear e
   generalize vlB B s a=z at *
   generalize vlB B s b=u at *
   cases x<;>cases y<;>cases z<;>cases u
   all_goals first|have hT:=hT rfl|(have hF:=hF rfl;rw [hF])
   all_goals
    repeat' ((first|(apply y4 ok;rfl)|(refine ⟨_,rfl,?_⟩)|(apply y50;first|omega|(unfold inI;omega))|(apply z0 (ca);rfl;rfl)|(apply z0 (cb);rfl;rfl))<;>conv=>whnf)
    all_goals first|(refine z34 (i+1) ⟨by omega,hT⟩ (by omega) (by refine swR [] [] rfl rfl ?_;(repeat' first|exact y93 _|constructor)))|(refine rsD [] [] rfl ?_;(repeat' first|exact y93 _|constructor))
  |re a b ha hb sa sb =>
   have ca:=z259 B U hB s s0 s1 a ha sa
   have cb:=z259 B U hB s s0 s1 b hb sb
   have e:folV B s t (.mk 8 0 [a,b]) x y=(vlB B s b && (vlB B s a || y)):=by simp [folV,kidV,Tree.kind,Tree.kids]
   rw [e] at hT hF
   rw [csB2]
   clear e
   generalize vlB B s a=z at *
   generalize vlB B s b=u at *
   cases x<;>cases y<;>cases z<;>cases u
   all_goals first|have hT:=hT rfl|(have hF:=hF rfl;rw [hF])
   all_goals
    repeat' ((first|(apply y4 ok;rfl)|(refine ⟨_,rfl,?_⟩)|(apply y50;first|omega|(unfold inI;omega))|(apply z0 (ca);rfl;rfl)|(apply z0 (cb);rfl;rfl))<;>conv=>whnf)
    all_goals first|(refine z34 (i+1) ⟨by omega,hT⟩ (by omega) (by refine swR [] [] rfl rfl ?_;(repeat' first|exact y93 _|constructor)))|(refine rsD [] [] rfl ?_;(repeat' first|exact y93 _|constructor))
 ·obtain rfl:i=B.length:=by omega
  rw [z797 fun j hji=>hj j hji]
  repeat' ((first|(apply y4 ok;rfl)|(apply z17;kernel_rfl)|(apply y50;omega)|((first|(with_reducible apply z8;omega)|(with_reducible apply z103;omega));intro _)|((first|apply z5|apply z28|apply z93)<;>intro _))<;>conv=>whnf)
  all_goals first|(exfalso;omega)|(refine rsD [] [] rfl ?_;(repeat' first|exact y93 _|constructor))
theorem z632 (B:List Tree) (U:List Int) (hB:BasL B) (s:Int) (s0:0≤s) (s1:s≤31) (ph u:Nat) (hph:ph < U.length) (hUl:U.length≤100) (e:U.getD ph 0=u) (hu:u < B.length) (hk:(B.getD u dftT).kind=7):CallsA Tryz.prog 190 [.pt [lst 3 Tree.cs' B,ints U],.int s,.int ph] [] (.bool (fulB B s u)) []:=by
 have hl:=hB.len
 have gu:(U.map enI)[ph]?=some (enI u):=by rw [← e,y58,y52 hph,z18 hph];rfl
 have gk:(B.map Tree.cs')[u]?=some (Tree.cs' (B.getD u dftT)):=by rw [y58,y52 hu,z18 hu];rfl
 have hf:=hB.form (x:=B.getD u dftT) (by rw [z18 hu];exact y51 _)
 have d1:=z812 (i:=u) s0 s1 (by omega)
 have e:fulB B s u=(!hasB s u || kidV B s (B.getD u dftT) 1):=rfl
 have hx:(hasB s u=true→((((s / 2 ^ ((u:Int)).toNat).toNat &&& (1:Int).toNat:Nat):Int))=1)∧(hasB s u=false→((((s / 2 ^ ((u:Int)).toNat).toNat &&& (1:Int).toNat:Nat):Int))=0):=by
  have h1:∀ n:Nat,n &&& 1=n % 2:=fun n=>Nat.and_one_is_mod n
  unfold hasB
  constructor
  ·intro h;exact of_decide_eq_true h
  ·intro h
   have:=of_decide_eq_false h
   rw [show (1:Int).toNat=1 from rfl,h1] at *
   omega
 rw [e]
 generalize B.getD u dftT=f at *
 cases hf with
 |«at» v=>simp [Tree.kind] at hk
 |nx a _ _=>simp [Tree.kind] at hk
 |re a b _ _ _ _=>simp [Tree.kind] at hk
 |un a b ha hb sa sb =>
  have cb:=z259 B U hB s s0 s1 b hb sb
  rw [csB2] at gk
  have e2:kidV B s (.mk 7 0 [a,b]) 1=vlB B s b:=by simp [kidV,Tree.kids]
  rw [e2]
  clear e e2
  generalize vlB B s b=y at *
  generalize hasB s u=x at *
  cases x
  ·have hx:=hx.2 rfl
   refine z6 z9 Tryz.func190 rfl rfl 35 Tryz.ntmps190 (by simp) ?_
   repeat' ((first|(apply y4 ok;rfl)|(refine z13 (i:=ph) rfl gu ?_)|(refine z13 (i:=u) rfl gk ?_)|(refine ⟨_,rfl,?_⟩)|(refine y50 (by unfold z161;(rw [y83];omega)) ?_)|(apply y50;omega)|((apply z5)<;>intro _)|(apply z0 (cb);rfl;rfl))<;>conv=>whnf)
   all_goals try (exfalso;omega)
   all_goals (refine rsD [] [] rfl ?_;(repeat' first|exact y93 _|constructor))
  ·have hx:=hx.1 rfl
   refine z6 z9 Tryz.func190 rfl rfl 35 Tryz.ntmps190 (by simp) ?_
   repeat' ((first|(apply y4 ok;rfl)|(refine z13 (i:=ph) rfl gu ?_)|(refine z13 (i:=u) rfl gk ?_)|(refine ⟨_,rfl,?_⟩)|(refine y50 (by unfold z161;(rw [y83];omega)) ?_)|(apply y50;omega)|((apply z5)<;>intro _)|(apply z0 (cb);rfl;rfl))<;>conv=>whnf)
   all_goals try (exfalso;omega)
   all_goals (refine rsD [] [] rfl ?_;(repeat' first|exact y93 _|constructor))
theorem z331 {B:List Tree} {s:Int} (i:Nat):(List.range (i+1)).foldl (atoI B s) (0,0)=atoI B s ((List.range i).foldl (atoI B s) (0,0)) i:=by
 rw [y68,y69];rfl
theorem z528 {c k:Nat} (h:c < 8) (hk:k≤2):c ||| 2 ^ k < 8:=by
 have:k=0∨k=1∨k=2:=by omega
 rcases this with rfl|rfl|rfl<;>exact Nat.or_lt_two_pow (n:=3) h (by decide)
set_option maxHeartbeats 3200000 in
theorem z885 (B:List Tree) (hB:BasL B) (s:Int) (s0:0≤s) (s1:s≤31):CallsA Tryz.prog 230 [lst 3 Tree.cs' B,.int s] [] (.tup [.int (letB B s).1,.int (letB B s).2]) []:=by
 have hl:=hB.len
 refine z6 z9 Tryz.func230 rfl rfl 44 Tryz.ntmps230 (by simp) ?_
 repeat' (((apply y4 ok;rfl))<;>conv=>whnf)
 refine z77 (fun x:Nat×Nat×Nat=>([(0,lst 3 Tree.cs' B),(1,.int s),(6,.int x.2.1),(7,.int x.2.2),(8,.int x.1)],[])) (fun x=>x.1≤B.length∧(List.range x.1).foldl (atoI B s) (0,0)=x.2∧x.2.1 < 8∧x.2.2 < 8) (fun x=>B.length - x.1) (0,0,0) ⟨y60 _,rfl,by decide,by decide⟩ (by refine swR [] [] rfl rfl ?_;(repeat' first|exact y93 _|constructor)) ?_
 rintro ⟨i,c,v⟩ ⟨hi,hf,hc,hv⟩
 dsimp only at hi hf hc hv ⊢
 by_cases hil:i < B.length
 ·have gk:(B.map Tree.cs')[i]?=some (Tree.cs' (B.getD i dftT)):=by rw [y58,y52 hil,z18 hil];rfl
  have hmem:B.getD i dftT∈B:=by rw [z18 hil];exact y51 _
  have hform:=hB.form hmem
  have cw:=z296 s i s0 s1 (by omega) (by omega)
  have hs:=z331 (B:=B) (s:=s) i
  rw [hf] at hs
  unfold atoI at hs
  dsimp only at hs
  by_cases hk:(B.getD i dftT).kind=2
  ·rw [if_pos hk] at hs
   have hvv:∃ a:Nat,(B.getD i dftT).val=a∧a≤2:=by
    generalize B.getD i dftT=f at *
    cases hform with
    |«at» v=>have:=hB.av v hmem;exact ⟨v.toNat,by simp [Tree.val];omega,by omega⟩
    |nx a _ _=>simp [Tree.kind] at hk
    |un a b _ _ _ _=>simp [Tree.kind] at hk
    |re a b _ _ _ _=>simp [Tree.kind] at hk
   obtain ⟨a,ea,ha⟩:=hvv
   have gk2:(B.map Tree.cs')[i]?=some [.int 2,.int a,.list 3 (B.getD i dftT).kids.length ((B.getD i dftT).kids.map Tree.cs)]:=by rw [gk,← hk,← ea];rfl
   have o1:=z528 hc ha
   have o2:=z528 hv ha
   have e:=z941 a (by omega)
   have hp:=z379 (show a < 3 by omega)
   have hw:IntKind.u64.wrap (a:Int)=a:=by
    have:a=0∨a=1∨a=2:=by omega
    rcases this with rfl|rfl|rfl<;>rfl
   rw [ea,y83] at hs
   clear gk hform hmem hk ea
   generalize hasB s i=z at *
   generalize (B.getD i dftT).kids=ks at *
   cases z
   ·rw [if_neg (by simp)] at hs
    repeat' ((first|(apply y4 ok;rfl)|(refine z13 (i:=i) rfl gk2 ?_)|(apply y50;first|omega|(unfold inI;omega))|((apply z5)<;>intro _))<;>conv=>whnf)
    all_goals try (exfalso;omega)
    refine y50 (by rw [e];unfold z161;omega) ?_
    conv=>whnf
    repeat' ((first|(apply y4 ok;rfl)|(apply y50;(unfold inI;omega))|(apply z0 (cw);rfl;rfl))<;>conv=>whnf)
    all_goals refine z34 (i+1,c ||| 2 ^ a,v) ⟨by show i+1≤_;omega,hs,o1,hv⟩ (by show B.length - (i+1) < B.length - i;omega) (by refine swR [] [] rfl rfl ?_;(repeat' first|exact y93 _|constructor)<;>((rw [e];exact y93 _)))
   ·rw [if_pos rfl] at hs
    repeat' ((first|(apply y4 ok;rfl)|(refine z13 (i:=i) rfl gk2 ?_)|(apply y50;first|omega|(unfold inI;omega))|((apply z5)<;>intro _))<;>conv=>whnf)
    all_goals try (exfalso;omega)
    refine y50 (by rw [e];unfold z161;omega) ?_
    conv=>whnf
    repeat' ((first|(apply y4 ok;rfl)|(refine z13 (i:=i) rfl gk2 ?_)|(apply y50;first|omega|(unfold inI;omega))|(apply z0 (cw);rfl;rfl))<;>conv=>whnf)
    refine y50 (by rw [e];unfold z161;omega) ?_
    conv=>whnf
    repeat' ((first|(apply y4 ok;rfl)|(apply y50;(unfold inI;omega)))<;>conv=>whnf)
    all_goals refine z34 (i+1,c ||| 2 ^ a,v ||| 2 ^ a) ⟨by show i+1≤_;omega,hs,o1,o2⟩ (by show B.length - (i+1) < B.length - i;omega) (by refine swR [] [] rfl rfl ?_;(repeat' first|exact y93 _|constructor)<;>((rw [e];exact y93 _)))
  ·rw [if_neg hk] at hs
   generalize B.getD i dftT=f at *
   repeat' ((first|(apply y4 ok;rfl)|(refine z13 (i:=i) rfl gk ?_)|(apply y50;first|omega|(unfold inI;omega))|((apply z5)<;>intro _)|(apply z0 (cw);rfl;rfl))<;>conv=>whnf)
   all_goals try (exfalso;omega)
   all_goals refine z34 (i+1,c,v) ⟨by show i+1≤_;omega,hs,hc,hv⟩ (by show B.length - (i+1) < B.length - i;omega) (by refine swR [] [] rfl rfl ?_;(repeat' first|exact y93 _|constructor))
 ·obtain rfl:i=B.length:=by omega
  have e:letB B s=(c,v):=hf
  rw [e]
  repeat' ((first|(apply y4 ok;rfl)|(apply y50;omega)|(((with_reducible apply z8;omega));intro _)|((apply z5)<;>intro _))<;>conv=>whnf)
  all_goals first|(exfalso;omega)|(refine rsD [] [] rfl ?_;(repeat' first|exact y93 _|constructor))
theorem z1163 (L:List (List Int)) (hL:L.length≤1000) (hr:∀ r∈L,r.length≤1000) (p:List Int) (hp:p.length≤1000):CallsA Tryz.prog 232 [.sref 0 0 L.length,.sref 1 0 p.length] [.cells 1 (L.map encL),.cells 1 (p.map enI)] (.tup [.sref 2 0 (z124 L p).length,.int (z189 L p)]) [.dead,.dead,.cells 1 ((z124 L p).map encL)]:=by
 have hc:∀ i (h:i < L.length),CallsA Tryz.prog 222 [ints L[i],ints p] [] (.bool (decide (L[i]=p))) []:=fun i h=>z546 _ _ (by have:=hr _ (y51 h);unfold maxLen;omega) (by unfold maxLen;omega)
 refine z6 z9 Tryz.func232 rfl rfl 27 Tryz.ntmps232 (by simp) ?_
 refine y92 (Reach.rnm 0 rfl) ?_
 refine y92 (Reach.rnm 1 rfl) ?_
 conv=>whnf
 repeat' (((apply y4 ok;rfl))<;>conv=>whnf)
 refine z77 (fun i:Nat=>([(0,.sref 2 0 L.length),(1,.sref 3 0 p.length),(6,.int i)],[.dead,.dead,.cells 1 (L.map encL),.cells 1 (p.map enI)])) (fun i=>i≤L.length∧∀ j (h:j < L.length),j < i→L[j]≠p) (fun i=>L.length - i) 0 ⟨y60 _,fun j _ h=>absurd h (Nat.not_lt_zero _)⟩ (by refine swR [0,1,2,3] [] rfl rfl ?_;(repeat' first|exact y93 _|exact z11 _|refine z10 rfl (z4 (fun _=>rfl)) ?_|constructor)) ?_
 rintro i ⟨hi,hj⟩
 by_cases hil:i < L.length
 ·have gk:(L.map encL)[i]?=some (encL L[i]):=by rw [y58,y52 hil];rfl
  have c1:=hc i hil
  by_cases he:L[i]=p
  ·have e1:z124 L p=L:=by unfold z124;rw [if_pos (by rw [← he];exact y51 hil)]
   have e2:z189 L p=i:=by
    unfold z189
    have h1:p∈L:=by rw [← he];exact y51 hil
    have h2:=List.idxOf_lt_length_of_mem h1
    have h3:=List.getElem_idxOf h2
    rcases Nat.lt_trichotomy (L.idxOf p) i with h|h|h
    ·exact absurd h3 (hj _ h2 h)
    ·exact h
    ·exfalso
     have:=List.not_of_lt_findIdx (p:=(· == p)) (xs:=L) (i:=i) (by simpa [List.idxOf] using h)
     simp [he] at this
   rw [e1,e2]
   rw [y89 he] at c1
   generalize L[i]=q at *
   repeat' ((first|(apply y4 ok;rfl)|(refine z13 (i:=i) rfl gk ?_)|(apply y50;omega)|((apply z5)<;>intro _)|(apply z83 [] [3] [] c1;(focus ((repeat' first|exact z48|apply z23)<;>first|exact z91 rfl rfl rfl|rfl));rfl;rfl;(focus ((repeat' exact z12)<;>fail));((refine .inr ⟨rfl,?_⟩;repeat' exact True.intro))))<;>conv=>whnf)
   all_goals try (exfalso;omega)
   all_goals (refine rsD [0,1,2] [] rfl ?_;(repeat' first|exact y93 _|exact z11 _|refine z10 rfl (z4 (fun _=>rfl)) ?_|constructor))
  ·rw [y90 he] at c1
   have hj2:∀ j (h:j < L.length),j < i+1→L[j]≠p:=fun j h hji=>by
    rcases y76 j i with h3|h3
    ·exact hj j h h3
    ·obtain rfl:j=i:=by omega
     exact he
   generalize L[i]=q at *
   repeat' ((first|(apply y4 ok;rfl)|(refine z13 (i:=i) rfl gk ?_)|(apply y50;first|omega|(unfold inI;omega))|((apply z5)<;>intro _)|(apply z83 [] [3] [] c1;(focus ((repeat' first|exact z48|apply z23)<;>first|exact z91 rfl rfl rfl|rfl));rfl;rfl;(focus ((repeat' exact z12)<;>fail));((refine .inr ⟨rfl,?_⟩;repeat' exact True.intro))))<;>conv=>whnf)
   all_goals try (exfalso;omega)
   all_goals refine z34 (i+1) ⟨by omega,hj2⟩ (by omega) (by refine swR [0,1,2,3] [] rfl rfl ?_;(repeat' first|exact y93 _|exact z11 _|refine z10 rfl (z4 (fun _=>rfl)) ?_|constructor))
 ·have hn:p ∉ L:=fun h=>by
   obtain ⟨j,hjl,e⟩:=List.mem_iff_getElem.1 h
   exact hj j hjl (by omega) e
  have e1:z124 L p=L++[p]:=by unfold z124;rw [if_neg hn]
  have e2:z189 L p=L.length:=by unfold z189;exact List.idxOf_eq_length hn
  rw [e1,e2]
  obtain rfl:i=L.length:=by omega
  repeat' ((first|(apply y4 ok;rfl)|(apply y50;first|omega|((try dsimp only);simp only [y56,y55,y54,y53,y64,y65];omega)|exact ⟨rfl,z38 rfl z45⟩)|(((apply z8;omega));intro _)|((apply z5)<;>intro _))<;>conv=>whnf)
  all_goals try (exfalso;omega)
  all_goals (refine rsD [0,1,5] [3] rfl ?_;(repeat' first|exact y93 _|(refine z43 ?_;((simp;done)))|((refine z51 rfl ?_ ?_);(focus ((repeat' (first|exact z4 (fun _=>rfl)|apply z40));done)))|(refine z73 ?_ ?_;(focus (omega)))|((apply z285 rfl rfl rfl);(focus ((repeat ((exact z53 (fun _=>rfl) _)));done));(focus (((simp;done));done)))|apply z72|constructor))
def eT (e:Edg):Trans:=⟨e.src,e.care,e.val,e.dst⟩
noncomputable def z334 (n0:Nat) (x:TrS):Aut:=⟨numI n0,if x.L.length=0 then [false] else x.acc,x.ed.map eT⟩
noncomputable def trO (t:Tree):Option Aut:=if bscB t=true then (trS (bscL (t.nrm false)) (t.nrm false)).map (z334 (iniS (bscL (t.nrm false)) (t.nrm false)).length) else none
noncomputable def trA (t:Tree):Aut:=(trO t).getD ⟨[],[],[]⟩
noncomputable def tsB (t:Tree):Bool:=(trO t).isSome
theorem z573 {t:Tree} (ht:t.fmB=true) (hn:(t.nrm false).fmB=true) (h5:(bscL (t.nrm false)).length≤5) (hs:t.sz≤200):BasL (bscL (t.nrm false))∧In (·∈bscL (t.nrm false)) (t.nrm false)∧(t.nrm false).sz≤1000:=by
 have hg:=y29 ht
 have hz:=y35 t hg false
 obtain ⟨a1,a2,a3,a4,a5,a6⟩:=z1058 (y29 hn) (nrm_NF t hg false)
 exact ⟨⟨h5,a1,fun x hx=>by have:=a2 x hx;omega,a3,a4,a5⟩,a6,by omega⟩
theorem z1005 {n:Nat} (h:n≤5):1≤2 ^ n∧2 ^ n≤32:=by
 have:n=0∨n=1∨n=2∨n=3∨n=4∨n=5:=by omega
 rcases this with rfl|rfl|rfl|rfl|rfl|rfl<;>decide
set_option maxHeartbeats 12800000 in
theorem z1094 (t:Tree) (hs:t.sz≤200):CallsA Tryz.prog 178 [z20 Tree.cs' t] [] (.tup [.agg [.sref 0 0 (trA t).ini.length,.sref 1 0 (trA t).acc.length,.sref 2 0 (trA t).ed.length],.bool (tsB t)]) [.cells 1 ((trA t).ini.map enI),.cells 1 ((trA t).acc.map enB),.cells 4 ((trA t).ed.map Trans.cs)]:=by
 have cb:=z1216 t hs
 have cn:=z384 t (by omega)
 unfold trA tsB trO
 by_cases h:bscB t=true
 ·obtain ⟨⟨ht,hn⟩,h5⟩:=of_decide_eq_true (show decide _=true from h)
  obtain ⟨hB,hIn,hsz⟩:=z573 ht hn h5 hs
  rw [if_pos h] at cb ⊢
  rw [h] at cb
  rw [if_pos ⟨ht,hn⟩,y89 ⟨ht,hn⟩] at cn
  clear h ht hn
  generalize t.nrm false=g at *
  generalize bscL g=B at *
  have hp:=z1005 h5
  have cU:=z884 B (by omega)
  have hi0:=z695 B g
  have hul:(untB B).length≤B.length:=z246 B B.length
  have e2:((1:Int) * 2 ^ ((B.length:Int).toNat))=((2 ^ B.length:Nat):Int):=by
   rw [y83,Int.one_mul];norm_cast
  have hw:IntKind.u64.wrap (B.length:Int)=B.length:=by
   have:B.length=0∨B.length=1∨B.length=2∨B.length=3∨B.length=4∨B.length=5:=by omega
   rcases this with h|h|h|h|h|h<;>rw [h]<;>rfl
  rw [y17 t] at cb cn ⊢
  have cV:=fun s a b=>z169 B hB s a b g hIn hsz
  rw [y17 g] at cn cV
  refine z6 z9 Tryz.func178 rfl rfl 137 Tryz.ntmps178 (by simp) ?_
  repeat' ((first|(apply y4 ok;rfl)|(apply y50;first|omega|(unfold inI;omega))|(apply z0 (cb);rfl;rfl)|(apply z0 (cn);rfl;rfl)|(apply z0 (cU);rfl;rfl))<;>conv=>whnf)
  refine y92 (y95 1 rfl) ?_
  refine y92 (y95 1 rfl) ?_
  refine y92 (y95 4 rfl) ?_
  refine z77 (fun x:Nat×List (List Int)×List Int=>([(2,.ptr 0 none 0),(4,lst 3 Tree.cs' B),(6,.ptr 1 none 0),(8,.int ((2 ^ B.length:Nat):Int)),(9,ints (untB B)),(10,.ptr 2 none 0),(11,.sref 3 0 x.2.1.length),(12,.int x.1)],[.cells 3 [[.nils,.nils,.nils]],.cells 3 [[.int g.kind,.int g.val,lst 3 Tree.cs' g.kids]],.cells 3 [[.sref 4 0 x.2.2.length,.sref 5 0 0,.sref 6 0 0]],.cells 1 (x.2.1.map encL),.cells 1 (x.2.2.map enI),.cells 1 [],.cells 4 []])) (fun x=>x.1≤2 ^ B.length∧iniK B (fun s=>vlB B (s:Nat) g) x.1=x.2.1∧numI x.2.1.length=x.2.2) (fun x=>2 ^ B.length - x.1) (0,[],[]) ⟨y60 _,rfl,rfl⟩ (by refine swR [1,2,3,4,5,6,7] [] rfl rfl ?_;(repeat' first|exact y93 _|exact z57|(refine z453 ?_;omega)|apply y94|refine z10 rfl (z33) ?_|constructor)<;>((rw [e2];exact y93 _))) ?_
  rintro ⟨k,L,N⟩ ⟨hk,hL,hN⟩
  dsimp only at hk hL hN ⊢
  have hLl:=z955 B (fun s=>vlB B (s:Nat) g) k
  rw [hL] at hLl
  have nl:=z477 L.length
  have ns:=z762 L.length
  rw [hN] at nl ns
  by_cases hkl:k < 2 ^ B.length
  ·have hsu:=z793 B (fun s=>vlB B (s:Nat) g) k
   rw [hL] at hsu
   have cv:=cV k (by omega) (by omega)
   generalize vlB B (k:Nat) g=z at *
   cases z
   ·rw [if_neg (by simp),y71] at hsu
    repeat' ((first|(apply y4 ok;rfl)|(apply y50;(unfold inI;omega))|((apply z5)<;>intro _)|(apply z0 (cv);rfl;rfl))<;>conv=>whnf)
    all_goals try (exfalso;omega)
    all_goals refine z34 (k+1,L,N) ⟨by show k+1≤_;omega,hsu,hN⟩ (by show 2 ^ B.length - (k+1) < 2 ^ B.length - k;omega) (by refine swR [0,1,2,3,4,5,6] [] rfl rfl ?_;(repeat' first|exact y93 _|exact z11 _|apply y94|((refine z10 rfl ?_ ?_);(focus ((repeat' (first|exact z33|exact z4 (fun _=>rfl)));done)))|constructor))
   ·rw [if_pos rfl] at hsu
    repeat' ((first|(apply y4 ok;rfl)|(apply y50;first|(unfold inI;omega)|((try dsimp only);simp only [y56,y55,y54,y53,y64,y65];omega)|exact ⟨rfl,z38 rfl z45⟩)|((apply z5)<;>intro _)|(apply z0 (cv);rfl;rfl))<;>conv=>whnf)
    all_goals try (exfalso;omega)
    all_goals refine z34 (k+1,L++[[(k:Int),0]],N++[(L.length:Int)]) ⟨by show k+1≤_;omega,hsu,by show numI (L++[[(k:Int),0]]).length=_;rw [y54];exact ns⟩ (by show 2 ^ B.length - (k+1) < 2 ^ B.length - k;omega) (by refine swR [0,1,2,11,8,5,6] [9] rfl rfl ?_;(repeat' first|exact y93 _|(refine z43 ?_;((simp;done)))|apply y94|((first|refine z51 rfl ?_ ?_|refine z10 rfl ?_ ?_);(focus ((repeat' (first|exact z33|exact z4 (fun _=>rfl)|apply z40));done)))|(refine z73 ?_ ?_;(focus (omega)))|constructor))
  ·obtain rfl:k=2 ^ B.length:=by omega
   have hrows:=iniK_row B (fun s=>vlB B (s:Nat) g) (2 ^ B.length) B.length (untB B) (y59 _)
   rw [hL] at hrows
   have hL0:iniS B g=L:=hL
   have hR:goS B (untB B) 65 0 ⟨L,[],[]⟩=trS B g:=by rw [← hL0];rfl
   have hO:z334 L.length=fun x=>⟨N,if x.L.length=0 then [false] else x.acc,x.ed.map eT⟩:=by unfold z334;rw [hN]
   rw [hL0,hO]
   clear hO
   clear hL hkl cV cb cn cU hi0 ns hN hIn hsz hw e2 hk
   have hphase:=fun (s ph:Nat) (h:s < 2 ^ B.length) (h2:(untB B).length=0∨ph < (untB B).length)=>z1021 B hB s (by omega) (by omega) ph h2
   have hletter:=fun (s:Nat) (h:s < 2 ^ B.length)=>z885 B hB s (by omega) (by omega)
   have hfol:=fun (s k:Nat) (h:s < 2 ^ B.length) (h2:k < 2 ^ B.length)=>z781 B hB s k (by omega) (by omega) (by omega) (by omega)
   have hrowq:=fun (s ph:Nat) (h:(untB B).length=0∨ph < (untB B).length)=>phB_row (B:=B) (s:=s) h
   generalize trS B g=R at *
   have hRO:∀ x,R=some x→Option.map (fun x:TrS=>(⟨N,if x.L.length=0 then [false] else x.acc,x.ed.map eT⟩:Aut)) R=some ⟨N,if x.L.length=0 then [false] else x.acc,x.ed.map eT⟩:=fun x h=>by rw [h];rfl
   have hRN:R=none→Option.map (fun x:TrS=>(⟨N,if x.L.length=0 then [false] else x.acc,x.ed.map eT⟩:Aut)) R=none:=fun h=>by rw [h];rfl
   generalize Option.map (fun x:TrS=>(⟨N,if x.L.length=0 then [false] else x.acc,x.ed.map eT⟩:Aut)) R=O at *
   repeat' ((first|(apply y4 ok;rfl)|((apply z5)<;>intro _))<;>conv=>whnf)
   all_goals try (exfalso;omega)
   refine z77 (fun x:Nat×TrS=>([(2,.ptr 0 none 0),(4,lst 3 Tree.cs' B),(8,.int ((2 ^ B.length:Nat):Int)),(9,ints (untB B)),(10,.ptr 1 none 0),(11,.sref 2 0 x.2.L.length),(13,.int x.1)],[.cells 3 [[.nils,.nils,.nils]],.cells 3 [[.sref 3 0 N.length,.sref 4 0 x.2.acc.length,.sref 5 0 x.2.ed.length]],.cells 1 (x.2.L.map encL),.cells 1 (N.map enI),.cells 1 (x.2.acc.map enB),.cells 4 (x.2.ed.map fun e=>Trans.cs (eT e))])) (fun x=>x.1≤64∧goS B (untB B) (65 - x.1) x.1 x.2=R∧(∀ r∈x.2.L,RowS B.length (untB B) r)∧x.2.acc.length≤x.1∧x.2.ed.length≤x.1 * 32∧x.2.L.length≤100) (fun x=>65 - x.1) (0,⟨L,[],[]⟩) ⟨by omega,hR,hrows,y59 _,y59 _,by show L.length≤100;omega⟩ (by refine swR [0,2,3,4,5,6] [] rfl rfl ?_;(repeat' first|exact y93 _|exact z11 _|apply y94|((refine z10 rfl ?_ ?_);(focus ((repeat' (first|exact z33|exact z4 (fun _=>rfl)));done)))|constructor)) ?_
   have hN100:N.length≤100:=by omega
   clear hL0 hR hrows hLl nl L
   rintro ⟨i,⟨L,acc,ed⟩⟩ ⟨hi,hR,hrows,hacc,hed,hL⟩
   dsimp only at hi hR hrows hacc hed hL ⊢
   rw [show 65 - i=(64 - i)+1 by omega,goS] at hR
   dsimp only at hR
   by_cases hil:i < L.length
   ·rw [if_pos hil] at hR
    by_cases h64:64 < L.length
    ·rw [if_pos h64] at hR
     have hO:=hRN hR.symm
     subst hO
     repeat' ((first|(apply y4 ok;rfl)|(apply y50;omega)|((first|(with_reducible apply z103;omega)|(apply z8;omega));intro _)|((apply z5)<;>intro _))<;>conv=>whnf)
     all_goals try (exfalso;omega)
     all_goals (refine y96 1 ?_;refine y96 1 ?_;refine y96 4 ?_;refine rsD [6,7,8] [] rfl ?_;(repeat' first|exact y93 _|exact z57|refine z10 rfl (z33) ?_|apply z64|apply z72|constructor))
    ·rw [if_neg h64] at hR
     obtain ⟨s,ph,er,hs2,hph⟩:=hrows (L.getD i []) (by rw [z18 hil];exact y51 _)
     have gk:(L.map encL)[i]?=some (encL [(s:Int),(ph:Int)]):=by rw [y58,y52 hil,← er,z18 hil];rfl
     have cP:=hphase s ph hs2 hph
     have cL:=hletter s hs2
     obtain ⟨q,eq,hq⟩:=hrowq s ph hph
     have hRS:z184 B (untB B) i ⟨L,acc,ed⟩=⟨((List.range (2 ^ B.length)).foldl (z101 B s q i (letB B s).1 (letB B s).2) (L,ed)).1,acc++[(phB B (untB B) s ph).2],((List.range (2 ^ B.length)).foldl (z101 B s q i (letB B s).1 (letB B s).2) (L,ed)).2⟩:=by
      unfold z184
      dsimp only
      rw [er,← eq];rfl
     rw [hRS] at hR
     rw [eq] at cP
     have hfol:=fun k h=>hfol s k hs2 h
     generalize (phB B (untB B) s ph).2=z at *
     generalize (letB B s).1=c at *
     generalize (letB B s).2=v at *
     clear hphase hletter hrowq hRS eq
     repeat' ((first|(apply y4 ok;rfl)|(refine z13 (i:=i) rfl gk ?_)|(refine ⟨_,rfl,?_⟩)|(apply y50;first|omega|((try dsimp only);simp only [y56,y55,y54,y53,y64,y65];omega)|exact ⟨rfl,z38 rfl z45⟩)|((apply z5)<;>intro _)|(apply z0 (cP);rfl;rfl)|(apply z0 (cL);rfl;rfl))<;>conv=>whnf)
     all_goals try (exfalso;omega)
     have hrow0:∀ r∈L,r.length≤1000:=fun r hr=>by obtain ⟨_,_,e,_,_⟩:=hrows r hr;rw [e];simp
     refine z77 (fun y:Nat×List (List Int)×List Edg=>([(2,.ptr 0 none 0),(4,lst 3 Tree.cs' B),(8,.int ((2 ^ B.length:Nat):Int)),(9,ints (untB B)),(10,.ptr 1 none 0),(11,.sref 2 0 y.2.1.length),(13,.int i),(14,.int s),(15,.int q),(17,.int c),(18,.int v),(19,.int y.1)],[.cells 3 [[.nils,.nils,.nils]],.cells 3 [[.sref 3 0 N.length,.sref 4 0 (acc.length+1),.sref 5 0 y.2.2.length]],.cells 1 (y.2.1.map encL),.cells 1 (N.map enI),.cells 1 ((acc++[z]).map enB),.cells 4 (y.2.2.map fun e=>Trans.cs (eT e))])) (fun y=>y.1≤2 ^ B.length∧(List.range y.1).foldl (z101 B s q i c v) (L,ed)=y.2∧(∀ r∈y.2.1,RowS B.length (untB B) r)∧y.2.1.length≤L.length+y.1∧y.2.2.length≤ed.length+y.1) (fun y=>2 ^ B.length - y.1) (0,L,ed) ⟨y60 _,rfl,hrows,y59 _,y59 _⟩ (by refine swR [0,1,2,3,7,5] [] rfl rfl ?_;(repeat' first|exact y93 _|exact z11 _|apply y94|((first|refine z51 rfl ?_ ?_|refine z10 rfl ?_ ?_);(focus ((repeat' (first|exact z4 (fun _=>rfl)|apply z40));done)))|(refine z73 ?_ ?_;(focus (omega)))|constructor)) ?_
     rintro ⟨k,L',ed'⟩ ⟨hk,hf,hrows',hLl,hel⟩
     dsimp only at hk hf hrows' hLl hel ⊢
     by_cases hkl:k < 2 ^ B.length
     ·have cF:=hfol k hkl
      have hfs:(List.range (k+1)).foldl (z101 B s q i c v) (L,ed)=z101 B s q i c v (L',ed') k:=by rw [y68,y69,hf];rfl
      have he:z101 B s q i c v (L',ed') k=if folB B s k=true then (z124 L' [(k:Int),(q:Int)],ed'++[⟨i,c,v,z189 L' [(k:Int),(q:Int)]⟩]) else (L',ed'):=rfl
      rw [he] at hfs
      clear he
      by_cases hb:folB B s k=true
      ·rw [if_pos hb] at hfs
       rw [hb] at cF
       have cQ:=z1163 L' (by omega) (fun r hr=>by obtain ⟨_,_,e,_,_⟩:=hrows' r hr;rw [e];simp) [(k:Int),(q:Int)] (by simp)
       have hpl:(z124 L' [(k:Int),(q:Int)]).length≤L'.length+1:=by unfold z124;split<;>simp
       have hpr:∀ r∈z124 L' [(k:Int),(q:Int)],RowS B.length (untB B) r:=fun r hr=>by
        unfold z124 at hr
        split at hr
        ·exact hrows' r hr
        ·rcases List.mem_append.1 hr with h|h
         ·exact hrows' r h
         ·rw [List.mem_singleton.1 h];exact ⟨k,q,rfl,hkl,hq⟩
       generalize z124 L' [(k:Int),(q:Int)]=L2 at *
       generalize z189 L' [(k:Int),(q:Int)]=n at *
       repeat' ((first|(apply y4 ok;rfl)|(apply y50;first|omega|(unfold inI;omega)|((try dsimp only);simp only [y56,y55,y54,y53,y64,y65];omega)|exact ⟨rfl,z38 rfl z45⟩)|((apply z5)<;>intro _)|(apply z0 (cF);rfl;rfl)|(apply z95 [2,6] [7] cQ;rfl;(focus ((repeat' first|exact z14|apply z27)<;>first|rfl|(refine z41 rfl ?_;((exact z4 fun _=>rfl)))));rfl;(focus ((repeat' first|exact z12|apply z15)<;>first|exact z135|(refine z22 ?_;((exact z4 fun _=>rfl)))))))<;>conv=>whnf)
       all_goals try (exfalso;omega)
       all_goals refine z34 (k+1,L2,ed'++[⟨i,c,v,n⟩]) ⟨by show k+1≤_;omega,hfs,hpr,by show L2.length≤L.length+(k+1);omega,by show (ed'++[_]).length≤ed.length+(k+1);simp;omega⟩ (by show 2 ^ B.length - (k+1) < 2 ^ B.length - k;omega) (by refine swR [0,1,7,3,4,9] [] rfl rfl ?_;(repeat' first|exact y93 _|exact z11 _|(refine z43 ?_;((simp;done)))|apply y94|((first|refine z51 rfl ?_ ?_|refine z10 rfl ?_ ?_);(focus ((repeat' (first|exact z4 (fun _=>rfl)|apply z40));done)))|(refine z73 ?_ ?_;(focus (omega)))|constructor))
      ·rw [if_neg hb] at hfs
       rw [(y78 _).mp hb] at cF
       repeat' ((first|(apply y4 ok;rfl)|(apply y50;first|omega|(unfold inI;omega))|((apply z5)<;>intro _)|(apply z0 (cF);rfl;rfl))<;>conv=>whnf)
       all_goals try (exfalso;omega)
       all_goals refine z34 (k+1,L',ed') ⟨by show k+1≤_;omega,hfs,hrows',by show L'.length≤L.length+(k+1);omega,by show ed'.length≤ed.length+(k+1);omega⟩ (by show 2 ^ B.length - (k+1) < 2 ^ B.length - k;omega) (by refine swR [0,1,2,3,4,5] [] rfl rfl ?_;(repeat' first|exact y93 _|exact z11 _|apply y94|refine z10 rfl (z4 (fun _=>rfl)) ?_|constructor))
     ·obtain rfl:k=2 ^ B.length:=by omega
      rw [hf] at hR
      have hed2:ed'.length≤(i+1) * 32:=by omega
      repeat' ((first|(apply y4 ok;rfl)|(apply y50;(unfold inI;omega))|((apply z5)<;>intro _))<;>conv=>whnf)
      all_goals try (exfalso;omega)
      all_goals refine z34 (i+1,⟨L',acc++[z],ed'⟩) ⟨by show i+1≤64;omega,by rw [show 65 - (i+1)=64 - i by omega];exact hR,hrows',by show (acc++[z]).length≤i+1;simp;omega,hed2,by show L'.length≤100;omega⟩ (by show 65 - (i+1) < 65 - i;omega) (by refine swR [0,1,2,3,4,5] [] rfl rfl ?_;(repeat' first|exact y93 _|exact z11 _|(refine z43 ?_;((simp;done)))|apply y94|refine z10 rfl (z4 (fun _=>rfl)) ?_|constructor))
   ·rw [if_neg hil] at hR
    have hO:=hRO _ hR.symm
    dsimp only at hO
    by_cases h0:L.length=0
    ·rw [if_pos h0] at hO
     subst hO
     repeat' ((first|(apply y4 ok;rfl)|(apply y50;omega)|((first|(with_reducible apply z103;omega)|(apply z8;omega));intro _)|((apply z5)<;>intro _))<;>conv=>whnf)
     all_goals try (exfalso;omega)
     all_goals (refine rsD [3,6,5] [] rfl ?_;(repeat' first|exact y93 _|exact z11 _|(refine z43 ?_;((simp;done)))|apply y94|refine z10 rfl (z4 (fun _=>rfl)) ?_|apply z64|apply z72|constructor))
     all_goals exact z55 (by show _=List.map Trans.cs (List.map eT ed);rw [List.map_map];rfl)
    ·rw [if_neg h0] at hO
     subst hO
     repeat' ((first|(apply y4 ok;rfl)|(apply y50;omega)|((first|(with_reducible apply z103;omega)|(apply z8;omega));intro _)|((apply z5)<;>intro _))<;>conv=>whnf)
     all_goals try (exfalso;omega)
     all_goals (refine rsD [3,4,5] [] rfl ?_;(repeat' first|exact y93 _|exact z11 _|(refine z43 ?_;((simp;done)))|refine z10 rfl (z4 (fun _=>rfl)) ?_|apply z64|apply z72|constructor))
     all_goals exact z55 (by show _=List.map Trans.cs (List.map eT ed);rw [List.map_map];rfl)
 ·rw [if_neg h] at cb ⊢
  rw [(y78 _).mp h] at cb
  refine z6 z9 Tryz.func178 rfl rfl 137 Tryz.ntmps178 (by simp) ?_
  repeat' ((first|(apply y4 ok;rfl)|(apply z0 (cb);rfl;rfl))<;>conv=>whnf)
  all_goals (refine y96 1 ?_;refine y96 1 ?_;refine y96 4 ?_;refine rsD [2,3,4] [] rfl ?_;(repeat' first|exact y93 _|exact z57|refine z10 rfl (z33) ?_|apply z64|apply z72|constructor))
noncomputable def mvK (B:List Tree) (s:Int) (k:Nat):List Nat:=(List.range k).filter fun t=>folB B s t
theorem mvK_succ (B:List Tree) (s:Int) (k:Nat):mvK B s (k+1)=mvK B s k++(if folB B s k=true then [k] else []):=by
 unfold mvK
 rw [y68,List.filter_append]
 congr 1
 by_cases h:folB B s k=true
 ·rw [if_pos h,List.filter_cons_of_pos (p:=fun t:Nat=>folB B s t) h];rfl
 ·rw [if_neg h,List.filter_cons_of_neg (p:=fun t:Nat=>folB B s t) h];rfl
theorem z1148 (B:List Tree) (s:Int) (k:Nat):(mvK B s k).length≤k:=by
 unfold mvK
 have:=List.length_filter_le (fun t:Nat=>folB B s t) (List.range k)
 simpa using this
def enMv (c v:Nat) (q:Int) (x:Nat):List AC:=[.int c,.int v,.int x,.int q]
theorem bit_of (s:Int) (i:Nat):(hasB s i=true→((((s / 2 ^ ((i:Int)).toNat).toNat &&& (1:Int).toNat:Nat):Int))=1)∧(hasB s i=false→((((s / 2 ^ ((i:Int)).toNat).toNat &&& (1:Int).toNat:Nat):Int))=0):=by
 have h1:∀ n:Nat,n &&& 1=n % 2:=fun n=>Nat.and_one_is_mod n
 unfold hasB
 constructor
 ·intro h;exact of_decide_eq_true h
 ·intro h
  have:=of_decide_eq_false h
  rw [show (1:Int).toNat=1 from rfl,h1] at *
  omega
set_option maxHeartbeats 6400000 in
theorem z1149 (B : List Tree) (hB : BasL B) (s ph : Nat) (s1 : s ≤ 31) (hp : (untB B).length = 0 ∧ ph = 0 ∨ ph < (untB B).length) :
    CallsA Tryz.prog 192 [.pt [lst 3 Tree.cs' B,ints (untB B)],.agg [.int s,.int ph]] [] (.sref 0 0 (mvK B s (2 ^ B.length)).length) [.cells 4 ((mvK B s (2 ^ B.length)).map (enMv (letB B s).1 (letB B s).2 (phB B (untB B) s ph).1))]:=by
  have hl:=hB.len
  have hp5:=z1005 hl
  have hul:(untB B).length≤B.length:=z246 B B.length
  refine z6 z9 Tryz.func192 rfl rfl 87 Tryz.ntmps192 (by simp) ?_
  repeat' ((first|(apply y4 ok;rfl)|(apply z17;kernel_rfl))<;>conv=>whnf)
  refine z77 (fun x:Nat×Nat×Nat=>([(0,.pt [lst 3 Tree.cs' B,ints (untB B)]),(3,.ptr 0 none 0),(5,.int x.2.1),(6,.int x.2.2),(7,.int ph),(18,lst 3 Tree.cs' B),(19,.int B.length),(20,.int x.1)],[.cells 2 [[.int s,.int ph]]])) (fun x=>x.1≤B.length∧(List.range x.1).foldl (atoI B s) (0,0)=x.2∧x.2.1 < 8∧x.2.2 < 8) (fun x=>B.length - x.1) (0,0,0) ⟨y60 _,rfl,by decide,by decide⟩ (by refine swR [0] [] rfl rfl ?_;(repeat' first|exact y93 _|apply y94|constructor)) ?_
  rintro ⟨i,c,v⟩ ⟨hi,hf,hc,hv⟩
  dsimp only at hi hf hc hv ⊢
  by_cases hil:i < B.length
  · have gk:(B.map Tree.cs')[i]?=some (Tree.cs' (B.getD i dftT)):=by rw [y58,y52 hil,z18 hil];rfl
    have hmem:B.getD i dftT∈B:=by rw [z18 hil];exact y51 _
    have hform:=hB.form hmem
    have hs:=z331 (B:=B) (s:=s) i
    have hbt:=bit_of s i
    have d1:=z812 (s:=s) (i:=i) (by omega) (by omega) (by omega)
    rw [hf] at hs
    unfold atoI at hs
    dsimp only at hs
    by_cases hk:(B.getD i dftT).kind=2
    · rw [if_pos hk] at hs
      have hvv:∃ a:Nat,(B.getD i dftT).val=a∧a≤2:=by
        generalize B.getD i dftT=f at *
        cases hform with
        | «at» v=>have:=hB.av v hmem;exact ⟨v.toNat,by simp [Tree.val];omega,by omega⟩
        | nx a _ _=>simp [Tree.kind] at hk
        | un a b _ _ _ _=>simp [Tree.kind] at hk
        | re a b _ _ _ _=>simp [Tree.kind] at hk
      obtain ⟨a,ea,ha⟩:=hvv
      have gk2:(B.map Tree.cs')[i]?=some [.int 2,.int a,.list 3 (B.getD i dftT).kids.length ((B.getD i dftT).kids.map Tree.cs)]:=by rw [gk,← hk,← ea];rfl
      have o1:=z528 hc ha
      have o2:=z528 hv ha
      have e:=z941 a (by omega)
      have hpb:=z379 (show a < 3 by omega)
      rw [ea,y83] at hs
      clear gk hform hmem hk ea
      generalize hasB s i=z at *
      generalize (B.getD i dftT).kids=ks at *
      cases z
      · rw [if_neg (by simp)] at hs
        have hb:=hbt.2 rfl
        repeat' ((first|(apply y4 ok;rfl)|(apply z17;kernel_rfl)|(refine z13 (i:=i) rfl gk2 ?_)|(rw [hb])|(rw [Int.zero_mul])|(rw [e])|(refine y50 (by unfold z161;first|omega|(rw [y83];omega)) ?_)|(apply y50;first|omega|(unfold inI;omega))|((apply z5)<;>intro _))<;>conv=>whnf)
        all_goals try (exfalso;omega)
        all_goals refine z34 (i+1,c ||| 2 ^ a,v) ⟨by show i+1≤_;omega,hs,o1,hv⟩ (by show B.length - (i+1) < B.length - i;omega) (by refine swR [0] [] rfl rfl ?_;(repeat' first|exact y93 _|apply y94|constructor)<;>((refine z453 ?_;simp)))
      · rw [if_pos rfl] at hs
        have hb:=hbt.1 rfl
        repeat' ((first|(apply y4 ok;rfl)|(apply z17;kernel_rfl)|(refine z13 (i:=i) rfl gk2 ?_)|(rw [hb])|(rw [e])|(refine y50 (by unfold z161;first|omega|(rw [y83];omega)) ?_)|(apply y50;first|omega|(unfold inI;omega))|((apply z5)<;>intro _))<;>conv=>whnf)
        all_goals try (exfalso;omega)
        all_goals refine z34 (i+1,c ||| 2 ^ a,v ||| 2 ^ a) ⟨by show i+1≤_;omega,hs,o1,o2⟩ (by show B.length - (i+1) < B.length - i;omega) (by refine swR [0] [] rfl rfl ?_;(repeat' first|exact y93 _|apply y94|constructor)<;>((refine z453 ?_;simp)))
    · rw [if_neg hk] at hs
      generalize B.getD i dftT=f at *
      repeat' ((first|(apply y4 ok;rfl)|(apply z17;kernel_rfl)|(refine z13 (i:=i) rfl gk ?_)|(apply y50;first|omega|(unfold inI;omega))|((apply z5)<;>intro _))<;>conv=>whnf)
      all_goals try (exfalso;omega)
      all_goals refine z34 (i+1,c,v) ⟨by show i+1≤_;omega,hs,hc,hv⟩ (by show B.length - (i+1) < B.length - i;omega) (by refine swR [0] [] rfl rfl ?_;(repeat' first|exact y93 _|apply y94|constructor))
  · obtain rfl:i=B.length:=by omega
    have eL:letB B s=(c,v):=hf
    rw [eL]
    clear hf eL
    have e2:((1:Int) * 2 ^ ((B.length:Int).toNat))=((2 ^ B.length:Nat):Int):=by
      rw [y83,Int.one_mul];norm_cast
    obtain ⟨q,eq,hcase⟩:∃ q:Nat,(phB B (untB B) s ph).1=q∧(((untB B).length=0∧True∧q=ph)∨(ph < (untB B).length∧fulB B s ((untB B).getD ph 0)=true∧q=(ph+1) % (untB B).length)∨(ph < (untB B).length∧fulB B s ((untB B).getD ph 0)=false∧q=ph)):=by
      unfold phB
      by_cases h0:(untB B).length=0
      · rw [if_pos h0];exact ⟨0,rfl,.inl ⟨h0,trivial,by omega⟩⟩
      · rw [if_neg h0]
        by_cases hb:fulB B s ((untB B).getD ph 0)=true
        · rw [y83,if_pos hb]
          exact ⟨(ph+1) % (untB B).length,by simp,.inr (.inl ⟨by omega,hb,rfl⟩)⟩
        · rw [y83,if_neg hb]
          exact ⟨ph,rfl,.inr (.inr ⟨by omega,(y78 _).mp hb,rfl⟩)⟩
    rw [eq]
    have hu:=fun (h:ph < (untB B).length)=>z654 (B:=B) (x:=(untB B).getD ph 0) (by rw [z18 h];exact y51 _)
    have cFu:ph < (untB B).length→CallsA Tryz.prog 190 [.pt [lst 3 Tree.cs' B,ints (untB B)],.int s,.int ph] [] (.bool (fulB B s ((untB B).getD ph 0))) []:=fun h=>by
      obtain ⟨u,e1,e3,e4⟩:=hu h
      have:=z632 B (untB B) hB s (by omega) (by omega) ph u h (by omega) e1 e3 e4
      rw [← e1] at this;exact this
    have cFo:=fun (k:Nat) (h:k < 2 ^ B.length)=>z1034 B (untB B) hB s k (by omega) (by omega) (by omega) (by omega)
    clear hu
    have hpq:q≤100:=by
      rcases hcase with ⟨_,_,h⟩|⟨h1,_,h⟩|⟨_,_,h⟩
      · omega
      · have h3:(ph+1) % (untB B).length < (untB B).length:=Nat.mod_lt _ (by omega)
        rw [← h] at h3;omega
      · omega
    rcases hcase with ⟨h1,h2,hq⟩|⟨h1,h2,hq⟩|⟨h1,h2,hq⟩
    all_goals first|(have cF:=cFu h1;rw [h2] at cF)|have cF:=True.intro
    all_goals clear cFu eq hp
    all_goals repeat' ((first|(apply y4 ok;rfl)|(apply z17;kernel_rfl)|(rw [e2])|(apply y50;first|omega|(unfold inI;omega))|(((with_reducible apply z8;omega));intro _)|((apply z5)<;>intro _)|(apply z0 (cF);rfl;rfl))<;>conv=>whnf)
    all_goals try (exfalso;omega)
    all_goals
      refine y92 (y95 4 rfl) ?_
      refine z77 (fun x:Nat×List Nat=>([(0,.pt [lst 3 Tree.cs' B,ints (untB B)]),(3,.ptr 0 none 0),(5,.int c),(6,.int v),(7,.int q),(11,.sref 1 0 x.2.length),(67,.int ((2 ^ B.length:Nat):Int)),(68,.int x.1)],[.cells 2 [[.int s,.int ph]],.cells 4 (x.2.map (enMv c v q))])) (fun x=>x.1≤2 ^ B.length∧mvK B s x.1=x.2) (fun x=>2 ^ B.length - x.1) (0,[]) ⟨y60 _,rfl⟩ (by refine swR [0,1] [] rfl rfl ?_;(repeat' first|exact y93 _|exact z57|(refine z453 ?_;omega)|apply y94|refine z10 rfl (z33) ?_|constructor)<;>((refine z453 ?_;rw [hq];(simp;done)))) ?_
      clear h1 h2 hq cF
      rintro ⟨k,M⟩ ⟨hk,hM⟩
      dsimp only at hk hM ⊢
      have hMl:=z1148 B s k
      rw [hM] at hMl
      by_cases hkl:k < 2 ^ B.length
      · have cO:=cFo k hkl
        have hs:=mvK_succ B s k
        rw [hM] at hs
        by_cases hb:folB B s k=true
        · rw [hb] at cO
          rw [if_pos hb] at hs
          repeat' ((first|(apply y4 ok;rfl)|(apply y50;first|(unfold inI;omega)|((try dsimp only);simp only [y56,y55,y54,y53,y64,y65];omega)|exact ⟨rfl,z38 rfl z45⟩)|((apply z5)<;>intro _)|(apply z0 (cO);rfl;rfl))<;>conv=>whnf)
          all_goals try (exfalso;omega)
          all_goals refine z34 (k+1,M++[k]) ⟨by show k+1≤_;omega,hs⟩ (by show 2 ^ B.length - (k+1) < 2 ^ B.length - k;omega) (by refine swR [0,3] [] rfl rfl ?_;(repeat' first|exact y93 _|(refine z43 ?_;((simp;done)))|apply y94|((refine z51 rfl ?_ ?_);(focus ((repeat' (first|exact z4 (fun _=>rfl)|apply z40));done)))|(refine z73 ?_ ?_;(focus (omega)))|constructor))
        · rw [(y78 _).mp hb] at cO
          rw [if_neg hb,y71] at hs
          repeat' ((first|(apply y4 ok;rfl)|(apply y50;(unfold inI;omega))|((apply z5)<;>intro _)|(apply z0 (cO);rfl;rfl))<;>conv=>whnf)
          all_goals try (exfalso;omega)
          all_goals refine z34 (k+1,M) ⟨by show k+1≤_;omega,hs⟩ (by show 2 ^ B.length - (k+1) < 2 ^ B.length - k;omega) (by refine swR [0,1] [] rfl rfl ?_;(repeat' first|exact y93 _|exact z11 _|apply y94|refine z10 rfl (z4 (fun _=>rfl)) ?_|constructor))
      · obtain rfl:k=2 ^ B.length:=by omega
        rw [hM]
        repeat' ((first|(apply y4 ok;rfl)|((apply z5)<;>intro _))<;>conv=>whnf)
        all_goals try (exfalso;omega)
        all_goals (refine rsD [1] [] rfl ?_;(repeat' first|exact y93 _|exact z11 _|refine z10 rfl (z4 (fun _=>rfl)) ?_|constructor))
set_option maxRecDepth 20000 in
theorem keyT_ph:KeyT Tryz.prog 230 2:=by
 refine ⟨by kernel_rfl,by kernel_rfl,?_,by kernel_rfl⟩
 intro i f h
 unfold Program.fieldsOf at h
 rw [Tryz.underlying230] at h
 match i,h with
 |0,h=>cases h;exact ⟨by decide,rfl,Tryz.underlying3⟩
 |1,h=>cases h;exact ⟨by decide,rfl,Tryz.underlying3⟩
 |i+2,h=>simp at h
@[reducible] def objsX (L:List (List Int)):List AObj:=[.cells 1 [[.mref 1]],.mp 2 (z277 0 L),.cells 1 [[.own 2 (L.map enP)]]]
set_option maxRecDepth 20000 in
set_option maxHeartbeats 3200000 in
theorem z1189 (L : List (List Int)) (hL : L.length ≤ 5000) (s ph : Nat) :
    CallsA Tryz.prog 240 [.agg [.int s,.int ph],.ptr 0 none 0,.ptr 2 none 0] (objsX L) (.int (z189 L [(s:Int),(ph:Int)])) (objsX (z124 L [(s:Int),(ph:Int)])):=by
  have m1:=z626 [(s:Int),(ph:Int)] 0 L
  have ke:=keyT_ph
  unfold z189 z124
  by_cases h : [(s:Int),(ph:Int)]∈L
  · rw [if_pos h,Nat.zero_add] at m1
    rw [if_pos h]
    refine z6 z9 Tryz.func240 rfl (by kernel_rfl) 25 Tryz.ntmps240 (by simp) ?_
    repeat' ((first|(apply y4 ok;rfl)|(refine y50 ke ?_)|(rw [m1]))<;>conv=>whnf)
    all_goals (refine rsD [0,1,2] [] rfl ?_;(repeat' first|exact y93 _|apply y94|constructor))
    all_goals rfl
  · rw [if_neg h] at m1
    rw [if_neg h,List.idxOf_eq_length h]
    have m6:mput (z277 0 L) [(s:Int),(ph:Int)] (L.length:Int)=z277 0 (L++[[(s:Int),(ph:Int)]]):=by
      rw [z625 _ _ _ h,z806,Nat.zero_add]
    have e2:(L.map enP).take L.length++[[AC.int s,AC.int ph]]=(L++[[(s:Int),(ph:Int)]]).map enP:=by
      rw [y63 (by simp),y70];rfl
    refine z6 z9 Tryz.func240 rfl (by kernel_rfl) 25 Tryz.ntmps240 (by simp) ?_
    refine y92 (Gl.Reach.expose 2 0 0 rfl rfl rfl (z155 (fun _=>rfl) _) rfl) ?_
    refine y92 (show Gl.Reach _ _ (mkSt _ [(0,.agg [.int s,.int ph]),(1,.ptr 0 none 0),(2,.ptr 2 none 0)] [.cells 1 [[.mref 1]],.mp 2 (z277 0 L),.cells 1 [[.sref 3 0 L.length]],.cells 2 (L.map enP)]) from (by refine swR [0,1,2,3] [] rfl rfl ?_;(repeat' first|exact y93 _|exact z11 _|(refine z43 ?_;((simp;done)))|apply y94|refine z10 rfl (z4 (fun _=>rfl)) ?_|constructor)<;>(rfl))) ?_
    repeat' ((first|(apply y4 ok;rfl)|(refine y50 ke ?_)|(rw [m6])|(rw [m1])|(apply y50;first|((try dsimp only);simp only [y56,y55,y54,y53,y64,y65];omega)|exact ⟨rfl,z38 rfl z45⟩))<;>conv=>whnf)
    all_goals
      refine Gl.RetS.absorb 2 6 0 0 rfl rfl rfl rfl (by simp) rfl (z52 (fun e he=>(z4 (fun _=>rfl)) e (List.mem_of_mem_take he)) (z206 rfl z33)) ?_
      conv=>whnf
      (refine rsD [0,1,2] [] rfl ?_;(repeat' first|exact y93 _|apply y94|constructor))
      all_goals first|rfl|exact y9 (congrArg (AC.own 2) e2)
end Go.Proofs.YtnfoijopccdjeaaGreat
namespace Go.Proofs.YtnfoijopccdjeaaGreat
open Go.Gl
attribute [local irreducible] z16 AWP z29 z32 z30
theorem z1210 {objs:Nat→AObj} {π Bn:List Nat} {o:Nat} {l:List Trans} (ho:objs o=.cells 4 (l.map Trans.cs)) (h1:idx π o=none) (h2:inB Bn o=true):bor objs π Bn (.sref o 0 l.length)=lst 4 Trans.cs l :=
 z143 ho h1 h2 (by simp) (z125 Trans.unown l)
theorem z720 {objs : Nat → AObj} {π Bn : List Nat} {o1 o2 o3 : Nat} {a : Aut} (h1 : objs o1 = .cells 1 (a.ini.map enI)) (h2 : objs o2 = .cells 1 (a.acc.map enB)) (h3 : objs o3 = .cells 4 (a.ed.map Trans.cs)) (i1 : idx π o1 = none) (b1 : inB Bn o1 = true) (i2 : idx π o2 = none) (b2 : inB Bn o2 = true) (i3 : idx π o3 = none) (b3 : inB Bn o3 = true) :
    bor objs π Bn (.agg [.sref o1 0 a.ini.length,.sref o2 0 a.acc.length,.sref o3 0 a.ed.length])=.agg a.cs :=
  z916 (z23 (z91 h1 i1 b1) (z23 (z1211 h2 i2 b2) (z23 (z1210 h3 i3 b3) z48)))
structure Aut.ok (a:Aut):Prop where
 mx:a.mx
 ini:a.ini.length≤1048576
 acc:a.acc.length≤1048576
 ed:a.ed.length≤1048576
theorem Aut.ok_of {a:Aut} (h:a.mx) (h1:a.s1≤1048576) (h2:a.s2≤1048576) (h3:a.s3≤1048576):a.ok:=⟨h,h1,h2,h3⟩
def Aut.ml (a:Aut):Nat:=a.ini.length+a.acc.length+4 * a.ed.length
theorem Aut.ml_le {a:Aut} (h:a.ok):a.ml≤8388608:=by
 have:=h.ini;have:=h.acc;have:=h.ed
 unfold Aut.ml;omega
theorem clB_full (l:List Bool) (hl:l.length≤1048576) (hp:0 < l.length):CallsA Tryz.prog 281 [lst 1 enB l] [] (.sref 0 0 l.length) [.cells 1 (l.map enB)]:=by
 refine z7 z9 Tryz.func281 rfl rfl 8 Tryz.ntmps281 (by simp) ?_
 repeat' (first|(apply y4 ok;rfl;conv=>whnf)|(apply y50;(first|omega|(dsimp only;omega)|exact z151 (fun _=>rfl));conv=>whnf))
 exact z97 rfl (z4 fun _=>rfl) (Nat.zero_add _) rfl rfl
theorem clB_new0 (l:List Bool) (hl:l.length≤1048576):CallsA Tryz.prog 281 [lst 1 enB l] [] (.sref 0 0 l.length) [.cells 1 (l.map enB)]:=by
 by_cases hp:0 < l.length
 ·exact clB_full l hl hp
 ·obtain rfl:l=[]:=y80 (by omega)
  refine z207 (z297 Tryz.func281 rfl (by rfl)) fun ad cap=>?_
  cases ad with
  |none =>
   refine CallsA.nils (res:=.nils) (l:=[.cells 1 []]) ?_ (by simp) z478
   refine z7 z9 Tryz.func281 rfl rfl 8 Tryz.ntmps281 (by simp) ?_
   repeat' ((apply y4 ok;rfl;conv=>whnf))
   all_goals exact z42 rfl rfl rfl
  |some p =>
   refine z7 z9 Tryz.func281 rfl rfl 8 Tryz.ntmps281 (by simp) ?_
   repeat' (first|(apply y4 ok;rfl;conv=>whnf)|(apply y50;(omega);conv=>whnf))
   all_goals (exact z97 rfl z33 rfl rfl rfl)
theorem clB_clip (l:List Bool) (hl:l.length≤1048576):CallsA Tryz.prog 280 [.sref 0 0 l.length] [.cells 1 (l.map enB)] (.sref 0 0 l.length) [.cells 1 (l.map enB)]:=by
 refine z7 z9 Tryz.func280 rfl rfl 9 Tryz.ntmps280 (by simp) ?_
 repeat' (first|(apply y4 ok;rfl;conv=>whnf)|(apply y50;(omega);conv=>whnf))
 exact z97 rfl (z4 fun _=>rfl) (by omega) rfl rfl
theorem clB_new (l:List Bool) (hl:l.length≤1048576):CallsA Tryz.prog 271 [lst 1 enB l] [] (.sref 0 0 l.length) [.cells 1 (l.map enB)]:=by
 refine z7 z9 Tryz.func271 rfl rfl 6 Tryz.ntmps271 (by simp) ?_
 repeat' (first|(apply y4 ok;rfl;conv=>whnf)|(apply z35 [] [] [0] (clB_new0 l hl);rfl;(focus ((repeat' (exact z14))<;>(fail)));rfl;rfl;rfl;rfl;rfl;(focus ((repeat' (first|exact z12|apply z15))<;>((refine z22 ?_;((exact z4 (fun _=>rfl)))))));(exact .inl rfl);conv=>whnf)|(apply z35 [0] [] [] (clB_clip l hl);rfl;(focus ((repeat' (first|exact z14|apply z27))<;>((refine z41 rfl ?_;((exact z4 (fun _=>rfl)))))));rfl;rfl;rfl;rfl;rfl;(focus ((repeat' (first|exact z12|apply z15))<;>((refine z22 ?_;((exact z4 (fun _=>rfl)))))));(exact .inl rfl);conv=>whnf))
 exact z97 rfl (z4 fun _=>rfl) rfl rfl rfl
theorem clT_full (l:List Trans) (hl:l.length≤1048576) (hp:0 < l.length):CallsA Tryz.prog 283 [lst 4 Trans.cs l] [] (.sref 0 0 l.length) [.cells 4 (l.map Trans.cs)]:=by
 refine z7 z9 Tryz.func283 rfl rfl 8 Tryz.ntmps283 (by simp) ?_
 repeat' (first|(apply y4 ok;rfl;conv=>whnf)|(apply y50;(first|omega|(dsimp only;omega)|exact z151 (fun _=>rfl));conv=>whnf))
 exact z97 rfl (z4 fun _=>rfl) (Nat.zero_add _) rfl rfl
theorem clT_new0 (l:List Trans) (hl:l.length≤1048576):CallsA Tryz.prog 283 [lst 4 Trans.cs l] [] (.sref 0 0 l.length) [.cells 4 (l.map Trans.cs)]:=by
 by_cases hp:0 < l.length
 ·exact clT_full l hl hp
 ·obtain rfl:l=[]:=y80 (by omega)
  refine z207 (z297 Tryz.func283 rfl (by rfl)) fun ad cap=>?_
  cases ad with
  |none =>
   refine CallsA.nils (res:=.nils) (l:=[.cells 4 []]) ?_ (by simp) z478
   refine z7 z9 Tryz.func283 rfl rfl 8 Tryz.ntmps283 (by simp) ?_
   repeat' ((apply y4 ok;rfl;conv=>whnf))
   all_goals exact z42 rfl rfl rfl
  |some p =>
   refine z7 z9 Tryz.func283 rfl rfl 8 Tryz.ntmps283 (by simp) ?_
   repeat' (first|(apply y4 ok;rfl;conv=>whnf)|(apply y50;(omega);conv=>whnf))
   all_goals (exact z97 rfl z33 rfl rfl rfl)
theorem clT_clip (l:List Trans) (hl:l.length≤1048576):CallsA Tryz.prog 282 [.sref 0 0 l.length] [.cells 4 (l.map Trans.cs)] (.sref 0 0 l.length) [.cells 4 (l.map Trans.cs)]:=by
 refine z7 z9 Tryz.func282 rfl rfl 9 Tryz.ntmps282 (by simp) ?_
 repeat' (first|(apply y4 ok;rfl;conv=>whnf)|(apply y50;(omega);conv=>whnf))
 exact z97 rfl (z4 fun _=>rfl) (by omega) rfl rfl
theorem clT_new (l:List Trans) (hl:l.length≤1048576):CallsA Tryz.prog 272 [lst 4 Trans.cs l] [] (.sref 0 0 l.length) [.cells 4 (l.map Trans.cs)]:=by
 refine z7 z9 Tryz.func272 rfl rfl 6 Tryz.ntmps272 (by simp) ?_
 repeat' (first|(apply y4 ok;rfl;conv=>whnf)|(apply z35 [] [] [0] (clT_new0 l hl);rfl;(focus ((repeat' (exact z14))<;>(fail)));rfl;rfl;rfl;rfl;rfl;(focus ((repeat' (first|exact z12|apply z15))<;>((refine z22 ?_;((exact z4 (fun _=>rfl)))))));(exact .inl rfl);conv=>whnf)|(apply z35 [0] [] [] (clT_clip l hl);rfl;(focus ((repeat' (first|exact z14|apply z27))<;>((refine z41 rfl ?_;((exact z4 (fun _=>rfl)))))));rfl;rfl;rfl;rfl;rfl;(focus ((repeat' (first|exact z12|apply z15))<;>((refine z22 ?_;((exact z4 (fun _=>rfl)))))));(exact .inl rfl);conv=>whnf))
 exact z97 rfl (z4 fun _=>rfl) rfl rfl rfl
theorem z919 (a:Aut) (h1:a.ini.length≤100000) (h2:a.acc.length≤100000) (h3:a.ed.length≤100000):CallsA Tryz.prog 241 [.agg a.cs] [] (.agg [.sref 0 0 a.ini.length,.sref 1 0 a.acc.length,.sref 2 0 a.ed.length]) [.cells 1 (a.ini.map enI),.cells 1 (a.acc.map enB),.cells 4 (a.ed.map Trans.cs)]:=by
 have c1:=z257 a.ini (by omega)
 have c2:=clB_new a.acc (by omega)
 have c3:=clT_new a.ed (by omega)
 refine z7 z9 Tryz.func241 rfl rfl 13 Tryz.ntmps241 (by simp) ?_
 repeat' (first|(apply y4 ok;rfl;conv=>whnf)|(apply z17;kernel_rfl;conv=>whnf)|(apply z35 [] [] [2] (c1);rfl;(focus ((repeat' (exact z14))<;>(fail)));rfl;rfl;rfl;rfl;rfl;(focus ((repeat' (first|exact z12|apply z15))<;>((refine z22 ?_;((exact z4 (fun _=>rfl)))))));(exact .inl rfl);conv=>whnf)|(apply z35 [] [] [3] (c2);rfl;(focus ((repeat' (exact z14))<;>(fail)));rfl;rfl;rfl;rfl;rfl;(focus ((repeat' (first|exact z12|apply z15))<;>((refine z22 ?_;((exact z4 (fun _=>rfl)))))));(exact .inl rfl);conv=>whnf)|(apply z35 [] [] [4] (c3);rfl;(focus ((repeat' (exact z14))<;>(fail)));rfl;rfl;rfl;rfl;rfl;(focus ((repeat' (first|exact z12|apply z15))<;>((refine z22 ?_;((exact z4 (fun _=>rfl)))))));(exact .inl rfl);conv=>whnf))
 exact z70 [2,3,4] (by decide) rfl rfl rfl ⟨z25 rfl (z4 fun _=>rfl),z25 rfl (z4 fun _=>rfl),z25 rfl (z4 fun _=>rfl),trivial⟩
theorem z235 {g:Graph} {a:Aut} (hG:GB g) (hA:AutP a) (ls:List Int):(∀ r∈z44 g ls a,InN (z44 g ls a).length r)∧InN (z44 g ls a).length a.ini∧(z44 g ls a).length≤3840∧(∀ r∈z44 g ls a,r.length≤1000000000)∧a.ini.length≤1048576:=by
 have hrl:(z44 g ls a).length=g.st.length * a.acc.length:=by unfold z44;rw [z86,Nat.mul_comm]
 have hN:=z179 (a:=(g.st.length:Int)) (b:=(a.acc.length:Int)) (A:=60) (B:=64) (by omega) (by have:=hG.1;omega) (by omega) (by have:=hA.1;omega)
 have hN2:((g.st.length * a.acc.length:Nat):Int)=(g.st.length:Int) * a.acc.length:=by simp
 have ha1:=hA.1
 refine ⟨fun r hr x hx=>?_,fun x hx=>?_,by omega,fun r hr=>?_,?_⟩
 ·rw [hrl];exact z871 g hG ls a hA r hr x hx
 ·obtain ⟨i,hi,rfl⟩:=List.mem_iff_getElem.1 hx
  have h1:=(hA.2.2.1 i hi hi).1
  have h2:=z179 (a:=(g.st.length:Int) - 1) (b:=(a.acc.length:Int)) (A:=60) (B:=64) (by have:=hG.1;omega) (by have:=hG.1;omega) (by omega) (by omega)
  rw [Int.sub_mul,Int.one_mul] at h2
  omega
 ·have:=z758 g hG ls a hA r hr;omega
 ·have:=hA.2.2.1.le (by omega);omega
structure Cert.ok (c:Cert):Prop where
 mx:c.mx
 len:c.ranks.length≤1048576
theorem Cert.ok_of {c:Cert} (h:c.mx) (h1:c.s1≤1048576):c.ok:=⟨h,h1⟩
def Cert.ml (c:Cert):Nat:=c.ranks.length
theorem Cert.ml_le {c:Cert} (h:c.ok):c.ml≤1048576:=h.len
theorem z915 {objs:Nat→AObj} {π Bn:List Nat} {xs ys:List AC} (h:borL objs π Bn xs=ys):bor objs π Bn (.tup xs)=.tup ys:=by
 simp only [bor,h]
end Go.Proofs.YtnfoijopccdjeaaGreat
namespace Go.Proofs.YtnfoijopccdjeaaGreat
open Go.Gl
attribute [local irreducible] z16 AWP z29 z32 z30 RetS z36
theorem trans_ok (t:Tree) (hs:t.sz≤200):CallsA Tryz.prog 178 [z20 Tree.cs' t] [] (.tup [.agg (trA t).cs,.bool (tsB t)]) [] :=
 (z1094 t hs).lend [] [0,1,2] rfl rfl rfl (z915 (z23 (z720 rfl rfl rfl rfl rfl rfl rfl rfl rfl) (z23 rfl z48))) z14
theorem trA_len (t:Tree) (hs:t.sz≤200):(trA t).ini.length≤32∧(trA t).acc.length≤66∧(trA t).ed.length≤2080:=by
 unfold trA trO
 by_cases h:bscB t=true
 ·rw [if_pos h]
  obtain ⟨⟨ht,hn⟩,h5⟩:=of_decide_eq_true (show decide _=true from h)
  have hp:=z1005 h5
  have hi:=z695 (bscL (t.nrm false)) (t.nrm false)
  cases hS:trS (bscL (t.nrm false)) (t.nrm false) with
  |none=>exact ⟨y60 _,y60 _,y60 _⟩
  |some y =>
   have hg:=z1177 _ _ _ _ _ _ hS
   simp only [y65] at hg
   show (numI _).length≤32∧(if y.L.length=0 then [false] else y.acc).length≤66∧(y.ed.map eT).length≤2080
   rw [z477,y56]
   refine ⟨by omega,?_,by omega⟩
   split
   ·simp
   ·omega
 ·rw [if_neg h];exact ⟨y60 _,y60 _,y60 _⟩
theorem letB_lt {B:List Tree} (hB:BasL B) (s:Int) (i:Nat):((List.range i).foldl (atoI B s) (0,0)).2 < 8:=by
 induction i with
 |zero=>show 0 < 8;omega
 |succ i ih =>
  rw [z331]
  unfold atoI
  split
  ·rename_i hk
   dsimp only
   split
   ·by_cases hil:i < B.length
    ·have hmem:B.getD i dftT∈B:=by rw [z18 hil];exact y51 _
     have hform:=hB.form hmem
     have hvv:(B.getD i dftT).val.toNat≤2:=by
      generalize B.getD i dftT=f at *
      cases hform with
      |«at» v=>have:=hB.av v hmem;show v.toNat≤2;omega
      |nx a _ _=>simp [Tree.kind] at hk
      |un a b _ _ _ _=>simp [Tree.kind] at hk
      |re a b _ _ _ _=>simp [Tree.kind] at hk
     exact z528 ih hvv
    ·rw [y74,y75 (by omega)]
     exact z528 ih (show (0:Nat)≤2 by omega)
   ·exact ih
  ·exact ih
theorem z963 (B:List Tree) (s ph:Int) (i:Nat) (c v:Int):∀ (l:List Nat) (x:List (List Int)×List Edg),∀ e∈(l.foldl (z101 B s ph i c v) x).2,e∈x.2∨e.val=v
 |[],x,e,he=>.inl he
 |t::l,x,e,he=>by
  rw [List.foldl_cons] at he
  rcases z963 B s ph i c v l _ e he with h|h
  ·unfold z101 at h
   split at h
   ·rcases List.mem_append.1 h with h1|h1
    ·exact .inl h1
    ·rw [List.mem_singleton.1 h1];exact .inr rfl
   ·exact .inl h
  ·exact .inr h
theorem z1176 (B:List Tree) (U:List Int):∀ (f i:Nat) (x y:TrS),goS B U f i x=some y→∀ e∈y.ed,e∈x.ed∨∃ s,e.val=((letB B s).2:Int)
 |0,i,x,y,h=>by simp [goS] at h
 |f+1,i,x,y,h=>by
  rw [goS] at h
  split at h
  ·split at h
   ·cases h
   ·intro e he
    rcases z1176 B U f (i+1) _ y h e he with h1|h1
    ·rcases z963 B _ _ i _ _ _ _ e h1 with h2|h2
     ·exact .inl h2
     ·exact .inr ⟨_,h2⟩
    ·exact .inr h1
  ·cases h
   exact fun e he=>.inl he
theorem trA_val (t:Tree) (hs:t.sz≤200):∀ e∈(trA t).ed,e.mx:=by
 unfold trA trO
 by_cases h:bscB t=true
 ·rw [if_pos h]
  obtain ⟨⟨ht,hn⟩,h5⟩:=of_decide_eq_true (show decide _=true from h)
  obtain ⟨hB,_,_⟩:=z573 ht hn h5 hs
  cases hS:trS (bscL (t.nrm false)) (t.nrm false) with
  |none=>intro e he;cases he
  |some y =>
   intro e he
   obtain ⟨e',he',rfl⟩:=List.mem_map.1 (show e∈y.ed.map eT from he)
   rcases z1176 _ _ _ _ _ _ hS e' he' with h1|⟨s,h1⟩
   ·cases h1
   ·have:=letB_lt hB s (bscL (t.nrm false)).length
    show inI e'.val
    unfold inI
    rw [h1]
    unfold letB
    omega
 ·rw [if_neg h];intro e he;cases he
theorem acc_ok (B:List Tree) (hB:BasL B) (s ph:Nat) (s1:s≤31) (hp:(untB B).length=0∧ph=0∨ph < (untB B).length):CallsA Tryz.prog 189 [.agg [.int s,.int ph],.pt [.pt [lst 3 Tree.cs' B,ints (untB B)]]] [] (.bool (phB B (untB B) s ph).2) []:=by
 have hl:=hB.len
 have hul:(untB B).length≤B.length:=z246 B B.length
 have hu:=fun (h:ph < (untB B).length)=>z654 (B:=B) (x:=(untB B).getD ph 0) (by rw [z18 h];exact y51 _)
 have cFu:ph < (untB B).length→CallsA Tryz.prog 190 [.pt [lst 3 Tree.cs' B,ints (untB B)],.int s,.int ph] [] (.bool (fulB B s ((untB B).getD ph 0))) []:=fun h=>by
  obtain ⟨u,e1,e3,e4⟩:=hu h
  have:=z632 B (untB B) hB s (by omega) (by omega) ph u h (by omega) e1 e3 e4
  rw [← e1] at this;exact this
 clear hu
 unfold phB
 generalize untB B=U at *
 by_cases h0:U.length=0
 ·rw [if_pos h0]
  refine z6 z9 Tryz.func189 rfl rfl 21 Tryz.ntmps189 (by simp) ?_
  repeat' ((first|(apply y4 ok;rfl)|((apply z5)<;>intro _))<;>conv=>whnf)
  all_goals first|(exfalso;omega)|(refine rsD [] [] rfl ?_;(repeat' first|exact y93 _|constructor))
 ·rw [if_neg h0,y83]
  by_cases h1:ph=0
  ·subst h1
   have cF:=cFu (by omega)
   generalize fulB B s (U.getD 0 0)=z at *
   cases z
   all_goals
    refine z6 z9 Tryz.func189 rfl rfl 21 Tryz.ntmps189 (by simp) ?_
    repeat' ((first|(apply y4 ok;rfl)|((apply z5)<;>intro _)|(apply z0 (cF);rfl;rfl))<;>conv=>whnf)
    all_goals first|(exfalso;omega)|(refine rsD [] [] rfl ?_;(repeat' first|exact y93 _|constructor))
  ·have e:(if fulB B s (U.getD ph 0)=true then (((ph:Int)+1) % (U.length:Int),decide ((ph:Int)=0)) else ((ph:Int),false)).2=false:=by
    split
    ·exact y90 (by omega)
    ·rfl
   rw [e]
   clear cFu
   refine z6 z9 Tryz.func189 rfl rfl 21 Tryz.ntmps189 (by simp) ?_
   repeat' ((first|(apply y4 ok;rfl)|((apply z5)<;>intro _))<;>conv=>whnf)
   all_goals first|(exfalso;omega)|(refine rsD [] [] rfl ?_;(repeat' first|exact y93 _|constructor))
theorem ren_mp {M d:Nat} {r:Nat→Nat} {es:List (List Int×Int)} : z645 M r (.mp d es) (.mp d es):=⟨trivial,rfl⟩
noncomputable def z901 (q i:Nat) (c v:Nat) (y:List (List Int)×List Edg) (x:Nat):List (List Int)×List Edg:=(z124 y.1 [(x:Int),(q:Int)],y.2++[⟨i,c,v,z189 y.1 [(x:Int),(q:Int)]⟩])
theorem fold_mv (B:List Tree) (s:Int) (q i c v k:Nat) (y:List (List Int)×List Edg):(mvK B s k).foldl (z901 q i c v) y=(List.range k).foldl (z101 B s q i c v) y:=by
 unfold mvK
 rw [List.foldl_filter]
 rfl
theorem numI_ini (n m:Nat) (h:n≤m):IniP (numI n) m (numI n).length:=by
 intro i hi _
 have e:∀ j (hj:j < (numI n).length),(numI n)[j]=(j:Int):=fun j hj=>by simp [numI]
 have hl:=z477 n
 rw [e i hi]
 refine ⟨by omega,fun j hj=>?_⟩
 rw [e j (by omega)];omega
theorem ExI.valid {B:List Tree} {U:List Int} {n0 i:Nat} {x:TrS} (hB:BasL B) (h:ExI B U n0 i x) (h1:1≤n0) (hi:i≤64) (he:x.L.length≤i):autB ⟨numI n0,x.acc,x.ed.map eT⟩=true:=by
 have h2:=h.base;have h3:=h.acc;have h4:=h.edl;have h5:=h.le
 have hp:=z1005 hB.len
 have hmul:i * 2 ^ B.length≤64 * 32:=Nat.mul_le_mul hi hp.2
 rw [z162]
 refine ⟨⟨by show 1≤x.acc.length;omega,by show x.acc.length≤64;omega⟩,by show (x.ed.map eT).length≤2048;rw [y56];omega,numI_ini n0 x.acc.length (by omega),fun e he=>?_⟩
 obtain ⟨e',he',rfl⟩:=List.mem_map.1 he
 obtain ⟨⟨a1,a2⟩,⟨a3,a4⟩,s,a5,a6⟩:=h.ed e' he'
 have l1:(letB B s).1 < 8:=by
  have:∀ n,((List.range n).foldl (atoI B s) (0,0)).1 < 8:=by
   intro n
   induction n with
   |zero=>show (0:Nat) < 8;omega
   |succ n ih =>
    rw [z331]
    unfold atoI
    split
    ·rename_i hk
     refine z528 ih ?_
     by_cases hil:n < B.length
     ·have hmem:B.getD n dftT∈B:=by rw [z18 hil];exact y51 _
      have hform:=hB.form hmem
      generalize B.getD n dftT=f at *
      cases hform with
      |«at» v=>have:=hB.av v hmem;show v.toNat≤2;omega
      |nx a _ _=>simp [Tree.kind] at hk
      |un a b _ _ _ _=>simp [Tree.kind] at hk
      |re a b _ _ _ _=>simp [Tree.kind] at hk
     ·rw [y74,y75 (by omega)]
      show (0:Nat)≤2;omega
    ·exact ih
  exact this _
 refine ⟨⟨a1,?_⟩,⟨a3,?_⟩,⟨?_,?_⟩,?_,?_⟩
 ·show e'.src≤(x.acc.length:Int) - 1;omega
 ·show e'.dst≤(x.acc.length:Int) - 1;omega
 ·show 0≤e'.care;omega
 ·show e'.care≤7;omega
 ·show 0≤e'.val;omega
 ·show e'.val.toNat &&& e'.care.toNat=e'.val.toNat
  rw [a5,a6];exact letB_sub B s
@[reducible] noncomputable def accF (B:List Tree):AC:=.fn (.func 189) [] [.pt [.pt [lst 3 Tree.cs' B,ints (untB B)]]]
@[reducible] noncomputable def movF (B:List Tree):AC:=.fn (.func 192) [.pt [lst 3 Tree.cs' B,ints (untB B)]] []
@[reducible] def fndF:AC:=.fn (.func 240) [] [.ptr 3 none 0,.ptr 4 none 0]
@[reducible] def objsE (N:List Int) (L:List (List Int)) (acc:List Bool) (E:List Trans) (fb:AC):List AObj:=[.cells 3 [[.nils,.nils,.nils]],.cells 3 [[.sref 5 0 N.length,.sref 6 0 acc.length,.sref 7 0 E.length]],.mp 2 (z277 0 L),.cells 1 [[.mref 2]],.cells 1 [[fb]],.cells 1 (N.map enI),.cells 1 (acc.map enB),.cells 4 (E.map Trans.cs)]
noncomputable def expO (B:List Tree) (L0:List (List Int)):Option Aut:=(goS B (untB B) 65 0 ⟨L0,[],[]⟩).map (z334 L0.length)
set_option maxRecDepth 20000 in
set_option maxHeartbeats 25600000 in
theorem z897 (B : List Tree) (hB : BasL B) (L0 : List (List Int)) (hr : ∀ r ∈ L0, RowP B.length (untB B) r) (hn : L0.Nodup) (hl0 : L0.length ≤ 32) :
    CallsA Tryz.prog 191 [lst 2 enP L0,accF B,movF B] [] (.tup [.agg [.sref 0 0 ((expO B L0).getD ⟨[],[],[]⟩).ini.length,.sref 1 0 ((expO B L0).getD ⟨[],[],[]⟩).acc.length,.sref 2 0 ((expO B L0).getD ⟨[],[],[]⟩).ed.length],.bool (expO B L0).isSome])
      [.cells 1 (((expO B L0).getD ⟨[],[],[]⟩).ini.map enI),.cells 1 (((expO B L0).getD ⟨[],[],[]⟩).acc.map enB),.cells 4 (((expO B L0).getD ⟨[],[],[]⟩).ed.map Trans.cs)]:=by
  unfold expO
  have hp5:=z1005 hB.len
  by_cases h0:L0.length=0
  · obtain rfl:L0=[]:=y80 h0
    refine z6 z9 Tryz.func191 rfl (by kernel_rfl) 98 Tryz.ntmps191 (by simp) ?_
    repeat' ((first|(apply y4 ok;rfl)|(apply y50;(dsimp only;omega)))<;>conv=>whnf)
    all_goals (refine y96 1 ?_;refine y96 4 ?_;refine rsD [2,1,3] [] rfl ?_;(repeat' first|exact y93 _|exact z57|apply y94|refine z10 rfl (z33) ?_|apply z64|apply z72|constructor))
  have hRO:∀ x,goS B (untB B) 65 0 ⟨L0,[],[]⟩=some x→x.L.length≠0→(goS B (untB B) 65 0 ⟨L0,[],[]⟩).map (z334 L0.length)=some ⟨numI L0.length,x.acc,x.ed.map eT⟩:=fun x h h2=>by
    rw [h];unfold z334;simp only [Option.map_some];rw [if_neg h2]
  have hRN:goS B (untB B) 65 0 ⟨L0,[],[]⟩=none→(goS B (untB B) 65 0 ⟨L0,[],[]⟩).map (z334 L0.length)=none:=fun h=>by rw [h];rfl
  generalize (goS B (untB B) 65 0 ⟨L0,[],[]⟩).map (z334 L0.length)=O at *
  obtain ⟨R,hR0⟩:∃ R,goS B (untB B) 65 0 ⟨L0,[],[]⟩=R:=⟨_,rfl⟩
  rw [hR0] at hRO hRN
  refine z6 z9 Tryz.func191 rfl (by kernel_rfl) 98 Tryz.ntmps191 (by simp) ?_
  repeat' ((first|(apply y4 ok;rfl)|(apply y50;omega)|((apply z5)<;>intro _))<;>conv=>whnf)
  all_goals try (exfalso;omega)
  refine y92 (y95 1 rfl) ?_
  refine z77 (fun x:Nat×List Int=>([(1,accF B),(2,movF B),(6,.ptr 0 none 0),(8,.ptr 1 none 0),(10,.ptr 4 none 0),(11,fndF),(24,lst 2 enP L0),(25,.int L0.length),(26,.int x.1)],[.cells 3 [[.nils,.nils,.nils]],.cells 3 [[.sref 5 0 x.2.length,.nils,.nils]],.mp 2 (z277 0 (L0.take x.1)),.cells 1 [[.mref 2]],.cells 1 [[.own 2 ((L0.take x.1).map enP)]],.cells 1 (x.2.map enI)])) (fun x=>x.1≤L0.length∧numI x.1=x.2) (fun x=>L0.length - x.1) (0,[]) ⟨y60 _,rfl⟩ (by refine swR [0,1,2,3,4,5] [] rfl rfl ?_;(repeat' first|exact y93 _|exact z57|apply y94|refine z10 rfl (z33) ?_|constructor)<;>(first|rfl|exact z385)) ?_
  rintro ⟨i,N⟩ ⟨hi,hN⟩
  dsimp only at hi hN ⊢
  have hNl:=z477 i
  rw [hN] at hNl
  by_cases hil:i < L0.length
  · have gk:(L0.map enP)[i]?=some (enP L0[i]):=by rw [y58,y52 hil];rfl
    obtain ⟨s,ph,er,hs,hp⟩:=hr L0[i] (y51 _)
    have hni:L0[i] ∉ L0.take i:=fun h=>by
      obtain ⟨j,hj,e⟩:=List.mem_iff_getElem.1 h
      rw [y55] at hj
      rw [List.getElem_take] at e
      exact List.pairwise_iff_getElem.1 (List.nodup_iff_pairwise_ne.1 hn) j i (by omega) hil (by omega) e
    have hts:L0.take (i+1)=L0.take i++[L0[i]]:=y57 hil
    have htl:(L0.take i).length=i:=by rw [y55];omega
    rw [er] at gk hni hts
    have cf:=z1189 (L0.take i) (by omega) s ph
    have e1:z124 (L0.take i) [(s:Int),(ph:Int)]=L0.take (i+1):=by unfold z124;rw [if_neg hni,hts]
    have e2:z189 (L0.take i) [(s:Int),(ph:Int)]=i:=by unfold z189;rw [List.idxOf_eq_length hni,htl]
    rw [e1,e2] at cf
    have ns:=z762 i
    rw [hN] at ns
    repeat' ((first|(apply y4 ok;rfl)|(apply z17;kernel_rfl)|(refine z13 (i:=i) rfl gk ?_)|(apply y50;first|omega|(unfold inI;omega)|((try dsimp only);simp only [y56,y55,y54,y53,y64,y65];omega)|exact ⟨rfl,z38 rfl z45⟩)|((apply z5)<;>intro _)|(apply z54 [3,2,4] [] cf;rfl;rfl;rfl;(focus ((repeat' first|exact z12|apply z15)<;>first|exact ren_mp|exact z117 rfl rfl))))<;>conv=>whnf)
    all_goals try (exfalso;omega)
    all_goals refine z34 (i+1,N++[(i:Int)]) ⟨by show i+1≤_;omega,ns⟩ (by show L0.length - (i+1) < L0.length - i;omega) (by refine swR [0,1,2,3,4,8] [] rfl rfl ?_;(repeat' first|exact y93 _|(refine z43 ?_;((simp;done)))|apply y94|((refine z51 rfl ?_ ?_);(focus ((repeat' (first|exact z4 (fun _=>rfl)|apply z40));done)))|(refine z73 ?_ ?_;(focus (omega)))|constructor)<;>(rfl))
  obtain rfl:i=L0.length:=by omega
  rw [y62]
  have hNe:numI L0.length=N:=hN
  rw [hNe] at hRO
  have hI0:ExI B (untB B) L0.length 0 ⟨L0,[],[]⟩:=⟨hr,y59 _,rfl,y60 _,y60 _,by show L0.length≤L0.length+0 * _;omega,fun e he=>by cases he⟩
  have hval:=fun i x h h2 h3=>ExI.valid (B:=B) (U:=untB B) (n0:=L0.length) (i:=i) (x:=x) hB h (by omega) h2 h3
  rw [hNe] at hval
  have hN32:N.length≤32:=by omega
  repeat' ((first|(apply y4 ok;rfl)|(apply y50;omega)|(((with_reducible apply z8;omega));intro _)|((apply z5)<;>intro _))<;>conv=>whnf)
  all_goals try (exfalso;omega)
  refine y92 (y95 1 rfl) ?_
  refine y92 (y95 4 rfl) ?_
  refine z77 (fun x:Nat×List (List Int)×List Bool×List Trans=>([(1,accF B),(2,movF B),(6,.ptr 0 none 0),(8,.ptr 1 none 0),(10,.ptr 4 none 0),(11,fndF),(14,.int x.1)],objsE N x.2.1 x.2.2.1 x.2.2.2 (.own 2 (x.2.1.map enP)))) (fun x=>x.1≤64∧∃ ed:List Edg,x.2.2.2=ed.map eT∧(goS B (untB B) (65 - x.1) x.1 ⟨x.2.1,x.2.2.1,ed⟩=R∨(64 < x.2.1.length∧R=none))∧ExI B (untB B) L0.length x.1 ⟨x.2.1,x.2.2.1,ed⟩) (fun x=>65 - x.1) (0,L0,[],[]) ⟨y60 _,[],rfl,.inl hR0,hI0⟩ (by refine swR [0,1,2,3,4,5,6,7] [] rfl rfl ?_;(repeat' first|exact y93 _|exact z57|exact z11 _|apply y94|((refine z10 rfl ?_ ?_);(focus ((repeat' (first|exact z33|exact z4 (fun _=>rfl)));done)))|constructor)<;>(rfl)) ?_
  have hL00:L0.length≠0:=h0
  clear hI0 hR0 hNe hNl hN hi hil hn hr
  rintro ⟨i,L,acc,E⟩ ⟨hi,ed,hE,hR,hI⟩
  dsimp only at hi hE hR hI ⊢
  have hmul:i * 2 ^ B.length≤64 * 32:=Nat.mul_le_mul hi hp5.2
  have hLl:=hI.ln
  have hedl:=hI.edl
  have hacl:=hI.acc
  dsimp only at hLl hedl hacl
  have hEl:E.length=ed.length:=by rw [hE,y56]
  rw [show 65 - i=(64 - i)+1 by omega,goS] at hR
  dsimp only at hR
  refine y92 (Gl.Reach.expose 4 0 0 rfl rfl rfl (z155 (fun _=>rfl) _) rfl) ?_
  refine y92 (show Gl.Reach _ _ (mkSt _ [(1,accF B),(2,movF B),(6,.ptr 0 none 0),(8,.ptr 1 none 0),(10,.ptr 4 none 0),(11,fndF),(14,.int i)] (objsE N L acc E (.sref 8 0 L.length)++[.cells 2 (L.map enP)])) from (by refine swR [0,1,2,3,4,5,6,7,8] [] rfl rfl ?_;(repeat' first|exact y93 _|exact z11 _|(refine z43 ?_;((simp;done)))|apply y94|refine z10 rfl (z4 (fun _=>rfl)) ?_|constructor)<;>(rfl))) ?_
  by_cases hil:i < L.length
  · rw [if_pos hil] at hR
    by_cases h64:i=64
    · have hRn:R=none:=by
        rcases hR with h|h
        · rw [if_pos (by omega)] at h;exact h.symm
        · exact h.2
      have hO:=hRN hRn
      subst hO
      repeat' ((first|(apply y4 ok;rfl)|(apply y50;omega)|(((apply z8;omega));intro _)|((apply z5)<;>intro _))<;>conv=>whnf)
      all_goals try (exfalso;omega)
      all_goals (refine y96 1 ?_;refine y96 1 ?_;refine y96 4 ?_;refine rsD [9,10,11] [] rfl ?_;(repeat' first|exact y93 _|exact z57|refine z10 rfl (z33) ?_|apply z64|apply z72|constructor))
    · obtain ⟨s,ph,er,hs,hp⟩:=hI.rows (L.getD i []) (by rw [z18 hil];exact y51 _)
      have gk:(L.map enP)[i]?=some (enP [(s:Int),(ph:Int)]):=by rw [y58,y52 hil,← er,z18 hil];rfl
      have cA:=acc_ok B hB s ph (by omega) hp
      have cM:=z1149 B hB s ph (by omega) hp
      obtain ⟨q,eq,hq⟩:=z946 (B:=B) (s:=s) hp
      have hst:=hI.step hil
      have hRS:z184 B (untB B) i ⟨L,acc,ed⟩=⟨((mvK B s (2 ^ B.length)).foldl (z901 q i (letB B s).1 (letB B s).2) (L,ed)).1,acc++[(phB B (untB B) s ph).2],((mvK B s (2 ^ B.length)).foldl (z901 q i (letB B s).1 (letB B s).2) (L,ed)).2⟩:=by
        rw [fold_mv]
        unfold z184
        dsimp only
        rw [er,← eq];rfl
      rw [hRS] at hst hR
      rw [eq] at cM
      have hMl:=z1148 B s (2 ^ B.length)
      clear eq hRS gk
      have gk:(L.map enP)[i]?=some (enP [(s:Int),(ph:Int)]):=by rw [y58,y52 hil,← er,z18 hil];rfl
      generalize (phB B (untB B) s ph).2=z at *
      generalize (letB B s).1=c at *
      generalize (letB B s).2=v at *
      generalize mvK B s (2 ^ B.length)=M at *
      repeat' ((first|(apply y4 ok;rfl)|(apply z17;kernel_rfl)|(refine z13 (i:=i) rfl gk ?_)|(apply y50;first|omega|((try dsimp only);simp only [y56,y55,y54,y53,y64,y65];omega)|exact ⟨rfl,z38 rfl z45⟩)|((apply z5)<;>intro _)|(apply z0 (cA);rfl;rfl)|(apply z54 [] [11] cM;rfl;rfl;rfl;(focus ((repeat' first|exact z12|apply z15)<;>(refine z22 ?_;((exact z4 fun _=>rfl)))))))<;>conv=>whnf)
      all_goals try (exfalso;omega)
      refine y92 (Gl.Reach.absorb 4 8 0 0 rfl rfl rfl rfl (by simp) rfl (z4 fun _=>rfl) rfl) ?_
      refine z77 (fun x:Nat×List (List Int)×List Trans=>([(1,accF B),(2,movF B),(6,.ptr 0 none 0),(8,.ptr 1 none 0),(10,.ptr 4 none 0),(11,fndF),(14,.int i),(70,.sref 8 0 M.length),(71,.int M.length),(72,.int x.1)],objsE N x.2.1 (acc++[z]) x.2.2 (.own 2 (x.2.1.map enP))++[.cells 4 (M.map (enMv c v q))])) (fun x=>x.1≤M.length∧∃ ed' : List Edg,x.2.2=ed'.map eT∧(M.take x.1).foldl (z901 q i c v) (L,ed)=(x.2.1,ed')∧x.2.1.length≤L.length+x.1∧x.2.2.length≤E.length+x.1) (fun x=>M.length - x.1) (0,L,E) ⟨y60 _,ed,hE,rfl,y59 _,y59 _⟩ (by refine swR [0,1,2,3,4,5,10,7,11] [] rfl rfl ?_;(repeat' first|exact y93 _|exact z11 _|(refine z43 ?_;((simp;done)))|apply y94|((first|refine z51 rfl ?_ ?_|refine z10 rfl ?_ ?_);(focus ((repeat' (first|exact z4 (fun _=>rfl)|apply z40));done)))|(refine z73 ?_ ?_;(focus (omega)))|constructor)<;>(rfl)) ?_
      rintro ⟨k,L',E'⟩ ⟨hk,ed',hE',hf,hL',hel⟩
      dsimp only at hk hE' hf hL' hel ⊢
      by_cases hkl:k < M.length
      · have gM:(M.map (enMv c v q))[k]?=some (enMv c v q M[k]):=by rw [y58,y52 hkl];rfl
        have hfs:(M.take (k+1)).foldl (z901 q i c v) (L,ed)=z901 q i c v (L',ed') M[k]:=by rw [y57 hkl,y69,hf];rfl
        generalize M[k]=x at *
        have cf:=z1189 L' (by omega) x q
        have hpl:=z681 L' [(x:Int),(q:Int)]
        unfold z901 at hfs
        dsimp only at hfs
        generalize z124 L' [(x:Int),(q:Int)]=L2 at *
        generalize z189 L' [(x:Int),(q:Int)]=n2 at *
        repeat' ((first|(apply y4 ok;rfl)|(apply z17;kernel_rfl)|(refine z13 (i:=k) rfl gM ?_)|(apply y50;first|omega|(unfold inI;omega)|((try dsimp only);simp only [y56,y55,y54,y53,y64,y65];omega)|exact ⟨rfl,z38 rfl z45⟩)|((apply z5)<;>intro _)|(apply z54 [3,2,4] [] cf;rfl;rfl;rfl;(focus ((repeat' first|exact z12|apply z15)<;>first|exact ren_mp|exact z117 rfl rfl))))<;>conv=>whnf)
        all_goals try (exfalso;omega)
        all_goals refine z34 (k+1,L2,E'++[eT ⟨i,c,v,n2⟩]) ⟨by show k+1≤_;omega,_,by rw [hE'];simp,hfs,by show L2.length≤L.length+(k+1);omega,by show (E'++[_]).length≤E.length+(k+1);simp;omega⟩ (by show M.length - (k+1) < M.length - k;omega) (by refine swR [0,1,2,3,4,5,6,11,8] [] rfl rfl ?_;(repeat' first|exact y93 _|exact z11 _|(refine z43 ?_;((simp;done)))|apply y94|((first|refine z51 rfl ?_ ?_|refine z10 rfl ?_ ?_);(focus ((repeat' (first|exact z4 (fun _=>rfl)|apply z40));done)))|(refine z73 ?_ ?_;(focus (omega)))|constructor)<;>(rfl))
      · obtain rfl:k=M.length:=by omega
        rw [y62] at hf
        rw [hf] at hst hR
        dsimp only at hst hR
        repeat' ((first|(apply y4 ok;rfl)|(apply y50;first|omega|(unfold inI;omega))|(((apply z8;omega));intro _)|((apply z5)<;>intro _))<;>conv=>whnf)
        all_goals try (exfalso;omega)
        all_goals refine z34 (i+1,L',acc++[z],E') ⟨by show i+1≤64;omega,ed',hE',?_,hst.1⟩ (by show 65 - (i+1) < 65 - i;omega) (by refine swR [0,1,2,3,4,5,6,7] [] rfl rfl ?_;(repeat' first|exact y93 _|exact z11 _|apply y94|refine z10 rfl (z4 (fun _=>rfl)) ?_|constructor)<;>(rfl))
        all_goals
          show goS B (untB B) (65 - (i+1)) (i+1) ⟨L',acc++[z],ed'⟩=R∨_
          have h2:L.length≤L'.length:=hst.2
          rw [show 65 - (i+1)=64 - i by omega]
          rcases hR with h|h
          · by_cases h65:64 < L.length
            · rw [if_pos h65] at h
              exact .inr ⟨by show 64 < L'.length;omega,h.symm⟩
            · rw [if_neg h65] at h
              exact .inl h
          · exact .inr ⟨by show 64 < L'.length;omega,h.2⟩
  · rw [if_neg hil] at hR
    have hRs:R=some ⟨L,acc,ed⟩:=by
      rcases hR with h|h
      · exact h.symm
      · omega
    have hb:=hI.base
    have hO:=hRO _ hRs (by show L.length≠0;have:L0.length≤L.length:=hb;omega)
    have hv:=hval i ⟨L,acc,ed⟩ hI hi (by show L.length≤i;omega)
    dsimp only at hO hv
    rw [← hE] at hO hv
    subst hO
    have hP:=z162.1 hv
    have hmx:Aut.mx ⟨N,acc,E⟩:=⟨by show N.length≤_;unfold maxLen;omega,by show acc.length≤_;unfold maxLen;omega,by show E.length≤_;unfold maxLen;omega,fun e he=>by
      obtain ⟨_,_,⟨c1,c2⟩,v1,v2⟩:=hP.2.2.2 e he
      have:=@Nat.and_le_right e.val.toNat e.care.toNat
      show inI e.val
      unfold inI;omega⟩
    have cV:=z243 ⟨N,acc,E⟩ hmx
    rw [hv] at cV
    have cC:=z919 ⟨N,acc,E⟩ (by show N.length≤_;omega) (by show acc.length≤_;omega) (by show E.length≤_;omega)
    repeat' ((first|(apply y4 ok;rfl)|(apply y50;omega)|(((apply z8;omega));intro _)|((apply z5)<;>intro _)|((first|(apply z83 [] [5,6,7] [] cV;(focus (exact z23 (z720 (a:=⟨N,acc,E⟩) rfl rfl rfl rfl rfl rfl rfl rfl rfl) z48));rfl)|(apply z83 [] [5,6,7] [9,10,11] cC;(focus (exact z23 (z720 (a:=⟨N,acc,E⟩) rfl rfl rfl rfl rfl rfl rfl rfl rfl) z48));rfl));rfl;(focus ((repeat' first|exact z12|apply z15)<;>(refine z22 ?_;((exact z4 fun _=>rfl)))));((refine .inr ⟨rfl,?_⟩;repeat' first|exact True.intro|apply y50|exact z127 (fun _=>rfl) _))))<;>conv=>whnf)
    all_goals try (exfalso;omega)
    all_goals (refine rsD [9,10,11] [] rfl ?_;(repeat' first|exact y93 _|exact z11 _|refine z10 rfl (z4 (fun _=>rfl)) ?_|constructor))
end Go.Proofs.YtnfoijopccdjeaaGreat
