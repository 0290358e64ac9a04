/- A part of the proofs over this program: T238, T33P, T67, T68, T210, T200, T162, T163, T164, T170, T201, T29A, T29C, T202, T166, T204, T212, T98, T43R, T211, T214, T242, T243, T244. -/
import Derived.Test.YtahhobgjcfionaaGreatG0
import Derived.Test.YtahhobgjcfionaaGreatG1
import Derived.Test.YtahhobgjcfionaaGreatG2
import Derived.Test.YtahhobgjcfionaaGreatG3
import Derived.Test.YtahhobgjcfionaaGreatP0
import Derived.Test.YtahhobgjcfionaaGreatP1
import Derived.Test.YtahhobgjcfionaaGreatP2
import Derived.Test.YtahhobgjcfionaaGreatP3
import Derived.Test.YtahhobgjcfionaaGreatP4
import Derived.Test.YtahhobgjcfionaaGreatP5
import Derived.Test.YtahhobgjcfionaaGreatP6
set_option linter.all false
namespace Go.Proofs.YtahhobgjcfionaaGreat
open Go.Gl
attribute [local irreducible] z18 AWP z35 z39 z37 RetS z44
theorem z1076 {B:List Tree} {U:List Int} {n0:Nat} : ∀ (f i:Nat) (x y:TrS),f+i=65→ExI B U n0 i x→goS B U f i x=some y→∃ j,ExI B U n0 j y∧j≤64∧y.L.length≤j
 |0,i,x,y,_,_,h=>by simp [goS] at h
 |f+1,i,x,y,he,hI,h=>by
  rw [goS] at h
  split at h
  ·rename_i hi
   split at h
   ·cases h
   ·exact z1076 f (i+1) _ y (by omega) (hI.step hi).1 h
  ·cases h
   exact ⟨i,hI,by omega,by omega⟩
theorem z998 (t:Tree) (hs:t.sz≤200) (h:tsB t=true):autB (trA t)=true:=by
 unfold tsB at h
 unfold trA
 unfold trO at *
 by_cases hb:bscB t=true
 ·rw [if_pos hb] at *
  obtain ⟨⟨ht,hn⟩,h5⟩:=of_decide_eq_true (show decide _=true from hb)
  obtain ⟨hB,_,_⟩:=z524 ht hn h5 hs
  generalize t.nrm false=g at *
  generalize bscL g=B at *
  cases hS:trS B g with
  |none=>rw [hS] at h;cases h
  |some y =>
   have hI0:ExI B (untB B) (iniS B g).length 0 ⟨iniS B g,[],[]⟩:=⟨z717 B g,y51 _,rfl,y52 _,y52 _,by show (iniS B g).length≤(iniS B g).length+0 * _;omega,fun e he=>by cases he⟩
   obtain ⟨j,hI,hj,hl⟩:=z1076 65 0 _ y rfl hI0 hS
   show autB (z305 (iniS B g).length y)=true
   unfold z305
   by_cases h0:y.L.length=0
   ·rw [if_pos h0]
    have h1:=hI.base
    have e1:(iniS B g).length=0:=by omega
    have h2:=hI.edl
    have h3:=hI.le
    have hj0:j=0:=by omega
    rw [hj0,Nat.zero_mul] at h2
    have e2:y.ed=[]:=y72 (by omega)
    rw [e1,e2,z207]
    exact ⟨⟨by decide,by decide⟩,by decide,fun i hi _=>by simp [numI] at hi,fun e he=>by cases he⟩
   ·rw [if_neg h0]
    by_cases h1:1≤(iniS B g).length
    ·exact ExI.valid hB hI h1 hj hl
    ·exfalso
     have e1:iniS B g=[]:=y72 (by omega)
     have:trS B g=some ⟨[],[],[]⟩:=by unfold trS;rw [e1];rfl
     rw [this] at hS
     cases hS
     exact h0 rfl
 ·rw [if_neg hb] at h;cases h
theorem z695 {t:Tree} (h:ngS t=true):autB (ngA t)=true:=by
 unfold ngS at h
 rw [y69] at h
 unfold ngA
 rw [if_pos h.1]
 exact z998 _ (by have:=z403 h.1;omega) h.2
noncomputable def vdI (g:Graph) (l:List Tree) (f:Tree):Int:=if (glB g l && f.fmB)=true then (if ngS f=true then (if (ftO g l (ngA f)).isSome=true then 1 else 0) else 2) else 3
noncomputable def vdT (g:Graph) (l:List Tree) (f:Tree):Trace:=if (glB g l && f.fmB)=true then (if ngS f=true then ftL g l (ngA f) else ⟨[],[]⟩) else ⟨[],[]⟩
theorem z872 {g:Graph} {l:List Tree} {a:Aut} (h:(ftO g l a).isSome=false):ftL g l a=⟨[],[]⟩:=by
 unfold ftL
 cases hf:ftO g l a with
 |none=>rfl
 |some x=>rw [hf] at h;cases h
set_option maxHeartbeats 3200000 in
theorem z319 (g:Graph) (hg:g.mx) (l:List Tree) (hl:Lmx l) (f:Tree) (hf:f.mx):CallsA Tryz.prog 47 [.agg g.cs,lst 3 Tree.cs' l,z23 Tree.cs' f] [] (.tup [.int (vdI g l f),.agg [.sref 0 0 (vdT g l f).stem.length,.sref 1 0 (vdT g l f).loop.length]]) [.cells 1 ((vdT g l f).stem.map enI),.cells 1 ((vdT g l f).loop.map enI)]:=by
 have c1:=z370 g hg
 have c2:=z318 l hl.1 hl.2
 have c3:=z127 f hf
 have cN:=z546 f hf
 have cF:=z407 g hg l hl (ngA f) (ngA_mx f)
 have hno:=@z872 g l (ngA f)
 unfold vdI vdT
 unfold glB
 generalize ftL g l (ngA f)=tl at *
 generalize (ftO g l (ngA f)).isSome=tb at *
 generalize ngA f=a at *
 generalize ngS f=z at *
 rw [y15 f] at *
 generalize z371 g=b1 at *
 generalize z212 l=b2 at *
 generalize f.fmB=b3 at *
 cases b1
 ·refine z7 z14 Tryz.func47 rfl rfl 44 Tryz.ntmps47 (by simp) ?_
  repeat' ((first|(apply y4 ok;rfl)|(apply z4 (c1);rfl;rfl))<;>conv=>whnf)
  all_goals (refine y87 1 ?_;refine y87 1 ?_;refine rsD [3,4] [] rfl ?_;(repeat' first|exact y84 _|exact z42|refine z9 rfl (z25) ?_|apply z38|apply z71|constructor))
 cases b2
 ·refine z7 z14 Tryz.func47 rfl rfl 44 Tryz.ntmps47 (by simp) ?_
  repeat' ((first|(apply y4 ok;rfl)|(apply z4 (c1);rfl;rfl)|(apply z4 (c2);rfl;rfl))<;>conv=>whnf)
  all_goals (refine y87 1 ?_;refine y87 1 ?_;refine rsD [3,4] [] rfl ?_;(repeat' first|exact y84 _|exact z42|refine z9 rfl (z25) ?_|apply z38|apply z71|constructor))
 cases b3
 ·refine z7 z14 Tryz.func47 rfl rfl 44 Tryz.ntmps47 (by simp) ?_
  repeat' ((first|(apply y4 ok;rfl)|(apply z4 (c1);rfl;rfl)|(apply z4 (c2);rfl;rfl)|(apply z4 (c3);rfl;rfl))<;>conv=>whnf)
  all_goals (refine y87 1 ?_;refine y87 1 ?_;refine rsD [3,4] [] rfl ?_;(repeat' first|exact y84 _|exact z42|refine z9 rfl (z25) ?_|apply z38|apply z71|constructor))
 cases z
 ·refine z7 z14 Tryz.func47 rfl rfl 44 Tryz.ntmps47 (by simp) ?_
  repeat' ((first|(apply y4 ok;rfl)|(apply z4 (c1);rfl;rfl)|(apply z4 (c2);rfl;rfl)|(apply z4 (c3);rfl;rfl)|(apply z4 (cN);rfl;rfl))<;>conv=>whnf)
  all_goals (refine y87 1 ?_;refine y87 1 ?_;refine rsD [4,5] [] rfl ?_;(repeat' first|exact y84 _|exact z42|refine z9 rfl (z25) ?_|apply z38|apply z71|constructor))
 cases tb
 ·have hno:=hno rfl
  subst hno
  refine z7 z14 Tryz.func47 rfl rfl 44 Tryz.ntmps47 (by simp) ?_
  repeat' ((first|(apply y4 ok;rfl)|(apply z4 (c1);rfl;rfl)|(apply z4 (c2);rfl;rfl)|(apply z4 (c3);rfl;rfl)|(apply z4 (cN);rfl;rfl)|(apply z8 [] [4,5] cF;rfl;rfl;rfl;(focus ((repeat' first|exact z15|apply z11)<;>(refine z19 ?_;((exact z5 fun _=>rfl)))))))<;>conv=>whnf)
  all_goals (refine rsD [4,5] [] rfl ?_;(repeat' first|exact y84 _|exact z42|refine z9 rfl (z25) ?_|apply z38|apply z71|constructor))
 ·refine z7 z14 Tryz.func47 rfl rfl 44 Tryz.ntmps47 (by simp) ?_
  repeat' ((first|(apply y4 ok;rfl)|(apply z31;kernel_rfl)|(apply z4 (c1);rfl;rfl)|(apply z4 (c2);rfl;rfl)|(apply z4 (c3);rfl;rfl)|(apply z4 (cN);rfl;rfl)|(apply z8 [] [4,5] cF;rfl;rfl;rfl;(focus ((repeat' first|exact z15|apply z11)<;>(refine z19 ?_;((exact z5 fun _=>rfl)))))))<;>conv=>whnf)
  all_goals (refine rsD [4,5] [] rfl ?_;(repeat' first|exact y84 _|exact z10 _|refine z9 rfl (z5 (fun _=>rfl)) ?_|constructor))
set_option maxHeartbeats 3200000 in
theorem z237 (g:Graph) (hg:g.mx) (l:List Tree) (hl:Lmx l) (f:Tree) (hf:f.mx):CallsA Tryz.prog 46 [.agg g.cs,lst 3 Tree.cs' l,z23 Tree.cs' f] [] (.tup [.int (vdI g l f),.agg (vdT g l f).cs]) []:=by
 have k0:=z393 g hg l hl
 have c3:=z109 f hf
 have cN:=z539 f hf
 have hval:=@z695 f
 unfold vdI vdT
 by_cases h1:glB g l=true
 ·have hG:=(z159 g).1 (by unfold glB at h1;exact (Bool.and_eq_true_iff.1 h1).1)
  have hL:=y8 (by unfold glB at h1;exact (Bool.and_eq_true_iff.1 h1).2)
  rw [if_pos h1] at k0
  have e1:autB (ngA f)=true→ftO g l (ngA f)=trcO g (g.st.map (z56 l)) (ngA f):=fun h=>by unfold ftO;rw [h1,h];rfl
  have e2:autB (ngA f)=true→ftL g l (ngA f)=⟨(trcL g (g.st.map (z56 l)) (ngA f)).1,(trcL g (g.st.map (z56 l)) (ngA f)).2⟩:=fun h=>by unfold ftL trcL;rw [e1 h]
  have k3:=fun hA=>z1059 g hG (g.st.map (z56 l)) (by simp) (fun x hx=>by
   obtain ⟨s,_,rfl⟩:=List.mem_map.1 hx
   exact z273 hL s) (ngA f) hA
  have hno:=@z872 g l (ngA f)
  rw [h1,Bool.true_and]
  rw [h1] at k0
  by_cases h3:f.fmB=true
  ·rw [if_pos h3,if_pos h3]
   rw [h3] at c3
   by_cases hz:ngS f=true
   ·have hv:=hval hz
    have k3:=k3 (z207.1 hv)
    rw [e2 hv] at hno
    rw [if_pos hz,if_pos hz,e1 hv,e2 hv]
    rw [e1 hv] at hno
    rw [hz] at cN
    clear e1 e2 hval
    generalize g.st.map (z56 l)=ls at *
    generalize (trcO g ls (ngA f)).isSome=tb at *
    generalize trcL g ls (ngA f)=tl at *
    generalize ngA f=a at *
    rw [y15 f] at *
    cases tb
    ·have hno:=hno rfl
     have hn1:tl.1=[]:=congrArg Trace.stem hno
     have hn2:tl.2=[]:=congrArg Trace.loop hno
     rw [hn1,hn2]
     show CallsA _ _ _ _ (.tup [.int 0,.agg [.list 1 0 [],.list 1 0 []]]) _
     refine z7 z14 Tryz.func46 rfl rfl 47 Tryz.ntmps46 (by simp) ?_
     repeat' ((first|(apply y4 ok;rfl)|(apply z4 (k0);rfl;rfl)|(apply z4 (c3);rfl;rfl)|(apply z4 (cN);rfl;rfl)|(apply z4 (k3);rfl;rfl))<;>conv=>whnf)
     all_goals (refine rsD [] [] rfl ?_;(repeat' first|exact y84 _|exact z32|apply z38|apply z71|constructor))
    ·refine z7 z14 Tryz.func46 rfl rfl 47 Tryz.ntmps46 (by simp) ?_
     repeat' ((first|(apply y4 ok;rfl)|(apply z31;kernel_rfl)|(apply z4 (k0);rfl;rfl)|(apply z4 (c3);rfl;rfl)|(apply z4 (cN);rfl;rfl)|(apply z4 (k3);rfl;rfl))<;>conv=>whnf)
     all_goals (refine rsD [] [] rfl ?_;(repeat' first|exact y84 _|constructor))
   ·rw [if_neg hz,if_neg hz]
    rw [(y70 _).mp hz] at cN
    clear e1 e2 hval k3 hno
    show CallsA _ _ _ _ (.tup [.int 2,.agg [.list 1 0 [],.list 1 0 []]]) _
    generalize g.st.map (z56 l)=ls at *
    generalize ngA f=a at *
    rw [y15 f] at *
    refine z7 z14 Tryz.func46 rfl rfl 47 Tryz.ntmps46 (by simp) ?_
    repeat' ((first|(apply y4 ok;rfl)|(apply z4 (k0);rfl;rfl)|(apply z4 (c3);rfl;rfl)|(apply z4 (cN);rfl;rfl))<;>conv=>whnf)
    all_goals (refine rsD [] [] rfl ?_;(repeat' first|exact y84 _|exact z32|apply z38|apply z71|constructor))
  ·rw [if_neg h3,if_neg h3]
   rw [(y70 _).mp h3] at c3
   clear e1 e2 hval k3 hno cN
   show CallsA _ _ _ _ (.tup [.int 3,.agg [.list 1 0 [],.list 1 0 []]]) _
   generalize g.st.map (z56 l)=ls at *
   rw [y15 f] at *
   refine z7 z14 Tryz.func46 rfl rfl 47 Tryz.ntmps46 (by simp) ?_
   repeat' ((first|(apply y4 ok;rfl)|(apply z4 (k0);rfl;rfl)|(apply z4 (c3);rfl;rfl))<;>conv=>whnf)
   all_goals (refine rsD [] [] rfl ?_;(repeat' first|exact y84 _|exact z32|apply z38|apply z71|constructor))
 ·rw [(y70 _).mp h1,Bool.false_and,if_neg (by simp),if_neg (by simp)]
  rw [if_neg h1,(y70 _).mp h1] at k0
  show CallsA _ _ _ _ (.tup [.int 3,.agg [.list 1 0 [],.list 1 0 []]]) _
  rw [y15 f] at *
  refine z7 z14 Tryz.func46 rfl rfl 47 Tryz.ntmps46 (by simp) ?_
  repeat' ((first|(apply y4 ok;rfl)|(apply z4 (k0);rfl;rfl))<;>conv=>whnf)
  all_goals (refine rsD [] [] rfl ?_;(repeat' first|exact y84 _|exact z32|apply z38|apply z71|constructor))
end Go.Proofs.YtahhobgjcfionaaGreat
namespace Go.Proofs.YtahhobgjcfionaaGreat
open Go.Gl
attribute [local irreducible] z18 AWP z35 z39 z37
def pick (bl:List Int) (p:Int):Int:=bl.getD p.toNat 0
end Go.Proofs.YtahhobgjcfionaaGreat
namespace Go.Proofs.YtahhobgjcfionaaGreat
open Go.Gl
attribute [local irreducible] z18 AWP z35 z39 z37 RetS z44
def nxW (N s:Nat) (i:Nat):Int:=if i+1=N then (s:Int) else ((i+1:Nat):Int)
def pushW (a:Aut) (word:List Int) (s i:Nat):List (Nat×Int):=a.ed.flatMap (z268 a.acc.length i (word.getD i 0) (nxW word.length s i))
def accW (a:Aut) (word:List Int) (s:Nat):List (List Int):=build (word.length * a.acc.length) ((List.range word.length).flatMap (pushW a word s))
theorem nxW_in {N s i:Nat} (hs:s < N) (hi:i < N):0≤nxW N s i∧nxW N s i≤N - 1:=by unfold nxW;split<;>omega
def BackR {α:Type} (M:Nat) (Gc:Ghost) (wc:World) (rest:α→List AObj) (L:List Int) (env:List (Nat×AC)) (x:α) (a:Act) (w:World):Prop :=
 ∃ G,SubM M Gc G∧Le wc w∧Rel G (mkSt 19 env (.cells 1 [[ints L]]::rest x)) a w
def IsSt {α:Type} (rest:α→List AObj) (L:List Int) (x:α) (env' : List (Nat×AC)) (st:St):Prop:=st=mkSt 19 env' (.cells 1 [[ints L]]::rest x)
theorem BackR.step {α : Type} {M : Nat} {Gc : Ghost} {wc : World} {rest : α → List AObj} {L : List Int} {env env' : List (Nat × AC)} {x : α} {a : Act} {w : World} {c : Code}
    (h:BackR M Gc wc rest L env x a w) (hc:AWP Tryz.prog M c (z593 (IsSt rest L x env') (fun _ _=>False)) (mkSt 19 env (.cells 1 [[ints L]]::rest x))) {K:Act→World→Prop} {Q:Exit→Act→World→Prop}
    (hk:∀ a w,BackR M Gc wc rest L env' x a w→K a w):c.wpIn Fence.wide 0 Tryz.prog (Exit.then K Q) a w:=by
  obtain ⟨G,h1,h2,h3⟩:=h
  refine wpIn_mono (hc.at_ h3) ?_
  rintro ex a' w' ⟨G',st',k1,k2,k3,k4⟩
  cases ex with
  | normal =>
    have k3:st'=_:=k3
    subst k3
    exact hk _ _ ⟨G',h1.trans k1,h2.trans k2,k4⟩
  | _=>exact k3.elim
theorem BackR.less {α:Type} {M:Nat} {Gc:Ghost} {wc:World} {rest:α→List AObj} {L:List Int} {env env' : List (Nat×AC)} {x:α} {a:Act} {w:World} (h:BackR M Gc wc rest L env x a w) (he:z726 (fun s y=>z87 env s=y) env'):BackR M Gc wc rest L env' x a w:=by
 obtain ⟨G,h1,h2,h3⟩:=h
 refine ⟨G,h1,h2,h3.wf,fun s=>?_,h3.size,h3.defers⟩
 rcases z331 env' _ he s with e|e
 ·show V _ _ _ (z87 env' s) _
  rw [e];simp [V]
 ·have:=h3.env s
  show V _ _ _ (z87 env' s) _
  rw [← e];exact this
theorem BackR.val {α:Type} {M:Nat} {Gc:Ghost} {wc:World} {rest:α→List AObj} {L:List Int} {env:List (Nat×AC)} {x:α} {a:Act} {w:World} (h:BackR M Gc wc rest L env x a w) {s:Nat} {v:Value} (he:z87 env s=.raw v):a.tmps.getD s undef=v:=by
 obtain ⟨G,_,_,hR⟩:=h
 have:=hR.env s
 rw [show (mkSt 19 env (.cells 1 [[ints L]]::rest x)).env s=z87 env s from rfl,he] at this
 simpa only [V] using this
def NoAcc (rows:List (List Int)) (ini:List Int) (acc:List Bool):Prop:=∀ x,RP rows ini x→Cyc rows x→acc.getD (x % acc.length).toNat false=false
section
variable {rows:List (List Int)} {ini:List Int} {acc:List Bool} {R:List Int}
end
end Go.Proofs.YtahhobgjcfionaaGreat
namespace Go.Proofs.YtahhobgjcfionaaGreat
open Go.Gl
attribute [local irreducible] z18 AWP z35 z39 z37 RetS z44
attribute [local irreducible] EndR
theorem z996 {g:Graph} {ls:List Int} {a:Aut} (hr:∀ r∈z46 g ls a,InN (z46 g ls a).length r) (hi:InN (z46 g ls a).length a.ini) (hn:a.ini.Nodup) (h:trcO g ls a=none):NoAcc (z46 g ls a) a.ini a.acc:=by
 unfold trcO at h
 rw [Option.map_eq_none_iff,← z447 hr hi hn,z701] at h
 intro x hx hc
 have hxN:=RP.in hr hi hx
 have:=h x ((z830 hr hi x).2 hx)
 cases hb:a.acc.getD (x % a.acc.length).toNat false with
 |false=>rfl
 |true =>
  exfalso
  apply this
  refine ⟨hb,z378.2 ?_⟩
  rw [Int.toNat_of_nonneg hxN.1];exact hc
end Go.Proofs.YtahhobgjcfionaaGreat
namespace Go.Proofs.YtahhobgjcfionaaGreat
open Go.Gl
attribute [local irreducible] z18 AWP z35 z39 z37
end Go.Proofs.YtahhobgjcfionaaGreat
namespace Go.Proofs.YtahhobgjcfionaaGreat
open Go.Gl
attribute [local irreducible] z18 AWP z35 z39 z37 RetS z44
theorem z1041 {g:Graph} {ls:List Int} {a:Aut} (hr:∀ r∈z46 g ls a,InN (z46 g ls a).length r) (hi:InN (z46 g ls a).length a.ini) (hn:a.ini.Nodup) (h:NoAcc (z46 g ls a) a.ini a.acc):trcO g ls a=none:=by
 unfold trcO
 rw [Option.map_eq_none_iff,← z447 hr hi hn,z701]
 rintro v hv ⟨h1,h2⟩
 have hvN:=z742 hr hi _ v hv
 have hc:=z378.1 h2
 rw [Int.toNat_of_nonneg hvN.1] at hc
 have:=h v ((z830 hr hi v).1 hv) hc
 rw [h1] at this;cases this
theorem z520 {N:Nat} {ps:List (Nat×Int)} {r:Nat} {y:Int} : y∈(build N ps).getD r []↔r < N∧(r,y)∈ps:=by
 by_cases h:r < N
 ·rw [z17 (by rw [z85];exact h),z385 (by rw [z85];exact h)]
  simp only [y58,List.mem_filter,beq_iff_eq,h,true_and]
  constructor
  ·rintro ⟨⟨p,v⟩,⟨h1,h2⟩,h3⟩
   dsimp only at h2 h3
   subst h2;subst h3;exact h1
  ·intro h1;exact ⟨(r,y),⟨h1,rfl⟩,rfl⟩
 ·have e:(build N ps).getD r []=[]:=by rw [y66,y67 (by rw [z85];omega)];rfl
  rw [e];simp [h]
theorem z1029 {g:Graph} {ls:List Int} {a:Aut} {i:Nat} {to:Int} {e:Trans} (hsrc:e.src.toNat < a.acc.length) (hi:i < g.st.length) (hto:to∈g.nx.getD i []) (he:e∈a.ed) (hon:onB e (ls.getD i 0)=true):to * a.acc.length+e.dst∈(z46 g ls a).getD (i * a.acc.length+e.src.toNat) []:=by
 unfold z46
 refine z520.2 ⟨?_,List.mem_flatMap.2 ⟨i,List.mem_range.2 hi,?_⟩⟩
 ·have h1:(i+1) * a.acc.length≤g.st.length * a.acc.length:=Nat.mul_le_mul_right _ hi
  rw [Nat.add_mul,Nat.one_mul,Nat.mul_comm g.st.length] at h1
  omega
 ·unfold z400
  refine List.mem_flatMap.2 ⟨to,hto,List.mem_flatMap.2 ⟨e,he,?_⟩⟩
  unfold z268
  rw [if_pos hon];simp
section
variable {g:Graph} {ls:List Int} {a:Aut} {t:Trace}
end
end Go.Proofs.YtahhobgjcfionaaGreat
namespace Go.Proofs.YtahhobgjcfionaaGreat
open Go.Gl
attribute [local irreducible] z18 AWP z35 z39 z37 RetS z44
end Go.Proofs.YtahhobgjcfionaaGreat
namespace Go.Proofs.YtahhobgjcfionaaGreat
open Go.Gl
attribute [local irreducible] z18 AWP z35 z39 z37
theorem GB.row {g:Graph} (h:GB g):∀ i (hi:i < g.nx.length),1≤g.nx[i].length∧g.nx[i].length≤60∧InN g.st.length g.nx[i]:=fun i hi=>by
 obtain ⟨⟨g1,g2⟩,g3,g4⟩:=h
 have h4:=g4 i hi hi (by omega)
 refine ⟨by have:=h4.2.1;omega,by have:=h4.2.1;omega,fun x hx=>?_⟩
 obtain ⟨j,hj,rfl⟩:=List.mem_iff_getElem.1 hx
 have:=(h4.2.2.2 j hj hj).1
 omega
end Go.Proofs.YtahhobgjcfionaaGreat
namespace Go.Proofs.YtahhobgjcfionaaGreat
open Go.Gl
attribute [local irreducible] z18 AWP z35 z39 z37 RetS z44
theorem z862 {g:Graph} {ls:List Int} {a:Aut} {x y:Int} (hx:0≤x) (h:y∈(z46 g ls a).getD x.toNat []) (hA:AutP a):∃ (i:Nat) (to:Int) (e:Trans),i < g.st.length∧to∈g.nx.getD i []∧e∈a.ed∧onB e (ls.getD i 0)=true∧x / a.acc.length=i∧x % a.acc.length=e.src∧y / a.acc.length=to∧y % a.acc.length=e.dst:=by
 unfold z46 at h
 obtain ⟨_,h⟩:=z520.1 h
 unfold z491 at h
 obtain ⟨i,hi,h⟩:=List.mem_flatMap.1 h
 unfold z400 at h
 obtain ⟨to,hto,h⟩:=List.mem_flatMap.1 h
 unfold z492 at h
 obtain ⟨e,he,h⟩:=List.mem_flatMap.1 h
 unfold z268 at h
 split at h
 ·rename_i hon
  simp only [y53,Prod.mk.injEq] at h
  obtain ⟨h1,h2⟩:=h
  have hE:=hA.2.2.2 e he
  unfold z376 at hE
  have hac:=hA.1
  have hn:(a.acc.length:Int)≠0:=by omega
  have hm:((i * a.acc.length:Nat):Int)=(i:Int) * a.acc.length:=by simp
  have hxe:x=(i:Int) * a.acc.length+e.src:=by omega
  have d1:∀ (b q:Int),0≤q→q < a.acc.length→(b * a.acc.length+q) / (a.acc.length:Int)=b∧(b * a.acc.length+q) % (a.acc.length:Int)=q:=fun b q q0 q1 =>
   ⟨by rw [Int.add_comm,Int.add_mul_ediv_right _ _ hn,Int.ediv_eq_zero_of_lt q0 q1,Int.zero_add],by rw [Int.add_comm,Int.add_mul_emod_self_right,Int.emod_eq_of_lt q0 q1]⟩
  have k1:=d1 i e.src hE.1.1 (by omega)
  have k2:=d1 to e.dst hE.2.1.1 (by omega)
  exact ⟨i,to,e,List.mem_range.1 hi,hto,he,hon,by rw [hxe];exact k1.1,by rw [hxe];exact k1.2,by rw [h2];exact k2.1,by rw [h2];exact k2.2⟩
 ·cases h
structure FndP (g:Graph) (ls:List Int) (a:Aut) (s q:List Int):Prop where
 inn:∀ x∈s++q,0≤x
 path:PathP (z46 g ls a) (s++q)
 ini:(s++q).getD 0 0∈a.ini
 pos:0 < q.length
 back:q.getD 0 0∈(z46 g ls a).getD (q.getD (q.length - 1) 0).toNat []
 acc:a.acc.getD (q.getD 0 0 % a.acc.length).toNat false=true
section
variable {g:Graph} {ls:List Int} {a:Aut} {s q:List Int}
theorem FndP.step (h:FndP g ls a s q) {k:Nat} (hk:k < (s++q).length):(s++q).getD (nxW (s++q).length s.length k).toNat 0∈(z46 g ls a).getD ((s++q).getD k 0).toNat []:=by
 have hl:(s++q).length=s.length+q.length:=by simp
 have hsq:∀ j,(s++q).getD (s.length+j) 0=q.getD j 0:=fun j=>by
  rw [y66,y66,y65 (by omega),show s.length+j - s.length=j by omega]
 have hp:=h.pos
 unfold nxW
 split
 ·rename_i e
  rw [y75,show s.length=s.length+0 by omega,hsq,show k=s.length+(q.length - 1) by omega,hsq]
  exact h.back
 ·rw [y75];exact h.path k (by omega)
theorem FndP.word (hA:AutP a) (h:FndP g ls a s q) {w:List Int} (hw:w.length=(s++q).length) (hwl:∀ k,k < w.length→w.getD k 0=ls.getD ((s++q).getD k 0 / a.acc.length).toNat 0):∃ x,RP (accW a w s.length) a.ini x∧Cyc (accW a w s.length) x∧a.acc.getD (x % a.acc.length).toNat false=true:=by
 have hac:=hA.1
 have hn:(a.acc.length:Int)≠0:=by omega
 have hl:(s++q).length=s.length+q.length:=by simp
 have hp:=h.pos
 have hsq0:(s++q).getD s.length 0=q.getD 0 0:=by
  rw [y66,y66,y65 (y51 _),Nat.sub_self]
 obtain ⟨P,hP⟩:∃ P:Nat→Int,P=fun (k:Nat)=>(k:Int) * a.acc.length+(s++q).getD k 0 % a.acc.length:=⟨_,rfl⟩
 have hP0:∀ k,0≤P k:=fun k=>by
  rw [hP]
  have:=Int.mul_nonneg (show (0:Int)≤k by omega) (show (0:Int)≤a.acc.length by omega)
  have:=Int.emod_nonneg ((s++q).getD k 0) hn
  dsimp only;omega
 have hPm:∀ k,P k % (a.acc.length:Int)=(s++q).getD k 0 % a.acc.length:=fun k=>by
  rw [hP];dsimp only
  rw [Int.add_comm,Int.add_mul_emod_self_right,Int.emod_emod_of_dvd _ (Int.dvd_refl _)]
 have edge:∀ k,k < w.length→P (nxW w.length s.length k).toNat∈(accW a w s.length).getD (P k).toNat []:=fun k hk=>by
  have hst:=h.step (k:=k) (by omega)
  rw [← hw] at hst
  have hx0:=h.inn ((s++q).getD k 0) (by rw [z17 (by omega)];exact y43 _)
  obtain ⟨i,to,e,h1,h2,h3,h4,h5,h6,h7,h8⟩:=z862 hx0 hst hA
  have hE:=hA.2.2.2 e h3
  unfold z376 at hE
  have hnx:=nxW_in (N:=w.length) (s:=s.length) (i:=k) (by omega) hk
  have hon:onB e (w.getD k 0)=true:=by rw [hwl k hk,h5,y75];exact h4
  have hm:((k * a.acc.length:Nat):Int)=(k:Int) * a.acc.length:=by simp
  have e1:(P k).toNat=k * a.acc.length+e.src.toNat:=by
   rw [hP];dsimp only;rw [h6];omega
  have e2:P (nxW w.length s.length k).toNat=nxW w.length s.length k * a.acc.length+e.dst:=by
   rw [hP];dsimp only;rw [h8,Int.toNat_of_nonneg hnx.1]
  rw [e1,e2]
  unfold accW
  refine z520.2 ⟨?_,List.mem_flatMap.2 ⟨k,List.mem_range.2 hk,?_⟩⟩
  ·have h9:(k+1) * a.acc.length≤w.length * a.acc.length:=Nat.mul_le_mul_right _ hk
   rw [Nat.add_mul,Nat.one_mul] at h9
   omega
  ·unfold pushW
   refine List.mem_flatMap.2 ⟨e,h3,?_⟩
   unfold z268
   rw [if_pos hon];simp
 have rp:∀ k,k < w.length→RP (accW a w s.length) a.ini (P k):=by
  intro k
  induction k with
  |zero =>
   intro _
   refine .base ?_
   have hi:=h.ini
   obtain ⟨j,hj,e⟩:=List.mem_iff_getElem.1 hi
   have h5:=(hA.2.2.1 j hj hj).1
   rw [e] at h5
   have:P 0=(s++q).getD 0 0:=by rw [hP];dsimp only;rw [Int.emod_eq_of_lt h5.1 (by omega)];simp
   rw [this];exact hi
  |succ k ih =>
   intro hk
   have:=edge k (by omega)
   unfold nxW at this
   rw [if_neg (by omega),y75] at this
   exact .step (ih (by omega)) this
 have round:∀ d k,k+d+1=w.length→s.length≤k→RP (accW a w s.length) [P k] (P s.length):=by
  intro d
  induction d with
  |zero =>
   intro k hk _
   have:=edge k (by omega)
   unfold nxW at this
   rw [if_pos (by omega),y75] at this
   exact .step (.base (by simp)) this
  |succ d ih =>
   intro k hk hs
   have:=edge k (by omega)
   unfold nxW at this
   rw [if_neg (by omega),y75] at this
   exact RP.trans (.base (by simp)) this (ih (k+1) (by omega) (by omega))
 refine ⟨P s.length,rp _ (by omega),⟨_,edge s.length (by omega),?_⟩,by rw [hPm,hsq0];exact h.acc⟩
 unfold nxW
 split
 ·rw [y75];exact .base (by simp)
 ·rw [y75];exact round (w.length - (s.length+1) - 1) (s.length+1) (by omega) (by omega)
end
end Go.Proofs.YtahhobgjcfionaaGreat
namespace Go.Proofs.YtahhobgjcfionaaGreat
open Go.Gl
attribute [local irreducible] z18 AWP z35 z39 z37
def GPath (g:Graph) (π:Nat→Int):Prop:=π 0=0∧∀ k,π (k+1)∈g.nx.getD (π k).toNat []
def gW (g:Graph) (l:List Tree) (π:Nat→Int) (k:Nat):Int:=(g.st.map (z56 l)).getD (π k).toNat 0
theorem GPath.inn {g:Graph} (hG:GB g) {π:Nat→Int} (h:GPath g π):∀ k,0≤π k∧π k < g.st.length
 |0=>by have:=hG.1;rw [h.1];omega
 |k+1=>by
  have ih:=GPath.inn hG h k
  have hl:=hG.2.1
  have h1:=h.2 k
  rw [z17 (by omega)] at h1
  exact (hG.row _ (by omega)).2.2 _ h1
theorem gW_nn {g:Graph} {l:List Tree} (hL:z152 l) (π:Nat→Int) (k:Nat):0≤gW g l π k:=by
 unfold gW
 by_cases h:(π k).toNat < (g.st.map (z56 l)).length
 ·rw [z17 h,List.getElem_map]
  exact (z273 hL _).1
 ·rw [y66,y67 (by omega)];exact Int.le_refl _
theorem divmod {n b q:Int} (hn:0 < n) (q0:0≤q) (q1:q < n):(b * n+q) / n=b∧(b * n+q) % n=q :=
 ⟨by rw [Int.add_comm,Int.add_mul_ediv_right _ _ (by omega),Int.ediv_eq_zero_of_lt q0 q1,Int.zero_add],by rw [Int.add_comm,Int.add_mul_emod_self_right,Int.emod_eq_of_lt q0 q1]⟩
def ARun (a:Aut) (w:Nat→Int) (ρ:Nat→Int):Prop:=ρ 0∈a.ini∧(∀ k,∃ e∈a.ed,e.src=ρ k∧e.dst=ρ (k+1)∧onB e (w k)=true)∧∀ m,∃ k,m≤k∧a.acc.getD (ρ k).toNat false=true
theorem fto_iff {g:Graph} {l:List Tree} {a:Aut} (h1:(glB g l && autB a)=true):(ftO g l a).isSome=true↔∃ π ρ:Nat→Int,GPath g π∧ARun a (gW g l π) ρ:=by
 obtain ⟨h3,hab⟩:=Bool.and_eq_true_iff.1 h1
 have hG:=(z159 g).1 (by unfold glB at h3;exact (Bool.and_eq_true_iff.1 h3).1)
 have hA:=z207.1 hab
 obtain ⟨f1,f2,f3,f4,f5⟩:=z401 hG hA (g.st.map (z56 l))
 have hnd:=hA.2.2.1.nd
 have hac:=hA.1
 have hn:(0:Int) < a.acc.length:=by omega
 have hini:=fun x hx=>(show InN (z46 g (g.st.map (z56 l)) a).length a.ini from f2) x hx
 have e1:ftO g l a=trcO g (g.st.map (z56 l)) a:=by unfold ftO;rw [if_pos h1]
 have e2:(ftO g l a).isSome=true↔∃ x,RP (z46 g (g.st.map (z56 l)) a) a.ini x∧a.acc.getD (x % a.acc.length).toNat false=true∧Cyc (z46 g (g.st.map (z56 l)) a) x:=by
  rw [e1]
  constructor
  ·intro h
   refine y76 fun hno=>?_
   have:NoAcc (z46 g (g.st.map (z56 l)) a) a.ini a.acc:=fun x hx hc=>by
    cases hb:a.acc.getD (x % a.acc.length).toNat false with
    |false=>rfl
    |true=>exact absurd ⟨x,hx,hb,hc⟩ hno
   rw [z1041 f1 f2 hnd this] at h
   cases h
  ·rintro ⟨x,hx,hb,hc⟩
   cases ht:trcO g (g.st.map (z56 l)) a with
   |some p=>rfl
   |none =>
    have:=z996 f1 f2 hnd ht x hx hc
    rw [hb] at this;cases this
 have e3:=inf_iff (acc:=fun x=>a.acc.getD (x % a.acc.length).toNat false=true) f1 f2
 rw [e2,← e3]
 constructor
 ·rintro ⟨σ,s0,s1,s2⟩
  have hin:=runInN f1 s1 (f2 _ s0)
  have hst:=fun k=>z862 (hin k).1 (s1 k) hA
  obtain ⟨i0,hi0,ei0⟩:=List.mem_iff_getElem.1 s0
  have hr0:=(hA.2.2.1 i0 hi0 hi0).1
  rw [ei0] at hr0
  have hd0:=divmod (b:=0) hn hr0.1 (show σ 0 < a.acc.length by omega)
  rw [Int.zero_mul,Int.zero_add] at hd0
  refine ⟨fun k=>σ k / a.acc.length,fun k=>σ k % a.acc.length,⟨hd0.1,fun k=>?_⟩,by show σ 0 % _∈_;rw [hd0.2];exact s0,fun k=>?_,s2⟩
  ·obtain ⟨i,to,e,c1,c2,c3,c4,c5,c6,c7,c8⟩:=hst k
   show σ (k+1) / _∈g.nx.getD (σ k / a.acc.length).toNat []
   rw [c7,c5,y75];exact c2
  ·obtain ⟨i,to,e,c1,c2,c3,c4,c5,c6,c7,c8⟩:=hst k
   refine ⟨e,c3,c6.symm,c8.symm,?_⟩
   unfold gW
   show onB e ((g.st.map (z56 l)).getD (σ k / a.acc.length).toNat 0)=true
   rw [c5,y75];exact c4
 ·rintro ⟨π,ρ,hp,r0,r1,r2⟩
  have hin:=hp.inn hG
  have hrr:∀ k,0≤ρ k∧ρ k < a.acc.length:=fun k=>by
   obtain ⟨e,he,c1,c2,_⟩:=r1 k
   have hE:=hA.2.2.2 e he
   unfold z376 at hE
   omega
  refine ⟨fun k=>π k * a.acc.length+ρ k,?_,fun k=>?_,fun m=>?_⟩
  ·show π 0 * _+ρ 0∈_
   rw [hp.1,Int.zero_mul,Int.zero_add];exact r0
  ·obtain ⟨e,he,c1,c2,c3⟩:=r1 k
   have hE:=hA.2.2.2 e he
   unfold z376 at hE
   have h4:=z1029 (g:=g) (ls:=g.st.map (z56 l)) (a:=a) (i:=(π k).toNat) (to:=π (k+1)) (e:=e) (by omega) (by have:=hin k;omega) (hp.2 k) he c3
   show π (k+1) * _+ρ (k+1)∈(z46 g (g.st.map (z56 l)) a).getD (π k * a.acc.length+ρ k).toNat []
   rw [c2] at h4
   have h5:(π k * a.acc.length+ρ k).toNat=(π k).toNat * a.acc.length+e.src.toNat:=by
    rw [c1]
    obtain ⟨i,hi⟩:=Int.eq_ofNat_of_zero_le (hin k).1
    obtain ⟨r,hr⟩:=Int.eq_ofNat_of_zero_le (hrr k).1
    rw [hi,hr,y75,y75]
    norm_cast
   rw [h5];exact h4
  ·obtain ⟨k,k1,k2⟩:=r2 m
   refine ⟨k,k1,?_⟩
   show a.acc.getD ((π k * a.acc.length+ρ k) % a.acc.length).toNat false=true
   rw [(divmod hn (hrr k).1 (hrr k).2).2];exact k2
theorem z847 (t:Tree) (hs:t.sz≤200) (h:tsB t=true) {w:Nat→Int} (hw:∀ k,0≤w k):(∃ ρ,ARun (trA t) w ρ)↔t.sem w 0:=by
 unfold tsB at h
 unfold trA
 unfold trO at *
 by_cases hb:bscB t=true
 ·rw [if_pos hb] at *
  obtain ⟨⟨ht,hn⟩,h5⟩:=of_decide_eq_true (show decide _=true from hb)
  obtain ⟨hB,hIn,_⟩:=z524 ht hn h5 hs
  have hg:=y24 ht
  have hsem:=sem_nrm w t hg false 0
  rw [if_neg (by simp)] at hsem
  have hNF:=nrm_NF t hg false
  have hNB:∀ x∈bscL (t.nrm false),NF x:=fun x hx=>z850 (p:=NF) (fun x hx=>hx.kids) (t.nrm false) [] hNF (by simp) x (List.mem_filter.1 hx).1
  rw [← hsem]
  clear hsem hg ht hn
  generalize t.nrm false=g at *
  generalize bscL g=B at *
  have hBk:BOk B:=⟨hB.nd,hB.cl,hB.bk,hB.av⟩
  cases hS:trS B g with
  |none=>rw [hS] at h;cases h
  |some y =>
   obtain ⟨hT,suf,hL⟩:=trS_T hS
   have hIL:(iniS B g).length≤y.L.length:=by rw [hL];simp
   show (∃ ρ,ARun (z305 (iniS B g).length y) w ρ)↔_
   have hmI:∀ x,x∈numI (iniS B g).length↔∃ i:Nat,x=i∧i < (iniS B g).length:=fun x=>by
    unfold numI
    rw [y58]
    exact ⟨fun ⟨i,hi,e⟩=>⟨i,e.symm,List.mem_range.1 hi⟩,fun ⟨i,e,hi⟩=>⟨i,List.mem_range.2 hi,e.symm⟩⟩
   constructor
   ·rintro ⟨ρ,r0,r1,r2⟩
    obtain ⟨i0,ei0,hi0⟩:=(hmI _).1 r0
    have hL0:¬ y.L.length=0:=by omega
    have hacc:(z305 (iniS B g).length y).acc=y.acc:=by unfold z305;dsimp only;rw [if_neg hL0]
    have hst:∀ k,∃ e∈y.ed,e.src=ρ k∧e.dst=ρ (k+1)∧(((w k).toNat &&& e.care.toNat:Nat):Int)=e.val:=fun k=>by
     obtain ⟨e,he,c1,c2,c3⟩:=r1 k
     obtain ⟨e',he',rfl⟩:=List.mem_map.1 (show e∈y.ed.map eT from he)
     exact ⟨e',he',c1,c2,of_decide_eq_true c3⟩
    have hnn:∀ k,ρ k=((ρ k).toNat:Nat):=fun k=>by
     obtain ⟨e,he,c1,_⟩:=hst k
     obtain ⟨k',t,_,_,_,x1,_⟩:=hT.e1 e he
     omega
    refine tr_sound hBk hIn hS hw (ρ:=fun k=>(ρ k).toNat) ⟨by show (ρ 0).toNat < _;omega,fun k=>?_,fun m=>?_⟩
    ·obtain ⟨e,he,c1,c2,c3⟩:=hst k
     exact ⟨e,he,by rw [c1];exact hnn k,by rw [c2];exact hnn (k+1),c3⟩
    ·obtain ⟨k,k1,k2⟩:=r2 m
     rw [hacc] at k2
     exact ⟨k,k1,k2⟩
   ·intro hs
    obtain ⟨ρ,r0,r1,r2⟩:=z766 hBk hNB hNF hIn hS hw hs
    have hL0:¬ y.L.length=0:=by omega
    have hacc:(z305 (iniS B g).length y).acc=y.acc:=by unfold z305;dsimp only;rw [if_neg hL0]
    refine ⟨fun k=>(ρ k:Int),(hmI _).2 ⟨ρ 0,rfl,r0⟩,fun k=>?_,fun m=>?_⟩
    ·obtain ⟨e,he,c1,c2,c3⟩:=r1 k
     exact ⟨eT e,List.mem_map.2 ⟨e,he,rfl⟩,c1,c2,y80 c3⟩
    ·obtain ⟨k,k1,k2⟩:=r2 m
     refine ⟨k,k1,?_⟩
     rw [hacc,y75];exact k2
 ·rw [if_neg hb] at h;cases h
theorem z614 {t:Tree} (hg:t.goodF) (w:Nat→Int) (i:Nat):(negT t).sem w i↔¬ t.sem w i:=by
 unfold negT
 by_cases hk:t.kind=3
 ·rw [if_pos hk]
  cases y22 hg with
  |tr=>simp [Tree.kind] at hk
  |«at» v _ _=>simp [Tree.kind] at hk
  |bin k a b hk2 _ _=>simp only [Tree.kind] at hk;omega
  |un k a _ _ =>
   simp only [Tree.kind] at hk
   subst hk
   rw [z395,Classical.not_not]
   simp [Tree.kids]
 ·rw [if_neg hk,z350]
theorem vd_sem {g:Graph} {l:List Tree} {f:Tree} (hgl:glB g l=true) (hs:ngS f=true):(ftO g l (ngA f)).isSome=true↔∃ π,GPath g π∧¬ f.sem (gW g l π) 0:=by
 have hv:=z695 hs
 have hL:=y8 (by unfold glB at hgl;exact (Bool.and_eq_true_iff.1 hgl).2)
 have h1:=hs
 unfold ngS at h1
 rw [y69] at h1
 have hz:=z403 h1.1
 have e1:ngA f=trA (negT f):=by unfold ngA ngT;rw [if_pos h1.1,if_pos h1.1]
 have e2:ngT f=negT f:=by unfold ngT;rw [if_pos h1.1]
 rw [e2] at h1 hz
 have hg:=y24 (ngB_fm h1.1)
 rw [fto_iff (by rw [hgl,hv];rfl)]
 constructor
 ·rintro ⟨π,ρ,hp,hr⟩
  rw [e1] at hr
  exact ⟨π,hp,(z614 hg _ _).1 ((z847 _ (by omega) h1.2 (gW_nn hL π)).1 ⟨ρ,hr⟩)⟩
 ·rintro ⟨π,hp,hn⟩
  obtain ⟨ρ,hr⟩:=(z847 _ (by omega) h1.2 (gW_nn hL π)).2 ((z614 hg _ _).2 hn)
  rw [← e1] at hr
  exact ⟨π,ρ,hp,hr⟩
theorem z216 {g:Graph} {l:List Tree} {f:Tree} : vdI g l f=0↔(glB g l=true∧f.fmB=true∧ngS f=true)∧∀ π,GPath g π→f.sem (gW g l π) 0:=by
 unfold vdI
 by_cases h1:(glB g l && f.fmB)=true
 ·obtain ⟨h2,h3⟩:=Bool.and_eq_true_iff.1 h1
  rw [if_pos h1]
  by_cases h4:ngS f=true
  ·rw [if_pos h4]
   have hv:=vd_sem h2 h4
   by_cases h5:(ftO g l (ngA f)).isSome=true
   ·rw [if_pos h5]
    refine ⟨fun h=>(by cases h),fun ⟨_,h⟩=>?_⟩
    obtain ⟨π,p1,p2⟩:=hv.1 h5
    exact absurd (h π p1) p2
   ·rw [if_neg h5]
    refine ⟨fun _=>⟨⟨h2,h3,h4⟩,fun π hp=>y76 fun hn=>h5 (hv.2 ⟨π,hp,hn⟩)⟩,fun _=>rfl⟩
  ·rw [if_neg h4]
   exact ⟨fun h=>(by cases h),fun ⟨h,_⟩=>absurd h.2.2 h4⟩
 ·rw [if_neg h1]
  exact ⟨fun h=>(by cases h),fun ⟨h,_⟩=>absurd (by rw [h.1,h.2.1];rfl) h1⟩
theorem z979 {g:Graph} {l:List Tree} {f:Tree} : vdI g l f=1↔(glB g l=true∧f.fmB=true∧ngS f=true)∧∃ π,GPath g π∧¬ f.sem (gW g l π) 0:=by
 unfold vdI
 by_cases h1:(glB g l && f.fmB)=true
 ·obtain ⟨h2,h3⟩:=Bool.and_eq_true_iff.1 h1
  rw [if_pos h1]
  by_cases h4:ngS f=true
  ·rw [if_pos h4]
   have hv:=vd_sem h2 h4
   by_cases h5:(ftO g l (ngA f)).isSome=true
   ·rw [if_pos h5]
    exact ⟨fun _=>⟨⟨h2,h3,h4⟩,hv.1 h5⟩,fun _=>rfl⟩
   ·rw [if_neg h5]
    exact ⟨fun h=>(by cases h),fun ⟨_,h⟩=>absurd (hv.2 h) h5⟩
  ·rw [if_neg h4]
   exact ⟨fun h=>(by cases h),fun ⟨h,_⟩=>absurd h.2.2 h4⟩
 ·rw [if_neg h1]
  exact ⟨fun h=>(by cases h),fun ⟨h,_⟩=>absurd (by rw [h.1,h.2.1];rfl) h1⟩
theorem z980 (g:Graph) (l:List Tree) (f:Tree):vdI g l f=0∨vdI g l f=1∨vdI g l f=2∨vdI g l f=3:=by
 unfold vdI
 split
 ·split
  ·split<;>simp
  ·simp
 ·simp
theorem z465 {g:Graph} {l:List Tree} {f:Tree} : vdI g l f < 2↔glB g l=true∧f.fmB=true∧ngS f=true:=by
 unfold vdI
 by_cases h1:(glB g l && f.fmB)=true
 ·obtain ⟨h2,h3⟩:=Bool.and_eq_true_iff.1 h1
  rw [if_pos h1]
  by_cases h4:ngS f=true
  ·rw [if_pos h4]
   refine ⟨fun _=>⟨h2,h3,h4⟩,fun _=>?_⟩
   split<;>omega
  ·rw [if_neg h4];exact ⟨fun h=>(by omega),fun h=>absurd h.2.2 h4⟩
 ·rw [if_neg h1]
  exact ⟨fun h=>(by omega),fun h=>absurd (by rw [h.1,h.2.1];rfl) h1⟩
theorem z978 {g:Graph} {l:List Tree} {f:Tree} : vdI g l f=3↔¬ (glB g l=true∧f.fmB=true):=by
 unfold vdI
 by_cases h1:(glB g l && f.fmB)=true
 ·obtain ⟨h2,h3⟩:=Bool.and_eq_true_iff.1 h1
  rw [if_pos h1]
  refine ⟨fun h=>?_,fun h=>absurd ⟨h2,h3⟩ h⟩
  split at h
  ·split at h<;>cases h
  ·cases h
 ·rw [if_neg h1]
  exact ⟨fun _ h=>h1 (by rw [h.1,h.2];rfl),fun _=>rfl⟩
theorem path_ex {g:Graph} (hG:GB g):∃ π,GPath g π:=by
 classical
 have hnx:∀ i:Nat,i < g.st.length→∃ x,x∈g.nx.getD i []:=fun i hi=>by
  have hl:=hG.2.1
  have h1:=(hG.row i (by omega)).1
  rw [z17 (by omega)]
  exact ⟨_,y43 (n:=0) (by omega)⟩
 let π:Nat→Int:=fun k=>Nat.rec 0 (fun _ x=>if h:∃ y,y∈g.nx.getD x.toNat [] then h.choose else 0) k
 have hin:∀ k,0≤π k∧π k < g.st.length∧π (k+1)∈g.nx.getD (π k).toNat []:=by
  intro k
  have step:∀ k,0≤π k→π k < g.st.length→π (k+1)∈g.nx.getD (π k).toNat []:=fun k h0 h1=>by
   have h:=hnx (π k).toNat (by omega)
   have e:π (k+1)=h.choose:=dif_pos h
   rw [e];exact h.choose_spec
  induction k with
  |zero=>have h1:=hG.1;exact ⟨Int.le_refl _,by show (0:Int) < _;omega,step 0 (Int.le_refl _) (by show (0:Int) < _;omega)⟩
  |succ k ih =>
   have h1:=ih.2.2
   have hl:=hG.2.1
   rw [z17 (by omega)] at h1
   have h2:=(hG.row (π k).toNat (by omega)).2.2 _ h1
   exact ⟨h2.1,h2.2,step (k+1) h2.1 h2.2⟩
 exact ⟨π,rfl,fun k=>(hin k).2.2⟩
end Go.Proofs.YtahhobgjcfionaaGreat
namespace Go.Proofs.YtahhobgjcfionaaGreat
open Go.Gl
attribute [local irreducible] z18 AWP z35 z39 z37 RetS z44
set_option maxHeartbeats 3200000 in
theorem z281 (bs:List Int) (hb:CodeOk bs):∃ (g:Graph) (l:List Tree) (f:Tree),(g.d∧Lab.d l∧f.sz≤22)∧CallsA Tryz.prog 58 [lst 1 enU bs] [] (.tup [.agg g.cs,lst 3 Tree.cs' l,z23 Tree.cs' f]) []:=by
 have co:=z940 bs hb.len
 have hbt:=hb.take
 generalize bs.take 2000=b0 at *
 obtain ⟨l,p1,⟨l1,l2,l3,l4⟩,c1⟩:=z802 b0 hbt 0 ⟨by omega,by omega⟩
 obtain ⟨f0,p2,⟨a1,a2,a3⟩,c2⟩:=z708 b0 hbt p1 ⟨by omega,by omega⟩
 obtain ⟨f,p3,⟨b1,b2,b3⟩,cm⟩:=z806 b0 hbt p2 ⟨by omega,by omega⟩ f0 (by omega)
 obtain ⟨g0,g,p4,p5,cg0,cg,hg,q1,q2⟩:=mutG_ok b0 hbt p3 ⟨by omega,by omega⟩
 refine ⟨g,l,f,⟨hg,⟨l1,l2⟩,by omega⟩,?_⟩
 rw [y15 f] at *
 rw [y15 f0] at *
 refine z7 z14 Tryz.func58 rfl rfl 22 Tryz.ntmps58 (by simp) ?_
 repeat' ((first|(apply y4 ok;rfl)|(apply z31;kernel_rfl)|((first|(apply z34 [] [2] co;rfl;rfl)|(apply z34 [2] [] c1;rfl;rfl)|(apply z34 [2] [] c2;rfl;rfl)|(apply z34 [2] [] cm;rfl;rfl)|(apply z34 [2] [] cg0;rfl;rfl)|(apply z34 [2] [] cg;rfl;rfl));rfl))<;>conv=>whnf)
 all_goals (refine rsD [] [] rfl ?_;(repeat' first|exact y84 _|constructor))
theorem z144 (g:Graph) (hg:g.mx) (l:List Tree) (hl:Lmx l) (f:Tree) (hf:f.mx):CallsA Tryz.prog 47 [.agg g.cs,lst 3 Tree.cs' l,z23 Tree.cs' f] [] (.tup [.int (vdI g l f),.agg (vdT g l f).cs]) []:=(by refine y5 (z319 g hg l hl f hf) [] [0,1] rfl rfl rfl ?_ ?_<;>(repeat' first|exact y84 _|((apply z41 rfl rfl rfl);(focus ((repeat ((exact z33 (fun _=>rfl) _)));done));(focus (((simp;done));done)))|apply z38|apply z71|constructor))
theorem z1045 {g:Graph} {l:List Tree} {f:Tree} (hn:ngB f=true) (h:vdI g l f=0):vdI g l (ngT f)=1∨vdI g l (ngT f)=2:=by
 obtain ⟨⟨h1,h2,h3⟩,h4⟩:=z216.1 h
 have e:ngT f=negT f:=by unfold ngT;rw [if_pos hn]
 rw [e]
 have hf:(negT f).fmB=true:=by
  unfold ngB at hn
  exact (Bool.and_eq_true_iff.1 hn).2
 have n0:vdI g l (negT f)≠0:=fun h0=>by
  obtain ⟨_,h5⟩:=z216.1 h0
  have hG:=(z159 g).1 (by unfold glB at h1;exact (Bool.and_eq_true_iff.1 h1).1)
  obtain ⟨π,hp⟩:=path_ex hG
  exact (z614 (y24 h2) _ _).1 (h5 π hp) (h4 π hp)
 have n3:vdI g l (negT f)≠3:=fun h0=>z978.1 h0 ⟨h1,hf⟩
 have:=z980 g l (negT f)
 omega
set_option maxHeartbeats 3200000 in
theorem z365 (c:List Int) (hc:CodeOk c):CallsA Tryz.prog 11 [lst 1 enU c] [] (.bool true) []:=by
 obtain ⟨g,l,f,⟨hg,hl,hf⟩,cd⟩:=z281 c hc
 have hgm:=hg.mx
 have hlm:=hl.mx
 have hlen:=hc.len
 unfold maxLen at hlen
 have hfm:f.mx:=z81 f (by unfold maxLen;omega)
 have k1:=z144 g hgm l hlm f hfm
 have k2:=z237 g hgm l hlm f hfm
 have k3:=z369 f hfm
 have hz:=ngT_sz f
 have k4:=z144 g hgm l hlm (ngT f) (z81 _ (by unfold maxLen;omega))
 have hp:=@z1045 g l f
 generalize vdI g l f=v at *
 generalize vdI g l (ngT f)=w at *
 generalize vdT g l f=t1 at *
 generalize vdT g l (ngT f)=t2 at *
 generalize ngB f=b at *
 generalize ngT f=u at *
 rw [y15 f] at *
 rw [y15 u] at *
 cases b
 ·refine z7 z14 Tryz.func11 rfl rfl 69 Tryz.ntmps11 (by simp) ?_
  repeat' ((first|(apply y4 ok;rfl)|((first|apply z6|apply z48)<;>intro _)|(apply z4 (cd);rfl;rfl)|(apply z4 (k1);rfl;rfl)|(apply z4 (k2);rfl;rfl)|(apply z4 (k3);rfl;rfl))<;>conv=>whnf)
  all_goals first|(exfalso;omega)|(refine rsD [] [] rfl ?_;(repeat' first|exact y84 _|constructor))
  all_goals exact z414 (by simp<;>omega)
 ·have hp:=hp rfl
  by_cases hv:v=0
  ·have hp:=hp hv
   refine z7 z14 Tryz.func11 rfl rfl 69 Tryz.ntmps11 (by simp) ?_
   repeat' ((first|(apply y4 ok;rfl)|((first|apply z6|apply z48)<;>intro _)|(apply z4 (cd);rfl;rfl)|(apply z4 (k1);rfl;rfl)|(apply z4 (k2);rfl;rfl)|(apply z4 (k3);rfl;rfl)|(apply z4 (k4);rfl;rfl))<;>conv=>whnf)
   all_goals first|(exfalso;omega)|(refine rsD [] [] rfl ?_;(repeat' first|exact y84 _|constructor))
   all_goals exact z414 (by simp<;>omega)
  ·refine z7 z14 Tryz.func11 rfl rfl 69 Tryz.ntmps11 (by simp) ?_
   repeat' ((first|(apply y4 ok;rfl)|((first|apply z6|apply z48)<;>intro _)|(apply z4 (cd);rfl;rfl)|(apply z4 (k1);rfl;rfl)|(apply z4 (k2);rfl;rfl)|(apply z4 (k3);rfl;rfl))<;>conv=>whnf)
   all_goals first|(exfalso;omega)|(refine rsD [] [] rfl ?_;(repeat' first|exact y84 _|constructor))
   all_goals exact z414 (by simp<;>omega)
end Go.Proofs.YtahhobgjcfionaaGreat
