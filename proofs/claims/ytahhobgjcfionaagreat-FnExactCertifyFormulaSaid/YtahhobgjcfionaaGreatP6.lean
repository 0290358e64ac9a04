/- A part of the proofs over this program: T55F, T29, T62F, T55G, T62G, T29A, T29C, T181, T182, T183, T113, T184, T185. -/
import Derived.Test.YtahhobgjcfionaaGreatG0
import Derived.Test.YtahhobgjcfionaaGreatG1
import Derived.Test.YtahhobgjcfionaaGreatG2
import Derived.Test.YtahhobgjcfionaaGreatG3
import Derived.Test.YtahhobgjcfionaaGreatP0
import Derived.Test.YtahhobgjcfionaaGreatP1
import Derived.Test.YtahhobgjcfionaaGreatP2
import Derived.Test.YtahhobgjcfionaaGreatP3
import Derived.Test.YtahhobgjcfionaaGreatP4
import Derived.Test.YtahhobgjcfionaaGreatP5
import Derived.Test.YtahhobgjcfionaaGreatRows
import Derived.WalkKit
import Derived.ProofKit
import Derived.Deep.DeepHandedRow
import Derived.Lib.LaidTab
set_option linter.all false
namespace Go.Proofs.YtahhobgjcfionaaGreat
open Go.Gl
section
attribute [local irreducible] z21
theorem szFmS_of (l:List Tree) (n:Int) (hl:l.length≤maxLen) (hel:∀ s∈l,∀ n:Int,0≤n→n≤1048576→CallsA Tryz.prog 34 [z24 Tree.cs' s,.int n] [] (.int (bud n (Tree.sz s))) []) (h0:0≤n) (h1:n≤1048576):CallsA Tryz.prog 107 [lst 3 Tree.cs' l,.int n] [] (.int (bud n (tot Tree.sz l))) []:=by
 unfold maxLen at hl
 refine z6 z12 Tryz.func107 rfl rfl 27 Tryz.ntmps107 (by simp) ?_
 repeat (first|refine y83 ok _ _ _ _ _ rfl ?_|refine y44 (by first|omega|(unfold inI;omega)) ?_)
 refine z2 (fun h=>?_) (fun h=>?_)
 ·repeat (refine y83 ok _ _ _ _ _ rfl ?_)
  have:bud n (tot Tree.sz l)=-1:=by unfold bud tot;rw [if_pos (by omega)]
  rw [this]
  exact ⟨[],by decide,rfl,rfl,y3 rfl,trivial⟩
 ·repeat (refine y83 ok _ _ _ _ _ rfl ?_)
  refine z109 (fun k:Nat=>([(0,lst 3 Tree.cs' l),(1,.int (n - l.length - ((l.take k).map Tree.sz).sum)),(5,.int k)],[])) (fun k=>k≤l.length∧0≤n - l.length - ((l.take k).map Tree.sz).sum) (fun k=>l.length - k) 0 ⟨by omega,by simp;omega⟩
   ⟨[],rfl,by decide,rfl,⟨⟨rfl,rfl⟩,⟨rfl,by simp;rfl⟩,⟨rfl,rfl⟩,trivial⟩,trivial⟩ ?_
  intro k hk
  obtain ⟨hk1,hk2⟩:=hk
  repeat (refine y83 ok _ _ _ _ _ rfl ?_)
  refine z2 (fun h=>?_) (fun h=>?_)
  ·have hkl:k < l.length:=by omega
   repeat (first|refine y83 ok _ _ _ _ _ rfl ?_|refine y44 (by omega) ?_)
   refine ⟨_,z100 _ _ _ hkl,?_⟩
   repeat (fail)
   refine z0 (hel l[k] (y45 _) _ hk2 (by omega)) ?_ ?_ ?_
   ·rfl
   ·rfl
   repeat (refine y83 ok _ _ _ _ _ rfl ?_)
   have e:=z210 Tree.sz l k hkl
   have e2:=z107 Tree.sz l (k+1)
   refine z2 (fun h=>?_) (fun h=>?_)
   ·repeat (refine y83 ok _ _ _ _ _ rfl ?_)
    have:bud n (tot Tree.sz l)=-1:=by unfold bud at h ⊢;unfold tot;split at h<;>rw [if_pos (by omega)]<;>omega
    rw [this]
    exact ⟨[],by decide,rfl,rfl,y3 rfl,trivial⟩
   ·repeat (first|refine y83 ok _ _ _ _ _ rfl ?_|refine y44 (by first|omega|(unfold inI;omega)) ?_)
    have e3:bud (n - l.length - ((l.take k).map Tree.sz).sum) (Tree.sz l[k])=n - l.length - ((l.take (k+1)).map Tree.sz).sum:=by unfold bud at h ⊢;split at h<;>rename_i hh<;>(first|rw [if_pos hh]|rw [if_neg hh])<;>omega
    refine ⟨k+1,[],⟨by omega,?_⟩,by omega,rfl,by decide,rfl,⟨⟨rfl,rfl⟩,⟨rfl,?_⟩,⟨rfl,rfl⟩,trivial⟩,trivial⟩
    ·rw [← e3];omega
    ·rw [← e3];rfl
  ·repeat (refine y83 ok _ _ _ _ _ rfl ?_)
   obtain rfl:k=l.length:=by omega
   rw [y55] at hk2
   have:bud n (tot Tree.sz l)=n - l.length - (l.map Tree.sz).sum:=by unfold bud tot;rw [if_neg (by omega)];omega
   rw [this,y55]
   exact ⟨[],by decide,rfl,rfl,y3 rfl,trivial⟩
theorem szFm_ok (t:Tree):t.mx→∀ n:Int,0≤n→n≤1048576→CallsA Tryz.prog 34 [z24 Tree.cs' t,.int n] [] (.int (bud n t.sz)) []:=by
 induction t using y27 with|h t ih=>?_
 intro hm n h0 h1
 rw [y29] at hm
 have hk:=szFmS_of t.kids n hm.1 (fun s hs=>ih s hs (hm.2 s hs)) h0 h1
 refine z6 z12 Tryz.func34 rfl rfl 12 Tryz.ntmps34 (by simp) ?_
 repeat (refine y83 ok _ _ _ _ _ rfl ?_)
 refine z0 hk ?_ ?_ ?_
 ·show [AC.list 3 t.kids.length (t.kids.map Tree.cs),.int n]=_
  rw [y28]
  rfl
 ·rfl
 repeat (refine y83 ok _ _ _ _ _ rfl ?_)
 have e:bud n (tot Tree.sz t.kids)=bud n t.sz:=by rw [y38];rfl
 rw [e]
 refine z2 (fun h=>?_) (fun h=>?_)
 ·repeat (refine y83 ok _ _ _ _ _ rfl ?_)
  have:bud n t.sz=-1:=by unfold bud at h ⊢;split at h<;>rename_i hh<;>(first|rw [if_pos hh]|rw [if_neg hh])<;>omega
  rw [this]
  exact ⟨[],by decide,rfl,rfl,y3 rfl,trivial⟩
 ·repeat (refine y83 ok _ _ _ _ _ rfl ?_)
  exact ⟨[],by decide,rfl,rfl,y3 rfl,trivial⟩
theorem toFmS_of (l:List Tree) (hl:l.length≤1048576) (hel:∀ s∈l,CallsA Tryz.prog 39 [z24 Tree.cs' s] [] (z24 Tree.cs' s) []):CallsA Tryz.prog 113 [lst 3 Tree.cs' l] [] (lst 3 Tree.cs' l) []:=by
 refine z6 z12 Tryz.func113 rfl rfl 23 Tryz.ntmps113 (by simp) ?_
 repeat (first|refine y83 ok _ _ _ _ _ rfl ?_|refine y44 (by first|omega|(dsimp only;omega)) ?_)
 refine z109 (fun k:Nat=>([(0,lst 3 Tree.cs' l),(3,.sref 0 0 l.length),(4,.int k)],[.cells 3 ((l.take k).map Tree.cs'++List.replicate (l.length - k) [.int 0,.int 0,.nils])])) (fun k=>k≤l.length) (fun k=>l.length - k) 0 (by omega)
  ⟨[0],rfl,by decide,rfl,⟨⟨rfl,rfl⟩,⟨rfl,rfl⟩,⟨rfl,rfl⟩,trivial⟩,⟨z17 (by rfl) (z20 (z1 fun _=>rfl) (z3 rfl)),trivial⟩⟩ ?_
 ·intro k hk
  repeat (refine y83 ok _ _ _ _ _ rfl ?_)
  refine z2 (fun h=>?_) (fun h=>?_)
  ·repeat (first|refine y83 ok _ _ _ _ _ rfl ?_|refine y44 (by omega) ?_)
   refine ⟨_,z100 _ _ _ (by omega),?_⟩
   repeat (fail)
   refine z0 (hel l[k] (y45 _)) ?_ ?_ ?_
   ·rfl
   ·rfl
   repeat ((refine y44 (by omega) ?_))
   refine ⟨[.int 0,.int 0,.nils],z323 _ _ _ _ (by omega),?_⟩
   repeat (first|refine y83 ok _ _ _ _ _ rfl ?_|refine y44 (by first|omega|(unfold inI;omega)) ?_)
   exact ⟨k+1,[0],by omega,by omega,rfl,by decide,rfl,⟨⟨rfl,rfl⟩,⟨rfl,rfl⟩,⟨rfl,rfl⟩,trivial⟩,⟨z17 (z31 (z269 _ _ _ _ (by omega))) (z20 (z1 fun _=>rfl) (z3 rfl)),trivial⟩⟩
  ·refine y83 ok _ _ _ _ _ rfl ?_
   obtain rfl:k=l.length:=by omega
   refine y84 (SealL.reach (π:=[]) (Bn:=[0]) (env:=[(3,lst 3 Tree.cs' l)]) (objs:=[]) ⟨rfl,rfl,by simp,rfl,by simp,⟨?_,trivial⟩,rfl⟩) ?_
   ·exact z327 rfl rfl rfl (by simp) (z121 Tree.unown l) (by simp)
   repeat (refine y83 ok _ _ _ _ _ rfl ?_)
   exact ⟨[],by decide,rfl,rfl,y3 rfl,trivial⟩
theorem toFm_ok (t:Tree):t.sz≤1048576→CallsA Tryz.prog 39 [z24 Tree.cs' t] [] (z24 Tree.cs' t) []:=by
 induction t using y27 with|h t ih=>?_
 intro hm
 rw [y38] at hm
 have hk:=toFmS_of t.kids (by omega) (fun s hs=>ih s hs (by
  have:=z200 Tree.sz hs
  omega))
 refine z6 z12 Tryz.func39 rfl rfl 15 Tryz.ntmps39 (by simp) ?_
 repeat (refine y83 ok _ _ _ _ _ rfl ?_)
 refine z0 hk ?_ ?_ ?_
 ·show [AC.list 3 t.kids.length (t.kids.map Tree.cs)]=_
  rw [y28]
  rfl
 ·rfl
 repeat (refine y83 ok _ _ _ _ _ rfl ?_)
 refine ⟨[],by decide,rfl,rfl,y3 ?_,trivial⟩
 show AC.agg [.int t.kind,.int t.val,.list 3 t.kids.length (t.kids.map Tree.cs')]=AC.agg [.int t.kind,.int t.val,.list 3 t.kids.length (t.kids.map Tree.cs)]
 rw [y28]
theorem eqFmS_of (a b:List Tree) (ha:a.length≤maxLen) (hb:b.length≤maxLen) (hel:∀ s∈a,∀ t∈b,CallsA Tryz.prog 44 [z24 Tree.cs' s,z24 Tree.cs' t] [] (.bool (decide (s=t))) []):CallsA Tryz.prog 119 [lst 3 Tree.cs' a,lst 3 Tree.cs' b] [] (.bool (decide (a=b))) []:=by
 unfold maxLen at ha hb
 refine z6 z12 Tryz.func119 rfl rfl 27 Tryz.ntmps119 (by simp) ?_
 repeat (refine y83 ok _ _ _ _ _ rfl ?_)
 refine z8 (fun h=>?_) (fun h=>?_)
 ·repeat (refine y83 ok _ _ _ _ _ rfl ?_)
  have hne:a≠b:=by rintro rfl;exact h rfl
  rw [y81 hne]
  exact ⟨[],by decide,rfl,rfl,y3 rfl,trivial⟩
 ·have hl:a.length=b.length:=by omega
  repeat (refine y83 ok _ _ _ _ _ rfl ?_)
  refine z109 (fun k:Nat=>([(0,lst 3 Tree.cs' a),(1,lst 3 Tree.cs' b),(5,.int k)],[])) (fun k=>k≤a.length∧a.take k=b.take k) (fun k=>a.length - k) 0 (by simp)
   ⟨[],rfl,by decide,rfl,⟨⟨rfl,rfl⟩,⟨rfl,rfl⟩,⟨rfl,rfl⟩,trivial⟩,trivial⟩ ?_
  intro k hk
  repeat (refine y83 ok _ _ _ _ _ rfl ?_)
  refine z2 (fun h=>?_) (fun h=>?_)
  ·have hka:k < a.length:=by omega
   repeat (first|refine y83 ok _ _ _ _ _ rfl ?_|refine y44 (by omega) ?_)
   refine ⟨_,z100 _ _ _ (by omega),?_⟩
   repeat ((refine y44 (by omega) ?_))
   refine ⟨_,z100 _ _ _ (by omega),?_⟩
   repeat (fail)
   refine z0 (hel a[k] (y45 _) b[k] (y45 _)) ?_ ?_ ?_
   ·rfl
   ·rfl
   repeat (first|refine y83 ok _ _ _ _ _ rfl ?_|refine z7 (by kernel_rfl) ?_)
   refine z8 (fun h=>?_) (fun h=>?_)
   ·repeat (refine y83 ok _ _ _ _ _ rfl ?_)
    have hne:a≠b:=by rintro rfl;exact h rfl
    rw [y81 hne]
    exact ⟨[],by decide,rfl,rfl,y3 rfl,trivial⟩
   ·repeat (first|refine y83 ok _ _ _ _ _ rfl ?_|refine y44 (by first|omega|(unfold inI;omega)) ?_)
    refine ⟨k+1,[],⟨by omega,?_⟩,by omega,rfl,by decide,rfl,⟨⟨rfl,rfl⟩,⟨rfl,rfl⟩,⟨rfl,rfl⟩,trivial⟩,trivial⟩
    have h' : a[k]=b[k]:=h
    rw [y51 hka,y51 (by omega),hk.2,h']
  ·repeat (refine y83 ok _ _ _ _ _ rfl ?_)
   have he:a=b:=by
    have:=hk.2
    rwa [y56 (by omega),y56 (by omega)] at this
   rw [y80 he]
   exact ⟨[],by decide,rfl,rfl,y3 rfl,trivial⟩
theorem eqFm_ok (a:Tree):a.mx→∀ b:Tree,b.mx→CallsA Tryz.prog 44 [z24 Tree.cs' a,z24 Tree.cs' b] [] (.bool (decide (a=b))) []:=by
 induction a using y27 with|h a ih=>?_
 intro ha b hb
 rw [y29] at ha hb
 have hk:=eqFmS_of a.kids b.kids ha.1 hb.1 (fun s hs t ht=>ih s hs (ha.2 s hs) t (hb.2 t ht))
 refine z6 z12 Tryz.func44 rfl rfl 21 Tryz.ntmps44 (by simp) ?_
 repeat (refine y83 ok _ _ _ _ _ rfl ?_)
 refine z8 (fun h=>?_) (fun h1=>?_)
 ·repeat (refine y83 ok _ _ _ _ _ rfl ?_)
  have hne:a≠b:=by rintro rfl;exact h rfl
  rw [y81 hne]
  exact ⟨[],by decide,rfl,rfl,y3 rfl,trivial⟩
 repeat (refine y83 ok _ _ _ _ _ rfl ?_)
 refine z8 (fun h=>?_) (fun h2=>?_)
 ·repeat (refine y83 ok _ _ _ _ _ rfl ?_)
  have hne:a≠b:=by rintro rfl;exact h rfl
  rw [y81 hne]
  exact ⟨[],by decide,rfl,rfl,y3 rfl,trivial⟩
 repeat (refine y83 ok _ _ _ _ _ rfl ?_)
 refine z0 hk ?_ ?_ ?_
 ·show [AC.list 3 a.kids.length (a.kids.map Tree.cs),AC.list 3 b.kids.length (b.kids.map Tree.cs)]=_
  rw [y28,y28]
  rfl
 ·rfl
 repeat (refine y83 ok _ _ _ _ _ rfl ?_)
 refine z8 (fun h=>?_) (fun h3=>?_)
 ·repeat (refine y83 ok _ _ _ _ _ rfl ?_)
  have hne:a≠b:=by rintro rfl;exact h rfl
  rw [y81 hne]
  exact ⟨[],by decide,rfl,rfl,y3 rfl,trivial⟩
 ·repeat (refine y83 ok _ _ _ _ _ rfl ?_)
  have he:a=b:=Tree.ext h1 h2 h3
  rw [y80 he]
  exact ⟨[],by decide,rfl,rfl,y3 rfl,trivial⟩
end
end Go.Proofs.YtahhobgjcfionaaGreat
namespace Go.Proofs.YtahhobgjcfionaaGreat
open Go.Gl
attribute [local irreducible] z21 AWP z42 z46 z43
theorem z1038 {P : Program} {tE tS tI : TypeId} {n1 n2 n3 : Field} (ht : P.underlying tE = some (.struct #[n1, n2, n3])) (e1 : n1.type = tI) (e2 : n2.type = tI) (e3 : n3.type = tS) (hI : P.underlying tI = some (.int .i64)) (hS : P.underlying tS = some (.slice tE))
    (cI:P.cellsOf tI=1) (cS:P.cellsOf tS=1) (cE:P.cellsOf tE=3) (o1:n1.offset=0) (o2:n2.offset=1) (o3:n3.offset=2):OpensD P tE Tree.cs' Tree.mx:=by
  intro k
  induction k using Nat.strongRecOn with
  | _ k ih =>
    match k with
    | 0=>exact z240
    | k+1 =>
      refine (z962 (e1:=fun n:Int=>[.int n]) (ok1:=fun n=>(Lit.int .i64 n).wf=true) (e2:=fun n:Int=>[.int n]) (ok2:=fun n=>(Lit.int .i64 n).wf=true) (e3:=fun l:List Tree=>[lst 3 Tree.cs' l]) (ok3:=fun l=>l.length≤maxLen∧∀ a∈l,a.mx) (enc:=Tree.cs') Tree.mk ht o1 (by rw [o2,e1,cI]) (by rw [o3,e1,e2,cI]) (by rw [e1,e2,e3,cI,cS,cE]) ?_ ?_ ?_ ?_).imp ?_
      · rw [e1];exact z1081 hI (fun _=>rfl) k
      · rw [e2];exact z1081 hI (fun _=>rfl) k
      · rw [e3]
        match k with
        | 0=>exact z240
        | k+1=>exact z601 hS cE (by decide) (ih k (by omega))
      · intro a b c
        show [AC.int a,AC.int b,AC.list 3 c.length (c.map Tree.cs)]=_
        rw [y28];rfl
      · rintro xs ⟨x,rfl,a,b,c,rfl,_,_,h⟩
        exact ⟨_,rfl,(y29 _).2 h⟩
theorem z653:OpensD Tryz.prog 28 encL (fun l=>l.length≤maxLen∧∀ n∈l,(Lit.int .i64 n).wf=true):=z652 1 Tryz.underlying28 (by kernel_rfl) (by decide) (z1081 (enc:=enI) Tryz.underlying3 (fun _=>rfl)) (fun _=>rfl)
theorem od_intSS:OpensD Tryz.prog 24 (fun l=>[lst 1 encL l]) (fun l=>l.length≤maxLen∧∀ r∈l,r.length≤maxLen):=(z652 1 (encL:=fun l=>[lst 1 encL l]) Tryz.underlying24 (by kernel_rfl) (by decide) z653 (fun _=>rfl)).imp fun l h=>⟨l,rfl,h.1,fun r hr=>(h.2 r hr).1⟩
theorem od_state:OpensD Tryz.prog 207 State.cs State.mx :=
 (z602 (enc:=State.cs) State.mk Tryz.underlying207 rfl (by kernel_rfl) (by kernel_rfl) z653 z653 (fun _ _=>rfl)).imp fun s ⟨a,b,e,h1,h2⟩=>⟨s,rfl,by subst e;exact ⟨h1.1,h2.1⟩⟩
theorem z1080:OpensD Tryz.prog 59 (fun l=>[lst 2 State.cs l]) State.mxs:=(z652 2 (encL:=fun l=>[lst 2 State.cs l]) Tryz.underlying59 (by kernel_rfl) (by decide) od_state (fun _=>rfl)).imp fun l h=>⟨l,rfl,h⟩
theorem od_graph:OpensD Tryz.prog 61 Graph.cs Graph.mx :=
 (z602 (enc:=Graph.cs) Graph.mk Tryz.underlying61 rfl (by kernel_rfl) (by kernel_rfl) z1080 od_intSS (fun _ _=>rfl)).imp fun s ⟨a,b,e,h1,h2⟩=>⟨s,rfl,by subst e;exact ⟨h1,h2.1,h2.2⟩⟩
theorem od_expr:OpensD Tryz.prog 151 Tree.cs' Tree.mx :=
 z1038 (tI:=3) (tS:=62) Tryz.underlying151 rfl rfl rfl Tryz.underlying3 Tryz.underlying62 (by kernel_rfl) (by kernel_rfl) (by kernel_rfl) rfl rfl rfl
theorem z692:ArgD Tryz.prog 61 (fun g:Graph=>.agg g.cs) Graph.mx:=z363 Tryz.underlying61 od_graph
theorem z693:ArgD Tryz.prog 62 (lst 3 Tree.cs') Lmx :=
 (z1168 (enc1:=lst 3 Tree.cs') Tryz.underlying62 (z652 3 (encL:=fun l=>[lst 3 Tree.cs' l]) Tryz.underlying62 (by kernel_rfl) (by decide) od_expr (fun _=>rfl)) (fun _=>rfl)).imp fun l h=>⟨l,rfl,h⟩
section
open Go.ChangeShapes Go.WideShapes Go.ChangeAt Go.RowKit
theorem z1171 {a b:Bool} (h:a=true) (k:b=true):(a && b)=true:=by rw [h,k];rfl
theorem own:ownKnob Tryz.prog.godebug=none:=by kernel_rfl
theorem z439:laidOutB Tryz.prog=true:=by kernel_rfl
end
end Go.Proofs.YtahhobgjcfionaaGreat
namespace Go.Proofs.YtahhobgjcfionaaGreat
open Go.Gl
attribute [local irreducible] z21 AWP z42 z46 z43
structure FmOk (t:Tree):Prop where
 mx:t.mx
 sz:t.sz≤1048576
theorem FmOk.of {t:Tree} (h:t.mx) (h1:t.sz≤1048576):FmOk t:=⟨h,h1⟩
theorem szFmT (t:Tree) (h:t.mx) (n:Int) (h0:0≤n) (h1:n≤1048576):CallsA Tryz.prog 34 [z24 Tree.cs' t,.int n] [] (.int (bud n t.sz)) []:=szFm_ok t h n h0 h1
theorem z801 {t:Tree} (h:FmOk t):CallsA Tryz.prog 39 [z24 Tree.cs' t] [] (z24 Tree.cs' t) []:=toFm_ok t h.sz
theorem eqFmT {t:Tree} (h:FmOk t):CallsA Tryz.prog 44 [z24 Tree.cs' t,z24 Tree.cs' t] [] (.bool true) []:=by
 have:=eqFm_ok t h.mx t h.mx
 rwa [y80 rfl] at this
theorem od_fm:OpensD Tryz.prog 65 Tree.cs' Tree.mx :=
 z1038 (tI:=3) (tS:=63) Tryz.underlying65 rfl rfl rfl Tryz.underlying3 Tryz.underlying63 (by kernel_rfl) (by kernel_rfl) (by kernel_rfl) rfl rfl rfl
theorem z450:ArgD Tryz.prog 65 (z24 Tree.cs') Tree.mx:=z363 Tryz.underlying65 od_fm
end Go.Proofs.YtahhobgjcfionaaGreat
namespace Go.Proofs.YtahhobgjcfionaaGreat
open Go.Gl
section
attribute [local irreducible] z21 AWP z42 z46 z43
theorem z1042 (l:List Tree) (hl:l.length≤1048576) (hel:∀ t∈l,CallsA Tryz.prog 39 [z24 Tree.cs' t] [] (.agg [.int t.kind,.int t.val,.sref 0 0 t.kids.length]) [.cells 3 (t.kids.map Tree.co)]):CallsA Tryz.prog 113 [lst 3 Tree.cs' l] [] (.sref 0 0 l.length) [.cells 3 (l.map Tree.co')]:=by
 refine z6 z12 Tryz.func113 rfl rfl 23 Tryz.ntmps113 (by simp) ?_
 repeat' (first|(apply y83 ok;rfl;conv=>whnf)|(apply y44;((dsimp only;omega));conv=>whnf))
 refine z93 (fun k:Nat=>([(0,lst 3 Tree.cs' l),(3,.sref 0 0 l.length),(4,.int k)],[.cells 3 ((l.take k).map Tree.co'++List.replicate (l.length - k) [.int 0,.int 0,.nils])])) (fun k=>k≤l.length) (fun k=>l.length - k) 0 (by omega) ⟨[0],rfl,by decide,rfl,by repeat' (first|exact True.intro|exact ⟨rfl,rfl⟩|apply y44),by repeat' (first|exact True.intro|exact z17 (by rfl) (by (first|exact z19|exact z3 rfl))|apply y44)⟩ ?_
 intro k hk
 by_cases hkl:k < l.length
 ·repeat' (first|((fail_if_success apply z53 4);(fail_if_success apply z38 4);apply y83 ok;rfl;conv=>whnf)|(apply y44;(omega);conv=>whnf)|(with_reducible apply z4;omega;intro _;conv=>whnf)|(apply z56;omega;conv=>whnf)|(apply z2<;>intro _<;>conv=>whnf)|(apply z32 [] [] [1] (hel l[k] (y45 _));rfl;(focus ((repeat' (exact z11))<;>(fail)));rfl;rfl;rfl;rfl;rfl;(focus ((repeat' (first|exact z10|apply z14))<;>((refine z26 ?_;(exact z1 y15)))));(exact .inl rfl);conv=>whnf))
  ·refine y84 (Gl.Reach.absorb 0 1 k 2 rfl (z202 rfl (by rw [z404 hk];exact hkl)) rfl rfl (by simp) rfl (z1 y15) rfl) ?_
   conv=>whnf
   repeat' (first|(apply y83 ok;rfl;conv=>whnf)|(apply y44;((unfold inI;omega));conv=>whnf))
   exact z81 (k+1) [0] (by omega) (by omega) ⟨rfl,by decide,rfl,⟨⟨rfl,rfl⟩,⟨rfl,rfl⟩,⟨rfl,rfl⟩,trivial⟩,⟨z17 (z31 (z403 hkl rfl rfl)) (z20 (z1 fun _=>rfl) (z3 rfl)),trivial⟩⟩
  ·omega
 ·repeat' (first|(apply y83 ok;rfl;conv=>whnf)|(apply y44;(omega);conv=>whnf)|(with_reducible apply z4;omega;intro _;conv=>whnf)|(apply z2<;>intro _<;>conv=>whnf))
  ·omega
  ·obtain rfl:k=l.length:=by omega
   exact z222 rfl (z1 fun _=>rfl) rfl (z324 _ _ _ _ rfl)
theorem toFm_new (t:Tree):t.sz≤1048576→CallsA Tryz.prog 39 [z24 Tree.cs' t] [] (.agg [.int t.kind,.int t.val,.sref 0 0 t.kids.length]) [.cells 3 (t.kids.map Tree.co)]:=by
 induction t using y27 with|h t ih=>?_
 intro hm
 rw [y38] at hm
 have hk:=z1042 t.kids (by omega) (fun s hs=>ih s hs (by
  have:=z200 Tree.sz hs
  omega))
 rw [← y14] at hk
 rw [y13]
 refine z6 z12 Tryz.func39 rfl rfl 15 Tryz.ntmps39 (by simp) ?_
 repeat' (first|(apply y83 ok;rfl;conv=>whnf)|(apply z32 [] [] [3] (hk);rfl;(focus ((repeat' (exact z11))<;>(fail)));rfl;rfl;rfl;rfl;rfl;(focus ((repeat' (first|exact z10|apply z14))<;>((refine z26 ?_;(exact z1 y15)))));(exact .inl rfl);conv=>whnf))
 exact z82 [3] (by decide) rfl rfl rfl ⟨z17 rfl (z1 y15),trivial⟩
theorem z968 (l : List Tree) (k : Int) (hl : l.length ≤ 1048576) (hel : ∀ t ∈ l, ∀ k : Int, 0 ≤ k → k + 2 * (t.sz : Int) ≤ 1000000000000 → CallsA Tryz.prog 125 [.sref 0 0 t.kids.length, .int k] [.cells 3 (t.kids.map Tree.co)] (.int (k + 2 * (t.sz : Int))) [.cells 3 (List.replicate t.kids.length [.any, .any, .any])]) (h0 : 0 ≤ k) (h1 : k + 2 * (l.length + (l.map Tree.sz).sum : Nat) ≤ 1000000000000) :
    CallsA Tryz.prog 125 [.sref 0 0 l.length,.int k] [.cells 3 (l.map Tree.co')] (.int (k+2 * (l.length+(l.map Tree.sz).sum:Nat))) [.cells 3 (List.replicate l.length [.any,.any,.any])]:=by
  refine z6 z12 Tryz.func125 rfl rfl 34 Tryz.ntmps125 (by simp) ?_
  repeat' ((apply y83 ok;rfl;conv=>whnf))
  refine z93 (fun i:Nat=>([(0,.sref 0 0 l.length),(1,.int (k+2 * (i+((l.take i).map Tree.sz).sum:Nat))),(5,.int i)],[.cells 3 (mixL (fun _=>[.any,.any,.any]) (l.map Tree.co') i)])) (fun i=>i≤l.length) (fun i=>l.length - i) 0 (by omega) ⟨[0],rfl,by decide,rfl,⟨⟨rfl,rfl⟩,⟨rfl,z182 (by simp)⟩,⟨rfl,rfl⟩,trivial⟩,⟨z17 (z31 (z296 _ _).symm) (z137 (fun _=>rfl) (fun _=>rfl)),trivial⟩⟩ ?_
  intro i hi
  by_cases hil:i < l.length
  · have e:=z210 Tree.sz l i hil
    have e2:=z107 Tree.sz l (i+1)
    have hc:=hel l[i] (y45 _)
    have hm2:i < (mixL (fun _=>[AC.any,.any,.any]) (l.map Tree.co') i).length:=by rw [z486 (by simpa using hi)];simpa using hil
    have hin:((i:Int)).toNat=i:=y75 i
    generalize hF:mixL (fun _=>[AC.any,.any,.any]) (l.map Tree.co') i=F at hm2
    have hg:F[i]?=some (Tree.co' l[i]):=by rw [← hF];exact z390 hil
    repeat' (first|((fail_if_success apply z53 8);(fail_if_success apply z38 8);apply y83 ok;rfl;conv=>whnf)|(apply z266;exact hin;exact hm2;conv=>whnf)|(apply z16;exact hin;exact hg;conv=>whnf)|(apply y44;(first|omega|(unfold inI;omega));conv=>whnf)|(apply z2<;>intro _<;>conv=>whnf))
    · refine y84 (Gl.Reach.exposeD (e:=[.int (k+2 * (i+((l.take i).map Tree.sz).sum:Nat)),.int (k+2 * (i+((l.take i).map Tree.sz).sum:Nat)+1),.own 3 (l[i].kids.map Tree.co)]) 0 i 2 rfl (z202 rfl (by rw [y79];exact hm2)) rfl rfl) ?_
      conv=>whnf
      rw [y50]
      repeat' (first|((fail_if_success apply z53 3);(fail_if_success apply z38 3);apply y83 ok;rfl;conv=>whnf)|(apply z266;exact hin;(rw [y79,y79];exact hm2);conv=>whnf)|(apply y44;(omega);conv=>whnf)|(apply z32 [1] [] [] (hc (k+2 * (i+((l.take i).map Tree.sz).sum:Nat)+1+1) (by omega) (by omega));rfl;(focus ((repeat' (first|exact z11|apply z28))<;>((refine z44 rfl ?_;(exact z1 y15)))));rfl;rfl;rfl;rfl;rfl;(focus ((repeat' (first|exact z10|apply z14))<;>((refine z26 ?_;(exact z3 rfl)))));(exact .inl rfl);conv=>whnf))
      refine y84 (Gl.Reach.forget 0 i [.any,.any,.any] rfl (z202 rfl (by rw [y79,y79];exact hm2)) rfl rfl) ?_
      conv=>whnf
      repeat' (first|(apply y83 ok;rfl;conv=>whnf)|(apply y44;((unfold inI;omega));conv=>whnf))
      exact z81 (i+1) [0] (by omega) (by omega) ⟨rfl,by decide,rfl,⟨⟨rfl,rfl⟩,⟨rfl,z182 (by omega)⟩,⟨rfl,rfl⟩,trivial⟩,⟨z17 (z31 (by rw [List.set_set,List.set_set,Nat.add_zero,hin,List.set_set,← hF,z389 (by simpa using hil) rfl rfl])) (z137 (fun _=>rfl) (fun _=>rfl)),trivial⟩⟩
    · omega
  · repeat' (first|(apply y83 ok;rfl;conv=>whnf)|(apply y44;(omega);conv=>whnf)|(apply z2<;>intro _<;>conv=>whnf))
    · omega
    · obtain rfl:i=l.length:=by omega
      rw [y55]
      exact z82 [0] (by decide) rfl rfl rfl ⟨z17 (z31 (by rw [z391 (by simp),z260])) (z3 rfl),trivial⟩
theorem z1093 (t:Tree):t.sz≤1048576→∀ k:Int,0≤k→k+2 * (t.sz:Int)≤1000000000000→CallsA Tryz.prog 125 [.sref 0 0 t.kids.length,.int k] [.cells 3 (t.kids.map Tree.co)] (.int (k+2 * (t.sz:Int))) [.cells 3 (List.replicate t.kids.length [.any,.any,.any])]:=by
 induction t using y27 with|h t ih=>?_
 intro hm k h0 h1
 have hz:=y38 t
 have hk:=z968 t.kids k (by omega) (fun s hs=>ih s hs (by
  have:=z200 Tree.sz hs
  omega)) h0 (by rw [← hz];exact h1)
 rw [← y14,← hz] at hk
 exact hk
end
end Go.Proofs.YtahhobgjcfionaaGreat
namespace Go.Proofs.YtahhobgjcfionaaGreat
open Go.Gl
attribute [local irreducible] z21 AWP z42 z46 z43
theorem toFmN {t:Tree} (h:FmOk t):CallsA Tryz.prog 39 [z24 Tree.cs' t] [] (.agg [.int t.kind,.int t.val,.sref 0 0 t.kids.length]) [.cells 3 (t.kids.map Tree.co')]:=by
 have:=toFm_new t h.sz
 rwa [y14] at this
def fmml (t:Tree):Nat:=2 * t.sz
theorem z1134 {t:Tree} (h:FmOk t):fmml t≤4194304:=by
 have:=h.sz
 unfold fmml;omega
theorem z1094 {t:Tree} (h:FmOk t) (k:Int) (h0:0≤k) (h1:k≤1000000000):CallsA Tryz.prog 51 [.agg [.int t.kind,.int t.val,.sref 0 0 t.kids.length],.int k] [.cells 3 (t.kids.map Tree.co')] (.int (k+fmml t)) [.cells 3 (List.replicate t.kids.length [.any,.any,.any])]:=by
 have hs:=h.sz
 have m1:=z1093 t h.sz k h0 (by omega)
 rw [y14] at m1
 rw [show (k+2 * (t.sz:Int))=k+fmml t by unfold fmml;omega] at m1
 refine z6 z12 Tryz.func51 rfl rfl 10 Tryz.ntmps51 (by simp) ?_
 repeat' (first|(apply y83 ok;rfl;conv=>whnf)|(apply z32 [0] [] [] (m1);rfl;(focus ((repeat' (first|exact z11|apply z28))<;>((refine z44 rfl ?_;((exact z1 (fun _=>rfl)))))));rfl;rfl;rfl;rfl;rfl;(focus ((repeat' (first|exact z10|apply z14))<;>((refine z26 ?_;(exact z3 rfl)))));(exact .inl rfl);conv=>whnf))
 exact z82 [0] (by decide) rfl rfl rfl ⟨z17 rfl (z3 rfl),trivial⟩
theorem z329 {objs:Nat→AObj} {π Bn:List Nat} {o1:Nat} {t:Tree} (h1:objs o1=.cells 3 (t.kids.map Tree.co')) (i1:idx π o1=none) (b1:inB Bn o1=true):bor objs π Bn (.agg [.int t.kind,.int t.val,.sref o1 0 t.kids.length])=z24 Tree.cs' t:=by
 rw [y13]
 exact z560 (z36 rfl (z36 rfl (z36 (z313 h1 i1 b1) z65)))
theorem ad_cert:ArgD Tryz.prog 66 (fun a:Cert=>.agg a.cs) Cert.mx :=
 z363 Tryz.underlying66 ((z963 (enc:=Cert.cs) Cert.mk Tryz.underlying66 rfl (by kernel_rfl) z653 (fun _=>rfl)).imp fun s ⟨a,e,h1⟩=>⟨s,rfl,by subst e;exact h1.1⟩)
end Go.Proofs.YtahhobgjcfionaaGreat
namespace Go.Proofs.YtahhobgjcfionaaGreat
open Go.Gl
attribute [local irreducible] z21 AWP z42 z46 z43 RetS z51
theorem z322 (N:Nat):List.replicate N [AC.int 0]=(fnL N fun _=>0).map enI:=by
 apply y73 (by simp [fnL])
 intro i h1 h2
 simp [fnL,enI]
theorem z757 {N:Nat} {f g:Nat→Int} (h:∀ i,i < N→f i=g i):fnL N f=fnL N g:=List.map_congr_left fun i hi=>h i (List.mem_range.1 hi)
theorem z444 {N i:Nat} (f:Nat→Int) (h:i < (fnL N f).length):(fnL N f)[i]=f i:=by simp [fnL]
set_option maxHeartbeats 12800000 in
theorem z591 (rows:List (List Int)) (hr:∀ r∈rows,InN rows.length r) (hN:rows.length≤100000) (hrl:∀ r∈rows,r.length≤1000000000):CallsA Tryz.prog 206 [lst 1 encL rows] [] (.sref 0 0 rows.length) [.cells 1 ((cmpL rows).map enI)]:=by
 refine z5 z12 Tryz.func206 rfl rfl 77 Tryz.ntmps206 (by simp) ?_
 repeat' ((first|(apply y83 ok;rfl)|(apply z7;kernel_rfl)|(apply y44;(dsimp only;omega)))<;>conv=>whnf)
 obtain ⟨qm,hqm⟩:∃ qm:Nat→Nat→Int,qm=fun i j=>if j < i then -1 else 0:=⟨_,rfl⟩
 have q0:qm 0=fun _=>0:=by rw [hqm];rfl
 have qE:fnL rows.length (qm rows.length)=fnL rows.length fun _=>-1:=z757 fun i hi=>by rw [hqm];dsimp only;rw [if_pos hi]
 have qS:∀ i,qm (i+1)=upd (qm i) i (-1):=fun i=>by
  funext j
  by_cases h:j=i
  ·subst h;rw [z27,hqm];dsimp only;rw [if_pos (by omega)]
  ·rw [z45 _ _ h,hqm];dsimp only;split<;>split<;>first|rfl|omega
 clear hqm
 refine z88 (fun i:Nat=>([(1,.ptr 0 none 0),(3,.int rows.length),(4,.ptr 4 none 0),(5,.ptr 5 none 0),(6,.ptr 6 none 0),(27,.int rows.length),(28,.int i)],[.cells 1 [[lst 1 encL rows]],.cells 1 ((fnL rows.length fun _=>0).map enI),.cells 1 ((fnL rows.length fun _=>0).map enI),.cells 1 ((fnL rows.length (qm i)).map enI),.cells 1 [[.sref 1 0 rows.length]],.cells 1 [[.sref 2 0 rows.length]],.cells 1 [[.sref 3 0 rows.length]]])) (fun i=>i≤rows.length) (fun i=>rows.length - i) 0 (y54 _) (by refine swR [0,1,2,3,4,5,6] [] rfl rfl ?_;(repeat' first|exact y85 _|apply y86|refine z9 rfl (z3 rfl) ?_|constructor)<;>(first|(refine z48 ?_;exact z322 _)|(refine z48 ?_;rw [q0];exact z322 _))) ?_
 intro i hi
 by_cases hi2:i < rows.length
 ·have g1:=z162 (qm i) hi2
  have l1:=z103 rows.length (qm i)
  have e1:=z142 (N:=rows.length) (u:=i) (qm i) (-1)
  rw [← qS] at e1
  repeat' ((first|(apply y83 ok;rfl)|(refine z16 (i:=i) rfl g1 ?_)|(apply y44;first|omega|(unfold inI;omega))|((apply z2)<;>intro _))<;>conv=>whnf)
  all_goals try (exfalso;omega)
  all_goals refine z40 (i+1) hi2 (by omega) (by refine swR [0,1,2,3,4,5,6] [] rfl rfl ?_;(repeat' first|exact y85 _|exact z13 _|apply y86|refine z78 rfl (z1 (fun _=>rfl)) ?_|refine z9 rfl (z1 (fun _=>rfl)) ?_|constructor)<;>((refine z48 ?_;exact e1)))
 obtain rfl:i=rows.length:=by omega
 rw [qE]
 clear qE qS q0
 repeat' ((first|(apply y83 ok;rfl)|(apply y44;omega)|(((apply z4;omega));intro _)|((apply z2)<;>intro _))<;>conv=>whnf)
 all_goals try (exfalso;omega)
 obtain ⟨S,hS⟩:∃ S:Nat→TS,S=fun k=>(List.range k).foldl (tTop rows) z372:=⟨_,rfl⟩
 have hTT:∀ k,k≤rows.length→TT rows (S k) k:=fun k hk=>by rw [hS];exact z633 hr k hk
 have hS0:S 0=z372:=by rw [hS];rfl
 have hSs:∀ k,S (k+1)=tTop rows (S k) k:=fun k=>by
  rw [hS];show (List.range (k+1)).foldl _ _=_
  rw [y60,y61];rfl
 have hSE:S rows.length=tAll rows:=by rw [hS];rfl
 clear hS
 refine z88 (fun k:Nat=>([(1,.ptr 6 none 0),(4,.ptr 1 none 0),(6,.ptr 8 none 0),(11,.ptr 7 none 0),(36,.int rows.length),(37,.int k)],z1082 rows (S k))) (fun k=>k≤rows.length) (fun k=>rows.length - k) 0 (y54 _) (by refine swR [8,4,1,5,2,7,0,10,6,3,9] [] rfl rfl ?_;(repeat' first|exact y85 _|apply y86|refine z9 rfl (z1 (fun _=>rfl)) ?_|constructor)<;>(first|(rw [hS0];exact y85 _)|(rw [hS0];exact z13 _)|(rw [hS0];exact z387))) ?_
 intro k hk
 have hT:=hTT k hk
 have hTn:∀ h:k < rows.length,TT rows (S (k+1)) (k+1):=fun h=>hTT (k+1) h
 by_cases hk2:k < rows.length
 ·have hs2:=hSs k
  generalize hS1:S k=s1 at *
  generalize hS2:S (k+1)=s2 at *
  have g1:=z162 s1.num hk2
  have l1:=z103 rows.length s1.num
  unfold tTop at hs2
  by_cases h0:s1.num k=0
  ·rw [if_pos h0] at hs2
   have cV:=z932 rows hr hN hrl rows.length s1 [] k (by have:=hT.inv.ct;omega) hT.inv h0 hk2 (by simp) hT.prt
   rw [← hs2] at cV
   repeat' ((first|(apply y83 ok;rfl)|(refine z16 (i:=k) rfl g1 ?_)|(apply y44;first|omega|(unfold inI;omega))|((apply z2)<;>intro _)|(apply z169 [0,1,2,3,4,5,6,7,8,9,10] [] cV;rfl;(focus ((repeat' first|exact z11|apply z28)<;>first|rfl|(refine z44 rfl ?_;((exact z1 fun _=>rfl)))));rfl;(focus ((repeat' first|exact z10|apply z14)<;>first|exact z83 rfl rfl|(refine z26 ?_;((exact z1 fun _=>rfl)))))))<;>conv=>whnf)
   all_goals try (exfalso;omega)
   all_goals refine z40 (k+1) hk2 (by omega) ?_
   all_goals dsimp only
   all_goals rw [hS2]
   all_goals exact (by refine swR [0,1,2,3,4,5,6,7,8,9,10] [] rfl rfl ?_;(repeat' first|exact y85 _|exact z13 _|apply y86|refine z9 rfl (z1 (fun _=>rfl)) ?_|constructor))
  ·rw [if_neg h0] at hs2
   repeat' ((first|(apply y83 ok;rfl)|(refine z16 (i:=k) rfl g1 ?_)|(apply y44;first|omega|(unfold inI;omega))|((apply z2)<;>intro _))<;>conv=>whnf)
   all_goals try (exfalso;omega)
   all_goals refine z40 (k+1) hk2 (by omega) ?_
   all_goals dsimp only
   all_goals rw [hS2,hs2]
   all_goals exact (by refine swR [0,1,2,3,4,5,6,7,8,9,10] [] rfl rfl ?_;(repeat' first|exact y85 _|exact z13 _|apply y86|refine z9 rfl (z1 (fun _=>rfl)) ?_|constructor))
 obtain rfl:k=rows.length:=by omega
 rw [hSE]
 clear hTT hS0 hSs hSE hTn hT
 have hcmp:cmpL rows=(List.range rows.length).map fun i=>nmI (fnL rows.length (tAll rows).part) i:=rfl
 obtain ⟨P,hP⟩:∃ P,P=fnL rows.length (tAll rows).part:=⟨_,rfl⟩
 rw [← hP] at hcmp
 have hPl:P.length=rows.length:=by rw [hP,z103]
 generalize tAll rows=s0 at *
 obtain ⟨pm,hpm⟩:∃ pm:Nat→Nat→Int,pm=fun i j=>if j < i then nmI P j else s0.part j:=⟨_,rfl⟩
 have q0:pm 0=s0.part:=by rw [hpm];funext j;simp
 have qE:fnL rows.length (pm rows.length)=cmpL rows:=by
  rw [hcmp]
  exact z757 fun i hi=>by rw [hpm];dsimp only;rw [if_pos hi]
 have qA:∀ i (h:i < rows.length),pm i i=P[i]'(by omega):=fun i h=>by
  rw [hpm];dsimp only;rw [if_neg (by omega)]
  simp only [hP,z444]
 have qS:∀ i,pm (i+1)=upd (pm i) i (nmI P i):=fun i=>by
  funext j
  by_cases h:j=i
  ·subst h;rw [z27,hpm];dsimp only;rw [if_pos (by omega)]
  ·rw [z45 _ _ h,hpm];dsimp only;split<;>split<;>first|rfl|omega
 clear hpm hcmp
 repeat' ((first|(apply y83 ok;rfl)|(apply y44;omega)|(((apply z4;omega));intro _)|((apply z2)<;>intro _))<;>conv=>whnf)
 all_goals try (exfalso;omega)
 refine z88 (fun i:Nat=>([(6,.ptr 1 none 0),(13,.mref 0),(50,.sref 2 0 rows.length),(51,.int rows.length),(52,.int i)],[.mp 0 (z247 0 (metL P i)),.cells 1 [[.sref 2 0 rows.length]],.cells 1 ((fnL rows.length (pm i)).map enI)])) (fun i=>i≤rows.length) (fun i=>rows.length - i) 0 (y54 _) (by refine swR [11,8,9] [] rfl rfl ?_;(repeat' first|exact y85 _|apply y86|refine z9 rfl (z1 (fun _=>rfl)) ?_|constructor)<;>(first|(rw [q0];exact z13 _)|rfl)) ?_
 intro i hi
 by_cases hi2:i < rows.length
 ·have g1:=z162 (pm i) hi2
  have l1:=z103 rows.length (pm i)
  have e1:=z142 (N:=rows.length) (u:=i) (pm i) (nmI P i)
  rw [← qS] at e1
  rw [qA i hi2] at g1
  have hiP:i < P.length:=by omega
  have m1:=z540 P[i] 0 (metL P i)
  have m2:=z540 P[i] 0 (metL P (i+1))
  rw [if_pos (z656 hiP),Nat.zero_add,← nmI_at hiP] at m2
  have m3:=z392 hiP
  have m4:=z555 0 (metL P i)
  by_cases hp:P[i]∈metL P i
  ·rw [if_pos hp] at m1
   have m5:metL P (i+1)=metL P i:=by rw [m3];unfold z163;rw [if_pos hp]
   rw [m5] at m2
   generalize hes:z247 0 (metL P i)=es at *
   generalize hes2:z247 0 (metL P (i+1))=es2 at *
   have m6:es2=es:=by rw [← hes2,m5,hes]
   generalize nmI P i=nm at *
   generalize P[i]=p at *
   repeat' ((first|(apply y83 ok;rfl)|(refine z16 (i:=i) rfl g1 ?_)|(rw [m2])|(apply y44;first|omega|(unfold inI;omega))|((apply z2)<;>intro _))<;>conv=>whnf)
   all_goals try (exfalso;omega)
   all_goals refine z40 (i+1) hi2 (by omega) ?_
   all_goals dsimp only
   all_goals rw [hes2,m6]
   all_goals exact (by refine swR [0,1,2] [] rfl rfl ?_;(repeat' first|exact y85 _|apply y86|refine z78 rfl (z1 (fun _=>rfl)) ?_|constructor)<;>(first|(refine z48 ?_;exact e1)|rfl))
  ·rw [if_neg hp] at m1
   have m5:metL P (i+1)=metL P i++[P[i]]:=by rw [m3];unfold z163;rw [if_neg hp]
   have m6:mput (z247 0 (metL P i)) [P[i]] (z247 0 (metL P i)).length=z247 0 (metL P (i+1)):=by
    rw [z737 _ _ _ hp,m5,z762,z555,Nat.zero_add]
   generalize hes:z247 0 (metL P i)=es at *
   generalize hes2:z247 0 (metL P (i+1))=es2 at *
   generalize nmI P i=nm at *
   generalize P[i]=p at *
   repeat' ((first|(apply y83 ok;rfl)|(refine z16 (i:=i) rfl g1 ?_)|(rw [m6])|(rw [m2])|(rw [m1])|(apply y44;first|omega|(unfold inI;omega))|((apply z2)<;>intro _))<;>conv=>whnf)
   all_goals try (exfalso;omega)
   all_goals refine z40 (i+1) hi2 (by omega) ?_
   all_goals dsimp only
   all_goals rw [hes2]
   all_goals exact (by refine swR [0,1,2] [] rfl rfl ?_;(repeat' first|exact y85 _|apply y86|refine z78 rfl (z1 (fun _=>rfl)) ?_|constructor)<;>(first|(refine z48 ?_;exact e1)|rfl))
 obtain rfl:i=rows.length:=by omega
 rw [qE]
 repeat' ((first|(apply y83 ok;rfl)|(apply y44;omega)|(((apply z4;omega));intro _)|((first|apply z2|apply z37)<;>intro _))<;>conv=>whnf)
 all_goals try (exfalso;omega)
 all_goals (refine rsD [2] [] rfl ?_;(repeat' first|exact y85 _|exact z13 _|refine z9 rfl (z1 (fun _=>rfl)) ?_|constructor))
def fnB (N:Nat) (f:Nat→Bool):List Bool:=(List.range N).map f
theorem z1132 (N:Nat) (f:Nat→Bool):(fnB N f).length=N:=by simp [fnB]
theorem z1133 {N u:Nat} (f:Nat→Bool) (h:u < N):((fnB N f).map enB)[u]?=some (enB (f u)):=by
 unfold fnB
 rw [y52,y52,List.getElem?_range h];rfl
theorem z913 {N u:Nat} (f:Nat→Bool) (x:Bool):((fnB N f).map enB).set u (enB x)=(fnB N (upd f u x)).map enB:=by
 rw [← List.map_set]
 congr 1
 apply y73 (by simp [fnB])
 intro i h1 h2
 rw [List.getElem_set]
 simp only [fnB,List.getElem_map,List.getElem_range]
 split
 ·rename_i e;subst e;rw [z27]
 ·rename_i e;rw [z45 _ _ (fun h=>e h.symm)]
theorem z912 (N:Nat):List.replicate N [AC.bool false]=(fnB N fun _=>false).map enB:=by
 apply y73 (by simp [fnB])
 intro i h1 h2
 simp [fnB,enB]
set_option maxHeartbeats 12800000 in
theorem z997 (rows:List (List Int)) (hr:∀ r∈rows,InN rows.length r) (hN:rows.length≤100000) (hrl:∀ r∈rows,r.length≤1000000000):CallsA Tryz.prog 140 [lst 1 encL rows] [] (.sref 0 0 rows.length) [.cells 1 ((cycB rows).map enB)]:=by
 have cC:=z591 rows hr hN hrl
 have hPl:=z408 rows
 have hPi:=z1152 (rows:=rows)
 have hcy:=fun x hx=>cyc_cnt hr (x:=x) hx
 have hcl:=fun x (hx:x < rows.length)=>z860 hx
 have ccB:cycB rows=fnB rows.length (cycD rows):=rfl
 rw [ccB]
 generalize cmpL rows=P at *
 refine z5 z12 Tryz.func140 rfl rfl 56 Tryz.ntmps140 (by simp) ?_
 repeat' ((first|(apply y83 ok;rfl)|(apply y44;(dsimp only;omega))|(apply z64 [] [0] cC;rfl;rfl;rfl;(focus ((repeat' first|exact z10|apply z14)<;>(refine z26 ?_;((exact z1 fun _=>rfl)))))))<;>conv=>whnf)
 obtain ⟨cm,hcm⟩:∃ cm:Nat→Nat→Int,cm=fun i v=>((cntL P i v:Nat):Int):=⟨_,rfl⟩
 have c0:cm 0=fun _=>0:=by rw [hcm];funext v;simp [cntL]
 have cS:∀ i (h:i < P.length),cm (i+1)=upd (cm i) (P[i]).toNat (cm i (P[i]).toNat+1):=fun i h=>by
  have hp:=hPi _ (y45 h)
  funext v
  rw [hcm]
  dsimp only
  rw [z768 h]
  by_cases e:v=(P[i]).toNat
  ·rw [e,z27,if_pos (by omega)];omega
  ·rw [z45 _ _ e,if_neg (by omega)];omega
 have cE:∀ v,cm rows.length v=((cntL P rows.length v:Nat):Int):=fun v=>by rw [hcm]
 have cB:∀ i v,0≤cm i v∧cm i v≤i:=fun i v=>by rw [hcm];have:=cntL_le P i v;dsimp only;omega
 clear hcm
 refine z88 (fun i:Nat=>([(0,lst 1 encL rows),(3,.sref 0 0 rows.length),(4,.sref 1 0 rows.length),(14,.sref 0 0 rows.length),(15,.int rows.length),(16,.int i)],[.cells 1 (P.map enI),.cells 1 ((fnL rows.length (cm i)).map enI)])) (fun i=>i≤rows.length) (fun i=>rows.length - i) 0 (y54 _) (by refine swR [0,1] [] rfl rfl ?_;(repeat' first|exact y85 _|exact z13 _|((refine z9 rfl ?_ ?_);(focus ((repeat' (first|exact z3 rfl|exact z1 (fun _=>rfl)));done)))|constructor)<;>((refine z48 ?_;rw [c0];exact z322 _))) ?_
 intro i hi
 by_cases hi2:i < rows.length
 ·have hiP:i < P.length:=by omega
  have hp:=hPi _ (y45 hiP)
  have gp:(P.map enI)[i]?=some (enI P[i]):=by rw [y52,y46 hiP];rfl
  have cS2:=cS i hiP
  generalize P[i]=p at *
  obtain ⟨v,rfl⟩:∃ v:Nat,p=v:=⟨p.toNat,by omega⟩
  rw [y75] at cS2
  have hv:v < rows.length:=by omega
  have gv:=z162 (cm i) hv
  have l1:=z103 rows.length (cm i)
  have e1:=z142 (N:=rows.length) (u:=v) (cm i) (cm i v+1)
  rw [← cS2] at e1
  have b1:=cB i v
  repeat' ((first|(apply y83 ok;rfl)|(refine z16 (i:=i) rfl gp ?_)|(refine z16 (i:=v) rfl gv ?_)|(apply y44;first|omega|(unfold inI;omega))|((apply z2)<;>intro _))<;>conv=>whnf)
  all_goals try (exfalso;omega)
  all_goals refine z40 (i+1) hi2 (by omega) (by refine swR [0,1] [] rfl rfl ?_;(repeat' first|exact y85 _|exact z13 _|refine z78 rfl (z1 (fun _=>rfl)) ?_|refine z9 rfl (z1 (fun _=>rfl)) ?_|constructor)<;>((refine z48 ?_;exact e1)))
 obtain rfl:i=rows.length:=by omega
 repeat' ((first|(apply y83 ok;rfl)|(apply y44;first|omega|(dsimp only;omega))|(((apply z4;omega));intro _)|((apply z2)<;>intro _))<;>conv=>whnf)
 all_goals try (exfalso;omega)
 obtain ⟨bm,hbm⟩:∃ bm:Nat→Nat→Bool,bm=fun i j=>if j < i then cycD rows j else false:=⟨_,rfl⟩
 have b0:bm 0=fun _=>false:=by rw [hbm];rfl
 have bE:fnB rows.length (bm rows.length)=fnB rows.length (cycD rows):=List.map_congr_left fun i hi=>by
  have:=List.mem_range.1 hi
  rw [hbm];dsimp only;rw [if_pos this]
 have bS:∀ i,bm (i+1)=upd (bm i) i (cycD rows i):=fun i=>by
  funext j
  by_cases h:j=i
  ·subst h;rw [z27,hbm];dsimp only;rw [if_pos (by omega)]
  ·rw [z45 _ _ h,hbm];dsimp only;split<;>split<;>first|rfl|omega
 clear hbm
 refine z88 (fun i:Nat=>([(0,lst 1 encL rows),(3,.sref 0 0 rows.length),(4,.sref 1 0 rows.length),(7,.sref 2 0 rows.length),(31,.int rows.length),(32,.int i)],[.cells 1 (P.map enI),.cells 1 ((fnL rows.length (cm rows.length)).map enI),.cells 1 ((fnB rows.length (bm i)).map enB)])) (fun i=>i≤rows.length) (fun i=>rows.length - i) 0 (y54 _) (by refine swR [0,1,2] [] rfl rfl ?_;(repeat' first|exact y85 _|exact z13 _|((refine z9 rfl ?_ ?_);(focus ((repeat' (first|exact z3 rfl|exact z1 (fun _=>rfl)));done)))|constructor)<;>((refine z48 ?_;rw [b0];exact z912 _))) ?_
 intro i hi
 by_cases hi2:i < rows.length
 ·have hiP:i < P.length:=by omega
  have hp:=hPi _ (y45 hiP)
  have gp:(P.map enI)[i]?=some (enI P[i]):=by rw [y52,y46 hiP];rfl
  have hc:=hcy i hi2
  have e1:=z913 (N:=rows.length) (u:=i) (bm i) (cycD rows i)
  rw [← bS] at e1
  rw [z18 hiP] at hc
  generalize P[i]=p at *
  obtain ⟨v,rfl⟩:∃ v:Nat,p=v:=⟨p.toNat,by omega⟩
  rw [y75] at hc
  have hv:v < rows.length:=by omega
  have gv:=z162 (cm rows.length) hv
  have l1:=z103 rows.length (cm rows.length)
  have l2:=z1132 rows.length (bm i)
  have g2:=z1133 (bm i) hi2
  have gr:=z528 hi2
  have hrow:(rows.getD i []).length≤1000000000:=by rw [z18 hi2];exact hrl _ (y45 _)
  have cct:=z172 (rows.getD i []) (by unfold maxLen;omega) i
  rw [cE] at gv
  generalize cycD rows i=cy at *
  generalize rows.getD i []=row at *
  generalize cntL P rows.length v=cn at *
  by_cases h1:1 < cn
  ·rw [y80 h1,Bool.true_or] at hc
   subst hc
   repeat' ((first|(apply y83 ok;rfl)|(refine z16 (i:=i) rfl gp ?_)|(refine z16 (i:=v) rfl gv ?_)|(refine z16 (i:=i) rfl g2 ?_)|(refine z16 (i:=i) rfl gr ?_)|(apply y44;first|omega|(unfold inI;omega))|((apply z2)<;>intro _)|(apply z0 (cct);rfl;rfl))<;>conv=>whnf)
   all_goals try (exfalso;omega)
   all_goals refine z40 (i+1) hi2 (by omega) (by refine swR [0,1,2] [] rfl rfl ?_;(repeat' first|exact y85 _|exact z13 _|refine z78 rfl (z1 (fun _=>rfl)) ?_|refine z9 rfl (z1 (fun _=>rfl)) ?_|constructor)<;>((refine z48 ?_;exact e1)))
  ·rw [y81 h1,Bool.false_or] at hc
   rw [← hc] at cct
   repeat' ((first|(apply y83 ok;rfl)|(refine z16 (i:=i) rfl gp ?_)|(refine z16 (i:=v) rfl gv ?_)|(refine z16 (i:=i) rfl g2 ?_)|(refine z16 (i:=i) rfl gr ?_)|(apply y44;first|omega|(unfold inI;omega))|((apply z2)<;>intro _)|(apply z0 (cct);rfl;rfl))<;>conv=>whnf)
   all_goals try (exfalso;omega)
   all_goals refine z40 (i+1) hi2 (by omega) (by refine swR [0,1,2] [] rfl rfl ?_;(repeat' first|exact y85 _|exact z13 _|refine z78 rfl (z1 (fun _=>rfl)) ?_|refine z9 rfl (z1 (fun _=>rfl)) ?_|constructor)<;>((refine z48 ?_;exact e1)))
 obtain rfl:i=rows.length:=by omega
 rw [bE]
 repeat' ((first|(apply y83 ok;rfl)|(apply y44;omega)|((first|(with_reducible apply z4;omega)|(apply z4;omega));intro _)|((apply z2)<;>intro _))<;>conv=>whnf)
 all_goals try (exfalso;omega)
 all_goals (refine rsD [2] [] rfl ?_;(repeat' first|exact y85 _|exact z13 _|refine z9 rfl (z1 (fun _=>rfl)) ?_|constructor))
def inM (Q:List Int) (i:Nat):Bool:=decide ((i:Int)∈Q)
theorem inM_upd (Q:List Int) (w:Nat):inM (Q++[(w:Int)])=upd (inM Q) w true:=by
 funext j
 by_cases h:j=w
 ·subst h;rw [z27];unfold inM;simp
 ·rw [z45 _ _ h];unfold inM;congr 1
  have:¬ (j:Int)=w:=by omega
  simp [this]
theorem inM_nil:inM []=fun _=>false:=by funext j;simp [inM]
@[reducible] def findF:AC:=.fn (.func 169) [] [.ptr 0 none 0,.ptr 2 none 0]
@[reducible] def z1083 (N:Nat) (Q:List Int):List AObj:=[.cells 1 [[.sref 1 0 N]],.cells 1 ((fnB N (inM Q)).map enB),.cells 1 [[.own 1 (Q.map enI)]]]
set_option maxHeartbeats 3200000 in
theorem z758 (N : Nat) (hN : N ≤ 100000) (Q : List Int) (hQ : Q.length ≤ 100000) (v : Int) (hv : 0 ≤ v ∧ v < N) :
    CallsA Tryz.prog 169 [.int v,.ptr 0 none 0,.ptr 2 none 0] (z1083 N Q) (.tup []) (z1083 N (z163 Q v)):=by
  obtain ⟨w,rfl⟩:∃ w:Nat,v=w:=⟨v.toNat,by omega⟩
  have hw:w < N:=by omega
  have g1:=z1133 (inM Q) hw
  have l1:=z1132 N (inM Q)
  unfold z163
  by_cases h:(w:Int)∈Q
  · rw [if_pos h]
    have e:inM Q w=true:=by unfold inM;simp [h]
    rw [e] at g1
    refine z5 z12 Tryz.func169 rfl rfl 16 Tryz.ntmps169 (by simp) ?_
    repeat' ((first|(apply y83 ok;rfl)|(refine z16 (i:=w) rfl g1 ?_)|(apply y44;omega))<;>conv=>whnf)
    all_goals (refine rsD [0,1,2] [] rfl ?_;(repeat' first|exact y85 _|exact z13 _|apply y86|refine z9 rfl (z1 (fun _=>rfl)) ?_|constructor))
  · rw [if_neg h]
    have e:inM Q w=false:=by unfold inM;simp [h]
    rw [e] at g1
    have e1:=z913 (N:=N) (u:=w) (inM Q) true
    rw [← inM_upd] at e1
    have e2:(List.map enI Q).take (List.map enI Q).length++[enI (w:Int)]=(Q++[(w:Int)]).map enI:=by
      rw [y55];simp
    refine z5 z12 Tryz.func169 rfl rfl 16 Tryz.ntmps169 (by simp) ?_
    repeat' ((first|((fail_if_success apply z53 2);(fail_if_success apply z38 2);apply y83 ok;rfl)|(refine z16 (i:=w) rfl g1 ?_)|(apply y44;omega))<;>conv=>whnf)
    all_goals
      refine y84 (Gl.Reach.expose 2 0 0 rfl rfl rfl (z153 (fun _=>rfl) _) rfl) ?_
      conv=>whnf
      repeat' ((first|(apply y83 ok;rfl)|(apply y44;first|((try dsimp only);simp only [y50,y49,y48,y47,y57,y58];omega)|exact ⟨rfl,z23 rfl z29⟩))<;>conv=>whnf)
      refine Gl.RetS.absorb 2 5 0 0 rfl rfl rfl rfl (by simp) rfl (z20 (fun e he=>(z1 (fun _=>rfl)) e (List.mem_of_mem_take he)) (z204 rfl z19)) ?_
      conv=>whnf
      (refine rsD [0,1,2] [] rfl ?_;(repeat' first|exact y85 _|apply y86|refine z78 rfl (z1 (fun _=>rfl)) ?_|constructor))
      all_goals first|(refine z48 ?_;exact e1)|exact y10 (congrArg (AC.own 1) e2)
set_option maxHeartbeats 6400000 in
theorem z730 (rows : List (List Int)) (ini : List Int) (hr : ∀ r ∈ rows, InN rows.length r) (hi : InN rows.length ini) (hN : rows.length ≤ 100000) (hrl : ∀ r ∈ rows, r.length ≤ 1000000000) (hil : ini.length ≤ 1000000000) :
    CallsA Tryz.prog 100 [lst 1 encL rows,ints ini] [] (.sref 0 0 (bfsL rows ini).length) [.cells 1 ((bfsL rows ini).map enI)]:=by
  have hvl:∀ l:List Int,InN rows.length l→(z85 [] l).length≤100000:=fun l hl=>by
    have:=z147 rows.length (z85 [] l) (z145 (by simp)) (z230 (fun x hx=>by cases hx) hl)
    omega
  refine z5 z12 Tryz.func100 rfl rfl 50 Tryz.ntmps100 (by simp) ?_
  repeat' ((first|(apply y83 ok;rfl)|(apply y44;(dsimp only;omega)))<;>conv=>whnf)
  refine z88 (fun i:Nat=>([(0,lst 1 encL rows),(6,.ptr 2 none 0),(7,findF),(17,ints ini),(18,.int ini.length),(19,.int i)],z1083 rows.length (z85 [] (ini.take i)))) (fun i=>i≤ini.length) (fun i=>ini.length - i) 0 (y54 _) (by refine swR [1,0,2] [] rfl rfl ?_;(repeat' first|exact y85 _|apply y86|refine z9 rfl (z3 rfl) ?_|constructor)<;>(first|exact z387|(refine z48 ?_;show _=(fnB rows.length (inM [])).map enB;rw [inM_nil];exact z912 _))) ?_
  intro i hil1
  by_cases hil2:i < ini.length
  · have gk:(ini.map enI)[i]?=some (enI ini[i]):=by rw [y52,y46 hil2];rfl
    have hv:=hi _ (y45 hil2)
    have hQl:=hvl (ini.take i) fun x hx=>hi x (List.mem_of_mem_take hx)
    have e1:=z251 (out:=[]) hil2
    generalize ini[i]=v at *
    have cf:=z758 rows.length hN (z85 [] (ini.take i)) hQl v hv
    rw [← e1] at cf
    repeat' ((first|(apply y83 ok;rfl)|(refine z16 (i:=i) rfl gk ?_)|(apply y44;first|omega|(unfold inI;omega))|((apply z2)<;>intro _)|(apply z169 [0,1,2] [] cf;rfl;(focus ((repeat' first|exact z11|apply z28)<;>first|rfl|(refine z44 rfl ?_;((exact z1 fun _=>rfl)))));rfl;(focus ((repeat' first|exact z10|apply z14)<;>first|exact z83 rfl rfl|(refine z26 ?_;((exact z1 fun _=>rfl)))))))<;>conv=>whnf)
    all_goals try (exfalso;omega)
    all_goals refine z40 (i+1) hil2 (by omega) (by refine swR [0,1,2] [] rfl rfl ?_;(repeat' first|exact y85 _|exact z13 _|apply y86|refine z9 rfl (z1 (fun _=>rfl)) ?_|constructor))
  obtain rfl:i=ini.length:=by omega
  rw [y55]
  repeat' ((first|(apply y83 ok;rfl)|(apply y44;omega)|(((with_reducible apply z4;omega));intro _)|((apply z2)<;>intro _))<;>conv=>whnf)
  all_goals try (exfalso;omega)
  refine z88 (fun i:Nat=>([(0,lst 1 encL rows),(6,.ptr 2 none 0),(7,findF),(10,.int i)],z1083 rows.length (bfs rows ini i))) (fun i=>i≤rows.length) (fun i=>rows.length - i) 0 (y54 _) (by refine swR [0,1,2] [] rfl rfl ?_;(repeat' first|exact y85 _|exact z13 _|apply y86|refine z9 rfl (z1 (fun _=>rfl)) ?_|constructor)) ?_
  intro i hi1
  have hQl:=z362 hr hi i
  have hQi:=z463 hr hi i
  refine y84 (Gl.Reach.expose 2 0 0 rfl rfl rfl (z153 (fun _=>rfl) _) rfl) ?_
  by_cases hi2:i < (bfs rows ini i).length
  · have hx:=hQi _ (y45 hi2)
    have gx:((bfs rows ini i).map enI)[i]?=some (enI (bfs rows ini i)[i]):=by rw [y52,y46 hi2];rfl
    have hnx:bfs rows ini (i+1)=z85 (bfs rows ini i) (rows.getD ((bfs rows ini i)[i]).toNat []):=by rw [bfs,dif_pos hi2]
    have hnd:=z563 (rows:=rows) (ini:=ini) i
    generalize hQ' : bfs rows ini (i+1)=Q' at *
    generalize (bfs rows ini i)[i]=x at *
    generalize hQ:bfs rows ini i=Q at *
    obtain ⟨u,rfl⟩:∃ u:Nat,x=u:=⟨x.toNat,by omega⟩
    rw [y75] at hnx
    have hu:u < rows.length:=by omega
    have gr:=z528 hu
    have hrow:=z211 hr (u:Int)
    rw [y75] at hrow
    have hrowl:(rows.getD u []).length≤1000000000:=by rw [z18 hu];exact hrl _ (y45 _)
    generalize rows.getD u []=row at *
    repeat' ((first|(apply y83 ok;rfl)|(refine z16 (i:=i) rfl gx ?_)|(refine z16 (i:=u) rfl gr ?_)|(apply y44;omega)|((apply z2)<;>intro _))<;>conv=>whnf)
    all_goals first|(exfalso;simp at *;omega)|skip
    all_goals
      refine y84 (Gl.Reach.absorb 2 3 0 0 rfl rfl rfl rfl (by simp) rfl (z1 fun _=>rfl) rfl) ?_
      refine z88 (fun j:Nat=>([(0,lst 1 encL rows),(6,.ptr 2 none 0),(7,findF),(10,.int i),(39,ints row),(40,.int row.length),(41,.int j)],z1083 rows.length (z85 Q (row.take j)))) (fun j=>j≤row.length) (fun j=>row.length - j) 0 (y54 _) (by refine swR [0,1,2] [] rfl rfl ?_;(repeat' first|exact y85 _|exact z13 _|apply y86|refine z9 rfl (z1 (fun _=>rfl)) ?_|constructor)) ?_
      intro j hj
      by_cases hj2:j < row.length
      · have gj:(row.map enI)[j]?=some (enI row[j]):=by rw [y52,y46 hj2];rfl
        have hv:=hrow _ (y45 hj2)
        have hWl:(z85 Q (row.take j)).length≤100000:=by
          have:=z147 rows.length (z85 Q (row.take j)) (z145 hnd) (z230 hQi fun x hx=>hrow x (List.mem_of_mem_take hx))
          omega
        have e1:=z251 (out:=Q) hj2
        generalize row[j]=v at *
        have cf:=z758 rows.length hN (z85 Q (row.take j)) hWl v hv
        rw [← e1] at cf
        repeat' ((first|(apply y83 ok;rfl)|(refine z16 (i:=j) rfl gj ?_)|(apply y44;first|omega|(unfold inI;omega))|((apply z2)<;>intro _)|(apply z169 [0,1,2] [] cf;rfl;(focus ((repeat' first|exact z11|apply z28)<;>first|rfl|(refine z44 rfl ?_;((exact z1 fun _=>rfl)))));rfl;(focus ((repeat' first|exact z10|apply z14)<;>first|exact z83 rfl rfl|(refine z26 ?_;((exact z1 fun _=>rfl)))))))<;>conv=>whnf)
        all_goals try (exfalso;omega)
        all_goals refine z40 (j+1) hj2 (by omega) (by refine swR [0,1,2] [] rfl rfl ?_;(repeat' first|exact y85 _|exact z13 _|apply y86|refine z9 rfl (z1 (fun _=>rfl)) ?_|constructor))
      obtain rfl:j=row.length:=by omega
      rw [y55,← hnx]
      repeat' ((first|(apply y83 ok;rfl)|(apply y44;first|omega|(unfold inI;omega))|(((with_reducible apply z4;omega));intro _)|((apply z2)<;>intro _))<;>conv=>whnf)
      all_goals try (exfalso;omega)
      all_goals refine z40 (i+1) (by omega) (by omega) ?_
      all_goals dsimp only
      all_goals rw [hQ']
      all_goals exact (by refine swR [0,1,2] [] rfl rfl ?_;(repeat' first|exact y85 _|exact z13 _|apply y86|refine z9 rfl (z1 (fun _=>rfl)) ?_|constructor))
  · have hE:=z925 hr hi (i:=i) (by omega) hi1
    rw [← hE]
    repeat' ((first|(apply y83 ok;rfl)|(apply y44;omega)|((apply z2)<;>intro _))<;>conv=>whnf)
    all_goals first|(exfalso;simp at *;omega)|skip
    all_goals (refine rsD [3] [] rfl ?_;(repeat' first|exact z13 _|(refine z55 ?_;((simp;done)))|refine z9 rfl (z1 (fun _=>rfl)) ?_|constructor))
theorem swp_map (l:List Int) (i j:Nat):((l.map enI).set i (enI (l.getD j 0))).set j (enI (l.getD i 0))=(swp l i j).map enI:=by
 unfold swp;rw [List.map_set,List.map_set]
set_option maxHeartbeats 1600000 in
theorem z598 (l:List Int) (h1:1≤l.length) (h2:l.length≤1048576):CallsA Tryz.prog 207 [.sref 0 0 l.length] [.cells 1 (l.map enI)] (.tup []) [.cells 1 ((rvs l).map enI)]:=by
 have hR:revG l.length 0 (l.length - 1) l=rvs l:=rfl
 generalize rvs l=R at *
 generalize hn:l.length=n at *
 refine z5 z12 Tryz.func207 rfl rfl 28 Tryz.ntmps207 (by simp) ?_
 repeat' ((first|(apply y83 ok;rfl)|(apply y44;(unfold inI;omega)))<;>conv=>whnf)
 refine z88 (fun x:Nat×Nat×List Int=>([(0,.sref 0 0 n),(2,.int x.1),(3,.int x.2.1)],[.cells 1 (x.2.2.map enI)])) (fun x=>x.1≤n∧x.2.1 < n∧x.2.2.length=n∧revG (n - x.1) x.1 x.2.1 x.2.2=R) (fun x=>n - x.1) (0,n - 1,l) ⟨by simp,by show n - 1 < n;omega,hn,hR⟩ (by refine swR [0] [] rfl rfl ?_;(repeat' first|exact y85 _|exact z13 _|refine z9 rfl (z1 (fun _=>rfl)) ?_|constructor)<;>((rw [show ((n - 1:Nat):Int)=(n:Int) - 1 by omega];exact y85 _))) ?_
 rintro ⟨i,j,l'⟩ ⟨i1,i2,i3,i4⟩
 dsimp only at i1 i2 i3 i4 ⊢
 by_cases hij:i < j
 ·rw [show n - i=(n - (i+1))+1 by omega,revG,if_pos hij] at i4
  have gi:(l'.map enI)[i]?=some (enI (l'.getD i 0)):=by rw [y52,y46 (by omega),z18 (by omega)];rfl
  have gj:(l'.map enI)[j]?=some (enI (l'.getD j 0)):=by rw [y52,y46 (by omega),z18 (by omega)];rfl
  have gj2:((l'.map enI).set i (enI (l'.getD j 0)))[j]?=some (enI (l'.getD j 0)):=by rw [List.getElem?_set_ne (by omega)];exact gj
  have es:=swp_map l' i j
  repeat' ((first|(apply y83 ok;rfl)|(apply z7;kernel_rfl)|(refine z16 (i:=i) rfl gi ?_)|(refine z16 (i:=j) rfl gj ?_)|(refine z16 (i:=j) rfl gj2 ?_)|(apply y44;first|omega|(unfold inI;omega))|((apply z2)<;>intro _))<;>conv=>whnf)
  all_goals try (exfalso;omega)
  all_goals refine z40 (i+1,j - 1,swp l' i j) ⟨by show i+1≤n;omega,by show j - 1 < n;omega,by show (swp l' i j).length=n;simp [swp,i3],i4⟩ (by show n - (i+1) < n - i;omega) (by refine swR [0] [] rfl rfl ?_;(repeat' first|exact y85 _|((refine z78 rfl ?_ ?_);(focus ((repeat' (first|exact z1 (fun _=>rfl)|(refine z1136 ?_ _ rfl)));done)))|constructor)<;>(first|(rw [show ((j - 1:Nat):Int)=(j:Int) - 1 by omega];exact y85 _)|exact z48 es))
 ·have:revG (n - i) i j l'=l':=by cases n - i<;>simp [revG,hij]
  rw [this] at i4
  subst i4
  repeat' ((first|(apply y83 ok;rfl)|(apply y44;omega)|(((apply z4;omega));intro _)|((apply z2)<;>intro _))<;>conv=>whnf)
  all_goals try (exfalso;omega)
  all_goals (refine rsD [0] [] rfl ?_;(repeat' first|exact y85 _|exact z13 _|refine z9 rfl (z1 (fun _=>rfl)) ?_|constructor))
theorem z442 {N w:Nat} (Q P:List Int) (hw:w < N):((frm N Q P).map enI)[w]?=some (enI (if (w:Int)∈Q then P.getD w 0 else -2)):=by
 unfold frm
 rw [y52,y52,List.getElem?_range hw];rfl
theorem z496 {N w:Nat} {Q P:List Int} {u:Int} (hw:w < N) (hP:P.length=N):((frm N Q P).map enI).set w (enI u)=(frm N (Q++[(w:Int)]) (P.set w u)).map enI:=by
 have:=frm_set (N:=N) (Q:=Q) (P:=P) (v:=(w:Int)) (u:=u) ⟨by omega,by omega⟩ hP
 rw [y75] at this
 rw [← this,List.map_set]
set_option maxHeartbeats 12800000 in
theorem z647 (rows : List (List Int)) (ini : List Int) (hr : ∀ r ∈ rows, InN rows.length r) (hi : InN rows.length ini) (hn : ini.Nodup) (hN : rows.length ≤ 100000) (hrl : ∀ r ∈ rows, r.length ≤ 1000000000) (G : Int → Bool) (f : FuncId) (c1 : List AC) (hf : ∀ x : Int, 0 ≤ x → x < rows.length → CallsA Tryz.prog f (.int x :: [.pt c1]) [] (.bool (G x)) []) :
    CallsA Tryz.prog 141 [lst 1 encL rows,ints ini,.fn (.func f) [] [.pt c1]] [] (.sref 0 0 (shL rows ini G).length) [.cells 1 ((shL rows ini G).map enI)]:=by
  have hil:ini.length≤100000:=by have:=z147 rows.length ini hn hi;omega
  refine z5 z12 Tryz.func141 rfl rfl 99 Tryz.ntmps141 (by simp) ?_
  repeat' ((first|(apply y83 ok;rfl)|(apply y44;(dsimp only;omega)))<;>conv=>whnf)
  obtain ⟨qm,hqm⟩:∃ qm:Nat→Nat→Int,qm=fun i j=>if j < i then -2 else 0:=⟨_,rfl⟩
  have q0:qm 0=fun _=>0:=by rw [hqm];rfl
  have qE:(fnL rows.length (qm rows.length)).map enI=(frm rows.length [] (List.replicate rows.length (-1))).map enI:=by
    rw [z1128]
    congr 1
    apply y73 (by simp [fnL])
    intro i h1 h2
    rw [z444,hqm]
    have hi' : i < rows.length:=by rw [z103] at h1;exact h1
    dsimp only
    rw [if_pos hi'];simp
  have qS:∀ i,qm (i+1)=upd (qm i) i (-2):=fun i=>by
    funext j
    by_cases h:j=i
    · subst h;rw [z27,hqm];dsimp only;rw [if_pos (by omega)]
    · rw [z45 _ _ h,hqm];dsimp only;split<;>split<;>first|rfl|omega
  clear hqm
  refine z88 (fun i:Nat=>([(0,lst 1 encL rows),(1,ints ini),(2,.fn (.func f) [] [.pt c1]),(7,.sref 0 0 rows.length),(21,.int rows.length),(22,.int i)],[.cells 1 ((fnL rows.length (qm i)).map enI)])) (fun i=>i≤rows.length) (fun i=>rows.length - i) 0 (y54 _) (by refine swR [0] [] rfl rfl ?_;(repeat' first|exact y85 _|refine z9 rfl (z3 rfl) ?_|constructor)<;>((refine z48 ?_;rw [q0];exact z322 _))) ?_
  intro i hi1
  by_cases hi2:i < rows.length
  · have g1:=z162 (qm i) hi2
    have l1:=z103 rows.length (qm i)
    have e1:=z142 (N:=rows.length) (u:=i) (qm i) (-2)
    rw [← qS] at e1
    repeat' ((first|(apply y83 ok;rfl)|(refine z16 (i:=i) rfl g1 ?_)|(apply y44;first|omega|(unfold inI;omega))|((apply z2)<;>intro _))<;>conv=>whnf)
    all_goals try (exfalso;omega)
    all_goals refine z40 (i+1) hi2 (by omega) (by refine swR [0] [] rfl rfl ?_;(repeat' first|exact y85 _|refine z78 rfl (z1 (fun _=>rfl)) ?_|constructor)<;>((refine z48 ?_;exact e1)))
  obtain rfl:i=rows.length:=by omega
  rw [qE]
  clear qE qS q0
  repeat' ((first|(apply y83 ok;rfl)|(apply y44;omega)|(((apply z4;omega));intro _)|((apply z2)<;>intro _))<;>conv=>whnf)
  all_goals try (exfalso;omega)
  refine y84 (y87 1 rfl) ?_
  have hrep:(List.replicate rows.length (-1:Int)).length=rows.length:=by simp
  have hrs:∀ w,(List.replicate rows.length (-1:Int)).set w (-1)=List.replicate rows.length (-1):=fun w=>by
    apply y73 (by simp)
    intro i h1 h2
    rw [List.getElem_set]
    split<;>simp
  have hS0:(frm rows.length ini (List.replicate rows.length (-1)))=frm rows.length (srS rows ini 0).1 (srS rows ini 0).2:=rfl
  generalize List.replicate rows.length (-1:Int)=P0 at *
  refine z88 (fun k:Nat=>([(0,lst 1 encL rows),(2,.fn (.func f) [] [.pt c1]),(7,.sref 0 0 rows.length),(9,.sref 1 0 (ini.take k).length),(29,ints ini),(30,.int ini.length),(31,.int k)],[.cells 1 ((frm rows.length (ini.take k) P0).map enI),.cells 1 ((ini.take k).map enI)])) (fun k=>k≤ini.length) (fun k=>ini.length - k) 0 (y54 _) (by refine swR [0,1] [] rfl rfl ?_;(repeat' first|exact y85 _|exact z54|exact z13 _|((refine z9 rfl ?_ ?_);(focus ((repeat' (first|exact z19|exact z1 (fun _=>rfl)));done)))|constructor)) ?_
  intro k hk
  by_cases hk2:k < ini.length
  · have gk:(ini.map enI)[k]?=some (enI ini[k]):=by rw [y52,y46 hk2];rfl
    have hv:=hi _ (y45 hk2)
    have et:ini.take (k+1)=ini.take k++[ini[k]]:=y51 hk2
    have htl:(ini.take k).length≤100000:=by rw [y49];omega
    generalize hQ' : ini.take (k+1)=Q' at *
    generalize hQ:ini.take k=Q at *
    generalize ini[k]=v at *
    obtain ⟨w,rfl⟩:∃ w:Nat,v=w:=⟨v.toNat,by omega⟩
    have hw:w < rows.length:=by omega
    have g1:=z442 Q P0 hw
    have l1:=z441 rows.length Q P0
    have e1:=z496 (Q:=Q) (u:=-1) hw hrep
    rw [hrs,← et] at e1
    subst et
    repeat' ((first|(apply y83 ok;rfl)|(refine z16 (i:=k) rfl gk ?_)|(refine z16 (i:=w) rfl g1 ?_)|(apply y44;first|omega|(unfold inI;omega)|((try dsimp only);simp only [y50,y49,y48,y47,y57,y58];omega)|exact ⟨rfl,z23 rfl z29⟩)|((apply z2)<;>intro _))<;>conv=>whnf)
    all_goals try (exfalso;omega)
    all_goals refine z40 (k+1) hk2 (by omega) ?_
    all_goals dsimp only
    all_goals rw [hQ']
    all_goals exact (by refine swR [0,3] [] rfl rfl ?_;(repeat' first|exact y85 _|(refine z55 ?_;((simp;done)))|((first|refine z75 rfl ?_ ?_|refine z78 rfl ?_ ?_);(focus ((repeat' (first|exact z1 (fun _=>rfl)|apply z63));done)))|(refine z99 ?_ ?_;(focus (omega)))|constructor)<;>((refine z48 ?_;exact e1)))
  obtain rfl:k=ini.length:=by omega
  rw [y55,hS0]
  repeat' ((first|(apply y83 ok;rfl)|(apply y44;omega)|((first|(with_reducible apply z4;omega)|(apply z4;omega));intro _)|((apply z2)<;>intro _))<;>conv=>whnf)
  all_goals try (exfalso;omega)
  refine z88 (fun i:Nat=>([(0,lst 1 encL rows),(2,.fn (.func f) [] [.pt c1]),(7,.sref 0 0 rows.length),(9,.sref 1 0 (srS rows ini i).1.length),(12,.int i)],[.cells 1 ((frm rows.length (srS rows ini i).1 (srS rows ini i).2).map enI),.cells 1 ((srS rows ini i).1.map enI)])) (fun i=>i≤rows.length∧∀ k (_:k < i) (h:k < (srS rows ini i).1.length),G ((srS rows ini i).1[k])=false) (fun i=>rows.length+1 - i) 0 ⟨y54 _,fun k h=>by omega⟩ (by refine swR [0,1] [] rfl rfl ?_;(repeat' first|exact y85 _|exact z13 _|refine z9 rfl (z1 (fun _=>rfl)) ?_|constructor)<;>(fail)) ?_
  rintro i ⟨hi1,hno⟩
  have hJ:=z338 hr hi hn i
  have hQl:=z638 hr hi hn i
  by_cases hi2:i < (srS rows ini i).1.length
  · have hx:=hJ.inn _ (y45 hi2)
    have cf:=hf _ hx.1 hx.2
    have gx:((srS rows ini i).1.map enI)[i]?=some (enI (srS rows ini i).1[i]):=by rw [y52,y46 hi2];rfl
    have hnx:srS rows ini (i+1)=visPs (srS rows ini i).1[i] (srS rows ini i) (rows.getD ((srS rows ini i).1[i]).toNat []):=by rw [srS,dif_pos hi2]
    have hfnd:=fun h=>z722 hr hi hn (G:=G) hi2 h (fun k hk=>hno k hk (by omega))
    have hpre:=z365 (srS rows ini i).1[i] (rows.getD ((srS rows ini i).1[i]).toNat []) (srS rows ini i)
    by_cases hG:G (srS rows ini i).1[i]=true
    · rw [hfnd hG,z867,y63]
      have hq0:∃ k,∃ h:k < (srS rows ini i).1.length,(srS rows ini i).1[k]=(srS rows ini i).1[i]∧k≤rows.length:=⟨i,hi2,rfl,hi1⟩
      rw [hG] at cf
      clear hfnd hnx hpre hno
      generalize hS:srS rows ini i=S at *
      obtain ⟨Q,P⟩:=S
      dsimp only at *
      have hi4:i < Q.length:=hi2
      generalize Q[i]=x at *
      repeat' ((first|(apply y83 ok;rfl)|(refine z16 (i:=i) rfl gx ?_)|(apply y44;omega)|((apply z2)<;>intro _)|(apply z0 (cf);rfl;rfl))<;>conv=>whnf)
      all_goals try (exfalso;omega)
      all_goals
        refine y84 (y87 1 rfl) ?_
        have hB1:=z1153 P rows.length x
        generalize hB:chn P rows.length x=B at *
        refine z88 (fun y:Nat×List Int×Int=>([(7,.sref 0 0 rows.length),(13,.int y.2.2),(14,.sref 1 0 y.2.1.length)],[.cells 1 ((frm rows.length Q P).map enI),.cells 1 (y.2.1.map enI)])) (fun y=>y.2.1.length+y.1≤rows.length+1∧((0≤y.2.2∧y.2.1++chn P (y.1 - 1) y.2.2=B∧1≤y.1∧∃ k,∃ h:k < Q.length,Q[k]=y.2.2∧k+1≤y.1)∨(y.2.2=-1∧y.2.1=B))) (fun y=>y.1+(if 0≤y.2.2 then 1 else 0)) (rows.length+1,[],x) ⟨by simp,.inl ⟨hx.1,by simpa using hB,by omega,by obtain ⟨k,h,h1,h2⟩:=hq0;exact ⟨k,h,h1,by omega⟩⟩⟩ (by refine swR [0,2] [] rfl rfl ?_;(repeat' first|exact y85 _|exact z54|exact z13 _|((refine z9 rfl ?_ ?_);(focus ((repeat' (first|exact z19|exact z1 (fun _=>rfl)));done)))|constructor)) ?_
        rintro ⟨fu,ac,u⟩ ⟨q1,q2⟩
        dsimp only at q1 q2 ⊢
        rcases q2 with ⟨q2,q3,q4,k,hk,q5,q6⟩|⟨rfl,rfl⟩
        · have huN:=hJ.inn u (q5 ▸ y45 hk)
          obtain ⟨w,rfl⟩:∃ w:Nat,u=w:=⟨u.toNat,by omega⟩
          have hw:w < rows.length:=by omega
          have gw:=z442 Q P hw
          rw [if_pos (q5 ▸ y45 hk)] at gw
          have lw:=z441 rows.length Q P
          have hp:=hJ.pre k hk
          rw [q5,y75] at hp
          dsimp only at hp
          obtain ⟨fu,rfl⟩:∃ m,fu=m+1:=⟨fu - 1,by omega⟩
          rw [Nat.add_sub_cancel] at q3
          have hnext:P.getD w 0=-1∧ac++[(w:Int)]=B∨(0≤P.getD w 0∧(ac++[(w:Int)])++chn P (fu - 1) (P.getD w 0)=B∧1≤fu∧∃ k,∃ h:k < Q.length,Q[k]=P.getD w 0∧k+1≤fu):=by
            rcases hp with hp|⟨j,hj,hjk,hp⟩
            · left
              refine ⟨hp,?_⟩
              rw [← q3]
              cases fu with
              | zero=>rfl
              | succ fu =>
                rw [chn,y75,if_neg (by omega)]
            · right
              have:=hJ.inn _ (y45 hj)
              refine ⟨by omega,?_,by omega,j,hj,hp.symm,by omega⟩
              obtain ⟨fu,rfl⟩:∃ m,fu=m+1:=⟨fu - 1,by omega⟩
              rw [chn,y75,if_pos (by omega)] at q3
              rw [← q3]
              simp
          have hvb : -1≤P.getD w 0∧P.getD w 0 < rows.length:=by
            rcases hnext with ⟨h,_⟩|⟨h,_,_,j,hj,hp2,_⟩
            · omega
            · have:=hJ.inn _ (y45 hj)
              omega
          clear hp
          generalize P.getD w 0=v at *
          repeat' ((first|(apply y83 ok;rfl)|(refine z16 (i:=w) rfl gw ?_)|(apply y44;first|omega|((try dsimp only);simp only [y50,y49,y48,y47,y57,y58];omega)|exact ⟨rfl,z23 rfl z29⟩))<;>conv=>whnf)
          all_goals refine z40 (fu,ac++[(w:Int)],v) ⟨by simp only [y48,List.length_singleton];omega,?_⟩ ?_ (by refine swR [0,3] [] rfl rfl ?_;(repeat' first|exact y85 _|exact z13 _|(refine z55 ?_;((simp;done)))|((first|refine z75 rfl ?_ ?_|refine z9 rfl ?_ ?_);(focus ((repeat' (first|exact z1 (fun _=>rfl)|apply z63));done)))|(refine z99 ?_ ?_;(focus (omega)))|constructor))
          all_goals dsimp only
          all_goals first|(rcases hnext with ⟨h1,h2⟩|h1<;>first|exact .inr ⟨h1,h2⟩|exact .inl h1)|(rw [if_pos (show (0:Int)≤w by omega)];split<;>omega)
        · have cr:=z598 ac (by omega) (by omega)
          have cc:=z358 (rvs ac) (by rw [z425];omega)
          have el:=z425 ac
          rw [← rvs_eq]
          generalize rvs ac=D at *
          rw [el] at cc ⊢
          repeat' ((first|(apply y83 ok;rfl)|((first|(apply z169 [1] [] cr;rfl;(focus ((repeat' first|exact z11|apply z28)<;>(refine z44 rfl ?_;((exact z1 fun _=>rfl))))))|(apply z169 [1] [] cc;rfl;(focus ((repeat' first|exact z11|apply z28)<;>(refine z44 rfl ?_;((exact z1 fun _=>rfl)))))));rfl;(focus ((repeat' first|exact z10|apply z14)<;>(refine z26 ?_;((exact z1 fun _=>rfl)))))))<;>conv=>whnf)
          all_goals (refine rsD [1] [] rfl ?_;(repeat' first|exact y85 _|exact z13 _|refine z9 rfl (z1 (fun _=>rfl)) ?_|constructor))
    · have hG:=(y70 _).mp hG
      rw [hG] at cf
      have hno2:∀ k (_:k < i+1) (h:k < (srS rows ini (i+1)).1.length),G ((srS rows ini (i+1)).1[k])=false:=by
        obtain ⟨t,ht⟩:=z637 (rows:=rows) (ini:=ini) (show i≤i+1 by omega)
        intro k hk h
        have hki:k < (srS rows ini i).1.length:=by omega
        have e:(srS rows ini (i+1)).1[k]=(srS rows ini i).1[k]:=by
          simp only [ht,List.getElem_append_left hki]
        rw [e]
        by_cases hk3:k < i
        · exact hno k hk3 hki
        · obtain rfl:k=i:=by omega
          exact hG
      have hile:i+1≤rows.length:=by omega
      have hJv:=fun l hl=>PJ.visPs (N:=rows.length) l hJ hi2 rfl hl
      clear hfnd hpre hno
      generalize hS' : srS rows ini (i+1)=S' at *
      generalize hS:srS rows ini i=S at *
      obtain ⟨Q,P⟩:=S
      dsimp only at *
      have hi4:i < Q.length:=hi2
      generalize hxx:Q[i]=x at *
      obtain ⟨u,rfl⟩:∃ u:Nat,x=u:=⟨x.toNat,by omega⟩
      rw [y75] at hnx
      have hu:u < rows.length:=by omega
      have gr:=z528 hu
      have hrow:=z211 hr (u:Int)
      rw [y75] at hrow
      have hrowl:(rows.getD u []).length≤1000000000:=by rw [z18 hu];exact hrl _ (y45 _)
      generalize rows.getD u []=row at *
      repeat' ((first|(apply y83 ok;rfl)|(refine z16 (i:=i) rfl gx ?_)|(refine z16 (i:=u) rfl gr ?_)|(apply y44;omega)|((apply z2)<;>intro _)|(apply z0 (cf);rfl;rfl))<;>conv=>whnf)
      all_goals try (exfalso;omega)
      all_goals
        refine z88 (fun j:Nat=>([(0,lst 1 encL rows),(2,.fn (.func f) [] [.pt c1]),(7,.sref 0 0 rows.length),(9,.sref 1 0 (visPs (u:Int) (Q,P) (row.take j)).1.length),(12,.int i),(76,ints row),(77,.int row.length),(78,.int j)],[.cells 1 ((frm rows.length (visPs (u:Int) (Q,P) (row.take j)).1 (visPs (u:Int) (Q,P) (row.take j)).2).map enI),.cells 1 ((visPs (u:Int) (Q,P) (row.take j)).1.map enI)])) (fun j=>j≤row.length) (fun j=>row.length - j) 0 (y54 _) (by refine swR [0,1] [] rfl rfl ?_;(repeat' first|exact y85 _|exact z13 _|refine z9 rfl (z1 (fun _=>rfl)) ?_|constructor)<;>(fail)) ?_
        intro j hj
        obtain ⟨hJj,hij,hxj⟩:=hJv (row.take j) (fun x hx=>hrow x (List.mem_of_mem_take hx))
        have hQjl:(visPs (u:Int) (Q,P) (row.take j)).1.length≤rows.length:=z147 _ _ hJj.nd hJj.inn
        have gxj:((visPs (u:Int) (Q,P) (row.take j)).1.map enI)[i]?=some (enI (u:Int)):=by
          rw [y52,y46 hij,hxj];rfl
        by_cases hj2:j < row.length
        · have gj:(row.map enI)[j]?=some (enI row[j]):=by rw [y52,y46 hj2];rfl
          have hv:=hrow _ (y45 hj2)
          have et:=z417 (u:=(u:Int)) (x:=(Q,P)) hj2
          have hge:=hJj.pre
          generalize hT' : visPs (u:Int) (Q,P) (row.take (j+1))=T' at *
          generalize hT:visPs (u:Int) (Q,P) (row.take j)=T at *
          generalize row[j]=v at *
          obtain ⟨w,rfl⟩:∃ w:Nat,v=w:=⟨v.toNat,by omega⟩
          have hw:w < rows.length:=by omega
          have gw:=z442 T.1 T.2 hw
          have lw:=z441 rows.length T.1 T.2
          have hTl:=hJj.len
          by_cases hm:(w:Int)∈T.1
          · rw [z366 hm] at et
            rw [if_pos hm] at gw
            have hwv : -1≤T.2.getD w 0:=by
              obtain ⟨k,hk,ek⟩:=List.mem_iff_getElem.1 hm
              have h1:=hge k hk
              rw [ek,y75] at h1
              rcases h1 with h1|⟨y,hy,_,h1⟩
              · omega
              · have:=hJj.inn _ (y45 hy);omega
            generalize T.2.getD w 0=pv at *
            repeat' ((first|(apply y83 ok;rfl)|(refine z16 (i:=j) rfl gj ?_)|(refine z16 (i:=w) rfl gw ?_)|(apply y44;first|omega|(unfold inI;omega))|(((apply z4;omega));intro _)|((apply z2)<;>intro _))<;>conv=>whnf)
            all_goals try (exfalso;omega)
            all_goals refine z40 (j+1) hj2 (by omega) ?_
            all_goals dsimp only
            all_goals rw [hT',et]
            all_goals exact (by refine swR [0,1] [] rfl rfl ?_;(repeat' first|exact y85 _|exact z13 _|refine z9 rfl (z1 (fun _=>rfl)) ?_|constructor))
          · rw [z367 hm,y75] at et
            rw [if_neg hm] at gw
            have e1:=z496 (Q:=T.1) (u:=(u:Int)) hw hTl
            repeat' ((first|(apply y83 ok;rfl)|(refine z16 (i:=j) rfl gj ?_)|(refine z16 (i:=w) rfl gw ?_)|(refine z16 (i:=i) rfl gxj ?_)|(apply y44;first|omega|(unfold inI;omega)|((try dsimp only);simp only [y50,y49,y48,y47,y57,y58];omega)|exact ⟨rfl,z23 rfl z29⟩)|((apply z2)<;>intro _))<;>conv=>whnf)
            all_goals try (exfalso;omega)
            all_goals refine z40 (j+1) hj2 (by omega) ?_
            all_goals dsimp only
            all_goals rw [hT',et]
            all_goals dsimp only
            all_goals exact (by refine swR [0,3] [] rfl rfl ?_;(repeat' first|exact y85 _|(refine z55 ?_;((simp;done)))|((first|refine z75 rfl ?_ ?_|refine z78 rfl ?_ ?_);(focus ((repeat' (first|exact z1 (fun _=>rfl)|apply z63));done)))|(refine z99 ?_ ?_;(focus (omega)))|constructor)<;>((refine z48 ?_;exact e1)))
        obtain rfl:j=row.length:=by omega
        rw [y55,← hnx] at *
        repeat' ((first|(apply y83 ok;rfl)|(apply y44;first|omega|(unfold inI;omega))|((first|(with_reducible apply z4;omega)|(apply z4;omega));intro _)|((apply z2)<;>intro _))<;>conv=>whnf)
        all_goals try (exfalso;omega)
        all_goals refine z40 (i+1) ⟨hile,by rw [hS'];exact hno2⟩ (by omega) ?_
        all_goals dsimp only
        all_goals rw [hS']
        all_goals exact (by refine swR [0,1] [] rfl rfl ?_;(repeat' first|exact y85 _|exact z13 _|refine z9 rfl (z1 (fun _=>rfl)) ?_|constructor))
  · rw [z889 (G:=G) (by omega) hi1 (fun k hk=>hno k (by omega) hk)]
    repeat' ((first|(apply y83 ok;rfl)|(apply y44;omega)|(((apply z4;omega));intro _)|((apply z2)<;>intro _))<;>conv=>whnf)
    all_goals try (exfalso;omega)
    all_goals (refine y88 1 ?_;refine rsD [2] [] rfl ?_;(repeat' first|exact z54|refine z9 rfl (z19) ?_|constructor))
set_option maxHeartbeats 12800000 in
theorem z646 (rows : List (List Int)) (ini : List Int) (hr : ∀ r ∈ rows, InN rows.length r) (hi : InN rows.length ini) (hn : ini.Nodup) (hN : rows.length ≤ 100000) (hrl : ∀ r ∈ rows, r.length ≤ 1000000000) (G : Int → Bool) (f : FuncId) (c1 c2 : List AC) (hf : ∀ x : Int, 0 ≤ x → x < rows.length → CallsA Tryz.prog f (.int x :: [.pt c1, .pt c2]) [] (.bool (G x)) []) :
    CallsA Tryz.prog 141 [lst 1 encL rows,ints ini,.fn (.func f) [] [.pt c1,.pt c2]] [] (.sref 0 0 (shL rows ini G).length) [.cells 1 ((shL rows ini G).map enI)]:=by
  have hil:ini.length≤100000:=by have:=z147 rows.length ini hn hi;omega
  refine z5 z12 Tryz.func141 rfl rfl 99 Tryz.ntmps141 (by simp) ?_
  repeat' ((first|(apply y83 ok;rfl)|(apply y44;(dsimp only;omega)))<;>conv=>whnf)
  obtain ⟨qm,hqm⟩:∃ qm:Nat→Nat→Int,qm=fun i j=>if j < i then -2 else 0:=⟨_,rfl⟩
  have q0:qm 0=fun _=>0:=by rw [hqm];rfl
  have qE:(fnL rows.length (qm rows.length)).map enI=(frm rows.length [] (List.replicate rows.length (-1))).map enI:=by
    rw [z1128]
    congr 1
    apply y73 (by simp [fnL])
    intro i h1 h2
    rw [z444,hqm]
    have hi' : i < rows.length:=by rw [z103] at h1;exact h1
    dsimp only
    rw [if_pos hi'];simp
  have qS:∀ i,qm (i+1)=upd (qm i) i (-2):=fun i=>by
    funext j
    by_cases h:j=i
    · subst h;rw [z27,hqm];dsimp only;rw [if_pos (by omega)]
    · rw [z45 _ _ h,hqm];dsimp only;split<;>split<;>first|rfl|omega
  clear hqm
  refine z88 (fun i:Nat=>([(0,lst 1 encL rows),(1,ints ini),(2,.fn (.func f) [] [.pt c1,.pt c2]),(7,.sref 0 0 rows.length),(21,.int rows.length),(22,.int i)],[.cells 1 ((fnL rows.length (qm i)).map enI)])) (fun i=>i≤rows.length) (fun i=>rows.length - i) 0 (y54 _) (by refine swR [0] [] rfl rfl ?_;(repeat' first|exact y85 _|refine z9 rfl (z3 rfl) ?_|constructor)<;>((refine z48 ?_;rw [q0];exact z322 _))) ?_
  intro i hi1
  by_cases hi2:i < rows.length
  · have g1:=z162 (qm i) hi2
    have l1:=z103 rows.length (qm i)
    have e1:=z142 (N:=rows.length) (u:=i) (qm i) (-2)
    rw [← qS] at e1
    repeat' ((first|(apply y83 ok;rfl)|(refine z16 (i:=i) rfl g1 ?_)|(apply y44;first|omega|(unfold inI;omega))|((apply z2)<;>intro _))<;>conv=>whnf)
    all_goals try (exfalso;omega)
    all_goals refine z40 (i+1) hi2 (by omega) (by refine swR [0] [] rfl rfl ?_;(repeat' first|exact y85 _|refine z78 rfl (z1 (fun _=>rfl)) ?_|constructor)<;>((refine z48 ?_;exact e1)))
  obtain rfl:i=rows.length:=by omega
  rw [qE]
  clear qE qS q0
  repeat' ((first|(apply y83 ok;rfl)|(apply y44;omega)|(((apply z4;omega));intro _)|((apply z2)<;>intro _))<;>conv=>whnf)
  all_goals try (exfalso;omega)
  refine y84 (y87 1 rfl) ?_
  have hrep:(List.replicate rows.length (-1:Int)).length=rows.length:=by simp
  have hrs:∀ w,(List.replicate rows.length (-1:Int)).set w (-1)=List.replicate rows.length (-1):=fun w=>by
    apply y73 (by simp)
    intro i h1 h2
    rw [List.getElem_set]
    split<;>simp
  have hS0:(frm rows.length ini (List.replicate rows.length (-1)))=frm rows.length (srS rows ini 0).1 (srS rows ini 0).2:=rfl
  generalize List.replicate rows.length (-1:Int)=P0 at *
  refine z88 (fun k:Nat=>([(0,lst 1 encL rows),(2,.fn (.func f) [] [.pt c1,.pt c2]),(7,.sref 0 0 rows.length),(9,.sref 1 0 (ini.take k).length),(29,ints ini),(30,.int ini.length),(31,.int k)],[.cells 1 ((frm rows.length (ini.take k) P0).map enI),.cells 1 ((ini.take k).map enI)])) (fun k=>k≤ini.length) (fun k=>ini.length - k) 0 (y54 _) (by refine swR [0,1] [] rfl rfl ?_;(repeat' first|exact y85 _|exact z54|exact z13 _|((refine z9 rfl ?_ ?_);(focus ((repeat' (first|exact z19|exact z1 (fun _=>rfl)));done)))|constructor)) ?_
  intro k hk
  by_cases hk2:k < ini.length
  · have gk:(ini.map enI)[k]?=some (enI ini[k]):=by rw [y52,y46 hk2];rfl
    have hv:=hi _ (y45 hk2)
    have et:ini.take (k+1)=ini.take k++[ini[k]]:=y51 hk2
    have htl:(ini.take k).length≤100000:=by rw [y49];omega
    generalize hQ' : ini.take (k+1)=Q' at *
    generalize hQ:ini.take k=Q at *
    generalize ini[k]=v at *
    obtain ⟨w,rfl⟩:∃ w:Nat,v=w:=⟨v.toNat,by omega⟩
    have hw:w < rows.length:=by omega
    have g1:=z442 Q P0 hw
    have l1:=z441 rows.length Q P0
    have e1:=z496 (Q:=Q) (u:=-1) hw hrep
    rw [hrs,← et] at e1
    subst et
    repeat' ((first|(apply y83 ok;rfl)|(refine z16 (i:=k) rfl gk ?_)|(refine z16 (i:=w) rfl g1 ?_)|(apply y44;first|omega|(unfold inI;omega)|((try dsimp only);simp only [y50,y49,y48,y47,y57,y58];omega)|exact ⟨rfl,z23 rfl z29⟩)|((apply z2)<;>intro _))<;>conv=>whnf)
    all_goals try (exfalso;omega)
    all_goals refine z40 (k+1) hk2 (by omega) ?_
    all_goals dsimp only
    all_goals rw [hQ']
    all_goals exact (by refine swR [0,3] [] rfl rfl ?_;(repeat' first|exact y85 _|(refine z55 ?_;((simp;done)))|((first|refine z75 rfl ?_ ?_|refine z78 rfl ?_ ?_);(focus ((repeat' (first|exact z1 (fun _=>rfl)|apply z63));done)))|(refine z99 ?_ ?_;(focus (omega)))|constructor)<;>((refine z48 ?_;exact e1)))
  obtain rfl:k=ini.length:=by omega
  rw [y55,hS0]
  repeat' ((first|(apply y83 ok;rfl)|(apply y44;omega)|((first|(with_reducible apply z4;omega)|(apply z4;omega));intro _)|((apply z2)<;>intro _))<;>conv=>whnf)
  all_goals try (exfalso;omega)
  refine z88 (fun i:Nat=>([(0,lst 1 encL rows),(2,.fn (.func f) [] [.pt c1,.pt c2]),(7,.sref 0 0 rows.length),(9,.sref 1 0 (srS rows ini i).1.length),(12,.int i)],[.cells 1 ((frm rows.length (srS rows ini i).1 (srS rows ini i).2).map enI),.cells 1 ((srS rows ini i).1.map enI)])) (fun i=>i≤rows.length∧∀ k (_:k < i) (h:k < (srS rows ini i).1.length),G ((srS rows ini i).1[k])=false) (fun i=>rows.length+1 - i) 0 ⟨y54 _,fun k h=>by omega⟩ (by refine swR [0,1] [] rfl rfl ?_;(repeat' first|exact y85 _|exact z13 _|refine z9 rfl (z1 (fun _=>rfl)) ?_|constructor)<;>(fail)) ?_
  rintro i ⟨hi1,hno⟩
  have hJ:=z338 hr hi hn i
  have hQl:=z638 hr hi hn i
  by_cases hi2:i < (srS rows ini i).1.length
  · have hx:=hJ.inn _ (y45 hi2)
    have cf:=hf _ hx.1 hx.2
    have gx:((srS rows ini i).1.map enI)[i]?=some (enI (srS rows ini i).1[i]):=by rw [y52,y46 hi2];rfl
    have hnx:srS rows ini (i+1)=visPs (srS rows ini i).1[i] (srS rows ini i) (rows.getD ((srS rows ini i).1[i]).toNat []):=by rw [srS,dif_pos hi2]
    have hfnd:=fun h=>z722 hr hi hn (G:=G) hi2 h (fun k hk=>hno k hk (by omega))
    have hpre:=z365 (srS rows ini i).1[i] (rows.getD ((srS rows ini i).1[i]).toNat []) (srS rows ini i)
    by_cases hG:G (srS rows ini i).1[i]=true
    · rw [hfnd hG,z867,y63]
      have hq0:∃ k,∃ h:k < (srS rows ini i).1.length,(srS rows ini i).1[k]=(srS rows ini i).1[i]∧k≤rows.length:=⟨i,hi2,rfl,hi1⟩
      rw [hG] at cf
      clear hfnd hnx hpre hno
      generalize hS:srS rows ini i=S at *
      obtain ⟨Q,P⟩:=S
      dsimp only at *
      have hi4:i < Q.length:=hi2
      generalize Q[i]=x at *
      repeat' ((first|(apply y83 ok;rfl)|(refine z16 (i:=i) rfl gx ?_)|(apply y44;omega)|((apply z2)<;>intro _)|(apply z0 (cf);rfl;rfl))<;>conv=>whnf)
      all_goals try (exfalso;omega)
      all_goals
        refine y84 (y87 1 rfl) ?_
        have hB1:=z1153 P rows.length x
        generalize hB:chn P rows.length x=B at *
        refine z88 (fun y:Nat×List Int×Int=>([(7,.sref 0 0 rows.length),(13,.int y.2.2),(14,.sref 1 0 y.2.1.length)],[.cells 1 ((frm rows.length Q P).map enI),.cells 1 (y.2.1.map enI)])) (fun y=>y.2.1.length+y.1≤rows.length+1∧((0≤y.2.2∧y.2.1++chn P (y.1 - 1) y.2.2=B∧1≤y.1∧∃ k,∃ h:k < Q.length,Q[k]=y.2.2∧k+1≤y.1)∨(y.2.2=-1∧y.2.1=B))) (fun y=>y.1+(if 0≤y.2.2 then 1 else 0)) (rows.length+1,[],x) ⟨by simp,.inl ⟨hx.1,by simpa using hB,by omega,by obtain ⟨k,h,h1,h2⟩:=hq0;exact ⟨k,h,h1,by omega⟩⟩⟩ (by refine swR [0,2] [] rfl rfl ?_;(repeat' first|exact y85 _|exact z54|exact z13 _|((refine z9 rfl ?_ ?_);(focus ((repeat' (first|exact z19|exact z1 (fun _=>rfl)));done)))|constructor)) ?_
        rintro ⟨fu,ac,u⟩ ⟨q1,q2⟩
        dsimp only at q1 q2 ⊢
        rcases q2 with ⟨q2,q3,q4,k,hk,q5,q6⟩|⟨rfl,rfl⟩
        · have huN:=hJ.inn u (q5 ▸ y45 hk)
          obtain ⟨w,rfl⟩:∃ w:Nat,u=w:=⟨u.toNat,by omega⟩
          have hw:w < rows.length:=by omega
          have gw:=z442 Q P hw
          rw [if_pos (q5 ▸ y45 hk)] at gw
          have lw:=z441 rows.length Q P
          have hp:=hJ.pre k hk
          rw [q5,y75] at hp
          dsimp only at hp
          obtain ⟨fu,rfl⟩:∃ m,fu=m+1:=⟨fu - 1,by omega⟩
          rw [Nat.add_sub_cancel] at q3
          have hnext:P.getD w 0=-1∧ac++[(w:Int)]=B∨(0≤P.getD w 0∧(ac++[(w:Int)])++chn P (fu - 1) (P.getD w 0)=B∧1≤fu∧∃ k,∃ h:k < Q.length,Q[k]=P.getD w 0∧k+1≤fu):=by
            rcases hp with hp|⟨j,hj,hjk,hp⟩
            · left
              refine ⟨hp,?_⟩
              rw [← q3]
              cases fu with
              | zero=>rfl
              | succ fu =>
                rw [chn,y75,if_neg (by omega)]
            · right
              have:=hJ.inn _ (y45 hj)
              refine ⟨by omega,?_,by omega,j,hj,hp.symm,by omega⟩
              obtain ⟨fu,rfl⟩:∃ m,fu=m+1:=⟨fu - 1,by omega⟩
              rw [chn,y75,if_pos (by omega)] at q3
              rw [← q3]
              simp
          have hvb : -1≤P.getD w 0∧P.getD w 0 < rows.length:=by
            rcases hnext with ⟨h,_⟩|⟨h,_,_,j,hj,hp2,_⟩
            · omega
            · have:=hJ.inn _ (y45 hj)
              omega
          clear hp
          generalize P.getD w 0=v at *
          repeat' ((first|(apply y83 ok;rfl)|(refine z16 (i:=w) rfl gw ?_)|(apply y44;first|omega|((try dsimp only);simp only [y50,y49,y48,y47,y57,y58];omega)|exact ⟨rfl,z23 rfl z29⟩))<;>conv=>whnf)
          all_goals refine z40 (fu,ac++[(w:Int)],v) ⟨by simp only [y48,List.length_singleton];omega,?_⟩ ?_ (by refine swR [0,3] [] rfl rfl ?_;(repeat' first|exact y85 _|exact z13 _|(refine z55 ?_;((simp;done)))|((first|refine z75 rfl ?_ ?_|refine z9 rfl ?_ ?_);(focus ((repeat' (first|exact z1 (fun _=>rfl)|apply z63));done)))|(refine z99 ?_ ?_;(focus (omega)))|constructor))
          all_goals dsimp only
          all_goals first|(rcases hnext with ⟨h1,h2⟩|h1<;>first|exact .inr ⟨h1,h2⟩|exact .inl h1)|(rw [if_pos (show (0:Int)≤w by omega)];split<;>omega)
        · have cr:=z598 ac (by omega) (by omega)
          have cc:=z358 (rvs ac) (by rw [z425];omega)
          have el:=z425 ac
          rw [← rvs_eq]
          generalize rvs ac=D at *
          rw [el] at cc ⊢
          repeat' ((first|(apply y83 ok;rfl)|((first|(apply z169 [1] [] cr;rfl;(focus ((repeat' first|exact z11|apply z28)<;>(refine z44 rfl ?_;((exact z1 fun _=>rfl))))))|(apply z169 [1] [] cc;rfl;(focus ((repeat' first|exact z11|apply z28)<;>(refine z44 rfl ?_;((exact z1 fun _=>rfl)))))));rfl;(focus ((repeat' first|exact z10|apply z14)<;>(refine z26 ?_;((exact z1 fun _=>rfl)))))))<;>conv=>whnf)
          all_goals (refine rsD [1] [] rfl ?_;(repeat' first|exact y85 _|exact z13 _|refine z9 rfl (z1 (fun _=>rfl)) ?_|constructor))
    · have hG:=(y70 _).mp hG
      rw [hG] at cf
      have hno2:∀ k (_:k < i+1) (h:k < (srS rows ini (i+1)).1.length),G ((srS rows ini (i+1)).1[k])=false:=by
        obtain ⟨t,ht⟩:=z637 (rows:=rows) (ini:=ini) (show i≤i+1 by omega)
        intro k hk h
        have hki:k < (srS rows ini i).1.length:=by omega
        have e:(srS rows ini (i+1)).1[k]=(srS rows ini i).1[k]:=by
          simp only [ht,List.getElem_append_left hki]
        rw [e]
        by_cases hk3:k < i
        · exact hno k hk3 hki
        · obtain rfl:k=i:=by omega
          exact hG
      have hile:i+1≤rows.length:=by omega
      have hJv:=fun l hl=>PJ.visPs (N:=rows.length) l hJ hi2 rfl hl
      clear hfnd hpre hno
      generalize hS' : srS rows ini (i+1)=S' at *
      generalize hS:srS rows ini i=S at *
      obtain ⟨Q,P⟩:=S
      dsimp only at *
      have hi4:i < Q.length:=hi2
      generalize hxx:Q[i]=x at *
      obtain ⟨u,rfl⟩:∃ u:Nat,x=u:=⟨x.toNat,by omega⟩
      rw [y75] at hnx
      have hu:u < rows.length:=by omega
      have gr:=z528 hu
      have hrow:=z211 hr (u:Int)
      rw [y75] at hrow
      have hrowl:(rows.getD u []).length≤1000000000:=by rw [z18 hu];exact hrl _ (y45 _)
      generalize rows.getD u []=row at *
      repeat' ((first|(apply y83 ok;rfl)|(refine z16 (i:=i) rfl gx ?_)|(refine z16 (i:=u) rfl gr ?_)|(apply y44;omega)|((apply z2)<;>intro _)|(apply z0 (cf);rfl;rfl))<;>conv=>whnf)
      all_goals try (exfalso;omega)
      all_goals
        refine z88 (fun j:Nat=>([(0,lst 1 encL rows),(2,.fn (.func f) [] [.pt c1,.pt c2]),(7,.sref 0 0 rows.length),(9,.sref 1 0 (visPs (u:Int) (Q,P) (row.take j)).1.length),(12,.int i),(76,ints row),(77,.int row.length),(78,.int j)],[.cells 1 ((frm rows.length (visPs (u:Int) (Q,P) (row.take j)).1 (visPs (u:Int) (Q,P) (row.take j)).2).map enI),.cells 1 ((visPs (u:Int) (Q,P) (row.take j)).1.map enI)])) (fun j=>j≤row.length) (fun j=>row.length - j) 0 (y54 _) (by refine swR [0,1] [] rfl rfl ?_;(repeat' first|exact y85 _|exact z13 _|refine z9 rfl (z1 (fun _=>rfl)) ?_|constructor)<;>(fail)) ?_
        intro j hj
        obtain ⟨hJj,hij,hxj⟩:=hJv (row.take j) (fun x hx=>hrow x (List.mem_of_mem_take hx))
        have hQjl:(visPs (u:Int) (Q,P) (row.take j)).1.length≤rows.length:=z147 _ _ hJj.nd hJj.inn
        have gxj:((visPs (u:Int) (Q,P) (row.take j)).1.map enI)[i]?=some (enI (u:Int)):=by
          rw [y52,y46 hij,hxj];rfl
        by_cases hj2:j < row.length
        · have gj:(row.map enI)[j]?=some (enI row[j]):=by rw [y52,y46 hj2];rfl
          have hv:=hrow _ (y45 hj2)
          have et:=z417 (u:=(u:Int)) (x:=(Q,P)) hj2
          have hge:=hJj.pre
          generalize hT' : visPs (u:Int) (Q,P) (row.take (j+1))=T' at *
          generalize hT:visPs (u:Int) (Q,P) (row.take j)=T at *
          generalize row[j]=v at *
          obtain ⟨w,rfl⟩:∃ w:Nat,v=w:=⟨v.toNat,by omega⟩
          have hw:w < rows.length:=by omega
          have gw:=z442 T.1 T.2 hw
          have lw:=z441 rows.length T.1 T.2
          have hTl:=hJj.len
          by_cases hm:(w:Int)∈T.1
          · rw [z366 hm] at et
            rw [if_pos hm] at gw
            have hwv : -1≤T.2.getD w 0:=by
              obtain ⟨k,hk,ek⟩:=List.mem_iff_getElem.1 hm
              have h1:=hge k hk
              rw [ek,y75] at h1
              rcases h1 with h1|⟨y,hy,_,h1⟩
              · omega
              · have:=hJj.inn _ (y45 hy);omega
            generalize T.2.getD w 0=pv at *
            repeat' ((first|(apply y83 ok;rfl)|(refine z16 (i:=j) rfl gj ?_)|(refine z16 (i:=w) rfl gw ?_)|(apply y44;first|omega|(unfold inI;omega))|(((apply z4;omega));intro _)|((apply z2)<;>intro _))<;>conv=>whnf)
            all_goals try (exfalso;omega)
            all_goals refine z40 (j+1) hj2 (by omega) ?_
            all_goals dsimp only
            all_goals rw [hT',et]
            all_goals exact (by refine swR [0,1] [] rfl rfl ?_;(repeat' first|exact y85 _|exact z13 _|refine z9 rfl (z1 (fun _=>rfl)) ?_|constructor))
          · rw [z367 hm,y75] at et
            rw [if_neg hm] at gw
            have e1:=z496 (Q:=T.1) (u:=(u:Int)) hw hTl
            repeat' ((first|(apply y83 ok;rfl)|(refine z16 (i:=j) rfl gj ?_)|(refine z16 (i:=w) rfl gw ?_)|(refine z16 (i:=i) rfl gxj ?_)|(apply y44;first|omega|(unfold inI;omega)|((try dsimp only);simp only [y50,y49,y48,y47,y57,y58];omega)|exact ⟨rfl,z23 rfl z29⟩)|((apply z2)<;>intro _))<;>conv=>whnf)
            all_goals try (exfalso;omega)
            all_goals refine z40 (j+1) hj2 (by omega) ?_
            all_goals dsimp only
            all_goals rw [hT',et]
            all_goals dsimp only
            all_goals exact (by refine swR [0,3] [] rfl rfl ?_;(repeat' first|exact y85 _|(refine z55 ?_;((simp;done)))|((first|refine z75 rfl ?_ ?_|refine z78 rfl ?_ ?_);(focus ((repeat' (first|exact z1 (fun _=>rfl)|apply z63));done)))|(refine z99 ?_ ?_;(focus (omega)))|constructor)<;>((refine z48 ?_;exact e1)))
        obtain rfl:j=row.length:=by omega
        rw [y55,← hnx] at *
        repeat' ((first|(apply y83 ok;rfl)|(apply y44;first|omega|(unfold inI;omega))|((first|(with_reducible apply z4;omega)|(apply z4;omega));intro _)|((apply z2)<;>intro _))<;>conv=>whnf)
        all_goals try (exfalso;omega)
        all_goals refine z40 (i+1) ⟨hile,by rw [hS'];exact hno2⟩ (by omega) ?_
        all_goals dsimp only
        all_goals rw [hS']
        all_goals exact (by refine swR [0,1] [] rfl rfl ?_;(repeat' first|exact y85 _|exact z13 _|refine z9 rfl (z1 (fun _=>rfl)) ?_|constructor))
  · rw [z889 (G:=G) (by omega) hi1 (fun k hk=>hno k (by omega) hk)]
    repeat' ((first|(apply y83 ok;rfl)|(apply y44;omega)|(((apply z4;omega));intro _)|((apply z2)<;>intro _))<;>conv=>whnf)
    all_goals try (exfalso;omega)
    all_goals (refine y88 1 ?_;refine rsD [2] [] rfl ?_;(repeat' first|exact z54|refine z9 rfl (z19) ?_|constructor))
theorem z1102 (v x:Int):CallsA Tryz.prog 142 [.int x,.pt [.int v]] [] (.bool (decide (x=v))) []:=by
 refine z5 z12 Tryz.func142 rfl rfl 7 Tryz.ntmps142 (by simp) ?_
 repeat' (((apply y83 ok;rfl))<;>conv=>whnf)
 all_goals (refine rsD [] [] rfl ?_;(repeat' first|exact y85 _|constructor))
theorem z1014 (rows:List (List Int)) (hrl:∀ r∈rows,r.length≤1000000000) (v x:Int) (hx:0≤x∧x < rows.length):CallsA Tryz.prog 208 [.int x,.pt [.int v],.pt [lst 1 encL rows]] [] (.bool (decide (x≠v) && decide (v∈rows.getD x.toNat []))) []:=by
 obtain ⟨u,rfl⟩:∃ u:Nat,x=u:=⟨x.toNat,by omega⟩
 rw [y75]
 have hu:u < rows.length:=by omega
 have gr:=z528 hu
 have hrow:(rows.getD u []).length≤1000000000:=by rw [z18 hu];exact hrl _ (y45 _)
 have cct:=z172 (rows.getD u []) (by unfold maxLen;omega) v
 generalize rows.getD u []=row at *
 refine z5 z12 Tryz.func208 rfl rfl 16 Tryz.ntmps208 (by simp) ?_
 by_cases h:(u:Int)=v
 ·rw [y81 (by simp [h]),Bool.false_and]
  repeat' ((first|(apply y83 ok;rfl)|(apply z7;kernel_rfl)|(refine z16 (i:=u) rfl gr ?_)|(apply y44;omega)|((apply z8)<;>intro _)|(apply z0 (cct);rfl;rfl))<;>conv=>whnf)
  all_goals try (exfalso;omega)
  all_goals (refine rsD [] [] rfl ?_;(repeat' first|exact y85 _|constructor))
 ·rw [y80 h,Bool.true_and]
  repeat' ((first|(apply y83 ok;rfl)|(apply z7;kernel_rfl)|(refine z16 (i:=u) rfl gr ?_)|(apply y44;omega)|((apply z8)<;>intro _)|(apply z0 (cct);rfl;rfl))<;>conv=>whnf)
  all_goals try (exfalso;omega)
  all_goals (refine rsD [] [] rfl ?_;(repeat' first|exact y85 _|constructor))
set_option maxHeartbeats 3200000 in
theorem z1013 (rows : List (List Int)) (v : Int) (hr : ∀ r ∈ rows, InN rows.length r) (hv : 0 ≤ v ∧ v < rows.length) (hN : rows.length ≤ 100000) (hrl : ∀ r ∈ rows, r.length ≤ 1000000000) :
    CallsA Tryz.prog 143 [lst 1 encL rows,.int v] [] (.sref 0 0 (aroL rows v).length) [.cells 1 ((aroL rows v).map enI)]:=by
  obtain ⟨u,rfl⟩:∃ u:Nat,v=u:=⟨v.toNat,by omega⟩
  have hu:u < rows.length:=by omega
  have gr:=z528 hu
  have hrow:(rows.getD u []).length≤1000000000:=by rw [z18 hu];exact hrl _ (y45 _)
  have cct:=z172 (rows.getD u []) (by unfold maxLen;omega) (u:Int)
  have csh:=z646 rows [(u:Int)] hr (z343 hv) (by simp) hN hrl (fun n=>decide (n≠(u:Int)) && decide ((u:Int)∈rows.getD n.toNat [])) 208 [.int (u:Int)] [lst 1 encL rows] (fun x h0 h1=>z1014 rows hrl u x ⟨h0,h1⟩)
  unfold aroL
  rw [y75]
  by_cases h:(u:Int)∈rows.getD u []
  · rw [if_pos h]
    rw [y80 h] at cct
    generalize rows.getD u []=row at *
    refine z5 z12 Tryz.func143 rfl rfl 18 Tryz.ntmps143 (by simp) ?_
    repeat' ((first|(apply y83 ok;rfl)|(apply z7;kernel_rfl)|(refine z16 (i:=u) rfl gr ?_)|(apply y44;omega)|(apply z0 (cct);rfl;rfl))<;>conv=>whnf)
    all_goals (refine rsD [2] [] rfl ?_;(repeat' first|exact y85 _|apply y86|constructor))
  · rw [if_neg h]
    rw [y81 h] at cct
    generalize shL rows [(u:Int)] (fun n=>decide (n≠(u:Int)) && decide ((u:Int)∈rows.getD n.toNat []))=D at *
    generalize rows.getD u []=row at *
    refine z5 z12 Tryz.func143 rfl rfl 18 Tryz.ntmps143 (by simp) ?_
    repeat' ((first|(apply y83 ok;rfl)|(apply z7;kernel_rfl)|(refine z16 (i:=u) rfl gr ?_)|(apply y44;omega)|(apply z0 (cct);rfl;rfl)|(apply z140 [] [0,1,2] [3] csh;(focus ((repeat' first|exact z65|apply z36)<;>rfl));rfl;rfl;(focus ((repeat' first|exact z10|apply z14)<;>(refine z26 ?_;((exact z1 fun _=>rfl)))));((refine .inr ⟨rfl,?_⟩;repeat' first|exact True.intro|apply y44|exact z59 (fun _=>rfl) _))))<;>conv=>whnf)
    all_goals (refine rsD [3] [] rfl ?_;(repeat' first|exact y85 _|exact z13 _|refine z9 rfl (z1 (fun _=>rfl)) ?_|constructor))
noncomputable def lasR (rows:List (List Int)) (ini:List Int) (G:Int→Bool):List Int×List Int:=(lasL rows ini G).getD ([],[])
set_option maxHeartbeats 6400000 in
theorem z1101 (rows : List (List Int)) (ini : List Int) (hr : ∀ r ∈ rows, InN rows.length r) (hi : InN rows.length ini) (hn : ini.Nodup) (hN : rows.length ≤ 100000) (hrl : ∀ r ∈ rows, r.length ≤ 1000000000) (G : Int → Bool) (f : FuncId) (c1 c2 : List AC) (hf : ∀ x : Int, 0 ≤ x → x < rows.length → CallsA Tryz.prog f [.int x, .pt c1, .pt c2] [] (.bool (G x)) []) :
    CallsA Tryz.prog 69 [lst 1 encL rows,ints ini,.fn (.func f) [] [.pt c1,.pt c2]] [] (.tup [.sref 0 0 ((lasR rows ini G).1.take ((lasR rows ini G).1.length - 1)).length,.sref 1 0 (lasR rows ini G).2.length,.bool (lasL rows ini G).isSome]) [.cells 1 (((lasR rows ini G).1.take ((lasR rows ini G).1.length - 1)).map enI),.cells 1 ((lasR rows ini G).2.map enI)]:=by
  have hil:ini.length≤100000:=by have:=z147 rows.length ini hn hi;omega
  have cC:=z997 rows hr hN hrl
  have cO:=z730 rows ini hr hi hN hrl (by omega)
  have hQi:=z463 hr hi rows.length
  have hQl:=z362 hr hi rows.length
  have hcl:=cycB_len rows
  have hcg:∀ i,i < rows.length→((cycB rows).map enB)[i]?=some (enB (cycD rows i)):=fun i h=>z1133 (cycD rows) h
  have hto:=fun v hv=>shL_to (rows:=rows) (ini:=ini) hn (v:=v) hv
  have hrR:∀ k,k < (bfsL rows ini).length→(G ((bfsL rows ini).getD k 0) && cycD rows ((bfsL rows ini).getD k 0).toNat)=true→(∀ j,j < k→(G ((bfsL rows ini).getD j 0) && cycD rows ((bfsL rows ini).getD j 0).toNat)=false)→lasL rows ini G=some (bkw (srP rows ini) rows.length ((bfsL rows ini).getD k 0) [],cycL rows ((bfsL rows ini).getD k 0)):=fun k hk h1 h2=>by
    unfold lasL
    have:(bfsL rows ini).find? (fun v=>G v && cycD rows v.toNat)=some ((bfsL rows ini).getD k 0):=by
      rw [z18 hk] at h1 ⊢
      rw [List.find?_eq_some_iff_getElem]
      refine ⟨h1,k,hk,rfl,fun j hj=>?_⟩
      have:=h2 j hj
      rw [z18 (by omega)] at this
      rw [this];rfl
    rw [this];rfl
  have hrN:(∀ j,j < (bfsL rows ini).length→(G ((bfsL rows ini).getD j 0) && cycD rows ((bfsL rows ini).getD j 0).toNat)=false)→lasL rows ini G=none:=fun h=>by
    unfold lasL
    have:(bfsL rows ini).find? (fun v=>G v && cycD rows v.toNat)=none:=by
      rw [List.find?_eq_none]
      intro x hx
      obtain ⟨j,hj,rfl⟩:=List.mem_iff_getElem.1 hx
      have:=h j hj
      rw [z18 hj] at this
      rw [this];simp
    rw [this];rfl
  unfold lasR
  change (bfsL rows ini).length≤rows.length at hQl
  change InN rows.length (bfsL rows ini) at hQi
  generalize lasL rows ini G=L at *
  generalize cycB rows=C at *
  generalize bfsL rows ini=Q at *
  refine z5 z12 Tryz.func69 rfl rfl 45 Tryz.ntmps69 (by simp) ?_
  repeat' ((first|(apply y83 ok;rfl)|((first|(apply z64 [] [0] cC;rfl;rfl)|(apply z64 [] [1] cO;rfl;rfl));rfl;(focus ((repeat' first|exact z10|apply z14)<;>(refine z26 ?_;((exact z1 fun _=>rfl)))))))<;>conv=>whnf)
  refine z88 (fun i:Nat=>([(0,lst 1 encL rows),(1,ints ini),(2,.fn (.func f) [] [.pt c1,.pt c2]),(9,.sref 0 0 rows.length),(17,.sref 1 0 Q.length),(18,.int Q.length),(19,.int i)],[.cells 1 (C.map enB),.cells 1 (Q.map enI)])) (fun i=>i≤Q.length∧∀ j,j < i→(G (Q.getD j 0) && cycD rows (Q.getD j 0).toNat)=false) (fun i=>Q.length - i) 0 ⟨y54 _,fun j hj=>by omega⟩ (by refine swR [0,1] [] rfl rfl ?_;(repeat' first|exact y85 _|exact z13 _|refine z9 rfl (z1 (fun _=>rfl)) ?_|constructor)) ?_
  rintro i ⟨hi1,hno⟩
  by_cases hi2:i < Q.length
  · have hm:=z401 hi2
    have hx:=hQi _ hm
    have gx:(Q.map enI)[i]?=some (enI (Q.getD i 0)):=by rw [y52,y46 hi2,z18 hi2];rfl
    have cf:=hf _ hx.1 hx.2
    have hsome:=fun h=>hrR i hi2 h hno
    have hnxt:(G (Q.getD i 0) && cycD rows (Q.getD i 0).toNat)=false→∀ j,j < i+1→(G (Q.getD j 0) && cycD rows (Q.getD j 0).toNat)=false:=fun h j hj=>by
      by_cases e:j=i
      · subst e;exact h
      · exact hno j (by omega)
    have hsh:=hto _ hm
    have csh:=z647 rows ini hr hi hn hN hrl (fun n=>decide (n=Q.getD i 0)) 142 [.int (Q.getD i 0)] (fun x _ _=>z1102 (Q.getD i 0) x)
    have car:=z1013 rows (Q.getD i 0) hr hx hN hrl
    rw [hsh] at csh
    rw [aroL_eq] at car
    have hb1:=z561 (srP rows ini) rows.length (Q.getD i 0) []
    have hb2:=z562 (srP rows ini) rows.length (Q.getD i 0) []
    have hc2:=z682 rows (Q.getD i 0)
    have gc:=hcg (Q.getD i 0).toNat (by omega)
    rw [y58] at hb2
    clear hsh hrR hrN hto hcg hm hno
    generalize bkw (srP rows ini) rows.length (Q.getD i 0) []=B at *
    generalize cycL rows (Q.getD i 0)=Y at *
    generalize Q.getD i 0=x at *
    obtain ⟨u,rfl⟩:∃ u:Nat,x=u:=⟨x.toNat,by omega⟩
    rw [y75] at *
    by_cases hg:(G (u:Int) && cycD rows u)=true
    · have hL:=hsome hg
      obtain ⟨hg1,hg2⟩:=Bool.and_eq_true_iff.1 hg
      rw [hg1] at cf
      rw [hg2] at gc
      subst hL
      repeat' ((first|(apply y83 ok;rfl)|(apply z7;kernel_rfl)|(refine z16 (i:=i) rfl gx ?_)|(refine z16 (i:=u) rfl gc ?_)|(apply y44;first|omega|(unfold inI;omega))|((apply z2)<;>intro _)|(apply z0 (cf);rfl;rfl)|((first|(apply z140 [] [2] [3] csh;(focus ((repeat' first|exact z65|apply z36)<;>rfl));rfl)|(apply z140 [] [] [4] car;rfl;rfl));rfl;(focus ((repeat' first|exact z10|apply z14)<;>(refine z26 ?_;((exact z1 fun _=>rfl)))));(first|exact .inl rfl|(refine .inr ⟨rfl,?_⟩;repeat' first|exact True.intro|apply y44|exact z59 (fun _=>rfl) _))))<;>conv=>whnf)
      all_goals try (exfalso;omega)
      all_goals
        show RetS _ _ (.tup [.sref 0 0 (B.take (B.length - 1)).length,.sref 1 0 Y.length,.bool true]) [.cells 1 ((B.take (B.length - 1)).map enI),.cells 1 (Y.map enI)] _
        refine Gl.RetS.trunc 3 (B.length - 1) rfl ?_
        conv=>whnf
        (refine rsD [3,4] [] rfl ?_;(repeat' first|exact y85 _|exact z13 _|(refine z55 ?_;((simp;done)))|((refine z9 rfl ?_ ?_);(focus ((repeat' (first|exact z1 (fun _=>rfl)|apply z63));done)))|apply z79|constructor))
      all_goals (refine z48 ?_;rw [List.map_take])
    · have hg:=(y70 _).mp hg
      have hn2:=hnxt hg
      cases hG:G (u:Int)
      · rw [hG] at cf
        repeat' ((first|(apply y83 ok;rfl)|(refine z16 (i:=i) rfl gx ?_)|(apply y44;first|omega|(unfold inI;omega))|((apply z2)<;>intro _)|(apply z0 (cf);rfl;rfl))<;>conv=>whnf)
        all_goals try (exfalso;omega)
        all_goals refine z40 (i+1) ⟨hi2,hn2⟩ (by omega) (by refine swR [0,1] [] rfl rfl ?_;(repeat' first|exact y85 _|exact z13 _|refine z9 rfl (z1 (fun _=>rfl)) ?_|constructor))
      · rw [hG] at cf
        rw [hG,Bool.true_and] at hg
        rw [hg] at gc
        repeat' ((first|(apply y83 ok;rfl)|(refine z16 (i:=i) rfl gx ?_)|(refine z16 (i:=u) rfl gc ?_)|(apply y44;first|omega|(unfold inI;omega))|((apply z2)<;>intro _)|(apply z0 (cf);rfl;rfl))<;>conv=>whnf)
        all_goals try (exfalso;omega)
        all_goals refine z40 (i+1) ⟨hi2,hn2⟩ (by omega) (by refine swR [0,1] [] rfl rfl ?_;(repeat' first|exact y85 _|exact z13 _|refine z9 rfl (z1 (fun _=>rfl)) ?_|constructor))
  · have hL:=hrN fun j hj=>hno j (by omega)
    subst hL
    repeat' ((first|(apply y83 ok;rfl)|(apply y44;omega)|(((apply z4;omega));intro _)|((apply z2)<;>intro _))<;>conv=>whnf)
    all_goals try (exfalso;omega)
    all_goals show RetS _ _ (.tup [.sref 0 0 0,.sref 1 0 0,.bool false]) [.cells 1 [],.cells 1 []] _
    all_goals (refine y88 1 ?_;refine y88 1 ?_;refine rsD [2,3] [] rfl ?_;(repeat' first|exact y85 _|exact z54|refine z9 rfl (z19) ?_|apply z79|constructor))
end Go.Proofs.YtahhobgjcfionaaGreat
