/- A part of the proofs over this program: T33, T90, T91, T92, T93, T94, T140, T141, T142, T143. -/
import Derived.Test.YtknlmbniicacmaaGreatG0
import Derived.Test.YtknlmbniicacmaaGreatG1
import Derived.Test.YtknlmbniicacmaaGreatG2
import Derived.Test.YtknlmbniicacmaaGreatG3
import Derived.Test.YtknlmbniicacmaaGreatP0
import Derived.Test.YtknlmbniicacmaaGreatP1
import Derived.Test.YtknlmbniicacmaaGreatP2
import Derived.Test.YtknlmbniicacmaaGreatP3
set_option linter.all false
namespace Go.Proofs.YtknlmbniicacmaaGreat
open Go.Gl
section
attribute [local irreducible] z31
theorem z488 (a b:List Int) (ha:a.length≤maxLen) (hb:b.length≤maxLen):CallsA Tryz.prog 227 [lst 1 enI a,lst 1 enI b] [] (.bool (decide (a=b))) []:=by
  unfold maxLen at ha hb
  refine z17 z18 Tryz.func227 rfl rfl 26 Tryz.ntmps227 (by simp) ?_
  repeat (refine AWP.go ok _ _ _ _ _ rfl ?_)
  refine z38 (fun h=>?_) (fun h=>?_)
  · repeat (refine AWP.go ok _ _ _ _ _ rfl ?_)
    have hne:a≠b:=by rintro rfl;exact h rfl
    rw [decide_eq_false hne]
    exact ⟨[],by decide,rfl,rfl,ACle.of_eq rfl,trivial⟩
  · have hl:a.length=b.length:=by omega
    repeat (refine AWP.go ok _ _ _ _ _ rfl ?_)
    refine z634 (fun k:Nat=>([(0,lst 1 enI a),(1,lst 1 enI b),(5,.int k)],[])) (fun k=>k≤a.length∧a.take k=b.take k) (fun k=>a.length - k) 0 (by simp)
      ⟨[],rfl,by decide,rfl,⟨⟨rfl,rfl⟩,⟨rfl,rfl⟩,⟨rfl,rfl⟩,trivial⟩,trivial⟩ ?_
    intro k hk
    repeat (refine AWP.go ok _ _ _ _ _ rfl ?_)
    refine z7 (fun h=>?_) (fun h=>?_)
    · have hka:k < a.length:=by omega
      repeat (first|refine AWP.go ok _ _ _ _ _ rfl ?_|refine And.intro (by omega) ?_)
      refine ⟨_,z317 _ _ _ (by omega),?_⟩
      repeat ((refine And.intro (by omega) ?_))
      refine ⟨_,z317 _ _ _ (by omega),?_⟩
      repeat (first|refine AWP.go ok _ _ _ _ _ rfl ?_|refine z34 (by kernel_rfl) ?_)
      refine z38 (fun h=>?_) (fun h=>?_)
      · repeat (refine AWP.go ok _ _ _ _ _ rfl ?_)
        have hne:a≠b:=by rintro rfl;exact h rfl
        rw [decide_eq_false hne]
        exact ⟨[],by decide,rfl,rfl,ACle.of_eq rfl,trivial⟩
      · repeat (first|refine AWP.go ok _ _ _ _ _ rfl ?_|refine And.intro (by first|omega|(unfold inI;omega)) ?_)
        refine ⟨k+1,[],⟨by omega,?_⟩,by omega,rfl,by decide,rfl,⟨⟨rfl,rfl⟩,⟨rfl,rfl⟩,⟨rfl,rfl⟩,trivial⟩,trivial⟩
        have h' : a[k]=b[k]:=h
        rw [List.take_succ_eq_append_getElem hka,List.take_succ_eq_append_getElem (by omega),hk.2,h']
    · repeat (refine AWP.go ok _ _ _ _ _ rfl ?_)
      have he:a=b:=by
        have:=hk.2
        rwa [List.take_of_length_le (by omega),List.take_of_length_le (by omega)] at this
      rw [decide_eq_true he]
      exact ⟨[],by decide,rfl,rfl,ACle.of_eq rfl,trivial⟩
end
attribute [local irreducible] z31 AWP z48 z52 z50
end Go.Proofs.YtknlmbniicacmaaGreat

namespace Go.Proofs.YtknlmbniicacmaaGreat
open Go.Gl
attribute [local irreducible] z31 AWP z48 z52 z50 RetS z57
theorem z661 (a b:State) (ha:a.sm) (hb:b.sm):CallsA Tryz.prog 270 [.agg a.cs,.agg b.cs] [] (.bool (decide (a=b))) []:=by
  have h1:=ha.a
  have h2:=ha.b
  have h3:=hb.a
  have h4:=hb.b
  have c1:=z488 a.a b.a (by unfold maxLen;omega) (by unfold maxLen;omega)
  have c2:=z488 a.b b.b (by unfold maxLen;omega) (by unfold maxLen;omega)
  obtain ⟨a1,a2⟩:=a
  obtain ⟨b1,b2⟩:=b
  simp only at *
  have e:decide ((⟨a1,a2⟩:State)=⟨b1,b2⟩)=(decide (a1=b1) && decide (a2=b2)):=by
    by_cases h:a1=b1<;>by_cases k:a2=b2<;>simp [h,k]
  rw [e]
  generalize decide (a1=b1)=p at *
  generalize decide (a2=b2)=q at *
  refine z17 z18 Tryz.func270 rfl rfl 17 Tryz.ntmps270 (by simp) ?_
  cases p
  all_goals
    repeat' ((first|(apply AWP.go ok;rfl)|(apply z9 (c1);rfl;rfl)|(apply z9 (c2);rfl;rfl))<;>conv=>whnf)
    all_goals exact z27 rfl rfl
def z299 (t:State):List State→Int→Int
  | [],_=>-1
  | x::r,k=>if x=t then k else z299 t r (k+1)
theorem z798 (t:State):∀ (l:List State) (k:Int),0≤k→-1≤z299 t l k∧z299 t l k < k+l.length:=by
  intro l
  induction l with
  | nil=>intro k h;simp only [z299,List.length_nil];omega
  | cons x l ih =>
    intro k h
    simp only [z299,List.length_cons]
    split
    · omega
    · have:=ih (k+1) (by omega);omega
theorem z919 (t:State) (l:List State) (k:Nat) (h:k < l.length):z299 t (l.drop k) k=if l[k]=t then (k:Int) else z299 t (l.drop (k+1)) ((k+1:Nat):Int):=by
  rw [List.drop_eq_getElem_cons h,z299];rfl
theorem z1028 (l:List State) (t:State) (hl:l.length≤1000) (hs:∀ s∈l,s.sm) (ht:t.sm):CallsA Tryz.prog 223 [lst 2 State.cs l,.agg t.cs] [] (.int (z299 t l 0)) []:=by
  refine z17 z18 Tryz.func223 rfl rfl 19 Tryz.ntmps223 (by simp) ?_
  repeat' (((apply AWP.go ok;rfl))<;>conv=>whnf)
  refine z90 (fun k:Nat=>([(0,lst 2 State.cs l),(3,.ptr 0 none 0),(5,.int k)],[.cells 2 [t.cs]])) (fun k=>k≤l.length∧z299 t l 0=z299 t (l.drop k) k) (fun k=>l.length - k) 0 ⟨by omega,rfl⟩ ⟨[0],rfl,by decide,rfl,by repeat' (first|exact True.intro|exact ⟨rfl,rfl⟩|apply And.intro),by repeat' (first|exact True.intro|exact z24 rfl rfl|apply And.intro)⟩ ?_
  intro k hk
  by_cases hkl:k < l.length
  · have c:=z661 l[k] t (hs _ (List.getElem_mem _)) ht
    have e:=z919 t l k hkl
    rw [e] at hk
    have g0:(l.map State.cs)[k]?=some (State.cs l[k]):=by rw [List.getElem?_map,List.getElem?_eq_getElem hkl];rfl
    by_cases hx:l[k]=t
    · rw [if_pos hx] at hk
      rw [decide_eq_true hx] at c
      generalize l[k]=x at *
      repeat' ((first|(apply AWP.go ok;rfl)|(apply z34;kernel_rfl)|(refine z16 (i:=k) rfl g0 ?_)|(apply And.intro;omega)|((apply z7)<;>intro _)|(apply z9 (c);rfl;rfl))<;>conv=>whnf)
      all_goals first|(exfalso;omega)|exact z592 rfl hk.2
    · rw [if_neg hx] at hk
      rw [decide_eq_false hx] at c
      generalize l[k]=x at *
      repeat' ((first|(apply AWP.go ok;rfl)|(apply z34;kernel_rfl)|(refine z16 (i:=k) rfl g0 ?_)|(apply And.intro;first|omega|(unfold inI;omega))|((apply z7)<;>intro _)|(apply z9 (c);rfl;rfl))<;>conv=>whnf)
      all_goals first|(exfalso;omega)|skip
      exact z78 (k+1) [0] ⟨by omega,hk.2⟩ (by omega) ⟨rfl,by decide,rfl,by repeat' (first|exact True.intro|exact ⟨rfl,rfl⟩|apply And.intro),by repeat' (first|exact True.intro|exact z24 rfl rfl|apply And.intro)⟩
  · have e:l.drop k=[]:=List.drop_eq_nil_of_le (by omega)
    rw [e] at hk
    repeat' ((first|(apply AWP.go ok;rfl)|(apply And.intro;omega)|(((with_reducible apply z11;omega));intro _)|((apply z7)<;>intro _))<;>conv=>whnf)
    all_goals first|(exfalso;omega)|exact z592 rfl hk.2
end Go.Proofs.YtknlmbniicacmaaGreat

namespace Go.Proofs.YtknlmbniicacmaaGreat
open Go.Gl
attribute [local irreducible] z31 AWP z48 z52 z50 RetS z57
open Classical in
noncomputable def inn (s:Sys) (st0:State):List Stp→List State→List Int→Option (List State×List Int)
  | [],S,N=>some (S,N)
  | x::r,S,N =>
    if z299 (z222 s st0 x) S 0 < 0 then
      (if 60≤(S.length:Int) then none else inn s st0 r (S++[z222 s st0 x]) (if (S.length:Int)∈N then N else N++[(S.length:Int)]))
    else
      (if 60≤z299 (z222 s st0 x) S 0 then none else inn s st0 r S (if z299 (z222 s st0 x) S 0∈N then N else N++[z299 (z222 s st0 x) S 0]))
open Classical in
noncomputable def z672 (L:List Stp) (N:List Int) (i:Nat):List Int:=if L=[] then N++[(i:Int)] else N
noncomputable def grow (s:Sys):Nat→List State→List (List Int)→Nat→Option Graph
  | 0,_,_,_=>none
  | f+1,S,G,i=>match S[i]? with
    | none=>some ⟨S,G⟩
    | some st0=>match inn s st0 (z524 s st0) S [] with
      | none=>none
      | some (S',N)=>grow s f S' (G++[z672 (z524 s st0) N i]) (i+1)
theorem State.ok.sm {s:Sys} (hs:s.ok) {st:State} (h:st.ok s):st.sm:=⟨by have:=h.a;have:=hs.n3;omega,by have:=h.b.1;omega⟩
theorem z660 {s:Sys} (hs:s.ok) {st:State} : (z524 s st).length≤324:=by
  have h3:=hs.n3
  have:=z630 (n:=s.ps.length) (c:=108) (f:=fun j=>cat (s.pr j).es.length (z415 s st j)) (fun j hj=>by
    have h6:=hs.ne j hj
    have:=z630 (n:=(s.pr j).es.length) (c:=18) (f:=z415 s st j) (fun m _=>by
      unfold z415
      split
      · simp
      split
      · simp
      · exact z679 hs)
    omega)
  unfold z524
  omega
structure GInv (s:Sys) (S:List State) (G:List (List Int)) (i:Nat):Prop where
  le:i≤S.length
  n:S.length≤60
  one:1≤S.length
  g:G.length=i
  st:∀ t∈S,t.ok s
  row:∀ r∈G,r.length≤400
theorem inn_inv {s:Sys} (hs:s.ok) {st0:State} (h0:st0.ok s):∀ (L:List Stp),(∀ x∈L,x.ok s)→∀ (S:List State) (N:List Int) (S' : List State) (N' : List Int),S.length≤60→(∀ t∈S,t.ok s)→inn s st0 L S N=some (S',N')→S'.length≤60∧S.length≤S'.length∧(∀ t∈S',t.ok s)∧N'.length≤N.length+L.length∧∀ i,i < S.length→S'[i]?=S[i]?:=by
  intro L
  induction L with
  | nil =>
    intro _ S N S' N' h1 h2 h3
    simp only [inn,Option.some.injEq,Prod.mk.injEq] at h3
    obtain ⟨rfl,rfl⟩:=h3
    exact ⟨h1,Nat.le_refl _,h2,by simp,fun _ _=>rfl⟩
  | cons x L ih =>
    intro hx S N S' N' h1 h2 h3
    have hxo:=z725 hs h0 (hx x (by simp))
    have ih:=ih fun y hy=>hx y (by simp [hy])
    simp only [inn] at h3
    split at h3
    · split at h3
      · cases h3
      · obtain ⟨a1,a2,a3,a4,a5⟩:=ih _ _ S' N' (by simp;omega) (fun t ht=>by
          rcases List.mem_append.1 ht with h|h
          · exact h2 t h
          · rw [List.mem_singleton.1 h];exact hxo) h3
        refine ⟨a1,by simp at a2;omega,a3,?_,fun i hi=>by rw [a5 i (by simp;omega),List.getElem?_append_left hi]⟩
        simp only [List.length_cons]
        split at a4<;>(try simp at a4)<;>omega
    · split at h3
      · cases h3
      · obtain ⟨a1,a2,a3,a4,a5⟩:=ih _ _ S' N' h1 h2 h3
        refine ⟨a1,a2,a3,?_,a5⟩
        simp only [List.length_cons]
        split at a4<;>(try simp at a4)<;>omega
theorem grow_inv {s:Sys} (hs:s.ok):∀ (f:Nat) (S:List State) (G:List (List Int)) (i:Nat) (g:Graph),GInv s S G i→grow s f S G i=some g→GInv s g.st g.nx g.st.length:=by
  intro f
  induction f with
  | zero=>intro S G i g _ h;simp [grow] at h
  | succ f ih =>
    intro S G i g hI h
    simp only [grow] at h
    split at h
    · rename_i hn
      simp only [Option.some.injEq] at h
      subst h
      have:S.length≤i:=List.getElem?_eq_none_iff.1 hn
      have e:i=S.length:=by have:=hI.le;omega
      subst e
      exact hI
    · rename_i st0 hst
      have hil:=(List.getElem?_eq_some_iff.1 hst).1
      have h0:=hI.st st0 (List.mem_of_getElem? hst)
      split at h
      · cases h
      · rename_i S' N hin
        obtain ⟨a1,a2,a3,a4,a5⟩:=inn_inv hs h0 _ (fun x hx=>z827 x hx) _ _ _ _ hI.n hI.st hin
        have hl:=z660 hs (st:=st0)
        refine ih _ _ _ _ ⟨by omega,a1,by have:=hI.one;omega,by simp [hI.g],a3,fun r hr=>?_⟩ h
        rcases List.mem_append.1 hr with h|h
        · exact hI.row r h
        · rw [List.mem_singleton.1 h]
          unfold z672
          simp only [List.length_nil] at a4
          split<;>(try simp)<;>omega
end Go.Proofs.YtknlmbniicacmaaGreat

namespace Go.Proofs.YtknlmbniicacmaaGreat
open Go.Gl
attribute [local irreducible] z31 AWP z48 z52 z50 RetS z57
noncomputable def z309 (s:Sys):Option Graph:=if sysB s=true then grow s 61 [⟨List.replicate s.ps.length 0,s.init⟩] [] 0 else none
theorem z569 {q:Bool} : LocLe (.tup [.agg [.nils,.nils],.bool q]) (.tup [.agg (⟨[],[]⟩:Graph).cs,.bool q]):=z95 (.cons (z44 (.cons z53 (.cons z53 .nil))) (.cons (LocLe.refl _) .nil))
theorem z396 {objs:Nat→AObj} {π Bn:List Nat} {o:Nat} {l:List State} (ho:objs o=.cells 2 (l.map State.cs)) (h1:idx π o=none) (h2:inB Bn o=true):bor objs π Bn (.sref o 0 l.length)=lst 2 State.cs l :=
  z363 ho h1 h2 (by simp) (z41 (fun _=>rfl) _)
set_option maxHeartbeats 6400000 in
theorem z631 (s:Sys) (hsm:s.sm):CallsA Tryz.prog 168 [.agg s.cs] [] (.tup [.agg ((z309 s).getD ⟨[],[]⟩).cs,.bool (z309 s).isSome]) []:=by
  have c0:=z703 s hsm
  by_cases hv:sysB s=true
  · have hs:=Sys.ok_of hv
    have hn3:=hs.n3
    have eb:z309 s=grow s 61 [⟨List.replicate s.ps.length 0,s.init⟩] [] 0:=by unfold z309;rw [if_pos hv]
    rw [if_pos hv,hv] at c0
    have hI0:GInv s [⟨List.replicate s.ps.length 0,s.init⟩] [] 0:=⟨by simp,by simp,by simp,rfl,fun t ht=>by
      rw [List.mem_singleton.1 ht]
      exact ⟨by simp,hs.init⟩,by simp⟩
    rw [eb]
    generalize (⟨List.replicate s.ps.length 0,s.init⟩:State)=st1 at *
    generalize hR:grow s 61 [st1] [] 0=R at *
    refine z10 z18 Tryz.func168 rfl rfl 96 Tryz.ntmps168 (by simp) ?_
    repeat' ((first|(apply AWP.go ok;rfl)|(apply z9 (c0);rfl;rfl))<;>conv=>whnf)
    all_goals skip
    refine AWP.reach (Reach.empty 1 rfl) ?_
    refine z64 (fun x:Nat×List State×List (List Int)=>([(1,.ptr 0 none 0),(2,.ptr 1 none 0),(6,.ptr 2 none 0),(7,.int x.1)],[.cells 2 [s.cs],.cells 2 [[.nils,.nils]],.cells 2 [[.sref 3 0 x.2.1.length,.sref 4 0 x.2.2.length]],.cells 2 (x.2.1.map State.cs),.cells 1 (x.2.2.map encL)])) (fun x=>GInv s x.2.1 x.2.2 x.1∧grow s (61 - x.1) x.2.1 x.2.2 x.1=R) (fun x=>61 - x.1) (0,[st1],[]) ⟨hI0,hR⟩ (by refine SealW.reach [0,1,4,3,5] [] rfl rfl rfl rfl ?_ ?_<;>(repeat' (first|exact LocLe.refl _|exact z46|exact F2.nil|apply F2.cons|apply ObjLe.box|((refine z13 rfl ?_ ?_);(focus ((repeat' (exact z37));done)))|exact True.intro|apply And.intro))) ?_
    rintro ⟨i,S,G⟩ ⟨hI,hg⟩
    simp only at hI hg
    have hS60:=hI.n
    have hGi:=hI.g
    have hile:=hI.le
    by_cases hil:i < S.length
    · obtain ⟨st0,hst⟩:∃ st0,S[i]?=some st0:=⟨S[i],List.getElem?_eq_getElem hil⟩
      have h0:=hI.st st0 (List.mem_of_getElem? hst)
      rw [show 61 - i=(60 - i)+1 by omega,grow,hst] at hg
      dsimp only at hg
      have cS:=z911 s hs st0 h0
      have hLl:=z660 hs (st:=st0)
      have hLo:∀ x∈z524 s st0,x.ok s:=fun x hx=>z827 x hx
      have gS:(S.map State.cs)[i]?=some (State.cs st0):=by rw [List.getElem?_map,hst];rfl
      generalize z524 s st0=LST at *
      generalize hRIN:inn s st0 LST S []=RIN at *
      repeat' ((first|(apply AWP.go ok;rfl)|(apply z34;kernel_rfl)|(refine z16 (i:=i) rfl gS ?_)|(apply And.intro;omega)|((apply z7)<;>intro _)|(apply z9 (cS);rfl;rfl))<;>conv=>whnf)
      all_goals first|(exfalso;dsimp only at *;omega)|skip
      refine z64 (fun x:Nat×List State×List Int=>([(1,.ptr 0 none 0),(2,.ptr 1 none 0),(6,.ptr 2 none 0),(7,.int i),(8,lst 4 Stp.cs LST),(9,.sref 5 0 x.2.2.length),(10,.int x.1)],[.cells 2 [s.cs],.cells 2 [[.nils,.nils]],.cells 2 [[.sref 3 0 x.2.1.length,.sref 4 0 G.length]],.cells 2 (x.2.1.map State.cs),.cells 1 (G.map encL),.cells 1 (x.2.2.map enI)])) (fun x=>x.1≤LST.length∧x.2.1.length≤60∧(∀ t∈x.2.1,t.ok s)∧x.2.1[i]?=some st0∧x.2.2.length≤x.1∧inn s st0 (LST.drop x.1) x.2.1 x.2.2=RIN) (fun x=>LST.length - x.1) (0,S,[]) ⟨by simp,hS60,hI.st,hst,by simp,hRIN⟩ (by refine SealW.reach [0,1,2,3,4,5] [] rfl rfl rfl rfl ?_ ?_<;>(repeat' (first|exact LocLe.refl _|exact F2.nil|apply F2.cons|exact z12 _|apply ObjLe.box|((refine z13 rfl ?_ ?_);(focus ((repeat' (first|exact z37|exact z6 (fun _=>rfl)));done)))|exact True.intro|apply And.intro))) ?_
      rintro ⟨k,S',N⟩ ⟨hk,hS',hSo,hSi,hN,hin⟩
      simp only at hk hS' hSo hSi hN hin
      by_cases hkl:k < LST.length
      · rw [List.drop_eq_getElem_cons hkl,inn] at hin
        have hx:=hLo LST[k] (List.getElem_mem _)
        have g1:(LST.map Stp.cs)[k]?=some (Stp.cs LST[k]):=by rw [List.getElem?_map,List.getElem?_eq_getElem hkl];rfl
        have c83:=z912 s hs st0 h0 LST[k] hx
        have hto:=z725 hs h0 hx
        have g0:(S'.map State.cs)[i]?=some (State.cs st0):=by rw [List.getElem?_map,hSi];rfl
        have hiS:i < S'.length:=(List.getElem?_eq_some_iff.1 hSi).1
        generalize z222 s st0 LST[k]=to at *
        have c84:=z1028 S' to (by omega) (fun t ht=>(hSo t ht).sm hs) (hto.sm hs)
        have hfr:=z798 to S' 0 (by omega)
        generalize z299 to S' 0=n at *
        generalize LST[k]=x at *
        have cN:=fun v=>z611 N (by unfold maxLen;omega) v
        by_cases hn:n < 0
        · rw [if_pos hn] at hin
          by_cases h60:60≤(S'.length:Int)
          · rw [if_pos h60] at hin
            subst hin
            dsimp only at hg
            subst hg
            repeat' ((first|(apply AWP.go ok;rfl)|(apply z34;kernel_rfl)|(refine z16 (i:=i) rfl g0 ?_)|(refine z16 (i:=k) rfl g1 ?_)|(apply And.intro;first|omega|(dsimp only;omega)|((try dsimp only);simp only [List.length_map,List.length_take,List.length_append,List.length_replicate,List.length_cons,List.length_nil];omega)|exact ⟨rfl,z21 rfl z30⟩)|((apply z7)<;>intro _)|(apply z9 (c83);rfl;rfl)|(((apply z8 [] [3] [] (c84);(focus (exact z60 (z396 rfl rfl rfl) (z60 rfl z84)));(focus ((repeat' exact z4)<;>fail))));rfl;rfl;rfl;rfl;rfl;(focus ((repeat' exact z15)<;>fail));((refine .inr ⟨rfl,?_⟩;repeat' exact True.intro))))<;>conv=>whnf)
            all_goals first|(exfalso;omega)|(exfalso;dsimp only at *;omega)|skip
            all_goals refine RetS.lay [] [] rfl rfl rfl ?_
            all_goals exact RetS.done z569 .nil
          · rw [if_neg h60] at hin
            have cM:=cN S'.length
            by_cases hm:(S'.length:Int)∈N
            · rw [if_pos hm] at hin
              rw [decide_eq_true hm] at cM
              repeat' ((first|(apply AWP.go ok;rfl)|(apply z34;kernel_rfl)|(refine z16 (i:=i) rfl g0 ?_)|(refine z16 (i:=k) rfl g1 ?_)|(apply And.intro;first|omega|(unfold inI;omega)|(dsimp only;omega)|((try dsimp only);simp only [List.length_map,List.length_take,List.length_append,List.length_replicate,List.length_cons,List.length_nil];omega)|exact ⟨rfl,z21 rfl z30⟩)|((apply z7)<;>intro _)|(apply z9 (c83);rfl;rfl)|((first|(apply z8 [] [3] [] (c84);(focus (exact z60 (z396 rfl rfl rfl) (z60 rfl z84)));(focus ((repeat' exact z4)<;>fail)))|(apply z8 [] [5] [] (cM);(focus ((repeat' first|exact z84|apply z60)<;>first|exact z122 rfl rfl rfl|rfl));(focus ((repeat' exact z4)<;>fail))));rfl;rfl;rfl;rfl;rfl;(focus ((repeat' exact z15)<;>fail));((refine .inr ⟨rfl,?_⟩;repeat' exact True.intro))))<;>conv=>whnf)
              all_goals first|(exfalso;omega)|(exfalso;contradiction)|skip
              all_goals refine z23 (k+1,S'++[to],N) ⟨by omega,by simp;omega,fun t ht=>by rcases List.mem_append.1 ht with h|h;exact hSo t h;rw [List.mem_singleton.1 h];exact hto,by rw [← hSi];exact List.getElem?_append_left hiS,by show N.length≤k+1;omega,hin⟩ (by show LST.length - (k+1) < LST.length - k;omega) (by refine SealW.reach [0,1,2,8,4,5] [] rfl rfl rfl rfl ?_ ?_<;>(repeat' (first|exact LocLe.refl _|exact F2.nil|apply F2.cons|exact z12 _|(refine z39 ?_;((simp;done)))|apply ObjLe.box|((first|refine z35 rfl ?_ ?_|refine z13 rfl ?_ ?_);(focus ((repeat' (first|exact z6 (fun _=>rfl)|apply z22));done)))|(refine z70 ?_ ?_;(focus (omega)))|exact True.intro|apply And.intro)))
            · rw [if_neg hm] at hin
              rw [decide_eq_false hm] at cM
              repeat' ((first|(apply AWP.go ok;rfl)|(apply z34;kernel_rfl)|(refine z16 (i:=i) rfl g0 ?_)|(refine z16 (i:=k) rfl g1 ?_)|(apply And.intro;first|omega|(unfold inI;omega)|(dsimp only;omega)|((try dsimp only);simp only [List.length_map,List.length_take,List.length_append,List.length_replicate,List.length_cons,List.length_nil];omega)|exact ⟨rfl,z21 rfl z30⟩)|((apply z7)<;>intro _)|(apply z9 (c83);rfl;rfl)|((first|(apply z8 [] [3] [] (c84);(focus (exact z60 (z396 rfl rfl rfl) (z60 rfl z84)));(focus ((repeat' exact z4)<;>fail)))|(apply z8 [] [5] [] (cM);(focus ((repeat' first|exact z84|apply z60)<;>first|exact z122 rfl rfl rfl|rfl));(focus ((repeat' exact z4)<;>fail))));rfl;rfl;rfl;rfl;rfl;(focus ((repeat' exact z15)<;>fail));((refine .inr ⟨rfl,?_⟩;repeat' exact True.intro))))<;>conv=>whnf)
              all_goals first|(exfalso;omega)|(exfalso;contradiction)|skip
              all_goals refine z23 (k+1,S'++[to],N++[(S'.length:Int)]) ⟨by omega,by simp;omega,fun t ht=>by rcases List.mem_append.1 ht with h|h;exact hSo t h;rw [List.mem_singleton.1 h];exact hto,by rw [← hSi];exact List.getElem?_append_left hiS,by simp;omega,hin⟩ (by show LST.length - (k+1) < LST.length - k;omega) (by refine SealW.reach [0,1,2,8,4,10] [] rfl rfl rfl rfl ?_ ?_<;>(repeat' (first|exact LocLe.refl _|exact F2.nil|apply F2.cons|exact z12 _|(refine z39 ?_;((simp;done)))|apply ObjLe.box|((first|refine z35 rfl ?_ ?_|refine z13 rfl ?_ ?_);(focus ((repeat' (first|exact z6 (fun _=>rfl)|apply z22));done)))|(refine z70 ?_ ?_;(focus (omega)))|exact True.intro|apply And.intro)))
        · rw [if_neg hn] at hin
          by_cases h60:60≤n
          · rw [if_pos h60] at hin
            subst hin
            dsimp only at hg
            subst hg
            repeat' ((first|(apply AWP.go ok;rfl)|(apply z34;kernel_rfl)|(refine z16 (i:=i) rfl g0 ?_)|(refine z16 (i:=k) rfl g1 ?_)|(apply And.intro;omega)|((apply z7)<;>intro _)|(apply z9 (c83);rfl;rfl)|(((apply z8 [] [3] [] (c84);(focus (exact z60 (z396 rfl rfl rfl) (z60 rfl z84)));(focus ((repeat' exact z4)<;>fail))));rfl;rfl;rfl;rfl;rfl;(focus ((repeat' exact z15)<;>fail));((refine .inr ⟨rfl,?_⟩;repeat' exact True.intro))))<;>conv=>whnf)
            all_goals (exfalso;omega)
            all_goals refine RetS.lay [] [] rfl rfl rfl ?_
            all_goals exact RetS.done z569 .nil
          · rw [if_neg h60] at hin
            have cM:=cN n
            by_cases hm:n∈N
            · rw [if_pos hm] at hin
              rw [decide_eq_true hm] at cM
              repeat' ((first|(apply AWP.go ok;rfl)|(apply z34;kernel_rfl)|(refine z16 (i:=i) rfl g0 ?_)|(refine z16 (i:=k) rfl g1 ?_)|(apply And.intro;first|omega|(unfold inI;omega)|(dsimp only;omega))|((apply z7)<;>intro _)|(apply z9 (c83);rfl;rfl)|((first|(apply z8 [] [3] [] (c84);(focus (exact z60 (z396 rfl rfl rfl) (z60 rfl z84)));(focus ((repeat' exact z4)<;>fail)))|(apply z8 [] [5] [] (cM);(focus ((repeat' first|exact z84|apply z60)<;>first|exact z122 rfl rfl rfl|rfl));(focus ((repeat' exact z4)<;>fail))));rfl;rfl;rfl;rfl;rfl;(focus ((repeat' exact z15)<;>fail));((refine .inr ⟨rfl,?_⟩;repeat' exact True.intro))))<;>conv=>whnf)
              all_goals first|(exfalso;omega)|skip
              all_goals refine z23 (k+1,S',N) ⟨by omega,hS',hSo,hSi,by show N.length≤k+1;omega,hin⟩ (by show LST.length - (k+1) < LST.length - k;omega) (by refine SealW.reach [0,1,2,3,4,5] [] rfl rfl rfl rfl ?_ ?_<;>(repeat' (first|exact LocLe.refl _|exact F2.nil|apply F2.cons|exact z12 _|apply ObjLe.box|((refine z13 rfl ?_ ?_);(focus ((repeat' ((exact z6 (fun _=>rfl))));done)))|exact True.intro|apply And.intro)))
            · rw [if_neg hm] at hin
              rw [decide_eq_false hm] at cM
              repeat' ((first|(apply AWP.go ok;rfl)|(apply z34;kernel_rfl)|(refine z16 (i:=i) rfl g0 ?_)|(refine z16 (i:=k) rfl g1 ?_)|(apply And.intro;first|omega|(unfold inI;omega)|(dsimp only;omega)|((try dsimp only);simp only [List.length_map,List.length_take,List.length_append,List.length_replicate,List.length_cons,List.length_nil];omega)|exact ⟨rfl,z21 rfl z30⟩)|((apply z7)<;>intro _)|(apply z9 (c83);rfl;rfl)|((first|(apply z8 [] [3] [] (c84);(focus (exact z60 (z396 rfl rfl rfl) (z60 rfl z84)));(focus ((repeat' exact z4)<;>fail)))|(apply z8 [] [5] [] (cM);(focus ((repeat' first|exact z84|apply z60)<;>first|exact z122 rfl rfl rfl|rfl));(focus ((repeat' exact z4)<;>fail))));rfl;rfl;rfl;rfl;rfl;(focus ((repeat' exact z15)<;>fail));((refine .inr ⟨rfl,?_⟩;repeat' exact True.intro))))<;>conv=>whnf)
              all_goals first|(exfalso;omega)|skip
              all_goals refine z23 (k+1,S',N++[n]) ⟨by omega,hS',hSo,hSi,by simp;omega,hin⟩ (by show LST.length - (k+1) < LST.length - k;omega) (by refine SealW.reach [0,1,2,3,4,8] [] rfl rfl rfl rfl ?_ ?_<;>(repeat' (first|exact LocLe.refl _|exact F2.nil|apply F2.cons|exact z12 _|(refine z39 ?_;((simp;done)))|apply ObjLe.box|((first|refine z35 rfl ?_ ?_|refine z13 rfl ?_ ?_);(focus ((repeat' (first|exact z6 (fun _=>rfl)|apply z22));done)))|(refine z70 ?_ ?_;(focus (omega)))|exact True.intro|apply And.intro)))
      · rw [List.drop_eq_nil_of_le (by omega),inn] at hin
        subst hin
        dsimp only at hg
        have hiS:i < S'.length:=(List.getElem?_eq_some_iff.1 hSi).1
        have hnext:GInv s S' (G++[z672 LST N i]) (i+1):=⟨by omega,hS',by omega,by simp [hGi],hSo,fun r hr=>by
          rcases List.mem_append.1 hr with h|h
          · exact hI.row r h
          · rw [List.mem_singleton.1 h]
            unfold z672
            split<;>(try simp)<;>omega⟩
        rw [show 60 - i=61 - (i+1) by omega] at hg
        by_cases hz:LST=[]
        · have er:z672 LST N i=N++[(i:Int)]:=by unfold z672;rw [if_pos hz]
          have hz0:LST.length=0:=by rw [hz];rfl
          rw [er] at hg hnext
          repeat' ((first|(apply AWP.go ok;rfl)|(apply And.intro;first|omega|(unfold inI;omega)|(dsimp only;omega)|((try dsimp only);simp only [List.length_map,List.length_take,List.length_append,List.length_replicate,List.length_cons,List.length_nil];omega)|exact ⟨rfl,z21 rfl z30⟩)|((first|(with_reducible apply z11;omega)|(apply z11;omega));intro _)|((apply z7)<;>intro _))<;>conv=>whnf)
          all_goals first|(exfalso;omega)|skip
          all_goals refine z23 (i+1,S',G++[N++[(i:Int)]]) ⟨hnext,hg⟩ (by show 61 - (i+1) < 61 - i;omega) (by refine SealW.reach [0,1,2,3,9] [7] rfl rfl rfl rfl ?_ ?_<;>(repeat' (first|exact LocLe.refl _|exact F2.nil|apply F2.cons|exact z12 _|(refine z39 ?_;((simp;done)))|apply ObjLe.box|((first|refine z35 rfl ?_ ?_|refine z13 rfl ?_ ?_);(focus ((repeat' (first|exact z6 (fun _=>rfl)|apply z22));done)))|(refine z70 ?_ ?_;(focus (omega)))|((apply z75 rfl rfl rfl);(focus ((repeat (first|exact z41 (fun _=>rfl) _|apply z176|apply z278|rfl));done));(focus (((simp;done));done)))|(refine z80 ?_ ?_;(focus (simp;done)))|exact True.intro|apply And.intro)))
        · have er:z672 LST N i=N:=by unfold z672;rw [if_neg hz]
          have hz0:LST.length≠0:=fun h=>hz (List.eq_nil_of_length_eq_zero h)
          rw [er] at hg hnext
          repeat' ((first|(apply AWP.go ok;rfl)|(apply And.intro;first|omega|(unfold inI;omega)|((try dsimp only);simp only [List.length_map,List.length_take,List.length_append,List.length_replicate,List.length_cons,List.length_nil];omega)|exact ⟨rfl,z21 rfl z30⟩)|((first|(with_reducible apply z11;omega)|(apply z11;omega));intro _)|((apply z7)<;>intro _))<;>conv=>whnf)
          all_goals first|(exfalso;omega)|skip
          all_goals refine z23 (i+1,S',G++[N]) ⟨hnext,hg⟩ (by show 61 - (i+1) < 61 - i;omega) (by refine SealW.reach [0,1,2,3,7] [5] rfl rfl rfl rfl ?_ ?_<;>(repeat' (first|exact LocLe.refl _|exact F2.nil|apply F2.cons|exact z12 _|(refine z39 ?_;((simp;done)))|apply ObjLe.box|((first|refine z35 rfl ?_ ?_|refine z13 rfl ?_ ?_);(focus ((repeat' (first|exact z6 (fun _=>rfl)|apply z22));done)))|(refine z70 ?_ ?_;(focus (omega)))|((apply z75 rfl rfl rfl);(focus ((repeat ((exact z41 (fun _=>rfl) _)));done));(focus (((simp;done));done)))|exact True.intro|apply And.intro)))
    · have hn:S[i]?=none:=List.getElem?_eq_none_iff.2 (by omega)
      rw [show 61 - i=(60 - i)+1 by omega,grow,hn] at hg
      dsimp only at hg
      subst hg
      repeat' ((first|(apply AWP.go ok;rfl)|(apply And.intro;omega)|(((apply z11;omega));intro _)|((apply z7)<;>intro _))<;>conv=>whnf)
      all_goals first|(exfalso;contradiction)|skip
      all_goals (refine RetS.lay [] [3,4] rfl rfl rfl ?_;refine RetS.done ?_ ?_<;>(repeat' (first|exact LocLe.refl _|exact F2.nil|apply F2.cons|((apply z45 rfl rfl rfl);(focus ((repeat ((exact z41 (fun _=>rfl) _)));done));(focus (((simp;done));done)))|apply z44|apply z95)))
  · have eb:z309 s=none:=by unfold z309;rw [if_neg hv]
    rw [if_neg hv,(Bool.not_eq_true _).mp hv] at c0
    rw [eb]
    refine z10 z18 Tryz.func168 rfl rfl 96 Tryz.ntmps168 (by simp) ?_
    repeat' ((first|(apply AWP.go ok;rfl)|(apply z9 (c0);rfl;rfl))<;>conv=>whnf)
    all_goals skip
    all_goals refine RetS.lay [] [] rfl rfl rfl ?_
    all_goals exact RetS.done z569 .nil
end Go.Proofs.YtknlmbniicacmaaGreat

namespace Go.Proofs.YtknlmbniicacmaaGreat
open Go.Gl
attribute [local irreducible] z31 AWP z48 z52 z50 RetS z57
def isSt (bs:List Int) (i:Int) (q:Int) (t:State) (q' : Int):Prop:=∃ a b:Int,t=⟨[i % 3],[a,b,0]⟩∧q'=q+1+1 ∧
  CallsA Tryz.prog 73 [.ptr 0 none 0,.int 3] [rdO bs q] (.int a) [rdO bs (q+1)]∧CallsA Tryz.prog 73 [.ptr 0 none 0,.int 2] [rdO bs (q+1)] (.int b) [rdO bs (q+1+1)]
def isRow (bs:List Int) (n:Nat) (q:Int) (r:List Int) (q' : Int):Prop:=∃ a b c:Int,r=(if c=0∧b≠a then [a,b] else [a])∧q'=q+1+1+1 ∧
  CallsA Tryz.prog 73 [.ptr 0 none 0,.int n] [rdO bs q] (.int a) [rdO bs (q+1)]∧CallsA Tryz.prog 73 [.ptr 0 none 0,.int n] [rdO bs (q+1)] (.int b) [rdO bs (q+1+1)] ∧
  CallsA Tryz.prog 73 [.ptr 0 none 0,.int 2] [rdO bs (q+1+1)] (.int c) [rdO bs (q+1+1+1)]
structure Small (bs:List Int) (q q' : Int) (g:Graph) (m:Nat) (pf pg:Nat→Int):Prop where
  num:CallsA Tryz.prog 158 [.ptr 0 none 0,.sref 1 0 6] [rdO bs q,.cells 1 ([3,4,2,5,1,6].map enI)] (.int m) [rdO bs (pf 0),.cells 1 ([3,4,2,5,1,6].map enI)]
  m1:1≤m
  m6:m≤6
  sl:g.st.length=m
  nl:g.nx.length=m
  st:∀ k (h:k < g.st.length),isSt bs (m - k) (pf k) g.st[k] (pf (k+1))
  mid:pf m=pg 0
  row:∀ k (h:k < g.nx.length),isRow bs m (pg k) g.nx[k] (pg (k+1))
  last:pg m=q'
  q0:q≤q'
  q1:q'≤q+40
theorem z830 (bs:List Int) (hb:BytesOk bs) (q:Int) (hq:0≤q∧q≤999990000):∃ g q' m pf pg,Small bs q q' g m pf pg:=by
  obtain ⟨w,mw,cw⟩:=z88 bs hb q (by omega) (by omega) [3,4,2,5,1,6] (by decide) (by decide)
  simp only [List.mem_cons,List.not_mem_nil,or_false] at mw
  obtain ⟨m,rfl⟩:∃ m:Nat,w=m:=⟨w.toNat,by omega⟩
  obtain ⟨S,pf,h1,h2,h3,h4⟩:=z302 (fun k r t r'=>isSt bs (m - k) r t r') (q+1) 2 m (fun k r hk a1 a2=>by
    obtain ⟨a,_,ca⟩:=z59 bs hb r 3 (by omega) (by omega) (by omega)
    obtain ⟨b,_,cb⟩:=z59 bs hb (r+1) 2 (by omega) (by omega) (by omega)
    exact ⟨_,_,⟨a,b,rfl,rfl,ca,cb⟩,by omega,by omega⟩)
  have h5:=h4 m (Nat.le_refl _)
  obtain ⟨G,pg,g1,g2,g3,g4⟩:=z302 (fun _ r t r'=>isRow bs m r t r') (pf m) 3 m (fun k r hk a1 a2=>by
    obtain ⟨a,_,ca⟩:=z59 bs hb r m (by omega) (by omega) (by omega)
    obtain ⟨b,_,cb⟩:=z59 bs hb (r+1) m (by omega) (by omega) (by omega)
    obtain ⟨c,_,cc⟩:=z59 bs hb (r+1+1) 2 (by omega) (by omega) (by omega)
    exact ⟨_,_,⟨a,b,c,rfl,rfl,ca,cb,cc⟩,by omega,by omega⟩)
  have g5:=g4 m (Nat.le_refl _)
  exact ⟨⟨S,G⟩,pg m,m,pf,pg,by rw [← h2] at cw;exact cw,by omega,by omega,h1,g1,h3,g2.symm,g3,rfl,by omega,by omega⟩
theorem Small.sm {bs:List Int} {q q' : Int} {g:Graph} {m:Nat} {pf pg:Nat→Int} (h:Small bs q q' g m pf pg):g.sm:=by
  have h1:=h.sl
  have h2:=h.nl
  have h3:=h.m6
  refine ⟨by omega,by omega,fun s hs=>?_,fun r hr=>?_⟩
  · obtain ⟨i,hi,rfl⟩:=List.mem_iff_getElem.1 hs
    obtain ⟨a,b,e,_⟩:=h.st i hi
    rw [e];exact ⟨by simp,by simp⟩
  · obtain ⟨i,hi,rfl⟩:=List.mem_iff_getElem.1 hr
    obtain ⟨a,b,c,e,_⟩:=h.row i hi
    rw [e];split<;>simp
set_option maxHeartbeats 6400000 in
theorem z908 (bs:List Int) (hb:BytesOk bs) (p:Int) (hp:few3 p):∃ (g:Graph) (p' : Int),(g.sm∧1≤g.st.length∧g.nx.length=g.st.length∧p≤p'∧p'≤p+5000)∧CallsA Tryz.prog 86 [.ptr 0 none 0] [rdO bs p] (.agg g.cs) [rdO bs p']:=by
  obtain ⟨v,⟨v0,v1⟩,cv⟩:=z59 bs hb p 3 (by omega) (by omega) (by omega)
  by_cases hv:0 < v
  · obtain ⟨s,q0,⟨hs,s0,s1⟩,cs⟩:=z789 bs hb (p+1) ⟨by omega,by omega⟩
    have cB:=z631 s hs
    by_cases hr:∃ g,z309 s=some g∧g.st.length≤24
    · obtain ⟨g,hg,hl⟩:=hr
      have hI:GInv s g.st g.nx g.st.length:=by
        have h:=hg
        unfold z309 at h
        split at h
        · rename_i hv2
          have hso:=Sys.ok_of hv2
          exact grow_inv hso 61 _ _ 0 g ⟨by simp,by simp,by simp,rfl,fun t ht=>by
            rw [List.mem_singleton.1 ht]
            exact ⟨by simp,hso.init⟩,by simp⟩ h
        · cases h
      have hso:s.ok:=by
        have h:=hg
        unfold z309 at h
        split at h
        · exact Sys.ok_of (by assumption)
        · cases h
      refine ⟨g,q0,⟨⟨by omega,by have:=hI.g;omega,fun t ht=>(hI.st t ht).sm hso,fun r hr=>by have:=hI.row r hr;omega⟩,hI.one,hI.g,by omega,by omega⟩,?_⟩
      rw [hg] at cB
      simp only [Option.getD_some,Option.isSome_some] at cB
      refine z10 z18 Tryz.func86 rfl rfl 88 Tryz.ntmps86 (by simp) ?_
      repeat' ((first|(apply AWP.go ok;rfl)|((apply z7)<;>intro _)|(apply z9 (cB);rfl;rfl)|((first|(apply z8 [0] [] [] (cv);rfl;(focus ((repeat' first|exact z4|apply z5)<;>rfl)))|(apply z8 [0] [] [] (cs);rfl;(focus ((repeat' first|exact z4|apply z5)<;>rfl))));rfl;rfl;rfl;rfl;rfl;(focus ((repeat' first|exact z15|apply z14)<;>exact z20 rfl rfl));(exact .inl rfl)))<;>conv=>whnf)
      all_goals first|(exfalso;omega)|skip
      all_goals (refine RetS.lay [0] [] rfl rfl rfl ?_;refine RetS.done ?_ ?_<;>(repeat' (first|exact LocLe.refl _|exact F2.nil|apply F2.cons|apply ObjLe.box)))
    · obtain ⟨g,q',m,pf,pg,F⟩:=z830 bs hb q0 (by omega)
      have m1:=F.m1
      have m6:=F.m6
      have sl:=F.sl
      have nl:=F.nl
      have z0:=F.q0
      have z1:=F.q1
      cases hB:z309 s with
      | none =>
        rw [hB] at cB
        simp only [Option.getD_none,Option.isSome_none] at cB
        refine ⟨g,q',⟨F.sm,by omega,by omega,by omega,by omega⟩,?_⟩
        have Fn:=F.num
        refine z10 z18 Tryz.func86 rfl rfl 88 Tryz.ntmps86 (by simp) ?_
        repeat' ((first|(apply AWP.go ok;rfl)|((apply z7)<;>intro _)|(apply z9 (cB);rfl;rfl)|((first|(apply z8 [0] [] [] (cv);rfl;(focus ((repeat' first|exact z4|apply z5)<;>rfl)))|(apply z8 [0] [] [] (cs);rfl;(focus ((repeat' first|exact z4|apply z5)<;>rfl)))|(apply z8 [0,4] [] [] (Fn);rfl;(focus ((repeat' first|exact z4|apply z5)<;>rfl))));rfl;rfl;rfl;rfl;rfl;(focus ((repeat' first|exact z15|apply z14)<;>first|exact z20 rfl rfl|(refine z25 ?_;((exact z6 fun _=>rfl)))));(exact .inl rfl)))<;>conv=>whnf)
        all_goals first|(exfalso;omega)|skip
        all_goals
          refine AWP.reach (Reach.empty 2 rfl) ?_
          refine z64 (fun k:Nat=>([(0,.ptr 0 none 0),(2,.ptr 1 none 0),(5,.ptr 2 none 0),(6,.int (m - k))],[rdO bs (pf k),.cells 2 [[.nils,.nils]],.cells 2 [[.sref 3 0 k,.nils]],.cells 2 ((g.st.take k).map State.cs)])) (fun k=>k≤m) (fun k=>m - k) 0 (by omega) (by refine SealW.reach [0,1,3,5] [] rfl rfl rfl rfl ?_ ?_<;>(repeat' (first|exact LocLe.refl _|exact z46|exact F2.nil|apply F2.cons|apply ObjLe.box|((refine z13 rfl ?_ ?_);(focus ((repeat' (exact z37));done)))|exact True.intro|apply And.intro))) ?_
          intro k hk
          by_cases hkm:k < m
          · have hkl:k < g.st.length:=by omega
            obtain ⟨a,b,es,eq,ca,cb⟩:=F.st k hkl
            rw [← eq] at cb
            repeat' ((first|(apply AWP.go ok;rfl)|(apply z34;kernel_rfl)|(apply And.intro;first|omega|(unfold inI;omega)|((try dsimp only);simp only [List.length_map,List.length_take,List.length_append,List.length_replicate,List.length_cons,List.length_nil];omega)|exact ⟨rfl,z21 rfl z30⟩)|((apply z7)<;>intro _)|((first|(apply z8 [0] [] [] (ca);rfl;(focus ((repeat' first|exact z4|apply z5)<;>rfl)))|(apply z8 [0] [] [] (cb);rfl;(focus ((repeat' first|exact z4|apply z5)<;>rfl))));rfl;rfl;rfl;rfl;rfl;(focus ((repeat' first|exact z15|apply z14)<;>exact z20 rfl rfl));(exact .inl rfl)))<;>conv=>whnf)
            all_goals first|(exfalso;omega)|skip
            all_goals refine z23 (k+1) (by omega) (by omega) (by refine SealW.reach [0,1,2,7] [4,5] rfl rfl rfl rfl ?_ ?_<;>(repeat' (first|exact LocLe.refl _|exact F2.nil|apply F2.cons|(refine z96 ?_;omega)|apply ObjLe.box|((refine z35 rfl ?_ ?_);(focus ((repeat' (first|exact z6 (fun _=>rfl)|apply z22));done)))|(refine z104 (by omega) (by omega) ?_)|((apply z75 rfl rfl rfl);(focus ((repeat (rfl));done));(focus ((rfl);done)))|exact True.intro|apply And.intro))<;>(rw [es];exact LocLe.refl _))
          · have e:k=m:=by omega
            subst e
            rw [List.take_of_length_le (show g.st.length≤k by omega)]
            repeat' ((first|(apply AWP.go ok;rfl)|(apply And.intro;omega)|((apply z7)<;>intro _))<;>conv=>whnf)
            all_goals first|(exfalso;omega)|skip
            refine AWP.reach (Reach.empty 1 rfl) ?_
            have Fm:=F.mid
            rw [Fm]
            refine z64 (fun i:Nat=>([(0,.ptr 0 none 0),(2,.ptr 1 none 0),(5,.ptr 2 none 0),(7,.int i)],[rdO bs (pg i),.cells 2 [[.nils,.nils]],.cells 2 [[.sref 3 0 k,.sref 4 0 i]],.cells 2 (g.st.map State.cs),.cells 1 ((g.nx.take i).map encL)])) (fun i=>i≤k) (fun i=>k - i) 0 (by omega) (by refine SealW.reach [0,1,2,3,4] [] rfl rfl rfl rfl ?_ ?_<;>(repeat' (first|exact LocLe.refl _|exact z46|exact F2.nil|apply F2.cons|exact z12 _|apply ObjLe.box|((refine z13 rfl ?_ ?_);(focus ((repeat' (first|exact z37|exact z6 (fun _=>rfl)));done)))|exact True.intro|apply And.intro))) ?_
            intro i hi
            by_cases hik:i < k
            · have hil:i < g.nx.length:=by omega
              obtain ⟨a,b,c,er,eq,ca,cb,cc⟩:=F.row i hil
              rw [← eq] at cc
              by_cases hc:c=0
              · by_cases hba:b=a
                · rw [if_neg (fun h=>h.2 hba)] at er
                  repeat' ((first|(apply AWP.go ok;rfl)|(apply And.intro;first|omega|(unfold inI;omega)|((try dsimp only);simp only [List.length_map,List.length_take,List.length_append,List.length_replicate,List.length_cons,List.length_nil];omega)|exact ⟨rfl,z21 rfl z30⟩)|apply z127|((first|apply z7|apply z38)<;>intro _)|((first|(apply z8 [0] [] [] (ca);rfl;(focus ((repeat' first|exact z4|apply z5)<;>rfl)))|(apply z8 [0] [] [] (cb);rfl;(focus ((repeat' first|exact z4|apply z5)<;>rfl)))|(apply z8 [0] [] [] (cc);rfl;(focus ((repeat' first|exact z4|apply z5)<;>rfl))));rfl;rfl;rfl;rfl;rfl;(focus ((repeat' first|exact z15|apply z14)<;>exact z20 rfl rfl));(exact .inl rfl)))<;>conv=>whnf)
                  all_goals first|(exfalso;omega)|skip
                  all_goals refine z23 (i+1) (by omega) (by omega) (by refine SealW.reach [0,1,2,3,7] [5] rfl rfl rfl rfl ?_ ?_<;>(repeat' (first|exact LocLe.refl _|exact F2.nil|apply F2.cons|exact z12 _|apply ObjLe.box|((first|refine z35 rfl ?_ ?_|refine z13 rfl ?_ ?_);(focus ((repeat' (first|exact z6 (fun _=>rfl)|apply z22));done)))|(refine z104 (by omega) (by omega) ?_)|((apply z75 rfl rfl rfl);(focus ((repeat (rfl));done));(focus ((rfl);done)))|exact True.intro|apply And.intro))<;>((rw [er];exact LocLe.refl _)))
                · rw [if_pos ⟨hc,hba⟩] at er
                  repeat' ((first|(apply AWP.go ok;rfl)|(apply And.intro;first|omega|(unfold inI;omega)|((try dsimp only);simp only [List.length_map,List.length_take,List.length_append,List.length_replicate,List.length_cons,List.length_nil];omega)|exact ⟨rfl,z21 rfl z30⟩)|apply z127|((first|apply z7|apply z38)<;>intro _)|((first|(apply z8 [0] [] [] (ca);rfl;(focus ((repeat' first|exact z4|apply z5)<;>rfl)))|(apply z8 [0] [] [] (cb);rfl;(focus ((repeat' first|exact z4|apply z5)<;>rfl)))|(apply z8 [0] [] [] (cc);rfl;(focus ((repeat' first|exact z4|apply z5)<;>rfl))));rfl;rfl;rfl;rfl;rfl;(focus ((repeat' first|exact z15|apply z14)<;>exact z20 rfl rfl));(exact .inl rfl)))<;>conv=>whnf)
                  all_goals first|(exfalso;omega)|skip
                  all_goals refine z23 (i+1) (by omega) (by omega) (by refine SealW.reach [0,1,2,3,9] [7] rfl rfl rfl rfl ?_ ?_<;>(repeat' (first|exact LocLe.refl _|exact F2.nil|apply F2.cons|exact z12 _|apply ObjLe.box|((first|refine z35 rfl ?_ ?_|refine z13 rfl ?_ ?_);(focus ((repeat' (first|exact z6 (fun _=>rfl)|apply z22));done)))|(refine z104 (by omega) (by omega) ?_)|((apply z75 rfl rfl rfl);(focus ((repeat (first|apply z176|apply z278|rfl));done));(focus ((rfl);done)))|exact True.intro|apply And.intro))<;>((rw [er];exact LocLe.refl _)))
              · rw [if_neg (fun h=>hc h.1)] at er
                repeat' ((first|(apply AWP.go ok;rfl)|(apply And.intro;first|omega|(unfold inI;omega)|((try dsimp only);simp only [List.length_map,List.length_take,List.length_append,List.length_replicate,List.length_cons,List.length_nil];omega)|exact ⟨rfl,z21 rfl z30⟩)|apply z127|((first|apply z7|apply z38)<;>intro _)|((first|(apply z8 [0] [] [] (ca);rfl;(focus ((repeat' first|exact z4|apply z5)<;>rfl)))|(apply z8 [0] [] [] (cb);rfl;(focus ((repeat' first|exact z4|apply z5)<;>rfl)))|(apply z8 [0] [] [] (cc);rfl;(focus ((repeat' first|exact z4|apply z5)<;>rfl))));rfl;rfl;rfl;rfl;rfl;(focus ((repeat' first|exact z15|apply z14)<;>exact z20 rfl rfl));(exact .inl rfl)))<;>conv=>whnf)
                all_goals first|(exfalso;omega)|skip
                all_goals refine z23 (i+1) (by omega) (by omega) (by refine SealW.reach [0,1,2,3,7] [5] rfl rfl rfl rfl ?_ ?_<;>(repeat' (first|exact LocLe.refl _|exact F2.nil|apply F2.cons|exact z12 _|apply ObjLe.box|((first|refine z35 rfl ?_ ?_|refine z13 rfl ?_ ?_);(focus ((repeat' (first|exact z6 (fun _=>rfl)|apply z22));done)))|(refine z104 (by omega) (by omega) ?_)|((apply z75 rfl rfl rfl);(focus ((repeat (rfl));done));(focus ((rfl);done)))|exact True.intro|apply And.intro))<;>((rw [er];exact LocLe.refl _)))
            · have e:i=k:=by omega
              subst e
              rw [List.take_of_length_le (show g.nx.length≤i by omega)]
              repeat' ((first|(apply AWP.go ok;rfl)|((apply z7)<;>intro _))<;>conv=>whnf)
              all_goals first|(exfalso;omega)|skip
              all_goals rw [F.last]
              all_goals (refine RetS.lay [0] [3,4] rfl rfl rfl ?_;refine RetS.done ?_ ?_<;>(repeat' (first|exact LocLe.refl _|exact F2.nil|apply F2.cons|(refine z262 ?_;omega)|apply ObjLe.box|((apply z45 rfl rfl rfl);(focus ((repeat ((exact z41 (fun _=>rfl) _)));done));(focus (((simp;omega));done)))|apply z44)))
      | some g0 =>
        have hl:¬(g0.st.length≤24):=fun h=>hr ⟨g0,hB,h⟩
        rw [hB] at cB
        simp only [Option.getD_some,Option.isSome_some] at cB
        refine ⟨g,q',⟨F.sm,by omega,by omega,by omega,by omega⟩,?_⟩
        have Fn:=F.num
        refine z10 z18 Tryz.func86 rfl rfl 88 Tryz.ntmps86 (by simp) ?_
        repeat' ((first|(apply AWP.go ok;rfl)|((apply z7)<;>intro _)|(apply z9 (cB);rfl;rfl)|((first|(apply z8 [0] [] [] (cv);rfl;(focus ((repeat' first|exact z4|apply z5)<;>rfl)))|(apply z8 [0] [] [] (cs);rfl;(focus ((repeat' first|exact z4|apply z5)<;>rfl)))|(apply z8 [0,4] [] [] (Fn);rfl;(focus ((repeat' first|exact z4|apply z5)<;>rfl))));rfl;rfl;rfl;rfl;rfl;(focus ((repeat' first|exact z15|apply z14)<;>first|exact z20 rfl rfl|(refine z25 ?_;((exact z6 fun _=>rfl)))));(exact .inl rfl)))<;>conv=>whnf)
        all_goals first|(exfalso;omega)|skip
        all_goals
          refine AWP.reach (Reach.empty 2 rfl) ?_
          refine z64 (fun k:Nat=>([(0,.ptr 0 none 0),(2,.ptr 1 none 0),(5,.ptr 2 none 0),(6,.int (m - k))],[rdO bs (pf k),.cells 2 [[.nils,.nils]],.cells 2 [[.sref 3 0 k,.nils]],.cells 2 ((g.st.take k).map State.cs)])) (fun k=>k≤m) (fun k=>m - k) 0 (by omega) (by refine SealW.reach [0,1,3,5] [] rfl rfl rfl rfl ?_ ?_<;>(repeat' (first|exact LocLe.refl _|exact z46|exact F2.nil|apply F2.cons|apply ObjLe.box|((refine z13 rfl ?_ ?_);(focus ((repeat' (exact z37));done)))|exact True.intro|apply And.intro))) ?_
          intro k hk
          by_cases hkm:k < m
          · have hkl:k < g.st.length:=by omega
            obtain ⟨a,b,es,eq,ca,cb⟩:=F.st k hkl
            rw [← eq] at cb
            repeat' ((first|(apply AWP.go ok;rfl)|(apply z34;kernel_rfl)|(apply And.intro;first|omega|(unfold inI;omega)|((try dsimp only);simp only [List.length_map,List.length_take,List.length_append,List.length_replicate,List.length_cons,List.length_nil];omega)|exact ⟨rfl,z21 rfl z30⟩)|((apply z7)<;>intro _)|((first|(apply z8 [0] [] [] (ca);rfl;(focus ((repeat' first|exact z4|apply z5)<;>rfl)))|(apply z8 [0] [] [] (cb);rfl;(focus ((repeat' first|exact z4|apply z5)<;>rfl))));rfl;rfl;rfl;rfl;rfl;(focus ((repeat' first|exact z15|apply z14)<;>exact z20 rfl rfl));(exact .inl rfl)))<;>conv=>whnf)
            all_goals first|(exfalso;omega)|skip
            all_goals refine z23 (k+1) (by omega) (by omega) (by refine SealW.reach [0,1,2,7] [4,5] rfl rfl rfl rfl ?_ ?_<;>(repeat' (first|exact LocLe.refl _|exact F2.nil|apply F2.cons|(refine z96 ?_;omega)|apply ObjLe.box|((refine z35 rfl ?_ ?_);(focus ((repeat' (first|exact z6 (fun _=>rfl)|apply z22));done)))|(refine z104 (by omega) (by omega) ?_)|((apply z75 rfl rfl rfl);(focus ((repeat (rfl));done));(focus ((rfl);done)))|exact True.intro|apply And.intro))<;>(rw [es];exact LocLe.refl _))
          · have e:k=m:=by omega
            subst e
            rw [List.take_of_length_le (show g.st.length≤k by omega)]
            repeat' ((first|(apply AWP.go ok;rfl)|(apply And.intro;omega)|((apply z7)<;>intro _))<;>conv=>whnf)
            all_goals first|(exfalso;omega)|skip
            refine AWP.reach (Reach.empty 1 rfl) ?_
            have Fm:=F.mid
            rw [Fm]
            refine z64 (fun i:Nat=>([(0,.ptr 0 none 0),(2,.ptr 1 none 0),(5,.ptr 2 none 0),(7,.int i)],[rdO bs (pg i),.cells 2 [[.nils,.nils]],.cells 2 [[.sref 3 0 k,.sref 4 0 i]],.cells 2 (g.st.map State.cs),.cells 1 ((g.nx.take i).map encL)])) (fun i=>i≤k) (fun i=>k - i) 0 (by omega) (by refine SealW.reach [0,1,2,3,4] [] rfl rfl rfl rfl ?_ ?_<;>(repeat' (first|exact LocLe.refl _|exact z46|exact F2.nil|apply F2.cons|exact z12 _|apply ObjLe.box|((refine z13 rfl ?_ ?_);(focus ((repeat' (first|exact z37|exact z6 (fun _=>rfl)));done)))|exact True.intro|apply And.intro))) ?_
            intro i hi
            by_cases hik:i < k
            · have hil:i < g.nx.length:=by omega
              obtain ⟨a,b,c,er,eq,ca,cb,cc⟩:=F.row i hil
              rw [← eq] at cc
              by_cases hc:c=0
              · by_cases hba:b=a
                · rw [if_neg (fun h=>h.2 hba)] at er
                  repeat' ((first|(apply AWP.go ok;rfl)|(apply And.intro;first|omega|(unfold inI;omega)|((try dsimp only);simp only [List.length_map,List.length_take,List.length_append,List.length_replicate,List.length_cons,List.length_nil];omega)|exact ⟨rfl,z21 rfl z30⟩)|apply z127|((first|apply z7|apply z38)<;>intro _)|((first|(apply z8 [0] [] [] (ca);rfl;(focus ((repeat' first|exact z4|apply z5)<;>rfl)))|(apply z8 [0] [] [] (cb);rfl;(focus ((repeat' first|exact z4|apply z5)<;>rfl)))|(apply z8 [0] [] [] (cc);rfl;(focus ((repeat' first|exact z4|apply z5)<;>rfl))));rfl;rfl;rfl;rfl;rfl;(focus ((repeat' first|exact z15|apply z14)<;>exact z20 rfl rfl));(exact .inl rfl)))<;>conv=>whnf)
                  all_goals first|(exfalso;omega)|skip
                  all_goals refine z23 (i+1) (by omega) (by omega) (by refine SealW.reach [0,1,2,3,7] [5] rfl rfl rfl rfl ?_ ?_<;>(repeat' (first|exact LocLe.refl _|exact F2.nil|apply F2.cons|exact z12 _|apply ObjLe.box|((first|refine z35 rfl ?_ ?_|refine z13 rfl ?_ ?_);(focus ((repeat' (first|exact z6 (fun _=>rfl)|apply z22));done)))|(refine z104 (by omega) (by omega) ?_)|((apply z75 rfl rfl rfl);(focus ((repeat (rfl));done));(focus ((rfl);done)))|exact True.intro|apply And.intro))<;>((rw [er];exact LocLe.refl _)))
                · rw [if_pos ⟨hc,hba⟩] at er
                  repeat' ((first|(apply AWP.go ok;rfl)|(apply And.intro;first|omega|(unfold inI;omega)|((try dsimp only);simp only [List.length_map,List.length_take,List.length_append,List.length_replicate,List.length_cons,List.length_nil];omega)|exact ⟨rfl,z21 rfl z30⟩)|apply z127|((first|apply z7|apply z38)<;>intro _)|((first|(apply z8 [0] [] [] (ca);rfl;(focus ((repeat' first|exact z4|apply z5)<;>rfl)))|(apply z8 [0] [] [] (cb);rfl;(focus ((repeat' first|exact z4|apply z5)<;>rfl)))|(apply z8 [0] [] [] (cc);rfl;(focus ((repeat' first|exact z4|apply z5)<;>rfl))));rfl;rfl;rfl;rfl;rfl;(focus ((repeat' first|exact z15|apply z14)<;>exact z20 rfl rfl));(exact .inl rfl)))<;>conv=>whnf)
                  all_goals first|(exfalso;omega)|skip
                  all_goals refine z23 (i+1) (by omega) (by omega) (by refine SealW.reach [0,1,2,3,9] [7] rfl rfl rfl rfl ?_ ?_<;>(repeat' (first|exact LocLe.refl _|exact F2.nil|apply F2.cons|exact z12 _|apply ObjLe.box|((first|refine z35 rfl ?_ ?_|refine z13 rfl ?_ ?_);(focus ((repeat' (first|exact z6 (fun _=>rfl)|apply z22));done)))|(refine z104 (by omega) (by omega) ?_)|((apply z75 rfl rfl rfl);(focus ((repeat (first|apply z176|apply z278|rfl));done));(focus ((rfl);done)))|exact True.intro|apply And.intro))<;>((rw [er];exact LocLe.refl _)))
              · rw [if_neg (fun h=>hc h.1)] at er
                repeat' ((first|(apply AWP.go ok;rfl)|(apply And.intro;first|omega|(unfold inI;omega)|((try dsimp only);simp only [List.length_map,List.length_take,List.length_append,List.length_replicate,List.length_cons,List.length_nil];omega)|exact ⟨rfl,z21 rfl z30⟩)|apply z127|((first|apply z7|apply z38)<;>intro _)|((first|(apply z8 [0] [] [] (ca);rfl;(focus ((repeat' first|exact z4|apply z5)<;>rfl)))|(apply z8 [0] [] [] (cb);rfl;(focus ((repeat' first|exact z4|apply z5)<;>rfl)))|(apply z8 [0] [] [] (cc);rfl;(focus ((repeat' first|exact z4|apply z5)<;>rfl))));rfl;rfl;rfl;rfl;rfl;(focus ((repeat' first|exact z15|apply z14)<;>exact z20 rfl rfl));(exact .inl rfl)))<;>conv=>whnf)
                all_goals first|(exfalso;omega)|skip
                all_goals refine z23 (i+1) (by omega) (by omega) (by refine SealW.reach [0,1,2,3,7] [5] rfl rfl rfl rfl ?_ ?_<;>(repeat' (first|exact LocLe.refl _|exact F2.nil|apply F2.cons|exact z12 _|apply ObjLe.box|((first|refine z35 rfl ?_ ?_|refine z13 rfl ?_ ?_);(focus ((repeat' (first|exact z6 (fun _=>rfl)|apply z22));done)))|(refine z104 (by omega) (by omega) ?_)|((apply z75 rfl rfl rfl);(focus ((repeat (rfl));done));(focus ((rfl);done)))|exact True.intro|apply And.intro))<;>((rw [er];exact LocLe.refl _)))
            · have e:i=k:=by omega
              subst e
              rw [List.take_of_length_le (show g.nx.length≤i by omega)]
              repeat' ((first|(apply AWP.go ok;rfl)|((apply z7)<;>intro _))<;>conv=>whnf)
              all_goals first|(exfalso;omega)|skip
              all_goals rw [F.last]
              all_goals (refine RetS.lay [0] [3,4] rfl rfl rfl ?_;refine RetS.done ?_ ?_<;>(repeat' (first|exact LocLe.refl _|exact F2.nil|apply F2.cons|(refine z262 ?_;omega)|apply ObjLe.box|((apply z45 rfl rfl rfl);(focus ((repeat ((exact z41 (fun _=>rfl) _)));done));(focus (((simp;omega));done)))|apply z44)))
  · obtain ⟨g,q',m,pf,pg,F⟩:=z830 bs hb (p+1) (by omega)
    have m1:=F.m1
    have m6:=F.m6
    have sl:=F.sl
    have nl:=F.nl
    have z0:=F.q0
    have z1:=F.q1
    refine ⟨g,q',⟨F.sm,by omega,by omega,by omega,by omega⟩,?_⟩
    have Fn:=F.num
    refine z10 z18 Tryz.func86 rfl rfl 88 Tryz.ntmps86 (by simp) ?_
    repeat' ((first|(apply AWP.go ok;rfl)|((apply z7)<;>intro _)|((first|(apply z8 [0] [] [] (cv);rfl;(focus ((repeat' first|exact z4|apply z5)<;>rfl)))|(apply z8 [0,3] [] [] (Fn);rfl;(focus ((repeat' first|exact z4|apply z5)<;>rfl))));rfl;rfl;rfl;rfl;rfl;(focus ((repeat' first|exact z15|apply z14)<;>first|exact z20 rfl rfl|(refine z25 ?_;((exact z6 fun _=>rfl)))));(exact .inl rfl)))<;>conv=>whnf)
    all_goals first|(exfalso;omega)|skip
    all_goals
      refine AWP.reach (Reach.empty 2 rfl) ?_
      refine z64 (fun k:Nat=>([(0,.ptr 0 none 0),(2,.ptr 1 none 0),(5,.ptr 2 none 0),(6,.int (m - k))],[rdO bs (pf k),.cells 2 [[.nils,.nils]],.cells 2 [[.sref 3 0 k,.nils]],.cells 2 ((g.st.take k).map State.cs)])) (fun k=>k≤m) (fun k=>m - k) 0 (by omega) (by refine SealW.reach [0,1,2,4] [] rfl rfl rfl rfl ?_ ?_<;>(repeat' (first|exact LocLe.refl _|exact z46|exact F2.nil|apply F2.cons|apply ObjLe.box|((refine z13 rfl ?_ ?_);(focus ((repeat' (exact z37));done)))|exact True.intro|apply And.intro))) ?_
      intro k hk
      by_cases hkm:k < m
      · have hkl:k < g.st.length:=by omega
        obtain ⟨a,b,es,eq,ca,cb⟩:=F.st k hkl
        rw [← eq] at cb
        repeat' ((first|(apply AWP.go ok;rfl)|(apply z34;kernel_rfl)|(apply And.intro;first|omega|(unfold inI;omega)|((try dsimp only);simp only [List.length_map,List.length_take,List.length_append,List.length_replicate,List.length_cons,List.length_nil];omega)|exact ⟨rfl,z21 rfl z30⟩)|((apply z7)<;>intro _)|((first|(apply z8 [0] [] [] (ca);rfl;(focus ((repeat' first|exact z4|apply z5)<;>rfl)))|(apply z8 [0] [] [] (cb);rfl;(focus ((repeat' first|exact z4|apply z5)<;>rfl))));rfl;rfl;rfl;rfl;rfl;(focus ((repeat' first|exact z15|apply z14)<;>exact z20 rfl rfl));(exact .inl rfl)))<;>conv=>whnf)
        all_goals first|(exfalso;omega)|skip
        all_goals refine z23 (k+1) (by omega) (by omega) (by refine SealW.reach [0,1,2,7] [4,5] rfl rfl rfl rfl ?_ ?_<;>(repeat' (first|exact LocLe.refl _|exact F2.nil|apply F2.cons|(refine z96 ?_;omega)|apply ObjLe.box|((refine z35 rfl ?_ ?_);(focus ((repeat' (first|exact z6 (fun _=>rfl)|apply z22));done)))|(refine z104 (by omega) (by omega) ?_)|((apply z75 rfl rfl rfl);(focus ((repeat (rfl));done));(focus ((rfl);done)))|exact True.intro|apply And.intro))<;>(rw [es];exact LocLe.refl _))
      · have e:k=m:=by omega
        subst e
        rw [List.take_of_length_le (show g.st.length≤k by omega)]
        repeat' ((first|(apply AWP.go ok;rfl)|(apply And.intro;omega)|((apply z7)<;>intro _))<;>conv=>whnf)
        all_goals first|(exfalso;omega)|skip
        refine AWP.reach (Reach.empty 1 rfl) ?_
        have Fm:=F.mid
        rw [Fm]
        refine z64 (fun i:Nat=>([(0,.ptr 0 none 0),(2,.ptr 1 none 0),(5,.ptr 2 none 0),(7,.int i)],[rdO bs (pg i),.cells 2 [[.nils,.nils]],.cells 2 [[.sref 3 0 k,.sref 4 0 i]],.cells 2 (g.st.map State.cs),.cells 1 ((g.nx.take i).map encL)])) (fun i=>i≤k) (fun i=>k - i) 0 (by omega) (by refine SealW.reach [0,1,2,3,4] [] rfl rfl rfl rfl ?_ ?_<;>(repeat' (first|exact LocLe.refl _|exact z46|exact F2.nil|apply F2.cons|exact z12 _|apply ObjLe.box|((refine z13 rfl ?_ ?_);(focus ((repeat' (first|exact z37|exact z6 (fun _=>rfl)));done)))|exact True.intro|apply And.intro))) ?_
        intro i hi
        by_cases hik:i < k
        · have hil:i < g.nx.length:=by omega
          obtain ⟨a,b,c,er,eq,ca,cb,cc⟩:=F.row i hil
          rw [← eq] at cc
          by_cases hc:c=0
          · by_cases hba:b=a
            · rw [if_neg (fun h=>h.2 hba)] at er
              repeat' ((first|(apply AWP.go ok;rfl)|(apply And.intro;first|omega|(unfold inI;omega)|((try dsimp only);simp only [List.length_map,List.length_take,List.length_append,List.length_replicate,List.length_cons,List.length_nil];omega)|exact ⟨rfl,z21 rfl z30⟩)|apply z127|((first|apply z7|apply z38)<;>intro _)|((first|(apply z8 [0] [] [] (ca);rfl;(focus ((repeat' first|exact z4|apply z5)<;>rfl)))|(apply z8 [0] [] [] (cb);rfl;(focus ((repeat' first|exact z4|apply z5)<;>rfl)))|(apply z8 [0] [] [] (cc);rfl;(focus ((repeat' first|exact z4|apply z5)<;>rfl))));rfl;rfl;rfl;rfl;rfl;(focus ((repeat' first|exact z15|apply z14)<;>exact z20 rfl rfl));(exact .inl rfl)))<;>conv=>whnf)
              all_goals first|(exfalso;omega)|skip
              all_goals refine z23 (i+1) (by omega) (by omega) (by refine SealW.reach [0,1,2,3,7] [5] rfl rfl rfl rfl ?_ ?_<;>(repeat' (first|exact LocLe.refl _|exact F2.nil|apply F2.cons|exact z12 _|apply ObjLe.box|((first|refine z35 rfl ?_ ?_|refine z13 rfl ?_ ?_);(focus ((repeat' (first|exact z6 (fun _=>rfl)|apply z22));done)))|(refine z104 (by omega) (by omega) ?_)|((apply z75 rfl rfl rfl);(focus ((repeat (rfl));done));(focus ((rfl);done)))|exact True.intro|apply And.intro))<;>((rw [er];exact LocLe.refl _)))
            · rw [if_pos ⟨hc,hba⟩] at er
              repeat' ((first|(apply AWP.go ok;rfl)|(apply And.intro;first|omega|(unfold inI;omega)|((try dsimp only);simp only [List.length_map,List.length_take,List.length_append,List.length_replicate,List.length_cons,List.length_nil];omega)|exact ⟨rfl,z21 rfl z30⟩)|apply z127|((first|apply z7|apply z38)<;>intro _)|((first|(apply z8 [0] [] [] (ca);rfl;(focus ((repeat' first|exact z4|apply z5)<;>rfl)))|(apply z8 [0] [] [] (cb);rfl;(focus ((repeat' first|exact z4|apply z5)<;>rfl)))|(apply z8 [0] [] [] (cc);rfl;(focus ((repeat' first|exact z4|apply z5)<;>rfl))));rfl;rfl;rfl;rfl;rfl;(focus ((repeat' first|exact z15|apply z14)<;>exact z20 rfl rfl));(exact .inl rfl)))<;>conv=>whnf)
              all_goals first|(exfalso;omega)|skip
              all_goals refine z23 (i+1) (by omega) (by omega) (by refine SealW.reach [0,1,2,3,9] [7] rfl rfl rfl rfl ?_ ?_<;>(repeat' (first|exact LocLe.refl _|exact F2.nil|apply F2.cons|exact z12 _|apply ObjLe.box|((first|refine z35 rfl ?_ ?_|refine z13 rfl ?_ ?_);(focus ((repeat' (first|exact z6 (fun _=>rfl)|apply z22));done)))|(refine z104 (by omega) (by omega) ?_)|((apply z75 rfl rfl rfl);(focus ((repeat (first|apply z176|apply z278|rfl));done));(focus ((rfl);done)))|exact True.intro|apply And.intro))<;>((rw [er];exact LocLe.refl _)))
          · rw [if_neg (fun h=>hc h.1)] at er
            repeat' ((first|(apply AWP.go ok;rfl)|(apply And.intro;first|omega|(unfold inI;omega)|((try dsimp only);simp only [List.length_map,List.length_take,List.length_append,List.length_replicate,List.length_cons,List.length_nil];omega)|exact ⟨rfl,z21 rfl z30⟩)|apply z127|((first|apply z7|apply z38)<;>intro _)|((first|(apply z8 [0] [] [] (ca);rfl;(focus ((repeat' first|exact z4|apply z5)<;>rfl)))|(apply z8 [0] [] [] (cb);rfl;(focus ((repeat' first|exact z4|apply z5)<;>rfl)))|(apply z8 [0] [] [] (cc);rfl;(focus ((repeat' first|exact z4|apply z5)<;>rfl))));rfl;rfl;rfl;rfl;rfl;(focus ((repeat' first|exact z15|apply z14)<;>exact z20 rfl rfl));(exact .inl rfl)))<;>conv=>whnf)
            all_goals first|(exfalso;omega)|skip
            all_goals refine z23 (i+1) (by omega) (by omega) (by refine SealW.reach [0,1,2,3,7] [5] rfl rfl rfl rfl ?_ ?_<;>(repeat' (first|exact LocLe.refl _|exact F2.nil|apply F2.cons|exact z12 _|apply ObjLe.box|((first|refine z35 rfl ?_ ?_|refine z13 rfl ?_ ?_);(focus ((repeat' (first|exact z6 (fun _=>rfl)|apply z22));done)))|(refine z104 (by omega) (by omega) ?_)|((apply z75 rfl rfl rfl);(focus ((repeat (rfl));done));(focus ((rfl);done)))|exact True.intro|apply And.intro))<;>((rw [er];exact LocLe.refl _)))
        · have e:i=k:=by omega
          subst e
          rw [List.take_of_length_le (show g.nx.length≤i by omega)]
          repeat' ((first|(apply AWP.go ok;rfl)|((apply z7)<;>intro _))<;>conv=>whnf)
          all_goals first|(exfalso;omega)|skip
          all_goals rw [F.last]
          all_goals (refine RetS.lay [0] [3,4] rfl rfl rfl ?_;refine RetS.done ?_ ?_<;>(repeat' (first|exact LocLe.refl _|exact F2.nil|apply F2.cons|(refine z262 ?_;omega)|apply ObjLe.box|((apply z45 rfl rfl rfl);(focus ((repeat ((exact z41 (fun _=>rfl) _)));done));(focus (((simp;omega));done)))|apply z44)))
end Go.Proofs.YtknlmbniicacmaaGreat

namespace Go.Proofs.YtknlmbniicacmaaGreat
open Go.Gl
attribute [local irreducible] z31 AWP z48 z52 z50 RetS z57
structure Graph.d (g:Graph):Prop where
  st:g.st.length≤100
  nx:g.nx.length≤101
  el:∀ s∈g.st,s.sm
  row:∀ r∈g.nx,r.length≤1001
theorem Graph.d.mx {g:Graph} (h:g.d):g.mx:=by
  have h1:=h.st
  have h2:=h.nx
  have h3:=h.el
  exact ⟨⟨by unfold maxLen;omega,fun s hs=>⟨by have:=(h3 s hs).a;unfold maxLen;omega,by have:=(h3 s hs).b;unfold maxLen;omega⟩⟩,by unfold maxLen;omega,fun l hl=>by have:=h.row l hl;unfold maxLen;omega⟩
structure Lab.d (l:List Tree):Prop where
  len:l.length≤3
  el:∀ t∈l,t.sz≤5
theorem Lab.d.mx {l:List Tree} (h:Lab.d l):Lmx l:=Lmx_of (by have:=h.len;omega) fun t ht=>by have:=h.el t ht;omega
structure CodeOk (bs:List Int):Prop where
  len:bs.length≤maxLen
  el:∀ x∈bs,0≤x∧x≤255
theorem CodeOk.take {bs:List Int} (h:CodeOk bs):BytesOk (bs.take 2000):=⟨by simp;omega,fun x hx=>h.el x (List.mem_of_mem_take hx)⟩
theorem z1009 (bs:List Int) (hb:BytesOk bs) (p:Int) (hp:few3 p):∃ (g0 g:Graph) (p1 p2:Int),CallsA Tryz.prog 86 [.ptr 0 none 0] [rdO bs p] (.agg g0.cs) [rdO bs p1]∧CallsA Tryz.prog 85 [.ptr 0 none 0,.agg g0.cs] [rdO bs p1] (.agg g.cs) [rdO bs p2]∧g.d∧p≤p2∧p2≤p+6000:=by
  obtain ⟨g0,p1,⟨h1,h2,h3,h4,h5⟩,c1⟩:=z908 bs hb p hp
  obtain ⟨g,p2,⟨k1,k2,k3,k4,k5,k6⟩,c2⟩:=z788 bs hb p1 ⟨by omega,by omega⟩ g0 h1 h2 h3
  exact ⟨g0,g,p1,p2,c1,c2,⟨k1,k2,k3,k4⟩,by omega,by omega⟩
end Go.Proofs.YtknlmbniicacmaaGreat

namespace Go.Proofs.YtknlmbniicacmaaGreat
open Go.Gl
attribute [local irreducible] z31 AWP z48 z52 z50
theorem z552 (k:Int):CallsA Tryz.prog 297 [.int k] [] (.int (z194 k)) []:=by
  refine z17 z18 Tryz.func297 rfl rfl 17 Tryz.ntmps297 (by simp) ?_
  repeat' (first|(apply AWP.go ok;rfl;conv=>whnf)|(apply z7<;>intro _<;>conv=>whnf))
  all_goals (refine z54 rfl rfl ?_;unfold z194;first|(rw [if_pos (by omega)];rfl)|(rw [if_neg (by omega),if_pos (by omega)];rfl)|(rw [if_neg (by omega),if_neg (by omega),if_pos (by omega)];rfl)|(rw [if_neg (by omega),if_neg (by omega),if_neg (by omega)];rfl))
theorem z763 (l:List Tree) (d:Int):Tree.shapeFs l d=l.all (fun t=>t.shapeF d):=by
  induction l with
  | nil=>rfl
  | cons t l ih=>simp [Tree.shapeFs,ih]
theorem z338 (t:Tree) (d:Int):t.shapeF d=(decide (1≤d∧(t.kids.length:Int)=z194 t.kind∧0≤t.val∧t.val≤z480 t.kind) && t.kids.all fun t=>t.shapeF (d - 1)):=by
  cases t;simp only [Tree.shapeF,Tree.kids,Tree.kind,Tree.val,z763];rfl
theorem z905 (t:Tree):t.mx→∀ d:Int,-100≤d→d≤100→CallsA Tryz.prog 278 [z51 Tree.cs' t,.int d] [] (.bool (t.shapeF d)) []:=by
  induction t using Tree.ind with|h t ih=>?_
  intro hm d h0 h1
  rw [Tree.mx_iff] at hm
  have hl:=hm.1
  unfold maxLen at hl
  rw [Tree.arg_eq,z338]
  refine z17 z18 Tryz.func278 rfl rfl 51 Tryz.ntmps278 (by simp) ?_
  repeat' (first|(apply AWP.go ok;rfl;conv=>whnf)|(apply z34;kernel_rfl;conv=>whnf)|(apply z7<;>intro _<;>conv=>whnf)|(apply z38<;>intro _<;>conv=>whnf)|(apply z9 (z552 _);rfl;rfl;conv=>whnf))
  all_goals first
    | (refine z27 rfl ?_
       rw [decide_eq_false]
       · rfl
       · clear ih
         rintro ⟨c1,c2,c3,c4⟩
         unfold z480 at c4
         grind)
    | (have hg : decide (1 ≤ d ∧ (t.kids.length : Int) = z194 t.kind ∧ 0 ≤ t.val ∧ t.val ≤ z480 t.kind) = true := by
         clear ih
         refine decide_eq_true ?_
         unfold z480
         grind
       rw [hg,Bool.true_and]
       refine z90 (fun k:Nat=>([(1,.int d),(2,.ptr 0 none 0),(5,.int k)],[.cells 3 [[.int t.kind,.int t.val,lst 3 Tree.cs' t.kids]]])) (fun k=>k≤t.kids.length∧(t.kids.all fun t=>t.shapeF (d - 1))=(t.kids.drop k).all fun t=>t.shapeF (d - 1)) (fun k=>t.kids.length - k) 0 ⟨by omega,rfl⟩ ⟨[0],rfl,by decide,rfl,by repeat' (first|exact True.intro|exact ⟨rfl,rfl⟩|apply And.intro),by repeat' (first|exact True.intro|exact z24 rfl rfl|apply And.intro)⟩ ?_
       intro k hk
       repeat' (first|(apply AWP.go ok;rfl;conv=>whnf)|(apply And.intro;(first|omega|(unfold inI;omega));conv=>whnf)|(with_reducible apply z11;omega;intro _;conv=>whnf)|(apply z7<;>intro _<;>conv=>whnf)|(apply z82<;>intro _<;>conv=>whnf)|(apply z9 (ih t.kids[k] (List.getElem_mem _) (hm.2 _ (List.getElem_mem _)) (d - 1) (by omega) (by omega));rfl;rfl;conv=>whnf))
       · rename_i h1
         exact z27 rfl (by rw [hk.2,z142 _ _ _ (by assumption)];simp [h1])
       · rename_i h1
         exact z78 (k+1) [0] ⟨by omega,by rw [hk.2,z142 _ _ _ (by assumption)];simp [h1]⟩ (by omega) ⟨rfl,by decide,rfl,by repeat' (first|exact True.intro|exact ⟨rfl,rfl⟩|apply And.intro),by repeat' (first|exact True.intro|exact z24 rfl rfl|apply And.intro)⟩
       · exact z27 rfl (by rw [hk.2,z137 _ _ _ (by omega)]))
theorem z1062 (t:Tree):∀ d n:Nat,t.shapeF d=true→t.count n≤2 ^ d - 1:=by
  induction t using Tree.ind with|h t ih=>?_
  intro d n h
  rw [z338,Bool.and_eq_true,decide_eq_true_eq] at h
  obtain ⟨⟨h1,h2,_,_⟩,h3⟩:=h
  rw [List.all_eq_true] at h3
  obtain ⟨d,rfl⟩:∃ e,d=e+1:=⟨d - 1,by omega⟩
  have e:((d+1:Nat):Int) - 1=(d:Nat):=by omega
  rw [e] at h3
  rw [z438]
  have hp:(1:Int)≤2 ^ d:=by exact_mod_cast Nat.one_le_two_pow
  have hq:((2:Int) ^ (d+1))=2 * 2 ^ d:=by rw [Int.pow_succ];omega
  split
  · rename_i hn
    obtain ⟨n,rfl⟩:∃ e,n=e+1:=⟨n - 1,by omega⟩
    have e:((n+1:Nat):Int) - 1=(n:Nat):=by omega
    rw [e]
    have hl:(t.kids.length:Int)≤2:=by rw [h2];unfold z194;grind
    have hk:∀ u∈t.kids,u.count n≤2 ^ d - 1:=fun u hu=>ih u hu d n (h3 u hu)
    match hkk:t.kids with
    | []=>simp only [List.map_nil,List.sum_nil];omega
    | [a] =>
      have:=hk a (by simp [hkk])
      simp only [List.map_cons,List.map_nil,List.sum_cons,List.sum_nil];omega
    | [a,b] =>
      have:=hk a (by simp [hkk])
      have:=hk b (by simp [hkk])
      simp only [List.map_cons,List.map_nil,List.sum_cons,List.sum_nil];omega
    | a::b::c::r=>rw [hkk] at hl;simp only [List.length_cons] at hl;omega
  · omega
theorem z717 (t:Tree) (e d:Int) (he:e≤50) (hd:0≤d) (h:t.shapeF e=true):t.count d≤2 ^ 50:=by
  have h1:1≤e:=by
    rw [z338,Bool.and_eq_true,decide_eq_true_eq] at h;exact h.1.1
  obtain ⟨n,rfl⟩:=Int.eq_ofNat_of_zero_le (show 0≤e by omega)
  obtain ⟨m,rfl⟩:=Int.eq_ofNat_of_zero_le hd
  have h2:=z1062 t n m h
  have h4:(2:Int) ^ n≤2 ^ 50:=by exact_mod_cast Nat.pow_le_pow_right (by omega) (by omega)
  omega
theorem z906 (t:Tree):t.mx→∀ e d:Int,e≤50→0≤d→d≤50→t.shapeF e=true→CallsA Tryz.prog 279 [z51 Tree.cs' t,.int d] [] (.int (t.count d)) []:=by
  induction t using Tree.ind with|h t ih=>?_
  intro hm e d h0 h1 h2 hs
  rw [Tree.mx_iff] at hm
  rw [z338,Bool.and_eq_true,decide_eq_true_eq,List.all_eq_true] at hs
  obtain ⟨⟨hs1,hs2,_,_⟩,hs3⟩:=hs
  have hl:(t.kids.length:Int)≤2:=by rw [hs2];unfold z194;grind
  rw [Tree.arg_eq,z438]
  have hb:0 < d→∀ k,k≤t.kids.length→0≤((t.kids.take k).map fun t=>t.count (d - 1)).sum∧((t.kids.take k).map fun t=>t.count (d - 1)).sum≤k * 2 ^ 50:=by
    intro hd k
    induction k with
    | zero=>intro _;simp
    | succ k ihk =>
      intro hk
      have h1:=ihk (by omega)
      rw [z422 _ _ _ (by omega)]
      have h2:=z717 t.kids[k] (e - 1) (d - 1) (by omega) (by omega) (hs3 _ (List.getElem_mem _))
      have h3:=Tree.count_pos.1 t.kids[k] (d - 1)
      omega
  refine z17 z18 Tryz.func279 rfl rfl 29 Tryz.ntmps279 (by simp) ?_
  repeat' ((apply AWP.go ok;rfl;conv=>whnf))
  by_cases hd:0 < d
  · rw [if_pos hd]
    refine z90 (fun k:Nat=>([(1,.int d),(2,.ptr 0 none 0),(5,.int (1+((t.kids.take k).map fun t=>t.count (d - 1)).sum)),(6,.int k)],[.cells 3 [[.int t.kind,.int t.val,lst 3 Tree.cs' t.kids]]])) (fun k=>k≤t.kids.length) (fun k=>t.kids.length - k) 0 (by omega) ⟨[0],rfl,by decide,rfl,by repeat' (first|exact True.intro|exact ⟨rfl,rfl⟩|apply And.intro),by repeat' (first|exact True.intro|exact z24 rfl rfl|apply And.intro)⟩ ?_
    intro k hk
    have hbk:=hb hd k hk
    have hbk1:=fun h=>hb hd (k+1) h
    have hss:=fun h=>z422 (fun t=>t.count (d - 1)) t.kids k h
    repeat' (first|(apply AWP.go ok;rfl;conv=>whnf)|(apply And.intro;(first|omega|(unfold inI;omega));conv=>whnf)|(with_reducible apply z11;omega;intro _;conv=>whnf)|(apply z7<;>intro _<;>conv=>whnf)|(apply z9 (ih t.kids[k] (List.getElem_mem _) (hm.2 _ (List.getElem_mem _)) (e - 1) (d - 1) (by omega) (by omega) (by omega) (hs3 _ (List.getElem_mem _)));rfl;rfl;conv=>whnf))
    · have e1:=hss ‹_›
      have e2:=hbk1 (by omega)
      refine And.intro (by unfold inI;omega) ?_
      conv=>whnf
      repeat' (first|(apply AWP.go ok;rfl;conv=>whnf)|(apply And.intro;((unfold inI;omega));conv=>whnf))
      exact z78 (k+1) [0] (by omega) (by omega) ⟨rfl,by decide,rfl,⟨⟨rfl,rfl⟩,⟨rfl,rfl⟩,⟨rfl,by rw [e1,← Int.add_assoc];rfl⟩,⟨rfl,rfl⟩,trivial⟩,⟨z24 rfl rfl,trivial⟩⟩
    · omega
    · obtain rfl:k=t.kids.length:=by omega
      exact z54 rfl rfl (by rw [List.take_length];rfl)
  · rw [if_neg hd]
    refine z90 (fun k:Nat=>([(1,.int d),(2,.ptr 0 none 0),(5,.int 1),(6,.int k)],[.cells 3 [[.int t.kind,.int t.val,lst 3 Tree.cs' t.kids]]])) (fun k=>k≤t.kids.length) (fun k=>t.kids.length - k) 0 (by omega) ⟨[0],rfl,by decide,rfl,by repeat' (first|exact True.intro|exact ⟨rfl,rfl⟩|apply And.intro),by repeat' (first|exact True.intro|exact z24 rfl rfl|apply And.intro)⟩ ?_
    intro k hk
    repeat' (first|(apply AWP.go ok;rfl;conv=>whnf)|(apply And.intro;(omega);conv=>whnf)|(with_reducible apply z11;omega;intro _;conv=>whnf)|(apply z7<;>intro _<;>conv=>whnf))
    · omega
    · exact z54 rfl rfl rfl
    · exact z54 rfl rfl rfl
theorem z197 (t:Tree) (hm:t.mx):CallsA Tryz.prog 240 [z51 Tree.cs' t] [] (.bool t.fmB) []:=by
  rw [Tree.fmB_eq]
  refine z17 z18 Tryz.func240 rfl rfl 10 Tryz.ntmps240 (by simp) ?_
  repeat' (first|(apply AWP.go ok;rfl;conv=>whnf)|(apply z92<;>intro _<;>conv=>whnf)|(apply z9 (z905 t hm 6 (by omega) (by omega));rfl;rfl;conv=>whnf)|(apply z9 (z906 t hm 6 6 (by omega) (by omega) (by omega) (by assumption));rfl;rfl;conv=>whnf))
  all_goals (refine z27 rfl ?_;(simp [*];done))
end Go.Proofs.YtknlmbniicacmaaGreat

namespace Go.Proofs.YtknlmbniicacmaaGreat
open Go.Gl
attribute [local irreducible] z31 AWP z48 z52 z50 RetS z57
theorem z487:CallsA Tryz.prog 296 [] [] (.agg [.int 1,.int 0,.list 3 0 []]) []:=by
  refine z10 z18 Tryz.func296 rfl rfl 2 Tryz.ntmps296 (by simp) ?_
  repeat' (((apply AWP.go ok;rfl))<;>conv=>whnf)
  all_goals (refine RetS.lay [] [] rfl rfl rfl ?_;refine RetS.done ?_ ?_<;>(repeat' (first|exact LocLe.refl _|exact z53|exact F2.nil|apply F2.cons|apply z44)))
set_option maxHeartbeats 1600000 in
theorem z787 (bs:List Int) (hb:BytesOk bs):∀ (n:Nat) (d p:Int),d≤n+1→n≤100→0≤d→0≤p→p+drK n≤1000000000→∃ (t:Tree) (p' : Int),(t.sz≤drS n∧p≤p'∧p'≤p+drK n)∧CallsA Tryz.prog 261 [.ptr 0 none 0,.int d] [rdO bs p] (z51 Tree.cs' t) [rdO bs p']:=by
  intro n
  induction n with
  | zero =>
    intro d p hd hd1 hd0 hp hq
    rw [drK] at hq ⊢
    obtain ⟨v0,⟨l0,u0⟩,c0⟩:=z59 bs hb p 8 (by omega) (by omega) (by omega)
    by_cases h0:v0=0
    · subst h0
      refine ⟨leaf 1 0,p+1,⟨by rw [z87];omega,by omega,by omega⟩,?_⟩
      refine z10 z18 Tryz.func261 rfl rfl 43 Tryz.ntmps261 (by simp) ?_
      repeat' ((first|(apply AWP.go ok;rfl)|((apply z7)<;>intro _)|(apply z9 (z487);rfl;rfl)|(((apply z8 [0] [] [] (c0);rfl;(focus ((repeat' first|exact z4|apply z5)<;>rfl))));rfl;rfl;rfl;rfl;rfl;(focus ((repeat' first|exact z15|apply z14)<;>exact z20 rfl rfl));(exact .inl rfl)))<;>conv=>whnf)
      all_goals first|(exfalso;omega)|skip
      all_goals (refine RetS.lay [0] [] rfl rfl rfl ?_;refine RetS.done ?_ ?_<;>(repeat' (first|exact LocLe.refl _|exact F2.nil|apply F2.cons|apply ObjLe.box)))
    · obtain ⟨v1,m1,c1⟩:=z88 bs hb (p+1) (by omega) (by omega) [0,1,0,2] (by decide) (by decide)
      refine ⟨leaf 2 v1,p+1+1,⟨by rw [z87];omega,by omega,by omega⟩,?_⟩
      refine z10 z18 Tryz.func261 rfl rfl 43 Tryz.ntmps261 (by simp) ?_
      repeat' ((first|(apply AWP.go ok;rfl)|((apply z7)<;>intro _)|((first|(apply z8 [0] [] [] (c0);rfl;(focus ((repeat' first|exact z4|apply z5)<;>rfl)))|(apply z8 [0,2] [] [] (c1);rfl;(focus ((repeat' first|exact z4|apply z5)<;>rfl))));rfl;rfl;rfl;rfl;rfl;(focus ((repeat' first|exact z15|apply z14)<;>first|exact z20 rfl rfl|(refine z25 ?_;((exact z6 fun _=>rfl)))));(exact .inl rfl)))<;>conv=>whnf)
      all_goals first|(exfalso;omega)|skip
      all_goals (refine RetS.lay [0] [] rfl rfl rfl ?_;refine RetS.done ?_ ?_<;>(repeat' (first|exact LocLe.refl _|exact z53|exact F2.nil|apply F2.cons|apply ObjLe.box|apply z44)))
  | succ n ih =>
    intro d p hd hd1 hd0 hp hq
    have hK:=z1056 n
    by_cases hlt:d < 2
    · obtain ⟨t,p',h1,h2⟩:=ih d p (by omega) (by omega) hd0 hp (by rw [drK] at hq;omega)
      exact ⟨t,p',⟨by rw [drS];omega,h1.2.1,by rw [drK];omega⟩,h2⟩
    rw [drK] at hq
    rw [drK,drS]
    obtain ⟨w,⟨lw,uw⟩,cw⟩:=z59 bs hb p 5 (by omega) (by omega) (by omega)
    by_cases hw:w=0
    · subst hw
      obtain ⟨v0,⟨l0,u0⟩,c0⟩:=z59 bs hb (p+1) 8 (by omega) (by omega) (by omega)
      by_cases h0:v0=0
      · subst h0
        refine ⟨leaf 1 0,p+1+1,⟨by rw [z87];omega,by omega,by omega⟩,?_⟩
        refine z10 z18 Tryz.func261 rfl rfl 43 Tryz.ntmps261 (by simp) ?_
        repeat' ((first|(apply AWP.go ok;rfl)|((apply z7)<;>intro _)|(apply z9 (z487);rfl;rfl)|((first|(apply z8 [0] [] [] (cw);rfl;(focus ((repeat' first|exact z4|apply z5)<;>rfl)))|(apply z8 [0] [] [] (c0);rfl;(focus ((repeat' first|exact z4|apply z5)<;>rfl))));rfl;rfl;rfl;rfl;rfl;(focus ((repeat' first|exact z15|apply z14)<;>exact z20 rfl rfl));(exact .inl rfl)))<;>conv=>whnf)
        all_goals first|(exfalso;omega)|skip
        all_goals (refine RetS.lay [0] [] rfl rfl rfl ?_;refine RetS.done ?_ ?_<;>(repeat' (first|exact LocLe.refl _|exact F2.nil|apply F2.cons|apply ObjLe.box)))
      · obtain ⟨v1,m1,c1⟩:=z88 bs hb (p+1+1) (by omega) (by omega) [0,1,0,2] (by decide) (by decide)
        refine ⟨leaf 2 v1,p+1+1+1,⟨by rw [z87];omega,by omega,by omega⟩,?_⟩
        refine z10 z18 Tryz.func261 rfl rfl 43 Tryz.ntmps261 (by simp) ?_
        repeat' ((first|(apply AWP.go ok;rfl)|((apply z7)<;>intro _)|((first|(apply z8 [0] [] [] (cw);rfl;(focus ((repeat' first|exact z4|apply z5)<;>rfl)))|(apply z8 [0] [] [] (c0);rfl;(focus ((repeat' first|exact z4|apply z5)<;>rfl)))|(apply z8 [0,2] [] [] (c1);rfl;(focus ((repeat' first|exact z4|apply z5)<;>rfl))));rfl;rfl;rfl;rfl;rfl;(focus ((repeat' first|exact z15|apply z14)<;>first|exact z20 rfl rfl|(refine z25 ?_;((exact z6 fun _=>rfl)))));(exact .inl rfl)))<;>conv=>whnf)
        all_goals first|(exfalso;omega)|skip
        all_goals (refine RetS.lay [0] [] rfl rfl rfl ?_;refine RetS.done ?_ ?_<;>(repeat' (first|exact LocLe.refl _|exact z53|exact F2.nil|apply F2.cons|apply ObjLe.box|apply z44)))
    · obtain ⟨kd,mk,ck⟩:=z88 bs hb (p+1) (by omega) (by omega) [7,9,10,3,4,5,6,8] (by decide) (by decide)
      have ca:=z552 kd
      have ham:∃ m:Nat,z194 kd=m∧m≤2:=by
        simp only [List.mem_cons,List.not_mem_nil,or_false] at mk
        unfold z194
        rcases mk with rfl|rfl|rfl|rfl|rfl|rfl|rfl|rfl
        all_goals first|exact ⟨2,rfl,by omega⟩|exact ⟨1,rfl,by omega⟩
      obtain ⟨m,em,hm⟩:=ham
      rw [em] at ca
      obtain ⟨ks,pf,hks,hp0,hst,hpf⟩:=z302 (fun k q (t:Tree) q'=>t.sz≤drS n∧CallsA Tryz.prog 261 [.ptr 0 none 0,.int (d - 1)] [rdO bs q] (z51 Tree.cs' t) [rdO bs q']) (p+1+1) (drK n) m (fun k q hk h1 h2=>by
        have:drK n * k≤drK n:=by
          have:k=0∨k=1:=by omega
          rcases this with rfl|rfl<;>simp<;>omega
        obtain ⟨t,q',⟨a1,a2,a3⟩,a4⟩:=ih (d - 1) q (by omega) (by omega) (by omega) (by omega) (by omega)
        exact ⟨t,q',⟨a1,a4⟩,a2,a3⟩)
      have hpm:=hpf m (Nat.le_refl _)
      have hKm:drK n * m≤2 * drK n:=by
        have:m=0∨m=1∨m=2:=by omega
        rcases this with rfl|rfl|rfl<;>simp<;>omega
      have hsum:(ks.map Tree.sz).sum≤2 * drS n:=by
        have:∀ (l:List Tree),(∀ t∈l,t.sz≤drS n)→(l.map Tree.sz).sum≤l.length * drS n:=by
          intro l
          induction l with
          | nil=>intro _;simp
          | cons t l ih =>
            intro h
            have h1:=h t (by simp)
            have h2:=ih fun u hu=>h u (by simp [hu])
            simp only [List.map_cons,List.sum_cons,List.length_cons,Nat.add_mul]
            omega
        have h1:=this ks fun t ht=>by
          obtain ⟨i,hi,rfl⟩:=List.mem_iff_getElem.1 ht
          exact (hst i hi).1
        have h2:ks.length * drS n≤2 * drS n:=Nat.mul_le_mul_right _ (by omega)
        omega
      refine ⟨.mk kd 0 ks,pf m,⟨by rw [z296];omega,by omega,by omega⟩,?_⟩
      refine z10 z18 Tryz.func261 rfl rfl 43 Tryz.ntmps261 (by simp) ?_
      rw [← hp0] at ck
      repeat' ((first|(apply AWP.go ok;rfl)|((apply z7)<;>intro _)|(apply z9 (ca);rfl;rfl)|((first|(apply z8 [0] [] [] (cw);rfl;(focus ((repeat' first|exact z4|apply z5)<;>rfl)))|(apply z8 [0,2] [] [] (ck);rfl;(focus ((repeat' first|exact z4|apply z5)<;>rfl))));rfl;rfl;rfl;rfl;rfl;(focus ((repeat' first|exact z15|apply z14)<;>first|exact z20 rfl rfl|(refine z25 ?_;((exact z6 fun _=>rfl)))));(exact .inl rfl)))<;>conv=>whnf)
      all_goals first|(exfalso;omega)|skip
      refine AWP.reach (Reach.empty 3 rfl) ?_
      refine z64 (fun k:Nat=>([(0,.ptr 0 none 0),(1,.int d),(4,.ptr 1 none 0),(5,.ptr 2 none 0),(6,.int (m - k))],[rdO bs (pf k),.cells 3 [[.int 0,.int 0,.nils]],.cells 3 [[.int kd,.int 0,.sref 3 0 k]],.cells 3 ((ks.take k).map Tree.cs')])) (fun k=>k≤m) (fun k=>m - k) 0 (by omega) (by refine SealW.reach [0,1,3,4] [] rfl rfl rfl rfl ?_ ?_<;>(repeat' (first|exact LocLe.refl _|exact z46|exact F2.nil|apply F2.cons|apply ObjLe.box|((refine z13 rfl ?_ ?_);(focus ((repeat' (exact z37));done)))|exact True.intro|apply And.intro))) ?_
      intro k hk
      by_cases hkm:k < m
      · have hc:=(hst k (by omega)).2
        have hkl:k < ks.length:=by omega
        rw [Tree.arg_eq] at hc
        repeat' ((first|(apply AWP.go ok;rfl)|(apply z34;kernel_rfl)|(apply And.intro;first|(unfold inI;omega)|((try dsimp only);simp only [List.length_map,List.length_take,List.length_append,List.length_replicate,List.length_cons,List.length_nil];omega)|exact ⟨rfl,z21 rfl z30⟩)|((apply z7)<;>intro _)|(((apply z8 [0] [] [] (hc);rfl;(focus ((repeat' first|exact z4|apply z5)<;>rfl))));rfl;rfl;rfl;rfl;rfl;(focus ((repeat' first|exact z15|apply z14)<;>exact z20 rfl rfl));(exact .inl rfl)))<;>conv=>whnf)
        all_goals first|(exfalso;omega)|skip
        refine z23 (k+1) (by omega) (by omega) (by refine SealW.reach [0,1,2,5] [] rfl rfl rfl rfl ?_ ?_<;>(repeat' (first|exact LocLe.refl _|exact F2.nil|apply F2.cons|exact z355|(refine z96 ?_;omega)|apply ObjLe.box|((refine z35 rfl ?_ ?_);(focus ((repeat' (first|exact z6 (fun _=>rfl)|apply z22));done)))|(refine z104 (by omega) (by omega) ?_)|(apply z80;rfl)|exact True.intro|apply And.intro)))
      · have:k=m:=by omega
        subst this
        repeat' ((first|(apply AWP.go ok;rfl)|(apply And.intro;omega)|((apply z7)<;>intro _))<;>conv=>whnf)
        all_goals first|(exfalso;omega)|skip
        all_goals (refine RetS.lay [0] [3] rfl rfl rfl ?_;refine RetS.done ?_ ?_<;>(repeat' (first|exact LocLe.refl _|exact F2.nil|apply F2.cons|(refine z491 ?_;omega)|apply ObjLe.box|((apply z45 rfl rfl rfl);(focus ((repeat ((exact z41 (fun _=>rfl) _)));done));(focus (((simp;omega));done)))|apply z44)))
theorem z694 (bs:List Int) (hb:BytesOk bs) (p:Int) (hp:few p):∃ (t:Tree) (p' : Int),(t.sz≤20∧p≤p'∧p'≤p+100)∧CallsA Tryz.prog 207 [.ptr 0 none 0] [rdO bs p] (z51 Tree.cs' t) [rdO bs p']:=by
  obtain ⟨d,md,cd⟩:=z88 bs hb p (by omega) (by omega) [3,2,4,3] (by decide) (by decide)
  have hd:0≤d∧d≤4:=by simp at md;omega
  obtain ⟨t,q,⟨t1,t2,t3⟩,ct⟩:=z787 bs hb 3 d (p+1) (by omega) (by omega) (by omega) (by omega) (by simp only [drK];omega)
  simp only [drK] at t3
  simp only [drS] at t1
  have cv:=z197 t (z156 t (by unfold maxLen;omega))
  by_cases hv:t.fmB=true
  · refine ⟨t,q,⟨by omega,by omega,by omega⟩,?_⟩
    rw [hv] at cv
    rw [Tree.arg_eq] at *
    refine z10 z18 Tryz.func207 rfl rfl 15 Tryz.ntmps207 (by simp) ?_
    repeat' ((first|(apply AWP.go ok;rfl)|(apply z9 (cv);rfl;rfl)|((first|(apply z8 [0,2] [] [] (cd);rfl;(focus ((repeat' first|exact z4|apply z5)<;>rfl)))|(apply z8 [0] [] [] (ct);rfl;(focus ((repeat' first|exact z4|apply z5)<;>rfl))));rfl;rfl;rfl;rfl;rfl;(focus ((repeat' first|exact z15|apply z14)<;>first|exact z20 rfl rfl|(refine z25 ?_;((exact z6 fun _=>rfl)))));(exact .inl rfl)))<;>conv=>whnf)
    all_goals skip
    all_goals (refine RetS.lay [0] [] rfl rfl rfl ?_;refine RetS.done ?_ ?_<;>(repeat' (first|exact LocLe.refl _|exact F2.nil|apply F2.cons|apply ObjLe.box)))
  · refine ⟨.mk 10 0 [leaf 2 0],q,⟨by rw [z296];simp [z87],by omega,by omega⟩,?_⟩
    rw [(Bool.not_eq_true _).mp hv] at cv
    rw [Tree.arg_eq] at cv ct
    refine z10 z18 Tryz.func207 rfl rfl 15 Tryz.ntmps207 (by simp) ?_
    repeat' ((first|(apply AWP.go ok;rfl)|(apply z9 (cv);rfl;rfl)|((first|(apply z8 [0,2] [] [] (cd);rfl;(focus ((repeat' first|exact z4|apply z5)<;>rfl)))|(apply z8 [0] [] [] (ct);rfl;(focus ((repeat' first|exact z4|apply z5)<;>rfl))));rfl;rfl;rfl;rfl;rfl;(focus ((repeat' first|exact z15|apply z14)<;>first|exact z20 rfl rfl|(refine z25 ?_;((exact z6 fun _=>rfl)))));(exact .inl rfl)))<;>conv=>whnf)
    all_goals skip
    all_goals (refine RetS.lay [0] [4] rfl rfl rfl ?_;refine RetS.done ?_ ?_<;>(repeat' (first|exact LocLe.refl _|exact z53|exact F2.nil|apply F2.cons|apply ObjLe.box|((apply z45 rfl rfl rfl);(focus ((repeat (rfl));done));(focus ((rfl);done)))|apply z44|(apply z80;rfl))))
end Go.Proofs.YtknlmbniicacmaaGreat

namespace Go.Proofs.YtknlmbniicacmaaGreat
open Go.Gl
attribute [local irreducible] z31 AWP z48 z52 z50 RetS z57
theorem argU (k v:Int) (a:Tree):z51 Tree.cs' (.mk k v [a])=.agg [.int k,.int v,.list 3 1 [Tree.cs' a]]:=by
  rw [Tree.arg_eq]
  show AC.agg [AC.int k,AC.int v,lst 3 Tree.cs' [a]]=_
  rfl
theorem argB (k v:Int) (a b:Tree):z51 Tree.cs' (.mk k v [a,b])=.agg [.int k,.int v,.list 3 2 [Tree.cs' a,Tree.cs' b]]:=by
  rw [Tree.arg_eq]
  rfl
theorem z451 (x:Tree):F2 LocLe (z246 [AC.int x.kind,AC.int x.val,lst 3 Tree.cs' x.kids]) (Tree.cs x):=by
  have e:Tree.cs x=[AC.int x.kind,AC.int x.val,lst 3 Tree.cs' x.kids]:=by rw [Tree.cs_eq];exact AC.agg.inj (Tree.arg_eq x)
  rw [e];exact z267 _
theorem z610 (t:Tree):CallsA Tryz.prog 242 [z51 Tree.cs' t] [] (z51 Tree.cs' (notT t)) []:=by
  unfold notT
  rw [Tree.arg_eq t,Tree.arg_eq]
  refine z10 z18 Tryz.func242 rfl rfl 6 Tryz.ntmps242 (by simp) ?_
  repeat' (((apply AWP.go ok;rfl))<;>conv=>whnf)
  all_goals (refine RetS.lay [] [2] rfl rfl rfl ?_;refine RetS.done ?_ ?_<;>(repeat' (first|exact LocLe.refl _|exact F2.nil|apply F2.cons|exact z355|((apply z45 rfl rfl rfl);(focus ((repeat (rfl));done));(focus ((rfl);done)))|apply z44|(apply z80;rfl))))
  all_goals exact z451 _
theorem z1026 (k:Int):CallsA Tryz.prog 315 [.int k] [] (.int (z1054 k)) []:=by
  unfold z1054
  refine z10 z18 Tryz.func315 rfl rfl 10 Tryz.ntmps315 (by simp) ?_
  repeat' ((first|(apply AWP.go ok;rfl)|((apply z7)<;>intro _))<;>conv=>whnf)
  all_goals (refine RetS.lay [] [] rfl rfl rfl ?_;refine RetS.done (z96 ?_) .nil;first|(rw [if_pos (by omega)];done)|(rw [if_neg (by omega),if_pos (by omega)];done)|(rw [if_neg (by omega),if_neg (by omega),if_pos (by omega)];done)|(rw [if_neg (by omega),if_neg (by omega),if_neg (by omega)];done))
set_option maxHeartbeats 3200000 in
theorem z1025 (t:Tree):t.goodF→∀ neg:Bool,CallsA Tryz.prog 282 [z51 Tree.cs' t,.bool neg] [] (z51 Tree.cs' (t.nrm neg)) []:=by
  induction t using Tree.ind with|h t ih=>?_
  intro hg neg
  have hT:=z487
  cases Tree.formF hg with
  | tr =>
    rw [z1002]
    have cn:=(z610 (.mk 1 0 [])).arg (args0:=[.agg [.int 1,.int 0,.nils]]) (by (repeat' (first|exact LocLe.refl _|exact z53|exact F2.nil|apply F2.cons|apply z44)))
    cases neg
    all_goals
      refine z10 z18 Tryz.func282 rfl rfl 86 Tryz.ntmps282 (by simp) ?_
      repeat' ((first|(apply AWP.go ok;rfl)|(apply z9 (cn);rfl;rfl))<;>conv=>whnf)
      all_goals (refine RetS.lay [] [] rfl rfl rfl ?_;refine RetS.done ?_ ?_<;>(repeat' (first|exact LocLe.refl _|exact z53|exact F2.nil|apply F2.cons|apply z44)))
  | «at» v h0 h1 =>
    rw [z1004]
    have cn:=(z610 (.mk 2 v [])).arg (args0:=[.agg [.int 2,.int v,.nils]]) (by (repeat' (first|exact LocLe.refl _|exact z53|exact F2.nil|apply F2.cons|apply z44)))
    cases neg
    all_goals
      refine z10 z18 Tryz.func282 rfl rfl 86 Tryz.ntmps282 (by simp) ?_
      repeat' ((first|(apply AWP.go ok;rfl)|(apply z9 (cn);rfl;rfl))<;>conv=>whnf)
      all_goals (refine RetS.lay [] [] rfl rfl rfl ?_;refine RetS.done ?_ ?_<;>(repeat' (first|exact LocLe.refl _|exact z53|exact F2.nil|apply F2.cons|apply z44)))
  | un k a hk ha =>
    have ca:=ih a (by simp [Tree.kids]) ha
    clear ih
    have cn:=z610 truT
    rcases hk with rfl|rfl|rfl|rfl
    · rw [z776,argU 3 0 a]
      have ca:=ca (!neg)
      refine z10 z18 Tryz.func282 rfl rfl 86 Tryz.ntmps282 (by simp) ?_
      repeat' ((first|(apply AWP.go ok;rfl)|(refine ⟨_,rfl,?_⟩)|(apply And.intro;omega)|(apply z9 (ca);rfl;rfl))<;>conv=>whnf)
      all_goals (refine RetS.lay [] [] rfl rfl rfl ?_;refine RetS.done ?_ ?_<;>(repeat' (first|exact LocLe.refl _|exact F2.nil)))
    · rw [z599,argU 6 0 a]
      have ca:=ca neg
      generalize a.nrm neg=x at *
      rw [Tree.arg_eq x] at ca
      refine z10 z18 Tryz.func282 rfl rfl 86 Tryz.ntmps282 (by simp) ?_
      repeat' ((first|(apply AWP.go ok;rfl)|(refine ⟨_,rfl,?_⟩)|(apply And.intro;omega)|(apply z9 (ca);rfl;rfl))<;>conv=>whnf)
      all_goals skip
      all_goals (refine RetS.lay [] [2] rfl rfl rfl ?_;refine RetS.done ?_ ?_<;>(repeat' (first|exact LocLe.refl _|exact F2.nil|apply F2.cons|((apply z45 rfl rfl rfl);(focus ((repeat (rfl));done));(focus ((rfl);done)))|apply z44|(apply z80;rfl))))
      all_goals exact z451 _
    · rw [z1003,argU 9 0 a]
      have ca:=ca neg
      generalize a.nrm neg=x at *
      rw [Tree.arg_eq x] at ca
      cases neg
      all_goals
        refine z10 z18 Tryz.func282 rfl rfl 86 Tryz.ntmps282 (by simp) ?_
        repeat' ((first|(apply AWP.go ok;rfl)|(apply z34;kernel_rfl)|(refine ⟨_,rfl,?_⟩)|(apply And.intro;omega)|(apply z9 (ca);rfl;rfl)|(apply z9 (hT);rfl;rfl)|(apply z9 (cn);rfl;rfl))<;>conv=>whnf)
        all_goals skip
        all_goals (refine RetS.lay [] [3] rfl rfl rfl ?_;refine RetS.done ?_ ?_<;>(repeat' (first|exact LocLe.refl _|exact F2.nil|apply F2.cons|((apply z45 rfl rfl rfl);(focus ((repeat (rfl));done));(focus ((rfl);done)))|apply z44|(apply z80;rfl))))
        all_goals exact z451 _
    · rw [z1005,argU 10 0 a]
      have ca:=ca neg
      generalize a.nrm neg=x at *
      rw [Tree.arg_eq x] at ca
      cases neg
      all_goals
        refine z10 z18 Tryz.func282 rfl rfl 86 Tryz.ntmps282 (by simp) ?_
        repeat' ((first|(apply AWP.go ok;rfl)|(apply z34;kernel_rfl)|(refine ⟨_,rfl,?_⟩)|(apply And.intro;omega)|(apply z9 (ca);rfl;rfl)|(apply z9 (hT);rfl;rfl)|(apply z9 (cn);rfl;rfl))<;>conv=>whnf)
        all_goals skip
        all_goals (refine RetS.lay [] [3] rfl rfl rfl ?_;refine RetS.done ?_ ?_<;>(repeat' (first|exact LocLe.refl _|exact F2.nil|apply F2.cons|((apply z45 rfl rfl rfl);(focus ((repeat (rfl));done));(focus ((rfl);done)))|apply z44|(apply z80;rfl))))
        all_goals exact z451 _
  | bin k a b hk ha hb =>
    have ca:=ih a (by simp [Tree.kids]) ha neg
    have cb:=ih b (by simp [Tree.kids]) hb neg
    clear ih
    have cd:=z1026 k
    rw [z777 _ _ _ _ _ hk,argB k 0 a b]
    generalize a.nrm neg=x at *
    generalize b.nrm neg=y at *
    rw [Tree.arg_eq x] at ca
    rw [Tree.arg_eq y] at cb
    generalize z1054 k=k' at *
    cases neg
    all_goals
      refine z10 z18 Tryz.func282 rfl rfl 86 Tryz.ntmps282 (by simp) ?_
      repeat' ((first|(apply AWP.go ok;rfl)|(apply z34;kernel_rfl)|(refine ⟨_,rfl,?_⟩)|(apply And.intro;omega)|((first|apply z7|apply z38)<;>intro _)|(apply z9 (ca);rfl;rfl)|(apply z9 (cb);rfl;rfl)|(apply z9 (cd);rfl;rfl))<;>conv=>whnf)
      all_goals first|(exfalso;omega)|skip
      all_goals (refine RetS.lay [] [2] rfl rfl rfl ?_;refine RetS.done ?_ ?_<;>(repeat' (first|exact LocLe.refl _|exact F2.nil|apply F2.cons|((apply z45 rfl rfl rfl);(focus ((repeat (rfl));done));(focus ((rfl);done)))|apply z44|(apply z80;rfl))))
      all_goals exact z451 _
end Go.Proofs.YtknlmbniicacmaaGreat

namespace Go.Proofs.YtknlmbniicacmaaGreat
open Go.Gl
attribute [local irreducible] z31 AWP z48 z52 z50 RetS z57
theorem z907 (t:Tree) (h:t.sz≤1000000):CallsA Tryz.prog 241 [z51 Tree.cs' t] [] (ownT t) [.cells 3 (t.kids.map Tree.cs')]:=by
  induction t using Tree.ind with|h t ih=>?_
  have hkl:t.kids.length≤1000000:=by rw [Tree.sz_eq] at h;omega
  have hks:∀ u∈t.kids,u.sz≤1000000:=fun u hu=>by
    have:=z409 Tree.sz hu
    rw [Tree.sz_eq] at h;omega
  rw [Tree.arg_eq t]
  obtain ⟨k,v,l⟩:=t
  simp only [Tree.kind,Tree.val,Tree.kids] at *
  have hcs:∀ (i:Nat) (hi:i < l.length),CallsA Tryz.prog 241 [z51 Tree.cs' l[i]] [] (z51 Tree.cs' l[i]) []:=fun i hi =>
    z598 (ih _ (List.getElem_mem _) (hks _ (List.getElem_mem _)))
  unfold ownT
  simp only [Tree.kind,Tree.val,Tree.kids] at *
  refine z10 z18 Tryz.func241 rfl rfl 29 Tryz.ntmps241 (by simp) ?_
  repeat' (((apply AWP.go ok;rfl))<;>conv=>whnf)
  all_goals skip
  refine AWP.reach (Reach.empty 3 rfl) ?_
  refine z64 (fun i:Nat=>([(1,.ptr 0 none 0),(2,.ptr 1 none 0),(3,.ptr 2 none 0),(4,.int i)],[.cells 3 [[.int k,.int v,lst 3 Tree.cs' l]],.cells 3 [[.int 0,.int 0,.nils]],.cells 3 [[.int k,.int v,.sref 3 0 i]],.cells 3 ((l.take i).map Tree.cs')])) (fun i=>i≤l.length) (fun i=>l.length - i) 0 (by omega) (by refine SealW.reach [0,1,2,3] [] rfl rfl rfl rfl ?_ ?_<;>(repeat' (first|exact LocLe.refl _|exact z46|exact F2.nil|apply F2.cons|apply ObjLe.box|((refine z13 rfl ?_ ?_);(focus ((repeat' (exact z37));done)))|exact True.intro|apply And.intro))) ?_
  intro i hi
  by_cases hil:i < l.length
  · have hc:=hcs i hil
    repeat' ((first|(apply AWP.go ok;rfl)|(apply z34;kernel_rfl)|(apply And.intro;first|omega|(unfold inI;omega)|((try dsimp only);simp only [List.length_map,List.length_take,List.length_append,List.length_replicate,List.length_cons,List.length_nil];omega)|exact ⟨rfl,z21 rfl z30⟩)|(((with_reducible apply z11;omega));intro _)|((apply z7)<;>intro _)|(apply z9 (hc);rfl;rfl))<;>conv=>whnf)
    all_goals first|(exfalso;omega)|skip
    refine z23 (i+1) (by omega) (by omega) (by refine SealW.reach [0,1,2,5] [] rfl rfl rfl rfl ?_ ?_<;>(repeat' (first|exact LocLe.refl _|exact F2.nil|apply F2.cons|apply ObjLe.box|((refine z35 rfl ?_ ?_);(focus ((repeat' (first|exact z6 (fun _=>rfl)|apply z22));done)))|(refine z104 (by omega) (by omega) ?_)|exact True.intro|apply And.intro)))
  · have e:i=l.length:=by omega
    subst e
    rw [List.take_length]
    repeat' ((first|(apply AWP.go ok;rfl)|(apply And.intro;omega)|(((with_reducible apply z11;omega));intro _)|((apply z7)<;>intro _))<;>conv=>whnf)
    all_goals first|(exfalso;omega)|skip
    all_goals (refine RetS.lay [3] [] rfl rfl rfl ?_;refine RetS.done ?_ ?_<;>(repeat' (first|exact LocLe.refl _|exact F2.nil|apply F2.cons|exact z12 _|((refine z13 rfl ?_ ?_);(focus ((repeat' ((exact z6 (fun _=>rfl))));done))))))
end Go.Proofs.YtknlmbniicacmaaGreat

