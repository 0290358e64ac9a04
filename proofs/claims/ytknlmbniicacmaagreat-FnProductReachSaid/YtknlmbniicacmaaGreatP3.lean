/- A part of the proofs over this program: T75K, T75M, T81, T82, T83, T84, T85, T86, T87, T88, T89, T31, T32. -/
import Derived.Test.YtknlmbniicacmaaGreatG0
import Derived.Test.YtknlmbniicacmaaGreatG1
import Derived.Test.YtknlmbniicacmaaGreatG2
import Derived.Test.YtknlmbniicacmaaGreatG3
import Derived.Test.YtknlmbniicacmaaGreatP0
import Derived.Test.YtknlmbniicacmaaGreatP1
import Derived.Test.YtknlmbniicacmaaGreatP2
set_option linter.all false
namespace Go.Proofs.YtknlmbniicacmaaGreat
open Go.Gl
attribute [local irreducible] z31 AWP z48 z52 z50 RetS z57
theorem len3 {α:Type} {l:List α} (h:l.length=3):∃ a b c,l=[a,b,c]:=by
  match l,h with
  | [a,b,c],_=>exact ⟨a,b,c,rfl⟩
set_option maxHeartbeats 3200000 in
theorem z690 (bs:List Int) (hb:BytesOk bs) (p:Int) (hp:few1 p):∃ (M:List Tree) (n:Nat) (p' : Int),(n≤M.length∧M.length=3∧(∀ t∈M,t.sz≤5)∧p≤p'∧p'≤p+30)∧CallsA Tryz.prog 147 [.ptr 0 none 0] [rdO bs p] (.sref 1 0 n) [rdO bs p',.cells 3 (M.map Tree.cs')]:=by
  obtain ⟨M,pf,hM,hp0,hst,hpf⟩:=z302 (fun _ q (t' : Tree) q'=>t'.sz≤3∧∃ t q1,CallsA Tryz.prog 205 [.ptr 0 none 0] [rdO bs q] (z51 Tree.cs' t) [rdO bs q1]∧((t.kind=1∧∃ w,t'=leaf 2 w∧q'=q1+1∧CallsA Tryz.prog 73 [.ptr 0 none 0,.int 3] [rdO bs q1] (.int w) [rdO bs (q1+1)])∨(t.kind≠1∧t'=t∧q'=q1))) p 6 3 (fun k q hk h1 h2=>by
    obtain ⟨t,q1,⟨a1,a2,a3⟩,ct⟩:=z554 bs hb q ⟨by omega,by omega⟩
    by_cases ht:t.kind=1
    · obtain ⟨w,⟨lw,uw⟩,cw⟩:=z59 bs hb q1 3 (by omega) (by omega) (by omega)
      exact ⟨leaf 2 w,q1+1,⟨by rw [z87];omega,t,q1,ct,.inl ⟨ht,w,rfl,rfl,cw⟩⟩,by omega,by omega⟩
    · exact ⟨t,q1,⟨a1,t,q1,ct,.inr ⟨ht,rfl,rfl⟩⟩,by omega,by omega⟩)
  have hMs:∀ t∈M,t.sz≤3:=fun t ht=>by
    obtain ⟨i,hi,rfl⟩:=List.mem_iff_getElem.1 ht
    exact (hst i hi).1
  have hp3:=hpf 3 (Nat.le_refl _)
  obtain ⟨v,⟨lv,uv⟩,cv⟩:=z59 bs hb (pf 3) 40 (by omega) (by omega) (by omega)
  have key:∀ (M' : List Tree) (n:Nat) (p' : Int),(v=0→n=2∧M'=M∧p'=pf 3+1)→(v≠0→v≠1→n=3∧M'=M∧p'=pf 3+1)→(v=1→n=3∧∃ a b c u w q1,M=[a,b,c]∧M'=[a,w,c]∧CallsA Tryz.prog 206 [.ptr 0 none 0,z51 Tree.cs' b] [rdO bs (pf 3+1)] (z51 Tree.cs' u) [rdO bs q1]∧CallsA Tryz.prog 206 [.ptr 0 none 0,z51 Tree.cs' u] [rdO bs q1] (z51 Tree.cs' w) [rdO bs p'])→CallsA Tryz.prog 147 [.ptr 0 none 0] [rdO bs p] (.sref 1 0 n) [rdO bs p',.cells 3 (M'.map Tree.cs')]:=by
    intro M' n p' k0 k2 k1
    refine z10 z18 Tryz.func147 rfl rfl 41 Tryz.ntmps147 (by simp) ?_
    repeat' (((apply AWP.go ok;rfl))<;>conv=>whnf)
    all_goals skip
    rw [← hp0]
    refine z64 (fun i:Nat=>([(0,.ptr 0 none 0),(3,.sref 1 0 i),(4,.int i)],[rdO bs (pf i),.cells 3 ((M.take i).map Tree.cs')])) (fun i=>i≤3) (fun i=>3 - i) 0 (by omega) (by refine SealW.reach [0,1] [] rfl rfl rfl rfl ?_ ?_<;>(repeat' (first|exact LocLe.refl _|exact F2.nil|apply F2.cons|apply ObjLe.box|((refine z13 rfl ?_ ?_);(focus ((repeat' (exact z37));done)))|exact True.intro|apply And.intro))) ?_
    intro i hi
    by_cases hil:i < 3
    · obtain ⟨a1,t,q1,ct,ht⟩:=hst i (by omega)
      have hiM:i < M.length:=by omega
      rw [Tree.arg_eq t] at ct
      rcases ht with ⟨h1,w,h2,h3,cw⟩|⟨h1,h2,h3⟩
      · repeat' ((first|(apply AWP.go ok;rfl)|(apply And.intro;first|omega|(unfold inI;omega)|((try dsimp only);simp only [List.length_map,List.length_take,List.length_append,List.length_replicate,List.length_cons,List.length_nil];omega)|exact ⟨rfl,z21 rfl z30⟩)|((apply z7)<;>intro _)|((first|(apply z8 [0] [] [] (ct);rfl;(focus ((repeat' first|exact z4|apply z5)<;>rfl)))|(apply z8 [0] [] [] (cw);rfl;(focus ((repeat' first|exact z4|apply z5)<;>rfl))));rfl;rfl;rfl;rfl;rfl;(focus ((repeat' first|exact z15|apply z14)<;>exact z20 rfl rfl));(exact .inl rfl)))<;>conv=>whnf)
        all_goals first|(exfalso;omega)|skip
        have e1:M[i].kind=2:=by rw [h2];rfl
        have e2:M[i].val=w:=by rw [h2];rfl
        have e3:M[i].kids=[]:=by rw [h2];rfl
        all_goals refine z23 (i+1) (by omega) (by omega) (by refine SealW.reach [0,4] [] rfl rfl rfl rfl ?_ ?_<;>(repeat' (first|exact LocLe.refl _|(refine nils_of ?_;assumption)|exact F2.nil|apply F2.cons|(refine z96 ?_;omega)|apply ObjLe.box|((refine z35 rfl ?_ ?_);(focus ((repeat' (first|exact z6 (fun _=>rfl)|apply z22));done)))|(refine z104 (by omega) (by omega) ?_)|exact True.intro|apply And.intro)))
      · subst h2
        repeat' ((first|(apply AWP.go ok;rfl)|(apply And.intro;first|(unfold inI;omega)|((try dsimp only);simp only [List.length_map,List.length_take,List.length_append,List.length_replicate,List.length_cons,List.length_nil];omega)|exact ⟨rfl,z21 rfl z30⟩)|((apply z7)<;>intro _)|(((apply z8 [0] [] [] (ct);rfl;(focus ((repeat' first|exact z4|apply z5)<;>rfl))));rfl;rfl;rfl;rfl;rfl;(focus ((repeat' first|exact z15|apply z14)<;>exact z20 rfl rfl));(exact .inl rfl)))<;>conv=>whnf)
        all_goals first|(exfalso;omega)|skip
        all_goals refine z23 (i+1) (by omega) (by omega) (by refine SealW.reach [0,4] [] rfl rfl rfl rfl ?_ ?_<;>(repeat' (first|exact LocLe.refl _|exact F2.nil|apply F2.cons|exact z355|(refine z96 ?_;omega)|apply ObjLe.box|((refine z35 rfl ?_ ?_);(focus ((repeat' (first|exact z6 (fun _=>rfl)|apply z22));done)))|(refine z104 (by omega) (by omega) ?_)|(apply z80;rfl)|exact True.intro|apply And.intro)))
    · have:i=3:=by omega
      subst this
      obtain ⟨a,b,c,rfl⟩:=len3 hM
      by_cases h0:v=0
      · obtain ⟨rfl,rfl,rfl⟩:=k0 h0
        subst h0
        repeat' ((first|(apply AWP.go ok;rfl)|(apply And.intro;omega)|(((apply z8 [0] [] [] (cv);rfl;(focus ((repeat' first|exact z4|apply z5)<;>rfl))));rfl;rfl;rfl;rfl;rfl;(focus ((repeat' first|exact z15|apply z14)<;>exact z20 rfl rfl));(exact .inl rfl)))<;>conv=>whnf)
        all_goals skip
        all_goals (refine RetS.lay [0,1] [] rfl rfl rfl ?_;refine RetS.done ?_ ?_<;>(repeat' (first|exact LocLe.refl _|exact F2.nil|apply F2.cons|apply ObjLe.box|((refine z13 rfl ?_ ?_);(focus ((repeat' ((exact z6 (fun _=>rfl))));done))))))
      by_cases h1:v=1
      · obtain ⟨rfl,a',b',c',u,w,q1,e,rfl,c1,c2⟩:=k1 h1
        simp only [List.cons.injEq,and_true] at e
        obtain ⟨rfl,rfl,rfl⟩:=e
        subst h1
        rw [Tree.arg_eq u] at c1 c2
        rw [Tree.arg_eq w] at c2
        repeat' ((first|(apply AWP.go ok;rfl)|(apply And.intro;omega)|apply z127|((first|(apply z8 [0] [] [] (cv);rfl;(focus ((repeat' first|exact z4|apply z5)<;>rfl)))|(apply z8 [0] [] [] (c1);rfl;(focus ((repeat' first|exact z4|apply z5)<;>rfl)))|(apply z8 [0] [] [] (c2);rfl;(focus ((repeat' first|exact z4|apply z5)<;>rfl))));rfl;rfl;rfl;rfl;rfl;(focus ((repeat' first|exact z15|apply z14)<;>exact z20 rfl rfl));(exact .inl rfl)))<;>conv=>whnf)
        all_goals skip
        all_goals (refine RetS.lay [0,1] [] rfl rfl rfl ?_;refine RetS.done ?_ ?_<;>(repeat' (first|exact LocLe.refl _|exact F2.nil|apply F2.cons|exact z355|apply ObjLe.box|((refine z42 rfl ?_ ?_);(focus ((repeat' ((exact z6 (fun _=>rfl))));done)))|(apply z80;rfl))))
      · obtain ⟨rfl,rfl,rfl⟩:=k2 h0 h1
        repeat' ((first|(apply AWP.go ok;rfl)|(apply And.intro;omega)|(((apply z11;omega));intro _)|((apply z7)<;>intro _)|(((apply z8 [0] [] [] (cv);rfl;(focus ((repeat' first|exact z4|apply z5)<;>rfl))));rfl;rfl;rfl;rfl;rfl;(focus ((repeat' first|exact z15|apply z14)<;>exact z20 rfl rfl));(exact .inl rfl)))<;>conv=>whnf)
        all_goals first|(exfalso;omega)|skip
        all_goals (refine RetS.lay [0,1] [] rfl rfl rfl ?_;refine RetS.done ?_ ?_<;>(repeat' (first|exact LocLe.refl _|exact F2.nil|apply F2.cons|apply ObjLe.box|((refine z13 rfl ?_ ?_);(focus ((repeat' ((exact z6 (fun _=>rfl))));done))))))
  by_cases h1:v=1
  · obtain ⟨a,b,c,rfl⟩:=len3 hM
    have hb1:=hMs b (by simp)
    obtain ⟨u,q1,⟨b1,b2,b3⟩,c1⟩:=z489 bs hb (pf 3+1) ⟨by omega,by omega⟩ b (by omega)
    obtain ⟨w,q2,⟨d1,d2,d3⟩,c2⟩:=z489 bs hb q1 ⟨by omega,by omega⟩ u (by omega)
    refine ⟨[a,w,c],3,q2,⟨by simp,by simp,fun t ht=>?_,by omega,by omega⟩,key _ _ _ (fun h=>by omega) (fun _ h=>absurd h1 h) fun _=>⟨rfl,a,b,c,u,w,q1,rfl,rfl,c1,c2⟩⟩
    have ha:=hMs a (by simp)
    have hc:=hMs c (by simp)
    simp only [List.mem_cons,List.not_mem_nil,or_false] at ht
    rcases ht with rfl|rfl|rfl<;>omega
  · by_cases h0:v=0
    · exact ⟨M,2,pf 3+1,⟨by omega,hM,fun t ht=>by have:=hMs t ht;omega,by omega,by omega⟩,key _ _ _ (fun _=>⟨rfl,rfl,rfl⟩) (fun h=>absurd h0 h) fun h=>absurd h h1⟩
    · exact ⟨M,3,pf 3+1,⟨by omega,hM,fun t ht=>by have:=hMs t ht;omega,by omega,by omega⟩,key _ _ _ (fun h=>absurd h h0) (fun _ _=>⟨rfl,rfl,rfl⟩) fun h=>absurd h h1⟩
end Go.Proofs.YtknlmbniicacmaaGreat

namespace Go.Proofs.YtknlmbniicacmaaGreat
open Go.Gl
attribute [local irreducible] z31 AWP z48 z52 z50 RetS z57
theorem z783 (bs:List Int) (hb:BytesOk bs) (p:Int) (hp:few1 p):∃ (L:List Tree) (p' : Int),(L.length≤3∧(∀ t∈L,t.sz≤5)∧p≤p'∧p'≤p+30)∧CallsA Tryz.prog 147 [.ptr 0 none 0] [rdO bs p] (lst 3 Tree.cs' L) [rdO bs p']:=by
  obtain ⟨M,n,p',⟨h1,h2,h3,h4,h5⟩,c⟩:=z690 bs hb p hp
  refine ⟨M.take n,p',⟨by simp;omega,fun t ht=>h3 t (List.mem_of_mem_take ht),h4,h5⟩,?_⟩
  obtain ⟨a,b,d,rfl⟩:=len3 h2
  have hn:n=0∨n=1∨n=2∨n=3:=by simp at h1;omega
  rcases hn with rfl|rfl|rfl|rfl
  all_goals exact (by refine CallsA.settle (c) [0] [1] rfl rfl rfl ?_ ?_<;>(repeat' (first|exact LocLe.refl _|exact F2.nil|apply F2.cons|apply ObjLe.box)))
theorem Lmx_of {L:List Tree} (h1:L.length≤10) (h2:∀ t∈L,t.sz≤1000):Lmx L:=⟨by unfold maxLen;omega,fun t ht=>z156 t (by have:=h2 t ht;unfold maxLen;omega)⟩
end Go.Proofs.YtknlmbniicacmaaGreat

namespace Go.Proofs.YtknlmbniicacmaaGreat
open Go.Gl
attribute [local irreducible] z31 AWP z48 z52 z50 RetS z57
def z221 (n:Nat):List Int:=(List.range n).map Int.ofNat
theorem z289 (n:Nat):(z221 n).length=n:=by simp [z221]
theorem z716 {n i:Nat} (h:i < (z221 n).length):(z221 n)[i]=i:=by simp [z221]
theorem z909 (n:Nat) (hn:n≤1000000):CallsA Tryz.prog 172 [.int n] [] (ints (z221 n)) []:=by
  refine z10 z18 Tryz.func172 rfl rfl 16 Tryz.ntmps172 (by simp) ?_
  repeat' (((apply AWP.go ok;rfl))<;>conv=>whnf)
  refine z64 (fun i:Nat=>([(0,.int n),(3,.sref 0 0 i),(4,.int i)],[.cells 1 (((z221 n).take i).map enI)])) (fun i=>i≤n) (fun i=>n - i) 0 (by omega) (by refine SealW.reach [0] [] rfl rfl rfl rfl ?_ ?_<;>(repeat' (first|exact LocLe.refl _|exact F2.nil|apply F2.cons|((refine z13 rfl ?_ ?_);(focus ((repeat' (exact z37));done)))|exact True.intro|apply And.intro))) ?_
  intro i hi
  by_cases hin:i < n
  · have hl:i < (z221 n).length:=by rw [z289];exact hin
    have e:=z716 hl
    repeat' ((first|(apply AWP.go ok;rfl)|(apply And.intro;first|(unfold inI;omega)|((try dsimp only);simp only [List.length_map,List.length_take,List.length_append,List.length_replicate,List.length_cons,List.length_nil];omega)|exact ⟨rfl,z21 rfl z30⟩)|((apply z7)<;>intro _))<;>conv=>whnf)
    all_goals first|(exfalso;omega)|skip
    all_goals refine z23 (i+1) (by omega) (by omega) (by refine SealW.reach [2] [] rfl rfl rfl rfl ?_ ?_<;>(repeat' (first|exact LocLe.refl _|exact F2.nil|apply F2.cons|(refine z96 ?_;omega)|((refine z35 rfl ?_ ?_);(focus ((repeat' (first|exact z6 (fun _=>rfl)|apply z22));done)))|(refine z104 (by omega) (by omega) ?_)|exact True.intro|apply And.intro)))
  · have e:i=n:=by omega
    subst e
    have hl:=z289 i
    rw [List.take_of_length_le (by omega)]
    generalize z221 i=L at *
    repeat' ((first|(apply AWP.go ok;rfl)|(apply And.intro;omega)|((apply z7)<;>intro _))<;>conv=>whnf)
    all_goals first|(exfalso;omega)|skip
    all_goals (refine RetS.lay [] [0] rfl rfl rfl ?_;refine RetS.done ?_ ?_<;>(repeat' (first|exact F2.nil|(refine z262 ?_;omega)|((apply z45 rfl rfl rfl);(focus ((repeat ((exact z41 (fun _=>rfl) _)));done));(focus (((simp;omega));done))))))
structure State.sm (s:State):Prop where
  a:s.a.length≤100
  b:s.b.length≤100
structure Graph.sm (g:Graph):Prop where
  st:g.st.length≤100
  nx:g.nx.length≤100
  el:∀ s∈g.st,s.sm
  row:∀ r∈g.nx,r.length≤1000
theorem Graph.sm.mx {g:Graph} (h:g.sm):g.mx:=by
  have h1:=h.st
  have h2:=h.nx
  refine ⟨?_,by unfold maxLen;omega,fun l hl=>by have:=h.row l hl;unfold maxLen;omega⟩
  have h3:=h.el
  exact ⟨by unfold maxLen;omega,fun s hs=>⟨by have:=(h3 s hs).a;unfold maxLen;omega,by have:=(h3 s hs).b;unfold maxLen;omega⟩⟩
theorem z696 (g : Graph) (hg : g.sm) (path : List Int) (hp : path.length ≤ 1000) (hin : ∀ x ∈ path, 0 ≤ x ∧ x < g.st.length) (S : List State) (hS : S.length = path.length) (he : ∀ i (h : i < path.length) (h2 : i < S.length), g.st[(path[i]).toNat]? = some S[i]) :
    CallsA Tryz.prog 219 [.agg g.cs,ints path] [] (.sref 0 0 S.length) [.cells 2 (S.map State.cs)]:=by
  refine z10 z18 Tryz.func219 rfl rfl 36 Tryz.ntmps219 (by simp) ?_
  repeat' (((apply AWP.go ok;rfl))<;>conv=>whnf)
  refine z64 (fun i:Nat=>([(1,ints path),(2,.ptr 0 none 0),(5,.sref 1 0 i),(6,.int i)],[.cells 2 [g.cs],.cells 2 ((S.take i).map State.cs)])) (fun i=>i≤path.length) (fun i=>path.length - i) 0 (by omega) (by refine SealW.reach [0,1] [] rfl rfl rfl rfl ?_ ?_<;>(repeat' (first|exact LocLe.refl _|exact F2.nil|apply F2.cons|apply ObjLe.box|((refine z13 rfl ?_ ?_);(focus ((repeat' (exact z37));done)))|exact True.intro|apply And.intro))) ?_
  intro i hi
  by_cases hip:i < path.length
  · have hl:i < S.length:=by omega
    have hx:=hin path[i] (List.getElem_mem _)
    have g0:(path.map enI)[i]?=some (enI path[i]):=by rw [List.getElem?_map,List.getElem?_eq_getElem hip];rfl
    have g1:=he i hip hl
    have g2:(g.st.map State.cs)[(path[i]).toNat]?=some (State.cs S[i]):=by rw [List.getElem?_map,g1];rfl
    have hs:=hg.el S[i] (List.mem_of_getElem? g1)
    have ha:=hs.a
    have hb:=hs.b
    generalize path[i]=x at *
    repeat' ((first|(apply AWP.go ok;rfl)|(apply z34;kernel_rfl)|(refine z16 (i:=i) rfl g0 ?_)|(refine z16 (i:=x.toNat) rfl g2 ?_)|(apply And.intro;first|omega|(unfold inI;omega)|(dsimp only;omega)|((try dsimp only);simp only [List.length_map,List.length_take,List.length_append,List.length_replicate,List.length_cons,List.length_nil];omega)|exact z93 (fun _=>rfl)|exact ⟨rfl,z21 rfl z30⟩)|((apply z7)<;>intro _))<;>conv=>whnf)
    all_goals first|(exfalso;omega)|skip
    all_goals refine z23 (i+1) (by omega) (by omega) (by refine SealW.reach [0,8] [4,6] rfl rfl rfl rfl ?_ ?_<;>(repeat' (first|exact LocLe.refl _|exact F2.nil|apply F2.cons|(refine z262 ?_;omega)|apply ObjLe.box|((refine z35 rfl ?_ ?_);(focus ((repeat' (first|exact z6 (fun _=>rfl)|apply z22));done)))|(refine z104 (by omega) (by omega) ?_)|((apply z75 rfl rfl rfl);(focus ((repeat ((exact z41 (fun _=>rfl) _)));done));(focus (((simp;done));done)))|exact True.intro|apply And.intro)))
  · have e:i=S.length:=by omega
    subst e
    rw [List.take_of_length_le (by omega)]
    repeat' ((first|(apply AWP.go ok;rfl)|(apply z34;kernel_rfl)|(apply And.intro;omega)|((first|(with_reducible apply z11;omega)|(with_reducible apply z69;omega));intro _)|((apply z7)<;>intro _))<;>conv=>whnf)
    all_goals first|(exfalso;omega)|skip
    all_goals (refine RetS.lay [1] [] rfl rfl rfl ?_;refine RetS.done ?_ ?_<;>(repeat' (first|exact LocLe.refl _|exact F2.nil|apply F2.cons|exact z12 _|((refine z13 rfl ?_ ?_);(focus ((repeat' ((exact z6 (fun _=>rfl))));done))))))
end Go.Proofs.YtknlmbniicacmaaGreat

namespace Go.Proofs.YtknlmbniicacmaaGreat
open Go.Gl
attribute [local irreducible] z31 AWP z48 z52 z50 RetS z57
theorem z1061 {n:Nat} {x:Int} (h:x∈z221 n):0≤x∧x < n:=by
  unfold z221 at h
  obtain ⟨i,hi,rfl⟩:=List.mem_map.1 h
  have:=List.mem_range.1 hi
  show (0:Int)≤(i:Int)∧(i:Int) < n
  omega
theorem snoc_at {α:Type} (a:List α) (x:α) (k:Nat) (h:a.length=k):(a++[x])[k]?=some x:=by subst h;simp
set_option maxHeartbeats 1600000 in
theorem z910 (g:Graph) (hg:g.sm):CallsA Tryz.prog 167 [.agg g.cs] [] (.agg [.sref 0 0 g.st.length,.sref 1 0 g.nx.length]) [.cells 2 (g.st.map State.cs),.cells 1 (g.nx.map ownRow)]:=by
  have hst:=hg.st
  have hnx:=hg.nx
  have c1:=z909 g.st.length (by omega)
  have c2:=z696 g hg (z221 g.st.length) (by rw [z289];omega) (fun x hx=>z1061 hx) g.st (by rw [z289]) (fun i h h2=>by rw [z716 h];simp)
  generalize z221 g.st.length=C at *
  refine z10 z18 Tryz.func167 rfl rfl 32 Tryz.ntmps167 (by simp) ?_
  repeat' ((first|(apply AWP.go ok;rfl)|(apply z34;kernel_rfl)|(apply z9 (c1);rfl;rfl)|(((apply z8 [] [] [2] (c2);rfl;(focus ((repeat' exact z4)<;>fail))));rfl;rfl;rfl;rfl;rfl;(focus ((repeat' first|exact z15|apply z14)<;>(refine z25 ?_;((exact z6 fun _=>rfl)))));(exact .inl rfl)))<;>conv=>whnf)
  all_goals skip
  refine AWP.reach (Reach.empty 1 rfl) ?_
  refine z64 (fun i:Nat=>([(1,.ptr 0 none 0),(2,.ptr 1 none 0),(3,.ptr 3 none 0),(4,.int i)],[.cells 2 [g.cs],.cells 2 [[.nils,.nils]],.cells 2 (g.st.map State.cs),.cells 2 [[.sref 2 0 g.st.length,.sref 4 0 i]],.cells 1 ((g.nx.take i).map ownRow)])) (fun i=>i≤g.nx.length) (fun i=>g.nx.length - i) 0 (by omega) (by refine SealW.reach [0,1,2,3,4] [] rfl rfl rfl rfl ?_ ?_<;>(repeat' (first|exact LocLe.refl _|exact z46|exact F2.nil|apply F2.cons|exact z12 _|apply ObjLe.box|((refine z13 rfl ?_ ?_);(focus ((repeat' (first|exact z37|exact z6 (fun _=>rfl)));done)))|exact True.intro|apply And.intro))) ?_
  intro i hi
  by_cases hin:i < g.nx.length
  · have hr:=hg.row g.nx[i] (List.getElem_mem _)
    have g0:(g.nx.map encL)[i]?=some (encL g.nx[i]):=by rw [List.getElem?_map,List.getElem?_eq_getElem hin];rfl
    have htl:((g.nx.take i).map ownRow).length=i:=by simp;omega
    have hrow:ownRow g.nx[i]=[.own 1 (g.nx[i].map enI)]:=rfl
    have htk:(g.nx.take (i+1)).map ownRow=(g.nx.take i).map ownRow++[ownRow g.nx[i]]:=by rw [List.take_succ_eq_append_getElem hin,List.map_append];rfl
    generalize hrw:g.nx[i]=row at *
    repeat' ((first|(apply AWP.go ok;rfl)|(apply z34;kernel_rfl)|(refine z16 (i:=i) rfl g0 ?_)|(apply And.intro;first|omega|(unfold inI;omega)|(dsimp only;omega)|exact z93 (fun _=>rfl)|exact ⟨rfl,z21 rfl z30⟩)|((apply z7)<;>intro _))<;>conv=>whnf)
    all_goals first|(exfalso;omega)|skip
    all_goals refine z23 (i+1) (by omega) (by omega) (by
      refine Gl.Reach.trans (Gl.Reach.absorb (e:=[.sref 6 0 (0+row.length)]) 8 6 i 0 rfl (snoc_at _ _ i (by simp;omega)) rfl rfl (by simp) rfl (z99 z37 (z6 fun _=>rfl)) rfl) ?_
      exact (by refine SealW.reach [0,1,2,3,8] [] rfl rfl rfl rfl ?_ ?_<;>(repeat' (first|exact LocLe.refl _|exact F2.nil|apply F2.cons|exact z12 _|apply ObjLe.box|((first|refine z42 rfl ?_ ?_|refine z13 rfl ?_ ?_);(focus ((repeat' (first|exact z6 (fun _=>rfl)|apply z99|apply z22));done)))|(refine z13 rfl ?_ ?_;(focus (refine z620 ?_ ?_ rfl<;>first|(simp;omega)|(apply z22;exact z6 fun _=>rfl))))|(refine z761 ?_ ?_;(focus (simp;omega)))|(refine z104 (by omega) (by omega) ?_)|exact True.intro|apply And.intro))<;>(rw [hrw];exact LocLe.refl _)))
  · have e:i=g.nx.length:=by omega
    subst e
    rw [List.take_length]
    repeat' ((first|(apply AWP.go ok;rfl)|(apply z34;kernel_rfl)|(apply And.intro;omega)|(((with_reducible apply z11;omega));intro _)|((apply z7)<;>intro _))<;>conv=>whnf)
    all_goals first|(exfalso;omega)|skip
    all_goals (refine RetS.lay [2,4] [] rfl rfl rfl ?_;refine RetS.done ?_ ?_<;>(repeat' (first|exact LocLe.refl _|exact F2.nil|apply F2.cons|exact z12 _|((refine z13 rfl ?_ ?_);(focus ((repeat' ((exact z6 (fun _=>rfl))));done))))))
end Go.Proofs.YtknlmbniicacmaaGreat

namespace Go.Proofs.YtknlmbniicacmaaGreat
open Go.Gl
attribute [local irreducible] z31 AWP z48 z52 z50 RetS z57
set_option maxHeartbeats 3200000 in
theorem z788 (bs:List Int) (hb:BytesOk bs) (p:Int) (hp:few p) (g:Graph) (hg:g.sm) (h1:1≤g.st.length) (h2:g.nx.length=g.st.length):∃ (g' : Graph) (p' : Int),(g'.st.length≤100∧g'.nx.length≤101∧(∀ s∈g'.st,s.sm)∧(∀ r∈g'.nx,r.length≤1001)∧p≤p'∧p'≤p+3)∧CallsA Tryz.prog 85 [.ptr 0 none 0,.agg g.cs] [rdO bs p] (.agg g'.cs) [rdO bs p']:=by
  have hst:=hg.st
  have hnx:=hg.nx
  have cc:=z910 g hg
  obtain ⟨k,⟨k0,k1⟩,ck⟩:=z59 bs hb p g.st.length (by omega) (by omega) (by omega)
  obtain ⟨v,⟨v0,v1⟩,cv⟩:=z59 bs hb (p+1) 50 (by omega) (by omega) (by omega)
  have hks:k.toNat < g.st.length:=by omega
  have hkn:k.toNat < g.nx.length:=by omega
  have hrows:∀ r∈g.nx,r.length≤1001:=fun r hr=>by have:=hg.row r hr;omega
  by_cases e0:v=0
  · subst e0
    refine ⟨⟨g.st,g.nx++[[0]]⟩,p+1+1,⟨hst,by simp;omega,hg.el,fun r hr=>?_,by omega,by omega⟩,?_⟩
    · simp only [List.mem_append,List.mem_singleton] at hr
      rcases hr with hr|rfl
      · exact hrows r hr
      · simp
    refine z10 z18 Tryz.func85 rfl rfl 62 Tryz.ntmps85 (by simp) ?_
    repeat' ((first|(apply AWP.go ok;rfl)|(apply And.intro;first|((try dsimp only);simp only [List.length_map,List.length_take,List.length_append,List.length_replicate,List.length_cons,List.length_nil];omega)|exact ⟨rfl,z21 rfl z30⟩)|((first|(apply z8 [] [] [3,4] (cc);rfl;(focus ((repeat' exact z4)<;>fail)))|(apply z8 [0] [] [] (ck);rfl;(focus ((repeat' first|exact z4|apply z5)<;>rfl)))|(apply z8 [0] [] [] (cv);rfl;(focus ((repeat' first|exact z4|apply z5)<;>rfl))));rfl;rfl;rfl;rfl;rfl;(focus ((repeat' first|exact z15|apply z14)<;>first|exact z20 rfl rfl|(refine z25 ?_;((exact z6 fun _=>rfl)))));(exact .inl rfl)))<;>conv=>whnf)
    all_goals skip
    all_goals (refine RetS.mid [0,3,8] [6] [rdO bs (p+1+1),.cells 2 (g.st.map State.cs),.cells 1 (g.nx.map ownRow++[encL [0]])] (.agg [.sref 1 0 g.st.length,.sref 2 0 (g.nx.length+1)]) rfl rfl rfl ?_ ?_ ?_;(focus (repeat' (exact LocLe.refl _)));(focus (repeat' (first|exact LocLe.refl _|exact F2.nil|apply F2.cons|exact z12 _|apply ObjLe.box|((first|refine z35 rfl ?_ ?_|refine z13 rfl ?_ ?_);(focus ((repeat' (first|exact z6 (fun _=>rfl)|apply z22));done)))|(refine app2_le ?_ ?_;(focus (simp;done)))))))
    all_goals (refine RetS.lay [0] [1,2] rfl rfl rfl ?_;refine RetS.done ?_ ?_<;>(repeat' (first|exact LocLe.refl _|exact F2.nil|apply F2.cons|apply ObjLe.box|(refine app3_le ?_)|((apply z45 rfl rfl rfl);(focus ((repeat (first|exact z41 (fun _=>rfl) _|exact z150 _|apply z176|rfl));done));(focus (((simp;done));done)))|apply z44|(refine z80 ?_ ?_;(focus (simp;done))))))
  by_cases e1:v=1
  · subst e1
    obtain ⟨x,mx,cx⟩:=z88 bs hb (p+1+1) (by omega) (by omega) [0,-1,60,9223372036854775807] (by decide) (by decide)
    refine ⟨⟨g.st,g.nx.set k.toNat (g.nx[k.toNat]++[x])⟩,p+1+1+1,⟨hst,by simp;omega,hg.el,fun r hr=>?_,by omega,by omega⟩,?_⟩
    · rcases List.mem_or_eq_of_mem_set hr with h|rfl
      · exact hrows r h
      · have:=hg.row g.nx[k.toNat] (List.getElem_mem _)
        simp;omega
    have hr:=hg.row g.nx[k.toNat] (List.getElem_mem _)
    have g0:(g.nx.map ownRow)[k.toNat]?=some (ownRow g.nx[k.toNat]):=by rw [List.getElem?_map,List.getElem?_eq_getElem hkn];rfl
    generalize g.nx[k.toNat]=row at *
    refine z10 z18 Tryz.func85 rfl rfl 62 Tryz.ntmps85 (by simp) ?_
    repeat' ((first|((fail_if_success apply z146 7);(fail_if_success apply z112 7);apply AWP.go ok;rfl)|((first|(apply z8 [] [] [3,4] (cc);rfl;(focus ((repeat' exact z4)<;>fail)))|(apply z8 [0] [] [] (ck);rfl;(focus ((repeat' first|exact z4|apply z5)<;>rfl)))|(apply z8 [0] [] [] (cv);rfl;(focus ((repeat' first|exact z4|apply z5)<;>rfl))));rfl;rfl;rfl;rfl;rfl;(focus ((repeat' first|exact z15|apply z14)<;>first|exact z20 rfl rfl|(refine z25 ?_;((exact z6 fun _=>rfl)))));(exact .inl rfl)))<;>conv=>whnf)
    all_goals skip
    refine AWP.reach (Gl.Reach.exposeD (e:=ownRow row) 4 k.toNat 0 rfl g0 rfl rfl) ?_
    conv=>whnf
    repeat' ((first|(apply AWP.go ok;rfl)|(apply z34;kernel_rfl)|(refine z619 rfl (by simp;omega) ?_)|(apply And.intro;first|omega|((try dsimp only);simp only [List.length_map,List.length_take,List.length_append,List.length_replicate,List.length_cons,List.length_nil];omega)|exact ⟨rfl,z21 rfl z30⟩)|(((apply z8 [0,7] [] [] (cx);rfl;(focus ((repeat' first|exact z4|apply z5)<;>rfl))));rfl;rfl;rfl;rfl;rfl;(focus ((repeat' first|exact z15|apply z14)<;>first|exact z20 rfl rfl|(refine z25 ?_;((exact z6 fun _=>rfl)))));(exact .inl rfl)))<;>conv=>whnf)
    all_goals skip
    all_goals (refine RetS.mid [0,3,4] [9] [rdO bs (p+1+1+1),.cells 2 (g.st.map State.cs),.cells 1 ((g.nx.map ownRow).set k.toNat (encL (row++[x])))] (.agg [.sref 1 0 g.st.length,.sref 2 0 g.nx.length]) rfl rfl rfl ?_ ?_ ?_;(focus (repeat' (exact LocLe.refl _)));(focus (repeat' (first|exact LocLe.refl _|exact F2.nil|apply F2.cons|exact z12 _|apply ObjLe.box|((first|refine z996 rfl rfl ?_ ?_|refine z13 rfl ?_ ?_);(focus ((repeat' ((exact z6 (fun _=>rfl))));done)))|(refine set2_le (by omega) ?_)|(refine z70 ?_ ?_;(focus ((simp;done))))|((apply z75 rfl rfl rfl);(focus ((repeat (first|exact z41 (fun _=>rfl) _|apply z176|apply z278|rfl));done));(focus (((simp;done));done)))|(refine z80 ?_ ?_;(focus (simp;done)))))))
    all_goals (refine RetS.lay [0] [1,2] rfl rfl rfl ?_;refine RetS.done ?_ ?_<;>(repeat' (first|exact LocLe.refl _|exact F2.nil|apply F2.cons|apply ObjLe.box|(refine z188 (by omega) ?_)|((apply z45 rfl rfl rfl);(focus ((repeat (first|exact z41 (fun _=>rfl) _|exact z150 _|apply z822));done));(focus (((simp;done));done)))|apply z44|(refine z80 ?_ ?_;(focus (simp;done))))))
  have gs:(g.st.map State.cs)[k.toNat]?=some (State.cs g.st[k.toNat]):=by rw [List.getElem?_map,List.getElem?_eq_getElem hks];rfl
  have hsm:=hg.el g.st[k.toNat] (List.getElem_mem _)
  by_cases e2:v=2
  · subst e2
    refine ⟨⟨g.st,g.nx.set k.toNat []⟩,p+1+1,⟨hst,by simp;omega,hg.el,fun r hr=>?_,by omega,by omega⟩,?_⟩
    · rcases List.mem_or_eq_of_mem_set hr with h|rfl
      · exact hrows r h
      · simp
    refine z10 z18 Tryz.func85 rfl rfl 62 Tryz.ntmps85 (by simp) ?_
    repeat' ((first|(apply AWP.go ok;rfl)|(apply And.intro;omega)|(((apply z11;omega));intro _)|((first|(apply z8 [] [] [3,4] (cc);rfl;(focus ((repeat' exact z4)<;>fail)))|(apply z8 [0] [] [] (ck);rfl;(focus ((repeat' first|exact z4|apply z5)<;>rfl)))|(apply z8 [0] [] [] (cv);rfl;(focus ((repeat' first|exact z4|apply z5)<;>rfl))));rfl;rfl;rfl;rfl;rfl;(focus ((repeat' first|exact z15|apply z14)<;>first|exact z20 rfl rfl|(refine z25 ?_;((exact z6 fun _=>rfl)))));(exact .inl rfl)))<;>conv=>whnf)
    all_goals skip
    all_goals (refine RetS.mid [0,3,4] [6] [rdO bs (p+1+1),.cells 2 (g.st.map State.cs),.cells 1 ((g.nx.map ownRow).set k.toNat (encL []))] (.agg [.sref 1 0 g.st.length,.sref 2 0 g.nx.length]) rfl rfl rfl ?_ ?_ ?_;(focus (repeat' (exact LocLe.refl _)));(focus (repeat' (first|exact LocLe.refl _|exact F2.nil|apply F2.cons|exact z12 _|apply ObjLe.box|((first|refine z42 rfl ?_ ?_|refine z13 rfl ?_ ?_);(focus ((repeat' ((exact z6 (fun _=>rfl))));done)))))))
    all_goals (refine RetS.lay [0] [1,2] rfl rfl rfl ?_;refine RetS.done ?_ ?_<;>(repeat' (first|exact LocLe.refl _|exact F2.nil|apply F2.cons|apply ObjLe.box|(refine z188 (by omega) ?_)|((apply z45 rfl rfl rfl);(focus ((repeat (first|exact z41 (fun _=>rfl) _|exact z150 _|apply z822));done));(focus (((simp;done));done)))|apply z44|(refine z80 ?_ ?_;(focus (simp;done))))))
  by_cases e3:v=3
  · subst e3
    obtain ⟨x,mx,cx⟩:=z88 bs hb (p+1+1) (by omega) (by omega) [4,-1,0] (by decide) (by decide)
    refine ⟨⟨g.st.set k.toNat ⟨g.st[k.toNat].a,[0,0,x]⟩,g.nx⟩,p+1+1+1,⟨by simp;omega,by show g.nx.length≤101;omega,fun s hs=>?_,hrows,by omega,by omega⟩,?_⟩
    · rcases List.mem_or_eq_of_mem_set hs with h|rfl
      · exact hg.el s h
      · exact ⟨hsm.a,by simp⟩
    generalize g.st[k.toNat]=s0 at *
    refine z10 z18 Tryz.func85 rfl rfl 62 Tryz.ntmps85 (by simp) ?_
    repeat' ((first|(apply AWP.go ok;rfl)|(apply z34;kernel_rfl)|(refine z16 (i:=k.toNat) rfl gs ?_)|(apply And.intro;omega)|((first|(apply z8 [] [] [3,4] (cc);rfl;(focus ((repeat' exact z4)<;>fail)))|(apply z8 [0] [] [] (ck);rfl;(focus ((repeat' first|exact z4|apply z5)<;>rfl)))|(apply z8 [0] [] [] (cv);rfl;(focus ((repeat' first|exact z4|apply z5)<;>rfl)))|(apply z8 [0,6] [] [] (cx);rfl;(focus ((repeat' first|exact z4|apply z5)<;>rfl))));rfl;rfl;rfl;rfl;rfl;(focus ((repeat' first|exact z15|apply z14)<;>first|exact z20 rfl rfl|(refine z25 ?_;((exact z6 fun _=>rfl)))));(exact .inl rfl)))<;>conv=>whnf)
    all_goals skip
    all_goals (refine RetS.mid [0,3,4] [7] [rdO bs (p+1+1+1),.cells 2 ((g.st.set k.toNat ⟨s0.a,[0,0,x]⟩).map State.cs),.cells 1 (g.nx.map ownRow)] (.agg [.sref 1 0 g.st.length,.sref 2 0 g.nx.length]) rfl rfl rfl ?_ ?_ ?_;(focus (repeat' (exact LocLe.refl _)));(focus (repeat' (first|exact LocLe.refl _|exact F2.nil|apply F2.cons|exact z12 _|apply ObjLe.box|((first|refine z42 rfl ?_ ?_|refine z13 rfl ?_ ?_);(focus ((repeat' ((exact z6 (fun _=>rfl))));done)))|(refine z188 (by omega) ?_)))))
    all_goals (refine RetS.lay [0] [1,2] rfl rfl rfl ?_;refine RetS.done ?_ ?_<;>(repeat' (first|exact LocLe.refl _|exact F2.nil|apply F2.cons|exact z12 _|apply ObjLe.box|((apply z45 rfl rfl rfl);(focus ((repeat (first|exact z41 (fun _=>rfl) _|exact z150 _));done));(focus (((simp;done));done)))|apply z44|(refine z80 ?_ ?_;(focus (simp;done))))))
  by_cases e4:v=4
  · subst e4
    refine ⟨⟨[],[]⟩,p+1+1,⟨by simp,by simp,by simp,by simp,by omega,by omega⟩,?_⟩
    refine z10 z18 Tryz.func85 rfl rfl 62 Tryz.ntmps85 (by simp) ?_
    repeat' ((first|(apply AWP.go ok;rfl)|((first|(apply z8 [] [] [3,4] (cc);rfl;(focus ((repeat' exact z4)<;>fail)))|(apply z8 [0] [] [] (ck);rfl;(focus ((repeat' first|exact z4|apply z5)<;>rfl)))|(apply z8 [0] [] [] (cv);rfl;(focus ((repeat' first|exact z4|apply z5)<;>rfl))));rfl;rfl;rfl;rfl;rfl;(focus ((repeat' first|exact z15|apply z14)<;>first|exact z20 rfl rfl|(refine z25 ?_;((exact z6 fun _=>rfl)))));(exact .inl rfl)))<;>conv=>whnf)
    all_goals skip
    all_goals (refine RetS.lay [0] [] rfl rfl rfl ?_;refine RetS.done ?_ ?_<;>(repeat' (first|exact LocLe.refl _|exact z53|exact F2.nil|apply F2.cons|apply ObjLe.box|apply z44)))
  · refine ⟨g,p+1+1,⟨hst,by omega,hg.el,hrows,by omega,by omega⟩,?_⟩
    refine z10 z18 Tryz.func85 rfl rfl 62 Tryz.ntmps85 (by simp) ?_
    repeat' ((first|(apply AWP.go ok;rfl)|(apply And.intro;omega)|(((apply z11;omega));intro _)|((apply z7)<;>intro _)|((first|(apply z8 [] [] [3,4] (cc);rfl;(focus ((repeat' exact z4)<;>fail)))|(apply z8 [0] [] [] (ck);rfl;(focus ((repeat' first|exact z4|apply z5)<;>rfl)))|(apply z8 [0] [] [] (cv);rfl;(focus ((repeat' first|exact z4|apply z5)<;>rfl))));rfl;rfl;rfl;rfl;rfl;(focus ((repeat' first|exact z15|apply z14)<;>first|exact z20 rfl rfl|(refine z25 ?_;((exact z6 fun _=>rfl)))));(exact .inl rfl)))<;>conv=>whnf)
    all_goals first|(exfalso;omega)|skip
    all_goals (refine RetS.lay [0] [3,4] rfl rfl rfl ?_;refine RetS.done ?_ ?_<;>(repeat' (first|exact LocLe.refl _|exact F2.nil|apply F2.cons|apply ObjLe.box|((apply z45 rfl rfl rfl);(focus ((repeat (first|exact z41 (fun _=>rfl) _|exact z150 _));done));(focus (((simp;done));done)))|apply z44)))
end Go.Proofs.YtknlmbniicacmaaGreat

namespace Go.Proofs.YtknlmbniicacmaaGreat
open Go.Gl
attribute [local irreducible] z31 AWP z48 z52 z50 RetS z57
structure Edge where
  fr:Int
  to:Int
  gd:Tree
  var:Int
  val:Tree
  sync:Int
def Edge.cs (e:Edge):List AC:=[.int e.fr,.int e.to,.int e.gd.kind,.int e.gd.val,lst 3 Tree.cs' e.gd.kids,.int e.var,.int e.val.kind,.int e.val.val,lst 3 Tree.cs' e.val.kids,.int e.sync]
structure Proc where
  loc:Int
  es:List Edge
def Proc.cs (p:Proc):List AC:=[.int p.loc,lst 10 Edge.cs p.es]
structure Sys where
  init:List Int
  ps:List Proc
def Sys.cs (s:Sys):List AC:=[ints s.init,lst 2 Proc.cs s.ps]
structure Edge.sm (e:Edge):Prop where
  gd:e.gd.sz≤100
  val:e.val.sz≤100
  var : -1≤e.var∧e.var≤2
  sync : -2≤e.sync∧e.sync≤2
structure Proc.sm (p:Proc):Prop where
  loc:0≤p.loc∧p.loc≤100
  len:p.es.length≤10
  el:∀ e∈p.es,e.sm
structure Sys.sm (s:Sys):Prop where
  init:s.init.length≤10
  len:s.ps.length≤10
  el:∀ p∈s.ps,p.sm
set_option maxHeartbeats 6400000 in
theorem z613 (bs:List Int) (hb:BytesOk bs) (p:Int) (hp:few1 p) (n:Int) (hn:0≤n∧n≤100):∃ (e:Edge) (p' : Int),(e.sm∧p≤p'∧p'≤p+200)∧CallsA Tryz.prog 224 [.ptr 0 none 0,.int n] [rdO bs p] (.agg e.cs) [rdO bs p']:=by
  obtain ⟨a,⟨la,ua⟩,ca⟩:=z59 bs hb p n (by omega) (by omega) (by omega)
  obtain ⟨b,⟨lb,ub⟩,cb⟩:=z59 bs hb (p+1) n (by omega) (by omega) (by omega)
  obtain ⟨gd,q,⟨g1,g2,g3⟩,cg⟩:=z554 bs hb (p+1+1) ⟨by omega,by omega⟩
  obtain ⟨w,⟨lw,uw⟩,cw⟩:=z59 bs hb q 3 (by omega) (by omega) (by omega)
  rw [Tree.arg_eq] at cg
  by_cases hw:w=0
  · subst hw
    obtain ⟨y,⟨ly,uy⟩,cy⟩:=z59 bs hb (q+1) 4 (by omega) (by omega) (by omega)
    by_cases hy:y=0
    · subst hy
      obtain ⟨s,ms,cs⟩:=z88 bs hb (q+1+1) (by omega) (by omega) [1,-1,1,-1,2,-2] (by decide) (by decide)
      refine ⟨⟨a,b,gd,-1,leaf 0 0,s⟩,q+1+1+1,⟨⟨by show gd.sz≤100;omega,by (rw [z87];omega),by show -1≤(-1:Int)∧(-1:Int)≤2;omega,by simp at ms;show -2≤s∧s≤2;omega⟩,by omega,by omega⟩,?_⟩
      refine z10 z18 Tryz.func224 rfl rfl 61 Tryz.ntmps224 (by simp) ?_
      repeat' ((first|(apply AWP.go ok;rfl)|((first|(apply z8 [0] [] [] (ca);rfl;(focus ((repeat' first|exact z4|apply z5)<;>rfl)))|(apply z8 [0] [] [] (cb);rfl;(focus ((repeat' first|exact z4|apply z5)<;>rfl)))|(apply z8 [0] [] [] (cg);rfl;(focus ((repeat' first|exact z4|apply z5)<;>rfl)))|(apply z8 [0] [] [] (cw);rfl;(focus ((repeat' first|exact z4|apply z5)<;>rfl)))|(apply z8 [0] [] [] (cy);rfl;(focus ((repeat' first|exact z4|apply z5)<;>rfl)))|(apply z8 [0,3] [] [] (cs);rfl;(focus ((repeat' first|exact z4|apply z5)<;>rfl))));rfl;rfl;rfl;rfl;rfl;(focus ((repeat' first|exact z15|apply z14)<;>first|exact z20 rfl rfl|(refine z25 ?_;((exact z6 fun _=>rfl)))));(exact .inl rfl)))<;>conv=>whnf)
      all_goals skip
      all_goals (refine RetS.lay [0] [] rfl rfl rfl ?_;refine RetS.done ?_ ?_<;>(repeat' (first|exact LocLe.refl _|exact z53|exact F2.nil|apply F2.cons|apply ObjLe.box|apply z44)))
    · refine ⟨⟨a,b,gd,-1,leaf 0 0,0⟩,q+1+1,⟨⟨by show gd.sz≤100;omega,by (rw [z87];omega),by show -1≤(-1:Int)∧(-1:Int)≤2;omega,by show -2≤(0:Int)∧(0:Int)≤2;omega⟩,by omega,by omega⟩,?_⟩
      refine z10 z18 Tryz.func224 rfl rfl 61 Tryz.ntmps224 (by simp) ?_
      repeat' ((first|(apply AWP.go ok;rfl)|((apply z7)<;>intro _)|((first|(apply z8 [0] [] [] (ca);rfl;(focus ((repeat' first|exact z4|apply z5)<;>rfl)))|(apply z8 [0] [] [] (cb);rfl;(focus ((repeat' first|exact z4|apply z5)<;>rfl)))|(apply z8 [0] [] [] (cg);rfl;(focus ((repeat' first|exact z4|apply z5)<;>rfl)))|(apply z8 [0] [] [] (cw);rfl;(focus ((repeat' first|exact z4|apply z5)<;>rfl)))|(apply z8 [0] [] [] (cy);rfl;(focus ((repeat' first|exact z4|apply z5)<;>rfl))));rfl;rfl;rfl;rfl;rfl;(focus ((repeat' first|exact z15|apply z14)<;>exact z20 rfl rfl));(exact .inl rfl)))<;>conv=>whnf)
      all_goals first|(exfalso;omega)|skip
      all_goals (refine RetS.lay [0] [] rfl rfl rfl ?_;refine RetS.done ?_ ?_<;>(repeat' (first|exact LocLe.refl _|exact z53|exact F2.nil|apply F2.cons|apply ObjLe.box|apply z44)))
  obtain ⟨x,mx,cx⟩:=z88 bs hb (q+1) (by omega) (by omega) [0,1,0,2] (by decide) (by decide)
  obtain ⟨z,⟨lz,uz⟩,cz⟩:=z59 bs hb (q+1+1) 4 (by omega) (by omega) (by omega)
  by_cases h0:z=0
  · subst h0
    obtain ⟨k,⟨lk,uk⟩,ck⟩:=z59 bs hb (q+1+1+1) 3 (by omega) (by omega) (by omega)
    obtain ⟨y,⟨ly,uy⟩,cy⟩:=z59 bs hb (q+1+1+1+1) 4 (by omega) (by omega) (by omega)
    by_cases hy:y=0
    · subst hy
      obtain ⟨s,ms,cs⟩:=z88 bs hb (q+1+1+1+1+1) (by omega) (by omega) [1,-1,1,-1,2,-2] (by decide) (by decide)
      refine ⟨⟨a,b,gd,x,leaf 1 k,s⟩,q+1+1+1+1+1+1,⟨⟨by show gd.sz≤100;omega,by (rw [z87];omega),by simp at mx;show -1≤x∧x≤2;omega,by simp at ms;show -2≤s∧s≤2;omega⟩,by omega,by omega⟩,?_⟩
      refine z10 z18 Tryz.func224 rfl rfl 61 Tryz.ntmps224 (by simp) ?_
      repeat' ((first|(apply AWP.go ok;rfl)|((apply z7)<;>intro _)|((first|(apply z8 [0] [] [] (ca);rfl;(focus ((repeat' first|exact z4|apply z5)<;>rfl)))|(apply z8 [0] [] [] (cb);rfl;(focus ((repeat' first|exact z4|apply z5)<;>rfl)))|(apply z8 [0] [] [] (cg);rfl;(focus ((repeat' first|exact z4|apply z5)<;>rfl)))|(apply z8 [0] [] [] (cw);rfl;(focus ((repeat' first|exact z4|apply z5)<;>rfl)))|(apply z8 [0,3] [] [] (cx);rfl;(focus ((repeat' first|exact z4|apply z5)<;>rfl)))|(apply z8 [0] [] [] (cz);rfl;(focus ((repeat' first|exact z4|apply z5)<;>rfl)))|(apply z8 [0] [] [] (ck);rfl;(focus ((repeat' first|exact z4|apply z5)<;>rfl)))|(apply z8 [0] [] [] (cy);rfl;(focus ((repeat' first|exact z4|apply z5)<;>rfl)))|(apply z8 [0,6] [] [] (cs);rfl;(focus ((repeat' first|exact z4|apply z5)<;>rfl))));rfl;rfl;rfl;rfl;rfl;(focus ((repeat' first|exact z15|apply z14)<;>first|exact z20 rfl rfl|(refine z25 ?_;((exact z6 fun _=>rfl)))));(exact .inl rfl)))<;>conv=>whnf)
      all_goals first|(exfalso;omega)|skip
      all_goals (refine RetS.lay [0] [] rfl rfl rfl ?_;refine RetS.done ?_ ?_<;>(repeat' (first|exact LocLe.refl _|exact z53|exact F2.nil|apply F2.cons|apply ObjLe.box|apply z44)))
    · refine ⟨⟨a,b,gd,x,leaf 1 k,0⟩,q+1+1+1+1+1,⟨⟨by show gd.sz≤100;omega,by (rw [z87];omega),by simp at mx;show -1≤x∧x≤2;omega,by show -2≤(0:Int)∧(0:Int)≤2;omega⟩,by omega,by omega⟩,?_⟩
      refine z10 z18 Tryz.func224 rfl rfl 61 Tryz.ntmps224 (by simp) ?_
      repeat' ((first|(apply AWP.go ok;rfl)|((apply z7)<;>intro _)|((first|(apply z8 [0] [] [] (ca);rfl;(focus ((repeat' first|exact z4|apply z5)<;>rfl)))|(apply z8 [0] [] [] (cb);rfl;(focus ((repeat' first|exact z4|apply z5)<;>rfl)))|(apply z8 [0] [] [] (cg);rfl;(focus ((repeat' first|exact z4|apply z5)<;>rfl)))|(apply z8 [0] [] [] (cw);rfl;(focus ((repeat' first|exact z4|apply z5)<;>rfl)))|(apply z8 [0,3] [] [] (cx);rfl;(focus ((repeat' first|exact z4|apply z5)<;>rfl)))|(apply z8 [0] [] [] (cz);rfl;(focus ((repeat' first|exact z4|apply z5)<;>rfl)))|(apply z8 [0] [] [] (ck);rfl;(focus ((repeat' first|exact z4|apply z5)<;>rfl)))|(apply z8 [0] [] [] (cy);rfl;(focus ((repeat' first|exact z4|apply z5)<;>rfl))));rfl;rfl;rfl;rfl;rfl;(focus ((repeat' first|exact z15|apply z14)<;>first|exact z20 rfl rfl|(refine z25 ?_;((exact z6 fun _=>rfl)))));(exact .inl rfl)))<;>conv=>whnf)
      all_goals first|(exfalso;omega)|skip
      all_goals (refine RetS.lay [0] [] rfl rfl rfl ?_;refine RetS.done ?_ ?_<;>(repeat' (first|exact LocLe.refl _|exact z53|exact F2.nil|apply F2.cons|apply ObjLe.box|apply z44)))
  by_cases h1:z=1
  · subst h1
    obtain ⟨y,⟨ly,uy⟩,cy⟩:=z59 bs hb (q+1+1+1) 4 (by omega) (by omega) (by omega)
    by_cases hy:y=0
    · subst hy
      obtain ⟨s,ms,cs⟩:=z88 bs hb (q+1+1+1+1) (by omega) (by omega) [1,-1,1,-1,2,-2] (by decide) (by decide)
      refine ⟨⟨a,b,gd,x,.mk 8 0 [leaf 2 x,leaf 1 1],s⟩,q+1+1+1+1+1,⟨⟨by show gd.sz≤100;omega,by (show Tree.sz _≤100;rw [z296];simp [z87]),by simp at mx;show -1≤x∧x≤2;omega,by simp at ms;show -2≤s∧s≤2;omega⟩,by omega,by omega⟩,?_⟩
      refine z10 z18 Tryz.func224 rfl rfl 61 Tryz.ntmps224 (by simp) ?_
      repeat' ((first|(apply AWP.go ok;rfl)|((apply z7)<;>intro _)|((first|(apply z8 [0] [] [] (ca);rfl;(focus ((repeat' first|exact z4|apply z5)<;>rfl)))|(apply z8 [0] [] [] (cb);rfl;(focus ((repeat' first|exact z4|apply z5)<;>rfl)))|(apply z8 [0] [] [] (cg);rfl;(focus ((repeat' first|exact z4|apply z5)<;>rfl)))|(apply z8 [0] [] [] (cw);rfl;(focus ((repeat' first|exact z4|apply z5)<;>rfl)))|(apply z8 [0,3] [] [] (cx);rfl;(focus ((repeat' first|exact z4|apply z5)<;>rfl)))|(apply z8 [0] [] [] (cz);rfl;(focus ((repeat' first|exact z4|apply z5)<;>rfl)))|(apply z8 [0] [] [] (cy);rfl;(focus ((repeat' first|exact z4|apply z5)<;>rfl)))|(apply z8 [0,7] [] [] (cs);rfl;(focus ((repeat' first|exact z4|apply z5)<;>rfl))));rfl;rfl;rfl;rfl;rfl;(focus ((repeat' first|exact z15|apply z14)<;>first|exact z20 rfl rfl|(refine z25 ?_;((exact z6 fun _=>rfl)))));(exact .inl rfl)))<;>conv=>whnf)
      all_goals first|(exfalso;omega)|skip
      all_goals (refine RetS.lay [0] [6] rfl rfl rfl ?_;refine RetS.done ?_ ?_<;>(repeat' (first|exact LocLe.refl _|exact z53|exact F2.nil|apply F2.cons|apply ObjLe.box|((apply z45 rfl rfl rfl);(focus ((repeat (rfl));done));(focus ((rfl);done)))|apply z44|(apply z80;rfl))))
    · refine ⟨⟨a,b,gd,x,.mk 8 0 [leaf 2 x,leaf 1 1],0⟩,q+1+1+1+1,⟨⟨by show gd.sz≤100;omega,by (show Tree.sz _≤100;rw [z296];simp [z87]),by simp at mx;show -1≤x∧x≤2;omega,by show -2≤(0:Int)∧(0:Int)≤2;omega⟩,by omega,by omega⟩,?_⟩
      refine z10 z18 Tryz.func224 rfl rfl 61 Tryz.ntmps224 (by simp) ?_
      repeat' ((first|(apply AWP.go ok;rfl)|((apply z7)<;>intro _)|((first|(apply z8 [0] [] [] (ca);rfl;(focus ((repeat' first|exact z4|apply z5)<;>rfl)))|(apply z8 [0] [] [] (cb);rfl;(focus ((repeat' first|exact z4|apply z5)<;>rfl)))|(apply z8 [0] [] [] (cg);rfl;(focus ((repeat' first|exact z4|apply z5)<;>rfl)))|(apply z8 [0] [] [] (cw);rfl;(focus ((repeat' first|exact z4|apply z5)<;>rfl)))|(apply z8 [0,3] [] [] (cx);rfl;(focus ((repeat' first|exact z4|apply z5)<;>rfl)))|(apply z8 [0] [] [] (cz);rfl;(focus ((repeat' first|exact z4|apply z5)<;>rfl)))|(apply z8 [0] [] [] (cy);rfl;(focus ((repeat' first|exact z4|apply z5)<;>rfl))));rfl;rfl;rfl;rfl;rfl;(focus ((repeat' first|exact z15|apply z14)<;>first|exact z20 rfl rfl|(refine z25 ?_;((exact z6 fun _=>rfl)))));(exact .inl rfl)))<;>conv=>whnf)
      all_goals first|(exfalso;omega)|skip
      all_goals (refine RetS.lay [0] [6] rfl rfl rfl ?_;refine RetS.done ?_ ?_<;>(repeat' (first|exact LocLe.refl _|exact z53|exact F2.nil|apply F2.cons|apply ObjLe.box|((apply z45 rfl rfl rfl);(focus ((repeat (rfl));done));(focus ((rfl);done)))|apply z44|(apply z80;rfl))))
  by_cases h2:z=2
  · subst h2
    obtain ⟨y,⟨ly,uy⟩,cy⟩:=z59 bs hb (q+1+1+1) 4 (by omega) (by omega) (by omega)
    by_cases hy:y=0
    · subst hy
      obtain ⟨s,ms,cs⟩:=z88 bs hb (q+1+1+1+1) (by omega) (by omega) [1,-1,1,-1,2,-2] (by decide) (by decide)
      refine ⟨⟨a,b,gd,x,.mk 9 0 [leaf 1 1,leaf 2 x],s⟩,q+1+1+1+1+1,⟨⟨by show gd.sz≤100;omega,by (show Tree.sz _≤100;rw [z296];simp [z87]),by simp at mx;show -1≤x∧x≤2;omega,by simp at ms;show -2≤s∧s≤2;omega⟩,by omega,by omega⟩,?_⟩
      refine z10 z18 Tryz.func224 rfl rfl 61 Tryz.ntmps224 (by simp) ?_
      repeat' ((first|(apply AWP.go ok;rfl)|((apply z7)<;>intro _)|((first|(apply z8 [0] [] [] (ca);rfl;(focus ((repeat' first|exact z4|apply z5)<;>rfl)))|(apply z8 [0] [] [] (cb);rfl;(focus ((repeat' first|exact z4|apply z5)<;>rfl)))|(apply z8 [0] [] [] (cg);rfl;(focus ((repeat' first|exact z4|apply z5)<;>rfl)))|(apply z8 [0] [] [] (cw);rfl;(focus ((repeat' first|exact z4|apply z5)<;>rfl)))|(apply z8 [0,3] [] [] (cx);rfl;(focus ((repeat' first|exact z4|apply z5)<;>rfl)))|(apply z8 [0] [] [] (cz);rfl;(focus ((repeat' first|exact z4|apply z5)<;>rfl)))|(apply z8 [0] [] [] (cy);rfl;(focus ((repeat' first|exact z4|apply z5)<;>rfl)))|(apply z8 [0,7] [] [] (cs);rfl;(focus ((repeat' first|exact z4|apply z5)<;>rfl))));rfl;rfl;rfl;rfl;rfl;(focus ((repeat' first|exact z15|apply z14)<;>first|exact z20 rfl rfl|(refine z25 ?_;((exact z6 fun _=>rfl)))));(exact .inl rfl)))<;>conv=>whnf)
      all_goals first|(exfalso;omega)|skip
      all_goals (refine RetS.lay [0] [6] rfl rfl rfl ?_;refine RetS.done ?_ ?_<;>(repeat' (first|exact LocLe.refl _|exact z53|exact F2.nil|apply F2.cons|apply ObjLe.box|((apply z45 rfl rfl rfl);(focus ((repeat (rfl));done));(focus ((rfl);done)))|apply z44|(apply z80;rfl))))
    · refine ⟨⟨a,b,gd,x,.mk 9 0 [leaf 1 1,leaf 2 x],0⟩,q+1+1+1+1,⟨⟨by show gd.sz≤100;omega,by (show Tree.sz _≤100;rw [z296];simp [z87]),by simp at mx;show -1≤x∧x≤2;omega,by show -2≤(0:Int)∧(0:Int)≤2;omega⟩,by omega,by omega⟩,?_⟩
      refine z10 z18 Tryz.func224 rfl rfl 61 Tryz.ntmps224 (by simp) ?_
      repeat' ((first|(apply AWP.go ok;rfl)|((apply z7)<;>intro _)|((first|(apply z8 [0] [] [] (ca);rfl;(focus ((repeat' first|exact z4|apply z5)<;>rfl)))|(apply z8 [0] [] [] (cb);rfl;(focus ((repeat' first|exact z4|apply z5)<;>rfl)))|(apply z8 [0] [] [] (cg);rfl;(focus ((repeat' first|exact z4|apply z5)<;>rfl)))|(apply z8 [0] [] [] (cw);rfl;(focus ((repeat' first|exact z4|apply z5)<;>rfl)))|(apply z8 [0,3] [] [] (cx);rfl;(focus ((repeat' first|exact z4|apply z5)<;>rfl)))|(apply z8 [0] [] [] (cz);rfl;(focus ((repeat' first|exact z4|apply z5)<;>rfl)))|(apply z8 [0] [] [] (cy);rfl;(focus ((repeat' first|exact z4|apply z5)<;>rfl))));rfl;rfl;rfl;rfl;rfl;(focus ((repeat' first|exact z15|apply z14)<;>first|exact z20 rfl rfl|(refine z25 ?_;((exact z6 fun _=>rfl)))));(exact .inl rfl)))<;>conv=>whnf)
      all_goals first|(exfalso;omega)|skip
      all_goals (refine RetS.lay [0] [6] rfl rfl rfl ?_;refine RetS.done ?_ ?_<;>(repeat' (first|exact LocLe.refl _|exact z53|exact F2.nil|apply F2.cons|apply ObjLe.box|((apply z45 rfl rfl rfl);(focus ((repeat (rfl));done));(focus ((rfl);done)))|apply z44|(apply z80;rfl))))
  obtain ⟨t,q2,⟨t1,t2,t3⟩,ct⟩:=z1030 bs hb (q+1+1+1) ⟨by omega,by omega⟩
  rw [Tree.arg_eq] at ct
  obtain ⟨y,⟨ly,uy⟩,cy⟩:=z59 bs hb (q2) 4 (by omega) (by omega) (by omega)
  by_cases hy:y=0
  · subst hy
    obtain ⟨s,ms,cs⟩:=z88 bs hb (q2+1) (by omega) (by omega) [1,-1,1,-1,2,-2] (by decide) (by decide)
    refine ⟨⟨a,b,gd,x,t,s⟩,q2+1+1,⟨⟨by show gd.sz≤100;omega,by show t.sz≤100;omega,by simp at mx;show -1≤x∧x≤2;omega,by simp at ms;show -2≤s∧s≤2;omega⟩,by omega,by omega⟩,?_⟩
    refine z10 z18 Tryz.func224 rfl rfl 61 Tryz.ntmps224 (by simp) ?_
    repeat' ((first|(apply AWP.go ok;rfl)|((apply z7)<;>intro _)|((first|(apply z8 [0] [] [] (ca);rfl;(focus ((repeat' first|exact z4|apply z5)<;>rfl)))|(apply z8 [0] [] [] (cb);rfl;(focus ((repeat' first|exact z4|apply z5)<;>rfl)))|(apply z8 [0] [] [] (cg);rfl;(focus ((repeat' first|exact z4|apply z5)<;>rfl)))|(apply z8 [0] [] [] (cw);rfl;(focus ((repeat' first|exact z4|apply z5)<;>rfl)))|(apply z8 [0,3] [] [] (cx);rfl;(focus ((repeat' first|exact z4|apply z5)<;>rfl)))|(apply z8 [0] [] [] (cz);rfl;(focus ((repeat' first|exact z4|apply z5)<;>rfl)))|(apply z8 [0] [] [] (ct);rfl;(focus ((repeat' first|exact z4|apply z5)<;>rfl)))|(apply z8 [0] [] [] (cy);rfl;(focus ((repeat' first|exact z4|apply z5)<;>rfl)))|(apply z8 [0,6] [] [] (cs);rfl;(focus ((repeat' first|exact z4|apply z5)<;>rfl))));rfl;rfl;rfl;rfl;rfl;(focus ((repeat' first|exact z15|apply z14)<;>first|exact z20 rfl rfl|(refine z25 ?_;((exact z6 fun _=>rfl)))));(exact .inl rfl)))<;>conv=>whnf)
    all_goals first|(exfalso;omega)|skip
    all_goals (refine RetS.lay [0] [] rfl rfl rfl ?_;refine RetS.done ?_ ?_<;>(repeat' (first|exact LocLe.refl _|exact F2.nil|apply F2.cons|apply ObjLe.box)))
  · refine ⟨⟨a,b,gd,x,t,0⟩,q2+1,⟨⟨by show gd.sz≤100;omega,by show t.sz≤100;omega,by simp at mx;show -1≤x∧x≤2;omega,by show -2≤(0:Int)∧(0:Int)≤2;omega⟩,by omega,by omega⟩,?_⟩
    refine z10 z18 Tryz.func224 rfl rfl 61 Tryz.ntmps224 (by simp) ?_
    repeat' ((first|(apply AWP.go ok;rfl)|((apply z7)<;>intro _)|((first|(apply z8 [0] [] [] (ca);rfl;(focus ((repeat' first|exact z4|apply z5)<;>rfl)))|(apply z8 [0] [] [] (cb);rfl;(focus ((repeat' first|exact z4|apply z5)<;>rfl)))|(apply z8 [0] [] [] (cg);rfl;(focus ((repeat' first|exact z4|apply z5)<;>rfl)))|(apply z8 [0] [] [] (cw);rfl;(focus ((repeat' first|exact z4|apply z5)<;>rfl)))|(apply z8 [0,3] [] [] (cx);rfl;(focus ((repeat' first|exact z4|apply z5)<;>rfl)))|(apply z8 [0] [] [] (cz);rfl;(focus ((repeat' first|exact z4|apply z5)<;>rfl)))|(apply z8 [0] [] [] (ct);rfl;(focus ((repeat' first|exact z4|apply z5)<;>rfl)))|(apply z8 [0] [] [] (cy);rfl;(focus ((repeat' first|exact z4|apply z5)<;>rfl))));rfl;rfl;rfl;rfl;rfl;(focus ((repeat' first|exact z15|apply z14)<;>first|exact z20 rfl rfl|(refine z25 ?_;((exact z6 fun _=>rfl)))));(exact .inl rfl)))<;>conv=>whnf)
    all_goals first|(exfalso;omega)|skip
    all_goals (refine RetS.lay [0] [] rfl rfl rfl ?_;refine RetS.done ?_ ?_<;>(repeat' (first|exact LocLe.refl _|exact F2.nil|apply F2.cons|apply ObjLe.box)))
end Go.Proofs.YtknlmbniicacmaaGreat

namespace Go.Proofs.YtknlmbniicacmaaGreat
open Go.Gl
attribute [local irreducible] z31 AWP z48 z52 z50 RetS z57
def isProc (bs:List Int) (q:Int) (pr:Proc) (q' : Int):Prop:=pr.sm∧∃ (m:Nat) (pf:Nat→Int),
  CallsA Tryz.prog 158 [.ptr 0 none 0,.sref 1 0 4] [rdO bs q,.cells 1 ([2,3,1,2].map enI)] (.int pr.loc) [rdO bs (q+1),.cells 1 ([2,3,1,2].map enI)] ∧
  CallsA Tryz.prog 158 [.ptr 0 none 0,.sref 1 0 5] [rdO bs (q+1),.cells 1 ([3,4,2,5,1].map enI)] (.int m) [rdO bs (q+1+1),.cells 1 ([3,4,2,5,1].map enI)] ∧
  m≤5∧pr.es.length=m∧pf 0=q+1+1∧pf m=q'∧∀ k (h:k < pr.es.length),CallsA Tryz.prog 224 [.ptr 0 none 0,.int pr.loc] [rdO bs (pf k)] (.agg pr.es[k].cs) [rdO bs (pf (k+1))]
theorem proc_ex (bs:List Int) (hb:BytesOk bs) (q:Int) (hq:0≤q∧q≤999980000):∃ pr q',isProc bs q pr q'∧q≤q'∧q'≤q+1010:=by
  obtain ⟨v,mv,cv⟩:=z88 bs hb q (by omega) (by omega) [2,3,1,2] (by decide) (by decide)
  obtain ⟨w,mw,cw⟩:=z88 bs hb (q+1) (by omega) (by omega) [3,4,2,5,1] (by decide) (by decide)
  simp only [List.mem_cons,List.not_mem_nil,or_false] at mv mw
  obtain ⟨m,rfl⟩:∃ m:Nat,w=m:=⟨w.toNat,by omega⟩
  obtain ⟨es,pf,h1,h2,h3,h4⟩:=z302 (fun _ r (e:Edge) r'=>e.sm∧CallsA Tryz.prog 224 [.ptr 0 none 0,.int v] [rdO bs r] (.agg e.cs) [rdO bs r']) (q+1+1) 200 m (fun k r hk a1 a2=>by
    obtain ⟨e,r',⟨b1,b2,b3⟩,c⟩:=z613 bs hb r ⟨by omega,by omega⟩ v (by omega)
    exact ⟨e,r',⟨b1,c⟩,b2,b3⟩)
  have h5:=h4 m (Nat.le_refl _)
  refine ⟨⟨v,es⟩,pf m,⟨⟨by show 0≤v∧v≤100;omega,by show es.length≤10;omega,fun e he=>?_⟩,m,pf,cv,cw,by omega,h1,h2,rfl,fun k h=>(h3 k h).2⟩,by omega,by omega⟩
  obtain ⟨i,hi,rfl⟩:=List.mem_iff_getElem.1 he
  exact (h3 i hi).1
set_option maxHeartbeats 6400000 in
theorem z789 (bs:List Int) (hb:BytesOk bs) (p:Int) (hp:few2 p):∃ (s:Sys) (p' : Int),(s.sm∧p≤p'∧p'≤p+4000)∧CallsA Tryz.prog 169 [.ptr 0 none 0] [rdO bs p] (.agg s.cs) [rdO bs p']:=by
  obtain ⟨a,⟨la,ua⟩,ca⟩:=z59 bs hb p 2 (by omega) (by omega) (by omega)
  obtain ⟨b,mb,cb⟩:=z88 bs hb (p+1) (by omega) (by omega) [0,0,1,3] (by decide) (by decide)
  obtain ⟨w,mw,cw⟩:=z88 bs hb (p+1+1) (by omega) (by omega) [2,1,2,3] (by decide) (by decide)
  simp only [List.mem_cons,List.not_mem_nil,or_false] at mw
  obtain ⟨m,rfl⟩:∃ m:Nat,w=m:=⟨w.toNat,by omega⟩
  obtain ⟨ps,pf,h1,h2,h3,h4⟩:=z302 (fun _ q pr q'=>isProc bs q pr q') (p+1+1+1) 1010 m (fun k r hk a1 a2=>proc_ex bs hb r (by omega))
  have h5:=h4 m (Nat.le_refl _)
  refine ⟨⟨[a,b,0],ps⟩,pf m,⟨⟨by simp,by show ps.length≤10;omega,fun e he=>?_⟩,by omega,by omega⟩,?_⟩
  · obtain ⟨i,hi,rfl⟩:=List.mem_iff_getElem.1 he
    exact (h3 i hi).1
  rw [← h2] at cw
  refine z10 z18 Tryz.func169 rfl rfl 48 Tryz.ntmps169 (by simp) ?_
  repeat' ((first|(apply AWP.go ok;rfl)|((first|(apply z8 [0] [] [] (ca);rfl;(focus ((repeat' first|exact z4|apply z5)<;>rfl)))|(apply z8 [0,2] [] [] (cb);rfl;(focus ((repeat' first|exact z4|apply z5)<;>rfl)))|(apply z8 [0,5] [] [] (cw);rfl;(focus ((repeat' first|exact z4|apply z5)<;>rfl))));rfl;rfl;rfl;rfl;rfl;(focus ((repeat' first|exact z15|apply z14)<;>first|exact z20 rfl rfl|(refine z25 ?_;((exact z6 fun _=>rfl)))));(exact .inl rfl)))<;>conv=>whnf)
  all_goals skip
  refine AWP.reach (Reach.empty 2 rfl) ?_
  refine z64 (fun i:Nat=>([(0,.ptr 0 none 0),(2,.ptr 1 none 0),(3,.ptr 2 none 0),(4,.int (m - i))],[rdO bs (pf i),.cells 2 [[.nils,.nils]],.cells 2 [[ints [a,b,0],.sref 3 0 i]],.cells 2 ((ps.take i).map Proc.cs)])) (fun i=>i≤m) (fun i=>m - i) 0 (by omega) (by refine SealW.reach [0,1,4,6] [3] rfl rfl rfl rfl ?_ ?_<;>(repeat' (first|exact LocLe.refl _|exact z46|exact F2.nil|apply F2.cons|apply ObjLe.box|((refine z13 rfl ?_ ?_);(focus ((repeat' (exact z37));done)))|exact True.intro|apply And.intro))) ?_
  intro i hi
  by_cases him:i < m
  · have hil:i < ps.length:=by omega
    obtain ⟨g1,m2,pf2,c1,c2,g2,g3,g4,g5,g6⟩:=h3 i hil
    rw [← g4] at c2
    have hpi:(ps.take (i+1)).map Proc.cs=(ps.take i).map Proc.cs++[Proc.cs ps[i]]:=by rw [List.take_succ_eq_append_getElem hil,List.map_append];rfl
    repeat' ((first|(apply AWP.go ok;rfl)|((apply z7)<;>intro _)|((first|(apply z8 [0,4] [] [] (c1);rfl;(focus ((repeat' first|exact z4|apply z5)<;>rfl)))|(apply z8 [0,6] [] [] (c2);rfl;(focus ((repeat' first|exact z4|apply z5)<;>rfl))));rfl;rfl;rfl;rfl;rfl;(focus ((repeat' first|exact z15|apply z14)<;>first|exact z20 rfl rfl|(refine z25 ?_;((exact z6 fun _=>rfl)))));(exact .inl rfl)))<;>conv=>whnf)
    all_goals first|(exfalso;omega)|skip
    refine AWP.reach (Reach.empty 10 rfl) ?_
    refine z64 (fun k:Nat=>([(0,.ptr 0 none 0),(2,.ptr 1 none 0),(3,.ptr 2 none 0),(4,.int (m - i)),(5,.ptr 4 none 0),(6,.int (m2 - k))],[rdO bs (pf2 k),.cells 2 [[.nils,.nils]],.cells 2 [[ints [a,b,0],.sref 3 0 i]],.cells 2 ((ps.take i).map Proc.cs),.cells 2 [[.int ps[i].loc,.sref 5 0 k]],.cells 10 ((ps[i].es.take k).map Edge.cs)])) (fun k=>k≤m2) (fun k=>m2 - k) 0 (by omega) (by refine SealW.reach [0,1,2,3,5,7] [] rfl rfl rfl rfl ?_ ?_<;>(repeat' (first|exact LocLe.refl _|exact z46|exact F2.nil|apply F2.cons|exact z12 _|apply ObjLe.box|((refine z13 rfl ?_ ?_);(focus ((repeat' (first|exact z37|exact z6 (fun _=>rfl)));done)))|exact True.intro|apply And.intro))) ?_
    intro k hk
    by_cases hkm:k < m2
    · have hke:k < ps[i].es.length:=by omega
      have ce:=g6 k hke
      repeat' ((first|(apply AWP.go ok;rfl)|(apply z34;kernel_rfl)|(apply And.intro;first|omega|(unfold inI;omega)|((try dsimp only);simp only [List.length_map,List.length_take,List.length_append,List.length_replicate,List.length_cons,List.length_nil];omega)|exact ⟨rfl,z21 rfl z30⟩)|((apply z7)<;>intro _)|(((apply z8 [0] [] [] (ce);rfl;(focus ((repeat' first|exact z4|apply z5)<;>rfl))));rfl;rfl;rfl;rfl;rfl;(focus ((repeat' first|exact z15|apply z14)<;>exact z20 rfl rfl));(exact .inl rfl)))<;>conv=>whnf)
      all_goals first|(exfalso;omega)|skip
      all_goals refine z23 (k+1) (by omega) (by omega) (by refine SealW.reach [0,1,2,3,4,7] [] rfl rfl rfl rfl ?_ ?_<;>(repeat' (first|exact LocLe.refl _|exact F2.nil|apply F2.cons|exact z12 _|(refine z96 ?_;omega)|apply ObjLe.box|((first|refine z35 rfl ?_ ?_|refine z13 rfl ?_ ?_);(focus ((repeat' (first|exact z6 (fun _=>rfl)|apply z22));done)))|(refine z104 (by omega) (by omega) ?_)|exact True.intro|apply And.intro)))
    · have ek:k=m2:=by omega
      subst ek
      rw [List.take_of_length_le (show ps[i].es.length≤k by omega)]
      repeat' ((first|(apply AWP.go ok;rfl)|(apply And.intro;first|(unfold inI;omega)|((try dsimp only);simp only [List.length_map,List.length_take,List.length_append,List.length_replicate,List.length_cons,List.length_nil];omega)|exact ⟨rfl,z21 rfl z30⟩)|((apply z7)<;>intro _))<;>conv=>whnf)
      all_goals first|(exfalso;omega)|skip
      all_goals refine z23 (i+1) (by omega) (by omega) (by refine SealW.reach [0,1,2,7] [5] rfl rfl rfl rfl ?_ ?_<;>(repeat' (first|exact LocLe.refl _|exact F2.nil|apply F2.cons|(refine z262 ?_;omega)|(refine z96 ?_;omega)|apply ObjLe.box|((refine z35 rfl ?_ ?_);(focus ((repeat' (first|exact z6 (fun _=>rfl)|apply z22));done)))|(refine z104 (by omega) (by omega) ?_)|((apply z75 rfl rfl rfl);(focus ((repeat ((exact z41 (fun _=>rfl) _)));done));(focus (((simp;omega));done)))|exact True.intro|apply And.intro)))
  · have e:i=m:=by omega
    subst e
    rw [List.take_of_length_le (show ps.length≤i by omega)]
    repeat' ((first|(apply AWP.go ok;rfl)|((apply z7)<;>intro _))<;>conv=>whnf)
    all_goals first|(exfalso;omega)|skip
    all_goals (refine RetS.lay [0] [3] rfl rfl rfl ?_;refine RetS.done ?_ ?_<;>(repeat' (first|exact LocLe.refl _|exact F2.nil|apply F2.cons|(refine z262 ?_;omega)|apply ObjLe.box|((apply z45 rfl rfl rfl);(focus ((repeat ((exact z41 (fun _=>rfl) _)));done));(focus (((simp;omega));done)))|apply z44)))
end Go.Proofs.YtknlmbniicacmaaGreat

namespace Go.Proofs.YtknlmbniicacmaaGreat
open Go.Gl
attribute [local irreducible] z31 AWP z48 z52 z50 RetS z57
theorem z962 (n:Nat) (e:List AC):z66 (List.replicate n e)=List.replicate n (z246 e):=by
  induction n with
  | zero=>rfl
  | succ n ih=>simp only [List.replicate_succ,z66,ih]
noncomputable def noneB (t:Tree):Bool:=decide (t.kind=0∧t.val=0∧t.kids.length=0)
theorem z1029 (t:Tree):CallsA Tryz.prog 345 [z51 Tree.cs' t] [] (.bool (noneB t)) []:=by
  refine z17 z18 Tryz.func345 rfl rfl 17 Tryz.ntmps345 (by simp) ?_
  repeat' ((first|(apply AWP.go ok;rfl)|((apply z7)<;>intro _))<;>conv=>whnf)
  all_goals refine z27 rfl ?_
  all_goals unfold noneB
  all_goals first|(rw [decide_eq_decide];omega)|(rw [decide_eq_false_iff_not];omega)
noncomputable def z538 (e:Edge) (n:Int):Bool:=decide (0≤e.fr∧e.fr < n∧0≤e.to∧e.to < n∧n≤4) && (e.gd.exprB && (decide (-2≤e.sync∧e.sync≤2∧-1≤e.var∧e.var < 3) && (if e.var < 0 then noneB e.val else e.val.exprB)))
set_option maxHeartbeats 1600000 in
theorem z712 (e:Edge) (he:e.sm) (n:Int):CallsA Tryz.prog 328 [.agg e.cs,.int n] [] (.bool (z538 e n)) []:=by
  have h1:=he.gd
  have h2:=he.val
  have c1:=z129 e.gd (z156 _ (by unfold maxLen;omega))
  have c2:=z129 e.val (z156 _ (by unfold maxLen;omega))
  have c3:=z1029 e.val
  rw [Tree.arg_eq] at c1 c2 c3
  unfold z538
  generalize e.gd.exprB=b1 at *
  generalize e.val.exprB=b2 at *
  generalize noneB e.val=b3 at *
  by_cases ha:0≤e.fr∧e.fr < n∧0≤e.to∧e.to < n∧n≤4
  · rw [decide_eq_true ha]
    by_cases hb : -2≤e.sync∧e.sync≤2∧-1≤e.var∧e.var < 3
    · rw [decide_eq_true hb]
      by_cases hv:e.var < 0
      · rw [if_pos hv]
        refine z17 z18 Tryz.func328 rfl rfl 71 Tryz.ntmps328 (by simp) ?_
        cases b1<;>cases b3
        all_goals
          repeat' ((first|(apply AWP.go ok;rfl)|((apply z7)<;>intro _)|(apply z9 (c1);rfl;rfl)|(apply z9 (c3);rfl;rfl))<;>conv=>whnf)
          all_goals first|(exfalso;omega)|exact z27 rfl rfl
      · rw [if_neg hv]
        refine z17 z18 Tryz.func328 rfl rfl 71 Tryz.ntmps328 (by simp) ?_
        cases b1<;>cases b2
        all_goals
          repeat' ((first|(apply AWP.go ok;rfl)|((apply z7)<;>intro _)|(apply z9 (c1);rfl;rfl)|(apply z9 (c2);rfl;rfl))<;>conv=>whnf)
          all_goals first|(exfalso;omega)|exact z27 rfl rfl
    · rw [decide_eq_false hb]
      refine z17 z18 Tryz.func328 rfl rfl 71 Tryz.ntmps328 (by simp) ?_
      cases b1
      all_goals
        repeat' ((first|(apply AWP.go ok;rfl)|((apply z7)<;>intro _)|(apply z9 (c1);rfl;rfl))<;>conv=>whnf)
        all_goals first|(exfalso;omega)|exact z27 rfl rfl
  · rw [decide_eq_false ha]
    refine z17 z18 Tryz.func328 rfl rfl 71 Tryz.ntmps328 (by simp) ?_
    repeat' ((first|(apply AWP.go ok;rfl)|((first|apply z7|apply z82)<;>intro _)|(apply z9 (c1);rfl;rfl))<;>conv=>whnf)
    all_goals first|(exfalso;omega)|exact z27 rfl rfl
noncomputable def z531 (p:Proc):Bool:=p.es.all (fun e=>z538 e p.loc) && decide (1≤p.loc∧p.loc≤4∧p.es.length≤6)
theorem z698 (p:Proc) (hp:p.sm):CallsA Tryz.prog 300 [.agg p.cs] [] (.bool (z531 p)) []:=by
  have hl:=hp.len
  unfold z531
  refine z17 z18 Tryz.func300 rfl rfl 34 Tryz.ntmps300 (by simp) ?_
  repeat' (((apply AWP.go ok;rfl))<;>conv=>whnf)
  refine z90 (fun k:Nat=>([(1,.ptr 0 none 0),(3,.int k)],[.cells 2 [p.cs]])) (fun k=>k≤p.es.length∧p.es.all (fun e=>z538 e p.loc)=(p.es.drop k).all (fun e=>z538 e p.loc)) (fun k=>p.es.length - k) 0 ⟨by omega,rfl⟩ ⟨[0],rfl,by decide,rfl,by repeat' (first|exact True.intro|exact ⟨rfl,rfl⟩|apply And.intro),by repeat' (first|exact True.intro|exact z24 rfl rfl|apply And.intro)⟩ ?_
  intro k hk
  by_cases hkl:k < p.es.length
  · have ce:=z712 p.es[k] (hp.el _ (List.getElem_mem _)) p.loc
    have e:=z142 (fun e=>z538 e p.loc) p.es k hkl
    rw [e] at hk
    have g0:(p.es.map Edge.cs)[k]?=some (Edge.cs p.es[k]):=by rw [List.getElem?_map,List.getElem?_eq_getElem hkl];rfl
    generalize z538 p.es[k] p.loc=b at *
    cases b
    all_goals
      repeat' ((first|(apply AWP.go ok;rfl)|(apply z34;kernel_rfl)|(refine z16 (i:=k) rfl g0 ?_)|(apply And.intro;first|omega|(unfold inI;omega))|((apply z7)<;>intro _)|(apply z9 (ce);rfl;rfl))<;>conv=>whnf)
      all_goals first|(exfalso;omega)|skip
    · exact z27 rfl (by rw [hk.2];rfl)
    · exact z78 (k+1) [0] ⟨by omega,by rw [hk.2,Bool.true_and]⟩ (by omega) ⟨rfl,by decide,rfl,by repeat' (first|exact True.intro|exact ⟨rfl,rfl⟩|apply And.intro),by repeat' (first|exact True.intro|exact z24 rfl rfl|apply And.intro)⟩
  · have e:=z137 (fun e=>z538 e p.loc) p.es k (by omega)
    rw [e] at hk
    repeat' ((first|(apply AWP.go ok;rfl)|(apply And.intro;omega)|(((with_reducible apply z11;omega));intro _)|((apply z7)<;>intro _))<;>conv=>whnf)
    all_goals first|(exfalso;omega)|(refine z27 rfl ?_;rw [hk.2];simp only [Bool.true_and,Bool.false_and];first|(rw [decide_eq_decide];omega)|(rw [decide_eq_false_iff_not];omega))
noncomputable def sysB (s:Sys):Bool:=s.ps.all z531 && (z371 s.init && decide (1≤s.ps.length∧s.ps.length≤3))
theorem z523 (s:Sys) (hs:s.sm):CallsA Tryz.prog 266 [.agg s.cs] [] (.bool (sysB s)) []:=by
  have hl:=hs.len
  have hi:=hs.init
  have cv:=z699 s.init (by unfold maxLen;omega)
  unfold sysB
  generalize z371 s.init=vb at *
  refine z17 z18 Tryz.func266 rfl rfl 33 Tryz.ntmps266 (by simp) ?_
  repeat' (((apply AWP.go ok;rfl))<;>conv=>whnf)
  refine z90 (fun k:Nat=>([(1,.ptr 0 none 0),(3,.int k)],[.cells 2 [s.cs]])) (fun k=>k≤s.ps.length∧s.ps.all z531=(s.ps.drop k).all z531) (fun k=>s.ps.length - k) 0 ⟨by omega,rfl⟩ ⟨[0],rfl,by decide,rfl,by repeat' (first|exact True.intro|exact ⟨rfl,rfl⟩|apply And.intro),by repeat' (first|exact True.intro|exact z24 rfl rfl|apply And.intro)⟩ ?_
  intro k hk
  by_cases hkl:k < s.ps.length
  · have ce:=z698 s.ps[k] (hs.el _ (List.getElem_mem _))
    have e:=z142 z531 s.ps k hkl
    rw [e] at hk
    have g0:(s.ps.map Proc.cs)[k]?=some (Proc.cs s.ps[k]):=by rw [List.getElem?_map,List.getElem?_eq_getElem hkl];rfl
    generalize z531 s.ps[k]=b at *
    cases b
    all_goals
      repeat' ((first|(apply AWP.go ok;rfl)|(refine z16 (i:=k) rfl g0 ?_)|(apply And.intro;first|omega|(unfold inI;omega))|((apply z7)<;>intro _)|(apply z9 (ce);rfl;rfl))<;>conv=>whnf)
      all_goals first|(exfalso;omega)|skip
    · exact z27 rfl (by rw [hk.2];rfl)
    · exact z78 (k+1) [0] ⟨by omega,by rw [hk.2,Bool.true_and]⟩ (by omega) ⟨rfl,by decide,rfl,by repeat' (first|exact True.intro|exact ⟨rfl,rfl⟩|apply And.intro),by repeat' (first|exact True.intro|exact z24 rfl rfl|apply And.intro)⟩
  · have e:=z137 z531 s.ps k (by omega)
    rw [e] at hk
    cases vb
    all_goals
      repeat' ((first|(apply AWP.go ok;rfl)|(apply And.intro;omega)|(((with_reducible apply z11;omega));intro _)|((apply z7)<;>intro _)|(apply z9 (cv);rfl;rfl))<;>conv=>whnf)
      all_goals first|(exfalso;omega)|(refine z27 rfl ?_;rw [hk.2];simp only [Bool.true_and,Bool.false_and];first|done|(rw [decide_eq_decide];omega)|(rw [decide_eq_false_iff_not];omega))
theorem z703 (s:Sys) (hs:s.sm):CallsA Tryz.prog 220 [.agg s.cs] [] (.tup [.agg (if sysB s then (⟨List.replicate s.ps.length 0,s.init⟩:State) else ⟨[],[]⟩).cs,.bool (sysB s)]) []:=by
  have hl:=hs.len
  have hi:=hs.init
  have c:=z523 s hs
  generalize sysB s=b at *
  refine z10 z18 Tryz.func220 rfl rfl 17 Tryz.ntmps220 (by simp) ?_
  cases b
  all_goals
    repeat' ((first|(apply AWP.go ok;rfl)|(apply z34;kernel_rfl)|(apply And.intro;first|(dsimp only;omega)|exact z93 (fun _=>rfl))|(apply z9 (c);rfl;rfl))<;>conv=>whnf)
    all_goals skip
  · (refine RetS.lay [] [] rfl rfl rfl ?_;refine RetS.done ?_ ?_<;>(repeat' (first|exact LocLe.refl _|exact z53|exact F2.nil|apply F2.cons|apply z44|apply z95)))
  · (refine RetS.lay [] [2,4] rfl rfl rfl ?_;refine RetS.done ?_ ?_<;>(repeat' (first|exact LocLe.refl _|exact F2.nil|apply F2.cons|(refine z262 ?_;omega)|((apply z45 rfl rfl rfl);(focus ((repeat (first|exact z41 (fun _=>rfl) _|rfl));done));(focus (((simp;done));done)))|apply z44|apply z95|(refine z80 ?_ ?_;(focus (simp;done))))))
    exact z29 (by rw [z962,if_pos rfl];simp only [List.map_replicate,Int.toNat_natCast];rfl)
end Go.Proofs.YtknlmbniicacmaaGreat

namespace Go.Proofs.YtknlmbniicacmaaGreat
open Go.Gl
attribute [local irreducible] z31 AWP z48 z52 z50 RetS z57
def Sys.pr (s:Sys) (i:Nat):Proc:=s.ps.getD i ⟨0,[]⟩
def Proc.eg (p:Proc) (k:Nat):Edge:=p.es.getD k ⟨0,0,leaf 0 0,0,leaf 0 0,0⟩
theorem Sys.pr_at {s:Sys} {i:Nat} (h:i < s.ps.length):(s.ps.map Proc.cs)[i]?=some (s.pr i).cs:=by
  unfold Sys.pr;rw [z19 h,List.getElem?_map,List.getElem?_eq_getElem h];rfl
theorem Proc.eg_at {p:Proc} {k:Nat} (h:k < p.es.length):(p.es.map Edge.cs)[k]?=some (p.eg k).cs:=by
  unfold Proc.eg;rw [z19 h,List.getElem?_map,List.getElem?_eq_getElem h];rfl
structure Edge.ok (e:Edge) (n:Int):Prop where
  to:0≤e.to∧e.to < n
  gd:e.gd.good
  var : -1≤e.var∧e.var≤2
  val:0≤e.var→e.val.good
  sync : -2≤e.sync∧e.sync≤2
structure Sys.ok (s:Sys):Prop where
  n1:1≤s.ps.length
  n3:s.ps.length≤3
  ne:∀ i,i < s.ps.length→(s.pr i).es.length≤6
  loc:∀ i,i < s.ps.length→(s.pr i).loc≤4
  eg:∀ i k,i < s.ps.length→k < (s.pr i).es.length→((s.pr i).eg k).ok (s.pr i).loc
  init:ValsOk s.init
theorem Sys.ok_of {s:Sys} (h:sysB s=true):s.ok:=by
  unfold sysB at h
  rw [Bool.and_eq_true,Bool.and_eq_true,decide_eq_true_iff,List.all_eq_true] at h
  obtain ⟨h1,h2,h3⟩:=h
  have hp:∀ i,i < s.ps.length→z531 (s.pr i)=true:=fun i hi=>by unfold Sys.pr;rw [z19 hi];exact h1 _ (List.getElem_mem _)
  have hq:∀ i,i < s.ps.length→(∀ e∈(s.pr i).es,z538 e (s.pr i).loc=true)∧1≤(s.pr i).loc∧(s.pr i).loc≤4∧(s.pr i).es.length≤6:=fun i hi=>by
    have:=hp i hi
    unfold z531 at this
    rw [Bool.and_eq_true,decide_eq_true_iff,List.all_eq_true] at this
    exact this
  refine ⟨h3.1,h3.2,fun i hi=>(hq i hi).2.2.2,fun i hi=>(hq i hi).2.2.1,fun i k hi hk=>?_,z651 h2⟩
  have he:=(hq i hi).1 ((s.pr i).eg k) (by unfold Proc.eg;rw [z19 hk];exact List.getElem_mem _)
  unfold z538 at he
  simp only [Bool.and_eq_true,decide_eq_true_iff] at he
  obtain ⟨a1,a2,a3,a4⟩:=he
  refine ⟨⟨a1.2.2.1,a1.2.2.2.1⟩,Tree.good_of a2,⟨a3.2.2.1,by omega⟩,fun hv=>?_,⟨a3.1,a3.2.1⟩⟩
  rw [if_neg (by omega)] at a4
  exact Tree.good_of a4
noncomputable def rdyE (e:Edge) (st:State) (i:Nat):Bool:=decide (e.fr=st.a.getD i 0) && decide (e.gd.ev st.b≠0)
structure State.ok (st:State) (s:Sys):Prop where
  a:st.a.length=s.ps.length
  b:ValsOk st.b
theorem z553 (s:Sys) (hs:s.ok) (st:State) (h:st.ok s) (i k:Nat) (hi:i < s.ps.length) (hk:k < (s.pr i).es.length):CallsA Tryz.prog 267 [.agg s.cs,.agg st.cs,.int i,.int k] [] (.bool (rdyE ((s.pr i).eg k) st i)) []:=by
  have gp:=Sys.pr_at hi
  have ge:=Proc.eg_at hk
  have hE:=hs.eg i k hi hk
  have h3:=hs.n3
  have ha:=h.a
  have h6:=hs.ne i hi
  generalize (s.pr i).eg k=e at *
  have hb:=h.b.1
  have ga:(st.a.map enI)[i]?=some (enI (st.a.getD i 0)):=by rw [List.getElem?_map,z19 (show i < st.a.length by omega),List.getElem?_eq_getElem (by omega)];rfl
  have ce:=z490 st.b h.b e.gd hE.gd
  rw [Tree.arg_eq] at ce
  unfold rdyE
  generalize st.a.getD i 0=x at *
  generalize s.pr i=p at *
  refine z17 z18 Tryz.func267 rfl rfl 35 Tryz.ntmps267 (by simp) ?_
  repeat' ((first|(apply AWP.go ok;rfl)|(apply z34;kernel_rfl)|(refine z16 (i:=i) rfl gp ?_)|(refine z16 (i:=k) rfl ge ?_)|(refine z16 (i:=i) rfl ga ?_)|(apply And.intro;omega)|((apply z7)<;>intro _)|(apply z9 (ce);rfl;rfl))<;>conv=>whnf)
  all_goals skip
  all_goals exact z27 rfl (by simp [*])
structure Stp where
  p:Int
  e:Int
  q:Int
  f:Int
def Stp.cs (x:Stp):List AC:=[.int x.p,.int x.e,.int x.q,.int x.f]
structure Stp.ok (x:Stp) (s:Sys):Prop where
  p:0≤x.p∧x.p < s.ps.length
  e:0≤x.e∧x.e < (s.pr x.p.toNat).es.length
  q : -1≤x.q∧x.q < s.ps.length
  f:0≤x.q→0≤x.f∧x.f < (s.pr x.q.toNat).es.length
open Classical in
noncomputable def z596 (s:Sys) (st:State) (i k:Nat) (j m:Nat):List Stp:=if j≠i∧((s.pr j).eg m).sync=-((s.pr i).eg k).sync∧rdyE ((s.pr j).eg m) st j=true then [⟨i,k,j,m⟩] else []
noncomputable def z597 (s:Sys) (st:State) (i k:Nat):List Stp:=cat s.ps.length fun j=>cat (s.pr j).es.length (z596 s st i k j)
theorem partL_ok {s:Sys} {st:State} {i k:Nat} (hi:i < s.ps.length) (hk:k < (s.pr i).es.length):∀ x∈z597 s st i k,x.ok s:=fun x hx=>by
  obtain ⟨j,hj,hx⟩:=z605 hx
  obtain ⟨m,hm,hx⟩:=z605 hx
  unfold z596 at hx
  split at hx
  · rw [List.mem_singleton.1 hx]
    exact ⟨⟨by show 0≤(i:Int);omega,by show (i:Int) < _;omega⟩,⟨by show 0≤(k:Int);omega,by show (k:Int) < _;simpa using hk⟩,⟨by show -1≤(j:Int);omega,by show (j:Int) < _;omega⟩,fun _=>⟨by show 0≤(m:Int);omega,by show (m:Int) < _;simpa using hm⟩⟩
  · cases hx
theorem z679 {s:Sys} (hs:s.ok) {st:State} {i k:Nat} : (z597 s st i k).length≤18:=by
  have h3:=hs.n3
  have:=z630 (n:=s.ps.length) (c:=6) (f:=fun j=>cat (s.pr j).es.length (z596 s st i k j)) (fun j hj=>by
    have h6:=hs.ne j hj
    have:=z630 (n:=(s.pr j).es.length) (c:=1) (f:=z596 s st i k j) (fun m _=>by unfold z596;split<;>simp)
    omega)
  unfold z597
  omega
set_option maxHeartbeats 1600000 in
theorem z612 (s:Sys) (hs:s.ok) (st:State) (h:st.ok s) (i k:Nat) (hi:i < s.ps.length) (hk:k < (s.pr i).es.length):CallsA Tryz.prog 268 [.agg s.cs,.agg st.cs,.int i,.int k] [] (lst 4 Stp.cs (z597 s st i k)) []:=by
  have gp:=Sys.pr_at hi
  have ge:=Proc.eg_at hk
  have h3:=hs.n3
  have h6:=hs.ne i hi
  have hE:=hs.eg i k hi hk
  have hsy:=hE.sync
  have hfin:z597 s st i k=cat s.ps.length (fun j=>cat (s.pr j).es.length (z596 s st i k j)):=rfl
  have hR1:∀ j m,(j≠i∧((s.pr j).eg m).sync=-((s.pr i).eg k).sync∧rdyE ((s.pr j).eg m) st j=true)→z596 s st i k j m=[⟨i,k,j,m⟩]:=fun _ _ h=>if_pos h
  have hR0:∀ j m,¬(j≠i∧((s.pr j).eg m).sync=-((s.pr i).eg k).sync∧rdyE ((s.pr j).eg m) st j=true)→z596 s st i k j m=[]:=fun _ _ h=>if_neg h
  generalize z597 s st i k=FIN at *
  generalize z596 s st i k=R at *
  generalize (s.pr i).eg k=e at *
  generalize hp:s.pr i=p at *
  refine z10 z18 Tryz.func268 rfl rfl 76 Tryz.ntmps268 (by simp) ?_
  repeat' ((first|(apply AWP.go ok;rfl)|(refine z16 (i:=i) rfl gp ?_)|(refine z16 (i:=k) rfl ge ?_)|(apply And.intro;omega))<;>conv=>whnf)
  all_goals skip
  refine z64 (fun x:Nat×List Stp=>([(2,.int i),(3,.int k),(4,.ptr 0 none 0),(5,.ptr 1 none 0),(9,.sref 2 0 x.2.length),(10,.int e.sync),(11,.int x.1)],[.cells 2 [s.cs],.cells 2 [st.cs],.cells 4 (x.2.map Stp.cs)])) (fun x=>x.1≤s.ps.length∧x.2.length≤6 * x.1∧x.2=cat x.1 fun j=>cat (s.pr j).es.length (R j)) (fun x=>s.ps.length - x.1) (0,[]) ⟨by omega,by simp,rfl⟩ (by refine SealW.reach [0,1,2] [] rfl rfl rfl rfl ?_ ?_<;>(repeat' (first|exact LocLe.refl _|exact F2.nil|apply F2.cons|apply ObjLe.box|((refine z13 rfl ?_ ?_);(focus ((repeat' (exact z37));done)))|exact True.intro|apply And.intro))) ?_
  rintro ⟨j,L⟩ ⟨hj,hLl,hL⟩
  simp only at hj hL hLl
  by_cases hjl:j < s.ps.length
  · have gj:=Sys.pr_at hjl
    have hj6:=hs.ne j hjl
    repeat' ((first|(apply AWP.go ok;rfl)|((apply z7)<;>intro _))<;>conv=>whnf)
    all_goals first|(exfalso;omega)|skip
    refine z64 (fun x:Nat×List Stp=>([(2,.int i),(3,.int k),(4,.ptr 0 none 0),(5,.ptr 1 none 0),(9,.sref 2 0 x.2.length),(10,.int e.sync),(11,.int j),(12,.int x.1)],[.cells 2 [s.cs],.cells 2 [st.cs],.cells 4 (x.2.map Stp.cs)])) (fun x=>x.1≤(s.pr j).es.length∧x.2.length≤6 * j+x.1∧x.2=L++cat x.1 (R j)) (fun x=>(s.pr j).es.length - x.1) (0,L) ⟨by omega,by simpa using hLl,by rw [z861,List.append_nil]⟩ (by refine SealW.reach [0,1,2] [] rfl rfl rfl rfl ?_ ?_<;>(repeat' (first|exact LocLe.refl _|exact F2.nil|apply F2.cons|exact z12 _|apply ObjLe.box|((refine z13 rfl ?_ ?_);(focus ((repeat' ((exact z6 (fun _=>rfl))));done)))|exact True.intro|apply And.intro))) ?_
    rintro ⟨m,M⟩ ⟨hm,hMl,hM⟩
    simp only at hm hM hMl
    by_cases hml:m < (s.pr j).es.length
    · have gm:=Proc.eg_at hml
      have hl:=z553 s hs st h j m hjl hml
      have hR1m:=hR1 j m
      have hR0m:=hR0 j m
      have hcs:=z361 m (R j)
      have hE2:=(hs.eg j m hjl hml).sync
      generalize (s.pr j).eg m=e2 at *
      generalize rdyE e2 st j=rd at *
      generalize hpj:s.pr j=pj at *
      cases rd
      all_goals
        repeat' ((first|(apply AWP.go ok;rfl)|(refine z16 (i:=j) rfl gj ?_)|(refine z16 (i:=m) rfl gm ?_)|(apply And.intro;first|omega|(unfold inI;omega)|((try dsimp only);simp only [List.length_map,List.length_take,List.length_append,List.length_replicate,List.length_cons,List.length_nil];omega)|exact ⟨rfl,z21 rfl z30⟩)|((first|apply z7|apply z38)<;>intro _)|(apply z9 (hl);rfl;rfl))<;>conv=>whnf)
        all_goals first|(exfalso;omega)|skip
      all_goals first
        | (have hz := hR1m ⟨by omega, by omega, rfl⟩
           refine z23 (m+1,M++[⟨i,k,j,m⟩]) ⟨by omega,by simp;omega,by rw [hM,hcs,hz,List.append_assoc]⟩ (by show pj.es.length - (m+1) < pj.es.length - m;omega) (by refine SealW.reach [0,1,4] [] rfl rfl rfl rfl ?_ ?_<;>(repeat' (first|exact LocLe.refl _|exact F2.nil|apply F2.cons|(refine z39 ?_;((simp;done)))|apply ObjLe.box|((refine z35 rfl ?_ ?_);(focus ((repeat' (first|exact z6 (fun _=>rfl)|apply z22));done)))|(refine z70 ?_ ?_;(focus (omega)))|exact True.intro|apply And.intro))))
        | (have hz := hR0m (by rintro ⟨z1, z2, z3⟩; first | exact absurd z3 (by decide) | omega)
           refine z23 (m+1,M) ⟨by omega,by simp;omega,by rw [hM,hcs,hz,List.append_nil]⟩ (by show pj.es.length - (m+1) < pj.es.length - m;omega) (by refine SealW.reach [0,1,2] [] rfl rfl rfl rfl ?_ ?_<;>(repeat' (first|exact LocLe.refl _|exact F2.nil|apply F2.cons|exact z12 _|apply ObjLe.box|((refine z13 rfl ?_ ?_);(focus ((repeat' ((exact z6 (fun _=>rfl))));done)))|exact True.intro|apply And.intro))))
    · repeat' ((first|(apply AWP.go ok;rfl)|(refine z16 (i:=j) rfl gj ?_)|(apply And.intro;first|omega|(unfold inI;omega))|(((with_reducible apply z11;omega));intro _)|((first|apply z7|apply z38)<;>intro _))<;>conv=>whnf)
      all_goals first|(exfalso;omega)|skip
      have e:m=(s.pr j).es.length:=by omega
      all_goals refine z23 (j+1,M) ⟨by omega,by simp;omega,by rw [hM,hL,e];exact (z361 j fun j=>cat (s.pr j).es.length (R j)).symm⟩ (by show s.ps.length - (j+1) < s.ps.length - j;omega) (by refine SealW.reach [0,1,2] [] rfl rfl rfl rfl ?_ ?_<;>(repeat' (first|exact LocLe.refl _|exact F2.nil|apply F2.cons|exact z12 _|apply ObjLe.box|((refine z13 rfl ?_ ?_);(focus ((repeat' ((exact z6 (fun _=>rfl))));done)))|exact True.intro|apply And.intro)))
  · have e:j=s.ps.length:=by omega
    have eL:L=FIN:=by rw [hfin,hL,e]
    subst eL
    repeat' ((first|(apply AWP.go ok;rfl)|((apply z7)<;>intro _))<;>conv=>whnf)
    all_goals first|(exfalso;omega)|skip
    all_goals (refine RetS.lay [] [2] rfl rfl rfl ?_;refine RetS.done ?_ ?_<;>(repeat' (first|exact LocLe.refl _|exact F2.nil|((apply z45 rfl rfl rfl);(focus ((repeat ((exact z41 (fun _=>rfl) _)));done));(focus (((simp;done));done))))))
end Go.Proofs.YtknlmbniicacmaaGreat

namespace Go.Proofs.YtknlmbniicacmaaGreat
open Go.Gl
attribute [local irreducible] z31 AWP z48 z52 z50 RetS z57
noncomputable def z415 (s:Sys) (st:State) (j m:Nat):List Stp:=if ((s.pr j).eg m).sync < 0∨rdyE ((s.pr j).eg m) st j=false then [] else if ((s.pr j).eg m).sync=0 then [⟨j,m,-1,-1⟩] else z597 s st j m
noncomputable def z524 (s:Sys) (st:State):List Stp:=cat s.ps.length fun j=>cat (s.pr j).es.length (z415 s st j)
theorem z827 {s:Sys} {st:State} : ∀ x∈z524 s st,x.ok s:=fun x hx=>by
  obtain ⟨j,hj,hx⟩:=z605 hx
  obtain ⟨m,hm,hx⟩:=z605 hx
  unfold z415 at hx
  split at hx
  · cases hx
  split at hx
  · rw [List.mem_singleton.1 hx]
    exact ⟨⟨by show 0≤(j:Int);omega,by show (j:Int) < _;omega⟩,⟨by show 0≤(m:Int);omega,by show (m:Int) < _;simpa using hm⟩,⟨by show -1≤(-1:Int);omega,by show (-1:Int) < _;omega⟩,fun h=>absurd (show (0:Int)≤-1 from h) (by decide)⟩
  · exact partL_ok hj hm x hx
set_option maxHeartbeats 1600000 in
theorem z911 (s:Sys) (hs:s.ok) (st:State) (h:st.ok s):CallsA Tryz.prog 221 [.agg s.cs,.agg st.cs] [] (lst 4 Stp.cs (z524 s st)) []:=by
  have h3:=hs.n3
  have hfin:z524 s st=cat s.ps.length (fun j=>cat (s.pr j).es.length (z415 s st j)):=rfl
  have hR0:∀ j m,(((s.pr j).eg m).sync < 0∨rdyE ((s.pr j).eg m) st j=false)→z415 s st j m=[]:=fun _ _ h=>if_pos h
  have hR1:∀ j m,¬(((s.pr j).eg m).sync < 0∨rdyE ((s.pr j).eg m) st j=false)→((s.pr j).eg m).sync=0→z415 s st j m=[⟨j,m,-1,-1⟩]:=fun _ _ h k=>by unfold z415;rw [if_neg h,if_pos k]
  have hR2:∀ j m,¬(((s.pr j).eg m).sync < 0∨rdyE ((s.pr j).eg m) st j=false)→((s.pr j).eg m).sync≠0→z415 s st j m=z597 s st j m:=fun _ _ h k=>by unfold z415;rw [if_neg h,if_neg k]
  generalize z524 s st=FIN at *
  generalize z415 s st=R at *
  refine z10 z18 Tryz.func221 rfl rfl 64 Tryz.ntmps221 (by simp) ?_
  repeat' (((apply AWP.go ok;rfl))<;>conv=>whnf)
  all_goals skip
  refine z64 (fun x:Nat×List Stp=>([(2,.ptr 0 none 0),(3,.ptr 1 none 0),(5,.sref 2 0 x.2.length),(6,.int x.1)],[.cells 2 [s.cs],.cells 2 [st.cs],.cells 4 (x.2.map Stp.cs)])) (fun x=>x.1≤s.ps.length∧x.2.length≤108 * x.1∧x.2=cat x.1 fun j=>cat (s.pr j).es.length (R j)) (fun x=>s.ps.length - x.1) (0,[]) ⟨by omega,by simp,rfl⟩ (by refine SealW.reach [0,1,2] [] rfl rfl rfl rfl ?_ ?_<;>(repeat' (first|exact LocLe.refl _|exact F2.nil|apply F2.cons|apply ObjLe.box|((refine z13 rfl ?_ ?_);(focus ((repeat' (exact z37));done)))|exact True.intro|apply And.intro))) ?_
  rintro ⟨j,L⟩ ⟨hj,hLl,hL⟩
  simp only at hj hL hLl
  by_cases hjl:j < s.ps.length
  · have gj:=Sys.pr_at hjl
    have hj6:=hs.ne j hjl
    repeat' ((first|(apply AWP.go ok;rfl)|((apply z7)<;>intro _))<;>conv=>whnf)
    all_goals first|(exfalso;omega)|skip
    refine z64 (fun x:Nat×List Stp=>([(2,.ptr 0 none 0),(3,.ptr 1 none 0),(5,.sref 2 0 x.2.length),(6,.int j),(7,.int x.1)],[.cells 2 [s.cs],.cells 2 [st.cs],.cells 4 (x.2.map Stp.cs)])) (fun x=>x.1≤(s.pr j).es.length∧x.2.length≤108 * j+18 * x.1∧x.2=L++cat x.1 (R j)) (fun x=>(s.pr j).es.length - x.1) (0,L) ⟨by omega,by simpa using hLl,by rw [z861,List.append_nil]⟩ (by refine SealW.reach [0,1,2] [] rfl rfl rfl rfl ?_ ?_<;>(repeat' (first|exact LocLe.refl _|exact F2.nil|apply F2.cons|exact z12 _|apply ObjLe.box|((refine z13 rfl ?_ ?_);(focus ((repeat' ((exact z6 (fun _=>rfl))));done)))|exact True.intro|apply And.intro))) ?_
    rintro ⟨m,M⟩ ⟨hm,hMl,hM⟩
    simp only at hm hM hMl
    by_cases hml:m < (s.pr j).es.length
    · have gm:=Proc.eg_at hml
      have hl:=z553 s hs st h j m hjl hml
      have hP:=z612 s hs st h j m hjl hml
      have hPl:=z679 hs (st:=st) (i:=j) (k:=m)
      have hR0m:=hR0 j m
      have hR1m:=hR1 j m
      have hR2m:=hR2 j m
      have hcs:=z361 m (R j)
      have hE2:=(hs.eg j m hjl hml).sync
      generalize (s.pr j).eg m=e2 at *
      generalize rdyE e2 st j=rd at *
      generalize z597 s st j m=PL at *
      generalize hpj:s.pr j=pj at *
      cases rd
      all_goals
        repeat' ((first|(apply AWP.go ok;rfl)|(refine z16 (i:=j) rfl gj ?_)|(refine z16 (i:=m) rfl gm ?_)|(apply And.intro;first|omega|(unfold inI;omega)|((try dsimp only);simp only [List.length_map,List.length_take,List.length_append,List.length_replicate,List.length_cons,List.length_nil];omega)|exact z93 (fun _=>rfl)|exact ⟨rfl,z21 rfl z30⟩)|((apply z7)<;>intro _)|(apply z9 (hl);rfl;rfl)|(apply z9 (hP);rfl;rfl))<;>conv=>whnf)
        all_goals first|(exfalso;omega)|skip
      all_goals first
        | (have hz := hR2m (by rintro (z1 | z1) <;> first | omega | exact absurd z1 (by decide)) (by omega)
           refine z23 (m+1,M++PL) ⟨by omega,by simp;omega,by rw [hM,hcs,hz,List.append_assoc]⟩ (by show pj.es.length - (m+1) < pj.es.length - m;omega) (by refine SealW.reach [0,1,3] [] rfl rfl rfl rfl ?_ ?_<;>(repeat' (first|exact LocLe.refl _|exact F2.nil|apply F2.cons|(refine z39 ?_;((simp;done)))|apply ObjLe.box|((refine z13 rfl ?_ ?_);(focus ((repeat' (first|exact z6 (fun _=>rfl)|apply z99|apply z22));done)))|(refine appL_le ?_;(omega))|exact True.intro|apply And.intro))))
        | (have hz := hR1m (by rintro (z1 | z1) <;> first | omega | exact absurd z1 (by decide)) (by omega)
           refine z23 (m+1,M++[⟨j,m,-1,-1⟩]) ⟨by omega,by simp;omega,by rw [hM,hcs,hz,List.append_assoc]⟩ (by show pj.es.length - (m+1) < pj.es.length - m;omega) (by refine SealW.reach [0,1,4] [] rfl rfl rfl rfl ?_ ?_<;>(repeat' (first|exact LocLe.refl _|exact F2.nil|apply F2.cons|(refine z39 ?_;((simp;done)))|apply ObjLe.box|((refine z35 rfl ?_ ?_);(focus ((repeat' (first|exact z6 (fun _=>rfl)|apply z22));done)))|(refine z70 ?_ ?_;(focus (omega)))|exact True.intro|apply And.intro))))
        | (have hz := hR0m (by first | exact .inr rfl | exact .inl (by omega))
           refine z23 (m+1,M) ⟨by omega,by simp;omega,by rw [hM,hcs,hz,List.append_nil]⟩ (by show pj.es.length - (m+1) < pj.es.length - m;omega) (by refine SealW.reach [0,1,2] [] rfl rfl rfl rfl ?_ ?_<;>(repeat' (first|exact LocLe.refl _|exact F2.nil|apply F2.cons|exact z12 _|apply ObjLe.box|((refine z13 rfl ?_ ?_);(focus ((repeat' ((exact z6 (fun _=>rfl))));done)))|exact True.intro|apply And.intro))))
    · repeat' ((first|(apply AWP.go ok;rfl)|(refine z16 (i:=j) rfl gj ?_)|(apply And.intro;first|omega|(unfold inI;omega))|(((with_reducible apply z11;omega));intro _)|((apply z7)<;>intro _))<;>conv=>whnf)
      all_goals first|(exfalso;omega)|skip
      have e:m=(s.pr j).es.length:=by omega
      all_goals refine z23 (j+1,M) ⟨by omega,by simp;omega,by rw [hM,hL,e];exact (z361 j fun j=>cat (s.pr j).es.length (R j)).symm⟩ (by show s.ps.length - (j+1) < s.ps.length - j;omega) (by refine SealW.reach [0,1,2] [] rfl rfl rfl rfl ?_ ?_<;>(repeat' (first|exact LocLe.refl _|exact F2.nil|apply F2.cons|exact z12 _|apply ObjLe.box|((refine z13 rfl ?_ ?_);(focus ((repeat' ((exact z6 (fun _=>rfl))));done)))|exact True.intro|apply And.intro)))
  · have e:j=s.ps.length:=by omega
    have eL:L=FIN:=by rw [hfin,hL,e]
    subst eL
    repeat' ((first|(apply AWP.go ok;rfl)|((apply z7)<;>intro _))<;>conv=>whnf)
    all_goals first|(exfalso;omega)|skip
    all_goals (refine RetS.lay [] [2] rfl rfl rfl ?_;refine RetS.done ?_ ?_<;>(repeat' (first|exact LocLe.refl _|exact F2.nil|((apply z45 rfl rfl rfl);(focus ((repeat ((exact z41 (fun _=>rfl) _)));done));(focus (((simp;done));done))))))
noncomputable def z168 (st:State) (i:Nat) (e:Edge):State:=⟨st.a.set i e.to,if 0≤e.var then st.b.set e.var.toNat (e.val.ev st.b) else st.b⟩
theorem z578 {s:Sys} {st:State} (h:st.ok s) {i:Nat} {e:Edge} {n:Int} (he:e.ok n):(z168 st i e).ok s:=by
  refine ⟨by simp [z168,h.a],?_⟩
  unfold z168
  dsimp only
  split
  · refine ⟨by simp [h.b.1],fun x hx=>?_⟩
    rcases List.mem_or_eq_of_mem_set hx with hx|rfl
    · exact h.b.2 x hx
    · exact Tree.ev_range h.b _ (he.val (by assumption))
  · exact h.b
theorem z697 (st:State) (e:Edge) (n:Int) (he:e.ok n) (i:Nat) (hi:i < st.a.length) (hl:st.a.length≤10) (hv:ValsOk st.b):CallsA Tryz.prog 269 [.agg [.sref 0 0 st.a.length,.sref 1 0 st.b.length],.int i,.agg e.cs] [.cells 1 (st.a.map enI),.cells 1 (st.b.map enI)] (.agg [.sref 0 0 st.a.length,.sref 1 0 st.b.length]) [.cells 1 ((z168 st i e).a.map enI),.cells 1 ((z168 st i e).b.map enI)]:=by
  have hb:=hv.1
  have hvar:=he.var
  by_cases h0:0≤e.var
  · have c:=z490 st.b hv e.val (he.val h0)
    rw [Tree.arg_eq] at c
    have hr:=Tree.ev_range hv e.val (he.val h0)
    have e1:z168 st i e=⟨st.a.set i e.to,st.b.set e.var.toNat (e.val.ev st.b)⟩:=by unfold z168;rw [if_pos h0]
    rw [e1]
    generalize e.val.ev st.b=x at *
    refine z10 z18 Tryz.func269 rfl rfl 27 Tryz.ntmps269 (by simp) ?_
    repeat' ((first|(apply AWP.go ok;rfl)|(apply z34;kernel_rfl)|(apply And.intro;omega)|(((apply z11;omega));intro _)|((apply z7)<;>intro _)|(((apply z8 [] [1] [] (c);(focus ((repeat' first|exact z84|apply z60)<;>first|exact z122 rfl rfl rfl|rfl));(focus ((repeat' exact z4)<;>fail))));rfl;rfl;rfl;rfl;rfl;(focus ((repeat' exact z15)<;>fail));((refine .inr ⟨rfl,?_⟩;repeat' first|exact True.intro|apply And.intro))))<;>conv=>whnf)
    all_goals first|(exfalso;omega)|exact h0|(show e.var.toNat < st.b.length;omega)|skip
    all_goals (refine RetS.lay [0,1] [] rfl rfl rfl ?_;refine RetS.done ?_ ?_<;>(repeat' (first|exact LocLe.refl _|exact F2.nil|apply F2.cons|((refine z42 rfl ?_ ?_);(focus ((repeat' ((exact z6 (fun _=>rfl))));done)))|(refine z188 (by omega) ?_))))
  · have e1:z168 st i e=⟨st.a.set i e.to,st.b⟩:=by unfold z168;rw [if_neg h0]
    rw [e1]
    refine z10 z18 Tryz.func269 rfl rfl 27 Tryz.ntmps269 (by simp) ?_
    repeat' ((first|(apply AWP.go ok;rfl)|(apply And.intro;omega)|(((apply z11;omega));intro _)|((apply z7)<;>intro _))<;>conv=>whnf)
    all_goals first|(exfalso;omega)|skip
    all_goals (refine RetS.lay [0,1] [] rfl rfl rfl ?_;refine RetS.done ?_ ?_<;>(repeat' (first|exact LocLe.refl _|exact F2.nil|apply F2.cons|exact z12 _|((first|refine z42 rfl ?_ ?_|refine z13 rfl ?_ ?_);(focus ((repeat' ((exact z6 (fun _=>rfl))));done)))|(refine z188 (by omega) ?_))))
end Go.Proofs.YtknlmbniicacmaaGreat

namespace Go.Proofs.YtknlmbniicacmaaGreat
open Go.Gl
attribute [local irreducible] z31 AWP z48 z52 z50 RetS z57
noncomputable def z222 (s:Sys) (st:State) (x:Stp):State:=if 0≤x.q then z168 (z168 st x.p.toNat ((s.pr x.p.toNat).eg x.e.toNat)) x.q.toNat ((s.pr x.q.toNat).eg x.f.toNat) else z168 st x.p.toNat ((s.pr x.p.toNat).eg x.e.toNat)
theorem z842 {a:Int} {n:Nat} (h:0≤a) (h2:a < n):∃ m:Nat,a=m∧m < n:=⟨a.toNat,by omega,by omega⟩
theorem z725 {s:Sys} (hs:s.ok) {st:State} (h:st.ok s) {x:Stp} (hx:x.ok s):(z222 s st x).ok s:=by
  have hp:=hx.p
  have he:=hx.e
  have hq:=hx.q
  unfold z222
  have h1:=z578 (i:=x.p.toNat) h (hs.eg x.p.toNat x.e.toNat (by omega) (by omega))
  split
  · rename_i hq0
    have hf:=hx.f hq0
    exact z578 h1 (hs.eg x.q.toNat x.f.toNat (by omega) (by omega))
  · exact h1
theorem z655 (st:State) (i:Nat) (e:Edge):(z168 st i e).a.length=st.a.length∧(z168 st i e).b.length=st.b.length:=by
  unfold z168
  constructor
  · simp
  · dsimp only;split<;>simp
set_option maxHeartbeats 3200000 in
theorem z912 (s:Sys) (hs:s.ok) (st:State) (h:st.ok s) (x:Stp) (hx:x.ok s):CallsA Tryz.prog 222 [.agg s.cs,.agg st.cs,.agg x.cs] [] (.agg (z222 s st x).cs) []:=by
  have hn3:=hs.n3
  have ha:=h.a
  have hb:=h.b.1
  obtain ⟨p,e,q,f⟩:=x
  obtain ⟨hp,he,hq,hf⟩:=hx
  simp only at hp he hq hf
  obtain ⟨pi,rfl,hpi⟩:=z842 hp.1 hp.2
  simp only [Int.toNat_natCast] at he
  obtain ⟨ei,rfl,hei⟩:=z842 he.1 he.2
  have gp:=Sys.pr_at hpi
  have ge:=Proc.eg_at hei
  have hE:=hs.eg pi ei hpi hei
  have hP6:=hs.ne pi hpi
  have c1:=z697 st ((s.pr pi).eg ei) _ hE pi (by omega) (by omega) h.b
  have h1:=z578 (i:=pi) h hE
  have hl1:=z655 st pi ((s.pr pi).eg ei)
  rw [show st.a.length=0+st.a.length by omega,show st.b.length=0+st.b.length by omega] at c1
  by_cases hq0:0≤q
  · have hf:=hf hq0
    obtain ⟨qi,rfl,hqi⟩:=z842 hq0 hq.2
    simp only [Int.toNat_natCast] at hf
    obtain ⟨fi,rfl,hfi⟩:=z842 hf.1 hf.2
    have gq:=Sys.pr_at hqi
    have gf:=Proc.eg_at hfi
    have hF:=hs.eg qi fi hqi hfi
    have hQ6:=hs.ne qi hqi
    have e0:z222 s st ⟨pi,ei,qi,fi⟩=z168 (z168 st pi ((s.pr pi).eg ei)) qi ((s.pr qi).eg fi):=by unfold z222;rw [if_pos hq0];rfl
    have c2:=z697 (z168 st pi ((s.pr pi).eg ei)) ((s.pr qi).eg fi) _ hF qi (by omega) (by omega) h1.b
    have hl2:=z655 (z168 st pi ((s.pr pi).eg ei)) qi ((s.pr qi).eg fi)
    rw [hl1.1,hl1.2,show st.a.length=0+st.a.length by omega,show st.b.length=0+st.b.length by omega] at c2
    rw [e0]
    generalize z168 (z168 st pi ((s.pr pi).eg ei)) qi ((s.pr qi).eg fi)=s2 at *
    generalize z168 st pi ((s.pr pi).eg ei)=s1 at *
    generalize (s.pr pi).eg ei=ed at *
    generalize (s.pr qi).eg fi=fd at *
    generalize s.pr pi=pp at *
    generalize s.pr qi=qq at *
    refine z10 z18 Tryz.func222 rfl rfl 51 Tryz.ntmps222 (by simp) ?_
    repeat' ((first|(apply AWP.go ok;rfl)|(apply z34;kernel_rfl)|(refine z16 (i:=pi) rfl gp ?_)|(refine z16 (i:=ei) rfl ge ?_)|(refine z16 (i:=qi) rfl gq ?_)|(refine z16 (i:=fi) rfl gf ?_)|(apply And.intro;first|omega|(dsimp only;omega)|exact z93 (fun _=>rfl))|((first|(apply z8 [5,7] [] [] (c1);rfl;(focus ((repeat' first|exact z4|apply z5)<;>(refine z86 rfl ?_;((exact z6 fun _=>rfl))))))|(apply z8 [5,7] [] [] (c2);rfl;(focus ((repeat' first|exact z4|apply z5)<;>(refine z86 rfl ?_;((exact z6 fun _=>rfl)))))));rfl;rfl;rfl;rfl;rfl;(focus ((repeat' first|exact z15|apply z14)<;>(refine z25 ?_;((exact z6 fun _=>rfl)))));(exact .inl rfl)))<;>conv=>whnf)
    all_goals skip
    all_goals (refine RetS.lay [] [5,7] rfl rfl rfl ?_;refine RetS.done ?_ ?_<;>(repeat' (first|exact F2.nil|apply F2.cons|(refine z262 ?_;omega)|((apply z45 rfl rfl rfl);(focus ((repeat ((exact z41 (fun _=>rfl) _)));done));(focus (((simp;omega));done)))|apply z44)))
  · have e0:z222 s st ⟨pi,ei,q,f⟩=z168 st pi ((s.pr pi).eg ei):=by unfold z222;rw [if_neg hq0];rfl
    rw [e0]
    generalize z168 st pi ((s.pr pi).eg ei)=s1 at *
    generalize (s.pr pi).eg ei=ed at *
    generalize s.pr pi=pp at *
    refine z10 z18 Tryz.func222 rfl rfl 51 Tryz.ntmps222 (by simp) ?_
    repeat' ((first|(apply AWP.go ok;rfl)|(apply z34;kernel_rfl)|(refine z16 (i:=pi) rfl gp ?_)|(refine z16 (i:=ei) rfl ge ?_)|(apply And.intro;first|omega|(dsimp only;omega)|exact z93 (fun _=>rfl))|((apply z7)<;>intro _)|(((apply z8 [5,7] [] [] (c1);rfl;(focus ((repeat' first|exact z4|apply z5)<;>(refine z86 rfl ?_;((exact z6 fun _=>rfl)))))));rfl;rfl;rfl;rfl;rfl;(focus ((repeat' first|exact z15|apply z14)<;>(refine z25 ?_;((exact z6 fun _=>rfl)))));(exact .inl rfl)))<;>conv=>whnf)
    all_goals first|(exfalso;apply hq0;assumption)|skip
    all_goals (refine RetS.lay [] [5,7] rfl rfl rfl ?_;refine RetS.done ?_ ?_<;>(repeat' (first|exact F2.nil|apply F2.cons|(refine z262 ?_;omega)|((apply z45 rfl rfl rfl);(focus ((repeat ((exact z41 (fun _=>rfl) _)));done));(focus (((simp;omega));done)))|apply z44)))
end Go.Proofs.YtknlmbniicacmaaGreat

namespace Go.Proofs.YtknlmbniicacmaaGreat
open Go.Gl
attribute [local irreducible] z31 AWP z48 z52 z50
def State.co (s:State):List AC:=[.own 1 (s.a.map enI),.own 1 (s.b.map enI)]
end Go.Proofs.YtknlmbniicacmaaGreat

namespace Go.Proofs.YtknlmbniicacmaaGreat
open Go.Gl
attribute [local irreducible] z31 AWP z48 z52 z50
end Go.Proofs.YtknlmbniicacmaaGreat

