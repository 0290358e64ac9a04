/- A part of the proofs over this program: T225, T145, T180, T226, T146, T147, T227, T148, T149, T228, T229, T150, T151, T152, T230, T231, T39, T232, T38, T40, T41, T42, T153, T233. -/
import Derived.Test.YteinbnahinpegaaGreatG0
import Derived.Test.YteinbnahinpegaaGreatG1
import Derived.Test.YteinbnahinpegaaGreatG2
import Derived.Test.YteinbnahinpegaaGreatG3
import Derived.Test.YteinbnahinpegaaGreatP0
import Derived.Test.YteinbnahinpegaaGreatP1
import Derived.Test.YteinbnahinpegaaGreatP2
import Derived.Test.YteinbnahinpegaaGreatP3
import Derived.Test.YteinbnahinpegaaGreatP4
set_option linter.all false
namespace Go.Proofs.YteinbnahinpegaaGreat
open Go.Gl
attribute [local irreducible] z20 AWP z30 z35 z34 RetS z42
theorem z595 (t:Tree) (hg:t.goodF) (hs:t.sz≤1000):CallsA Tryz.prog 142 [z40 Tree.cs' t] [] (.tup [z40 Tree.cs' (if (t.nrm false).fmB=true then t.nrm false else dftT),.bool (t.nrm false).fmB]) []:=by
 have cp:=z1100 t hg false
 have hz:=y27 t hg false
 have cw:=z137 (t.nrm false) (z132 _ (by unfold maxLen;omega))
 generalize t.nrm false=u at *
 rw [y15 t] at *
 rw [y15 u] at *
 by_cases h2:u.fmB=true
 ·rw [if_pos h2,h2,y15 u]
  rw [h2] at cw
  refine z10 z19 Tryz.func142 rfl rfl 12 Tryz.ntmps142 (by simp) ?_
  repeat' ((first|(apply y4 ok;rfl)|(apply z6 (cp);rfl;rfl)|(apply z6 (cw);rfl;rfl))<;>conv=>whnf)
  all_goals (refine rsD [] [] rfl ?_;(repeat' first|exact y82 _|constructor))
 ·rw [if_neg h2,(y68 _).mp h2]
  rw [(y68 _).mp h2] at cw
  refine z10 z19 Tryz.func142 rfl rfl 12 Tryz.ntmps142 (by simp) ?_
  repeat' ((first|(apply y4 ok;rfl)|(apply z6 (cp);rfl;rfl)|(apply z6 (cw);rfl;rfl))<;>conv=>whnf)
  all_goals (refine rsD [] [] rfl ?_;(repeat' first|exact y82 _|exact z52|apply z60|apply z113|constructor))
theorem z1129 (t:Tree) (hs:t.sz≤1000):CallsA Tryz.prog 198 [z40 Tree.cs' t] [] (.tup [z40 Tree.cs' (if t.fmB=true∧(t.nrm false).fmB=true then t.nrm false else dftT),.bool (decide (t.fmB=true∧(t.nrm false).fmB=true))]) []:=by
 have cv:=z137 t (z132 t (by unfold maxLen;omega))
 by_cases h1:t.fmB=true
 ·have cn:=z595 t (y22 h1) hs
  have e:(if t.fmB=true∧(t.nrm false).fmB=true then t.nrm false else dftT)=if (t.nrm false).fmB=true then t.nrm false else dftT:=by simp only [h1,true_and]
  have e2:decide (t.fmB=true∧(t.nrm false).fmB=true)=(t.nrm false).fmB:=by simp [h1]
  rw [e,e2]
  rw [h1] at cv
  clear e e2
  generalize (if (t.nrm false).fmB=true then t.nrm false else dftT)=u at *
  generalize (t.nrm false).fmB=b at *
  rw [y15 t] at cv cn ⊢
  rw [y15 u] at cn ⊢
  refine z10 z19 Tryz.func198 rfl rfl 12 Tryz.ntmps198 (by simp) ?_
  repeat' ((first|(apply y4 ok;rfl)|(apply z6 (cv);rfl;rfl)|(apply z6 (cn);rfl;rfl))<;>conv=>whnf)
  all_goals (refine rsD [] [] rfl ?_;(repeat' first|exact y82 _|constructor))
 ·rw [if_neg (fun h=>h1 h.1),y79 (fun h=>h1 h.1)]
  rw [(y68 _).mp h1] at cv
  rw [y15 t] at cv ⊢
  refine z10 z19 Tryz.func198 rfl rfl 12 Tryz.ntmps198 (by simp) ?_
  repeat' ((first|(apply y4 ok;rfl)|(apply z6 (cv);rfl;rfl))<;>conv=>whnf)
  all_goals (refine rsD [] [] rfl ?_;(repeat' first|exact y82 _|exact z52|apply z60|apply z113|constructor))
theorem z832 (t:Tree) (hg:t.goodF) (hs:t.sz≤1000):CallsA Tryz.prog 140 [z40 Tree.cs' t] [] (z40 Tree.cs' (negT t)) []:=by
 by_cases hk:t.kind=3
 ·have hf:=y20 hg
  cases hf with
  |tr=>simp [Tree.kind] at hk
  |«at» v _ _=>simp [Tree.kind] at hk
  |bin k a b hk2 _ _=>simp only [Tree.kind] at hk;omega
  |un k a _ _ =>
   simp only [Tree.kind] at hk
   subst hk
   have e:negT (.mk 3 0 [a])=a:=by simp [negT,Tree.kind,Tree.kids]
   rw [z362] at hs
   have cc:=z673 a (by omega)
   rw [e,argU 3 0 a]
   refine z10 z19 Tryz.func140 rfl rfl 15 Tryz.ntmps140 (by simp) ?_
   repeat' ((first|(apply y4 ok;rfl)|(refine ⟨_,rfl,?_⟩)|(apply y39;omega)|(apply z6 (cc);rfl;rfl))<;>conv=>whnf)
   all_goals (refine rsD [] [] rfl ?_;(repeat' first|exact y82 _|constructor))
 ·have e:negT t=notT t:=if_neg hk
  have cc:=z673 t (by omega)
  have cf:=z123 3 [t] (by simp)
  rw [e]
  unfold notT
  rw [argU]
  refine z10 z19 Tryz.func140 rfl rfl 15 Tryz.ntmps140 (by simp) ?_
  repeat' ((first|(apply y4 ok;rfl)|(apply y39;omega)|(((with_reducible apply z154;omega));intro _)|((first|apply z8|apply z110)<;>intro _)|(apply z6 (cc);rfl;rfl)|(apply z11 [2] [] cf;rfl;rfl;rfl;(focus ((repeat' first|exact z17|apply z14)<;>exact z167))))<;>conv=>whnf)
  all_goals first|(exfalso;omega)|(refine rsD [] [] rfl ?_;(repeat' first|exact y82 _|constructor))
def ngB (t:Tree):Bool:=t.fmB && (negT t).fmB
def ngT (t:Tree):Tree:=if ngB t=true then negT t else dftT
theorem ngT_sz (t:Tree):(ngT t).sz≤t.sz+1:=by
 unfold ngT
 split
 ·exact z1106 t
 ·simp [dftT,z492]
theorem z662 (t:Tree) (hm:t.mx):CallsA Tryz.prog 94 [z40 Tree.cs' t] [] (.tup [z40 Tree.cs' (ngT t),.bool (ngB t)]) []:=by
 have cv:=z137 t hm
 have hz:=z1106 t
 unfold ngT ngB
 by_cases h1:t.fmB=true
 ·have hs:=fm_sz h1
  have cn:=z832 t (y22 h1) (by omega)
  have cw:=z137 (negT t) (z132 _ (by unfold maxLen;omega))
  rw [h1,Bool.true_and]
  rw [h1] at cv
  generalize negT t=u at *
  by_cases h2:u.fmB=true
  ·rw [if_pos h2,h2]
   rw [h2] at cw
   rw [y15 t] at cv cn ⊢
   rw [y15 u] at cw cn ⊢
   refine z10 z19 Tryz.func94 rfl rfl 16 Tryz.ntmps94 (by simp) ?_
   repeat' ((first|(apply y4 ok;rfl)|(apply z6 (cv);rfl;rfl)|(apply z6 (cn);rfl;rfl)|(apply z6 (cw);rfl;rfl))<;>conv=>whnf)
   all_goals (refine rsD [] [] rfl ?_;(repeat' first|exact y82 _|constructor))
  ·rw [if_neg h2,(y68 _).mp h2]
   rw [(y68 _).mp h2] at cw
   rw [y15 t] at cv cn ⊢
   rw [y15 u] at cw cn
   refine z10 z19 Tryz.func94 rfl rfl 16 Tryz.ntmps94 (by simp) ?_
   repeat' ((first|(apply y4 ok;rfl)|(apply z6 (cv);rfl;rfl)|(apply z6 (cn);rfl;rfl)|(apply z6 (cw);rfl;rfl))<;>conv=>whnf)
   all_goals (refine rsD [] [] rfl ?_;(repeat' first|exact y82 _|exact z52|apply z60|apply z113|constructor))
 ·rw [(y68 _).mp h1,Bool.false_and,if_neg (by simp)]
  rw [(y68 _).mp h1] at cv
  rw [y15 t] at cv ⊢
  refine z10 z19 Tryz.func94 rfl rfl 16 Tryz.ntmps94 (by simp) ?_
  repeat' ((first|(apply y4 ok;rfl)|(apply z6 (cv);rfl;rfl))<;>conv=>whnf)
  all_goals (refine rsD [] [] rfl ?_;(repeat' first|exact y82 _|exact z52|apply z60|apply z113|constructor))
def fnL (N:Nat) (f:Nat→Int):List Int:=(List.range N).map f
theorem z135 (N:Nat) (f:Nat→Int):(fnL N f).length=N:=by simp [fnL]
theorem z185 {N u:Nat} (f:Nat→Int) (h:u < N):((fnL N f).map enI)[u]?=some (enI (f u)):=by
 unfold fnL
 rw [y47,y47,List.getElem?_range h];rfl
theorem fnL_set {N u:Nat} (f:Nat→Int) (x:Int):(fnL N f).set u x=fnL N (upd f u x):=by
 apply y71 (by simp [fnL])
 intro i h1 h2
 rw [List.getElem_set]
 simp only [fnL,List.getElem_map,List.getElem_range]
 split
 ·rename_i e;subst e;rw [z31]
 ·rename_i e;rw [z56 _ _ (fun h=>e h.symm)]
theorem z170 {N u:Nat} (f:Nat→Int) (x:Int):((fnL N f).map enI).set u (enI x)=(fnL N (upd f u x)).map enI:=by rw [← fnL_set,List.map_set]
def natL (l:List Nat):List Int:=l.map fun x:Nat=>(x:Int)
theorem z468 (l:List Nat):(natL l).length=l.length:=by simp [natL]
theorem natL_at {l:List Nat} {i:Nat} (h:i < l.length):((natL l).map enI)[i]?=some (enI (l[i]:Nat)):=by
 unfold natL
 rw [y47,y47,y41 h];rfl
theorem z578 {rows:List (List Int)} {u:Nat} (h:u < rows.length):(rows.map encL)[u]?=some (encL (rows.getD u [])):=by
 rw [y47,y41 h,z13 h];rfl
@[reducible] def visF:AC:=.fn (.func 214) [] [.ptr 0 none 0,.ptr 1 none 0,.ptr 3 none 0,.ptr 5 none 0,.ptr 6 none 0,.ptr 7 none 0,.ptr 8 none 0,.ptr 10 none 0]
@[reducible] def z1096 (rows:List (List Int)) (s:TS):List AObj:=[.cells 1 [[.int s.cnt]],.cells 1 [[.sref 2 0 rows.length]],.cells 1 ((fnL rows.length s.num).map enI),.cells 1 [[.sref 4 0 rows.length]],.cells 1 ((fnL rows.length s.low).map enI),.cells 1 [[.own 1 ((natL s.stk).map enI)]],.cells 1 [[lst 1 encL rows]],.cells 1 [[visF]],.cells 1 [[.sref 9 0 rows.length]],.cells 1 ((fnL rows.length s.part).map enI),.cells 1 [[.int s.prt]]]
set_option maxHeartbeats 12800000 in
theorem z946 (rows : List (List Int)) (hr : ∀ r ∈ rows, InN rows.length r) (hN : rows.length ≤ 100000) (hrl : ∀ r ∈ rows, r.length ≤ 1000000000) : ∀ (f : Nat) (s : TS) (g : List Nat) (u : Nat), unvN rows.length s.num ≤ f → TI rows s g → s.num u = 0 → u < rows.length → (∀ x ∈ g, RN rows x u) → s.prt ≤ s.cnt →
  CallsA Tryz.prog 214 [.int (u:Int),.ptr 0 none 0,.ptr 1 none 0,.ptr 3 none 0,.ptr 5 none 0,.ptr 6 none 0,.ptr 7 none 0,.ptr 8 none 0,.ptr 10 none 0] (z1096 rows s) (.tup []) (z1096 rows (z236 rows f u s)):=by
 intro f
 induction f with
 |zero =>
  intro s g u hf _ h0 hu _ _
  have:=z1046 (num:=s.num) hu h0
  omega
 |succ f ih =>
  intro s g u hf hI h0 hu hg hsp
  have hTL:=z1192 hr hf hI h0 hu hg
  have hc0:s.cnt≤100000:=by have:=hI.ct;omega
  have gr:=z578 hu
  have hrow:=z275 hr (u:Int)
  rw [y73] at hrow
  have hrowl:(rows.getD u []).length≤1000000000:=by rw [z13 hu];exact hrl _ (y40 _)
  have hte:z236 rows (f+1) u s=tEnd u ((rows.getD u []).foldl (z361 (z236 rows f) u) (z203 u s)):=rfl
  generalize hR:z236 rows (f+1) u s=R at *
  generalize hrw:rows.getD u []=row at *
  have e1:=z170 (N:=rows.length) (u:=u) s.num (s.cnt+1)
  have e2:=z170 (N:=rows.length) (u:=u) s.low (s.cnt+1)
  have g1:=z185 s.num hu
  have g2:=z185 s.low hu
  have l1:=z135 rows.length s.num
  have l2:=z135 rows.length s.low
  have hsl:s.stk.length≤100000:=by
   have:=z219 rows.length (natL s.stk) ?_ ?_
   ·rw [z468] at this;omega
   ·exact (hI.nd).map _ fun a b h=>by omega
   ·intro x hx
    obtain ⟨y,hy,rfl⟩:=List.mem_map.1 hx
    have:=hI.lt y ((hI.stk y).1 hy).1
    omega
  refine z10 z19 Tryz.func214 rfl rfl 105 Tryz.ntmps214 (by simp) ?_
  repeat' ((first|((fail_if_success apply z114 2);(fail_if_success apply z96 2);apply y4 ok;rfl)|(apply z37;kernel_rfl)|(refine z21 (i:=u) rfl g1 ?_)|(refine z21 (i:=u) rfl g2 ?_)|(apply y39;first|omega|(unfold inI;omega)))<;>conv=>whnf)
  refine y81 (Gl.Reach.expose 5 0 0 rfl rfl rfl (z168 (fun _=>rfl) _) rfl) ?_
  conv=>whnf
  repeat' ((first|((fail_if_success apply z114 3);(fail_if_success apply z96 3);apply y4 ok;rfl)|(refine y39 ?_ ?_;(focus (dsimp only;simp only [y45,z468];omega)))|(refine z21 (i:=u) rfl gr ?_)|(apply y39;first|omega|exact ⟨rfl,z25 rfl z32⟩))<;>conv=>whnf)
  refine y81 (Gl.Reach.absorb 5 13 0 0 rfl rfl rfl rfl (by simp) rfl (z90 (fun e he=>(z7 (fun _=>rfl)) e (List.mem_of_mem_take he)) (z212 rfl z36)) rfl) ?_
  conv=>whnf
  have e3:((natL s.stk).map enI).take ((natL s.stk).map enI).length++[enI (u:Int)]=(natL (s.stk++[u])).map enI:=by
   rw [y52];unfold natL;simp
  obtain ⟨T,hT⟩:∃ T:Nat→TS,T=fun k=>(row.take k).foldl (z361 (z236 rows f) u) (z203 u s):=⟨_,rfl⟩
  have hT0:T 0=z203 u s:=by rw [hT];rfl
  have hTs:∀ k (hk:k < row.length),T (k+1)=z361 (z236 rows f) u (T k) row[k]:=fun k hk=>by
   rw [hT]
   show (row.take (k+1)).foldl _ _=_
   rw [y46 hk,y59];rfl
  have hTn:R=tEnd u (T row.length):=by
   rw [hT,hte]
   show _=tEnd u ((row.take row.length).foldl _ _)
   rw [y52]
  have hTT:∀ k,k≤row.length→TL rows s (T k) g u (row.take k):=fun k hk=>by rw [hT];exact hTL k hk
  clear hT hTL hte hR
  have f1:(T 0).num=upd s.num u (s.cnt+1):=by rw [hT0];rfl
  have f2:(T 0).low=upd s.low u (s.cnt+1):=by rw [hT0];rfl
  have f3:(T 0).stk=s.stk++[u]:=by rw [hT0];rfl
  have f4:(T 0).cnt=s.cnt+1:=by rw [hT0];rfl
  have f5:(T 0).part=s.part:=by rw [hT0];rfl
  have f6:(T 0).prt=s.prt:=by rw [hT0];rfl
  refine z92 (fun k:Nat=>([(0,.int (u:Int)),(1,.ptr 0 none 0),(2,.ptr 1 none 0),(3,.ptr 3 none 0),(4,.ptr 5 none 0),(5,.ptr 6 none 0),(6,.ptr 7 none 0),(7,.ptr 8 none 0),(8,.ptr 10 none 0),(30,ints row),(31,.int row.length),(32,.int k)],[.cells 1 [[.int (T k).cnt]],.cells 1 [[.sref 2 0 rows.length]],.cells 1 ((fnL rows.length (T k).num).map enI),.cells 1 [[.sref 4 0 rows.length]],.cells 1 ((fnL rows.length (T k).low).map enI),.cells 1 [[.own 1 ((natL (T k).stk).map enI)]],.cells 1 [[lst 1 encL rows]],.cells 1 [[visF]],.cells 1 [[.sref 9 0 rows.length]],.cells 1 ((fnL rows.length (T k).part).map enI),.cells 1 [[.int (T k).prt]]])) (fun k=>k≤row.length) (fun k=>row.length - k) 0 (y49 _) (by refine swR [0,1,2,3,4,5,6,7,8,9,10] [] rfl rfl ?_;(repeat' first|exact y82 _|(refine z152 ?_;omega)|apply y83|refine z80 rfl (z7 (fun _=>rfl)) ?_|refine z16 rfl (z7 (fun _=>rfl)) ?_|constructor)<;>(first|(refine z68 ?_;rw [f1];exact e1)|(refine z68 ?_;rw [f2];exact e2)|(rw [f5];exact z18 _)|(rw [f3];refine y9 ?_;rw [← e3];rfl))) ?_
  clear f1 f2 f3 f4 f5 f6 hT0 e1 e2 e3 g1 g2 l1 l2
  intro k hk
  have hL:=hTT k hk
  have hLI:=hL.inv
  have hL2:=hL.num
  have gu1:=z185 (T k).num hu
  have gu2:=z185 (T k).low hu
  have l1:=z135 rows.length (T k).num
  have l2:=z135 rows.length (T k).low
  have l3:=z135 rows.length (T k).part
  by_cases hk2:k < row.length
  ·have hs2:=hTs k hk2
   have gk:(row.map enI)[k]?=some (enI row[k]):=by rw [y47,y41 hk2];rfl
   have hv:=hrow _ (y40 hk2)
   have hvm:row[k]∈rows.getD u []:=by rw [hrw];exact y40 hk2
   generalize row[k]=v at *
   obtain ⟨w,rfl⟩:∃ w:Nat,v=w:=⟨v.toNat,by omega⟩
   have hw:w < rows.length:=by omega
   have gw1:=z185 (T k).num hw
   have gw3:=z185 (T k).part hw
   unfold z361 at hs2
   simp only [y73] at hs2
   have hnx:k+1≤row.length:=hk2
   generalize hS:T k=S at *
   generalize hS2:T (k+1)=S2 at *
   by_cases hw0:S.num w=0
   ·rw [if_pos hw0] at hs2
    have cW:=ih S (u::g) w (by have h1:=hL.cnt;have h2:=hLI.ct;have h3:=hI.ct;omega) hLI hw0 hw (fun x hx=>by
     rcases List.mem_cons.1 hx with rfl|hx
     ·exact .edge hvm
     ·exact (hg x hx).trans (.edge hvm)) (by have:=hL.prt;omega)
    generalize z236 rows f w S=S1 at *
    have hu1:=z185 S1.low hu
    have hw1:=z185 S1.low hw
    have l4:=z135 rows.length S1.low
    have e1:=z170 (N:=rows.length) (u:=u) S1.low (min (S1.low u) (S1.low w))
    have q1:S2.low=upd S1.low u (min (S1.low u) (S1.low w)):=by rw [hs2];rfl
    have q2:S2.num=S1.num:=by rw [hs2];rfl
    have q3:S2.part=S1.part:=by rw [hs2];rfl
    have q4:S2.stk=S1.stk:=by rw [hs2];rfl
    have q5:S2.cnt=S1.cnt:=by rw [hs2];rfl
    have q6:S2.prt=S1.prt:=by rw [hs2];rfl
    repeat' ((first|((fail_if_success apply z114 8);(fail_if_success apply z96 8);apply y4 ok;rfl)|(apply z37;kernel_rfl)|(refine z21 (i:=k) rfl gk ?_)|(refine z21 (i:=w) rfl gw1 ?_)|(apply y39;omega)|(((apply z15;omega));intro _)|((apply z8)<;>intro _)|(apply z181 [0,1,2,3,4,5,6,7,8,9,10] [] cW;rfl;(focus ((repeat' first|exact z43|apply z64)<;>first|rfl|(refine z88 rfl ?_;((exact z7 fun _=>rfl)))));rfl;(focus ((repeat' first|exact z17|apply z14)<;>first|exact z45 rfl rfl|(refine z23 ?_;((exact z7 fun _=>rfl)))))))<;>conv=>whnf)
    all_goals try (exfalso;omega)
    repeat' ((first|(apply y4 ok;rfl)|(apply z37;kernel_rfl)|(refine z21 (i:=u) rfl hu1 ?_)|(refine z21 (i:=w) rfl hw1 ?_)|(apply y39;first|omega|(unfold inI;omega)))<;>conv=>whnf)
    all_goals refine z44 (k+1) hk2 (by omega) ?_
    all_goals dsimp only
    all_goals rw [hS2,q2,q3,q4,q5,q6,q1]
    all_goals exact (by refine swR [0,1,2,3,4,5,6,7,8,9,10] [] rfl rfl ?_;(repeat' first|exact y82 _|exact z18 _|apply y83|refine z80 rfl (z7 (fun _=>rfl)) ?_|refine z16 rfl (z7 (fun _=>rfl)) ?_|constructor)<;>((refine z68 ?_;exact e1)))
   ·rw [if_neg hw0] at hs2
    by_cases hp0:S.part w < 0
    ·rw [if_pos hp0] at hs2
     have e1:=z170 (N:=rows.length) (u:=u) S.low (min (S.low u) (S.num w))
     have q1:S2.low=upd S.low u (min (S.low u) (S.num w)):=by rw [hs2];rfl
     have q2:S2.num=S.num:=by rw [hs2];rfl
     have q3:S2.part=S.part:=by rw [hs2];rfl
     have q4:S2.stk=S.stk:=by rw [hs2];rfl
     have q5:S2.cnt=S.cnt:=by rw [hs2];rfl
     have q6:S2.prt=S.prt:=by rw [hs2];rfl
     repeat' ((first|(apply y4 ok;rfl)|(apply z37;kernel_rfl)|(refine z21 (i:=k) rfl gk ?_)|(refine z21 (i:=w) rfl gw1 ?_)|(refine z21 (i:=w) rfl gw3 ?_)|(refine z21 (i:=u) rfl gu2 ?_)|(apply y39;first|omega|(unfold inI;omega))|(((apply z15;omega));intro _)|((apply z8)<;>intro _))<;>conv=>whnf)
     all_goals try (exfalso;omega)
     all_goals refine z44 (k+1) hk2 (by omega) ?_
     all_goals dsimp only
     all_goals rw [hS2,q2,q3,q4,q5,q6,q1]
     all_goals exact (by refine swR [0,1,2,3,4,5,6,7,8,9,10] [] rfl rfl ?_;(repeat' first|exact y82 _|exact z18 _|apply y83|refine z80 rfl (z7 (fun _=>rfl)) ?_|refine z16 rfl (z7 (fun _=>rfl)) ?_|constructor)<;>((refine z68 ?_;exact e1)))
    ·rw [if_neg hp0] at hs2
     repeat' ((first|(apply y4 ok;rfl)|(apply z37;kernel_rfl)|(refine z21 (i:=k) rfl gk ?_)|(refine z21 (i:=w) rfl gw1 ?_)|(refine z21 (i:=w) rfl gw3 ?_)|(apply y39;first|omega|(unfold inI;omega))|(((apply z15;omega));intro _)|((apply z8)<;>intro _))<;>conv=>whnf)
     all_goals try (exfalso;omega)
     all_goals refine z44 (k+1) hk2 (by omega) ?_
     all_goals dsimp only
     all_goals rw [hS2,hs2]
     all_goals exact (by refine swR [0,1,2,3,4,5,6,7,8,9,10] [] rfl rfl ?_;(repeat' first|exact y82 _|exact z18 _|apply y83|refine z16 rfl (z7 (fun _=>rfl)) ?_|constructor))
  ·obtain rfl:k=row.length:=by omega
   have hpf:=hL.pref
   have hsu:u ∉ s.stk:=fun hm=>((hI.stk u).1 hm).1 h0
   have hnd:=hLI.nd
   have hpp:(T row.length).prt≤100001:=by have h1:=hL.prt;have h2:=hLI.ct;have h3:=hI.ct;have h4:=hL.cnt;omega
   generalize hS:T row.length=S at *
   unfold tEnd at hTn
   by_cases he:S.low u=S.num u
   ·rw [if_pos he] at hTn
    obtain ⟨B,hB⟩:=hpf
    have hcut:=z889 (A:=s.stk) (B:=B) hsu
    have hLl:S.stk.length=s.stk.length+1+B.length:=by rw [hB];simp;omega
    have hLs:S.stk.length≤100000:=by
     have:=z219 rows.length (natL S.stk) ?_ ?_
     ·rw [z468] at this;omega
     ·exact hnd.map _ fun a b h=>by omega
     ·intro x hx
      obtain ⟨y,hy,rfl⟩:=List.mem_map.1 hx
      have:=hLI.lt y ((hLI.stk y).1 hy).1
      omega
    have r1:R.stk=S.stk.take s.stk.length:=by
     rw [hTn];show S.stk.takeWhile _=_
     rw [hB,hcut.1];simp
    have r2:R.part=fun x=>if x∈S.stk.drop s.stk.length then (S.prt:Int) else S.part x:=by
     rw [hTn];show (fun x=>if x∈S.stk.dropWhile _ then _ else _)=_
     rw [hB,hcut.2];simp
    have r3:R.num=S.num:=by rw [hTn];rfl
    have r4:R.low=S.low:=by rw [hTn];rfl
    have r5:R.cnt=S.cnt:=by rw [hTn];rfl
    have r6:R.prt=S.prt+1:=by rw [hTn];rfl
    have hat:∀ j (hj:j < S.stk.length),(S.stk[j]=u↔j=s.stk.length):=by
     intro j hj
     have hu2:S.stk[s.stk.length]'(by omega)=u:=by simp [hB]
     constructor
     ·intro e
      have hne:=List.pairwise_iff_getElem.1 (List.nodup_iff_pairwise_ne.1 hnd)
      rcases Nat.lt_trichotomy j s.stk.length with h|h|h
      ·exact absurd (e.trans hu2.symm) (hne j s.stk.length hj (by omega) h)
      ·exact h
      ·exact absurd (hu2.trans e.symm) (hne s.stk.length j (by omega) hj h)
     ·rintro rfl;exact hu2
    have hlt:∀ j (hj:j < S.stk.length),S.stk[j] < rows.length:=fun j hj=>hLI.lt _ ((hLI.stk _).1 (y40 hj)).1
    have sl:=z468 S.stk
    repeat' ((first|((fail_if_success apply z114 14);(fail_if_success apply z96 14);apply y4 ok;rfl)|(apply z37;kernel_rfl)|(refine z21 (i:=u) rfl gu1 ?_)|(refine z21 (i:=u) rfl gu2 ?_)|(apply y39;omega)|((first|(with_reducible apply z15;omega)|(apply z15;omega));intro _)|((apply z8)<;>intro _))<;>conv=>whnf)
    all_goals try (exfalso;omega)
    refine y81 (Gl.Reach.expose 5 0 0 rfl rfl rfl (z168 (fun _=>rfl) _) rfl) ?_
    obtain ⟨pm,hpm⟩:∃ pm:Nat→Nat→Int,pm=fun m x=>if x∈S.stk.drop m then (S.prt:Int) else S.part x:=⟨_,rfl⟩
    have hpm0:pm S.stk.length=S.part:=by rw [hpm];funext x;simp
    have hpmE:pm s.stk.length=R.part:=by rw [hpm,r2]
    have hpmS:∀ m (hm:m < S.stk.length),pm m=upd (pm (m+1)) S.stk[m] S.prt:=by
     intro m hm
     funext x
     by_cases hx:x=S.stk[m]
     ·rw [hx,z31,hpm]
      dsimp only
      rw [if_pos]
      rw [y76 hm]
      exact List.mem_cons_self
     ·rw [z56 _ _ hx,hpm]
      dsimp only
      rw [y76 hm]
      simp only [List.mem_cons,hx,false_or]
    clear hpm
    refine z92 (fun m:Nat=>([(0,.int (u:Int)),(1,.ptr 0 none 0),(2,.ptr 1 none 0),(3,.ptr 3 none 0),(4,.ptr 5 none 0),(5,.ptr 6 none 0),(6,.ptr 7 none 0),(7,.ptr 8 none 0),(8,.ptr 10 none 0),(12,.int ((natL S.stk).getD m (-1)))],[.cells 1 [[.int S.cnt]],.cells 1 [[.sref 2 0 rows.length]],.cells 1 ((fnL rows.length S.num).map enI),.cells 1 [[.sref 4 0 rows.length]],.cells 1 ((fnL rows.length S.low).map enI),.cells 1 [[.sref 11 0 m]],.cells 1 [[lst 1 encL rows]],.cells 1 [[visF]],.cells 1 [[.sref 9 0 rows.length]],.cells 1 ((fnL rows.length (pm m)).map enI),.cells 1 [[.int S.prt]],.cells 1 ((natL S.stk).map enI)])) (fun m=>s.stk.length≤m∧m≤S.stk.length) (fun m=>m) S.stk.length ⟨by omega,y48 _⟩ (by refine swR [0,1,2,3,4,5,6,7,8,9,10,11] [] rfl rfl ?_;(repeat' first|exact y82 _|exact z18 _|(refine z72 ?_;((simp;omega)))|apply y83|refine z16 rfl (z7 (fun _=>rfl)) ?_|constructor)<;>(first|(rw [hpm0];exact z18 _)|(refine z152 ?_;simp [natL]))) ?_
    rintro m ⟨hm1,hm2⟩
    by_cases hm:m=s.stk.length
    ·subst hm
     have htop:(natL S.stk).getD s.stk.length (-1)=(u:Int):=by
      rw [z13 (by rw [sl];omega)]
      unfold natL
      rw [List.getElem_map,(hat _ (by omega)).2 rfl]
     rw [htop]
     repeat' ((first|((fail_if_success apply z114 18);(fail_if_success apply z96 18);apply y4 ok;rfl)|(apply y39;omega)|(((apply z15;omega));intro _)|((apply z41)<;>intro _))<;>conv=>whnf)
     all_goals try (exfalso;omega)
     refine y81 (Gl.Reach.trunc 11 s.stk.length rfl rfl) ?_
     refine y81 (Gl.Reach.absorb 5 11 0 0 rfl rfl rfl rfl (by simp [natL];omega) rfl (fun e he=>(z7 (fun _=>rfl)) e (List.mem_of_mem_take he)) rfl) ?_
     conv=>whnf
     repeat' ((first|(apply y4 ok;rfl)|(apply y39;(unfold inI;omega)))<;>conv=>whnf)
     have eR:z1096 rows R=[.cells 1 [[.int S.cnt]],.cells 1 [[.sref 2 0 rows.length]],.cells 1 ((fnL rows.length S.num).map enI),.cells 1 [[.sref 4 0 rows.length]],.cells 1 ((fnL rows.length S.low).map enI),.cells 1 [[.own 1 (((natL S.stk).map enI).take s.stk.length)]],.cells 1 [[lst 1 encL rows]],.cells 1 [[visF]],.cells 1 [[.sref 9 0 rows.length]],.cells 1 ((fnL rows.length (pm s.stk.length)).map enI),.cells 1 [[.int ((S.prt+1:Nat):Int)]]]:=by
      unfold z1096
      rw [r1,r3,r4,r5,r6,hpmE]
      simp [natL,List.map_take]
     rw [eR]
     (refine rsD [0,1,2,3,4,5,6,7,8,9,10] [] rfl ?_;(repeat' first|exact y82 _|exact z18 _|apply y83|refine z16 rfl (z7 (fun _=>rfl)) ?_|constructor))
    ·obtain ⟨m,rfl⟩:∃ m',m=m'+1:=⟨m - 1,by omega⟩
     have hmL:m < S.stk.length:=by omega
     have htop:(natL S.stk).getD (m+1) (-1)≠(u:Int):=by
      by_cases h:m+1 < S.stk.length
      ·rw [z13 (by rw [sl];exact h)]
       unfold natL
       rw [List.getElem_map]
       have:=(hat (m+1) h)
       omega
      ·rw [y64,y65 (by rw [sl];omega)]
       show (-1:Int)≠u
       omega
     have hnx:(natL S.stk).getD m (-1)=((S.stk[m]:Nat):Int):=by
      rw [z13 (by rw [sl];exact hmL)]
      unfold natL
      rw [List.getElem_map]
     have gst:=natL_at hmL
     have hwN:=hlt m hmL
     have hps:=hpmS m hmL
     generalize S.stk[m]=w at *
     have gw:=z185 (pm (m+1)) hwN
     have e1:=z170 (N:=rows.length) (u:=w) (pm (m+1)) S.prt
     rw [← hps] at e1
     generalize (natL S.stk).getD (m+1) (-1)=tp at *
     repeat' ((first|(apply y4 ok;rfl)|(refine z21 (i:=m) ?_ gst ?_;(focus (omega)))|(refine z21 (i:=w) rfl gw ?_)|(apply y39;first|omega|(unfold inI;omega))|((apply z41)<;>intro _))<;>conv=>whnf)
     all_goals try (exfalso;omega)
     all_goals refine z44 m ⟨by omega,by omega⟩ (by omega) ?_
     all_goals dsimp only
     all_goals rw [hnx]
     all_goals exact (by refine swR [0,1,2,3,4,5,6,7,8,9,10,11] [] rfl rfl ?_;(repeat' first|exact y82 _|exact z18 _|(refine z72 ?_;(omega))|apply y83|refine z80 rfl (z7 (fun _=>rfl)) ?_|refine z16 rfl (z7 (fun _=>rfl)) ?_|constructor)<;>((refine z68 ?_;exact e1)))
   ·rw [if_neg he] at hTn
    subst hTn
    repeat' ((first|(apply y4 ok;rfl)|(apply z37;kernel_rfl)|(refine z21 (i:=u) rfl gu1 ?_)|(refine z21 (i:=u) rfl gu2 ?_)|(apply y39;omega)|((first|(with_reducible apply z15;omega)|(apply z15;omega));intro _)|((apply z8)<;>intro _))<;>conv=>whnf)
    all_goals try (exfalso;omega)
    all_goals (refine rsD [0,1,2,3,4,5,6,7,8,9,10] [] rfl ?_;(repeat' first|exact y82 _|exact z18 _|apply y83|refine z16 rfl (z7 (fun _=>rfl)) ?_|constructor))
@[reducible] def subF:AC:=.fn (.func 244) [] [.ptr 0 none 0,.ptr 1 none 0]
@[reducible] def objsS (o:List Tree):List AObj:=[.cells 1 [[subF]],.cells 1 [[.own 3 (o.map Tree.cs')]]]
set_option maxHeartbeats 6400000 in
theorem z805 (t:Tree):t.sz≤1000→∀ (o:List Tree),o.length+t.sz≤2000→(∀ x∈o,x.sz≤1000)→CallsA Tryz.prog 244 [z40 Tree.cs' t,.ptr 0 none 0,.ptr 1 none 0] (objsS o) (.tup []) (objsS (t.subs o)):=by
 induction t using y25 with|h t ih=>?_
 intro hs o ho hm
 have hsz:=y34 t
 have hkid:∀ k (h:k < t.kids.length),t.kids[k].sz≤1000:=fun k h=>by have:=z385 Tree.sz (y40 h);omega
 have hpre:∀ k,k≤t.kids.length→(Tree.subss (t.kids.take k) o).length≤o.length+((t.kids.take k).map fun u=>u.sz+1).sum∧∀ x∈Tree.subss (t.kids.take k) o,x.sz≤1000:=by
  intro k
  induction k with
  |zero=>intro _;exact ⟨by simp [Tree.subss],hm⟩
  |succ k ihk =>
   intro hk
   obtain ⟨a1,a2⟩:=ihk (by omega)
   obtain ⟨_,_,_,b4,b5,_⟩:=z309 t.kids[k] (Tree.subss (t.kids.take k) o)
   rw [y33 (by omega)]
   refine ⟨?_,fun x hx=>?_⟩
   ·rw [y46 (by omega),y60,List.sum_append]
    simp only [List.map_cons,List.map_nil,List.sum_cons,List.sum_nil]
    omega
   ·rcases b5 x hx with h|h
    ·exact a2 x h
    ·have:=hkid k (by omega);omega
 have hsum:∀ k,k≤t.kids.length→((t.kids.take k).map fun u=>u.sz+1).sum≤t.sz:=fun k hk=>by
  have h1:∀ l:List Tree,(l.map fun u=>u.sz+1).sum=l.length+(l.map Tree.sz).sum:=by
   intro l
   induction l with
   |nil=>rfl
   |cons a l ih=>simp only [List.map_cons,List.sum_cons,y54,ih];omega
  have h2:=z802 Tree.sz t.kids k
  rw [h1,y44];omega
 rw [y31]
 have hl5:t.kids.length≤1000:=by omega
 have hfs:(∀ x∈Tree.subss t.kids o,x.sz≤1000):=by have:=(hpre t.kids.length (y48 _)).2;rwa [y52] at this
 have hfl:(Tree.subss t.kids o).length≤2000:=by have h1:=(hpre t.kids.length (y48 _)).1;have h2:=hsum t.kids.length (y48 _);rw [y52] at h1 h2;omega
 have cF:=z297 (Tree.subss t.kids o) (by omega) (fun x hx=>z132 x (by have:=hfs x hx;unfold maxLen;omega)) t (z132 t (by unfold maxLen;omega))
 have cC:=z673 t (by omega)
 have hidx:=z261 (fun x=>decide (x=t)) (Tree.subss t.kids o)
 have et:=y15 t
 rw [et]
 refine z10 z19 Tryz.func244 rfl rfl 28 Tryz.ntmps244 (by simp) ?_
 repeat' (((apply y4 ok;rfl))<;>conv=>whnf)
 refine z92 (fun x:Nat×List Tree=>([(1,.ptr 0 none 0),(2,.ptr 1 none 0),(3,.ptr 2 none 0),(7,lst 3 Tree.cs' t.kids),(8,.int t.kids.length),(9,.int x.1)],[.cells 1 [[subF]],.cells 1 [[.own 3 (x.2.map Tree.cs')]],.cells 3 [[.int t.kind,.int t.val,lst 3 Tree.cs' t.kids]]])) (fun x=>x.1≤t.kids.length∧Tree.subss (t.kids.take x.1) o=x.2) (fun x=>t.kids.length - x.1) (0,o) ⟨y49 _,by simp [Tree.subss]⟩ (by refine swR [0,1,2] [] rfl rfl ?_;(repeat' first|exact y82 _|apply y83|constructor)) ?_
 rintro ⟨i,q⟩ ⟨hi,hq⟩
 dsimp only at hi hq ⊢
 obtain ⟨p1,p2⟩:=hpre i hi
 have p3:=hsum i hi
 rw [hq] at p1 p2
 have hql:q.length≤2000:=by omega
 by_cases hil:i < t.kids.length
 ·have ci:=ih t.kids[i] (y40 _) (hkid i hil) q (by
   have h1:=hsum (i+1) (by omega)
   rw [y46 hil,y60,List.sum_append] at h1
   simp only [List.map_cons,List.map_nil,List.sum_cons,List.sum_nil] at h1
   omega) p2
  have ht:=y33 hil o
  rw [hq] at ht
  have gk:(t.kids.map Tree.cs')[i]?=some (Tree.cs' t.kids[i]):=by rw [y47,y41 hil];rfl
  clear ih cF hidx
  generalize t.kids[i]=u at *
  generalize u.subs q=q' at *
  repeat' ((first|(apply y4 ok;rfl)|(refine z21 (i:=i) rfl gk ?_)|(apply y39;first|omega|(unfold inI;omega))|((apply z8)<;>intro _)|(apply z29 [0,1] [] ci;rfl;rfl;rfl))<;>conv=>whnf)
  all_goals try (exfalso;omega)
  all_goals refine z44 (i+1,q') ⟨by show i+1≤_;omega,ht⟩ (by show t.kids.length - (i+1) < t.kids.length - i;omega) (by refine swR [0,1,2] [] rfl rfl ?_;(repeat' first|exact y82 _|apply y83|constructor))
 ·obtain rfl:i=t.kids.length:=by omega
  rw [y52] at hq
  rw [hq] at cF hidx ⊢
  unfold addT
  refine y81 (Gl.Reach.expose 1 0 0 rfl rfl rfl (z168 (fun _=>rfl) _) rfl) ?_
  refine y81 (show Gl.Reach _ _ (mkSt _ [(1,.ptr 0 none 0),(2,.ptr 1 none 0),(3,.ptr 2 none 0),(7,lst 3 Tree.cs' t.kids),(8,.int t.kids.length),(9,.int t.kids.length)] [.cells 1 [[subF]],.cells 1 [[.sref 3 0 q.length]],.cells 3 [[.int t.kind,.int t.val,lst 3 Tree.cs' t.kids]],.cells 3 (q.map Tree.cs')]) from (by refine swR [0,1,2,3] [] rfl rfl ?_;(repeat' first|exact y82 _|exact z18 _|(refine z72 ?_;((simp;done)))|apply y83|refine z16 rfl (z7 (fun _=>rfl)) ?_|constructor))) ?_
  by_cases hin:t∈q
  ·rw [if_pos hin]
   have hx:0≤idxF (fun x=>decide (x=t)) q:=by
    rw [List.any_eq_true.2 ⟨t,hin,by simp⟩] at hidx
    exact of_decide_eq_true hidx
   generalize idxF (fun x=>decide (x=t)) q=z at *
   rw [et] at cF
   repeat' ((first|(apply y4 ok;rfl)|(apply y39;omega)|(((with_reducible apply z15;omega));intro _)|((apply z8)<;>intro _)|(apply z112 [] [3] [] cF;(focus (exact z55 (z195 rfl rfl rfl (by simp) (z38 (fun _=>rfl) _)) (z55 rfl z84)));rfl;rfl;(focus ((repeat' exact z17)<;>fail));((refine .inr ⟨rfl,?_⟩;repeat' exact True.intro))))<;>conv=>whnf)
   all_goals try (exfalso;omega)
   all_goals
    refine Gl.RetS.absorb 1 3 0 0 rfl rfl rfl rfl (by simp) rfl (z7 (fun _=>rfl)) ?_
    conv=>whnf
    (refine rsD [0,1] [] rfl ?_;(repeat' first|exact y82 _|apply y83|constructor))
  ·rw [if_neg hin]
   have hx:¬ 0≤idxF (fun x=>decide (x=t)) q:=fun h=>by
    rw [y78 h] at hidx
    obtain ⟨x,h1,h2⟩:=List.any_eq_true.1 hidx.symm
    rw [of_decide_eq_true h2] at h1
    exact hin h1
   generalize idxF (fun x=>decide (x=t)) q=z at *
   rw [et] at cF cC
   have gz:(List.take q.length (List.map Tree.cs' q)++[[AC.raw (Value.int IntKind.i64 0),AC.raw (Value.int IntKind.i64 0),AC.raw (Value.slice none 0 0)]])[q.length]?=some [AC.raw (Value.int IntKind.i64 0),AC.raw (Value.int IntKind.i64 0),AC.raw (Value.slice none 0 0)]:=by
    rw [y53 (by simp),y63 (by simp)];simp
   have e2:((List.take q.length (List.map Tree.cs' q)++[[AC.raw (Value.int IntKind.i64 0),AC.raw (Value.int IntKind.i64 0),AC.raw (Value.slice none 0 0)]]).set q.length (Tree.cs' t))=(q++[t]).map Tree.cs':=by
    rw [y53 (by simp),List.set_append_right _ _ (by simp)];simp
   have ec:Tree.cs' t=[.int t.kind,.int t.val,lst 3 Tree.cs' t.kids]:=AC.agg.inj et
   rw [ec] at e2
   repeat' ((first|(apply y4 ok;rfl)|(apply z37;kernel_rfl)|(refine z21 (i:=q.length) rfl gz ?_)|(apply y39;first|omega|((try dsimp only);simp only [y45,y44,y43,y42,y54,y55];omega)|exact ⟨rfl,z25 rfl z32⟩)|(((with_reducible apply z15;omega));intro _)|((apply z8)<;>intro _)|(apply z6 (cC);rfl;rfl)|(apply z112 [] [3] [] cF;(focus (exact z55 (z195 rfl rfl rfl (by simp) (z38 (fun _=>rfl) _)) (z55 rfl z84)));rfl;rfl;(focus ((repeat' exact z17)<;>fail));((refine .inr ⟨rfl,?_⟩;repeat' exact True.intro))))<;>conv=>whnf)
   all_goals try (exfalso;omega)
   all_goals
    refine Gl.RetS.absorb 1 5 0 0 rfl rfl rfl rfl (by simp) rfl (z396 (by simp) (fun e he=>(z7 (fun _=>rfl)) e (List.mem_of_mem_take he)) rfl) ?_
    conv=>whnf
    (refine rsD [0,1] [] rfl ?_;(repeat' first|exact y82 _|apply y83|constructor))
    all_goals exact y9 (congrArg (AC.own 3) e2)
theorem z804 (t:Tree) (hs:t.sz≤1000):CallsA Tryz.prog 228 [z40 Tree.cs' t] [] (.sref 0 0 (t.subs []).length) [.cells 3 ((t.subs []).map Tree.cs')]:=by
 have cV:=z805 t hs [] (by simp;omega) (fun x hx=>by cases hx)
 have hl:=(z309 t []).2.2.2.1
 simp only [y55,Nat.zero_add] at hl
 generalize t.subs []=L at *
 have cC:=z536 L (by omega)
 rw [y15 t] at *
 refine z10 z19 Tryz.func228 rfl rfl 11 Tryz.ntmps228 (by simp) ?_
 repeat' ((((fail_if_success apply z114 4);(fail_if_success apply z96 4);apply y4 ok;rfl))<;>conv=>whnf)
 refine y81 (show Gl.Reach _ _ (mkSt _ [(1,.ptr 0 none 0),(3,.ptr 1 none 0),(4,.ptr 2 none 0)] [.cells 3 [[.int t.kind,.int t.val,lst 3 Tree.cs' t.kids]],.cells 1 [[.own 3 []]],.cells 1 [[.fn (.func 244) [] [.ptr 2 none 0,.ptr 1 none 0]]]]) from (by refine swR [0,1,2] [] rfl rfl ?_;(repeat' first|exact y82 _|apply y83|constructor)<;>(exact z380))) ?_
 repeat' ((first|((fail_if_success apply z114 5);(fail_if_success apply z96 5);apply y4 ok;rfl)|(apply z29 [2,1] [] cV;rfl;rfl;rfl))<;>conv=>whnf)
 refine y81 (Gl.Reach.expose 1 0 0 rfl rfl rfl (z168 (fun _=>rfl) _) rfl) ?_
 refine y81 (show Gl.Reach _ _ (mkSt _ [(3,.ptr 1 none 0)] [.cells 3 [[.int t.kind,.int t.val,lst 3 Tree.cs' t.kids]],.cells 1 [[.sref 2 0 L.length]],.cells 3 (L.map Tree.cs')]) from (by refine swR [0,1,3] [] rfl rfl ?_;(repeat' first|exact y82 _|exact z18 _|(refine z72 ?_;((simp;done)))|apply y83|refine z16 rfl (z7 (fun _=>rfl)) ?_|constructor))) ?_
 repeat' ((first|(apply y4 ok;rfl)|(apply z181 [2] [] cC;rfl;(focus ((repeat' first|exact z43|apply z64)<;>(refine z88 rfl ?_;((exact z7 fun _=>rfl)))));rfl;(focus ((repeat' first|exact z17|apply z14)<;>(refine z23 ?_;((exact z7 fun _=>rfl)))))))<;>conv=>whnf)
 all_goals (refine rsD [2] [] rfl ?_;(repeat' first|exact y82 _|exact z18 _|refine z16 rfl (z7 (fun _=>rfl)) ?_|constructor))
structure BasL (B:List Tree):Prop where
 len:B.length≤5
 nd:B.Nodup
 sz:∀ x∈B,x.sz≤1000
 cl:∀ x∈B,In (·∈B) x
 bk:∀ x∈B,z107 x=true
 av:∀ v,Tree.mk 2 v []∈B→0≤v∧v≤2
theorem BasL.mx {B:List Tree} (h:BasL B):∀ x∈B,x.mx:=fun x hx=>z132 x (by have:=h.sz x hx;unfold maxLen;omega)
set_option maxHeartbeats 3200000 in
theorem z563 (u:Tree) (hs:u.sz≤1000):CallsA Tryz.prog 199 [z40 Tree.cs' u] [] (.sref 0 0 (bscL u).length) [.cells 3 ((bscL u).map Tree.cs')]:=by
 have cS:=z804 u hs
 obtain ⟨_,_,_,hl,hz2,_⟩:=z309 u []
 simp only [y55,Nat.zero_add] at hl
 unfold bscL
 generalize u.subs []=L at *
 rw [y15 u] at *
 refine z10 z19 Tryz.func199 rfl rfl 38 Tryz.ntmps199 (by simp) ?_
 repeat' ((first|(apply y4 ok;rfl)|(apply z11 [] [1] cS;rfl;rfl;rfl;(focus ((repeat' first|exact z17|apply z14)<;>(refine z23 ?_;((exact z7 fun _=>rfl)))))))<;>conv=>whnf)
 refine y81 (y84 3 rfl) ?_
 refine z92 (fun x:Nat×List Tree=>([(3,.sref 0 0 x.2.length),(7,.sref 1 0 L.length),(8,.int L.length),(9,.int x.1)],[.cells 3 (x.2.map Tree.cs'),.cells 3 (L.map Tree.cs')])) (fun x=>x.1≤L.length∧(L.take x.1).filter z107=x.2) (fun x=>L.length - x.1) (0,[]) ⟨y49 _,rfl⟩ (by refine swR [2,1] [] rfl rfl ?_;(repeat' first|exact y82 _|exact z57|exact z18 _|((refine z16 rfl ?_ ?_);(focus ((repeat' (first|exact z36|exact z7 (fun _=>rfl)));done)))|constructor)) ?_
 rintro ⟨k,O⟩ ⟨hk,hO⟩
 dsimp only at hk hO ⊢
 have hOl:O.length≤L.length:=by
  rw [← hO]
  have:=List.length_filter_le z107 (L.take k)
  rw [y44] at this
  omega
 by_cases hkl:k < L.length
 ·have gk:(L.map Tree.cs')[k]?=some (Tree.cs' L[k]):=by rw [y47,y41 hkl];rfl
  have ht:(L.take (k+1)).filter z107=O++(if z107 L[k]=true then [L[k]] else []):=by
   rw [y46 hkl,List.filter_append,hO]
   congr 1
   by_cases hb:z107 L[k]=true
   ·rw [if_pos hb,List.filter_cons_of_pos hb];rfl
   ·rw [if_neg hb,List.filter_cons_of_neg hb];rfl
  generalize L[k]=y at *
  by_cases hy:z107 y=true
  ·rw [if_pos hy] at ht
   have hy:=of_decide_eq_true (show decide _=true from hy)
   repeat' ((first|(apply y4 ok;rfl)|(refine z21 (i:=k) rfl gk ?_)|(apply y39;first|omega|(unfold inI;omega)|((try dsimp only);simp only [y45,y44,y43,y42,y54,y55];omega)|exact ⟨rfl,z25 rfl z32⟩)|((apply z8)<;>intro _))<;>conv=>whnf)
   all_goals try (exfalso;omega)
   all_goals refine z44 (k+1,O++[y]) ⟨by show k+1≤_;omega,ht⟩ (by show L.length - (k+1) < L.length - k;omega) (by refine swR [4,1] [] rfl rfl ?_;(repeat' first|exact y82 _|exact z18 _|(refine z72 ?_;((simp;done)))|((first|refine z47 rfl ?_ ?_|refine z16 rfl ?_ ?_);(focus ((repeat' (first|exact z7 (fun _=>rfl)|apply z33));done)))|(refine z100 ?_ ?_;(focus (omega)))|constructor))
  ·rw [if_neg hy,y61] at ht
   have hy:=of_decide_eq_false (show decide _=false from (y68 _).mp hy)
   repeat' ((first|(apply y4 ok;rfl)|(refine z21 (i:=k) rfl gk ?_)|(apply y39;first|omega|(unfold inI;omega))|((apply z8)<;>intro _))<;>conv=>whnf)
   all_goals try (exfalso;omega)
   all_goals refine z44 (k+1,O) ⟨by show k+1≤_;omega,ht⟩ (by show L.length - (k+1) < L.length - k;omega) (by refine swR [0,1] [] rfl rfl ?_;(repeat' first|exact y82 _|exact z18 _|refine z16 rfl (z7 (fun _=>rfl)) ?_|constructor))
 ·obtain rfl:k=L.length:=by omega
  rw [y52] at hO
  rw [hO]
  have cC:=z536 O (by omega)
  repeat' ((first|(apply y4 ok;rfl)|(apply y39;omega)|(((apply z15;omega));intro _)|((apply z8)<;>intro _)|(apply z181 [0] [] cC;rfl;(focus ((repeat' first|exact z43|apply z64)<;>(refine z88 rfl ?_;((exact z7 fun _=>rfl)))));rfl;(focus ((repeat' first|exact z17|apply z14)<;>(refine z23 ?_;((exact z7 fun _=>rfl)))))))<;>conv=>whnf)
  all_goals try (exfalso;omega)
  all_goals (refine rsD [0] [] rfl ?_;(repeat' first|exact y82 _|exact z18 _|refine z16 rfl (z7 (fun _=>rfl)) ?_|constructor))
theorem z665 (t:Tree) (hs:t.sz≤200):CallsA Tryz.prog 141 [z40 Tree.cs' t] [] (.tup [lst 3 Tree.cs' (if bscB t then bscL (t.nrm false) else []),.bool (bscB t)]) []:=by
 have cn:=z1129 t (by omega)
 unfold bscB
 by_cases h:t.fmB=true∧(t.nrm false).fmB=true
 ·rw [if_pos h,y78 h] at cn
  have hz:=y27 t (y22 h.1) false
  have hd:decide ((t.fmB=true∧(t.nrm false).fmB=true)∧(bscL (t.nrm false)).length≤5)=decide ((bscL (t.nrm false)).length≤5):=by
   rw [decide_eq_decide];exact ⟨fun h=>h.2,fun h2=>⟨h,h2⟩⟩
  rw [hd]
  clear hd h
  generalize t.nrm false=u at *
  have cB:=z563 u (by omega)
  generalize bscL u=O at *
  rw [y15 u] at cn cB
  by_cases h5:O.length≤5
  ·rw [y78 h5,if_pos rfl]
   refine z10 z19 Tryz.func141 rfl rfl 20 Tryz.ntmps141 (by simp) ?_
   repeat' ((first|(apply y4 ok;rfl)|((apply z8)<;>intro _)|(apply z6 (cn);rfl;rfl)|(apply z11 [] [2] cB;rfl;rfl;rfl;(focus ((repeat' first|exact z17|apply z14)<;>(refine z23 ?_;((exact z7 fun _=>rfl)))))))<;>conv=>whnf)
   all_goals try (exfalso;omega)
   all_goals (refine rsD [] [2] rfl ?_;(repeat' first|exact y82 _|((apply z48 rfl rfl rfl);(focus ((repeat ((exact z38 (fun _=>rfl) _)));done));(focus (((simp;done));done)))|apply z113|constructor))
  ·rw [y79 h5,if_neg (by simp)]
   refine z10 z19 Tryz.func141 rfl rfl 20 Tryz.ntmps141 (by simp) ?_
   repeat' ((first|(apply y4 ok;rfl)|((apply z8)<;>intro _)|(apply z6 (cn);rfl;rfl)|(apply z11 [] [2] cB;rfl;rfl;rfl;(focus ((repeat' first|exact z17|apply z14)<;>(refine z23 ?_;((exact z7 fun _=>rfl)))))))<;>conv=>whnf)
   all_goals try (exfalso;omega)
   all_goals (refine rsD [] [] rfl ?_;(repeat' first|exact y82 _|exact z52|apply z113|constructor))
 ·rw [if_neg h,y79 h] at cn
  have hd:decide ((t.fmB=true∧(t.nrm false).fmB=true)∧(bscL (t.nrm false)).length≤5)=false:=y79 fun h2=>h h2.1
  rw [hd,if_neg (by simp)]
  refine z10 z19 Tryz.func141 rfl rfl 20 Tryz.ntmps141 (by simp) ?_
  repeat' ((first|(apply y4 ok;rfl)|(apply z6 (cn);rfl;rfl))<;>conv=>whnf)
  all_goals (refine rsD [] [] rfl ?_;(repeat' first|exact y82 _|exact z52|apply z113|constructor))
theorem csU (k v:Int) (a:Tree):Tree.cs' (.mk k v [a])=[.int k,.int v,.list 3 1 [Tree.cs' a]]:=AC.agg.inj (argU k v a)
theorem csB2 (k v:Int) (a b:Tree):Tree.cs' (.mk k v [a,b])=[.int k,.int v,.list 3 2 [Tree.cs' a,Tree.cs' b]]:=AC.agg.inj (argB k v a b)
inductive FormB (B:List Tree):Tree→Prop
 |at (v:Int):FormB B (.mk 2 v [])
 |nx (a:Tree) (ha:In (·∈B) a) (sa:a.sz≤1000):FormB B (.mk 6 0 [a])
 |un (a b:Tree) (ha:In (·∈B) a) (hb:In (·∈B) b) (sa:a.sz≤1000) (sb:b.sz≤1000):FormB B (.mk 7 0 [a,b])
 |re (a b:Tree) (ha:In (·∈B) a) (hb:In (·∈B) b) (sa:a.sz≤1000) (sb:b.sz≤1000):FormB B (.mk 8 0 [a,b])
theorem BasL.form {B:List Tree} (h:BasL B) {x:Tree} (hx:x∈B):FormB B x:=by
 have h1:=h.cl x hx
 have h2:=h.bk x hx
 have h3:=h.sz x hx
 cases h1 with
 |tr=>simp [z107,Tree.kind] at h2
 |«at» v _=>exact .at v
 |nt=>simp [z107,Tree.kind] at h2
 |na v _=>simp [z107,Tree.kind] at h2
 |an _ _=>simp [z107,Tree.kind] at h2
 |or _ _=>simp [z107,Tree.kind] at h2
 |nx _ ha=>rw [z362] at h3;exact .nx _ ha (by omega)
 |un _ ha hb=>rw [z433] at h3;exact .un _ _ ha hb (by omega) (by omega)
 |re _ ha hb=>rw [z433] at h3;exact .re _ _ ha hb (by omega) (by omega)
theorem z1142 {B:List Tree} {s t:Int} (h:∀ i,i < B.length→folI B s t i=true):folB B s t=true:=by
 unfold folB;rw [y75];exact fun i hi=>h i (List.mem_range.1 hi)
theorem z997 {B:List Tree} {s t:Int} {i:Nat} (hi:i < B.length) (h:folI B s t i=false):folB B s t=false:=by
 unfold folB;rw [List.all_eq_false];exact ⟨i,List.mem_range.2 hi,by rw [h];simp⟩
def untL (B:List Tree) (i:Nat):List Int:=((List.range i).filter fun i=>decide ((B.getD i dftT).kind=7)).map Int.ofNat
theorem z1047 (B:List Tree) (i:Nat):untL B (i+1)=untL B i++(if (B.getD i dftT).kind=7 then [(i:Int)] else []):=by
 unfold untL
 rw [y58,List.filter_append,y60]
 congr 1
 by_cases h:(B.getD i dftT).kind=7
 ·rw [if_pos h,List.filter_cons_of_pos (by simpa using h)];rfl
 ·rw [if_neg h,List.filter_cons_of_neg (by simpa using h)];rfl
theorem z458 (B:List Tree) (i:Nat):(untL B i).length≤i:=by
 unfold untL
 rw [y45]
 have:=List.length_filter_le (fun i=>decide ((B.getD i dftT).kind=7)) (List.range i)
 simpa using this
theorem z884 {B:List Tree} {x:Int} (h:x∈untB B):∃ u:Nat,x=u∧u < B.length∧(B.getD u dftT).kind=7:=by
 unfold untB at h
 obtain ⟨u,hu,rfl⟩:=List.mem_map.1 h
 obtain ⟨h1,h2⟩:=List.mem_filter.1 hu
 exact ⟨u,rfl,List.mem_range.1 h1,of_decide_eq_true h2⟩
theorem z762 {s:Int} {i:Nat} (s0:0≤s) (s1:s≤31) (hi:i≤5):0≤s / 2 ^ i∧s / 2 ^ i≤31:=by
 have:i=0∨i=1∨i=2∨i=3∨i=4∨i=5:=by omega
 rcases this with rfl|rfl|rfl|rfl|rfl|rfl<;>simp<;>omega
theorem div_bd2 {s a:Int} (s0:0≤s) (s1:s≤31) (h0:0≤a) (h1:a≤5):0≤s / 2 ^ a.toNat∧s / 2 ^ a.toNat≤31:=z762 s0 s1 (by omega)
set_option maxHeartbeats 3200000 in
theorem z263 (B:List Tree) (U:List Int) (hB:BasL B) (s:Int) (s0:0≤s) (s1:s≤31) (t:Tree) (h:In (·∈B) t):t.sz≤1000→CallsA Tryz.prog 143 [.pt [lst 3 Tree.cs' B,ints U],z40 Tree.cs' t,.int s] [] (.bool (vlB B s t)) []:=by
 have hl:=hB.len
 have basic:∀ t,t∈B→CallsA Tryz.prog 143 [.pt [lst 3 Tree.cs' B,ints U],z40 Tree.cs' t,.int s] [] (.bool (sgB B s t)) []:=fun t ht=>by
  have cF:=z297 B (by omega) hB.mx t (hB.mx t ht)
  have hp:=plc_mem ht
  have e:idxF (fun x=>decide (x=t)) B=plc B t:=rfl
  rw [e] at cF
  have hd:=div_bd2 s0 s1 hp.1 (show plc B t≤5 by omega)
  unfold sgB
  generalize plc B t=p at *
  rw [y15 t] at cF ⊢
  refine z10 z19 Tryz.func143 rfl rfl 69 Tryz.ntmps143 (by simp) ?_
  repeat' ((first|(apply y4 ok;rfl)|(apply z37;kernel_rfl)|(refine y39 (by unfold z215;omega) ?_)|(apply y39;omega)|(((with_reducible apply z154;omega));intro _)|((apply z8)<;>intro _)|(apply z6 (cF);rfl;rfl))<;>conv=>whnf)
  all_goals first|(exfalso;omega)|(refine rsD [] [] rfl ?_;(repeat' first|exact y82 _|constructor))
 have none:∀ t:Tree,t.sz≤1000→z107 t=false→CallsA Tryz.prog 201 [lst 3 Tree.cs' B,z40 Tree.cs' t] [] (.int (-1)) []:=fun t hs hb=>by
  have cF:=z297 B (by omega) hB.mx t (z132 t (by unfold maxLen;omega))
  have e:idxF (fun x=>decide (x=t)) B=-1:=z178 fun j hj=>y79 fun e=>by have:=hB.bk _ (y40 hj);rw [e,hb] at this;cases this
  rwa [e] at cF
 unfold vlB
 induction h with
 |tr =>
  intro hs
  have cn:=none (.mk 1 0 []) hs rfl
  rw [z611]
  refine z10 z19 Tryz.func143 rfl rfl 69 Tryz.ntmps143 (by simp) ?_
  repeat' ((first|(apply y4 ok;rfl)|(apply z37;kernel_rfl)|(apply z6 (cn);rfl;rfl))<;>conv=>whnf)
  all_goals (refine rsD [] [] rfl ?_;(repeat' first|exact y82 _|constructor))
 |«at» v hb=>intro _;rw [z549];exact basic _ hb
 |nt =>
  intro hs
  have cn:=none (.mk 3 0 [.mk 1 0 []]) hs rfl
  have cn2:=none (.mk 1 0 []) (by simp [z492]) rfl
  rw [z324,z611]
  have c1:CallsA Tryz.prog 143 [.pt [lst 3 Tree.cs' B,ints U],z40 Tree.cs' (.mk 1 0 []),.int s] [] (.bool true) []:=by
   refine z10 z19 Tryz.func143 rfl rfl 69 Tryz.ntmps143 (by simp) ?_
   repeat' ((first|(apply y4 ok;rfl)|(apply z37;kernel_rfl)|(apply z6 (cn2);rfl;rfl))<;>conv=>whnf)
   all_goals (refine rsD [] [] rfl ?_;(repeat' first|exact y82 _|constructor))
  rw [argU] at cn ⊢
  refine z10 z19 Tryz.func143 rfl rfl 69 Tryz.ntmps143 (by simp) ?_
  repeat' ((first|(apply y4 ok;rfl)|(apply z37;kernel_rfl)|(refine ⟨_,rfl,?_⟩)|(apply y39;omega)|(apply z6 (cn);rfl;rfl)|(apply z6 (c1);rfl;rfl))<;>conv=>whnf)
  all_goals (refine rsD [] [] rfl ?_;(repeat' first|exact y82 _|constructor))
 |na v hb =>
  intro hs
  have cn:=none (.mk 3 0 [.mk 2 v []]) hs rfl
  rw [z324,z549]
  have c1:=basic _ hb
  rw [argU] at cn ⊢
  refine z10 z19 Tryz.func143 rfl rfl 69 Tryz.ntmps143 (by simp) ?_
  repeat' ((first|(apply y4 ok;rfl)|(apply z37;kernel_rfl)|(refine ⟨_,rfl,?_⟩)|(apply y39;omega)|(apply z6 (cn);rfl;rfl)|(apply z6 (c1);rfl;rfl))<;>conv=>whnf)
  all_goals (refine rsD [] [] rfl ?_;(repeat' first|exact y82 _|constructor))
 |an _ _ iha ihb =>
  rename_i a b _ _
  intro hs
  have cn:=none (.mk 4 0 [a,b]) hs rfl
  rw [z433] at hs
  have ca:=iha (by omega)
  have cb:=ihb (by omega)
  rw [z686,argB]
  rw [argB] at cn
  generalize a.vl (sgB B s)=x at *
  generalize b.vl (sgB B s)=y at *
  cases x
  all_goals
   refine z10 z19 Tryz.func143 rfl rfl 69 Tryz.ntmps143 (by simp) ?_
   repeat' ((first|(apply y4 ok;rfl)|(apply z37;kernel_rfl)|(refine ⟨_,rfl,?_⟩)|(apply y39;omega)|(apply z6 (cn);rfl;rfl)|(apply z6 (ca);rfl;rfl)|(apply z6 (cb);rfl;rfl))<;>conv=>whnf)
   all_goals (refine rsD [] [] rfl ?_;(repeat' first|exact y82 _|constructor))
 |or _ _ iha ihb =>
  rename_i a b _ _
  intro hs
  have cn:=none (.mk 5 0 [a,b]) hs rfl
  rw [z433] at hs
  have ca:=iha (by omega)
  have cb:=ihb (by omega)
  rw [z1030,argB]
  rw [argB] at cn
  generalize a.vl (sgB B s)=x at *
  generalize b.vl (sgB B s)=y at *
  cases x
  all_goals
   refine z10 z19 Tryz.func143 rfl rfl 69 Tryz.ntmps143 (by simp) ?_
   repeat' ((first|(apply y4 ok;rfl)|(apply z37;kernel_rfl)|(refine ⟨_,rfl,?_⟩)|(apply y39;omega)|(apply z6 (cn);rfl;rfl)|(apply z6 (ca);rfl;rfl)|(apply z6 (cb);rfl;rfl))<;>conv=>whnf)
   all_goals (refine rsD [] [] rfl ?_;(repeat' first|exact y82 _|constructor))
 |nx hb _ _=>intro _;rw [z1031];exact basic _ hb
 |un hb _ _ _ _=>intro _;rw [z1028];exact basic _ hb
 |re hb _ _ _ _=>intro _;rw [z1029];exact basic _ hb
set_option maxHeartbeats 6400000 in
theorem z996 (B:List Tree) (U:List Int) (hB:BasL B) (s t:Int) (s0:0≤s) (s1:s≤31) (t0:0≤t) (t1:t≤31):CallsA Tryz.prog 203 [.pt [lst 3 Tree.cs' B,ints U],.int s,.int t] [] (.bool (folB B s t)) []:=by
 have hl:=hB.len
 refine z10 z19 Tryz.func203 rfl rfl 90 Tryz.ntmps203 (by simp) ?_
 repeat' (((apply y4 ok;rfl))<;>conv=>whnf)
 refine z92 (fun i:Nat=>([(0,.pt [lst 3 Tree.cs' B,ints U]),(1,.int s),(2,.int t),(15,lst 3 Tree.cs' B),(16,.int B.length),(17,.int i)],[])) (fun i=>i≤B.length∧∀ j,j < i→folI B s t j=true) (fun i=>B.length - i) 0 ⟨y49 _,fun j h=>absurd h (Nat.not_lt_zero _)⟩ (by refine swR [] [] rfl rfl ?_;(repeat' first|exact y82 _|constructor)) ?_
 rintro i ⟨hi,hj⟩
 by_cases hil:i < B.length
 ·have gk:(B.map Tree.cs')[i]?=some (Tree.cs' (B.getD i dftT)):=by rw [y47,y41 hil,z13 hil];rfl
  have hf:=hB.form (x:=B.getD i dftT) (by rw [z13 hil];exact y40 _)
  have d1:=z762 (i:=i) s0 s1 (by omega)
  have d2:=z762 (i:=i) t0 t1 (by omega)
  have hI:folI B s t i=(folV B s t (B.getD i dftT) (hasB s i) (hasB t i) == hasB s i):=rfl
  have hT:folI B s t i=true→∀ j,j < i+1→folI B s t j=true:=fun h j hji=>by
   rcases y66 j i with h3|h3
   ·exact hj j h3
   ·obtain rfl:j=i:=by omega
    exact h
  have hF:folI B s t i=false→folB B s t=false:=z997 hil
  rw [hI] at hT hF
  clear hI hj
  generalize B.getD i dftT=f at *
  repeat' ((first|((fail_if_success apply z114 5);(fail_if_success apply z96 5);apply y4 ok;rfl)|(apply z37;kernel_rfl)|(refine z21 (i:=i) rfl gk ?_)|(refine y39 (by unfold z215;(rw [y73];omega)) ?_)|(apply y39;omega)|((apply z8)<;>intro _))<;>conv=>whnf)
  all_goals try (exfalso;omega)
  refine y81 (show Gl.Reach _ _ (mkSt _ [(0,.pt [lst 3 Tree.cs' B,ints U]),(1,.int s),(2,.int t),(8,.ptr 0 none 0),(9,.bool (hasB s i)),(10,.bool (hasB t i)),(15,lst 3 Tree.cs' B),(16,.int B.length),(17,.int i)] [.cells 3 [Tree.cs' f]]) from (by refine swR [0] [] rfl rfl ?_;(repeat' first|exact y82 _|apply y83|constructor))) ?_
  generalize hasB s i=x at *
  generalize hasB t i=y at *
  cases hf with
  |«at» v =>
   have hT2:=hT (by simp [folV,Tree.kind])
   clear hT hF
   cases x
   all_goals
    repeat' ((first|(apply y4 ok;rfl)|(apply y39;(unfold inI;omega)))<;>conv=>whnf)
    all_goals refine z44 (i+1) ⟨by omega,hT2⟩ (by omega) (by refine swR [] [] rfl rfl ?_;(repeat' first|exact y82 _|constructor))
  |nx a ha sa =>
   have ca:=z263 B U hB t t0 t1 a ha sa
   have e:folV B s t (.mk 6 0 [a]) x y=vlB B t a:=by simp [folV,kidV,Tree.kind,Tree.kids]
   rw [e] at hT hF
   rw [csU]
   clear e
   generalize vlB B t a=z at *
   cases x<;>cases z
   all_goals first|have hT:=hT rfl|(have hF:=hF rfl;rw [hF])
   all_goals
    repeat' ((first|(apply y4 ok;rfl)|(refine ⟨_,rfl,?_⟩)|(apply y39;first|omega|(unfold inI;omega))|(apply z6 (ca);rfl;rfl))<;>conv=>whnf)
    all_goals first|(refine z44 (i+1) ⟨by omega,hT⟩ (by omega) (by refine swR [] [] rfl rfl ?_;(repeat' first|exact y82 _|constructor)))|(refine rsD [] [] rfl ?_;(repeat' first|exact y82 _|constructor))
  |un a b ha hb sa sb =>
   have ca:=z263 B U hB s s0 s1 a ha sa
   have cb:=z263 B U hB s s0 s1 b hb sb
   have e:folV B s t (.mk 7 0 [a,b]) x y=(vlB B s b || (vlB B s a && y)):=by simp [folV,kidV,Tree.kind,Tree.kids]
   rw [e] at hT hF
   rw [csB2]
   clear e
   generalize vlB B s a=z at *
   generalize vlB B s b=u at *
   cases x<;>cases y<;>cases z<;>cases u
   all_goals first|have hT:=hT rfl|(have hF:=hF rfl;rw [hF])
   all_goals
    repeat' ((first|(apply y4 ok;rfl)|(refine ⟨_,rfl,?_⟩)|(apply y39;first|omega|(unfold inI;omega))|(apply z6 (ca);rfl;rfl)|(apply z6 (cb);rfl;rfl))<;>conv=>whnf)
    all_goals first|(refine z44 (i+1) ⟨by omega,hT⟩ (by omega) (by refine swR [] [] rfl rfl ?_;(repeat' first|exact y82 _|constructor)))|(refine rsD [] [] rfl ?_;(repeat' first|exact y82 _|constructor))
  |re a b ha hb sa sb =>
   have ca:=z263 B U hB s s0 s1 a ha sa
   have cb:=z263 B U hB s s0 s1 b hb sb
   have e:folV B s t (.mk 8 0 [a,b]) x y=(vlB B s b && (vlB B s a || y)):=by simp [folV,kidV,Tree.kind,Tree.kids]
   rw [e] at hT hF
   rw [csB2]
   clear e
   generalize vlB B s a=z at *
   generalize vlB B s b=u at *
   cases x<;>cases y<;>cases z<;>cases u
   all_goals first|have hT:=hT rfl|(have hF:=hF rfl;rw [hF])
   all_goals
    repeat' ((first|(apply y4 ok;rfl)|(refine ⟨_,rfl,?_⟩)|(apply y39;first|omega|(unfold inI;omega))|(apply z6 (ca);rfl;rfl)|(apply z6 (cb);rfl;rfl))<;>conv=>whnf)
    all_goals first|(refine z44 (i+1) ⟨by omega,hT⟩ (by omega) (by refine swR [] [] rfl rfl ?_;(repeat' first|exact y82 _|constructor)))|(refine rsD [] [] rfl ?_;(repeat' first|exact y82 _|constructor))
 ·obtain rfl:i=B.length:=by omega
  rw [z1142 fun j hji=>hj j hji]
  repeat' ((first|(apply y4 ok;rfl)|(apply z37;kernel_rfl)|(apply y39;omega)|((first|(with_reducible apply z15;omega)|(with_reducible apply z154;omega));intro _)|((first|apply z8|apply z41|apply z110)<;>intro _))<;>conv=>whnf)
  all_goals first|(exfalso;omega)|(refine rsD [] [] rfl ?_;(repeat' first|exact y82 _|constructor))
theorem z598 (B:List Tree) (U:List Int) (hB:BasL B) (s:Int) (s0:0≤s) (s1:s≤31) (ph u:Nat) (hph:ph < U.length) (hUl:U.length≤100) (e:U.getD ph 0=u) (hu:u < B.length) (hk:(B.getD u dftT).kind=7):CallsA Tryz.prog 145 [.pt [lst 3 Tree.cs' B,ints U],.int s,.int ph] [] (.bool (fulB B s u)) []:=by
 have hl:=hB.len
 have gu:(U.map enI)[ph]?=some (enI u):=by rw [← e,y47,y41 hph,z13 hph];rfl
 have gk:(B.map Tree.cs')[u]?=some (Tree.cs' (B.getD u dftT)):=by rw [y47,y41 hu,z13 hu];rfl
 have hf:=hB.form (x:=B.getD u dftT) (by rw [z13 hu];exact y40 _)
 have d1:=z762 (i:=u) s0 s1 (by omega)
 have e:fulB B s u=(!hasB s u || kidV B s (B.getD u dftT) 1):=rfl
 have hx:(hasB s u=true→((((s / 2 ^ ((u:Int)).toNat).toNat &&& (1:Int).toNat:Nat):Int))=1)∧(hasB s u=false→((((s / 2 ^ ((u:Int)).toNat).toNat &&& (1:Int).toNat:Nat):Int))=0):=by
  have h1:∀ n:Nat,n &&& 1=n % 2:=fun n=>Nat.and_one_is_mod n
  unfold hasB
  constructor
  ·intro h;exact of_decide_eq_true h
  ·intro h
   have:=of_decide_eq_false h
   rw [show (1:Int).toNat=1 from rfl,h1] at *
   omega
 rw [e]
 generalize B.getD u dftT=f at *
 cases hf with
 |«at» v=>simp [Tree.kind] at hk
 |nx a _ _=>simp [Tree.kind] at hk
 |re a b _ _ _ _=>simp [Tree.kind] at hk
 |un a b ha hb sa sb =>
  have cb:=z263 B U hB s s0 s1 b hb sb
  rw [csB2] at gk
  have e2:kidV B s (.mk 7 0 [a,b]) 1=vlB B s b:=by simp [kidV,Tree.kids]
  rw [e2]
  clear e e2
  generalize vlB B s b=y at *
  generalize hasB s u=x at *
  cases x
  ·have hx:=hx.2 rfl
   refine z10 z19 Tryz.func145 rfl rfl 35 Tryz.ntmps145 (by simp) ?_
   repeat' ((first|(apply y4 ok;rfl)|(refine z21 (i:=ph) rfl gu ?_)|(refine z21 (i:=u) rfl gk ?_)|(refine ⟨_,rfl,?_⟩)|(refine y39 (by unfold z215;(rw [y73];omega)) ?_)|(apply y39;omega)|((apply z8)<;>intro _)|(apply z6 (cb);rfl;rfl))<;>conv=>whnf)
   all_goals try (exfalso;omega)
   all_goals (refine rsD [] [] rfl ?_;(repeat' first|exact y82 _|constructor))
  ·have hx:=hx.1 rfl
   refine z10 z19 Tryz.func145 rfl rfl 35 Tryz.ntmps145 (by simp) ?_
   repeat' ((first|(apply y4 ok;rfl)|(refine z21 (i:=ph) rfl gu ?_)|(refine z21 (i:=u) rfl gk ?_)|(refine ⟨_,rfl,?_⟩)|(refine y39 (by unfold z215;(rw [y73];omega)) ?_)|(apply y39;omega)|((apply z8)<;>intro _)|(apply z6 (cb);rfl;rfl))<;>conv=>whnf)
   all_goals try (exfalso;omega)
   all_goals (refine rsD [] [] rfl ?_;(repeat' first|exact y82 _|constructor))
theorem z429 {B:List Tree} {s:Int} (i:Nat):(List.range (i+1)).foldl (atoI B s) (0,0)=atoI B s ((List.range i).foldl (atoI B s) (0,0)) i:=by
 rw [y58,y59];rfl
theorem z724 {c k:Nat} (h:c < 8) (hk:k≤2):c ||| 2 ^ k < 8:=by
 have:k=0∨k=1∨k=2:=by omega
 rcases this with rfl|rfl|rfl<;>exact Nat.or_lt_two_pow (n:=3) h (by decide)
def eT (e:Edg):Trans:=⟨e.src,e.care,e.val,e.dst⟩
noncomputable def z359 (n0:Nat) (x:TrS):Aut:=⟨numI n0,if x.L.length=0 then [false] else x.acc,x.ed.map eT⟩
noncomputable def trO (t:Tree):Option Aut:=if bscB t=true then (trS (bscL (t.nrm false)) (t.nrm false)).map (z359 (iniS (bscL (t.nrm false)) (t.nrm false)).length) else none
noncomputable def trA (t:Tree):Aut:=(trO t).getD ⟨[],[],[]⟩
noncomputable def tsB (t:Tree):Bool:=(trO t).isSome
theorem z680 {t:Tree} (ht:t.fmB=true) (hn:(t.nrm false).fmB=true) (h5:(bscL (t.nrm false)).length≤5) (hs:t.sz≤200):BasL (bscL (t.nrm false))∧In (·∈bscL (t.nrm false)) (t.nrm false)∧(t.nrm false).sz≤1000:=by
 have hg:=y22 ht
 have hz:=y27 t hg false
 obtain ⟨a1,a2,a3,a4,a5,a6⟩:=z1014 (y22 hn) (nrm_NF t hg false)
 exact ⟨⟨h5,a1,fun x hx=>by have:=a2 x hx;omega,a3,a4,a5⟩,a6,by omega⟩
theorem z1088 {n:Nat} (h:n≤5):1≤2 ^ n∧2 ^ n≤32:=by
 have:n=0∨n=1∨n=2∨n=3∨n=4∨n=5:=by omega
 rcases this with rfl|rfl|rfl|rfl|rfl|rfl<;>decide
noncomputable def mvK (B:List Tree) (s:Int) (k:Nat):List Nat:=(List.range k).filter fun t=>folB B s t
theorem mvK_succ (B:List Tree) (s:Int) (k:Nat):mvK B s (k+1)=mvK B s k++(if folB B s k=true then [k] else []):=by
 unfold mvK
 rw [y58,List.filter_append]
 congr 1
 by_cases h:folB B s k=true
 ·rw [if_pos h,List.filter_cons_of_pos (p:=fun t:Nat=>folB B s t) h];rfl
 ·rw [if_neg h,List.filter_cons_of_neg (p:=fun t:Nat=>folB B s t) h];rfl
theorem z1107 (B:List Tree) (s:Int) (k:Nat):(mvK B s k).length≤k:=by
 unfold mvK
 have:=List.length_filter_le (fun t:Nat=>folB B s t) (List.range k)
 simpa using this
def enMv (c v:Nat) (q:Int) (x:Nat):List AC:=[.int c,.int v,.int x,.int q]
theorem bit_of (s:Int) (i:Nat):(hasB s i=true→((((s / 2 ^ ((i:Int)).toNat).toNat &&& (1:Int).toNat:Nat):Int))=1)∧(hasB s i=false→((((s / 2 ^ ((i:Int)).toNat).toNat &&& (1:Int).toNat:Nat):Int))=0):=by
 have h1:∀ n:Nat,n &&& 1=n % 2:=fun n=>Nat.and_one_is_mod n
 unfold hasB
 constructor
 ·intro h;exact of_decide_eq_true h
 ·intro h
  have:=of_decide_eq_false h
  rw [show (1:Int).toNat=1 from rfl,h1] at *
  omega
set_option maxHeartbeats 6400000 in
theorem z1109 (B : List Tree) (hB : BasL B) (s ph : Nat) (s1 : s ≤ 31) (hp : (untB B).length = 0 ∧ ph = 0 ∨ ph < (untB B).length) :
    CallsA Tryz.prog 147 [.pt [lst 3 Tree.cs' B,ints (untB B)],.agg [.int s,.int ph]] [] (.sref 0 0 (mvK B s (2 ^ B.length)).length) [.cells 4 ((mvK B s (2 ^ B.length)).map (enMv (letB B s).1 (letB B s).2 (phB B (untB B) s ph).1))]:=by
  have hl:=hB.len
  have hp5:=z1088 hl
  have hul:(untB B).length≤B.length:=z458 B B.length
  refine z10 z19 Tryz.func147 rfl rfl 87 Tryz.ntmps147 (by simp) ?_
  repeat' ((first|(apply y4 ok;rfl)|(apply z37;kernel_rfl))<;>conv=>whnf)
  refine z92 (fun x:Nat×Nat×Nat=>([(0,.pt [lst 3 Tree.cs' B,ints (untB B)]),(3,.ptr 0 none 0),(5,.int x.2.1),(6,.int x.2.2),(7,.int ph),(18,lst 3 Tree.cs' B),(19,.int B.length),(20,.int x.1)],[.cells 2 [[.int s,.int ph]]])) (fun x=>x.1≤B.length∧(List.range x.1).foldl (atoI B s) (0,0)=x.2∧x.2.1 < 8∧x.2.2 < 8) (fun x=>B.length - x.1) (0,0,0) ⟨y49 _,rfl,by decide,by decide⟩ (by refine swR [0] [] rfl rfl ?_;(repeat' first|exact y82 _|apply y83|constructor)) ?_
  rintro ⟨i,c,v⟩ ⟨hi,hf,hc,hv⟩
  dsimp only at hi hf hc hv ⊢
  by_cases hil:i < B.length
  · have gk:(B.map Tree.cs')[i]?=some (Tree.cs' (B.getD i dftT)):=by rw [y47,y41 hil,z13 hil];rfl
    have hmem:B.getD i dftT∈B:=by rw [z13 hil];exact y40 _
    have hform:=hB.form hmem
    have hs:=z429 (B:=B) (s:=s) i
    have hbt:=bit_of s i
    have d1:=z762 (s:=s) (i:=i) (by omega) (by omega) (by omega)
    rw [hf] at hs
    unfold atoI at hs
    dsimp only at hs
    by_cases hk:(B.getD i dftT).kind=2
    · rw [if_pos hk] at hs
      have hvv:∃ a:Nat,(B.getD i dftT).val=a∧a≤2:=by
        generalize B.getD i dftT=f at *
        cases hform with
        | «at» v=>have:=hB.av v hmem;exact ⟨v.toNat,by simp [Tree.val];omega,by omega⟩
        | nx a _ _=>simp [Tree.kind] at hk
        | un a b _ _ _ _=>simp [Tree.kind] at hk
        | re a b _ _ _ _=>simp [Tree.kind] at hk
      obtain ⟨a,ea,ha⟩:=hvv
      have gk2:(B.map Tree.cs')[i]?=some [.int 2,.int a,.list 3 (B.getD i dftT).kids.length ((B.getD i dftT).kids.map Tree.cs)]:=by rw [gk,← hk,← ea];rfl
      have o1:=z724 hc ha
      have o2:=z724 hv ha
      have e:=z1069 a (by omega)
      have hpb:=z511 (show a < 3 by omega)
      rw [ea,y73] at hs
      clear gk hform hmem hk ea
      generalize hasB s i=z at *
      generalize (B.getD i dftT).kids=ks at *
      cases z
      · rw [if_neg (by simp)] at hs
        have hb:=hbt.2 rfl
        repeat' ((first|(apply y4 ok;rfl)|(apply z37;kernel_rfl)|(refine z21 (i:=i) rfl gk2 ?_)|(rw [hb])|(rw [Int.zero_mul])|(rw [e])|(refine y39 (by unfold z215;first|omega|(rw [y73];omega)) ?_)|(apply y39;first|omega|(unfold inI;omega))|((apply z8)<;>intro _))<;>conv=>whnf)
        all_goals try (exfalso;omega)
        all_goals refine z44 (i+1,c ||| 2 ^ a,v) ⟨by show i+1≤_;omega,hs,o1,hv⟩ (by show B.length - (i+1) < B.length - i;omega) (by refine swR [0] [] rfl rfl ?_;(repeat' first|exact y82 _|apply y83|constructor)<;>((refine z152 ?_;simp)))
      · rw [if_pos rfl] at hs
        have hb:=hbt.1 rfl
        repeat' ((first|(apply y4 ok;rfl)|(apply z37;kernel_rfl)|(refine z21 (i:=i) rfl gk2 ?_)|(rw [hb])|(rw [e])|(refine y39 (by unfold z215;first|omega|(rw [y73];omega)) ?_)|(apply y39;first|omega|(unfold inI;omega))|((apply z8)<;>intro _))<;>conv=>whnf)
        all_goals try (exfalso;omega)
        all_goals refine z44 (i+1,c ||| 2 ^ a,v ||| 2 ^ a) ⟨by show i+1≤_;omega,hs,o1,o2⟩ (by show B.length - (i+1) < B.length - i;omega) (by refine swR [0] [] rfl rfl ?_;(repeat' first|exact y82 _|apply y83|constructor)<;>((refine z152 ?_;simp)))
    · rw [if_neg hk] at hs
      generalize B.getD i dftT=f at *
      repeat' ((first|(apply y4 ok;rfl)|(apply z37;kernel_rfl)|(refine z21 (i:=i) rfl gk ?_)|(apply y39;first|omega|(unfold inI;omega))|((apply z8)<;>intro _))<;>conv=>whnf)
      all_goals try (exfalso;omega)
      all_goals refine z44 (i+1,c,v) ⟨by show i+1≤_;omega,hs,hc,hv⟩ (by show B.length - (i+1) < B.length - i;omega) (by refine swR [0] [] rfl rfl ?_;(repeat' first|exact y82 _|apply y83|constructor))
  · obtain rfl:i=B.length:=by omega
    have eL:letB B s=(c,v):=hf
    rw [eL]
    clear hf eL
    have e2:((1:Int) * 2 ^ ((B.length:Int).toNat))=((2 ^ B.length:Nat):Int):=by
      rw [y73,Int.one_mul];norm_cast
    obtain ⟨q,eq,hcase⟩:∃ q:Nat,(phB B (untB B) s ph).1=q∧(((untB B).length=0∧True∧q=ph)∨(ph < (untB B).length∧fulB B s ((untB B).getD ph 0)=true∧q=(ph+1) % (untB B).length)∨(ph < (untB B).length∧fulB B s ((untB B).getD ph 0)=false∧q=ph)):=by
      unfold phB
      by_cases h0:(untB B).length=0
      · rw [if_pos h0];exact ⟨0,rfl,.inl ⟨h0,trivial,by omega⟩⟩
      · rw [if_neg h0]
        by_cases hb:fulB B s ((untB B).getD ph 0)=true
        · rw [y73,if_pos hb]
          exact ⟨(ph+1) % (untB B).length,by simp,.inr (.inl ⟨by omega,hb,rfl⟩)⟩
        · rw [y73,if_neg hb]
          exact ⟨ph,rfl,.inr (.inr ⟨by omega,(y68 _).mp hb,rfl⟩)⟩
    rw [eq]
    have hu:=fun (h:ph < (untB B).length)=>z884 (B:=B) (x:=(untB B).getD ph 0) (by rw [z13 h];exact y40 _)
    have cFu:ph < (untB B).length→CallsA Tryz.prog 145 [.pt [lst 3 Tree.cs' B,ints (untB B)],.int s,.int ph] [] (.bool (fulB B s ((untB B).getD ph 0))) []:=fun h=>by
      obtain ⟨u,e1,e3,e4⟩:=hu h
      have:=z598 B (untB B) hB s (by omega) (by omega) ph u h (by omega) e1 e3 e4
      rw [← e1] at this;exact this
    have cFo:=fun (k:Nat) (h:k < 2 ^ B.length)=>z996 B (untB B) hB s k (by omega) (by omega) (by omega) (by omega)
    clear hu
    have hpq:q≤100:=by
      rcases hcase with ⟨_,_,h⟩|⟨h1,_,h⟩|⟨_,_,h⟩
      · omega
      · have h3:(ph+1) % (untB B).length < (untB B).length:=Nat.mod_lt _ (by omega)
        rw [← h] at h3;omega
      · omega
    rcases hcase with ⟨h1,h2,hq⟩|⟨h1,h2,hq⟩|⟨h1,h2,hq⟩
    all_goals first|(have cF:=cFu h1;rw [h2] at cF)|have cF:=True.intro
    all_goals clear cFu eq hp
    all_goals repeat' ((first|(apply y4 ok;rfl)|(apply z37;kernel_rfl)|(rw [e2])|(apply y39;first|omega|(unfold inI;omega))|(((with_reducible apply z15;omega));intro _)|((apply z8)<;>intro _)|(apply z6 (cF);rfl;rfl))<;>conv=>whnf)
    all_goals try (exfalso;omega)
    all_goals
      refine y81 (y84 4 rfl) ?_
      refine z92 (fun x:Nat×List Nat=>([(0,.pt [lst 3 Tree.cs' B,ints (untB B)]),(3,.ptr 0 none 0),(5,.int c),(6,.int v),(7,.int q),(11,.sref 1 0 x.2.length),(67,.int ((2 ^ B.length:Nat):Int)),(68,.int x.1)],[.cells 2 [[.int s,.int ph]],.cells 4 (x.2.map (enMv c v q))])) (fun x=>x.1≤2 ^ B.length∧mvK B s x.1=x.2) (fun x=>2 ^ B.length - x.1) (0,[]) ⟨y49 _,rfl⟩ (by refine swR [0,1] [] rfl rfl ?_;(repeat' first|exact y82 _|exact z57|(refine z152 ?_;omega)|apply y83|refine z16 rfl (z36) ?_|constructor)<;>((refine z152 ?_;rw [hq];(simp;done)))) ?_
      clear h1 h2 hq cF
      rintro ⟨k,M⟩ ⟨hk,hM⟩
      dsimp only at hk hM ⊢
      have hMl:=z1107 B s k
      rw [hM] at hMl
      by_cases hkl:k < 2 ^ B.length
      · have cO:=cFo k hkl
        have hs:=mvK_succ B s k
        rw [hM] at hs
        by_cases hb:folB B s k=true
        · rw [hb] at cO
          rw [if_pos hb] at hs
          repeat' ((first|(apply y4 ok;rfl)|(apply y39;first|(unfold inI;omega)|((try dsimp only);simp only [y45,y44,y43,y42,y54,y55];omega)|exact ⟨rfl,z25 rfl z32⟩)|((apply z8)<;>intro _)|(apply z6 (cO);rfl;rfl))<;>conv=>whnf)
          all_goals try (exfalso;omega)
          all_goals refine z44 (k+1,M++[k]) ⟨by show k+1≤_;omega,hs⟩ (by show 2 ^ B.length - (k+1) < 2 ^ B.length - k;omega) (by refine swR [0,3] [] rfl rfl ?_;(repeat' first|exact y82 _|(refine z72 ?_;((simp;done)))|apply y83|((refine z47 rfl ?_ ?_);(focus ((repeat' (first|exact z7 (fun _=>rfl)|apply z33));done)))|(refine z100 ?_ ?_;(focus (omega)))|constructor))
        · rw [(y68 _).mp hb] at cO
          rw [if_neg hb,y61] at hs
          repeat' ((first|(apply y4 ok;rfl)|(apply y39;(unfold inI;omega))|((apply z8)<;>intro _)|(apply z6 (cO);rfl;rfl))<;>conv=>whnf)
          all_goals try (exfalso;omega)
          all_goals refine z44 (k+1,M) ⟨by show k+1≤_;omega,hs⟩ (by show 2 ^ B.length - (k+1) < 2 ^ B.length - k;omega) (by refine swR [0,1] [] rfl rfl ?_;(repeat' first|exact y82 _|exact z18 _|apply y83|refine z16 rfl (z7 (fun _=>rfl)) ?_|constructor))
      · obtain rfl:k=2 ^ B.length:=by omega
        rw [hM]
        repeat' ((first|(apply y4 ok;rfl)|((apply z8)<;>intro _))<;>conv=>whnf)
        all_goals try (exfalso;omega)
        all_goals (refine rsD [1] [] rfl ?_;(repeat' first|exact y82 _|exact z18 _|refine z16 rfl (z7 (fun _=>rfl)) ?_|constructor))
set_option maxRecDepth 20000 in
theorem keyT_ph:KeyT Tryz.prog 184 2:=by
 refine ⟨by kernel_rfl,by kernel_rfl,?_,by kernel_rfl⟩
 intro i f h
 unfold Program.fieldsOf at h
 rw [Tryz.underlying184] at h
 match i,h with
 |0,h=>cases h;exact ⟨by decide,rfl,Tryz.underlying3⟩
 |1,h=>cases h;exact ⟨by decide,rfl,Tryz.underlying3⟩
 |i+2,h=>simp at h
@[reducible] def objsX (L:List (List Int)):List AObj:=[.cells 1 [[.mref 1]],.mp 2 (z277 0 L),.cells 1 [[.own 2 (L.map enP)]]]
set_option maxRecDepth 20000 in
set_option maxHeartbeats 3200000 in
theorem z1148 (L : List (List Int)) (hL : L.length ≤ 5000) (s ph : Nat) :
    CallsA Tryz.prog 202 [.agg [.int s,.int ph],.ptr 0 none 0,.ptr 2 none 0] (objsX L) (.int (z288 L [(s:Int),(ph:Int)])) (objsX (z190 L [(s:Int),(ph:Int)])):=by
  have m1:=z586 [(s:Int),(ph:Int)] 0 L
  have ke:=keyT_ph
  unfold z288 z190
  by_cases h : [(s:Int),(ph:Int)]∈L
  · rw [if_pos h,Nat.zero_add] at m1
    rw [if_pos h]
    refine z10 z19 Tryz.func202 rfl (by kernel_rfl) 25 Tryz.ntmps202 (by simp) ?_
    repeat' ((first|(apply y4 ok;rfl)|(refine y39 ke ?_)|(rw [m1]))<;>conv=>whnf)
    all_goals (refine rsD [0,1,2] [] rfl ?_;(repeat' first|exact y82 _|apply y83|constructor))
    all_goals rfl
  · rw [if_neg h] at m1
    rw [if_neg h,List.idxOf_eq_length h]
    have m6:mput (z277 0 L) [(s:Int),(ph:Int)] (L.length:Int)=z277 0 (L++[[(s:Int),(ph:Int)]]):=by
      rw [z585 _ _ _ h,z757,Nat.zero_add]
    have e2:(L.map enP).take L.length++[[AC.int s,AC.int ph]]=(L++[[(s:Int),(ph:Int)]]).map enP:=by
      rw [y53 (by simp),y60];rfl
    refine z10 z19 Tryz.func202 rfl (by kernel_rfl) 25 Tryz.ntmps202 (by simp) ?_
    refine y81 (Gl.Reach.expose 2 0 0 rfl rfl rfl (z168 (fun _=>rfl) _) rfl) ?_
    refine y81 (show Gl.Reach _ _ (mkSt _ [(0,.agg [.int s,.int ph]),(1,.ptr 0 none 0),(2,.ptr 2 none 0)] [.cells 1 [[.mref 1]],.mp 2 (z277 0 L),.cells 1 [[.sref 3 0 L.length]],.cells 2 (L.map enP)]) from (by refine swR [0,1,2,3] [] rfl rfl ?_;(repeat' first|exact y82 _|exact z18 _|(refine z72 ?_;((simp;done)))|apply y83|refine z16 rfl (z7 (fun _=>rfl)) ?_|constructor)<;>(rfl))) ?_
    repeat' ((first|(apply y4 ok;rfl)|(refine y39 ke ?_)|(rw [m6])|(rw [m1])|(apply y39;first|((try dsimp only);simp only [y45,y44,y43,y42,y54,y55];omega)|exact ⟨rfl,z25 rfl z32⟩))<;>conv=>whnf)
    all_goals
      refine Gl.RetS.absorb 2 6 0 0 rfl rfl rfl rfl (by simp) rfl (z90 (fun e he=>(z7 (fun _=>rfl)) e (List.mem_of_mem_take he)) (z212 rfl z36)) ?_
      conv=>whnf
      (refine rsD [0,1,2] [] rfl ?_;(repeat' first|exact y82 _|apply y83|constructor))
      all_goals first|rfl|exact y9 (congrArg (AC.own 2) e2)
end Go.Proofs.YteinbnahinpegaaGreat
namespace Go.Proofs.YteinbnahinpegaaGreat
open Go.Gl
attribute [local irreducible] z20 AWP z30 z35 z34
theorem z1169 {objs:Nat→AObj} {π Bn:List Nat} {o:Nat} {l:List Trans} (ho:objs o=.cells 4 (l.map Trans.cs)) (h1:idx π o=none) (h2:inB Bn o=true):bor objs π Bn (.sref o 0 l.length)=lst 4 Trans.cs l :=
 z195 ho h1 h2 (by simp) (z340 Trans.unown l)
theorem z867 {objs : Nat → AObj} {π Bn : List Nat} {o1 o2 o3 : Nat} {a : Aut} (h1 : objs o1 = .cells 1 (a.ini.map enI)) (h2 : objs o2 = .cells 1 (a.acc.map enB)) (h3 : objs o3 = .cells 4 (a.ed.map Trans.cs)) (i1 : idx π o1 = none) (b1 : inB Bn o1 = true) (i2 : idx π o2 = none) (b2 : inB Bn o2 = true) (i3 : idx π o3 = none) (b3 : inB Bn o3 = true) :
    bor objs π Bn (.agg [.sref o1 0 a.ini.length,.sref o2 0 a.acc.length,.sref o3 0 a.ed.length])=.agg a.cs :=
  bor_agg (z55 (z171 h1 i1 b1) (z55 (z1170 h2 i2 b2) (z55 (z1169 h3 i3 b3) z84)))
structure Aut.ok (a:Aut):Prop where
 mx:a.mx
 ini:a.ini.length≤1048576
 acc:a.acc.length≤1048576
 ed:a.ed.length≤1048576
theorem Aut.ok_of {a:Aut} (h:a.mx) (h1:a.s1≤1048576) (h2:a.s2≤1048576) (h3:a.s3≤1048576):a.ok:=⟨h,h1,h2,h3⟩
theorem clB_full (l:List Bool) (hl:l.length≤1048576) (hp:0 < l.length):CallsA Tryz.prog 238 [lst 1 enB l] [] (.sref 0 0 l.length) [.cells 1 (l.map enB)]:=by
 refine z12 z19 Tryz.func238 rfl rfl 8 Tryz.ntmps238 (by simp) ?_
 repeat' (first|(apply y4 ok;rfl;conv=>whnf)|(apply y39;(first|omega|(dsimp only;omega)|exact z106 (fun _=>rfl));conv=>whnf))
 exact z99 rfl (z7 fun _=>rfl) (Nat.zero_add _) rfl rfl
theorem clB_new0 (l:List Bool) (hl:l.length≤1048576):CallsA Tryz.prog 238 [lst 1 enB l] [] (.sref 0 0 l.length) [.cells 1 (l.map enB)]:=by
 by_cases hp:0 < l.length
 ·exact clB_full l hl hp
 ·obtain rfl:l=[]:=y70 (by omega)
  refine z213 (z208 Tryz.func238 rfl (by rfl)) fun ad cap=>?_
  cases ad with
  |none =>
   refine CallsA.nils (res:=.nils) (l:=[.cells 1 []]) ?_ (by simp) z467
   refine z12 z19 Tryz.func238 rfl rfl 8 Tryz.ntmps238 (by simp) ?_
   repeat' ((apply y4 ok;rfl;conv=>whnf))
   all_goals exact z50 rfl rfl rfl
  |some p =>
   refine z12 z19 Tryz.func238 rfl rfl 8 Tryz.ntmps238 (by simp) ?_
   repeat' (first|(apply y4 ok;rfl;conv=>whnf)|(apply y39;(omega);conv=>whnf))
   all_goals (exact z99 rfl z36 rfl rfl rfl)
theorem clB_clip (l:List Bool) (hl:l.length≤1048576):CallsA Tryz.prog 237 [.sref 0 0 l.length] [.cells 1 (l.map enB)] (.sref 0 0 l.length) [.cells 1 (l.map enB)]:=by
 refine z12 z19 Tryz.func237 rfl rfl 9 Tryz.ntmps237 (by simp) ?_
 repeat' (first|(apply y4 ok;rfl;conv=>whnf)|(apply y39;(omega);conv=>whnf))
 exact z99 rfl (z7 fun _=>rfl) (by omega) rfl rfl
theorem clB_new (l:List Bool) (hl:l.length≤1048576):CallsA Tryz.prog 210 [lst 1 enB l] [] (.sref 0 0 l.length) [.cells 1 (l.map enB)]:=by
 refine z12 z19 Tryz.func210 rfl rfl 6 Tryz.ntmps210 (by simp) ?_
 repeat' (first|(apply y4 ok;rfl;conv=>whnf)|(apply z86 [] [] [0] (clB_new0 l hl);rfl;(focus ((repeat' (exact z43))<;>(fail)));rfl;rfl;rfl;rfl;rfl;(focus ((repeat' (first|exact z17|apply z14))<;>((refine z23 ?_;((exact z7 (fun _=>rfl)))))));(exact .inl rfl);conv=>whnf)|(apply z86 [0] [] [] (clB_clip l hl);rfl;(focus ((repeat' (first|exact z43|apply z64))<;>((refine z88 rfl ?_;((exact z7 (fun _=>rfl)))))));rfl;rfl;rfl;rfl;rfl;(focus ((repeat' (first|exact z17|apply z14))<;>((refine z23 ?_;((exact z7 (fun _=>rfl)))))));(exact .inl rfl);conv=>whnf))
 exact z99 rfl (z7 fun _=>rfl) rfl rfl rfl
theorem clT_full (l:List Trans) (hl:l.length≤1048576) (hp:0 < l.length):CallsA Tryz.prog 240 [lst 4 Trans.cs l] [] (.sref 0 0 l.length) [.cells 4 (l.map Trans.cs)]:=by
 refine z12 z19 Tryz.func240 rfl rfl 8 Tryz.ntmps240 (by simp) ?_
 repeat' (first|(apply y4 ok;rfl;conv=>whnf)|(apply y39;(first|omega|(dsimp only;omega)|exact z106 (fun _=>rfl));conv=>whnf))
 exact z99 rfl (z7 fun _=>rfl) (Nat.zero_add _) rfl rfl
theorem clT_new0 (l:List Trans) (hl:l.length≤1048576):CallsA Tryz.prog 240 [lst 4 Trans.cs l] [] (.sref 0 0 l.length) [.cells 4 (l.map Trans.cs)]:=by
 by_cases hp:0 < l.length
 ·exact clT_full l hl hp
 ·obtain rfl:l=[]:=y70 (by omega)
  refine z213 (z208 Tryz.func240 rfl (by rfl)) fun ad cap=>?_
  cases ad with
  |none =>
   refine CallsA.nils (res:=.nils) (l:=[.cells 4 []]) ?_ (by simp) z467
   refine z12 z19 Tryz.func240 rfl rfl 8 Tryz.ntmps240 (by simp) ?_
   repeat' ((apply y4 ok;rfl;conv=>whnf))
   all_goals exact z50 rfl rfl rfl
  |some p =>
   refine z12 z19 Tryz.func240 rfl rfl 8 Tryz.ntmps240 (by simp) ?_
   repeat' (first|(apply y4 ok;rfl;conv=>whnf)|(apply y39;(omega);conv=>whnf))
   all_goals (exact z99 rfl z36 rfl rfl rfl)
theorem clT_clip (l:List Trans) (hl:l.length≤1048576):CallsA Tryz.prog 239 [.sref 0 0 l.length] [.cells 4 (l.map Trans.cs)] (.sref 0 0 l.length) [.cells 4 (l.map Trans.cs)]:=by
 refine z12 z19 Tryz.func239 rfl rfl 9 Tryz.ntmps239 (by simp) ?_
 repeat' (first|(apply y4 ok;rfl;conv=>whnf)|(apply y39;(omega);conv=>whnf))
 exact z99 rfl (z7 fun _=>rfl) (by omega) rfl rfl
theorem clT_new (l:List Trans) (hl:l.length≤1048576):CallsA Tryz.prog 211 [lst 4 Trans.cs l] [] (.sref 0 0 l.length) [.cells 4 (l.map Trans.cs)]:=by
 refine z12 z19 Tryz.func211 rfl rfl 6 Tryz.ntmps211 (by simp) ?_
 repeat' (first|(apply y4 ok;rfl;conv=>whnf)|(apply z86 [] [] [0] (clT_new0 l hl);rfl;(focus ((repeat' (exact z43))<;>(fail)));rfl;rfl;rfl;rfl;rfl;(focus ((repeat' (first|exact z17|apply z14))<;>((refine z23 ?_;((exact z7 (fun _=>rfl)))))));(exact .inl rfl);conv=>whnf)|(apply z86 [0] [] [] (clT_clip l hl);rfl;(focus ((repeat' (first|exact z43|apply z64))<;>((refine z88 rfl ?_;((exact z7 (fun _=>rfl)))))));rfl;rfl;rfl;rfl;rfl;(focus ((repeat' (first|exact z17|apply z14))<;>((refine z23 ?_;((exact z7 (fun _=>rfl)))))));(exact .inl rfl);conv=>whnf))
 exact z99 rfl (z7 fun _=>rfl) rfl rfl rfl
theorem z871 (a:Aut) (h1:a.ini.length≤100000) (h2:a.acc.length≤100000) (h3:a.ed.length≤100000):CallsA Tryz.prog 160 [.agg a.cs] [] (.agg [.sref 0 0 a.ini.length,.sref 1 0 a.acc.length,.sref 2 0 a.ed.length]) [.cells 1 (a.ini.map enI),.cells 1 (a.acc.map enB),.cells 4 (a.ed.map Trans.cs)]:=by
 have c1:=z664 a.ini (by omega)
 have c2:=clB_new a.acc (by omega)
 have c3:=clT_new a.ed (by omega)
 refine z12 z19 Tryz.func160 rfl rfl 13 Tryz.ntmps160 (by simp) ?_
 repeat' (first|(apply y4 ok;rfl;conv=>whnf)|(apply z37;kernel_rfl;conv=>whnf)|(apply z86 [] [] [2] (c1);rfl;(focus ((repeat' (exact z43))<;>(fail)));rfl;rfl;rfl;rfl;rfl;(focus ((repeat' (first|exact z17|apply z14))<;>((refine z23 ?_;((exact z7 (fun _=>rfl)))))));(exact .inl rfl);conv=>whnf)|(apply z86 [] [] [3] (c2);rfl;(focus ((repeat' (exact z43))<;>(fail)));rfl;rfl;rfl;rfl;rfl;(focus ((repeat' (first|exact z17|apply z14))<;>((refine z23 ?_;((exact z7 (fun _=>rfl)))))));(exact .inl rfl);conv=>whnf)|(apply z86 [] [] [4] (c3);rfl;(focus ((repeat' (exact z43))<;>(fail)));rfl;rfl;rfl;rfl;rfl;(focus ((repeat' (first|exact z17|apply z14))<;>((refine z23 ?_;((exact z7 (fun _=>rfl)))))));(exact .inl rfl);conv=>whnf))
 exact z95 [2,3,4] (by decide) rfl rfl rfl ⟨z59 rfl (z7 fun _=>rfl),z59 rfl (z7 fun _=>rfl),z59 rfl (z7 fun _=>rfl),trivial⟩
theorem z581 {g:Graph} {a:Aut} (hG:GB g) (hA:AutP a) (ls:List Int):(∀ r∈z58 g ls a,InN (z58 g ls a).length r)∧InN (z58 g ls a).length a.ini∧(z58 g ls a).length≤3840∧(∀ r∈z58 g ls a,r.length≤1000000000)∧a.ini.length≤1048576:=by
 have hrl:(z58 g ls a).length=g.st.length * a.acc.length:=by unfold z58;rw [z125,Nat.mul_comm]
 have hN:=z291 (a:=(g.st.length:Int)) (b:=(a.acc.length:Int)) (A:=60) (B:=64) (by omega) (by have:=hG.1;omega) (by omega) (by have:=hA.1;omega)
 have hN2:((g.st.length * a.acc.length:Nat):Int)=(g.st.length:Int) * a.acc.length:=by simp
 have ha1:=hA.1
 refine ⟨fun r hr x hx=>?_,fun x hx=>?_,by omega,fun r hr=>?_,?_⟩
 ·rw [hrl];exact z826 g hG ls a hA r hr x hx
 ·obtain ⟨i,hi,rfl⟩:=List.mem_iff_getElem.1 hx
  have h1:=(hA.2.2.1 i hi hi).1
  have h2:=z291 (a:=(g.st.length:Int) - 1) (b:=(a.acc.length:Int)) (A:=60) (B:=64) (by have:=hG.1;omega) (by have:=hG.1;omega) (by omega) (by omega)
  rw [Int.sub_mul,Int.one_mul] at h2
  omega
 ·have:=z721 g hG ls a hA r hr;omega
 ·have:=hA.2.2.1.le (by omega);omega
structure Cert.ok (c:Cert):Prop where
 mx:c.mx
 len:c.ranks.length≤1048576
theorem Cert.ok_of {c:Cert} (h:c.mx) (h1:c.s1≤1048576):c.ok:=⟨h,h1⟩
theorem bor_tup {objs:Nat→AObj} {π Bn:List Nat} {xs ys:List AC} (h:borL objs π Bn xs=ys):bor objs π Bn (.tup xs)=.tup ys:=by
 simp only [bor,h]
end Go.Proofs.YteinbnahinpegaaGreat
namespace Go.Proofs.YteinbnahinpegaaGreat
open Go.Gl
attribute [local irreducible] z20 AWP z30 z35 z34 RetS z42
theorem trA_len (t:Tree) (hs:t.sz≤200):(trA t).ini.length≤32∧(trA t).acc.length≤66∧(trA t).ed.length≤2080:=by
 unfold trA trO
 by_cases h:bscB t=true
 ·rw [if_pos h]
  obtain ⟨⟨ht,hn⟩,h5⟩:=of_decide_eq_true (show decide _=true from h)
  have hp:=z1088 h5
  have hi:=z915 (bscL (t.nrm false)) (t.nrm false)
  cases hS:trS (bscL (t.nrm false)) (t.nrm false) with
  |none=>exact ⟨y49 _,y49 _,y49 _⟩
  |some y =>
   have hg:=z1134 _ _ _ _ _ _ hS
   simp only [y55] at hg
   show (numI _).length≤32∧(if y.L.length=0 then [false] else y.acc).length≤66∧(y.ed.map eT).length≤2080
   rw [z641,y45]
   refine ⟨by omega,?_,by omega⟩
   split
   ·simp
   ·omega
 ·rw [if_neg h];exact ⟨y49 _,y49 _,y49 _⟩
theorem letB_lt {B:List Tree} (hB:BasL B) (s:Int) (i:Nat):((List.range i).foldl (atoI B s) (0,0)).2 < 8:=by
 induction i with
 |zero=>show 0 < 8;omega
 |succ i ih =>
  rw [z429]
  unfold atoI
  split
  ·rename_i hk
   dsimp only
   split
   ·by_cases hil:i < B.length
    ·have hmem:B.getD i dftT∈B:=by rw [z13 hil];exact y40 _
     have hform:=hB.form hmem
     have hvv:(B.getD i dftT).val.toNat≤2:=by
      generalize B.getD i dftT=f at *
      cases hform with
      |«at» v=>have:=hB.av v hmem;show v.toNat≤2;omega
      |nx a _ _=>simp [Tree.kind] at hk
      |un a b _ _ _ _=>simp [Tree.kind] at hk
      |re a b _ _ _ _=>simp [Tree.kind] at hk
     exact z724 ih hvv
    ·rw [y64,y65 (by omega)]
     exact z724 ih (show (0:Nat)≤2 by omega)
   ·exact ih
  ·exact ih
theorem z928 (B:List Tree) (s ph:Int) (i:Nat) (c v:Int):∀ (l:List Nat) (x:List (List Int)×List Edg),∀ e∈(l.foldl (z117 B s ph i c v) x).2,e∈x.2∨e.val=v
 |[],x,e,he=>.inl he
 |t::l,x,e,he=>by
  rw [List.foldl_cons] at he
  rcases z928 B s ph i c v l _ e he with h|h
  ·unfold z117 at h
   split at h
   ·rcases List.mem_append.1 h with h1|h1
    ·exact .inl h1
    ·rw [List.mem_singleton.1 h1];exact .inr rfl
   ·exact .inl h
  ·exact .inr h
theorem z1133 (B:List Tree) (U:List Int):∀ (f i:Nat) (x y:TrS),goS B U f i x=some y→∀ e∈y.ed,e∈x.ed∨∃ s,e.val=((letB B s).2:Int)
 |0,i,x,y,h=>by simp [goS] at h
 |f+1,i,x,y,h=>by
  rw [goS] at h
  split at h
  ·split at h
   ·cases h
   ·intro e he
    rcases z1133 B U f (i+1) _ y h e he with h1|h1
    ·rcases z928 B _ _ i _ _ _ _ e h1 with h2|h2
     ·exact .inl h2
     ·exact .inr ⟨_,h2⟩
    ·exact .inr h1
  ·cases h
   exact fun e he=>.inl he
theorem trA_val (t:Tree) (hs:t.sz≤200):∀ e∈(trA t).ed,e.mx:=by
 unfold trA trO
 by_cases h:bscB t=true
 ·rw [if_pos h]
  obtain ⟨⟨ht,hn⟩,h5⟩:=of_decide_eq_true (show decide _=true from h)
  obtain ⟨hB,_,_⟩:=z680 ht hn h5 hs
  cases hS:trS (bscL (t.nrm false)) (t.nrm false) with
  |none=>intro e he;cases he
  |some y =>
   intro e he
   obtain ⟨e',he',rfl⟩:=List.mem_map.1 (show e∈y.ed.map eT from he)
   rcases z1133 _ _ _ _ _ _ hS e' he' with h1|⟨s,h1⟩
   ·cases h1
   ·have:=letB_lt hB s (bscL (t.nrm false)).length
    show inI e'.val
    unfold inI
    rw [h1]
    unfold letB
    omega
 ·rw [if_neg h];intro e he;cases he
theorem acc_ok (B:List Tree) (hB:BasL B) (s ph:Nat) (s1:s≤31) (hp:(untB B).length=0∧ph=0∨ph < (untB B).length):CallsA Tryz.prog 144 [.agg [.int s,.int ph],.pt [.pt [lst 3 Tree.cs' B,ints (untB B)]]] [] (.bool (phB B (untB B) s ph).2) []:=by
 have hl:=hB.len
 have hul:(untB B).length≤B.length:=z458 B B.length
 have hu:=fun (h:ph < (untB B).length)=>z884 (B:=B) (x:=(untB B).getD ph 0) (by rw [z13 h];exact y40 _)
 have cFu:ph < (untB B).length→CallsA Tryz.prog 145 [.pt [lst 3 Tree.cs' B,ints (untB B)],.int s,.int ph] [] (.bool (fulB B s ((untB B).getD ph 0))) []:=fun h=>by
  obtain ⟨u,e1,e3,e4⟩:=hu h
  have:=z598 B (untB B) hB s (by omega) (by omega) ph u h (by omega) e1 e3 e4
  rw [← e1] at this;exact this
 clear hu
 unfold phB
 generalize untB B=U at *
 by_cases h0:U.length=0
 ·rw [if_pos h0]
  refine z10 z19 Tryz.func144 rfl rfl 21 Tryz.ntmps144 (by simp) ?_
  repeat' ((first|(apply y4 ok;rfl)|((apply z8)<;>intro _))<;>conv=>whnf)
  all_goals first|(exfalso;omega)|(refine rsD [] [] rfl ?_;(repeat' first|exact y82 _|constructor))
 ·rw [if_neg h0,y73]
  by_cases h1:ph=0
  ·subst h1
   have cF:=cFu (by omega)
   generalize fulB B s (U.getD 0 0)=z at *
   cases z
   all_goals
    refine z10 z19 Tryz.func144 rfl rfl 21 Tryz.ntmps144 (by simp) ?_
    repeat' ((first|(apply y4 ok;rfl)|((apply z8)<;>intro _)|(apply z6 (cF);rfl;rfl))<;>conv=>whnf)
    all_goals first|(exfalso;omega)|(refine rsD [] [] rfl ?_;(repeat' first|exact y82 _|constructor))
  ·have e:(if fulB B s (U.getD ph 0)=true then (((ph:Int)+1) % (U.length:Int),decide ((ph:Int)=0)) else ((ph:Int),false)).2=false:=by
    split
    ·exact y79 (by omega)
    ·rfl
   rw [e]
   clear cFu
   refine z10 z19 Tryz.func144 rfl rfl 21 Tryz.ntmps144 (by simp) ?_
   repeat' ((first|(apply y4 ok;rfl)|((apply z8)<;>intro _))<;>conv=>whnf)
   all_goals first|(exfalso;omega)|(refine rsD [] [] rfl ?_;(repeat' first|exact y82 _|constructor))
theorem ren_mp {M d:Nat} {r:Nat→Nat} {es:List (List Int×Int)} : z607 M r (.mp d es) (.mp d es):=⟨trivial,rfl⟩
noncomputable def z854 (q i:Nat) (c v:Nat) (y:List (List Int)×List Edg) (x:Nat):List (List Int)×List Edg:=(z190 y.1 [(x:Int),(q:Int)],y.2++[⟨i,c,v,z288 y.1 [(x:Int),(q:Int)]⟩])
theorem fold_mv (B:List Tree) (s:Int) (q i c v k:Nat) (y:List (List Int)×List Edg):(mvK B s k).foldl (z854 q i c v) y=(List.range k).foldl (z117 B s q i c v) y:=by
 unfold mvK
 rw [List.foldl_filter]
 rfl
theorem numI_ini (n m:Nat) (h:n≤m):IniP (numI n) m (numI n).length:=by
 intro i hi _
 have e:∀ j (hj:j < (numI n).length),(numI n)[j]=(j:Int):=fun j hj=>by simp [numI]
 have hl:=z641 n
 rw [e i hi]
 refine ⟨by omega,fun j hj=>?_⟩
 rw [e j (by omega)];omega
theorem ExI.valid {B:List Tree} {U:List Int} {n0 i:Nat} {x:TrS} (hB:BasL B) (h:ExI B U n0 i x) (h1:1≤n0) (hi:i≤64) (he:x.L.length≤i):autB ⟨numI n0,x.acc,x.ed.map eT⟩=true:=by
 have h2:=h.base;have h3:=h.acc;have h4:=h.edl;have h5:=h.le
 have hp:=z1088 hB.len
 have hmul:i * 2 ^ B.length≤64 * 32:=Nat.mul_le_mul hi hp.2
 rw [z272]
 refine ⟨⟨by show 1≤x.acc.length;omega,by show x.acc.length≤64;omega⟩,by show (x.ed.map eT).length≤2048;rw [y45];omega,numI_ini n0 x.acc.length (by omega),fun e he=>?_⟩
 obtain ⟨e',he',rfl⟩:=List.mem_map.1 he
 obtain ⟨⟨a1,a2⟩,⟨a3,a4⟩,s,a5,a6⟩:=h.ed e' he'
 have l1:(letB B s).1 < 8:=by
  have:∀ n,((List.range n).foldl (atoI B s) (0,0)).1 < 8:=by
   intro n
   induction n with
   |zero=>show (0:Nat) < 8;omega
   |succ n ih =>
    rw [z429]
    unfold atoI
    split
    ·rename_i hk
     refine z724 ih ?_
     by_cases hil:n < B.length
     ·have hmem:B.getD n dftT∈B:=by rw [z13 hil];exact y40 _
      have hform:=hB.form hmem
      generalize B.getD n dftT=f at *
      cases hform with
      |«at» v=>have:=hB.av v hmem;show v.toNat≤2;omega
      |nx a _ _=>simp [Tree.kind] at hk
      |un a b _ _ _ _=>simp [Tree.kind] at hk
      |re a b _ _ _ _=>simp [Tree.kind] at hk
     ·rw [y64,y65 (by omega)]
      show (0:Nat)≤2;omega
    ·exact ih
  exact this _
 refine ⟨⟨a1,?_⟩,⟨a3,?_⟩,⟨?_,?_⟩,?_,?_⟩
 ·show e'.src≤(x.acc.length:Int) - 1;omega
 ·show e'.dst≤(x.acc.length:Int) - 1;omega
 ·show 0≤e'.care;omega
 ·show e'.care≤7;omega
 ·show 0≤e'.val;omega
 ·show e'.val.toNat &&& e'.care.toNat=e'.val.toNat
  rw [a5,a6];exact letB_sub B s
@[reducible] noncomputable def accF (B:List Tree):AC:=.fn (.func 144) [] [.pt [.pt [lst 3 Tree.cs' B,ints (untB B)]]]
@[reducible] noncomputable def movF (B:List Tree):AC:=.fn (.func 147) [.pt [lst 3 Tree.cs' B,ints (untB B)]] []
@[reducible] def fndF:AC:=.fn (.func 202) [] [.ptr 3 none 0,.ptr 4 none 0]
@[reducible] def objsE (N:List Int) (L:List (List Int)) (acc:List Bool) (E:List Trans) (fb:AC):List AObj:=[.cells 3 [[.nils,.nils,.nils]],.cells 3 [[.sref 5 0 N.length,.sref 6 0 acc.length,.sref 7 0 E.length]],.mp 2 (z277 0 L),.cells 1 [[.mref 2]],.cells 1 [[fb]],.cells 1 (N.map enI),.cells 1 (acc.map enB),.cells 4 (E.map Trans.cs)]
end Go.Proofs.YteinbnahinpegaaGreat
