/- A part of the proofs over this program: T88, T89, T31, T32, T33, T90, T91, T92, T93, T94, T94W, T95, T34, T24. -/
import Derived.Test.YteinbnahinpegaaGreatG0
import Derived.Test.YteinbnahinpegaaGreatG1
import Derived.Test.YteinbnahinpegaaGreatG2
import Derived.Test.YteinbnahinpegaaGreatG3
import Derived.Test.YteinbnahinpegaaGreatP0
import Derived.Test.YteinbnahinpegaaGreatP1
set_option linter.all false
namespace Go.Proofs.YteinbnahinpegaaGreat
open Go.Gl
attribute [local irreducible] z20 AWP z30 z35 z34 RetS z42
noncomputable def z449 (s:Sys) (st:State) (j m:Nat):List Stp:=if ((s.pr j).eg m).sync < 0∨rdyE ((s.pr j).eg m) st j=false then [] else if ((s.pr j).eg m).sync=0 then [⟨j,m,-1,-1⟩] else z637 s st j m
noncomputable def z552 (s:Sys) (st:State):List Stp:=cat s.ps.length fun j=>cat (s.pr j).es.length (z449 s st j)
theorem z892 {s:Sys} {st:State} : ∀ x∈z552 s st,x.ok s:=fun x hx=>by
 obtain ⟨j,hj,hx⟩:=z649 hx
 obtain ⟨m,hm,hx⟩:=z649 hx
 unfold z449 at hx
 split at hx
 ·cases hx
 split at hx
 ·rw [List.mem_singleton.1 hx]
  exact ⟨⟨by show 0≤(j:Int);omega,by show (j:Int) < _;omega⟩,⟨by show 0≤(m:Int);omega,by show (m:Int) < _;simpa using hm⟩,⟨by show -1≤(-1:Int);omega,by show (-1:Int) < _;omega⟩,fun h=>absurd (show (0:Int)≤-1 from h) (by decide)⟩
 ·exact partL_ok hj hm x hx
set_option maxHeartbeats 1600000 in
theorem z988 (s:Sys) (hs:s.ok) (st:State) (h:st.ok s):CallsA Tryz.prog 116 [.agg s.cs,.agg st.cs] [] (lst 4 Stp.cs (z552 s st)) []:=by
  have h3:=hs.n3
  have hfin:z552 s st=cat s.ps.length (fun j=>cat (s.pr j).es.length (z449 s st j)):=rfl
  have hR0:∀ j m,(((s.pr j).eg m).sync < 0∨rdyE ((s.pr j).eg m) st j=false)→z449 s st j m=[]:=fun _ _ h=>if_pos h
  have hR1:∀ j m,¬(((s.pr j).eg m).sync < 0∨rdyE ((s.pr j).eg m) st j=false)→((s.pr j).eg m).sync=0→z449 s st j m=[⟨j,m,-1,-1⟩]:=fun _ _ h k=>by unfold z449;rw [if_neg h,if_pos k]
  have hR2:∀ j m,¬(((s.pr j).eg m).sync < 0∨rdyE ((s.pr j).eg m) st j=false)→((s.pr j).eg m).sync≠0→z449 s st j m=z637 s st j m:=fun _ _ h k=>by unfold z449;rw [if_neg h,if_neg k]
  generalize z552 s st=FIN at *
  generalize z449 s st=R at *
  refine z10 z19 Tryz.func116 rfl rfl 64 Tryz.ntmps116 (by simp) ?_
  repeat' (((apply y4 ok;rfl))<;>conv=>whnf)
  refine z92 (fun x:Nat×List Stp=>([(2,.ptr 0 none 0),(3,.ptr 1 none 0),(5,.sref 2 0 x.2.length),(6,.int x.1)],[.cells 2 [s.cs],.cells 2 [st.cs],.cells 4 (x.2.map Stp.cs)])) (fun x=>x.1≤s.ps.length∧x.2.length≤108 * x.1∧x.2=cat x.1 fun j=>cat (s.pr j).es.length (R j)) (fun x=>s.ps.length - x.1) (0,[]) ⟨by omega,by simp,rfl⟩ (by refine swR [0,1,2] [] rfl rfl ?_;(repeat' first|exact y82 _|apply y83|refine z16 rfl (z36) ?_|constructor)) ?_
  rintro ⟨j,L⟩ ⟨hj,hLl,hL⟩
  simp only at hj hL hLl
  by_cases hjl:j < s.ps.length
  · have gj:=y14 hjl
    have hj6:=hs.ne j hjl
    repeat' ((first|(apply y4 ok;rfl)|((apply z8)<;>intro _))<;>conv=>whnf)
    all_goals try (exfalso;omega)
    refine z92 (fun x:Nat×List Stp=>([(2,.ptr 0 none 0),(3,.ptr 1 none 0),(5,.sref 2 0 x.2.length),(6,.int j),(7,.int x.1)],[.cells 2 [s.cs],.cells 2 [st.cs],.cells 4 (x.2.map Stp.cs)])) (fun x=>x.1≤(s.pr j).es.length∧x.2.length≤108 * j+18 * x.1∧x.2=L++cat x.1 (R j)) (fun x=>(s.pr j).es.length - x.1) (0,L) ⟨by omega,by simpa using hLl,by rw [z935,y61]⟩ (by refine swR [0,1,2] [] rfl rfl ?_;(repeat' first|exact y82 _|exact z18 _|apply y83|refine z16 rfl (z7 (fun _=>rfl)) ?_|constructor)) ?_
    rintro ⟨m,M⟩ ⟨hm,hMl,hM⟩
    simp only at hm hM hMl
    by_cases hml:m < (s.pr j).es.length
    · have gm:=y11 hml
      have hl:=z589 s hs st h j m hjl hml
      have hP:=z653 s hs st h j m hjl hml
      have hPl:=z722 hs (st:=st) (i:=j) (k:=m)
      have hR0m:=hR0 j m
      have hR1m:=hR1 j m
      have hR2m:=hR2 j m
      have hcs:=z406 m (R j)
      have hE2:=(hs.eg j m hjl hml).sync
      generalize (s.pr j).eg m=e2 at *
      generalize rdyE e2 st j=rd at *
      generalize z637 s st j m=PL at *
      generalize hpj:s.pr j=pj at *
      cases rd
      all_goals
        repeat' ((first|(apply y4 ok;rfl)|(refine z21 (i:=j) rfl gj ?_)|(refine z21 (i:=m) rfl gm ?_)|(apply y39;first|omega|(unfold inI;omega)|((try dsimp only);simp only [y45,y44,y43,y42,y54,y55];omega)|exact z106 (fun _=>rfl)|exact ⟨rfl,z25 rfl z32⟩)|((apply z8)<;>intro _)|(apply z6 (hl);rfl;rfl)|(apply z6 (hP);rfl;rfl))<;>conv=>whnf)
        all_goals try (exfalso;omega)
      all_goals first
        | (have hz := hR2m (by rintro (z1 | z1) <;> first | omega | exact absurd z1 (by decide)) (by omega)
           refine z44 (m+1,M++PL) ⟨by omega,by simp;omega,by rw [hM,hcs,hz,List.append_assoc]⟩ (by show pj.es.length - (m+1) < pj.es.length - m;omega) (by refine swR [0,1,3] [] rfl rfl ?_;(repeat' first|exact y82 _|(refine z72 ?_;((simp;done)))|apply y83|((refine z16 rfl ?_ ?_);(focus ((repeat' (first|exact z7 (fun _=>rfl)|apply z90|apply z33));done)))|(refine appL_le ?_;(omega))|constructor)))
        | (have hz := hR1m (by rintro (z1 | z1) <;> first | omega | exact absurd z1 (by decide)) (by omega)
           refine z44 (m+1,M++[⟨j,m,-1,-1⟩]) ⟨by omega,by simp;omega,by rw [hM,hcs,hz,List.append_assoc]⟩ (by show pj.es.length - (m+1) < pj.es.length - m;omega) (by refine swR [0,1,4] [] rfl rfl ?_;(repeat' first|exact y82 _|(refine z72 ?_;((simp;done)))|apply y83|((refine z47 rfl ?_ ?_);(focus ((repeat' (first|exact z7 (fun _=>rfl)|apply z33));done)))|(refine z100 ?_ ?_;(focus (omega)))|constructor)))
        | (have hz := hR0m (by first | exact .inr rfl | exact .inl (by omega))
           refine z44 (m+1,M) ⟨by omega,by simp;omega,by rw [hM,hcs,hz,y61]⟩ (by show pj.es.length - (m+1) < pj.es.length - m;omega) (by refine swR [0,1,2] [] rfl rfl ?_;(repeat' first|exact y82 _|exact z18 _|apply y83|refine z16 rfl (z7 (fun _=>rfl)) ?_|constructor)))
    · repeat' ((first|(apply y4 ok;rfl)|(refine z21 (i:=j) rfl gj ?_)|(apply y39;first|omega|(unfold inI;omega))|(((with_reducible apply z15;omega));intro _)|((apply z8)<;>intro _))<;>conv=>whnf)
      all_goals try (exfalso;omega)
      have e:m=(s.pr j).es.length:=by omega
      all_goals refine z44 (j+1,M) ⟨by omega,by simp;omega,by rw [hM,hL,e];exact (z406 j fun j=>cat (s.pr j).es.length (R j)).symm⟩ (by show s.ps.length - (j+1) < s.ps.length - j;omega) (by refine swR [0,1,2] [] rfl rfl ?_;(repeat' first|exact y82 _|exact z18 _|apply y83|refine z16 rfl (z7 (fun _=>rfl)) ?_|constructor))
  · have e:j=s.ps.length:=by omega
    have eL:L=FIN:=by rw [hfin,hL,e]
    subst eL
    repeat' ((first|(apply y4 ok;rfl)|((apply z8)<;>intro _))<;>conv=>whnf)
    all_goals try (exfalso;omega)
    all_goals (refine rsD [] [2] rfl ?_;(repeat' first|exact y82 _|((apply z48 rfl rfl rfl);(focus ((repeat ((exact z38 (fun _=>rfl) _)));done));(focus (((simp;done));done)))|constructor))
noncomputable def z187 (st:State) (i:Nat) (e:Edge):State:=⟨st.a.set i e.to,if 0≤e.var then st.b.set e.var.toNat (e.val.ev st.b) else st.b⟩
theorem z622 {s:Sys} {st:State} (h:st.ok s) {i:Nat} {e:Edge} {n:Int} (he:e.ok n):(z187 st i e).ok s:=by
 refine ⟨by simp [z187,h.a],?_⟩
 unfold z187
 dsimp only
 split
 ·refine ⟨by simp [h.b.1],fun x hx=>?_⟩
  rcases List.mem_or_eq_of_mem_set hx with hx|rfl
  ·exact h.b.2 x hx
  ·exact y17 h.b _ (he.val (by assumption))
 ·exact h.b
theorem z738 (st:State) (e:Edge) (n:Int) (he:e.ok n) (i:Nat) (hi:i < st.a.length) (hl:st.a.length≤10) (hv:ValsOk st.b):CallsA Tryz.prog 173 [.agg [.sref 0 0 st.a.length,.sref 1 0 st.b.length],.int i,.agg e.cs] [.cells 1 (st.a.map enI),.cells 1 (st.b.map enI)] (.agg [.sref 0 0 st.a.length,.sref 1 0 st.b.length]) [.cells 1 ((z187 st i e).a.map enI),.cells 1 ((z187 st i e).b.map enI)]:=by
 have hb:=hv.1
 have hvar:=he.var
 by_cases h0:0≤e.var
 ·have c:=z523 st.b hv e.val (he.val h0)
  rw [y15] at c
  have hr:=y17 hv e.val (he.val h0)
  have e1:z187 st i e=⟨st.a.set i e.to,st.b.set e.var.toNat (e.val.ev st.b)⟩:=by unfold z187;rw [if_pos h0]
  rw [e1]
  generalize e.val.ev st.b=x at *
  refine z10 z19 Tryz.func173 rfl rfl 27 Tryz.ntmps173 (by simp) ?_
  repeat' ((first|(apply y4 ok;rfl)|(apply z37;kernel_rfl)|(apply y39;omega)|(((apply z15;omega));intro _)|((apply z8)<;>intro _)|(apply z112 [] [1] [] c;(focus ((repeat' first|exact z84|apply z55)<;>first|exact z171 rfl rfl rfl|rfl));rfl;rfl;(focus ((repeat' exact z17)<;>fail));((refine .inr ⟨rfl,?_⟩;repeat' first|exact True.intro|apply y39))))<;>conv=>whnf)
  all_goals first|(exfalso;omega)|exact h0|(show e.var.toNat < st.b.length;omega)|skip
  all_goals (refine rsD [0,1] [] rfl ?_;(repeat' first|exact y82 _|refine z80 rfl (z7 (fun _=>rfl)) ?_|refine z438 (by omega) ?_|constructor))
 ·have e1:z187 st i e=⟨st.a.set i e.to,st.b⟩:=by unfold z187;rw [if_neg h0]
  rw [e1]
  refine z10 z19 Tryz.func173 rfl rfl 27 Tryz.ntmps173 (by simp) ?_
  repeat' ((first|(apply y4 ok;rfl)|(apply y39;omega)|(((apply z15;omega));intro _)|((apply z8)<;>intro _))<;>conv=>whnf)
  all_goals try (exfalso;omega)
  all_goals (refine rsD [0,1] [] rfl ?_;(repeat' first|exact y82 _|exact z18 _|refine z80 rfl (z7 (fun _=>rfl)) ?_|refine z16 rfl (z7 (fun _=>rfl)) ?_|refine z438 (by omega) ?_|constructor))
noncomputable def z250 (s:Sys) (st:State) (x:Stp):State:=if 0≤x.q then z187 (z187 st x.p.toNat ((s.pr x.p.toNat).eg x.e.toNat)) x.q.toNat ((s.pr x.q.toNat).eg x.f.toNat) else z187 st x.p.toNat ((s.pr x.p.toNat).eg x.e.toNat)
theorem z907 {a:Int} {n:Nat} (h:0≤a) (h2:a < n):∃ m:Nat,a=m∧m < n:=⟨a.toNat,by omega,by omega⟩
theorem z777 {s:Sys} (hs:s.ok) {st:State} (h:st.ok s) {x:Stp} (hx:x.ok s):(z250 s st x).ok s:=by
 have hp:=hx.p
 have he:=hx.e
 have hq:=hx.q
 unfold z250
 have h1:=z622 (i:=x.p.toNat) h (hs.eg x.p.toNat x.e.toNat (by omega) (by omega))
 split
 ·rename_i hq0
  have hf:=hx.f hq0
  exact z622 h1 (hs.eg x.q.toNat x.f.toNat (by omega) (by omega))
 ·exact h1
theorem z696 (st:State) (i:Nat) (e:Edge):(z187 st i e).a.length=st.a.length∧(z187 st i e).b.length=st.b.length:=by
 unfold z187
 constructor
 ·simp
 ·dsimp only;split<;>simp
set_option maxHeartbeats 3200000 in
theorem z989 (s:Sys) (hs:s.ok) (st:State) (h:st.ok s) (x:Stp) (hx:x.ok s):CallsA Tryz.prog 117 [.agg s.cs,.agg st.cs,.agg x.cs] [] (.agg (z250 s st x).cs) []:=by
 have hn3:=hs.n3
 have ha:=h.a
 have hb:=h.b.1
 obtain ⟨p,e,q,f⟩:=x
 obtain ⟨hp,he,hq,hf⟩:=hx
 simp only at hp he hq hf
 obtain ⟨pi,rfl,hpi⟩:=z907 hp.1 hp.2
 simp only [y73] at he
 obtain ⟨ei,rfl,hei⟩:=z907 he.1 he.2
 have gp:=y14 hpi
 have ge:=y11 hei
 have hE:=hs.eg pi ei hpi hei
 have hP6:=hs.ne pi hpi
 have c1:=z738 st ((s.pr pi).eg ei) _ hE pi (by omega) (by omega) h.b
 have h1:=z622 (i:=pi) h hE
 have hl1:=z696 st pi ((s.pr pi).eg ei)
 rw [show st.a.length=0+st.a.length by omega,show st.b.length=0+st.b.length by omega] at c1
 by_cases hq0:0≤q
 ·have hf:=hf hq0
  obtain ⟨qi,rfl,hqi⟩:=z907 hq0 hq.2
  simp only [y73] at hf
  obtain ⟨fi,rfl,hfi⟩:=z907 hf.1 hf.2
  have gq:=y14 hqi
  have gf:=y11 hfi
  have hF:=hs.eg qi fi hqi hfi
  have hQ6:=hs.ne qi hqi
  have e0:z250 s st ⟨pi,ei,qi,fi⟩=z187 (z187 st pi ((s.pr pi).eg ei)) qi ((s.pr qi).eg fi):=by unfold z250;rw [if_pos hq0];rfl
  have c2:=z738 (z187 st pi ((s.pr pi).eg ei)) ((s.pr qi).eg fi) _ hF qi (by omega) (by omega) h1.b
  have hl2:=z696 (z187 st pi ((s.pr pi).eg ei)) qi ((s.pr qi).eg fi)
  rw [hl1.1,hl1.2,show st.a.length=0+st.a.length by omega,show st.b.length=0+st.b.length by omega] at c2
  rw [e0]
  generalize z187 (z187 st pi ((s.pr pi).eg ei)) qi ((s.pr qi).eg fi)=s2 at *
  generalize z187 st pi ((s.pr pi).eg ei)=s1 at *
  generalize (s.pr pi).eg ei=ed at *
  generalize (s.pr qi).eg fi=fd at *
  generalize s.pr pi=pp at *
  generalize s.pr qi=qq at *
  refine z10 z19 Tryz.func117 rfl rfl 51 Tryz.ntmps117 (by simp) ?_
  repeat' ((first|(apply y4 ok;rfl)|(apply z37;kernel_rfl)|(refine z21 (i:=pi) rfl gp ?_)|(refine z21 (i:=ei) rfl ge ?_)|(refine z21 (i:=qi) rfl gq ?_)|(refine z21 (i:=fi) rfl gf ?_)|(apply y39;first|omega|(dsimp only;omega)|exact z106 (fun _=>rfl))|((first|(apply z181 [5,7] [] c1;rfl;(focus ((repeat' first|exact z43|apply z64)<;>(refine z88 rfl ?_;((exact z7 fun _=>rfl))))))|(apply z181 [5,7] [] c2;rfl;(focus ((repeat' first|exact z43|apply z64)<;>(refine z88 rfl ?_;((exact z7 fun _=>rfl)))))));rfl;(focus ((repeat' first|exact z17|apply z14)<;>(refine z23 ?_;((exact z7 fun _=>rfl)))))))<;>conv=>whnf)
  all_goals (refine rsD [] [5,7] rfl ?_;(repeat' first|(refine z331 ?_;omega)|((apply z48 rfl rfl rfl);(focus ((repeat ((exact z38 (fun _=>rfl) _)));done));(focus (((simp;omega));done)))|apply z60|constructor))
 ·have e0:z250 s st ⟨pi,ei,q,f⟩=z187 st pi ((s.pr pi).eg ei):=by unfold z250;rw [if_neg hq0];rfl
  rw [e0]
  generalize z187 st pi ((s.pr pi).eg ei)=s1 at *
  generalize (s.pr pi).eg ei=ed at *
  generalize s.pr pi=pp at *
  refine z10 z19 Tryz.func117 rfl rfl 51 Tryz.ntmps117 (by simp) ?_
  repeat' ((first|(apply y4 ok;rfl)|(apply z37;kernel_rfl)|(refine z21 (i:=pi) rfl gp ?_)|(refine z21 (i:=ei) rfl ge ?_)|(apply y39;first|omega|(dsimp only;omega)|exact z106 (fun _=>rfl))|((apply z8)<;>intro _)|(apply z181 [5,7] [] c1;rfl;(focus ((repeat' first|exact z43|apply z64)<;>(refine z88 rfl ?_;((exact z7 fun _=>rfl)))));rfl;(focus ((repeat' first|exact z17|apply z14)<;>(refine z23 ?_;((exact z7 fun _=>rfl)))))))<;>conv=>whnf)
  all_goals first|(exfalso;apply hq0;assumption)|skip
  all_goals (refine rsD [] [5,7] rfl ?_;(repeat' first|(refine z331 ?_;omega)|((apply z48 rfl rfl rfl);(focus ((repeat ((exact z38 (fun _=>rfl) _)));done));(focus (((simp;omega));done)))|apply z60|constructor))
end Go.Proofs.YteinbnahinpegaaGreat
namespace Go.Proofs.YteinbnahinpegaaGreat
open Go.Gl
attribute [local irreducible] z20 AWP z30 z35 z34
def State.co (s:State):List AC:=[.own 1 (s.a.map enI),.own 1 (s.b.map enI)]
end Go.Proofs.YteinbnahinpegaaGreat
namespace Go.Proofs.YteinbnahinpegaaGreat
open Go.Gl
section
attribute [local irreducible] z20
theorem z293 (a b:List Int) (ha:a.length≤maxLen) (hb:b.length≤maxLen):CallsA Tryz.prog 32 [lst 1 enI a,lst 1 enI b] [] (.bool (decide (a=b))) []:=by
 unfold maxLen at ha hb
 refine z12 z19 Tryz.func32 rfl rfl 26 Tryz.ntmps32 (by simp) ?_
 repeat (refine y4 ok _ _ _ _ _ rfl ?_)
 refine z41 (fun h=>?_) (fun h=>?_)
 ·repeat (refine y4 ok _ _ _ _ _ rfl ?_)
  have hne:a≠b:=by rintro rfl;exact h rfl
  rw [y79 hne]
  exact ⟨[],by decide,rfl,rfl,y3 rfl,trivial⟩
 ·have hl:a.length=b.length:=by omega
  repeat (refine y4 ok _ _ _ _ _ rfl ?_)
  refine z940 (fun k:Nat=>([(0,lst 1 enI a),(1,lst 1 enI b),(5,.int k)],[])) (fun k=>k≤a.length∧a.take k=b.take k) (fun k=>a.length - k) 0 (by simp)
   ⟨[],rfl,by decide,rfl,⟨⟨rfl,rfl⟩,⟨rfl,rfl⟩,⟨rfl,rfl⟩,trivial⟩,trivial⟩ ?_
  intro k hk
  repeat (refine y4 ok _ _ _ _ _ rfl ?_)
  refine z8 (fun h=>?_) (fun h=>?_)
  ·have hka:k < a.length:=by omega
   repeat (first|refine y4 ok _ _ _ _ _ rfl ?_|refine y39 (by omega) ?_)
   refine ⟨_,z518 _ _ _ (by omega),?_⟩
   repeat ((refine y39 (by omega) ?_))
   refine ⟨_,z518 _ _ _ (by omega),?_⟩
   repeat (first|refine y4 ok _ _ _ _ _ rfl ?_|refine z37 (by kernel_rfl) ?_)
   refine z41 (fun h=>?_) (fun h=>?_)
   ·repeat (refine y4 ok _ _ _ _ _ rfl ?_)
    have hne:a≠b:=by rintro rfl;exact h rfl
    rw [y79 hne]
    exact ⟨[],by decide,rfl,rfl,y3 rfl,trivial⟩
   ·repeat (first|refine y4 ok _ _ _ _ _ rfl ?_|refine y39 (by first|omega|(unfold inI;omega)) ?_)
    refine ⟨k+1,[],⟨by omega,?_⟩,by omega,rfl,by decide,rfl,⟨⟨rfl,rfl⟩,⟨rfl,rfl⟩,⟨rfl,rfl⟩,trivial⟩,trivial⟩
    have h' : a[k]=b[k]:=h
    rw [y46 hka,y46 (by omega),hk.2,h']
  ·repeat (refine y4 ok _ _ _ _ _ rfl ?_)
   have he:a=b:=by
    have:=hk.2
    rwa [y53 (by omega),y53 (by omega)] at this
   rw [y78 he]
   exact ⟨[],by decide,rfl,rfl,y3 rfl,trivial⟩
end
attribute [local irreducible] z20 AWP z30 z35 z34
def z962 (l:List Int) (i k:Nat):Bool:=decide (l.getD i 0=l.getD k 0)
end Go.Proofs.YteinbnahinpegaaGreat
namespace Go.Proofs.YteinbnahinpegaaGreat
open Go.Gl
attribute [local irreducible] z20 AWP z30 z35 z34 RetS z42
theorem z702 (a b:State) (ha:a.sm) (hb:b.sm):CallsA Tryz.prog 174 [.agg a.cs,.agg b.cs] [] (.bool (decide (a=b))) []:=by
 have h1:=ha.a
 have h2:=ha.b
 have h3:=hb.a
 have h4:=hb.b
 have c1:=z293 a.a b.a (by unfold maxLen;omega) (by unfold maxLen;omega)
 have c2:=z293 a.b b.b (by unfold maxLen;omega) (by unfold maxLen;omega)
 obtain ⟨a1,a2⟩:=a
 obtain ⟨b1,b2⟩:=b
 simp only at *
 have e:decide ((⟨a1,a2⟩:State)=⟨b1,b2⟩)=(decide (a1=b1) && decide (a2=b2)):=by
  by_cases h:a1=b1<;>by_cases k:a2=b2<;>simp [h,k]
 rw [e]
 generalize decide (a1=b1)=p at *
 generalize decide (a2=b2)=q at *
 refine z12 z19 Tryz.func174 rfl rfl 17 Tryz.ntmps174 (by simp) ?_
 cases p
 all_goals
  repeat' ((first|(apply y4 ok;rfl)|(apply z6 (c1);rfl;rfl)|(apply z6 (c2);rfl;rfl))<;>conv=>whnf)
  all_goals exact z24 rfl rfl
def z322 (t:State):List State→Int→Int
 |[],_=>-1
 |x::r,k=>if x=t then k else z322 t r (k+1)
theorem z852 (t:State):∀ (l:List State) (k:Int),0≤k→-1≤z322 t l k∧z322 t l k < k+l.length:=by
 intro l
 induction l with
 |nil=>intro k h;simp only [z322,y55];omega
 |cons x l ih =>
  intro k h
  simp only [z322,y54]
  split
  ·omega
  ·have:=ih (k+1) (by omega);omega
theorem z1001 (t:State) (l:List State) (k:Nat) (h:k < l.length):z322 t (l.drop k) k=if l[k]=t then (k:Int) else z322 t (l.drop (k+1)) ((k+1:Nat):Int):=by
 rw [y76 h,z322];rfl
theorem z1122 (l:List State) (t:State) (hl:l.length≤1000) (hs:∀ s∈l,s.sm) (ht:t.sm):CallsA Tryz.prog 118 [lst 2 State.cs l,.agg t.cs] [] (.int (z322 t l 0)) []:=by
 refine z12 z19 Tryz.func118 rfl rfl 19 Tryz.ntmps118 (by simp) ?_
 repeat' (((apply y4 ok;rfl))<;>conv=>whnf)
 refine z97 (fun k:Nat=>([(0,lst 2 State.cs l),(3,.ptr 0 none 0),(5,.int k)],[.cells 2 [t.cs]])) (fun k=>k≤l.length∧z322 t l 0=z322 t (l.drop k) k) (fun k=>l.length - k) 0 ⟨by omega,rfl⟩ ⟨[0],rfl,by decide,rfl,by repeat' (first|exact True.intro|exact ⟨rfl,rfl⟩|apply y39),by repeat' (first|exact True.intro|exact z27 rfl rfl|apply y39)⟩ ?_
 intro k hk
 by_cases hkl:k < l.length
 ·have c:=z702 l[k] t (hs _ (y40 _)) ht
  have e:=z1001 t l k hkl
  rw [e] at hk
  have g0:(l.map State.cs)[k]?=some (State.cs l[k]):=by rw [y47,y41 hkl];rfl
  by_cases hx:l[k]=t
  ·rw [if_pos hx] at hk
   rw [y78 hx] at c
   generalize l[k]=x at *
   repeat' ((first|(apply y4 ok;rfl)|(apply z37;kernel_rfl)|(refine z21 (i:=k) rfl g0 ?_)|(apply y39;omega)|((apply z8)<;>intro _)|(apply z6 (c);rfl;rfl))<;>conv=>whnf)
   all_goals first|(exfalso;omega)|exact z508 rfl hk.2
  ·rw [if_neg hx] at hk
   rw [y79 hx] at c
   generalize l[k]=x at *
   repeat' ((first|(apply y4 ok;rfl)|(apply z37;kernel_rfl)|(refine z21 (i:=k) rfl g0 ?_)|(apply y39;first|omega|(unfold inI;omega))|((apply z8)<;>intro _)|(apply z6 (c);rfl;rfl))<;>conv=>whnf)
   all_goals try (exfalso;omega)
   exact z81 (k+1) [0] ⟨by omega,hk.2⟩ (by omega) ⟨rfl,by decide,rfl,by repeat' (first|exact True.intro|exact ⟨rfl,rfl⟩|apply y39),by repeat' (first|exact True.intro|exact z27 rfl rfl|apply y39)⟩
 ·have e:l.drop k=[]:=y80 (by omega)
  rw [e] at hk
  repeat' ((first|(apply y4 ok;rfl)|(apply y39;omega)|(((with_reducible apply z15;omega));intro _)|((apply z8)<;>intro _))<;>conv=>whnf)
  all_goals first|(exfalso;omega)|exact z508 rfl hk.2
end Go.Proofs.YteinbnahinpegaaGreat
namespace Go.Proofs.YteinbnahinpegaaGreat
open Go.Gl
attribute [local irreducible] z20 AWP z30 z35 z34 RetS z42
open Classical in
noncomputable def inn (s:Sys) (st0:State):List Stp→List State→List Int→Option (List State×List Int)
 |[],S,N=>some (S,N)
 |x::r,S,N =>
  if z322 (z250 s st0 x) S 0 < 0 then
   (if 60≤(S.length:Int) then none else inn s st0 r (S++[z250 s st0 x]) (if (S.length:Int)∈N then N else N++[(S.length:Int)]))
  else
   (if 60≤z322 (z250 s st0 x) S 0 then none else inn s st0 r S (if z322 (z250 s st0 x) S 0∈N then N else N++[z322 (z250 s st0 x) S 0]))
open Classical in
noncomputable def z714 (L:List Stp) (N:List Int) (i:Nat):List Int:=if L=[] then N++[(i:Int)] else N
noncomputable def grow (s:Sys):Nat→List State→List (List Int)→Nat→Option Graph
 |0,_,_,_=>none
 |f+1,S,G,i=>match S[i]? with
  |none=>some ⟨S,G⟩
  |some st0=>match inn s st0 (z552 s st0) S [] with
   |none=>none
   |some (S',N)=>grow s f S' (G++[z714 (z552 s st0) N i]) (i+1)
theorem State.ok.sm {s:Sys} (hs:s.ok) {st:State} (h:st.ok s):st.sm:=⟨by have:=h.a;have:=hs.n3;omega,by have:=h.b.1;omega⟩
theorem z701 {s:Sys} (hs:s.ok) {st:State} : (z552 s st).length≤324:=by
 have h3:=hs.n3
 have:=z675 (n:=s.ps.length) (c:=108) (f:=fun j=>cat (s.pr j).es.length (z449 s st j)) (fun j hj=>by
  have h6:=hs.ne j hj
  have:=z675 (n:=(s.pr j).es.length) (c:=18) (f:=z449 s st j) (fun m _=>by
   unfold z449
   split
   ·simp
   split
   ·simp
   ·exact z722 hs)
  omega)
 unfold z552
 omega
structure GInv (s:Sys) (S:List State) (G:List (List Int)) (i:Nat):Prop where
 le:i≤S.length
 n:S.length≤60
 one:1≤S.length
 g:G.length=i
 st:∀ t∈S,t.ok s
 row:∀ r∈G,r.length≤400
theorem inn_inv {s:Sys} (hs:s.ok) {st0:State} (h0:st0.ok s):∀ (L:List Stp),(∀ x∈L,x.ok s)→∀ (S:List State) (N:List Int) (S' : List State) (N' : List Int),S.length≤60→(∀ t∈S,t.ok s)→inn s st0 L S N=some (S',N')→S'.length≤60∧S.length≤S'.length∧(∀ t∈S',t.ok s)∧N'.length≤N.length+L.length∧∀ i,i < S.length→S'[i]?=S[i]?:=by
 intro L
 induction L with
 |nil =>
  intro _ S N S' N' h1 h2 h3
  simp only [inn,Option.some.injEq,Prod.mk.injEq] at h3
  obtain ⟨rfl,rfl⟩:=h3
  exact ⟨h1,y48 _,h2,by simp,fun _ _=>rfl⟩
 |cons x L ih =>
  intro hx S N S' N' h1 h2 h3
  have hxo:=z777 hs h0 (hx x (by simp))
  have ih:=ih fun y hy=>hx y (by simp [hy])
  simp only [inn] at h3
  split at h3
  ·split at h3
   ·cases h3
   ·obtain ⟨a1,a2,a3,a4,a5⟩:=ih _ _ S' N' (by simp;omega) (fun t ht=>by
     rcases List.mem_append.1 ht with h|h
     ·exact h2 t h
     ·rw [List.mem_singleton.1 h];exact hxo) h3
    refine ⟨a1,by simp at a2;omega,a3,?_,fun i hi=>by rw [a5 i (by simp;omega),y62 hi]⟩
    simp only [y54]
    split at a4<;>(try simp at a4)<;>omega
  ·split at h3
   ·cases h3
   ·obtain ⟨a1,a2,a3,a4,a5⟩:=ih _ _ S' N' h1 h2 h3
    refine ⟨a1,a2,a3,?_,a5⟩
    simp only [y54]
    split at a4<;>(try simp at a4)<;>omega
theorem grow_inv {s:Sys} (hs:s.ok):∀ (f:Nat) (S:List State) (G:List (List Int)) (i:Nat) (g:Graph),GInv s S G i→grow s f S G i=some g→GInv s g.st g.nx g.st.length:=by
 intro f
 induction f with
 |zero=>intro S G i g _ h;simp [grow] at h
 |succ f ih =>
  intro S G i g hI h
  simp only [grow] at h
  split at h
  ·rename_i hn
   simp only [Option.some.injEq] at h
   subst h
   have:S.length≤i:=List.getElem?_eq_none_iff.1 hn
   have e:i=S.length:=by have:=hI.le;omega
   subst e
   exact hI
  ·rename_i st0 hst
   have hil:=(List.getElem?_eq_some_iff.1 hst).1
   have h0:=hI.st st0 (List.mem_of_getElem? hst)
   split at h
   ·cases h
   ·rename_i S' N hin
    obtain ⟨a1,a2,a3,a4,a5⟩:=inn_inv hs h0 _ (fun x hx=>z892 x hx) _ _ _ _ hI.n hI.st hin
    have hl:=z701 hs (st:=st0)
    refine ih _ _ _ _ ⟨by omega,a1,by have:=hI.one;omega,by simp [hI.g],a3,fun r hr=>?_⟩ h
    rcases List.mem_append.1 hr with h|h
    ·exact hI.row r h
    ·rw [List.mem_singleton.1 h]
     unfold z714
     simp only [y55] at a4
     split<;>(try simp)<;>omega
end Go.Proofs.YteinbnahinpegaaGreat
namespace Go.Proofs.YteinbnahinpegaaGreat
open Go.Gl
attribute [local irreducible] z20 AWP z30 z35 z34 RetS z42
noncomputable def z335 (s:Sys):Option Graph:=if sysB s=true then grow s 61 [⟨List.replicate s.ps.length 0,s.init⟩] [] 0 else none
theorem z609 {q:Bool} : LocLe (.tup [.agg [.nils,.nils],.bool q]) (.tup [.agg (⟨[],[]⟩:Graph).cs,.bool q]):=z113 (.cons (z60 (.cons z52 (.cons z52 .nil))) (.cons (y82 _) .nil))
theorem z428 {objs:Nat→AObj} {π Bn:List Nat} {o:Nat} {l:List State} (ho:objs o=.cells 2 (l.map State.cs)) (h1:idx π o=none) (h2:inB Bn o=true):bor objs π Bn (.sref o 0 l.length)=lst 2 State.cs l :=
 z195 ho h1 h2 (by simp) (z38 (fun _=>rfl) _)
set_option maxHeartbeats 6400000 in
theorem z676 (s:Sys) (hsm:s.s1):CallsA Tryz.prog 61 [.agg s.cs] [] (.tup [.agg ((z335 s).getD ⟨[],[]⟩).cs,.bool (z335 s).isSome]) []:=by
 have c0:=z746 s hsm
 by_cases hv:sysB s=true
 ·have hs:=Sys.ok_of hv
  have hn3:=hs.n3
  have eb:z335 s=grow s 61 [⟨List.replicate s.ps.length 0,s.init⟩] [] 0:=by unfold z335;rw [if_pos hv]
  rw [if_pos hv,hv] at c0
  have hI0:GInv s [⟨List.replicate s.ps.length 0,s.init⟩] [] 0:=⟨by simp,by simp,by simp,rfl,fun t ht=>by
   rw [List.mem_singleton.1 ht]
   exact ⟨by simp,hs.init⟩,by simp⟩
  rw [eb]
  generalize (⟨List.replicate s.ps.length 0,s.init⟩:State)=st1 at *
  generalize hR:grow s 61 [st1] [] 0=R at *
  refine z10 z19 Tryz.func61 rfl rfl 96 Tryz.ntmps61 (by simp) ?_
  repeat' ((first|(apply y4 ok;rfl)|(apply z6 (c0);rfl;rfl))<;>conv=>whnf)
  refine y81 (y84 1 rfl) ?_
  refine z92 (fun x:Nat×List State×List (List Int)=>([(1,.ptr 0 none 0),(2,.ptr 1 none 0),(6,.ptr 2 none 0),(7,.int x.1)],[.cells 2 [s.cs],.cells 2 [[.nils,.nils]],.cells 2 [[.sref 3 0 x.2.1.length,.sref 4 0 x.2.2.length]],.cells 2 (x.2.1.map State.cs),.cells 1 (x.2.2.map encL)])) (fun x=>GInv s x.2.1 x.2.2 x.1∧grow s (61 - x.1) x.2.1 x.2.2 x.1=R) (fun x=>61 - x.1) (0,[st1],[]) ⟨hI0,hR⟩ (by refine swR [0,1,4,3,5] [] rfl rfl ?_;(repeat' first|exact y82 _|exact z57|apply y83|refine z16 rfl (z36) ?_|constructor)) ?_
  rintro ⟨i,S,G⟩ ⟨hI,hg⟩
  simp only at hI hg
  have hS60:=hI.n
  have hGi:=hI.g
  have hile:=hI.le
  by_cases hil:i < S.length
  ·obtain ⟨st0,hst⟩:∃ st0,S[i]?=some st0:=⟨S[i],y41 hil⟩
   have h0:=hI.st st0 (List.mem_of_getElem? hst)
   rw [show 61 - i=(60 - i)+1 by omega,grow,hst] at hg
   dsimp only at hg
   have cS:=z988 s hs st0 h0
   have hLl:=z701 hs (st:=st0)
   have hLo:∀ x∈z552 s st0,x.ok s:=fun x hx=>z892 x hx
   have gS:(S.map State.cs)[i]?=some (State.cs st0):=by rw [y47,hst];rfl
   generalize z552 s st0=LST at *
   generalize hRIN:inn s st0 LST S []=RIN at *
   repeat' ((first|(apply y4 ok;rfl)|(apply z37;kernel_rfl)|(refine z21 (i:=i) rfl gS ?_)|(apply y39;omega)|((apply z8)<;>intro _)|(apply z6 (cS);rfl;rfl))<;>conv=>whnf)
   all_goals first|(exfalso;dsimp only at *;omega)|skip
   refine z92 (fun x:Nat×List State×List Int=>([(1,.ptr 0 none 0),(2,.ptr 1 none 0),(6,.ptr 2 none 0),(7,.int i),(8,lst 4 Stp.cs LST),(9,.sref 5 0 x.2.2.length),(10,.int x.1)],[.cells 2 [s.cs],.cells 2 [[.nils,.nils]],.cells 2 [[.sref 3 0 x.2.1.length,.sref 4 0 G.length]],.cells 2 (x.2.1.map State.cs),.cells 1 (G.map encL),.cells 1 (x.2.2.map enI)])) (fun x=>x.1≤LST.length∧x.2.1.length≤60∧(∀ t∈x.2.1,t.ok s)∧x.2.1[i]?=some st0∧x.2.2.length≤x.1∧inn s st0 (LST.drop x.1) x.2.1 x.2.2=RIN) (fun x=>LST.length - x.1) (0,S,[]) ⟨by simp,hS60,hI.st,hst,by simp,hRIN⟩ (by refine swR [0,1,2,3,4,5] [] rfl rfl ?_;(repeat' first|exact y82 _|exact z18 _|apply y83|((refine z16 rfl ?_ ?_);(focus ((repeat' (first|exact z36|exact z7 (fun _=>rfl)));done)))|constructor)) ?_
   rintro ⟨k,S',N⟩ ⟨hk,hS',hSo,hSi,hN,hin⟩
   simp only at hk hS' hSo hSi hN hin
   by_cases hkl:k < LST.length
   ·rw [y76 hkl,inn] at hin
    have hx:=hLo LST[k] (y40 _)
    have g1:(LST.map Stp.cs)[k]?=some (Stp.cs LST[k]):=by rw [y47,y41 hkl];rfl
    have c83:=z989 s hs st0 h0 LST[k] hx
    have hto:=z777 hs h0 hx
    have g0:(S'.map State.cs)[i]?=some (State.cs st0):=by rw [y47,hSi];rfl
    have hiS:i < S'.length:=(List.getElem?_eq_some_iff.1 hSi).1
    generalize z250 s st0 LST[k]=to at *
    have c84:=z1122 S' to (by omega) (fun t ht=>(hSo t ht).sm hs) (hto.sm hs)
    have hfr:=z852 to S' 0 (by omega)
    generalize z322 to S' 0=n at *
    generalize LST[k]=x at *
    have cN:=fun v=>z1121 N (by unfold maxLen;omega) v
    by_cases hn:n < 0
    ·rw [if_pos hn] at hin
     by_cases h60:60≤(S'.length:Int)
     ·rw [if_pos h60] at hin
      subst hin
      dsimp only at hg
      subst hg
      repeat' ((first|(apply y4 ok;rfl)|(apply z37;kernel_rfl)|(refine z21 (i:=i) rfl g0 ?_)|(refine z21 (i:=k) rfl g1 ?_)|(apply y39;first|omega|(dsimp only;omega)|((try dsimp only);simp only [y45,y44,y43,y42,y54,y55];omega)|exact ⟨rfl,z25 rfl z32⟩)|((apply z8)<;>intro _)|(apply z6 (c83);rfl;rfl)|(apply z112 [] [3] [] c84;(focus (exact z55 (z428 rfl rfl rfl) (z55 rfl z84)));rfl;rfl;(focus ((repeat' exact z17)<;>fail));((refine .inr ⟨rfl,?_⟩;repeat' exact True.intro))))<;>conv=>whnf)
      all_goals first|(exfalso;omega)|(exfalso;dsimp only at *;omega)|skip
      all_goals refine y13 [] [] rfl rfl rfl ?_
      all_goals exact y12 z609 .nil
     ·rw [if_neg h60] at hin
      have cM:=cN S'.length
      by_cases hm:(S'.length:Int)∈N
      ·rw [if_pos hm] at hin
       rw [y78 hm] at cM
       repeat' ((first|(apply y4 ok;rfl)|(apply z37;kernel_rfl)|(refine z21 (i:=i) rfl g0 ?_)|(refine z21 (i:=k) rfl g1 ?_)|(apply y39;first|omega|(unfold inI;omega)|(dsimp only;omega)|((try dsimp only);simp only [y45,y44,y43,y42,y54,y55];omega)|exact ⟨rfl,z25 rfl z32⟩)|((apply z8)<;>intro _)|(apply z6 (c83);rfl;rfl)|((first|(apply z112 [] [3] [] c84;(focus (exact z55 (z428 rfl rfl rfl) (z55 rfl z84)));rfl)|(apply z112 [] [5] [] cM;(focus ((repeat' first|exact z84|apply z55)<;>first|exact z171 rfl rfl rfl|rfl));rfl));rfl;(focus ((repeat' exact z17)<;>fail));((refine .inr ⟨rfl,?_⟩;repeat' exact True.intro))))<;>conv=>whnf)
       all_goals first|(exfalso;omega)|(exfalso;contradiction)|skip
       all_goals refine z44 (k+1,S'++[to],N) ⟨by omega,by simp;omega,fun t ht=>by rcases List.mem_append.1 ht with h|h;exact hSo t h;rw [List.mem_singleton.1 h];exact hto,by rw [← hSi];exact y62 hiS,by show N.length≤k+1;omega,hin⟩ (by show LST.length - (k+1) < LST.length - k;omega) (by refine swR [0,1,2,8,4,5] [] rfl rfl ?_;(repeat' first|exact y82 _|exact z18 _|(refine z72 ?_;((simp;done)))|apply y83|((first|refine z47 rfl ?_ ?_|refine z16 rfl ?_ ?_);(focus ((repeat' (first|exact z7 (fun _=>rfl)|apply z33));done)))|(refine z100 ?_ ?_;(focus (omega)))|constructor))
      ·rw [if_neg hm] at hin
       rw [y79 hm] at cM
       repeat' ((first|(apply y4 ok;rfl)|(apply z37;kernel_rfl)|(refine z21 (i:=i) rfl g0 ?_)|(refine z21 (i:=k) rfl g1 ?_)|(apply y39;first|omega|(unfold inI;omega)|(dsimp only;omega)|((try dsimp only);simp only [y45,y44,y43,y42,y54,y55];omega)|exact ⟨rfl,z25 rfl z32⟩)|((apply z8)<;>intro _)|(apply z6 (c83);rfl;rfl)|((first|(apply z112 [] [3] [] c84;(focus (exact z55 (z428 rfl rfl rfl) (z55 rfl z84)));rfl)|(apply z112 [] [5] [] cM;(focus ((repeat' first|exact z84|apply z55)<;>first|exact z171 rfl rfl rfl|rfl));rfl));rfl;(focus ((repeat' exact z17)<;>fail));((refine .inr ⟨rfl,?_⟩;repeat' exact True.intro))))<;>conv=>whnf)
       all_goals first|(exfalso;omega)|(exfalso;contradiction)|skip
       all_goals refine z44 (k+1,S'++[to],N++[(S'.length:Int)]) ⟨by omega,by simp;omega,fun t ht=>by rcases List.mem_append.1 ht with h|h;exact hSo t h;rw [List.mem_singleton.1 h];exact hto,by rw [← hSi];exact y62 hiS,by simp;omega,hin⟩ (by show LST.length - (k+1) < LST.length - k;omega) (by refine swR [0,1,2,8,4,10] [] rfl rfl ?_;(repeat' first|exact y82 _|exact z18 _|(refine z72 ?_;((simp;done)))|apply y83|((first|refine z47 rfl ?_ ?_|refine z16 rfl ?_ ?_);(focus ((repeat' (first|exact z7 (fun _=>rfl)|apply z33));done)))|(refine z100 ?_ ?_;(focus (omega)))|constructor))
    ·rw [if_neg hn] at hin
     by_cases h60:60≤n
     ·rw [if_pos h60] at hin
      subst hin
      dsimp only at hg
      subst hg
      repeat' ((first|(apply y4 ok;rfl)|(apply z37;kernel_rfl)|(refine z21 (i:=i) rfl g0 ?_)|(refine z21 (i:=k) rfl g1 ?_)|(apply y39;omega)|((apply z8)<;>intro _)|(apply z6 (c83);rfl;rfl)|(apply z112 [] [3] [] c84;(focus (exact z55 (z428 rfl rfl rfl) (z55 rfl z84)));rfl;rfl;(focus ((repeat' exact z17)<;>fail));((refine .inr ⟨rfl,?_⟩;repeat' exact True.intro))))<;>conv=>whnf)
      all_goals (exfalso;omega)
      all_goals refine y13 [] [] rfl rfl rfl ?_
      all_goals exact y12 z609 .nil
     ·rw [if_neg h60] at hin
      have cM:=cN n
      by_cases hm:n∈N
      ·rw [if_pos hm] at hin
       rw [y78 hm] at cM
       repeat' ((first|(apply y4 ok;rfl)|(apply z37;kernel_rfl)|(refine z21 (i:=i) rfl g0 ?_)|(refine z21 (i:=k) rfl g1 ?_)|(apply y39;first|omega|(unfold inI;omega)|(dsimp only;omega))|((apply z8)<;>intro _)|(apply z6 (c83);rfl;rfl)|((first|(apply z112 [] [3] [] c84;(focus (exact z55 (z428 rfl rfl rfl) (z55 rfl z84)));rfl)|(apply z112 [] [5] [] cM;(focus ((repeat' first|exact z84|apply z55)<;>first|exact z171 rfl rfl rfl|rfl));rfl));rfl;(focus ((repeat' exact z17)<;>fail));((refine .inr ⟨rfl,?_⟩;repeat' exact True.intro))))<;>conv=>whnf)
       all_goals try (exfalso;omega)
       all_goals refine z44 (k+1,S',N) ⟨by omega,hS',hSo,hSi,by show N.length≤k+1;omega,hin⟩ (by show LST.length - (k+1) < LST.length - k;omega) (by refine swR [0,1,2,3,4,5] [] rfl rfl ?_;(repeat' first|exact y82 _|exact z18 _|apply y83|refine z16 rfl (z7 (fun _=>rfl)) ?_|constructor))
      ·rw [if_neg hm] at hin
       rw [y79 hm] at cM
       repeat' ((first|(apply y4 ok;rfl)|(apply z37;kernel_rfl)|(refine z21 (i:=i) rfl g0 ?_)|(refine z21 (i:=k) rfl g1 ?_)|(apply y39;first|omega|(unfold inI;omega)|(dsimp only;omega)|((try dsimp only);simp only [y45,y44,y43,y42,y54,y55];omega)|exact ⟨rfl,z25 rfl z32⟩)|((apply z8)<;>intro _)|(apply z6 (c83);rfl;rfl)|((first|(apply z112 [] [3] [] c84;(focus (exact z55 (z428 rfl rfl rfl) (z55 rfl z84)));rfl)|(apply z112 [] [5] [] cM;(focus ((repeat' first|exact z84|apply z55)<;>first|exact z171 rfl rfl rfl|rfl));rfl));rfl;(focus ((repeat' exact z17)<;>fail));((refine .inr ⟨rfl,?_⟩;repeat' exact True.intro))))<;>conv=>whnf)
       all_goals try (exfalso;omega)
       all_goals refine z44 (k+1,S',N++[n]) ⟨by omega,hS',hSo,hSi,by simp;omega,hin⟩ (by show LST.length - (k+1) < LST.length - k;omega) (by refine swR [0,1,2,3,4,8] [] rfl rfl ?_;(repeat' first|exact y82 _|exact z18 _|(refine z72 ?_;((simp;done)))|apply y83|((first|refine z47 rfl ?_ ?_|refine z16 rfl ?_ ?_);(focus ((repeat' (first|exact z7 (fun _=>rfl)|apply z33));done)))|(refine z100 ?_ ?_;(focus (omega)))|constructor))
   ·rw [y80 (by omega),inn] at hin
    subst hin
    dsimp only at hg
    have hiS:i < S'.length:=(List.getElem?_eq_some_iff.1 hSi).1
    have hnext:GInv s S' (G++[z714 LST N i]) (i+1):=⟨by omega,hS',by omega,by simp [hGi],hSo,fun r hr=>by
     rcases List.mem_append.1 hr with h|h
     ·exact hI.row r h
     ·rw [List.mem_singleton.1 h]
      unfold z714
      split<;>(try simp)<;>omega⟩
    rw [show 60 - i=61 - (i+1) by omega] at hg
    by_cases hz:LST=[]
    ·have er:z714 LST N i=N++[(i:Int)]:=by unfold z714;rw [if_pos hz]
     have hz0:LST.length=0:=by rw [hz];rfl
     rw [er] at hg hnext
     repeat' ((first|(apply y4 ok;rfl)|(apply y39;first|omega|(unfold inI;omega)|(dsimp only;omega)|((try dsimp only);simp only [y45,y44,y43,y42,y54,y55];omega)|exact ⟨rfl,z25 rfl z32⟩)|((first|(with_reducible apply z15;omega)|(apply z15;omega));intro _)|((apply z8)<;>intro _))<;>conv=>whnf)
     all_goals try (exfalso;omega)
     all_goals refine z44 (i+1,S',G++[N++[(i:Int)]]) ⟨hnext,hg⟩ (by show 61 - (i+1) < 61 - i;omega) (by refine swR [0,1,2,3,9] [7] rfl rfl ?_;(repeat' first|exact y82 _|exact z18 _|(refine z72 ?_;((simp;done)))|apply y83|((first|refine z47 rfl ?_ ?_|refine z16 rfl ?_ ?_);(focus ((repeat' (first|exact z7 (fun _=>rfl)|apply z33));done)))|(refine z100 ?_ ?_;(focus (omega)))|((apply z93 rfl rfl rfl);(focus ((repeat (first|exact z38 (fun _=>rfl) _|apply z119|apply z166|rfl));done));(focus (((simp;done));done)))|(refine z79 ?_ ?_;(focus (simp;done)))|constructor))
    ·have er:z714 LST N i=N:=by unfold z714;rw [if_neg hz]
     have hz0:LST.length≠0:=fun h=>hz (y70 h)
     rw [er] at hg hnext
     repeat' ((first|(apply y4 ok;rfl)|(apply y39;first|omega|(unfold inI;omega)|((try dsimp only);simp only [y45,y44,y43,y42,y54,y55];omega)|exact ⟨rfl,z25 rfl z32⟩)|((first|(with_reducible apply z15;omega)|(apply z15;omega));intro _)|((apply z8)<;>intro _))<;>conv=>whnf)
     all_goals try (exfalso;omega)
     all_goals refine z44 (i+1,S',G++[N]) ⟨hnext,hg⟩ (by show 61 - (i+1) < 61 - i;omega) (by refine swR [0,1,2,3,7] [5] rfl rfl ?_;(repeat' first|exact y82 _|exact z18 _|(refine z72 ?_;((simp;done)))|apply y83|((first|refine z47 rfl ?_ ?_|refine z16 rfl ?_ ?_);(focus ((repeat' (first|exact z7 (fun _=>rfl)|apply z33));done)))|(refine z100 ?_ ?_;(focus (omega)))|((apply z93 rfl rfl rfl);(focus ((repeat ((exact z38 (fun _=>rfl) _)));done));(focus (((simp;done));done)))|constructor))
  ·have hn:S[i]?=none:=List.getElem?_eq_none_iff.2 (by omega)
   rw [show 61 - i=(60 - i)+1 by omega,grow,hn] at hg
   dsimp only at hg
   subst hg
   repeat' ((first|(apply y4 ok;rfl)|(apply y39;omega)|(((apply z15;omega));intro _)|((apply z8)<;>intro _))<;>conv=>whnf)
   all_goals first|(exfalso;contradiction)|skip
   all_goals (refine rsD [] [3,4] rfl ?_;(repeat' first|exact y82 _|((apply z48 rfl rfl rfl);(focus ((repeat ((exact z38 (fun _=>rfl) _)));done));(focus (((simp;done));done)))|apply z60|apply z113|constructor))
 ·have eb:z335 s=none:=by unfold z335;rw [if_neg hv]
  rw [if_neg hv,(y68 _).mp hv] at c0
  rw [eb]
  refine z10 z19 Tryz.func61 rfl rfl 96 Tryz.ntmps61 (by simp) ?_
  repeat' ((first|(apply y4 ok;rfl)|(apply z6 (c0);rfl;rfl))<;>conv=>whnf)
  all_goals refine y13 [] [] rfl rfl rfl ?_
  all_goals exact y12 z609 .nil
def isSt (bs:List Int) (i:Int) (q:Int) (t:State) (q' : Int):Prop:=∃ a b:Int,t=⟨[i % 3],[a,b,0]⟩∧q'=q+1+1 ∧
 CallsA Tryz.prog 58 [.ptr 0 none 0,.int 3] [rdO bs q] (.int a) [rdO bs (q+1)]∧CallsA Tryz.prog 58 [.ptr 0 none 0,.int 2] [rdO bs (q+1)] (.int b) [rdO bs (q+1+1)]
def isRow (bs:List Int) (n:Nat) (q:Int) (r:List Int) (q' : Int):Prop:=∃ a b c:Int,r=(if c=0∧b≠a then [a,b] else [a])∧q'=q+1+1+1 ∧
 CallsA Tryz.prog 58 [.ptr 0 none 0,.int n] [rdO bs q] (.int a) [rdO bs (q+1)]∧CallsA Tryz.prog 58 [.ptr 0 none 0,.int n] [rdO bs (q+1)] (.int b) [rdO bs (q+1+1)] ∧
 CallsA Tryz.prog 58 [.ptr 0 none 0,.int 2] [rdO bs (q+1+1)] (.int c) [rdO bs (q+1+1+1)]
structure Small (bs:List Int) (q q' : Int) (g:Graph) (m:Nat) (pf pg:Nat→Int):Prop where
 num:CallsA Tryz.prog 60 [.ptr 0 none 0,.sref 1 0 6] [rdO bs q,.cells 1 ([3,4,2,5,1,6].map enI)] (.int m) [rdO bs (pf 0),.cells 1 ([3,4,2,5,1,6].map enI)]
 m1:1≤m
 m6:m≤6
 sl:g.st.length=m
 nl:g.nx.length=m
 st:∀ k (h:k < g.st.length),isSt bs (m - k) (pf k) g.st[k] (pf (k+1))
 mid:pf m=pg 0
 row:∀ k (h:k < g.nx.length),isRow bs m (pg k) g.nx[k] (pg (k+1))
 last:pg m=q'
 q0:q≤q'
 q1:q'≤q+40
theorem z894 (bs:List Int) (hb:BytesOk bs) (q:Int) (hq:0≤q∧q≤999990000):∃ g q' m pf pg,Small bs q q' g m pf pg:=by
 obtain ⟨w,mw,cw⟩:=z108 bs hb q (by omega) (by omega) [3,4,2,5,1,6] (by decide) (by decide)
 simp only [List.mem_cons,List.not_mem_nil,or_false] at mw
 obtain ⟨m,rfl⟩:∃ m:Nat,w=m:=⟨w.toNat,by omega⟩
 obtain ⟨S,pf,h1,h2,h3,h4⟩:=z370 (fun k r t r'=>isSt bs (m - k) r t r') (q+1) 2 m (fun k r hk a1 a2=>by
  obtain ⟨a,_,ca⟩:=z69 bs hb r 3 (by omega) (by omega) (by omega)
  obtain ⟨b,_,cb⟩:=z69 bs hb (r+1) 2 (by omega) (by omega) (by omega)
  exact ⟨_,_,⟨a,b,rfl,rfl,ca,cb⟩,by omega,by omega⟩)
 have h5:=h4 m (y48 _)
 obtain ⟨G,pg,g1,g2,g3,g4⟩:=z370 (fun _ r t r'=>isRow bs m r t r') (pf m) 3 m (fun k r hk a1 a2=>by
  obtain ⟨a,_,ca⟩:=z69 bs hb r m (by omega) (by omega) (by omega)
  obtain ⟨b,_,cb⟩:=z69 bs hb (r+1) m (by omega) (by omega) (by omega)
  obtain ⟨c,_,cc⟩:=z69 bs hb (r+1+1) 2 (by omega) (by omega) (by omega)
  exact ⟨_,_,⟨a,b,c,rfl,rfl,ca,cb,cc⟩,by omega,by omega⟩)
 have g5:=g4 m (y48 _)
 exact ⟨⟨S,G⟩,pg m,m,pf,pg,by rw [← h2] at cw;exact cw,by omega,by omega,h1,g1,h3,g2.symm,g3,rfl,by omega,by omega⟩
theorem Small.sm {bs:List Int} {q q' : Int} {g:Graph} {m:Nat} {pf pg:Nat→Int} (h:Small bs q q' g m pf pg):g.sm:=by
 have h1:=h.sl
 have h2:=h.nl
 have h3:=h.m6
 refine ⟨by omega,by omega,fun s hs=>?_,fun r hr=>?_⟩
 ·obtain ⟨i,hi,rfl⟩:=List.mem_iff_getElem.1 hs
  obtain ⟨a,b,e,_⟩:=h.st i hi
  rw [e];exact ⟨by simp,by simp⟩
 ·obtain ⟨i,hi,rfl⟩:=List.mem_iff_getElem.1 hr
  obtain ⟨a,b,c,e,_⟩:=h.row i hi
  rw [e];split<;>simp
set_option maxHeartbeats 6400000 in
theorem z986 (bs:List Int) (hb:BytesOk bs) (p:Int) (hp:few3 p):∃ (g:Graph) (p' : Int),(g.sm∧1≤g.st.length∧g.nx.length=g.st.length∧p≤p'∧p'≤p+5000)∧CallsA Tryz.prog 19 [.ptr 0 none 0] [rdO bs p] (.agg g.cs) [rdO bs p']:=by
 obtain ⟨v,⟨v0,v1⟩,cv⟩:=z69 bs hb p 3 (by omega) (by omega) (by omega)
 by_cases hv:0 < v
 ·obtain ⟨s,q0,⟨hs,s0,s1⟩,cs⟩:=z839 bs hb (p+1) ⟨by omega,by omega⟩
  have cB:=z676 s hs.s1
  by_cases hr:∃ g,z335 s=some g∧g.st.length≤24
  ·obtain ⟨g,hg,hl⟩:=hr
   have hI:GInv s g.st g.nx g.st.length:=by
    have h:=hg
    unfold z335 at h
    split at h
    ·rename_i hv2
     have hso:=Sys.ok_of hv2
     exact grow_inv hso 61 _ _ 0 g ⟨by simp,by simp,by simp,rfl,fun t ht=>by
      rw [List.mem_singleton.1 ht]
      exact ⟨by simp,hso.init⟩,by simp⟩ h
    ·cases h
   have hso:s.ok:=by
    have h:=hg
    unfold z335 at h
    split at h
    ·exact Sys.ok_of (by assumption)
    ·cases h
   refine ⟨g,q0,⟨⟨by omega,by have:=hI.g;omega,fun t ht=>(hI.st t ht).sm hso,fun r hr=>by have:=hI.row r hr;omega⟩,hI.one,hI.g,by omega,by omega⟩,?_⟩
   rw [hg] at cB
   simp only [Option.getD_some,Option.isSome_some] at cB
   refine z10 z19 Tryz.func19 rfl rfl 88 Tryz.ntmps19 (by simp) ?_
   repeat' ((first|(apply y4 ok;rfl)|((apply z8)<;>intro _)|(apply z6 (cB);rfl;rfl)|((first|(apply z29 [0] [] cv;rfl;rfl)|(apply z29 [0] [] cs;rfl;rfl));rfl))<;>conv=>whnf)
   all_goals try (exfalso;omega)
   all_goals (refine rsD [0] [] rfl ?_;(repeat' first|exact y82 _|apply y83|constructor))
  ·obtain ⟨g,q',m,pf,pg,F⟩:=z894 bs hb q0 (by omega)
   have m1:=F.m1
   have m6:=F.m6
   have sl:=F.sl
   have nl:=F.nl
   have z0:=F.q0
   have z1:=F.q1
   cases hB:z335 s with
   |none =>
    rw [hB] at cB
    simp only [Option.getD_none,Option.isSome_none] at cB
    refine ⟨g,q',⟨F.sm,by omega,by omega,by omega,by omega⟩,?_⟩
    have Fn:=F.num
    refine z10 z19 Tryz.func19 rfl rfl 88 Tryz.ntmps19 (by simp) ?_
    repeat' ((first|(apply y4 ok;rfl)|((apply z8)<;>intro _)|(apply z6 (cB);rfl;rfl)|((first|(apply z11 [0] [] cv;rfl;rfl)|(apply z11 [0] [] cs;rfl;rfl)|(apply z11 [0,4] [] Fn;rfl;rfl));rfl;(focus ((repeat' first|exact z17|apply z14)<;>first|exact z45 rfl rfl|(refine z23 ?_;((exact z7 fun _=>rfl)))))))<;>conv=>whnf)
    all_goals try (exfalso;omega)
    all_goals
     refine y81 (y84 2 rfl) ?_
     refine z92 (fun k:Nat=>([(0,.ptr 0 none 0),(2,.ptr 1 none 0),(5,.ptr 2 none 0),(6,.int (m - k))],[rdO bs (pf k),.cells 2 [[.nils,.nils]],.cells 2 [[.sref 3 0 k,.nils]],.cells 2 ((g.st.take k).map State.cs)])) (fun k=>k≤m) (fun k=>m - k) 0 (by omega) (by refine swR [0,1,3,5] [] rfl rfl ?_;(repeat' first|exact y82 _|exact z57|apply y83|refine z16 rfl (z36) ?_|constructor)) ?_
     intro k hk
     by_cases hkm:k < m
     ·have hkl:k < g.st.length:=by omega
      obtain ⟨a,b,es,eq,ca,cb⟩:=F.st k hkl
      rw [← eq] at cb
      repeat' ((first|(apply y4 ok;rfl)|(apply z37;kernel_rfl)|(apply y39;first|omega|(unfold inI;omega)|((try dsimp only);simp only [y45,y44,y43,y42,y54,y55];omega)|exact ⟨rfl,z25 rfl z32⟩)|((apply z8)<;>intro _)|((first|(apply z29 [0] [] ca;rfl;rfl)|(apply z29 [0] [] cb;rfl;rfl));rfl))<;>conv=>whnf)
      all_goals try (exfalso;omega)
      all_goals refine z44 (k+1) (by omega) (by omega) (by refine swR [0,1,2,7] [4,5] rfl rfl ?_;(repeat' first|exact y82 _|(refine z152 ?_;omega)|apply y83|((refine z47 rfl ?_ ?_);(focus ((repeat' (first|exact z7 (fun _=>rfl)|apply z33));done)))|refine z127 (by omega) (by omega) ?_|refine z93 rfl rfl rfl rfl rfl ?_|constructor)<;>(rw [es];exact y82 _))
     ·have e:k=m:=by omega
      subst e
      rw [y53 (show g.st.length≤k by omega)]
      repeat' ((first|(apply y4 ok;rfl)|(apply y39;omega)|((apply z8)<;>intro _))<;>conv=>whnf)
      all_goals try (exfalso;omega)
      refine y81 (y84 1 rfl) ?_
      have Fm:=F.mid
      rw [Fm]
      refine z92 (fun i:Nat=>([(0,.ptr 0 none 0),(2,.ptr 1 none 0),(5,.ptr 2 none 0),(7,.int i)],[rdO bs (pg i),.cells 2 [[.nils,.nils]],.cells 2 [[.sref 3 0 k,.sref 4 0 i]],.cells 2 (g.st.map State.cs),.cells 1 ((g.nx.take i).map encL)])) (fun i=>i≤k) (fun i=>k - i) 0 (by omega) (by refine swR [0,1,2,3,4] [] rfl rfl ?_;(repeat' first|exact y82 _|exact z57|exact z18 _|apply y83|((refine z16 rfl ?_ ?_);(focus ((repeat' (first|exact z36|exact z7 (fun _=>rfl)));done)))|constructor)) ?_
      intro i hi
      by_cases hik:i < k
      ·have hil:i < g.nx.length:=by omega
       obtain ⟨a,b,c,er,eq,ca,cb,cc⟩:=F.row i hil
       rw [← eq] at cc
       by_cases hc:c=0
       ·by_cases hba:b=a
        ·rw [if_neg (fun h=>h.2 hba)] at er
         repeat' ((first|(apply y4 ok;rfl)|(apply y39;first|omega|(unfold inI;omega)|((try dsimp only);simp only [y45,y44,y43,y42,y54,y55];omega)|exact ⟨rfl,z25 rfl z32⟩)|apply z155|((first|apply z8|apply z41)<;>intro _)|((first|(apply z29 [0] [] ca;rfl;rfl)|(apply z29 [0] [] cb;rfl;rfl)|(apply z29 [0] [] cc;rfl;rfl));rfl))<;>conv=>whnf)
         all_goals try (exfalso;omega)
         all_goals refine z44 (i+1) (by omega) (by omega) (by refine swR [0,1,2,3,7] [5] rfl rfl ?_;(repeat' first|exact y82 _|exact z18 _|apply y83|((first|refine z47 rfl ?_ ?_|refine z16 rfl ?_ ?_);(focus ((repeat' (first|exact z7 (fun _=>rfl)|apply z33));done)))|refine z127 (by omega) (by omega) ?_|refine z93 rfl rfl rfl rfl rfl ?_|constructor)<;>((rw [er];exact y82 _)))
        ·rw [if_pos ⟨hc,hba⟩] at er
         repeat' ((first|(apply y4 ok;rfl)|(apply y39;first|omega|(unfold inI;omega)|((try dsimp only);simp only [y45,y44,y43,y42,y54,y55];omega)|exact ⟨rfl,z25 rfl z32⟩)|apply z155|((first|apply z8|apply z41)<;>intro _)|((first|(apply z29 [0] [] ca;rfl;rfl)|(apply z29 [0] [] cb;rfl;rfl)|(apply z29 [0] [] cc;rfl;rfl));rfl))<;>conv=>whnf)
         all_goals try (exfalso;omega)
         all_goals refine z44 (i+1) (by omega) (by omega) (by refine swR [0,1,2,3,9] [7] rfl rfl ?_;(repeat' first|exact y82 _|exact z18 _|apply y83|((first|refine z47 rfl ?_ ?_|refine z16 rfl ?_ ?_);(focus ((repeat' (first|exact z7 (fun _=>rfl)|apply z33));done)))|refine z127 (by omega) (by omega) ?_|((apply z93 rfl rfl rfl);(focus ((repeat (first|apply z119|apply z166|rfl));done));(focus ((rfl);done)))|constructor)<;>((rw [er];exact y82 _)))
       ·rw [if_neg (fun h=>hc h.1)] at er
        repeat' ((first|(apply y4 ok;rfl)|(apply y39;first|omega|(unfold inI;omega)|((try dsimp only);simp only [y45,y44,y43,y42,y54,y55];omega)|exact ⟨rfl,z25 rfl z32⟩)|apply z155|((first|apply z8|apply z41)<;>intro _)|((first|(apply z29 [0] [] ca;rfl;rfl)|(apply z29 [0] [] cb;rfl;rfl)|(apply z29 [0] [] cc;rfl;rfl));rfl))<;>conv=>whnf)
        all_goals try (exfalso;omega)
        all_goals refine z44 (i+1) (by omega) (by omega) (by refine swR [0,1,2,3,7] [5] rfl rfl ?_;(repeat' first|exact y82 _|exact z18 _|apply y83|((first|refine z47 rfl ?_ ?_|refine z16 rfl ?_ ?_);(focus ((repeat' (first|exact z7 (fun _=>rfl)|apply z33));done)))|refine z127 (by omega) (by omega) ?_|refine z93 rfl rfl rfl rfl rfl ?_|constructor)<;>((rw [er];exact y82 _)))
      ·have e:i=k:=by omega
       subst e
       rw [y53 (show g.nx.length≤i by omega)]
       repeat' ((first|(apply y4 ok;rfl)|((apply z8)<;>intro _))<;>conv=>whnf)
       all_goals try (exfalso;omega)
       all_goals rw [F.last]
       all_goals (refine rsD [0] [3,4] rfl ?_;(repeat' first|exact y82 _|(refine z331 ?_;omega)|apply y83|((apply z48 rfl rfl rfl);(focus ((repeat ((exact z38 (fun _=>rfl) _)));done));(focus (((simp;omega));done)))|apply z60|constructor))
   |some g0 =>
    have hl:¬(g0.st.length≤24):=fun h=>hr ⟨g0,hB,h⟩
    rw [hB] at cB
    simp only [Option.getD_some,Option.isSome_some] at cB
    refine ⟨g,q',⟨F.sm,by omega,by omega,by omega,by omega⟩,?_⟩
    have Fn:=F.num
    refine z10 z19 Tryz.func19 rfl rfl 88 Tryz.ntmps19 (by simp) ?_
    repeat' ((first|(apply y4 ok;rfl)|((apply z8)<;>intro _)|(apply z6 (cB);rfl;rfl)|((first|(apply z11 [0] [] cv;rfl;rfl)|(apply z11 [0] [] cs;rfl;rfl)|(apply z11 [0,4] [] Fn;rfl;rfl));rfl;(focus ((repeat' first|exact z17|apply z14)<;>first|exact z45 rfl rfl|(refine z23 ?_;((exact z7 fun _=>rfl)))))))<;>conv=>whnf)
    all_goals try (exfalso;omega)
    all_goals
     refine y81 (y84 2 rfl) ?_
     refine z92 (fun k:Nat=>([(0,.ptr 0 none 0),(2,.ptr 1 none 0),(5,.ptr 2 none 0),(6,.int (m - k))],[rdO bs (pf k),.cells 2 [[.nils,.nils]],.cells 2 [[.sref 3 0 k,.nils]],.cells 2 ((g.st.take k).map State.cs)])) (fun k=>k≤m) (fun k=>m - k) 0 (by omega) (by refine swR [0,1,3,5] [] rfl rfl ?_;(repeat' first|exact y82 _|exact z57|apply y83|refine z16 rfl (z36) ?_|constructor)) ?_
     intro k hk
     by_cases hkm:k < m
     ·have hkl:k < g.st.length:=by omega
      obtain ⟨a,b,es,eq,ca,cb⟩:=F.st k hkl
      rw [← eq] at cb
      repeat' ((first|(apply y4 ok;rfl)|(apply z37;kernel_rfl)|(apply y39;first|omega|(unfold inI;omega)|((try dsimp only);simp only [y45,y44,y43,y42,y54,y55];omega)|exact ⟨rfl,z25 rfl z32⟩)|((apply z8)<;>intro _)|((first|(apply z29 [0] [] ca;rfl;rfl)|(apply z29 [0] [] cb;rfl;rfl));rfl))<;>conv=>whnf)
      all_goals try (exfalso;omega)
      all_goals refine z44 (k+1) (by omega) (by omega) (by refine swR [0,1,2,7] [4,5] rfl rfl ?_;(repeat' first|exact y82 _|(refine z152 ?_;omega)|apply y83|((refine z47 rfl ?_ ?_);(focus ((repeat' (first|exact z7 (fun _=>rfl)|apply z33));done)))|refine z127 (by omega) (by omega) ?_|refine z93 rfl rfl rfl rfl rfl ?_|constructor)<;>(rw [es];exact y82 _))
     ·have e:k=m:=by omega
      subst e
      rw [y53 (show g.st.length≤k by omega)]
      repeat' ((first|(apply y4 ok;rfl)|(apply y39;omega)|((apply z8)<;>intro _))<;>conv=>whnf)
      all_goals try (exfalso;omega)
      refine y81 (y84 1 rfl) ?_
      have Fm:=F.mid
      rw [Fm]
      refine z92 (fun i:Nat=>([(0,.ptr 0 none 0),(2,.ptr 1 none 0),(5,.ptr 2 none 0),(7,.int i)],[rdO bs (pg i),.cells 2 [[.nils,.nils]],.cells 2 [[.sref 3 0 k,.sref 4 0 i]],.cells 2 (g.st.map State.cs),.cells 1 ((g.nx.take i).map encL)])) (fun i=>i≤k) (fun i=>k - i) 0 (by omega) (by refine swR [0,1,2,3,4] [] rfl rfl ?_;(repeat' first|exact y82 _|exact z57|exact z18 _|apply y83|((refine z16 rfl ?_ ?_);(focus ((repeat' (first|exact z36|exact z7 (fun _=>rfl)));done)))|constructor)) ?_
      intro i hi
      by_cases hik:i < k
      ·have hil:i < g.nx.length:=by omega
       obtain ⟨a,b,c,er,eq,ca,cb,cc⟩:=F.row i hil
       rw [← eq] at cc
       by_cases hc:c=0
       ·by_cases hba:b=a
        ·rw [if_neg (fun h=>h.2 hba)] at er
         repeat' ((first|(apply y4 ok;rfl)|(apply y39;first|omega|(unfold inI;omega)|((try dsimp only);simp only [y45,y44,y43,y42,y54,y55];omega)|exact ⟨rfl,z25 rfl z32⟩)|apply z155|((first|apply z8|apply z41)<;>intro _)|((first|(apply z29 [0] [] ca;rfl;rfl)|(apply z29 [0] [] cb;rfl;rfl)|(apply z29 [0] [] cc;rfl;rfl));rfl))<;>conv=>whnf)
         all_goals try (exfalso;omega)
         all_goals refine z44 (i+1) (by omega) (by omega) (by refine swR [0,1,2,3,7] [5] rfl rfl ?_;(repeat' first|exact y82 _|exact z18 _|apply y83|((first|refine z47 rfl ?_ ?_|refine z16 rfl ?_ ?_);(focus ((repeat' (first|exact z7 (fun _=>rfl)|apply z33));done)))|refine z127 (by omega) (by omega) ?_|refine z93 rfl rfl rfl rfl rfl ?_|constructor)<;>((rw [er];exact y82 _)))
        ·rw [if_pos ⟨hc,hba⟩] at er
         repeat' ((first|(apply y4 ok;rfl)|(apply y39;first|omega|(unfold inI;omega)|((try dsimp only);simp only [y45,y44,y43,y42,y54,y55];omega)|exact ⟨rfl,z25 rfl z32⟩)|apply z155|((first|apply z8|apply z41)<;>intro _)|((first|(apply z29 [0] [] ca;rfl;rfl)|(apply z29 [0] [] cb;rfl;rfl)|(apply z29 [0] [] cc;rfl;rfl));rfl))<;>conv=>whnf)
         all_goals try (exfalso;omega)
         all_goals refine z44 (i+1) (by omega) (by omega) (by refine swR [0,1,2,3,9] [7] rfl rfl ?_;(repeat' first|exact y82 _|exact z18 _|apply y83|((first|refine z47 rfl ?_ ?_|refine z16 rfl ?_ ?_);(focus ((repeat' (first|exact z7 (fun _=>rfl)|apply z33));done)))|refine z127 (by omega) (by omega) ?_|((apply z93 rfl rfl rfl);(focus ((repeat (first|apply z119|apply z166|rfl));done));(focus ((rfl);done)))|constructor)<;>((rw [er];exact y82 _)))
       ·rw [if_neg (fun h=>hc h.1)] at er
        repeat' ((first|(apply y4 ok;rfl)|(apply y39;first|omega|(unfold inI;omega)|((try dsimp only);simp only [y45,y44,y43,y42,y54,y55];omega)|exact ⟨rfl,z25 rfl z32⟩)|apply z155|((first|apply z8|apply z41)<;>intro _)|((first|(apply z29 [0] [] ca;rfl;rfl)|(apply z29 [0] [] cb;rfl;rfl)|(apply z29 [0] [] cc;rfl;rfl));rfl))<;>conv=>whnf)
        all_goals try (exfalso;omega)
        all_goals refine z44 (i+1) (by omega) (by omega) (by refine swR [0,1,2,3,7] [5] rfl rfl ?_;(repeat' first|exact y82 _|exact z18 _|apply y83|((first|refine z47 rfl ?_ ?_|refine z16 rfl ?_ ?_);(focus ((repeat' (first|exact z7 (fun _=>rfl)|apply z33));done)))|refine z127 (by omega) (by omega) ?_|refine z93 rfl rfl rfl rfl rfl ?_|constructor)<;>((rw [er];exact y82 _)))
      ·have e:i=k:=by omega
       subst e
       rw [y53 (show g.nx.length≤i by omega)]
       repeat' ((first|(apply y4 ok;rfl)|((apply z8)<;>intro _))<;>conv=>whnf)
       all_goals try (exfalso;omega)
       all_goals rw [F.last]
       all_goals (refine rsD [0] [3,4] rfl ?_;(repeat' first|exact y82 _|(refine z331 ?_;omega)|apply y83|((apply z48 rfl rfl rfl);(focus ((repeat ((exact z38 (fun _=>rfl) _)));done));(focus (((simp;omega));done)))|apply z60|constructor))
 ·obtain ⟨g,q',m,pf,pg,F⟩:=z894 bs hb (p+1) (by omega)
  have m1:=F.m1
  have m6:=F.m6
  have sl:=F.sl
  have nl:=F.nl
  have z0:=F.q0
  have z1:=F.q1
  refine ⟨g,q',⟨F.sm,by omega,by omega,by omega,by omega⟩,?_⟩
  have Fn:=F.num
  refine z10 z19 Tryz.func19 rfl rfl 88 Tryz.ntmps19 (by simp) ?_
  repeat' ((first|(apply y4 ok;rfl)|((apply z8)<;>intro _)|((first|(apply z11 [0] [] cv;rfl;rfl)|(apply z11 [0,3] [] Fn;rfl;rfl));rfl;(focus ((repeat' first|exact z17|apply z14)<;>first|exact z45 rfl rfl|(refine z23 ?_;((exact z7 fun _=>rfl)))))))<;>conv=>whnf)
  all_goals try (exfalso;omega)
  all_goals
   refine y81 (y84 2 rfl) ?_
   refine z92 (fun k:Nat=>([(0,.ptr 0 none 0),(2,.ptr 1 none 0),(5,.ptr 2 none 0),(6,.int (m - k))],[rdO bs (pf k),.cells 2 [[.nils,.nils]],.cells 2 [[.sref 3 0 k,.nils]],.cells 2 ((g.st.take k).map State.cs)])) (fun k=>k≤m) (fun k=>m - k) 0 (by omega) (by refine swR [0,1,2,4] [] rfl rfl ?_;(repeat' first|exact y82 _|exact z57|apply y83|refine z16 rfl (z36) ?_|constructor)) ?_
   intro k hk
   by_cases hkm:k < m
   ·have hkl:k < g.st.length:=by omega
    obtain ⟨a,b,es,eq,ca,cb⟩:=F.st k hkl
    rw [← eq] at cb
    repeat' ((first|(apply y4 ok;rfl)|(apply z37;kernel_rfl)|(apply y39;first|omega|(unfold inI;omega)|((try dsimp only);simp only [y45,y44,y43,y42,y54,y55];omega)|exact ⟨rfl,z25 rfl z32⟩)|((apply z8)<;>intro _)|((first|(apply z29 [0] [] ca;rfl;rfl)|(apply z29 [0] [] cb;rfl;rfl));rfl))<;>conv=>whnf)
    all_goals try (exfalso;omega)
    all_goals refine z44 (k+1) (by omega) (by omega) (by refine swR [0,1,2,7] [4,5] rfl rfl ?_;(repeat' first|exact y82 _|(refine z152 ?_;omega)|apply y83|((refine z47 rfl ?_ ?_);(focus ((repeat' (first|exact z7 (fun _=>rfl)|apply z33));done)))|refine z127 (by omega) (by omega) ?_|refine z93 rfl rfl rfl rfl rfl ?_|constructor)<;>(rw [es];exact y82 _))
   ·have e:k=m:=by omega
    subst e
    rw [y53 (show g.st.length≤k by omega)]
    repeat' ((first|(apply y4 ok;rfl)|(apply y39;omega)|((apply z8)<;>intro _))<;>conv=>whnf)
    all_goals try (exfalso;omega)
    refine y81 (y84 1 rfl) ?_
    have Fm:=F.mid
    rw [Fm]
    refine z92 (fun i:Nat=>([(0,.ptr 0 none 0),(2,.ptr 1 none 0),(5,.ptr 2 none 0),(7,.int i)],[rdO bs (pg i),.cells 2 [[.nils,.nils]],.cells 2 [[.sref 3 0 k,.sref 4 0 i]],.cells 2 (g.st.map State.cs),.cells 1 ((g.nx.take i).map encL)])) (fun i=>i≤k) (fun i=>k - i) 0 (by omega) (by refine swR [0,1,2,3,4] [] rfl rfl ?_;(repeat' first|exact y82 _|exact z57|exact z18 _|apply y83|((refine z16 rfl ?_ ?_);(focus ((repeat' (first|exact z36|exact z7 (fun _=>rfl)));done)))|constructor)) ?_
    intro i hi
    by_cases hik:i < k
    ·have hil:i < g.nx.length:=by omega
     obtain ⟨a,b,c,er,eq,ca,cb,cc⟩:=F.row i hil
     rw [← eq] at cc
     by_cases hc:c=0
     ·by_cases hba:b=a
      ·rw [if_neg (fun h=>h.2 hba)] at er
       repeat' ((first|(apply y4 ok;rfl)|(apply y39;first|omega|(unfold inI;omega)|((try dsimp only);simp only [y45,y44,y43,y42,y54,y55];omega)|exact ⟨rfl,z25 rfl z32⟩)|apply z155|((first|apply z8|apply z41)<;>intro _)|((first|(apply z29 [0] [] ca;rfl;rfl)|(apply z29 [0] [] cb;rfl;rfl)|(apply z29 [0] [] cc;rfl;rfl));rfl))<;>conv=>whnf)
       all_goals try (exfalso;omega)
       all_goals refine z44 (i+1) (by omega) (by omega) (by refine swR [0,1,2,3,7] [5] rfl rfl ?_;(repeat' first|exact y82 _|exact z18 _|apply y83|((first|refine z47 rfl ?_ ?_|refine z16 rfl ?_ ?_);(focus ((repeat' (first|exact z7 (fun _=>rfl)|apply z33));done)))|refine z127 (by omega) (by omega) ?_|refine z93 rfl rfl rfl rfl rfl ?_|constructor)<;>((rw [er];exact y82 _)))
      ·rw [if_pos ⟨hc,hba⟩] at er
       repeat' ((first|(apply y4 ok;rfl)|(apply y39;first|omega|(unfold inI;omega)|((try dsimp only);simp only [y45,y44,y43,y42,y54,y55];omega)|exact ⟨rfl,z25 rfl z32⟩)|apply z155|((first|apply z8|apply z41)<;>intro _)|((first|(apply z29 [0] [] ca;rfl;rfl)|(apply z29 [0] [] cb;rfl;rfl)|(apply z29 [0] [] cc;rfl;rfl));rfl))<;>conv=>whnf)
       all_goals try (exfalso;omega)
       all_goals refine z44 (i+1) (by omega) (by omega) (by refine swR [0,1,2,3,9] [7] rfl rfl ?_;(repeat' first|exact y82 _|exact z18 _|apply y83|((first|refine z47 rfl ?_ ?_|refine z16 rfl ?_ ?_);(focus ((repeat' (first|exact z7 (fun _=>rfl)|apply z33));done)))|refine z127 (by omega) (by omega) ?_|((apply z93 rfl rfl rfl);(focus ((repeat (first|apply z119|apply z166|rfl));done));(focus ((rfl);done)))|constructor)<;>((rw [er];exact y82 _)))
     ·rw [if_neg (fun h=>hc h.1)] at er
      repeat' ((first|(apply y4 ok;rfl)|(apply y39;first|omega|(unfold inI;omega)|((try dsimp only);simp only [y45,y44,y43,y42,y54,y55];omega)|exact ⟨rfl,z25 rfl z32⟩)|apply z155|((first|apply z8|apply z41)<;>intro _)|((first|(apply z29 [0] [] ca;rfl;rfl)|(apply z29 [0] [] cb;rfl;rfl)|(apply z29 [0] [] cc;rfl;rfl));rfl))<;>conv=>whnf)
      all_goals try (exfalso;omega)
      all_goals refine z44 (i+1) (by omega) (by omega) (by refine swR [0,1,2,3,7] [5] rfl rfl ?_;(repeat' first|exact y82 _|exact z18 _|apply y83|((first|refine z47 rfl ?_ ?_|refine z16 rfl ?_ ?_);(focus ((repeat' (first|exact z7 (fun _=>rfl)|apply z33));done)))|refine z127 (by omega) (by omega) ?_|refine z93 rfl rfl rfl rfl rfl ?_|constructor)<;>((rw [er];exact y82 _)))
    ·have e:i=k:=by omega
     subst e
     rw [y53 (show g.nx.length≤i by omega)]
     repeat' ((first|(apply y4 ok;rfl)|((apply z8)<;>intro _))<;>conv=>whnf)
     all_goals try (exfalso;omega)
     all_goals rw [F.last]
     all_goals (refine rsD [0] [3,4] rfl ?_;(repeat' first|exact y82 _|(refine z331 ?_;omega)|apply y83|((apply z48 rfl rfl rfl);(focus ((repeat ((exact z38 (fun _=>rfl) _)));done));(focus (((simp;omega));done)))|apply z60|constructor))
structure Graph.d (g:Graph):Prop where
 st:g.st.length≤100
 nx:g.nx.length≤101
 el:∀ s∈g.st,s.sm
 row:∀ r∈g.nx,r.length≤1001
theorem Graph.d.mx {g:Graph} (h:g.d):g.mx:=by
 have h1:=h.st
 have h2:=h.nx
 have h3:=h.el
 exact ⟨⟨by unfold maxLen;omega,fun s hs=>⟨by have:=(h3 s hs).a;unfold maxLen;omega,by have:=(h3 s hs).b;unfold maxLen;omega⟩⟩,by unfold maxLen;omega,fun l hl=>by have:=h.row l hl;unfold maxLen;omega⟩
structure Lab.d (l:List Tree):Prop where
 len:l.length≤3
 el:∀ t∈l,t.sz≤5
theorem Lab.d.mx {l:List Tree} (h:Lab.d l):Lmx l:=Lmx_of (by have:=h.len;omega) fun t ht=>by have:=h.el t ht;omega
structure CodeOk (bs:List Int):Prop where
 len:bs.length≤maxLen
 el:∀ x∈bs,0≤x∧x≤255
theorem CodeOk.take {bs:List Int} (h:CodeOk bs):BytesOk (bs.take 2000):=⟨by simp;omega,fun x hx=>h.el x (List.mem_of_mem_take hx)⟩
theorem z1108 (bs:List Int) (hb:BytesOk bs) (p:Int) (hp:few3 p):∃ (g0 g:Graph) (p1 p2:Int),CallsA Tryz.prog 19 [.ptr 0 none 0] [rdO bs p] (.agg g0.cs) [rdO bs p1]∧CallsA Tryz.prog 18 [.ptr 0 none 0,.agg g0.cs] [rdO bs p1] (.agg g.cs) [rdO bs p2]∧g.d∧p≤p2∧p2≤p+6000:=by
 obtain ⟨g0,p1,⟨h1,h2,h3,h4,h5⟩,c1⟩:=z986 bs hb p hp
 obtain ⟨g,p2,⟨k1,k2,k3,k4,k5,k6⟩,c2⟩:=z838 bs hb p1 ⟨by omega,by omega⟩ g0 h1 h2 h3
 exact ⟨g0,g,p1,p2,c1,c2,⟨k1,k2,k3,k4⟩,by omega,by omega⟩
end Go.Proofs.YteinbnahinpegaaGreat
namespace Go.Proofs.YteinbnahinpegaaGreat
open Go.Gl
attribute [local irreducible] z20
end Go.Proofs.YteinbnahinpegaaGreat
namespace Go.Proofs.YteinbnahinpegaaGreat
open Go.Gl
attribute [local irreducible] z20 AWP z30 z35 z34 RetS z42
theorem valsB_of {v:List Int} (h:ValsOk v):z339 v=true:=by
 unfold z339
 rw [y67,decide_eq_true_eq,Bool.not_eq_true',List.any_eq_false]
 exact ⟨by have:=h.1;omega,fun x hx=>by have:=h.2 x hx;rw [y68,Bool.not_eq_false',z141];exact this⟩
end Go.Proofs.YteinbnahinpegaaGreat
namespace Go.Proofs.YteinbnahinpegaaGreat
open Go.Gl
attribute [local irreducible] z20 AWP z30 z35 z34
theorem z937 {objs:Nat→AObj} {π Bn:List Nat} {o n:Nat} {l:List (List Int)} (ho:objs o=.cells 1 (l.map z89)) (h1:idx π o=none) (h2:inB Bn o=true) (hl:l.length=n):bor objs π Bn (.sref o 0 n)=lst 1 encL l:=by
 subst hl;exact z195 ho h1 h2 (by simp) (z143 l)
def z344 (keys:List (List Int)) (i k:Nat):Bool:=decide (keys.getD k []=keys.getD i [])
theorem z743 (keys:List (List Int)) (hk:keys.length≤1048576) (same:Nat→Nat→Bool) (hl2:∀ i k (hi:i < keys.length) (hk:k < i),CallsA Tryz.prog 32 [ints keys[k],ints keys[i]] [] (.bool (same i k)) []):CallsA Tryz.prog 64 [lst 1 encL keys] [] (.sref 0 0 keys.length) [.cells 1 ((numF same keys.length).1.map enI)]:=by
 have hlen:=z78 same keys.length
 refine z12 z19 Tryz.func64 rfl rfl 47 Tryz.ntmps64 (by simp) ?_
 repeat' ((apply y4 ok;rfl;conv=>whnf))
 refine z97 (fun i:Nat=>([(0,lst 1 encL keys),(3,.sref 0 0 i),(4,.int ((numF same i).2:Int)),(5,.int i)],[.cells 1 (((numF same keys.length).1.take i).map enI)])) (fun i=>i≤keys.length) (fun i=>keys.length - i) 0 (by omega) ⟨[0],rfl,by decide,rfl,⟨⟨rfl,rfl⟩,⟨rfl,rfl⟩,⟨rfl,rfl⟩,⟨rfl,rfl⟩,trivial⟩,⟨z59 rfl (z7 fun _=>rfl),trivial⟩⟩ ?_
 intro i hi
 by_cases hin:i < keys.length
 ·have hc:=(z643 same i).2
  repeat' (first|(apply y4 ok;rfl;conv=>whnf)|(apply z8<;>intro _<;>conv=>whnf))
  ·refine z97 (fun x:Nat×Int=>([(0,lst 1 encL keys),(3,.sref 0 0 i),(4,.int ((numF same i).2:Int)),(5,.int i),(6,.int x.2),(7,.int x.1)],[.cells 1 (((numF same keys.length).1.take i).map enI)])) (fun x=>x.1≤i∧((x.2=-1∧∀ j,j < x.1→same i j=false)∨(∃ k',∃ hk:k' < (numF same keys.length).1.length,x.1=k'+1∧k' < i∧same i k'=true∧(∀ j,j < k'→same i j=false)∧x.2=(numF same keys.length).1[k']))) (fun x=>i - x.1) (0,-1) ⟨by omega,.inl ⟨rfl,fun j hj=>by omega⟩⟩ ⟨[0],rfl,by decide,rfl,⟨⟨rfl,rfl⟩,⟨rfl,rfl⟩,⟨rfl,rfl⟩,⟨rfl,rfl⟩,⟨rfl,rfl⟩,⟨rfl,rfl⟩,trivial⟩,⟨z59 rfl (z7 fun _=>rfl),trivial⟩⟩ ?_
   rintro ⟨k,b⟩ ⟨hk1,⟨rfl,hk2⟩|⟨k',hk',rfl,hk3,hk4,hk5,rfl⟩⟩
   ·dsimp only at hk1 hk2 ⊢
    by_cases hki:k < i
    ·have hg:(((numF same keys.length).1.take i).map enI)[k]?=some (enI ((numF same keys.length).1[k]'(by omega))):=take_got hki (by omega)
     repeat' (first|(apply y4 ok;rfl;conv=>whnf)|(apply z37;kernel_rfl;conv=>whnf)|(apply z21;(exact y73 k);exact hg;conv=>whnf)|(apply y39;(first|omega|(unfold inI;omega));conv=>whnf)|(with_reducible apply z15;omega;intro _;conv=>whnf)|(apply z8<;>intro _<;>conv=>whnf)|(apply z110<;>intro _<;>conv=>whnf)|(apply z6 (hl2 i k hin hki);rfl;rfl;conv=>whnf))
     all_goals try (exfalso;omega)
     ·exact z81 (k+1,(numF same keys.length).1[k]'(by omega)) [0] ⟨by dsimp only;omega,.inr ⟨k,by omega,rfl,hki,by assumption,hk2,rfl⟩⟩ (by dsimp only;omega) ⟨rfl,by decide,rfl,⟨⟨rfl,rfl⟩,⟨rfl,rfl⟩,⟨rfl,rfl⟩,⟨rfl,rfl⟩,⟨rfl,rfl⟩,⟨rfl,rfl⟩,trivial⟩,⟨z59 rfl (z7 fun _=>rfl),trivial⟩⟩
     ·refine z81 (k+1,-1) [0] ⟨by dsimp only;omega,.inl ⟨rfl,fun j hj=>?_⟩⟩ (by dsimp only;omega) ⟨rfl,by decide,rfl,⟨⟨rfl,rfl⟩,⟨rfl,rfl⟩,⟨rfl,rfl⟩,⟨rfl,rfl⟩,⟨rfl,rfl⟩,⟨rfl,rfl⟩,trivial⟩,⟨z59 rfl (z7 fun _=>rfl),trivial⟩⟩
      dsimp only at hj
      rcases y66 j k with h3|h3
      ·exact hk2 j h3
      ·obtain rfl:j=k:=by omega
       assumption
    ·obtain rfl:k=i:=by omega
     obtain ⟨h3,h4⟩:=z176 hin hk2
     repeat' (first|(apply y4 ok;rfl;conv=>whnf)|(apply y39;(first|omega|(unfold inI;omega)|((try dsimp only);simp only [y45,y44,y43,y42,y54,y55];omega)|exact ⟨rfl,z25 rfl z32⟩);conv=>whnf)|(with_reducible apply z15;omega;intro _;conv=>whnf)|(apply z8<;>intro _<;>conv=>whnf))
     all_goals try (exfalso;omega)
     exact z81 (k+1) [2] (by omega) (by omega) ⟨rfl,by decide,rfl,⟨⟨rfl,rfl⟩,⟨rfl,rfl⟩,⟨rfl,z299 (by rw [h4];simp)⟩,⟨rfl,rfl⟩,trivial⟩,⟨z639 (by omega) _ rfl rfl (by rw [h3];rfl) (fun _=>rfl),trivial⟩⟩
   ·obtain ⟨h3,h4⟩:=z164 hin hk3 hk4 hk5
    have hlt:=numF_lt' (same:=same) (n:=keys.length) hi hk3
    dsimp only
    generalize (numF same keys.length).1[k']=b at h3 hlt
    repeat' (first|(apply y4 ok;rfl;conv=>whnf)|(apply y39;(first|omega|(unfold inI;omega)|((try dsimp only);simp only [y45,y44,y43,y42,y54,y55];omega)|exact ⟨rfl,z25 rfl z32⟩);conv=>whnf)|(with_reducible apply z15;omega;intro _;conv=>whnf)|(apply z8<;>intro _<;>conv=>whnf))
    all_goals try (exfalso;omega)
    all_goals exact z81 (i+1) [2] (by omega) (by omega) ⟨rfl,by decide,rfl,⟨⟨rfl,rfl⟩,⟨rfl,rfl⟩,⟨rfl,z299 (by rw [h4])⟩,⟨rfl,rfl⟩,trivial⟩,⟨z639 (by omega) _ rfl rfl (by rw [h3];rfl) (fun _=>rfl),trivial⟩⟩
  ·omega
 ·repeat' (first|(apply y4 ok;rfl;conv=>whnf)|(apply z8<;>intro _<;>conv=>whnf))
  all_goals try (exfalso;omega)
  obtain rfl:i=keys.length:=by omega
  exact z418 rfl (z7 fun _=>rfl) rfl (by rw [y53 (by omega)])
theorem z193 (keys:List (List Int)) (hk:keys.length≤1048576) (hm:∀ r∈keys,r.length≤maxLen):CallsA Tryz.prog 64 [lst 1 encL keys] [] (.sref 0 0 keys.length) [.cells 1 ((numF (z344 keys) keys.length).1.map enI)] :=
 z743 keys hk (z344 keys) fun i k hi hk=>by
  have e:z344 keys i k=decide (keys[k]=keys[i]):=by
   unfold z344;rw [z13 hi,z13 (by omega)]
  rw [e];exact z293 _ _ (hm _ (y40 _)) (hm _ (y40 _))
noncomputable def lblB (g:Graph) (l:List Tree):List Int:=if glB g l then (numF (z962 (g.st.map (z49 l))) g.st.length).1 else []
theorem z365 (g:Graph) (hg:g.mx) (l:List Tree) (hl:Lmx l):CallsA Tryz.prog 121 [.agg g.cs,lst 3 Tree.cs' l] [] (.tup [ints (lblB g l),.bool (glB g l)]) []:=by
 have k1:=z238 g hg l hl
 by_cases h:glB g l=true
 ·have hG:=(z103 g).1 (by unfold glB at h;exact (Bool.and_eq_true_iff.1 h).1)
  have e:lblB g l=(numF (z962 (g.st.map (z49 l))) g.st.length).1:=by unfold lblB;rw [if_pos h]
  rw [if_pos h,h] at k1
  have hlen:(g.st.map (z49 l)).length≤60:=by rw [y45];exact hG.1.2
  have e3:numF (z962 (g.st.map (z49 l))) g.st.length=numF (z344 ((g.st.map (z49 l)).map fun x=>[x])) ((g.st.map (z49 l)).map fun x=>[x]).length:=by
   rw [y45,y45]
   refine z313 fun i k hk hi=>?_
   unfold z962 z344
   have h1:i < (g.st.map (z49 l)).length:=by rw [y45];exact hi
   rw [z13 h1,z13 (by omega),z13 (by rw [y45];omega),z13 (by rw [y45];omega),List.getElem_map,List.getElem_map]
   simp [eq_comm]
  rw [e3] at e
  have hb:lblB g l=(numF (z344 ((g.st.map (z49 l)).map fun x=>[x])) ((g.st.map (z49 l)).map fun x=>[x]).length).1:=e
  rw [hb,h]
  generalize g.st.map (z49 l)=ls at *
  have k2:=z193 (ls.map fun x=>[x]) (by rw [y45];omega) (fun r hr=>by
   obtain ⟨x,_,rfl⟩:=List.mem_map.1 hr
   simp [maxLen])
  rw [y45] at k2 ⊢
  have key:CallsA Tryz.prog 121 [.agg g.cs,lst 3 Tree.cs' l] [] (.tup [.sref 0 0 ls.length,.bool true]) [.cells 1 ((numF (z344 (ls.map fun x=>[x])) ls.length).1.map enI)]:=by
   refine z12 z19 Tryz.func121 rfl rfl 36 Tryz.ntmps121 (by simp) ?_
   repeat' (first|(apply y4 ok;rfl;conv=>whnf)|(apply z6 (k1);rfl;rfl;conv=>whnf))
   refine z97 (fun i:Nat=>([(6,ints ls),(7,.bool true),(8,.sref 0 0 i),(9,.int i)],[.cells 1 ((ls.take i).map fun x=>z89 [x])])) (fun i=>i≤ls.length) (fun i=>ls.length - i) 0 (by omega) ⟨[1],rfl,by decide,rfl,⟨⟨rfl,rfl⟩,⟨rfl,rfl⟩,⟨rfl,rfl⟩,⟨rfl,rfl⟩,trivial⟩,⟨z59 rfl (z7 fun _=>rfl),trivial⟩⟩ ?_
   intro i hi
   by_cases hil:i < ls.length
   ·repeat' (first|((fail_if_success apply z114 7);(fail_if_success apply z96 7);apply y4 ok;rfl;conv=>whnf)|(apply y39;(first|omega|((try dsimp only);simp only [y45,y44,y43,y42,y54,y55];omega)|exact ⟨rfl,z25 rfl z32⟩);conv=>whnf)|(with_reducible apply z15;omega;intro _;conv=>whnf)|(apply z8<;>intro _<;>conv=>whnf))
    ·refine y81 (Gl.Reach.absorb 3 1 i 0 rfl (z941 (z1182 hi rfl)) rfl rfl rfl rfl (z212 rfl z36) rfl) ?_
     conv=>whnf
     repeat' (first|(apply y4 ok;rfl;conv=>whnf)|(apply y39;((unfold inI;omega));conv=>whnf))
     refine z81 (i+1) [3] (by omega) (by omega) ⟨rfl,by decide,rfl,⟨⟨rfl,rfl⟩,⟨rfl,rfl⟩,⟨rfl,rfl⟩,⟨rfl,rfl⟩,trivial⟩,⟨z59 (z83 (z1183 hil rfl rfl)) (z7 fun _=>rfl),trivial⟩⟩
    ·omega
   ·obtain rfl:i=ls.length:=by omega
    rw [y52]
    repeat' (first|(apply y4 ok;rfl;conv=>whnf)|(apply y39;(omega);conv=>whnf)|(with_reducible apply z15;omega;intro _;conv=>whnf)|(apply z8<;>intro _<;>conv=>whnf)|(apply z86 [] [0] [1] (k2);(focus (exact z55 (z937 (l:=ls.map fun x=>[x]) (by show AObj.cells 1 _=_;rw [List.map_map];rfl) rfl rfl (by simp)) z84));(focus ((repeat' (exact z43))<;>(fail)));rfl;rfl;rfl;rfl;rfl;(focus ((repeat' (first|exact z17|apply z14))<;>((refine z23 ?_;((exact z7 (fun _=>rfl)))))));((refine .inr ⟨rfl,?_⟩;repeat' (first|exact True.intro|apply y39|exact z121 (fun _=>rfl) _)));conv=>whnf))
    all_goals try (exfalso;omega)
    exact z95 [1] (by decide) rfl rfl rfl ⟨z59 rfl (z7 fun _=>rfl),trivial⟩
  have:=key.keepT (L:=(numF (z344 (ls.map fun x=>[x])) ls.length).1.map enI) (z145 _ _) (by rw [y45,z78]) rfl
  unfold ints
  rw [z78]
  exact this
 ·have h:=(y68 _).mp h
  have e:lblB g l=[]:=by unfold lblB;rw [h];rfl
  rw [h] at k1
  rw [e,h]
  refine z12 z19 Tryz.func121 rfl rfl 36 Tryz.ntmps121 (by simp) ?_
  repeat' (first|(apply y4 ok;rfl;conv=>whnf)|(apply z6 (k1);rfl;rfl;conv=>whnf))
  exact z579 rfl rfl (z620 z493)
def onB (t:Trans) (n:Int):Bool:=decide (((n.toNat &&& t.care.toNat:Nat):Int)=t.val)
def z453 (n:Nat) (i:Nat) (ℓ to:Int) (e:Trans):List (Nat×Int):=if onB e ℓ then [((i:Nat) * n+e.src.toNat,to * n+e.dst)] else []
def z719 (n:Nat) (ed:List Trans) (i:Nat) (ℓ to:Int):List (Nat×Int):=ed.flatMap (z453 n i ℓ to)
def z720 (n:Nat) (ed:List Trans) (nx:List (List Int)) (ls:List Int) (i:Nat):List (Nat×Int):=(nx.getD i []).flatMap (z719 n ed i (ls.getD i 0))
def z718 (g:Graph) (ls:List Int) (a:Aut):List (Nat×Int):=(List.range g.st.length).flatMap (z720 a.acc.length a.ed g.nx ls)
def z58 (g:Graph) (ls:List Int) (a:Aut):List (List Int):=build (a.acc.length * g.st.length) (z718 g ls a)
theorem z717 (g:Graph) (hg:GB g) (ls:List Int) (a:Aut) (ha:AutP a):(z718 g ls a).length≤7372800:=by
 obtain ⟨⟨g1,g2⟩,g3,g4⟩:=hg
 have h1:∀ i ℓ to,(z719 a.acc.length a.ed i ℓ to).length≤2048:=fun i ℓ to=>by
  have:=z266 (f:=z453 a.acc.length i ℓ to) (c:=1) a.ed (fun e _=>by unfold z453;split<;>simp)
  have:=ha.2.1
  unfold z719;omega
 have h2:∀ i∈List.range g.st.length,(z720 a.acc.length a.ed g.nx ls i).length≤122880:=fun i hi=>by
  rw [y57] at hi
  unfold z720
  rw [z13 (l:=g.nx) (by omega)]
  have h3:=z266 (f:=z719 a.acc.length a.ed i (ls.getD i 0)) (c:=2048) g.nx[i] (fun e _=>h1 _ _ _)
  have h4:=(g4 i (by omega) (by omega) hi).2.1
  have:g.nx[i].length * 2048≤60 * 2048:=Nat.mul_le_mul_right _ (by omega)
  omega
 have h5:=z266 (f:=z720 a.acc.length a.ed g.nx ls) (c:=122880) (List.range g.st.length) h2
 rw [List.length_range] at h5
 have:g.st.length * 122880≤60 * 122880:=Nat.mul_le_mul_right _ (by omega)
 unfold z718;omega
end Go.Proofs.YteinbnahinpegaaGreat
