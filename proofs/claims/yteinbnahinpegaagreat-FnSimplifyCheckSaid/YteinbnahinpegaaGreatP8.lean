/- A part of the proofs over this program: T353, T359, T363, T355, T45, T46, T364, T354, T344, T341, T342, T343, T215, T190, T213, T216. -/
import Derived.Test.YteinbnahinpegaaGreatP7
import Derived.Shelf.Slices.In.SortNone
set_option linter.all false
namespace Go.Proofs.YteinbnahinpegaaGreat
open Go.Gl Proofs.Tryz
attribute [local irreducible] z18 AWP z38 z41 z40 RetS z42
noncomputable def kini (k:Nat→Bool) (l:List Int):List Int:=(l.filter fun q=>k q.toNat).map fun q=>(nuA k q.toNat:Int)
noncomputable def kedg (k:Nat→Bool) (l:List Trans):List Trans:=(l.filter fun e=>k e.src.toNat && k e.dst.toNat).map fun e=>⟨nuA k e.src.toNat,e.care,e.val,nuA k e.dst.toNat⟩
noncomputable def z654 (k:Nat→Bool) (a:Aut):Aut:=⟨kini k a.ini,if z137 k a.acc a.acc.length=[] then [false] else z137 k a.acc a.acc.length,kedg k a.ed⟩
theorem z927 (a:Aut):z654 (z86 a) a=z104 a:=rfl
theorem z418 {α β:Type} (p:α→Bool) (f:α→β) {l:List α} {k:Nat} (h:k < l.length):((l.take (k+1)).filter p).map f=((l.take k).filter p).map f++if p l[k]=true then [f l[k]] else []:=by
 rw [y47 h,List.filter_append,y61]
 congr 1
 simp only [List.filter_cons,List.filter_nil]
 split<;>rfl
def atK (k:Nat→Bool) (n:Nat):List Int:=(List.range n).map fun q=>(nuA k q:Int)
theorem atK_len (k:Nat→Bool) (n:Nat):(atK k n).length=n:=by simp [atK]
theorem atK_snoc (k:Nat→Bool) (n:Nat):atK k (n+1)=atK k n++[(nuA k n:Int)]:=by
 unfold atK;rw [y59,y61];rfl
theorem atK_get {k:Nat→Bool} {n q:Nat} (h:q < n):((atK k n).map enI)[q]?=some (enI (nuA k q:Int)):=by
 unfold atK;rw [y48,y48,List.getElem?_range h];rfl
theorem z1199 {a:Aut} (h:AutP a):a.ini.length≤64:=by
 have h1:=h.1
 have h2:=h.2.2.1
 by_cases h0:a.ini.length=0
 ·omega
 ·have:=h2.ge (a.ini.length - 1) (by omega)
  have h3:=(h2 (a.ini.length - 1) (by omega) (by omega)).1
  omega
set_option maxHeartbeats 12800000 in
theorem z891 (a:Aut) (hA:AutP a) (k:Nat→Bool):QQ 107 [.agg a.cs,lst 1 enB (fnB a.acc.length k)] [] (.agg [.sref 0 0 (z654 k a).ini.length,.sref 1 0 (z654 k a).acc.length,.sref 2 0 (z654 k a).ed.length]) [.cells 1 ((z654 k a).ini.map enI),.cells 1 ((z654 k a).acc.map enB),.cells 4 ((z654 k a).ed.map Trans.cs)]:=by
 have h1:=hA.1
 have h2:=hA.2.1
 have ai:=z1199 hA
 have hini:=z194 hA
 rw [z106] at hini
 have hed:=hA.2.2.2
 have hkl:=z173 a.acc.length k
 have hal:=fun i=>z102 k a.acc i
 have hnl:=fun i=>z159 k i
 have hgk:=fun q (h:q < a.acc.length)=>z324 (N:=a.acc.length) k h
 unfold z654
 dsimp only
 generalize hK:fnB a.acc.length k=K at *
 refine z12 z24 func107 rfl rfl 118 ntmps107 (by simp) ?_
 repeat' (((apply y6 ok;rfl))<;>conv=>whnf)
 refine y82 (y86 1 rfl) ?_
 refine z69 (fun x:Nat×List Bool×List Int=>([(1,lst 1 enB K),(2,.ptr 0 none 0),(4,.ptr 1 none 0),(5,.ptr 2 none 0),(6,.sref 3 0 x.2.2.length),(7,.int x.1)],[.cells 3 [a.cs],.cells 3 [[.nils,.nils,.nils]],.cells 3 [[.nils,.sref 4 0 x.2.1.length,.nils]],.cells 1 (x.2.2.map enI),.cells 1 (x.2.1.map enB)])) (fun x=>x.1≤a.acc.length∧x.2.1=z137 k a.acc x.1∧x.2.2=atK k x.1) (fun x=>a.acc.length - x.1) (0,[],[]) ⟨y50 _,by simp [z137],rfl⟩ (by refine swR [0,1,2,3,4] [] rfl rfl ?_;(repeat' first|exact y83 _|exact z56|apply y85|refine z11 rfl z39 ?_|constructor)) ?_
 rintro ⟨i,C,A⟩ ⟨hi,hC,hA1⟩
 dsimp only at hi hC hA1 ⊢
 have hatl:=atK_len k i
 rw [← hA1] at hatl
 have hCl:C.length=nuA k i:=by rw [hC,hal]
 have hCi:=hnl i
 by_cases hil:i < a.acc.length
 ·have gk:=hgk i hil
  have ga:(a.acc.map enB)[i]?=some (enB (a.acc.getD i false)):=by rw [y48,y42 hil,z20 hil];rfl
  have hC2:=z186 k a.acc i
  rw [← hC] at hC2
  have hat:=atK_snoc k i
  rw [← hCl,← hA1] at hat
  generalize a.acc.getD i false=b at *
  cases hki:k i with
  |true =>
   rw [hki] at gk
   rw [if_pos hki] at hC2
   repeat' ((first|apply y6 ok;rfl|apply z27;kernel_rfl|refine z14 (i:=i) rfl gk ?_|refine z14 (i:=i) rfl ga ?_|(apply y40;first|omega|unfold inI;omega|(try dsimp only);simp only [y46,y45,y44,y43,y55,y56];omega|exact ⟨rfl,z17 rfl z26⟩)|apply z7<;>intro _)<;>conv=>whnf)
   all_goals try (exfalso;omega)
   all_goals refine z29 (i+1,C++[b],A++[(C.length:Int)]) ⟨hil,hC2.symm,hat.symm⟩ (by show a.acc.length - (i+1) < a.acc.length - i;omega) (by refine swR [0,1,2,6,8] [] rfl rfl ?_;(repeat' first|exact y83 _|refine z44 ?_;((simp;done))|apply y85|(refine z33 rfl ?_ ?_);(focus ((repeat' (first|exact z6 (fun _=>rfl)|apply z25));done))|refine z77 ?_ ?_;(focus omega)|constructor))
  |false =>
   rw [hki] at gk
   rw [if_neg (by rw [hki];simp),y62] at hC2
   repeat' ((first|apply y6 ok;rfl|refine z14 (i:=i) rfl gk ?_|(apply y40;first|omega|unfold inI;omega|(try dsimp only);simp only [y46,y45,y44,y43,y55,y56];omega|exact ⟨rfl,z17 rfl z26⟩)|apply z7<;>intro _)<;>conv=>whnf)
   all_goals try (exfalso;omega)
   all_goals refine z29 (i+1,C,A++[(C.length:Int)]) ⟨hil,hC2.symm,hat.symm⟩ (by show a.acc.length - (i+1) < a.acc.length - i;omega) (by refine swR [0,1,2,6,4] [] rfl rfl ?_;(repeat' first|exact y83 _|exact z10 _|refine z44 ?_;((simp;done))|apply y85|(first|refine z33 rfl ?_ ?_|refine z11 rfl ?_ ?_);(focus ((repeat' (first|exact z6 (fun _=>rfl)|apply z25));done))|refine z77 ?_ ?_;(focus omega)|constructor))
 ·obtain rfl:i=a.acc.length:=by omega
  repeat' ((first|apply y6 ok;rfl|apply z27;kernel_rfl|apply y40;omega|((with_reducible apply z13;omega));intro _|(first|apply z7|apply z83)<;>intro _)<;>conv=>whnf)
  all_goals try (exfalso;omega)
  have hatg:=fun q (h:q < a.acc.length)=>atK_get (k:=k) h
  rw [← hA1] at hatg
  refine y82 (y86 1 rfl) ?_
  refine z69 (fun x:Nat×List Int=>([(1,lst 1 enB K),(2,.ptr 0 none 0),(4,.ptr 1 none 0),(5,.ptr 2 none 0),(6,.sref 3 0 A.length),(8,.int x.1)],[.cells 3 [a.cs],.cells 3 [[.nils,.nils,.nils]],.cells 3 [[.sref 5 0 x.2.length,.sref 4 0 C.length,.nils]],.cells 1 (A.map enI),.cells 1 (C.map enB),.cells 1 (x.2.map enI)])) (fun x=>x.1≤a.ini.length∧x.2=kini k (a.ini.take x.1)) (fun x=>a.ini.length - x.1) (0,[]) ⟨y50 _,rfl⟩ (by refine swR [0,1,2,3,4,5] [] rfl rfl ?_;(repeat' first|exact y83 _|exact z56|exact z10 _|apply y85|(refine z11 rfl ?_ ?_);(focus ((repeat' (first|exact z39|exact z6 (fun _=>rfl)));done))|constructor)) ?_
  rintro ⟨i,I⟩ ⟨hi,hI⟩
  dsimp only at hi hI ⊢
  have hIl:I.length≤64:=by
   rw [hI];unfold kini
   have:=List.length_filter_le (fun q:Int=>k q.toNat) (a.ini.take i)
   simp only [y46,y45] at this ⊢
   omega
  by_cases hil:i < a.ini.length
  ·have gi:(a.ini.map enI)[i]?=some (enI a.ini[i]):=by rw [y48,y42 hil];rfl
   have hx:=hini _ (y41 hil)
   have hI2:kini k (a.ini.take (i+1))=_:=z418 (fun q:Int=>k q.toNat) (fun q=>(nuA k q.toNat:Int)) hil
   rw [show ((a.ini.take i).filter fun q:Int=>k q.toNat).map (fun q=>(nuA k q.toNat:Int))=I from hI.symm] at hI2
   generalize a.ini[i]=x at *
   obtain ⟨v,rfl⟩:∃ v:Nat,x=v:=⟨x.toNat,by omega⟩
   rw [y74] at hI2
   have gk:=hgk v (by omega)
   have gt:=hatg v (by omega)
   cases hki:k v with
   |true =>
    rw [hki] at gk
    rw [if_pos hki] at hI2
    repeat' ((first|apply y6 ok;rfl|apply z27;kernel_rfl|refine z14 (i:=i) rfl gi ?_|refine z14 (i:=v) rfl gk ?_|refine z14 (i:=v) rfl gt ?_|(apply y40;first|omega|unfold inI;omega|(try dsimp only);simp only [y46,y45,y44,y43,y55,y56];omega|exact ⟨rfl,z17 rfl z26⟩)|apply z7<;>intro _)<;>conv=>whnf)
    all_goals try (exfalso;omega)
    all_goals refine z29 (i+1,I++[(nuA k v:Int)]) ⟨hil,hI2.symm⟩ (by show a.ini.length - (i+1) < a.ini.length - i;omega) (by refine swR [0,1,2,3,4,7] [] rfl rfl ?_;(repeat' first|exact y83 _|exact z10 _|refine z44 ?_;((simp;done))|apply y85|(first|refine z33 rfl ?_ ?_|refine z11 rfl ?_ ?_);(focus ((repeat' (first|exact z6 (fun _=>rfl)|apply z25));done))|refine z77 ?_ ?_;(focus omega)|constructor))
   |false =>
    rw [hki] at gk
    rw [if_neg (by rw [hki];simp),y62] at hI2
    repeat' ((first|apply y6 ok;rfl|refine z14 (i:=i) rfl gi ?_|refine z14 (i:=v) rfl gk ?_|(apply y40;first|omega|unfold inI;omega)|apply z7<;>intro _)<;>conv=>whnf)
    all_goals try (exfalso;omega)
    all_goals refine z29 (i+1,I) ⟨hil,hI2.symm⟩ (by show a.ini.length - (i+1) < a.ini.length - i;omega) (by refine swR [0,1,2,3,4,5] [] rfl rfl ?_;(repeat' first|exact y83 _|exact z10 _|apply y85|refine z11 rfl (z6 (fun _=>rfl)) ?_|constructor))
  ·obtain rfl:i=a.ini.length:=by omega
   rw [y53] at hI
   rw [← hI]
   repeat' ((first|apply y6 ok;rfl|apply z27;kernel_rfl|apply y40;omega|(first|with_reducible apply z13;omega|with_reducible apply z79;omega|apply z13;omega);intro _|(first|apply z7|apply z83)<;>intro _)<;>conv=>whnf)
   all_goals try (exfalso;omega)
   refine y82 (y86 4 rfl) ?_
   refine z69 (fun x:Nat×List Trans=>([(1,lst 1 enB K),(2,.ptr 0 none 0),(4,.ptr 1 none 0),(5,.ptr 2 none 0),(6,.sref 3 0 A.length),(9,.int x.1)],[.cells 3 [a.cs],.cells 3 [[.nils,.nils,.nils]],.cells 3 [[.sref 5 0 I.length,.sref 4 0 C.length,.sref 6 0 x.2.length]],.cells 1 (A.map enI),.cells 1 (C.map enB),.cells 1 (I.map enI),.cells 4 (x.2.map Trans.cs)])) (fun x=>x.1≤a.ed.length∧x.2=kedg k (a.ed.take x.1)) (fun x=>a.ed.length - x.1) (0,[]) ⟨y50 _,rfl⟩ (by refine swR [0,1,2,3,4,5,6] [] rfl rfl ?_;(repeat' first|exact y83 _|exact z56|exact z10 _|apply y85|(refine z11 rfl ?_ ?_);(focus ((repeat' (first|exact z39|exact z6 (fun _=>rfl)));done))|constructor)) ?_
   rintro ⟨i,E⟩ ⟨hi,hE⟩
   dsimp only at hi hE ⊢
   have hEl:E.length≤2048:=by
    rw [hE];unfold kedg
    have:=List.length_filter_le (fun e:Trans=>k e.src.toNat && k e.dst.toNat) (a.ed.take i)
    simp only [y46,y45] at this ⊢
    omega
   by_cases hil:i < a.ed.length
   ·have gi:(a.ed.map Trans.cs)[i]?=some (Trans.cs a.ed[i]):=by rw [y48,y42 hil];rfl
    have hx:=hed _ (y41 hil)
    have hE2:kedg k (a.ed.take (i+1))=_:=z418 (fun e:Trans=>k e.src.toNat && k e.dst.toNat) (fun e=>(⟨nuA k e.src.toNat,e.care,e.val,nuA k e.dst.toNat⟩:Trans)) hil
    rw [show ((a.ed.take i).filter fun e:Trans=>k e.src.toNat && k e.dst.toNat).map (fun e=>(⟨nuA k e.src.toNat,e.care,e.val,nuA k e.dst.toNat⟩:Trans))=E from hE.symm] at hE2
    generalize a.ed[i]=e at *
    unfold z205 at hx
    obtain ⟨x,c,w,y⟩:=e
    dsimp only at hx hE2
    obtain ⟨v,rfl⟩:∃ v:Nat,x=v:=⟨x.toNat,by omega⟩
    obtain ⟨u,rfl⟩:∃ u:Nat,y=u:=⟨y.toNat,by omega⟩
    rw [y74,y74] at hE2
    have gk:=hgk v (by omega)
    have gu:=hgk u (by omega)
    have gt:=hatg v (by omega)
    have gw:=hatg u (by omega)
    cases hkv:k v<;>cases hku:k u
    all_goals
     rw [hkv] at gk
     rw [hku] at gu
    case true.true =>
     rw [if_pos (by rw [hkv,hku];rfl)] at hE2
     repeat' ((first|apply y6 ok;rfl|apply z27;kernel_rfl|refine z14 (i:=i) rfl gi ?_|refine z14 (i:=v) rfl gk ?_|refine z14 (i:=u) rfl gu ?_|refine z14 (i:=v) rfl gt ?_|refine z14 (i:=u) rfl gw ?_|(apply y40;first|omega|unfold inI;omega|dsimp only;omega|(try dsimp only);simp only [y46,y45,y44,y43,y55,y56];omega|exact ⟨rfl,z17 rfl z26⟩)|apply z7<;>intro _)<;>conv=>whnf)
     all_goals try (exfalso;omega)
     all_goals refine z29 (i+1,E++[⟨nuA k v,c,w,nuA k u⟩]) ⟨hil,hE2.symm⟩ (by show a.ed.length - (i+1) < a.ed.length - i;omega) (by refine swR [0,1,2,3,4,5,9] [] rfl rfl ?_;(repeat' first|exact y83 _|exact z10 _|refine z44 ?_;((simp;done))|apply y85|(first|refine z33 rfl ?_ ?_|refine z11 rfl ?_ ?_);(focus ((repeat' (first|exact z6 (fun _=>rfl)|apply z25));done))|refine z77 ?_ ?_;(focus omega)|constructor))
    all_goals
     rw [if_neg (by rw [hkv,hku];simp),y62] at hE2
     repeat' ((first|apply y6 ok;rfl|refine z14 (i:=i) rfl gi ?_|refine z14 (i:=v) rfl gk ?_|refine z14 (i:=u) rfl gu ?_|(apply y40;first|omega|unfold inI;omega|dsimp only;omega)|apply z7<;>intro _)<;>conv=>whnf)
     all_goals try (exfalso;omega)
     all_goals refine z29 (i+1,E) ⟨hil,hE2.symm⟩ (by show a.ed.length - (i+1) < a.ed.length - i;omega) (by refine swR [0,1,2,3,4,5,6] [] rfl rfl ?_;(repeat' first|exact y83 _|exact z10 _|apply y85|refine z11 rfl (z6 (fun _=>rfl)) ?_|constructor))
   ·obtain rfl:i=a.ed.length:=by omega
    rw [y53] at hE
    rw [← hE]
    rw [← hC]
    by_cases hc:C=[]
    ·subst hc
     rw [if_pos rfl]
     repeat' ((first|apply y6 ok;rfl|apply z27;kernel_rfl|apply y40;omega|(first|with_reducible apply z13;omega|with_reducible apply z79;omega|apply z13;omega);intro _|(first|apply z7|apply z83)<;>intro _)<;>conv=>whnf)
     all_goals first|exfalso;omega|refine rsD [5,7,6] [] rfl ?_;(repeat' first|exact y83 _|exact z10 _|apply y85|refine z11 rfl (z6 (fun _=>rfl)) ?_|constructor)
    ·rw [if_neg hc]
     have:=List.length_pos_iff.2 hc
     repeat' ((first|apply y6 ok;rfl|apply z27;kernel_rfl|apply y40;omega|(first|with_reducible apply z13;omega|with_reducible apply z79;omega|apply z13;omega);intro _|(first|apply z7|apply z83)<;>intro _)<;>conv=>whnf)
     all_goals first|exfalso;omega|refine rsD [5,4,6] [] rfl ?_;(repeat' first|exact y83 _|exact z10 _|refine z11 rfl (z6 (fun _=>rfl)) ?_|constructor)
def z1227 (l:List Bool):List AC:=[lst 1 enB l]
theorem z598 (a:Aut) (hA:AutP a):QQ 102 [.agg a.cs] [] (lst 1 z1227 (z101 a.acc.length (relA a))) []:=by
 refine y7 (z552 a hA) [] [0] rfl rfl rfl (y11 ?_) .nil
 rw [z244 (w:=1) (es:=(z101 a.acc.length (relA a)).map z315) rfl rfl rfl (by rw [y46,z378])]
 unfold z315
 rw [z377 (f:=enB) (fun b x hx=>by rw [List.mem_singleton.1 hx];rfl)]
 unfold lst
 rw [z378];rfl
theorem z1164 (a : Aut) {i k : Nat} (hi : i < a.acc.length) (hk : k < i) (hs : eqA a i k = true) (h : ∀ j, j < k → eqA a i j = false) :
    (numF (eqA a) (i+1)).1=(numF (eqA a) i).1++[(numF (eqA a) i).1.getD k 0]∧z137 (frsA a) a.acc (i+1)=z137 (frsA a) a.acc i:=by
  obtain ⟨f1,f2⟩:=z263 (same:=eqA a) (n:=a.acc.length) hi hk hs h
  have hlt:=numF_lt' (same:=eqA a) (i:=i) (k:=k) (n:=a.acc.length) (by omega) hk
  obtain ⟨_,hsu⟩:=z404 (same:=eqA a) hi
  have hf:¬ frsA a i=true:=fun hf=>by
    have:=of_decide_eq_true hf
    rw [z541 hi,f1] at this
    omega
  refine ⟨?_,by rw [z186,if_neg hf,y62]⟩
  rw [hsu,f1,z873 hk (n:=a.acc.length) (by omega)]
theorem mrg_none (a : Aut) {i : Nat} (hi : i < a.acc.length) (h : ∀ j, j < i → eqA a i j = false) :
    (numF (eqA a) (i+1)).1=(numF (eqA a) i).1++[((z137 (frsA a) a.acc i).length:Int)]∧z137 (frsA a) a.acc (i+1)=z137 (frsA a) a.acc i++[a.acc.getD i false]:=by
  obtain ⟨f1,f2⟩:=z317 (same:=eqA a) (n:=a.acc.length) hi h
  obtain ⟨_,hsu⟩:=z404 (same:=eqA a) hi
  have hf:frsA a i=true:=y79 (by rw [z541 hi,f1])
  refine ⟨?_,by rw [z186,if_pos hf]⟩
  rw [hsu,f1,z102,z797 a i (by omega)]
theorem z973 {l:List Trans} {k:Nat} (h:k < l.length):dedT (l.take (k+1))=if l[k]∈dedT (l.take k) then dedT (l.take k) else dedT (l.take k)++[l[k]]:=by
 unfold dedT
 rw [y47 h,y60]
 rfl
theorem z941 {A:List Int} {v:Nat} (h:v < A.length):(A.map enI)[v]?=some (enI (pick A (v:Int))):=by
 unfold pick
 rw [y74,y48,y42 h,z20 h];rfl
set_option maxRecDepth 20000 in
set_option maxHeartbeats 25600000 in
theorem z890 (a:Aut) (hA:AutP a):QQ 48 [.agg a.cs] [] (.agg (z105 a).cs) []:=by
 have h1:=hA.1
 have h2:=hA.2.1
 have ai:=z1199 hA
 have hini:=z194 hA
 rw [z106] at hini
 have hed:=hA.2.2.2
 have ke:=z695
 have ge:=z1225
 have cR:=z598 a hA
 have hRl:=z378 a.acc.length (relA a)
 have hRg:∀ i,i < a.acc.length→((z101 a.acc.length (relA a)).map z1227)[i]?=some (z1227 (fnB a.acc.length (relA a i))):=fun i hi=>by
  rw [y48,z379 _ hi];rfl
 have hfl:=fun i=>z173 a.acc.length (relA a i)
 have hfg:=fun i j (h:j < a.acc.length)=>z324 (N:=a.acc.length) (relA a i) h
 have hE:=fun i j=>show eqA a i j=(relA a i j && relA a j i) from rfl
 have hfo:=fun i k h1 h2 h3 h4=>z1164 a (i:=i) (k:=k) h1 h2 h3 h4
 have hno:=fun i h1 h2=>mrg_none a (i:=i) h1 h2
 have hNl:=fun i=>z118 (eqA a) i
 have hCl:=fun i=>z102 (frsA a) a.acc i
 have hCn:=fun i=>z159 (frsA a) i
 have hNE:(numF (eqA a) a.acc.length).1=numA a:=rfl
 have hm:z105 a=⟨z279 (a.ini.map (pick (numA a))),z137 (frsA a) a.acc a.acc.length,dedT (a.ed.map (mvE (numA a)))⟩:=rfl
 have hN0:(numF (eqA a) 0).1=[]:=rfl
 have hC0:z137 (frsA a) a.acc 0=[]:=rfl
 rw [hm]
 generalize numA a=Z at *
 generalize eqA a=eq at *
 generalize relA a=R at *
 generalize z101 a.acc.length R=RR at *
 generalize frsA a=fr at *
 clear hm
 refine z12 z24 func48 rfl rfl 156 ntmps48 (by simp) ?_
 repeat' ((first|apply y6 ok;rfl|apply z8 cR;rfl;rfl)<;>conv=>whnf)
 refine y82 (y86 1 rfl) ?_
 refine z69 (fun x:Nat×List Int×List Bool=>([(1,.ptr 0 none 0),(2,.ptr 1 none 0),(3,lst 1 z1227 RR),(4,.sref 2 0 x.2.1.length),(5,.ptr 3 none 0),(6,.int x.1)],[.cells 3 [a.cs],.cells 3 [[.nils,.nils,.nils]],.cells 1 (x.2.1.map enI),.cells 3 [[.nils,.sref 4 0 x.2.2.length,.nils]],.cells 1 (x.2.2.map enB)])) (fun x=>x.1≤a.acc.length∧x.2.1=(numF eq x.1).1∧x.2.2=z137 fr a.acc x.1) (fun x=>a.acc.length - x.1) (0,[],[]) ⟨y50 _,hN0.symm,hC0.symm⟩ (by refine swR [0,1,2,3,4] [] rfl rfl ?_;(repeat' first|exact y83 _|exact z56|apply y85|refine z11 rfl z39 ?_|constructor)) ?_
 rintro ⟨i,A,C⟩ ⟨hi,hAn,hCn1⟩
 dsimp only at hi hAn hCn1 ⊢
 have hAl:=hNl i
 have hCl1:=hCl i
 have hCl2:=hCn i
 rw [← hAn] at hAl
 rw [← hCn1] at hCl1
 by_cases hil:i < a.acc.length
 ·have gri:=hRg i hil
  have hli:=hfl i
  have hgi:=hfg i
  have hfo1:=hfo i
  have hno1:=hno i hil
  rw [← hAn,← hCn1] at hno1
  repeat' ((first|apply y6 ok;rfl|apply z7<;>intro _)<;>conv=>whnf)
  all_goals try (exfalso;omega)
  refine z69 (fun k:Nat=>([(1,.ptr 0 none 0),(2,.ptr 1 none 0),(3,lst 1 z1227 RR),(4,.sref 2 0 A.length),(5,.ptr 3 none 0),(6,.int i),(7,.int k)],[.cells 3 [a.cs],.cells 3 [[.nils,.nils,.nils]],.cells 1 (A.map enI),.cells 3 [[.nils,.sref 4 0 C.length,.nils]],.cells 1 (C.map enB)])) (fun k=>k≤i∧∀ j,j < k→eq i j=false) (fun k=>i - k) 0 ⟨y50 _,fun _ h=>by omega⟩ (by refine swR [0,1,2,3,4] [] rfl rfl ?_;(repeat' first|exact y83 _|exact z10 _|apply y85|refine z11 rfl (z6 (fun _=>rfl)) ?_|constructor)) ?_
  rintro k ⟨hk,hkn⟩
  by_cases hki:k < i
  ·have grk:=hRg k (by omega)
   have g1:=hgi k (by omega)
   have g2:=hfg k i hil
   have hlk:=hfl k
   have he:=hE i k
   have ga:(A.map enI)[k]?=some (enI (A.getD k 0)):=by rw [y48,y42 (by omega),z20 (by omega)];rfl
   generalize fnB a.acc.length (R i)=Ri at *
   generalize fnB a.acc.length (R k)=Rk at *
   generalize R i k=b1 at *
   generalize R k i=b2 at *
   cases hb1:b1<;>cases hb2:b2
   case true.true =>
    rw [hb1,hb2] at he
    rw [hb1] at g1
    rw [hb2] at g2
    obtain ⟨f1,f2⟩:=hfo1 k hil hki he hkn
    rw [← hAn] at f1
    rw [← hCn1] at f2
    generalize A.getD k 0=y at *
    repeat' ((first|apply y6 ok;rfl|apply z27;kernel_rfl|refine z14 (i:=i) rfl gri ?_|refine z14 (i:=k) rfl grk ?_|refine z14 (i:=k) rfl g1 ?_|refine z14 (i:=i) rfl g2 ?_|refine z14 (i:=k) rfl ga ?_|(apply y40;first|omega|unfold inI;omega|(try dsimp only);simp only [y46,y45,y44,y43,y55,y56];omega|exact ⟨rfl,z17 rfl z26⟩)|((with_reducible apply z13;omega));intro _|apply z7<;>intro _)<;>conv=>whnf)
    all_goals try (exfalso;omega)
    all_goals refine z29 (i+1,A++[y],C) ⟨hil,f1.symm,f2.symm⟩ (by show a.acc.length - (i+1) < a.acc.length - i;omega) (by refine swR [0,1,6,3,4] [] rfl rfl ?_;(repeat' first|exact y83 _|exact z10 _|refine z44 ?_;((simp;done))|apply y85|(first|refine z33 rfl ?_ ?_|refine z11 rfl ?_ ?_);(focus ((repeat' (first|exact z6 (fun _=>rfl)|apply z25));done))|refine z77 ?_ ?_;(focus omega)|constructor))
   all_goals
    rw [hb1,hb2] at he
    rw [hb1] at g1
    rw [hb2] at g2
    repeat' ((first|apply y6 ok;rfl|apply z27;kernel_rfl|refine z14 (i:=i) rfl gri ?_|refine z14 (i:=k) rfl grk ?_|refine z14 (i:=k) rfl g1 ?_|refine z14 (i:=i) rfl g2 ?_|(apply y40;first|omega|unfold inI;omega)|(first|with_reducible apply z13;omega|apply z13;omega);intro _|apply z7<;>intro _)<;>conv=>whnf)
    all_goals try (exfalso;omega)
    all_goals refine z29 (k+1) ⟨hki,fun j hj=>?_⟩ (by omega) (by refine swR [0,1,2,3,4] [] rfl rfl ?_;(repeat' first|exact y83 _|exact z10 _|apply y85|refine z11 rfl (z6 (fun _=>rfl)) ?_|constructor))
    all_goals
     by_cases e:j=k
     ·subst e;exact he
     ·exact hkn j (by omega)
  ·obtain rfl:k=i:=by omega
   obtain ⟨f1,f2⟩:=hno1 hkn
   have ga:(a.acc.map enB)[k]?=some (enB (a.acc.getD k false)):=by rw [y48,y42 hil,z20 hil];rfl
   generalize a.acc.getD k false=y at *
   repeat' ((first|apply y6 ok;rfl|apply z27;kernel_rfl|refine z14 (i:=k) rfl ga ?_|(apply y40;first|omega|unfold inI;omega|(try dsimp only);simp only [y46,y45,y44,y43,y55,y56];omega|exact ⟨rfl,z17 rfl z26⟩)|(first|with_reducible apply z13;omega|apply z13;omega);intro _|(first|apply z7|apply z82|apply z83)<;>intro _)<;>conv=>whnf)
   all_goals try (exfalso;omega)
   all_goals refine z29 (k+1,A++[(C.length:Int)],C++[y]) ⟨hil,f1.symm,f2.symm⟩ (by show a.acc.length - (k+1) < a.acc.length - k;omega) (by refine swR [0,1,6,3,8] [] rfl rfl ?_;(repeat' first|exact y83 _|refine z44 ?_;((simp;done))|apply y85|(refine z33 rfl ?_ ?_);(focus ((repeat' (first|exact z6 (fun _=>rfl)|apply z25));done))|refine z77 ?_ ?_;(focus omega)|constructor))
 ·obtain rfl:i=a.acc.length:=by omega
  rw [hNE] at hAn
  rw [← hAn,← hCn1]
  have hgA:=fun v (h:v < a.acc.length)=>z941 (A:=A) (v:=v) (by omega)
  repeat' ((first|apply y6 ok;rfl|apply z7<;>intro _)<;>conv=>whnf)
  all_goals try (exfalso;omega)
  refine z69 (fun x:Nat×List Int=>([(1,.ptr 0 none 0),(2,.ptr 1 none 0),(4,.sref 2 0 A.length),(5,.ptr 3 none 0),(8,.int x.1)],[.cells 3 [a.cs],.cells 3 [[.nils,.nils,.nils]],.cells 1 (A.map enI),.cells 3 [[ints x.2,.sref 4 0 C.length,.nils]],.cells 1 (C.map enB)])) (fun x=>x.1≤a.ini.length∧x.2=((a.ini.take x.1).map (pick A)).foldl insS []) (fun x=>a.ini.length - x.1) (0,[]) ⟨y50 _,rfl⟩ (by refine swR [0,1,2,3,4] [] rfl rfl ?_;(repeat' first|exact y83 _|exact z63|exact z10 _|apply y85|refine z11 rfl (z6 (fun _=>rfl)) ?_|constructor)) ?_
  rintro ⟨i,I⟩ ⟨hi,hI⟩
  dsimp only at hi hI ⊢
  have hasc:=(z630 (l:=(a.ini.take i).map (pick A)) (out:=[]) (by simp [Asc])).1
  have hln:=z604 ((a.ini.take i).map (pick A)) []
  rw [y46,y45] at hln
  simp only [y56] at hln
  rw [← hI] at hasc hln
  by_cases hil2:i < a.ini.length
  ·have gi:(a.ini.map enI)[i]?=some (enI a.ini[i]):=by rw [y48,y42 hil2];rfl
   have hx:=hini _ (y41 hil2)
   have hI2:((a.ini.take (i+1)).map (pick A)).foldl insS []=insS I (pick A a.ini[i]):=by
    rw [y47 hil2,y61,y60,← hI];rfl
   generalize a.ini[i]=x at *
   obtain ⟨v,rfl⟩:∃ v:Nat,x=v:=⟨x.toNat,by omega⟩
   have gv:=hgA v (by omega)
   have cS:=z791 I (pick A v) hasc (by omega)
   generalize pick A (v:Int)=y at *
   generalize insS I y=J at *
   repeat' ((first|apply y6 ok;rfl|apply z27;kernel_rfl|refine z14 (i:=i) rfl gi ?_|refine z14 (i:=v) rfl gv ?_|(apply y40;first|omega|unfold inI;omega)|apply z7<;>intro _|apply z8 cS;rfl;rfl)<;>conv=>whnf)
   all_goals try (exfalso;omega)
   all_goals refine z29 (i+1,J) ⟨hil2,hI2.symm⟩ (by show a.ini.length - (i+1) < a.ini.length - i;omega) (by refine swR [0,1,2,3,4] [] rfl rfl ?_;(repeat' first|exact y83 _|exact z10 _|apply y85|refine z11 rfl (z6 (fun _=>rfl)) ?_|constructor))
  ·obtain rfl:i=a.ini.length:=by omega
   rw [y53,sortD_eq] at hI
   rw [← hI]
   repeat' ((first|apply y6 ok;rfl|apply y40;omega|(first|with_reducible apply z13;omega|apply z13;omega);intro _|apply z7<;>intro _)<;>conv=>whnf)
   all_goals try (exfalso;omega)
   refine y82 (y86 4 rfl) ?_
   refine z69 (fun x:Nat×List Trans=>([(1,.ptr 0 none 0),(2,.ptr 1 none 0),(4,.sref 2 0 A.length),(5,.ptr 3 none 0),(9,.int x.1)],[.cells 3 [a.cs],.cells 3 [[.nils,.nils,.nils]],.cells 1 (A.map enI),.cells 3 [[ints I,.sref 4 0 C.length,.sref 5 0 x.2.length]],.cells 1 (C.map enB),.cells 4 (x.2.map Trans.cs)])) (fun x=>x.1≤a.ed.length∧x.2=dedT ((a.ed.map (mvE A)).take x.1)) (fun x=>a.ed.length - x.1) (0,[]) ⟨y50 _,rfl⟩ (by refine swR [0,1,2,3,4,5] [] rfl rfl ?_;(repeat' first|exact y83 _|exact z56|exact z10 _|apply y85|(refine z11 rfl ?_ ?_);(focus ((repeat' (first|exact z39|exact z6 (fun _=>rfl)));done))|constructor)) ?_
   rintro ⟨i,E⟩ ⟨hi,hEd⟩
   dsimp only at hi hEd ⊢
   have hEl:=z422 ((a.ed.map (mvE A)).take i)
   rw [y45,y46,← hEd] at hEl
   by_cases hil2:i < a.ed.length
   ·have gi:(a.ed.map Trans.cs)[i]?=some (Trans.cs a.ed[i]):=by rw [y48,y42 hil2];rfl
    have hx:=hed _ (y41 hil2)
    have hE2:=z973 (l:=a.ed.map (mvE A)) (k:=i) (by simpa using hil2)
    rw [← hEd,List.getElem_map] at hE2
    generalize a.ed[i]=e at *
    unfold z205 at hx
    obtain ⟨x,c,w,y⟩:=e
    dsimp only at hx
    obtain ⟨v,rfl⟩:∃ v:Nat,x=v:=⟨x.toNat,by omega⟩
    obtain ⟨u,rfl⟩:∃ u:Nat,y=u:=⟨y.toNat,by omega⟩
    have gv:=hgA v (by omega)
    have gu:=hgA u (by omega)
    have hmv:mvE A ⟨(v:Int),c,w,(u:Int)⟩=⟨pick A v,c,w,pick A u⟩:=rfl
    rw [hmv] at hE2
    generalize pick A (v:Int)=p1 at *
    generalize pick A (u:Int)=p2 at *
    repeat' ((first|apply y6 ok;rfl|apply z27;kernel_rfl|refine z14 (i:=i) rfl gi ?_|refine z14 (i:=v) rfl gv ?_|refine z14 (i:=u) rfl gu ?_|(apply y40;first|omega|dsimp only;omega)|apply z7<;>intro _)<;>conv=>whnf)
    all_goals try (exfalso;omega)
    refine z69 (fun x:Nat×Bool=>([(1,.ptr 0 none 0),(2,.ptr 1 none 0),(4,.sref 2 0 A.length),(5,.ptr 3 none 0),(9,.int i),(10,.ptr 6 none 0),(11,.bool x.2),(12,.int x.1)],[.cells 3 [a.cs],.cells 3 [[.nils,.nils,.nils]],.cells 1 (A.map enI),.cells 3 [[ints I,.sref 4 0 C.length,.sref 5 0 E.length]],.cells 1 (C.map enB),.cells 4 (E.map Trans.cs),.cells 4 [Trans.cs ⟨p1,c,w,p2⟩]])) (fun x=>x.1≤E.length∧x.2=decide ((⟨p1,c,w,p2⟩:Trans)∈E.take x.1)) (fun x=>E.length - x.1) (0,false) ⟨y50 _,by simp⟩ (by refine swR [0,1,2,3,4,5,6] [] rfl rfl ?_;(repeat' first|exact y83 _|exact z10 _|apply y85|refine z11 rfl (z6 (fun _=>rfl)) ?_|constructor)) ?_
    rintro ⟨k,b⟩ ⟨hk,hb⟩
    dsimp only at hk hb ⊢
    by_cases hkl:k < E.length
    ·have gk:(E.map Trans.cs)[k]?=some (Trans.cs E[k]):=by rw [y48,y42 hkl];rfl
     have hs:decide ((⟨p1,c,w,p2⟩:Trans)∈E.take (k+1))=(b || decide (E[k].l=(⟨p1,c,w,p2⟩:Trans).l)):=by
      rw [hb,y47 hkl,← Bool.decide_or,decide_eq_decide,y51,y52,Trans.l_inj]
      exact ⟨fun h=>h.imp id Eq.symm,fun h=>h.imp id Eq.symm⟩
     generalize E[k]=f at *
     cases b
     all_goals
      repeat' ((first|apply y6 ok;rfl|apply z27;kernel_rfl|refine z14 (i:=k) rfl gk ?_|refine y40 ge ?_|refine y40 ke ?_|(apply y40;first|omega|unfold inI;omega)|apply z7<;>intro _)<;>conv=>whnf)
      all_goals try (exfalso;omega)
      all_goals refine z29 (k+1,_) ⟨hkl,hs.symm⟩ (by show E.length - (k+1) < E.length - k;omega) (by refine swR [0,1,2,3,4,5,6] [] rfl rfl ?_;(repeat' first|exact y83 _|exact z10 _|apply y85|refine z11 rfl (z6 (fun _=>rfl)) ?_|constructor))
    ·obtain rfl:k=E.length:=by omega
     rw [y53] at hb
     by_cases hin:(⟨p1,c,w,p2⟩:Trans)∈E
     ·rw [if_pos hin] at hE2
      rw [y79 hin] at hb
      subst hb
      repeat' ((first|apply y6 ok;rfl|apply z27;kernel_rfl|(apply y40;first|omega|unfold inI;omega)|apply z7<;>intro _)<;>conv=>whnf)
      all_goals try (exfalso;omega)
      all_goals refine z29 (i+1,E) ⟨hil2,hE2.symm⟩ (by show a.ed.length - (i+1) < a.ed.length - i;omega) (by refine swR [0,1,2,3,4,5] [] rfl rfl ?_;(repeat' first|exact y83 _|exact z10 _|apply y85|refine z11 rfl (z6 (fun _=>rfl)) ?_|constructor))
     ·rw [if_neg hin] at hE2
      rw [y80 hin] at hb
      subst hb
      repeat' ((first|apply y6 ok;rfl|apply z27;kernel_rfl|(apply y40;first|omega|unfold inI;omega|(try dsimp only);simp only [y46,y45,y44,y43,y55,y56];omega|exact ⟨rfl,z17 rfl z26⟩)|((apply z13;omega));intro _|apply z7<;>intro _)<;>conv=>whnf)
      all_goals try (exfalso;omega)
      all_goals refine z29 (i+1,E++[⟨p1,c,w,p2⟩]) ⟨hil2,hE2.symm⟩ (by show a.ed.length - (i+1) < a.ed.length - i;omega) (by refine swR [0,1,2,3,4,8] [] rfl rfl ?_;(repeat' first|exact y83 _|exact z10 _|refine z44 ?_;((simp;done))|apply y85|(first|refine z33 rfl ?_ ?_|refine z11 rfl ?_ ?_);(focus ((repeat' (first|exact z6 (fun _=>rfl)|apply z25));done))|refine z77 ?_ ?_;(focus omega)|constructor))
   ·obtain rfl:i=a.ed.length:=by omega
    rw [y54 (by simp)] at hEd
    rw [← hEd]
    repeat' ((first|apply y6 ok;rfl|apply z27;kernel_rfl|apply y40;omega|(first|with_reducible apply z13;omega|apply z13;omega);intro _|apply z7<;>intro _)<;>conv=>whnf)
    all_goals try (exfalso;omega)
    all_goals (refine rsD [] [4,5] rfl ?_;(repeat' first|exact y83 _|(apply z55 rfl rfl rfl);(focus ((repeat ((exact z48 (fun _=>rfl) _)));done));(focus (((simp;done));done))|apply z57|constructor))
theorem sort_nil:QQ 76 [.sref 0 0 0] [.cells 1 []] (.tup []) [.cells 1 []]:=by
 refine ⟨z227 func76 rfl (by rfl),fun G w vs hW hs hv=>?_⟩
 simp only [VL] at hv
 obtain ⟨⟨v,hv1,hv2⟩,_⟩:=hv
 obtain rfl:vs=#[v]:=by
  apply Array.ext_getElem?
  intro i
  rcases i with _|i
  ·rw [hv1];rfl
  ·rw [Array.getElem?_eq_none (by simp at hs;omega),Array.getElem?_eq_none (by simp)]
 simp only [V] at hv2
 obtain ⟨cap,_,hv2⟩:=hv2
 obtain ⟨p,c2,rfl⟩:∃ p c2,v=.slice p 0 c2:=by
  rcases hv2 with ⟨rfl,a,rfl⟩|⟨b,size,wd,_,_,rfl⟩
  ·exact ⟨_,_,rfl⟩
  ·exact ⟨_,_,rfl⟩
 refine (Any.slices_Sort_int_none y39 p c2 w).mono ?_
 rintro e w' ⟨rfl,rfl⟩
 exact ⟨G,_,rfl,Ghost.Sub.refl G,fun _ _ _ h=>h,Le.refl _,hW,by simp only [V,VL];exact ⟨#[],rfl,rfl,trivial⟩⟩
theorem z905:QQ 77 [.sref 0 0 0] [.cells 1 []] (.sref 0 0 0) [.cells 1 []]:=by
 refine z16 z24 func77 rfl rfl 61 ntmps77 (by simp) ?_
 repeat' ((apply y6 ok;rfl;conv=>whnf))
 all_goals exact z117 [0] (by decide) rfl rfl rfl ⟨z37 rfl z39,trivial⟩
theorem sortC_ex (l : List Int) (hl : l.length ≤ 1048576) : ∃ z : List Int, z.length = l.length ∧ (z279 l).length ≤ l.length ∧ QQ 76 [.sref 0 0 l.length] [.cells 1 (l.map enI)] (.tup []) [.cells 1 (z.map enI)] ∧
  QQ 77 [.sref 0 0 l.length] [.cells 1 (z.map enI)] (.sref 0 0 (z279 l).length) [.cells 1 ((z279 l).map enI)]:=by
 by_cases h:0 < l.length
 ·refine ⟨l.mergeSort fun x y=>decide (x≤y),List.length_mergeSort _,z523 l,sort_ok l h hl,?_⟩
  have:=z1052 (l.mergeSort fun x y=>decide (x≤y)) (by rw [List.length_mergeSort];exact h) (by rw [List.length_mergeSort];exact hl)
  rwa [List.length_mergeSort] at this
 ·obtain rfl:l=[]:=y71 (by omega)
  have e:z279 []=[]:=y71 (by have:=z523 [];simp only [y56] at this;omega)
  rw [e]
  exact ⟨[],rfl,y49 _,sort_nil,z905⟩
theorem z895 (n0:Nat) (R:Rel2) (n:Nat) (hn:n≤1048576) (same:Nat→Nat→Bool) (f:FuncId) (hf:∀ i k:Nat,k < i→i < n→QQ f [.int i,.int k,.pt [.list 1 n0 (byN n0 R)]] [] (.bool (same i k)) []):QQ 78 [.int n,.fn (.func f) [] [.pt [.list 1 n0 (byN n0 R)]]] [] (.sref 0 0 n) [.cells 1 ((numF same n).1.map enI)]:=by
 have hlen:=z118 same n
 have hfl:∀ i,Flat (((numF same n).1.take i).map enI++List.replicate ((numF same n).1.length - i) [AC.int 0]):=fun i=>z90 (z6 fun _=>rfl) (z54 rfl)
 refine z16 z24 func78 rfl rfl 46 ntmps78 (by simp) ?_
 repeat' (first|apply y6 ok;rfl;conv=>whnf|apply y40;((dsimp only;omega));conv=>whnf)
 refine z111 (fun i:Nat=>([(1,.fn (.func f) [] [.pt [.list 1 n0 (byN n0 R)]]),(5,.sref 0 0 n),(6,.int ((numF same i).2:Int)),(12,.int n),(13,.int i)],[.cells 1 (((numF same n).1.take i).map enI++List.replicate ((numF same n).1.length - i) [AC.int 0])])) (fun i=>i≤n) (fun i=>n - i) 0 (by omega) ⟨[0],rfl,by decide,rfl,⟨⟨rfl,rfl⟩,⟨rfl,rfl⟩,⟨rfl,rfl⟩,⟨rfl,rfl⟩,⟨rfl,rfl⟩,trivial⟩,⟨z37 (z45 (by rw [hlen];rfl)) (hfl 0),trivial⟩⟩ ?_
 intro i hi
 by_cases hin:i < n
 ·have hc:=(z872 same i).2
  have hF:i < (((numF same n).1.take i).map enI++List.replicate ((numF same n).1.length - i) [AC.int 0]).length:=by rw [fill_len (by omega)];omega
  repeat' (first|apply y6 ok;rfl;conv=>whnf|apply y40;(omega);conv=>whnf|apply z124;omega;conv=>whnf|apply z7<;>intro _<;>conv=>whnf)
  all_goals try (exfalso;omega)
  refine z111 (fun k:Nat=>([(1,.fn (.func f) [] [.pt [.list 1 n0 (byN n0 R)]]),(5,.sref 0 0 n),(6,.int ((numF same i).2:Int)),(12,.int n),(13,.int i),(7,.int i),(20,.int i),(21,.int k)],[.cells 1 ((((numF same n).1.take i).map enI++List.replicate ((numF same n).1.length - i) [AC.int 0]).set i [AC.int ((numF same i).2:Int)])])) (fun k=>k≤i∧∀ j,j < k→same i j=false) (fun k=>i - k) 0 ⟨by omega,fun j hj=>by omega⟩ ⟨[0],rfl,by decide,rfl,⟨⟨rfl,rfl⟩,⟨rfl,rfl⟩,⟨rfl,rfl⟩,⟨rfl,rfl⟩,⟨rfl,rfl⟩,⟨rfl,rfl⟩,⟨rfl,rfl⟩,⟨rfl,rfl⟩,trivial⟩,⟨z37 rfl (z965 (hfl i) rfl),trivial⟩⟩ ?_
  rintro k ⟨hk1,hk2⟩
  generalize hFF:(((numF same n).1.take i).map enI++List.replicate ((numF same n).1.length - i) [AC.int 0])=F at hF
  by_cases hki:k < i
  ·have hg:(F.set i [AC.int ((numF same i).2:Int)])[k]?=some (enI ((numF same n).1[k]'(by omega))):=by rw [← hFF];exact fill_got hki (by omega)
   have hlt:=numF_lt' (same:=same) (n:=n) hi hki
   repeat' (first|apply y6 ok;rfl;conv=>whnf|apply z289;(exact y74 i);(first|exact hF|rw [List.length_set];exact hF);conv=>whnf|apply z14;(exact y74 k);exact hg;conv=>whnf|apply y40;(first|omega|unfold inI;omega);conv=>whnf|apply z7<;>intro _<;>conv=>whnf|apply z83<;>intro _<;>conv=>whnf|apply z8 (hf i k hki hin);rfl;rfl;conv=>whnf)
   all_goals try (exfalso;omega)
   ·rename_i hs
    obtain ⟨h3,h4⟩:=z263 hin hki (by assumption) hk2
    exact z92 (i+1) [0] (by omega) (by omega) ⟨rfl,by decide,rfl,⟨⟨rfl,rfl⟩,⟨rfl,rfl⟩,⟨rfl,z1226 (by rw [h4])⟩,⟨rfl,rfl⟩,⟨rfl,rfl⟩,trivial⟩,⟨z37 (z45 (by rw [← hFF];exact z1220 (by omega) rfl (by rw [h3];rfl))) (hfl _),trivial⟩⟩
   ·refine z92 (k+1) [0] ⟨by omega,fun j hj=>?_⟩ (by omega) ⟨rfl,by decide,rfl,⟨⟨rfl,rfl⟩,⟨rfl,rfl⟩,⟨rfl,rfl⟩,⟨rfl,rfl⟩,⟨rfl,rfl⟩,⟨rfl,rfl⟩,⟨rfl,rfl⟩,⟨rfl,rfl⟩,trivial⟩,⟨z37 rfl (z965 (hFF ▸ hfl i) rfl),trivial⟩⟩
    rcases y67 j k with h3|h3
    ·exact hk2 j h3
    ·obtain rfl:j=k:=by omega
     assumption
  ·obtain rfl:k=i:=by omega
   obtain ⟨h3,h4⟩:=z317 hin hk2
   repeat' (first|apply y6 ok;rfl;conv=>whnf|apply z289;(exact y74 k);exact hF;conv=>whnf|apply y40;(first|omega|unfold inI;omega);conv=>whnf|apply z7<;>intro _<;>conv=>whnf)
   all_goals try (exfalso;omega)
   exact z92 (k+1) [0] (by omega) (by omega) ⟨rfl,by decide,rfl,⟨⟨rfl,rfl⟩,⟨rfl,rfl⟩,⟨rfl,z1226 (by rw [h4];simp)⟩,⟨rfl,rfl⟩,⟨rfl,rfl⟩,trivial⟩,⟨z37 (z45 (by rw [← hFF,← z703 (f:=enI) _ _ _ (by omega),h3];rfl)) (hfl _),trivial⟩⟩
 ·repeat' (first|apply y6 ok;rfl;conv=>whnf|apply y40;(omega);conv=>whnf|apply z124;omega;conv=>whnf|apply z7<;>intro _<;>conv=>whnf)
  all_goals try (exfalso;omega)
  obtain rfl:i=n:=by omega
  exact z535 rfl (z6 fun _=>rfl) rfl (by rw [y54 (by omega),hlen,Nat.sub_self];simp)
def mE (t:Trans):List Int×Int:=(t.l,1)
theorem z1166 (e:Trans):∀ E:List Trans,mget (E.map mE) e.l=if e∈E then some 1 else none
 |[]=>rfl
 |f::E=>by
  rw [List.map_cons,mget,z1166 e E]
  by_cases h:e=f
  ·subst h;simp [mE]
  ·have h2:¬ e.l=(mE f).1:=fun h'=>h (Trans.l_inj.1 h')
   rw [if_neg h2]
   simp [h]
theorem z1165 (e:Trans):∀ E:List Trans,e ∉ E→mput (E.map mE) e.l 1=(E++[e]).map mE
 |[],_=>rfl
 |f::E,h=>by
  have h1:e≠f:=fun h'=>h (by simp [h'])
  have h2:¬ e.l=(mE f).1:=fun h'=>h1 (Trans.l_inj.1 h')
  rw [List.map_cons,mput,if_neg h2,z1165 e E fun h'=>h (y70 _ h')]
  rfl
section
attribute [local irreducible] wd
theorem z665 (a:Aut) (hA:AutP a):QQ 161 [.agg a.cs] [] (.list 1 a.acc.length (byN a.acc.length (relA a))) []:=by
 refine y7 (z590 a hA) [] [0] rfl rfl rfl (y11 ?_) .nil
 rw [z244 (w:=1) (es:=byN a.acc.length (relA a)) rfl rfl rfl (z568 _ _)]
 congr 1
 exact z48 (fun _=>rfl) _
set_option maxHeartbeats 1600000 in
theorem z1169 (n:Nat) (hn:n≤64) (R:Rel2) (i k:Nat) (hk:k < i) (hi:i < n):QQ 162 [.int i,.int k,.pt [.list 1 n (byN n R)]] [] (.bool (R i k && R k i)) []:=by
 have gi:=z569 R hi
 have gk:=z569 R (show k < n by omega)
 have hl:=z568 n R
 generalize byN n R=B at *
 cases h1:R i k with
 |false =>
  have b1:Hid _:=bit_f (show k < 64 by omega) h1
  rw [Bool.false_and]
  refine z16 z24 func162 rfl rfl 24 ntmps162 (by simp) ?_
  repeat' (first|apply y6 ok;rfl;conv=>whnf|(refine y40 (z304 _ _) ?_;rw [b1.out]);conv=>whnf|refine z14 (i:=i) rfl gi ?_;conv=>whnf|apply y40;(omega);conv=>whnf)
  all_goals exact z34 rfl rfl
 |true =>
  have b1:Hid _:=bit_t (show k < 64 by omega) h1
  cases h2:R k i with
  |false =>
   have b2:Hid _:=bit_f (show i < 64 by omega) h2
   refine z16 z24 func162 rfl rfl 24 ntmps162 (by simp) ?_
   repeat' (first|apply y6 ok;rfl;conv=>whnf|(refine y40 (z304 _ _) ?_;rw [b2.out]);conv=>whnf|(refine y40 (z304 _ _) ?_;rw [b1.out]);conv=>whnf|refine z14 (i:=k) rfl gk ?_;conv=>whnf|refine z14 (i:=i) rfl gi ?_;conv=>whnf|apply y40;(omega);conv=>whnf)
   all_goals exact z34 rfl rfl
  |true =>
   have b2:Hid _:=bit_t (show i < 64 by omega) h2
   refine z16 z24 func162 rfl rfl 24 ntmps162 (by simp) ?_
   repeat' (first|apply y6 ok;rfl;conv=>whnf|(refine y40 (z304 _ _) ?_;rw [b2.out]);conv=>whnf|(refine y40 (z304 _ _) ?_;rw [b1.out]);conv=>whnf|refine z14 (i:=k) rfl gk ?_;conv=>whnf|refine z14 (i:=i) rfl gi ?_;conv=>whnf|apply y40;(omega);conv=>whnf)
   all_goals exact z34 rfl rfl
end
end Go.Proofs.YteinbnahinpegaaGreat
namespace Go.Proofs.YteinbnahinpegaaGreat
open Go.Gl Proofs.Tryz
attribute [local irreducible] z18 AWP z38 z41 z40 RetS z42
noncomputable def nmT (k:Nat→Bool) (m:Nat):Nat→Int:=fun q=>if q < m then (if k q=true then (nuA k q:Int) else -1) else 0
theorem nmT_zero (k:Nat→Bool):nmT k 0=fun _=>0:=by funext q;simp [nmT]
theorem nmT_succ (k:Nat→Bool) (m:Nat):nmT k (m+1)=upd (nmT k m) m (if k m=true then (nuA k m:Int) else -1):=by
 funext q
 by_cases h:q=m
 ·subst h;rw [z36];simp [nmT]
 ·rw [z52 _ _ h]
  unfold nmT
  by_cases h2:q < m
  ·rw [if_pos h2,if_pos (by omega)]
  ·rw [if_neg h2,if_neg (by omega)]
theorem nmT_at {k:Nat→Bool} {m q:Nat} (h:q < m):nmT k m q=if k q=true then (nuA k q:Int) else -1:=by unfold nmT;rw [if_pos h]
set_option maxHeartbeats 12800000 in
theorem trim_of (a:Aut) (hA:AutP a):QQ 99 [.agg a.cs] [] (.agg (z104 a).cs) []:=by
 have h1:=hA.1
 have h2:=hA.2.1
 have ai:=z1199 hA
 have hn:=z106 a
 have hini:=z194 hA
 rw [hn] at hini
 have hed:=hA.2.2.2
 have c1:=z949 a hA
 have c2:=z402 (nxA a) a.ini (z621 hA) (z194 hA) (by omega) (nx_rl hA) (by omega)
 have c3:=live_new a hA
 have hrl:=z340 (nxA a) a.ini
 have hkq:∀ q,q < a.acc.length→z86 a q=((z241 (nxA a) a.ini).getD q false && z181 a q):=fun q hq=>by
  rw [z20 (by rw [hrl,hn];exact hq)]
  unfold z86
  simp only [z241,List.getElem_map,List.getElem_range]
 have hal:=fun i=>z102 (z86 a) a.acc i
 have hnu:=fun i=>z159 (z86 a) i
 have hgl:=fun q (h:q < a.acc.length)=>z324 (N:=a.acc.length) (z181 a) h
 have hll:=z173 a.acc.length (z181 a)
 rw [hn] at c2 hrl
 rw [← z927]
 unfold z654
 generalize z86 a=k at *
 generalize z181 a=lv at *
 generalize z241 (nxA a) a.ini=M at *
 generalize nxA a=rows at *
 generalize hLv:fnB a.acc.length lv=L at *
 refine z12 z24 func99 rfl rfl 129 ntmps99 (by simp) ?_
 repeat' ((first|apply y6 ok;rfl|apply z27;kernel_rfl|apply y40;(dsimp only;omega)|apply z8 c1;rfl;rfl|(first|apply z15 [] [2] c2;(focus ((repeat' first|exact z87|apply z60)<;>rfl));rfl|apply z15 [] [3] c3;(focus ((repeat' first|exact z87|apply z60)<;>rfl));rfl);rfl;(focus ((repeat' first|exact z23|apply z19)<;>(refine z30 ?_;((exact z6 fun _=>rfl))))))<;>conv=>whnf)
 refine y82 (y86 1 rfl) ?_
 refine z69 (fun x:Nat×List Bool=>([(1,.ptr 0 none 0),(2,.ptr 1 none 0),(3,.sref 2 0 a.acc.length),(4,.sref 3 0 a.acc.length),(5,.sref 4 0 a.acc.length),(6,.ptr 5 none 0),(23,.int a.acc.length),(24,.int x.1)],[.cells 3 [a.cs],.cells 3 [[.nils,.nils,.nils]],.cells 1 (M.map enB),.cells 1 (L.map enB),.cells 1 ((fnL a.acc.length (nmT k x.1)).map enI),.cells 3 [[.nils,.sref 6 0 x.2.length,.nils]],.cells 1 (x.2.map enB)])) (fun x=>x.1≤a.acc.length∧x.2=z137 k a.acc x.1) (fun x=>a.acc.length - x.1) (0,[]) ⟨y50 _,by simp [z137]⟩ (by refine swR [0,1,2,3,4,5,6] [] rfl rfl ?_;(repeat' first|exact y83 _|exact z56|exact z10 _|apply y85|(refine z11 rfl ?_ ?_);(focus ((repeat' (first|exact z39|exact z54 rfl|exact z6 (fun _=>rfl)));done))|constructor)<;>((refine z21 ?_;rw [nmT_zero];exact z349 _))) ?_
 rintro ⟨i,C⟩ ⟨hi,hC⟩
 dsimp only at hi hC ⊢
 have hCl:C.length=nuA k i:=by rw [hC,hal]
 have hCi:=hnu i
 by_cases hil:i < a.acc.length
 ·have gm:(M.map enB)[i]?=some (enB (M.getD i false)):=by rw [y48,y42 (by omega),z20 (by omega)];rfl
  have gl:=hgl i hil
  have ga:(a.acc.map enB)[i]?=some (enB (a.acc.getD i false)):=by rw [y48,y42 hil,z20 hil];rfl
  have hC2:=z186 k a.acc i
  rw [← hC] at hC2
  have hk:=hkq i hil
  have hfl:=z136 a.acc.length (nmT k i)
  have gn:=z172 (N:=a.acc.length) (u:=i) (nmT k i) hil
  have s1:=z152 (N:=a.acc.length) (u:=i) (nmT k i) (-1)
  have s2:=z152 (N:=a.acc.length) (u:=i) (upd (nmT k i) i (-1)) (nuA k i:Int)
  rw [upd_upd] at s2
  have gn2:=z172 (N:=a.acc.length) (u:=i) (upd (nmT k i) i (-1)) hil
  have hsu:=nmT_succ k i
  generalize M.getD i false=b1 at *
  generalize lv i=b2 at *
  generalize a.acc.getD i false=b3 at *
  cases b1<;>cases b2
  case true.true =>
   rw [Bool.true_and] at hk
   rw [if_pos hk] at hC2 hsu
   rw [← hsu,← hCl] at s2
   have s3:((fnL a.acc.length (nmT k i)).map enI).set i (enI (C.length:Int))=(fnL a.acc.length (nmT k (i+1))).map enI:=by
    rw [← s2,← s1,List.set_set]
   have gn3:(((fnL a.acc.length (nmT k i)).map enI).set i (enI (-1)))[i]?=some (enI (-1)):=List.getElem?_set_self (by rw [y46,hfl];exact hil)
   repeat' ((first|apply y6 ok;rfl|apply z27;kernel_rfl|refine z14 (i:=i) rfl gm ?_|refine z14 (i:=i) rfl gl ?_|refine z14 (i:=i) rfl ga ?_|refine z14 (i:=i) rfl gn ?_|refine z14 (i:=i) rfl gn3 ?_|(apply y40;first|omega|unfold inI;omega|(try dsimp only);simp only [y46,y45,y44,y43,y55,y56];omega|exact ⟨rfl,z17 rfl z26⟩)|apply z7<;>intro _)<;>conv=>whnf)
   all_goals try (exfalso;omega)
   all_goals refine z29 (i+1,C++[b3]) ⟨hil,hC2.symm⟩ (by show a.acc.length - (i+1) < a.acc.length - i;omega) (by refine swR [0,1,2,3,4,5,8] [] rfl rfl ?_;(repeat' first|exact y83 _|exact z10 _|refine z44 ?_;((simp;done))|apply y85|(first|refine z33 rfl ?_ ?_|refine z761 rfl rfl ?_ ?_|refine z11 rfl ?_ ?_);(focus ((repeat' (first|exact z6 (fun _=>rfl)|apply z25));done))|refine z77 ?_ ?_;(focus omega)|constructor)<;>((refine z21 ?_;exact s3)))
  all_goals
   simp only [Bool.and_false,Bool.false_and] at hk
   rw [if_neg (by rw [hk];simp)] at hC2 hsu
   rw [y62] at hC2
   rw [← hsu] at s1
   repeat' ((first|apply y6 ok;rfl|refine z14 (i:=i) rfl gm ?_|refine z14 (i:=i) rfl gl ?_|refine z14 (i:=i) rfl gn ?_|(apply y40;first|omega|unfold inI;omega)|apply z7<;>intro _)<;>conv=>whnf)
   all_goals try (exfalso;omega)
   all_goals refine z29 (i+1,C) ⟨hil,hC2.symm⟩ (by show a.acc.length - (i+1) < a.acc.length - i;omega) (by refine swR [0,1,2,3,4,5,6] [] rfl rfl ?_;(repeat' first|exact y83 _|exact z10 _|apply y85|refine z50 rfl (z6 (fun _=>rfl)) ?_|refine z11 rfl (z6 (fun _=>rfl)) ?_|constructor)<;>((refine z21 ?_;exact s1)))
 ·obtain rfl:i=a.acc.length:=by omega
  have hfl:=z136 a.acc.length (nmT k a.acc.length)
  have hgn:=fun q (h:q < a.acc.length)=>z172 (N:=a.acc.length) (u:=q) (nmT k a.acc.length) h
  have hnt:=fun q (h:q < a.acc.length)=>nmT_at (k:=k) h
  generalize fnL a.acc.length (nmT k a.acc.length)=F at *
  generalize nmT k a.acc.length=nm at *
  rw [← hC]
  by_cases hc:C=[]
  ·subst hc
   rw [if_pos rfl]
   have hno:∀ q,q < a.acc.length→k q=false:=fun q hq=>by
    cases hk:k q with
    |false=>rfl
    |true =>
     have:=z469 hq hk
     simp only [y56] at hCl
     omega
   have e1:kini k a.ini=[]:=by
    unfold kini
    rw [List.map_eq_nil_iff,List.filter_eq_nil_iff]
    intro q hq
    have:=hini q hq
    rw [hno _ (by omega)];simp
   have e2:kedg k a.ed=[]:=by
    unfold kedg
    rw [List.map_eq_nil_iff,List.filter_eq_nil_iff]
    intro e he
    rw [hno _ (z420 hA he).1];simp
   rw [e1,e2]
   repeat' ((first|apply y6 ok;rfl|(apply y40;first|omega|dsimp only;omega)|((apply z13;omega));intro _|(first|apply z7|apply z83)<;>intro _)<;>conv=>whnf)
   all_goals first|exfalso;omega|refine rsD [] [7] rfl ?_;(repeat' first|exact y83 _|exact z63|apply z57|constructor)
  ·rw [if_neg hc]
   have hpos:=List.length_pos_iff.2 hc
   repeat' ((first|apply y6 ok;rfl|apply y40;omega|((apply z13;omega));intro _|(first|apply z7|apply z83)<;>intro _)<;>conv=>whnf)
   all_goals try (exfalso;omega)
   refine y82 (y86 1 rfl) ?_
   refine z69 (fun x:Nat×List Int=>([(1,.ptr 0 none 0),(2,.ptr 1 none 0),(5,.sref 2 0 a.acc.length),(6,.ptr 3 none 0),(64,lst 1 enI a.ini),(65,.int a.ini.length),(66,.int x.1)],[.cells 3 [a.cs],.cells 3 [[.nils,.nils,.nils]],.cells 1 (F.map enI),.cells 3 [[.sref 5 0 x.2.length,.sref 4 0 C.length,.nils]],.cells 1 (C.map enB),.cells 1 (x.2.map enI)])) (fun x=>x.1≤a.ini.length∧x.2=kini k (a.ini.take x.1)) (fun x=>a.ini.length - x.1) (0,[]) ⟨y50 _,rfl⟩ (by refine swR [0,1,4,5,6,7] [] rfl rfl ?_;(repeat' first|exact y83 _|exact z56|exact z10 _|apply y85|(refine z11 rfl ?_ ?_);(focus ((repeat' (first|exact z39|exact z6 (fun _=>rfl)));done))|constructor)) ?_
   rintro ⟨i,I⟩ ⟨hi,hI⟩
   dsimp only at hi hI ⊢
   have hIl:I.length≤64:=by
    rw [hI];unfold kini
    have:=List.length_filter_le (fun q:Int=>k q.toNat) (a.ini.take i)
    simp only [y46,y45] at this ⊢
    omega
   by_cases hil:i < a.ini.length
   ·have gi:(a.ini.map enI)[i]?=some (enI a.ini[i]):=by rw [y48,y42 hil];rfl
    have hx:=hini _ (y41 hil)
    have hI2:kini k (a.ini.take (i+1))=_:=z418 (fun q:Int=>k q.toNat) (fun q=>(nuA k q.toNat:Int)) hil
    rw [show ((a.ini.take i).filter fun q:Int=>k q.toNat).map (fun q=>(nuA k q.toNat:Int))=I from hI.symm] at hI2
    generalize a.ini[i]=x at *
    obtain ⟨v,rfl⟩:∃ v:Nat,x=v:=⟨x.toNat,by omega⟩
    rw [y74] at hI2
    have gt:=hgn v (by omega)
    rw [hnt v (by omega)] at gt
    cases hki:k v with
    |true =>
     rw [if_pos hki] at hI2 gt
     repeat' ((first|apply y6 ok;rfl|apply z27;kernel_rfl|refine z14 (i:=i) rfl gi ?_|refine z14 (i:=v) rfl gt ?_|(apply y40;first|omega|unfold inI;omega|(try dsimp only);simp only [y46,y45,y44,y43,y55,y56];omega|exact ⟨rfl,z17 rfl z26⟩)|apply z7<;>intro _)<;>conv=>whnf)
     all_goals try (exfalso;omega)
     all_goals refine z29 (i+1,I++[(nuA k v:Int)]) ⟨hil,hI2.symm⟩ (by show a.ini.length - (i+1) < a.ini.length - i;omega) (by refine swR [0,1,2,3,4,7] [] rfl rfl ?_;(repeat' first|exact y83 _|exact z10 _|refine z44 ?_;((simp;done))|apply y85|(first|refine z33 rfl ?_ ?_|refine z11 rfl ?_ ?_);(focus ((repeat' (first|exact z6 (fun _=>rfl)|apply z25));done))|refine z77 ?_ ?_;(focus omega)|constructor))
    |false =>
     rw [if_neg (by rw [hki];simp)] at hI2 gt
     rw [y62] at hI2
     repeat' ((first|apply y6 ok;rfl|refine z14 (i:=i) rfl gi ?_|refine z14 (i:=v) rfl gt ?_|(apply y40;first|omega|unfold inI;omega)|apply z7<;>intro _)<;>conv=>whnf)
     all_goals try (exfalso;omega)
     all_goals refine z29 (i+1,I) ⟨hil,hI2.symm⟩ (by show a.ini.length - (i+1) < a.ini.length - i;omega) (by refine swR [0,1,2,3,4,5] [] rfl rfl ?_;(repeat' first|exact y83 _|exact z10 _|apply y85|refine z11 rfl (z6 (fun _=>rfl)) ?_|constructor))
   ·obtain rfl:i=a.ini.length:=by omega
    rw [y53] at hI
    rw [← hI]
    repeat' ((first|apply y6 ok;rfl|apply z27;kernel_rfl|apply y40;omega|(first|with_reducible apply z13;omega|apply z13;omega);intro _|apply z7<;>intro _)<;>conv=>whnf)
    all_goals try (exfalso;omega)
    refine y82 (y86 4 rfl) ?_
    refine z69 (fun x:Nat×List Trans=>([(1,.ptr 0 none 0),(2,.ptr 1 none 0),(5,.sref 2 0 a.acc.length),(6,.ptr 3 none 0),(86,lst 4 Trans.cs a.ed),(87,.int a.ed.length),(88,.int x.1)],[.cells 3 [a.cs],.cells 3 [[.nils,.nils,.nils]],.cells 1 (F.map enI),.cells 3 [[.sref 5 0 I.length,.sref 4 0 C.length,.sref 6 0 x.2.length]],.cells 1 (C.map enB),.cells 1 (I.map enI),.cells 4 (x.2.map Trans.cs)])) (fun x=>x.1≤a.ed.length∧x.2=kedg k (a.ed.take x.1)) (fun x=>a.ed.length - x.1) (0,[]) ⟨y50 _,rfl⟩ (by refine swR [0,1,2,3,4,5,6] [] rfl rfl ?_;(repeat' first|exact y83 _|exact z56|exact z10 _|apply y85|(refine z11 rfl ?_ ?_);(focus ((repeat' (first|exact z39|exact z6 (fun _=>rfl)));done))|constructor)) ?_
    rintro ⟨i,E⟩ ⟨hi,hE⟩
    dsimp only at hi hE ⊢
    have hEl:E.length≤2048:=by
     rw [hE];unfold kedg
     have:=List.length_filter_le (fun e:Trans=>k e.src.toNat && k e.dst.toNat) (a.ed.take i)
     simp only [y46,y45] at this ⊢
     omega
    by_cases hil:i < a.ed.length
    ·have gi:(a.ed.map Trans.cs)[i]?=some (Trans.cs a.ed[i]):=by rw [y48,y42 hil];rfl
     have hx:=hed _ (y41 hil)
     have hE2:kedg k (a.ed.take (i+1))=_:=z418 (fun e:Trans=>k e.src.toNat && k e.dst.toNat) (fun e=>(⟨nuA k e.src.toNat,e.care,e.val,nuA k e.dst.toNat⟩:Trans)) hil
     rw [show ((a.ed.take i).filter fun e:Trans=>k e.src.toNat && k e.dst.toNat).map (fun e=>(⟨nuA k e.src.toNat,e.care,e.val,nuA k e.dst.toNat⟩:Trans))=E from hE.symm] at hE2
     generalize a.ed[i]=e at *
     unfold z205 at hx
     obtain ⟨x,c,w,y⟩:=e
     dsimp only at hx hE2
     obtain ⟨v,rfl⟩:∃ v:Nat,x=v:=⟨x.toNat,by omega⟩
     obtain ⟨u,rfl⟩:∃ u:Nat,y=u:=⟨y.toNat,by omega⟩
     rw [y74,y74] at hE2
     have gt:=hgn v (by omega)
     have gw:=hgn u (by omega)
     rw [hnt v (by omega)] at gt
     rw [hnt u (by omega)] at gw
     cases hkv:k v<;>cases hku:k u
     case true.true =>
      rw [if_pos (by rw [hkv,hku];rfl)] at hE2
      rw [if_pos hkv] at gt
      rw [if_pos hku] at gw
      repeat' ((first|apply y6 ok;rfl|apply z27;kernel_rfl|refine z14 (i:=i) rfl gi ?_|refine z14 (i:=v) rfl gt ?_|refine z14 (i:=u) rfl gw ?_|(apply y40;first|omega|unfold inI;omega|dsimp only;omega|(try dsimp only);simp only [y46,y45,y44,y43,y55,y56];omega|exact ⟨rfl,z17 rfl z26⟩)|apply z7<;>intro _)<;>conv=>whnf)
      all_goals try (exfalso;omega)
      all_goals refine z29 (i+1,E++[⟨nuA k v,c,w,nuA k u⟩]) ⟨hil,hE2.symm⟩ (by show a.ed.length - (i+1) < a.ed.length - i;omega) (by refine swR [0,1,2,3,4,5,9] [] rfl rfl ?_;(repeat' first|exact y83 _|exact z10 _|refine z44 ?_;((simp;done))|apply y85|(first|refine z33 rfl ?_ ?_|refine z11 rfl ?_ ?_);(focus ((repeat' (first|exact z6 (fun _=>rfl)|apply z25));done))|refine z77 ?_ ?_;(focus omega)|constructor))
     all_goals
      rw [if_neg (by rw [hkv,hku];simp),y62] at hE2
      simp only [hkv,if_true,if_false,Bool.false_eq_true] at gt
      simp only [hku,if_true,if_false,Bool.false_eq_true] at gw
      repeat' ((first|apply y6 ok;rfl|refine z14 (i:=i) rfl gi ?_|refine z14 (i:=v) rfl gt ?_|refine z14 (i:=u) rfl gw ?_|(apply y40;first|omega|unfold inI;omega|dsimp only;omega)|apply z7<;>intro _)<;>conv=>whnf)
      all_goals try (exfalso;omega)
      all_goals refine z29 (i+1,E) ⟨hil,hE2.symm⟩ (by show a.ed.length - (i+1) < a.ed.length - i;omega) (by refine swR [0,1,2,3,4,5,6] [] rfl rfl ?_;(repeat' first|exact y83 _|exact z10 _|apply y85|refine z11 rfl (z6 (fun _=>rfl)) ?_|constructor))
    ·obtain rfl:i=a.ed.length:=by omega
     rw [y53] at hE
     rw [← hE]
     have cC:=z574 ⟨I,C,E⟩ (by show I.length≤_;omega) (by show C.length≤_;omega) (by show E.length≤_;omega)
     repeat' ((first|apply y6 ok;rfl|apply z27;kernel_rfl|apply y40;omega|(first|with_reducible apply z13;omega|apply z13;omega);intro _|apply z7<;>intro _|apply z120 [] [4,5,6] [7,8,9] cC;(focus (exact z60 (z1248 (a:=⟨I,C,E⟩) rfl rfl rfl rfl rfl rfl rfl rfl rfl) z87));rfl;rfl;(focus ((repeat' first|exact z23|apply z19)<;>(refine z30 ?_;((exact z6 fun _=>rfl)))));((refine .inr ⟨rfl,?_⟩;repeat' first|exact True.intro|apply y40|exact z121 (fun _=>rfl) _)))<;>conv=>whnf)
     all_goals try (exfalso;omega)
     all_goals (refine rsD [] [7,8,9] rfl ?_;(repeat' first|exact y83 _|(apply z55 rfl rfl rfl);(focus ((repeat ((exact z48 (fun _=>rfl) _)));done));(focus (((simp;done));done))|apply z57|constructor))
theorem bor_fnC {objs:Nat→AObj} {π Bn:List Nat} {f:Fn} {caps caps' : List AC} (h:borL objs π Bn caps=caps'):bor objs π Bn (.fn f [] caps)=.fn f [] caps':=by
 simp only [bor,borL,h]
set_option maxRecDepth 20000 in
set_option maxHeartbeats 25600000 in
theorem merge_of (a:Aut) (hA:AutP a):QQ 100 [.agg a.cs] [] (.agg (z105 a).cs) []:=by
 have h1:=hA.1
 have h2:=hA.2.1
 have ai:=z1199 hA
 have hini:=z194 hA
 rw [z106] at hini
 have hed:=hA.2.2.2
 have ke:KeyT prog 91 68:=z695
 have c1:=z665 a hA
 have c4:=z895 a.acc.length (relA a) a.acc.length (by omega) (eqA a) 162 (fun i k hk hi=>z1169 a.acc.length h1.2 (relA a) i k hk hi)
 have hB:=z568 a.acc.length (relA a)
 have hfr:∀ q,q < a.acc.length→(frsA a q=true∧(numA a).getD q 0=((z137 (frsA a) a.acc q).length:Int))∨(frsA a q=false∧(numA a).getD q 0≠((z137 (frsA a) a.acc q).length:Int)):=fun q hq=>by
  rw [z102,z797 a q (by omega)]
  by_cases h:(numA a).getD q 0=((numF (eqA a) q).2:Int)
  ·exact .inl ⟨y79 h,h⟩
  ·exact .inr ⟨y80 h,h⟩
 have hCs:=fun q=>z186 (frsA a) a.acc q
 have hCl:=fun i=>z102 (frsA a) a.acc i
 have hCn:=fun i=>z159 (frsA a) i
 have hZl:=z681 a
 rw [show (numF (eqA a) a.acc.length).1=numA a from rfl] at c4
 have hm:z105 a=⟨z279 (a.ini.map (pick (numA a))),z137 (frsA a) a.acc a.acc.length,dedT (a.ed.map (mvE (numA a)))⟩:=rfl
 have hC0:z137 (frsA a) a.acc 0=[]:=rfl
 rw [hm]
 generalize numA a=Z at *
 generalize frsA a=fr at *
 generalize relA a=R at *
 generalize byN a.acc.length R=BY at *
 clear hm
 refine z12 z24 func100 rfl rfl 91 ntmps100 (by simp) ?_
 repeat' ((first|apply y6 ok;rfl|apply z8 c1;rfl;rfl|apply z120 [] [2] [3] c4;(focus (exact z60 rfl (z60 (bor_fnC (z60 rfl z87)) z87)));rfl;rfl;(focus ((repeat' first|exact z23|apply z19)<;>(refine z30 ?_;((exact z6 fun _=>rfl)))));((refine .inr ⟨rfl,?_⟩;repeat' first|exact True.intro|apply y40|exact z121 (fun _=>rfl) _)))<;>conv=>whnf)
 refine y82 (y86 1 rfl) ?_
 refine z69 (fun x:Nat×List Bool=>([(1,.ptr 0 none 0),(2,.ptr 1 none 0),(4,.sref 2 0 a.acc.length),(5,.ptr 3 none 0),(18,.sref 2 0 a.acc.length),(19,.int a.acc.length),(20,.int x.1)],[.cells 3 [a.cs],.cells 3 [[.nils,.nils,.nils]],.cells 1 (Z.map enI),.cells 3 [[.nils,.sref 4 0 x.2.length,.nils]],.cells 1 (x.2.map enB)])) (fun x=>x.1≤a.acc.length∧x.2=z137 fr a.acc x.1) (fun x=>a.acc.length - x.1) (0,[]) ⟨y50 _,hC0.symm⟩ (by refine swR [0,1,3,4,5] [] rfl rfl ?_;(repeat' first|exact y83 _|exact z56|exact z10 _|apply y85|(refine z11 rfl ?_ ?_);(focus ((repeat' (first|exact z39|exact z6 (fun _=>rfl)));done))|constructor)) ?_
 rintro ⟨q,C⟩ ⟨hq,hC⟩
 dsimp only at hq hC ⊢
 have hCl1:=hCl q
 have hCl2:=hCn q
 rw [← hC] at hCl1
 by_cases hql:q < a.acc.length
 ·have gz:(Z.map enI)[q]?=some (enI (Z.getD q 0)):=by rw [y48,y42 (by omega),z20 (by omega)];rfl
  have ga:(a.acc.map enB)[q]?=some (enB (a.acc.getD q false)):=by rw [y48,y42 hql,z20 hql];rfl
  have hC2:=hCs q
  rw [← hC] at hC2
  have hf:=hfr q hql
  rw [← hC] at hf
  generalize Z.getD q 0=z at *
  generalize a.acc.getD q false=b at *
  rcases hf with ⟨hf,hz⟩|⟨hf,hz⟩
  ·subst hz
   rw [if_pos hf] at hC2
   repeat' ((first|apply y6 ok;rfl|apply z27;kernel_rfl|refine z14 (i:=q) rfl gz ?_|refine z14 (i:=q) rfl ga ?_|(apply y40;first|omega|unfold inI;omega|(try dsimp only);simp only [y46,y45,y44,y43,y55,y56];omega|exact ⟨rfl,z17 rfl z26⟩)|apply z7<;>intro _)<;>conv=>whnf)
   all_goals try (exfalso;omega)
   all_goals refine z29 (q+1,C++[b]) ⟨hql,hC2.symm⟩ (by show a.acc.length - (q+1) < a.acc.length - q;omega) (by refine swR [0,1,2,3,6] [] rfl rfl ?_;(repeat' first|exact y83 _|exact z10 _|refine z44 ?_;((simp;done))|apply y85|(first|refine z33 rfl ?_ ?_|refine z11 rfl ?_ ?_);(focus ((repeat' (first|exact z6 (fun _=>rfl)|apply z25));done))|refine z77 ?_ ?_;(focus omega)|constructor))
  ·rw [if_neg (by rw [hf];simp),y62] at hC2
   repeat' ((first|apply y6 ok;rfl|apply z27;kernel_rfl|refine z14 (i:=q) rfl gz ?_|refine z14 (i:=q) rfl ga ?_|(apply y40;first|omega|unfold inI;omega)|apply z7<;>intro _)<;>conv=>whnf)
   all_goals try (exfalso;omega)
   all_goals refine z29 (q+1,C) ⟨hql,hC2.symm⟩ (by show a.acc.length - (q+1) < a.acc.length - q;omega) (by refine swR [0,1,2,3,4] [] rfl rfl ?_;(repeat' first|exact y83 _|exact z10 _|apply y85|refine z11 rfl (z6 (fun _=>rfl)) ?_|constructor))
 ·obtain rfl:q=a.acc.length:=by omega
  rw [← hC]
  have hgZ:=fun v (h:v < a.acc.length)=>z941 (A:=Z) (v:=v) (by omega)
  have cP:=z1011 Z a.ini (by omega) (by rw [hZl];exact hini) (by omega)
  obtain ⟨z,hz1,hz2,cS,cC⟩:=sortC_ex (a.ini.map (pick Z)) (by rw [y46];omega)
  rw [y46] at hz1 hz2 cS cC
  generalize a.ini.map (pick Z)=P at *
  generalize z279 P=I at *
  repeat' ((first|apply y6 ok;rfl|apply z27;kernel_rfl|apply y40;omega|(first|with_reducible apply z13;omega|apply z13;omega);intro _|apply z7<;>intro _|(first|apply z120 [] [2] [5] cP;(focus (exact z60 (z1246 rfl rfl rfl hZl) (z60 rfl z87)));rfl|apply z814 [5] [] [] cS;rfl;(focus ((repeat' first|exact z62|apply z71)<;>(refine z89 rfl ?_;((exact z6 fun _=>rfl)))))|apply z814 [5] [] [] cC;rfl;(focus ((repeat' first|exact z62|apply z71)<;>(refine z89 rfl ?_;((exact z6 fun _=>rfl))))));rfl;(focus ((repeat' first|exact z23|apply z19)<;>(refine z30 ?_;((exact z6 fun _=>rfl)))));(first|exact .inl rfl|(refine .inr ⟨rfl,?_⟩;repeat' first|exact True.intro|apply y40|exact z121 (fun _=>rfl) _)))<;>conv=>whnf)
  all_goals try (exfalso;omega)
  refine y82 (y86 4 rfl) ?_
  refine z69 (fun x:Nat×List Trans=>([(1,.ptr 0 none 0),(2,.ptr 1 none 0),(4,.sref 2 0 a.acc.length),(5,.ptr 3 none 0),(8,.mref 6),(55,lst 4 Trans.cs a.ed),(56,.int a.ed.length),(57,.int x.1)],[.cells 3 [a.cs],.cells 3 [[.nils,.nils,.nils]],.cells 1 (Z.map enI),.cells 3 [[.sref 5 0 I.length,.sref 4 0 C.length,.sref 7 0 x.2.length]],.cells 1 (C.map enB),.cells 1 (I.map enI),.mp 68 (x.2.map mE),.cells 4 (x.2.map Trans.cs)])) (fun x=>x.1≤a.ed.length∧x.2=dedT ((a.ed.map (mvE Z)).take x.1)) (fun x=>a.ed.length - x.1) (0,[]) ⟨y50 _,rfl⟩ (by refine swR [0,1,2,3,4,5,6,7] [] rfl rfl ?_;(repeat' first|exact y83 _|exact z56|exact z10 _|apply y85|(refine z11 rfl ?_ ?_);(focus ((repeat' (first|exact z39|exact z6 (fun _=>rfl)));done))|constructor)<;>(rfl)) ?_
  rintro ⟨i,E⟩ ⟨hi,hE⟩
  dsimp only at hi hE ⊢
  have hEl:=z422 ((a.ed.map (mvE Z)).take i)
  rw [y45,y46,← hE] at hEl
  by_cases hil:i < a.ed.length
  ·have gi:(a.ed.map Trans.cs)[i]?=some (Trans.cs a.ed[i]):=by rw [y48,y42 hil];rfl
   have hx:=hed _ (y41 hil)
   have hE2:=z973 (l:=a.ed.map (mvE Z)) (k:=i) (by simpa using hil)
   rw [← hE,List.getElem_map] at hE2
   generalize a.ed[i]=e at *
   unfold z205 at hx
   obtain ⟨x,c,w,y⟩:=e
   dsimp only at hx
   obtain ⟨v,rfl⟩:∃ v:Nat,x=v:=⟨x.toNat,by omega⟩
   obtain ⟨u,rfl⟩:∃ u:Nat,y=u:=⟨y.toNat,by omega⟩
   have gv:=hgZ v (by omega)
   have gu:=hgZ u (by omega)
   have hmv:mvE Z ⟨(v:Int),c,w,(u:Int)⟩=⟨pick Z v,c,w,pick Z u⟩:=rfl
   rw [hmv] at hE2
   generalize pick Z (v:Int)=p1 at *
   generalize pick Z (u:Int)=p2 at *
   have hg:mget (E.map mE) [p1,c,w,p2]=_:=z1166 ⟨p1,c,w,p2⟩ E
   have hp:_→mput (E.map mE) [p1,c,w,p2] 1=_:=z1165 ⟨p1,c,w,p2⟩ E
   by_cases hin:(⟨p1,c,w,p2⟩:Trans)∈E
   ·rw [if_pos hin] at hE2 hg
    clear hp
    repeat' ((first|apply y6 ok;rfl|apply z27;kernel_rfl|refine z14 (i:=i) rfl gi ?_|refine z14 (i:=v) rfl gv ?_|refine z14 (i:=u) rfl gu ?_|refine y40 ke ?_|(apply y40;first|omega|unfold inI;omega|dsimp only;omega|(try dsimp only);simp only [y46,y45,y44,y43,y55,y56];omega|exact ⟨rfl,z17 rfl z26⟩)|(first|apply z7|apply z35)<;>intro _)<;>conv=>whnf)
    all_goals first|exfalso;omega|(exfalso;rename_i hq;rw [hg] at hq;revert hq;simp;done)|skip
    all_goals refine z29 (i+1,E) ⟨hil,hE2.symm⟩ (by show a.ed.length - (i+1) < a.ed.length - i;omega) (by refine swR [0,1,2,3,4,5,6,7] [] rfl rfl ?_;(repeat' first|exact y83 _|exact z10 _|apply y85|refine z11 rfl (z6 (fun _=>rfl)) ?_|constructor)<;>(rfl))
   ·rw [if_neg hin] at hE2 hg
    have hp:=hp hin
    repeat' ((first|apply y6 ok;rfl|apply z27;kernel_rfl|refine z14 (i:=i) rfl gi ?_|refine z14 (i:=v) rfl gv ?_|refine z14 (i:=u) rfl gu ?_|refine y40 ke ?_|(apply y40;first|omega|unfold inI;omega|dsimp only;omega|(try dsimp only);simp only [y46,y45,y44,y43,y55,y56];omega|exact ⟨rfl,z17 rfl z26⟩)|(first|apply z7|apply z35)<;>intro _)<;>conv=>whnf)
    all_goals first|exfalso;omega|(exfalso;rename_i hq;rw [hg] at hq;revert hq;simp;done)|skip
    all_goals refine z29 (i+1,E++[⟨p1,c,w,p2⟩]) ⟨hil,hE2.symm⟩ (by show a.ed.length - (i+1) < a.ed.length - i;omega) (by refine swR [0,1,2,3,4,5,6,11] [] rfl rfl ?_;(repeat' first|exact y83 _|exact z10 _|refine z44 ?_;((simp;done))|apply y85|(first|refine z33 rfl ?_ ?_|refine z11 rfl ?_ ?_);(focus ((repeat' (first|exact z6 (fun _=>rfl)|apply z25));done))|refine z77 ?_ ?_;(focus omega)|constructor)<;>(first|exact hp|rfl))
  ·obtain rfl:i=a.ed.length:=by omega
   rw [y54 (by simp)] at hE
   rw [← hE]
   have cY:=z574 ⟨I,C,E⟩ (by show I.length≤_;omega) (by show C.length≤_;omega) (by show E.length≤_;omega)
   repeat' ((first|apply y6 ok;rfl|apply z27;kernel_rfl|apply y40;omega|(first|with_reducible apply z13;omega|apply z13;omega);intro _|(first|apply z7|apply z35)<;>intro _|apply z120 [] [4,5,7] [8,9,10] cY;(focus (exact z60 (z1248 (a:=⟨I,C,E⟩) rfl rfl rfl rfl rfl rfl rfl rfl rfl) z87));rfl;rfl;(focus ((repeat' first|exact z23|apply z19)<;>(refine z30 ?_;((exact z6 fun _=>rfl)))));((refine .inr ⟨rfl,?_⟩;repeat' first|exact True.intro|apply y40|exact z121 (fun _=>rfl) _)))<;>conv=>whnf)
   all_goals try (exfalso;omega)
   all_goals (refine rsD [] [8,9,10] rfl ?_;(repeat' first|exact y83 _|(apply z55 rfl rfl rfl);(focus ((repeat ((exact z48 (fun _=>rfl) _)));done));(focus (((simp;done));done))|apply z57|constructor))
noncomputable def kpS (a:Aut) (l:List Int):Nat→Bool:=fun q=>decide ((q:Int)∈l) && z181 a q
theorem kpS_nil (a:Aut):kpS a []=fun _=>false:=by funext q;simp [kpS]
theorem kpS_snoc (a:Aut) (l:List Int) (v:Nat):kpS a (l++[(v:Int)])=upd (kpS a l) v (z181 a v):=by
 funext q
 by_cases h:q=v
 ·subst h;rw [z36];simp [kpS]
 ·rw [z52 _ _ h]
  unfold kpS
  congr 1
  rw [decide_eq_decide,y51,y52]
  exact ⟨fun h'=>h'.elim id fun e=>absurd (by omega) h,.inl⟩
theorem kpS_all {a:Aut} (hA:AutP a) (q:Nat):kpS a (bfsL (nyA a) a.ini) q=z86 a q:=by
 have hi:InN (nyA a).length a.ini:=by
  have:=z194 hA
  rwa [z106,← z283 a] at this
 unfold kpS
 rw [Bool.eq_iff_iff,y68,decide_eq_true_iff,z792,z237 (z620 hA) hi,z946 hA]
set_option maxHeartbeats 3200000 in
theorem z1039 (a:Aut) (hA:AutP a):QQ 49 [.agg a.cs] [] (.agg (z104 a).cs) []:=by
 have c0:=z688 a hA
 have c1:=z768 a hA
 have hn:=z283 a
 have hin:=z620 hA
 have hrl:=nyA_rl hA
 have h1:=hA.1
 have ai:=z1199 hA
 have hi1:InN (nyA a).length a.ini:=by
  have:=z194 hA
  rwa [z106,← z283 a] at this
 have c2:=z1024 (nyA a) a.ini hin hi1 (by omega) (fun r hr=>by have:=hrl r hr;omega) (by omega)
 have hni:InN (nyA a).length (bfsL (nyA a) a.ini):=z432 hin hi1 _
 have hnl:(bfsL (nyA a) a.ini).length≤(nyA a).length:=z458 hin hi1 _
 have c3:=z891 a hA (z86 a)
 rw [z927] at c3
 have hk:fnB a.acc.length (kpS a (bfsL (nyA a) a.ini))=fnB a.acc.length (z86 a):=by
  unfold fnB
  exact List.map_congr_left fun q _=>kpS_all hA q
 rw [← hk] at c3
 have hgl:=fun q (h:q < a.acc.length)=>z324 (N:=a.acc.length) (z181 a) h
 have hll:=z173 a.acc.length (z181 a)
 generalize z104 a=t at *
 generalize bfsL (nyA a) a.ini=nodes at *
 generalize nyA a=rows at *
 generalize fnB a.acc.length (z181 a)=L at *
 clear hk
 refine z12 z24 func49 rfl rfl 39 ntmps49 (by simp) ?_
 repeat' ((first|apply y6 ok;rfl|apply z27;kernel_rfl|apply y40;(dsimp only;omega)|apply z8 c0;rfl;rfl|apply z8 c1;rfl;rfl|apply z8 c2;rfl;rfl)<;>conv=>whnf)
 refine z69 (fun i:Nat=>([(1,.ptr 0 none 0),(2,.ptr 1 none 0),(3,lst 1 enB L),(4,ints nodes),(5,.sref 2 0 a.acc.length),(6,.int i)],[.cells 3 [a.cs],.cells 3 [[.nils,.nils,.nils]],.cells 1 ((fnB a.acc.length (kpS a (nodes.take i))).map enB)])) (fun i=>i≤nodes.length) (fun i=>nodes.length - i) 0 (y50 _) (by refine swR [0,1,2] [] rfl rfl ?_;(repeat' first|exact y83 _|refine z44 ?_;(omega)|apply y85|refine z11 rfl (z54 rfl) ?_|constructor)<;>((refine z21 ?_;rw [List.take_zero,kpS_nil,← z499];(rw [hll];rfl)))) ?_
 intro i hi
 have hfl:=z173 a.acc.length (kpS a (nodes.take i))
 by_cases hil:i < nodes.length
 ·have gi:(nodes.map enI)[i]?=some (enI nodes[i]):=by rw [y48,y42 hil];rfl
  have hx:=hni _ (y41 hil)
  have hs:=y47 hil
  generalize nodes[i]=x at *
  obtain ⟨v,rfl⟩:∃ v:Nat,x=v:=⟨x.toNat,by omega⟩
  have gl:=hgl v (by omega)
  have e1:=z500 (N:=a.acc.length) (u:=v) (kpS a (nodes.take i)) (z181 a v)
  rw [← kpS_snoc,← hs] at e1
  have gf:=z324 (N:=a.acc.length) (u:=v) (kpS a (nodes.take i)) (by omega)
  repeat' ((first|apply y6 ok;rfl|apply z27;kernel_rfl|refine z14 (i:=i) rfl gi ?_|refine z14 (i:=v) rfl gl ?_|refine z14 (i:=v) rfl gf ?_|(apply y40;first|omega|unfold inI;omega)|apply z7<;>intro _)<;>conv=>whnf)
  all_goals try (exfalso;omega)
  all_goals refine z29 (i+1) hil (by omega) (by refine swR [0,1,2] [] rfl rfl ?_;(repeat' first|exact y83 _|apply y85|refine z50 rfl (z6 (fun _=>rfl)) ?_|constructor)<;>((refine z21 ?_;exact e1)))
 ·obtain rfl:i=nodes.length:=by omega
  rw [y53]
  rw [y53] at hfl
  generalize fnB a.acc.length (kpS a nodes)=K at *
  repeat' ((first|apply y6 ok;rfl|apply z27;kernel_rfl|apply y40;omega|(first|with_reducible apply z13;omega|with_reducible apply z79;omega|apply z13;omega);intro _|apply z7<;>intro _|apply z120 [] [2] [3,4,5] c3;(focus (exact z60 rfl (z60 (z637 rfl rfl rfl hfl) z87)));rfl;rfl;(focus ((repeat' first|exact z23|apply z19)<;>(refine z30 ?_;((exact z6 fun _=>rfl)))));((refine .inr ⟨rfl,?_⟩;repeat' first|exact True.intro|apply y40|exact z121 (fun _=>rfl) _)))<;>conv=>whnf)
  all_goals try (exfalso;omega)
  all_goals (refine rsD [] [3,4,5] rfl ?_;(repeat' first|exact y83 _|(apply z55 rfl rfl rfl);(focus ((repeat ((exact z48 (fun _=>rfl) _)));done));(focus (((simp;done));done))|apply z57|constructor))
set_option maxRecDepth 20000 in
set_option maxHeartbeats 3200000 in
theorem z587 (a b:Aut) (ha:a.mx) (hb:b.mx):QQ 50 [.agg a.cs,.agg b.cs] [] (.bool (decide (a=b))) []:=by
 have c1:=z412 a.ini b.ini ha.1 hb.1
 have h1:=ha.2.1
 have h2:=hb.2.1
 have h3:=ha.2.2.1
 have h4:=hb.2.2.1
 unfold maxLen at h1 h2 h3 h4
 have ke:=z695
 have ge:=z1225
 rw [z1261]
 generalize decide (a.ini=b.ini)=b1 at *
 by_cases hn:b1=true∧a.acc.length=b.acc.length∧a.ed.length=b.ed.length
 ·obtain ⟨rfl,l1,l2⟩:=hn
  rw [Bool.true_and]
  refine z16 z24 func50 rfl rfl 67 ntmps50 (by simp) ?_
  repeat' ((first|apply y6 ok;rfl|apply z35<;>intro _|apply z8 c1;rfl;rfl)<;>conv=>whnf)
  all_goals try (exfalso;omega)
  refine z111 (fun k:Nat=>([(2,.ptr 0 none 0),(3,.ptr 1 none 0),(5,.int k)],[.cells 3 [a.cs],.cells 3 [b.cs]])) (fun k=>k≤a.acc.length∧a.acc.take k=b.acc.take k) (fun k=>a.acc.length - k) 0 (by simp) ⟨[0,1],rfl,by decide,rfl,by repeat' (first|exact True.intro|exact ⟨rfl,rfl⟩|apply y40),by repeat' (first|exact True.intro|exact z43 rfl rfl|apply y40)⟩ ?_
  rintro k ⟨hk1,hk2⟩
  by_cases hkl:k < a.acc.length
  ·have hkb:k < b.acc.length:=by omega
   have g1:(a.acc.map enB)[k]?=some (enB a.acc[k]):=by rw [y48,y42 hkl];rfl
   have g2:(b.acc.map enB)[k]?=some (enB b.acc[k]):=by rw [y48,y42 hkb];rfl
   have e1:=y47 hkl
   have e2:=y47 hkb
   have hne:a.acc[k]≠b.acc[k]→a.acc≠b.acc:=fun h e=>h (by simp only [e])
   generalize a.acc[k]=s at *
   generalize b.acc[k]=t at *
   by_cases he:s=t
   ·subst he
    cases s
    all_goals
     repeat' ((first|apply y6 ok;rfl|apply z27;kernel_rfl|refine z14 (i:=k) rfl g1 ?_|refine z14 (i:=k) rfl g2 ?_|(apply y40;first|omega|unfold inI;omega)|apply z7<;>intro _)<;>conv=>whnf)
     all_goals try (exfalso;omega)
     all_goals exact z92 (k+1) [0,1] ⟨by omega,by rw [e1,e2,hk2]⟩ (by omega) ⟨rfl,by decide,rfl,by repeat' (first|exact True.intro|exact ⟨rfl,rfl⟩|apply y40),by repeat' (first|exact True.intro|exact z43 rfl rfl|apply y40)⟩
   ·rw [y80 (hne he),Bool.false_and]
    cases s<;>cases t
    all_goals first|exact absurd rfl he|skip
    all_goals
     repeat' ((first|apply y6 ok;rfl|apply z27;kernel_rfl|refine z14 (i:=k) rfl g1 ?_|refine z14 (i:=k) rfl g2 ?_|apply y40;omega|apply z7<;>intro _)<;>conv=>whnf)
     all_goals first|exfalso;omega|exact z34 rfl rfl
  ·rw [y54 (by omega),y54 (by omega)] at hk2
   rw [y79 hk2,Bool.true_and]
   repeat' ((first|apply y6 ok;rfl|apply z27;kernel_rfl|apply y40;omega|((with_reducible apply z13;omega));intro _|(first|apply z7|apply z35)<;>intro _)<;>conv=>whnf)
   all_goals try (exfalso;omega)
   refine z111 (fun k:Nat=>([(2,.ptr 0 none 0),(3,.ptr 1 none 0),(6,.int k)],[.cells 3 [a.cs],.cells 3 [b.cs]])) (fun k=>k≤a.ed.length∧a.ed.take k=b.ed.take k) (fun k=>a.ed.length - k) 0 (by simp) ⟨[0,1],rfl,by decide,rfl,by repeat' (first|exact True.intro|exact ⟨rfl,rfl⟩|apply y40),by repeat' (first|exact True.intro|exact z43 rfl rfl|apply y40)⟩ ?_
   rintro k ⟨hk1,hk2⟩
   by_cases hkl:k < a.ed.length
   ·have hkb:k < b.ed.length:=by omega
    have g1:(a.ed.map Trans.cs)[k]?=some (Trans.cs a.ed[k]):=by rw [y48,y42 hkl];rfl
    have g2:(b.ed.map Trans.cs)[k]?=some (Trans.cs b.ed[k]):=by rw [y48,y42 hkb];rfl
    have e1:=y47 hkl
    have e2:=y47 hkb
    have hne:a.ed[k]≠b.ed[k]→a.ed≠b.ed:=fun h e=>h (by simp only [e])
    generalize a.ed[k]=s at *
    generalize b.ed[k]=t at *
    by_cases he:s=t
    ·repeat' ((first|apply y6 ok;rfl|apply z27;kernel_rfl|refine z14 (i:=k) rfl g1 ?_|refine z14 (i:=k) rfl g2 ?_|refine y40 ge ?_|refine y40 ke ?_|(apply y40;first|omega|unfold inI;omega)|(first|apply z7|apply z35)<;>intro _)<;>conv=>whnf)
     all_goals first|exfalso;omega|exfalso;subst he;exact absurd rfl (by assumption)|skip
     all_goals exact z92 (k+1) [0,1] ⟨by omega,by rw [e1,e2,hk2,he]⟩ (by omega) ⟨rfl,by decide,rfl,by repeat' (first|exact True.intro|exact ⟨rfl,rfl⟩|apply y40),by repeat' (first|exact True.intro|exact z43 rfl rfl|apply y40)⟩
    ·repeat' ((first|apply y6 ok;rfl|apply z27;kernel_rfl|refine z14 (i:=k) rfl g1 ?_|refine z14 (i:=k) rfl g2 ?_|refine y40 ge ?_|refine y40 ke ?_|(apply y40;first|omega|unfold inI;omega)|(first|apply z7|apply z35)<;>intro _)<;>conv=>whnf)
     all_goals first|exfalso;omega|exfalso;exact he (Trans.l_inj.1 (by assumption))|skip
     all_goals exact z34 rfl (y80 (hne he))
   ·rw [y54 (by omega),y54 (by omega)] at hk2
    rw [y79 hk2]
    repeat' ((first|apply y6 ok;rfl|apply z27;kernel_rfl|apply y40;omega|((with_reducible apply z13;omega));intro _|(first|apply z7|apply z35)<;>intro _)<;>conv=>whnf)
    all_goals first|exfalso;omega|exact z34 rfl rfl
 ·have e:(b1 && (decide (a.acc=b.acc) && decide (a.ed=b.ed)))=false:=by
   cases b1 with
   |false=>rfl
   |true =>
    have:¬(a.acc=b.acc∧a.ed=b.ed):=fun ⟨x,y⟩=>hn ⟨rfl,by rw [x],by rw [y]⟩
    by_cases x:a.acc=b.acc
    ·by_cases y:a.ed=b.ed
     ·exact absurd ⟨x,y⟩ this
     ·simp [y]
    ·simp [x]
  rw [e]
  refine z16 z24 func50 rfl rfl 67 ntmps50 (by simp) ?_
  cases b1
  all_goals
   repeat' ((first|apply y6 ok;rfl|apply z35<;>intro _|apply z8 c1;rfl;rfl)<;>conv=>whnf)
   all_goals first|exfalso;exact hn ⟨rfl,by omega,by omega⟩|exact z34 rfl rfl
noncomputable def smpO (a:Aut):Aut:=if autB a=true then smpA a else ⟨[],[],[]⟩
theorem z559 (cs:∀ a,AutP a→QQ 46 [.agg a.cs] [] (.agg (smpA a).cs) []) (a:Aut) (ha:a.mx):QQ 12 [.agg a.cs] [] (.tup [.agg (smpO a).cs,.bool (autB a)]) []:=by
 have c1:=z272 a ha
 cases hv:autB a with
 |true =>
  have c2:=cs a (z153.1 hv)
  have e:smpO a=smpA a:=by unfold smpO;rw [if_pos hv]
  rw [hv] at c1
  rw [e]
  generalize smpA a=b at *
  refine z12 z24 func12 rfl rfl 10 ntmps12 (by simp) ?_
  repeat' ((first|apply y6 ok;rfl|apply z8 c1;rfl;rfl|apply z8 c2;rfl;rfl)<;>conv=>whnf)
  all_goals (refine rsD [] [] rfl ?_;(repeat' first|exact y83 _|constructor))
 |false =>
  have e:smpO a=⟨[],[],[]⟩:=by unfold smpO;rw [hv];rfl
  rw [hv] at c1
  rw [e]
  refine z12 z24 func12 rfl rfl 10 ntmps12 (by simp) ?_
  repeat' ((first|apply y6 ok;rfl|apply z8 c1;rfl;rfl)<;>conv=>whnf)
  all_goals (refine rsD [] [] rfl ?_;(repeat' first|exact y83 _|exact z63|apply z57|apply z156|constructor))
set_option maxHeartbeats 1600000 in
theorem z517 (ct:∀ a,AutP a→QQ 49 [.agg a.cs] [] (.agg (z104 a).cs) []) (cm:∀ a,AutP a→QQ 48 [.agg a.cs] [] (.agg (z105 a).cs) []) (ce:∀ a b:Aut,a.mx→b.mx→QQ 50 [.agg a.cs,.agg b.cs] [] (.bool (decide (a=b))) []) (a:Aut) (ha:a.mx):QQ 13 [.agg a.cs] [] (.tup [.agg (smpO a).cs,.bool (autB a)]) []:=by
 have c0:=z192 a ha
 cases hv:autB a with
 |false =>
  have e:smpO a=⟨[],[],[]⟩:=by unfold smpO;rw [hv];rfl
  rw [hv] at c0
  rw [e]
  refine z12 z24 func13 rfl rfl 17 ntmps13 (by simp) ?_
  repeat' ((first|apply y6 ok;rfl|apply z8 c0;rfl;rfl)<;>conv=>whnf)
  all_goals (refine rsD [] [] rfl ?_;(repeat' first|exact y83 _|exact z63|apply z57|apply z156|constructor))
 |true =>
  have hA:=z153.1 hv
  have e:smpO a=smpA a:=by unfold smpO;rw [if_pos hv]
  rw [hv] at c0
  rw [e]
  refine z12 z24 func13 rfl rfl 17 ntmps13 (by simp) ?_
  repeat' ((first|apply y6 ok;rfl|apply z8 c0;rfl;rfl)<;>conv=>whnf)
  refine z69 (fun x:Aut=>([(1,.ptr 0 none 0),(2,.ptr 1 none 0),(3,.bool false)],[.cells 3 [x.cs],.cells 3 [[.nils,.nils,.nils]]])) (fun x=>AutP x∧smpA x=smpA a) (fun x=>muA x) a ⟨hA,rfl⟩ (by refine swR [0,1] [] rfl rfl ?_;(repeat' first|exact y83 _|apply y85|constructor)) ?_
  rintro x ⟨hX,hS⟩
  have c1:=ct x hX
  have c2:=cm (z104 x) (z255 hX)
  have c3:=ce (z376 x) x (z639 (z139 hX)) (z639 hX)
  have hn:=z743 hX
  have ho:=z390 hX
  have hv:=z139 hX
  unfold z376 at *
  by_cases h:z105 (z104 x)=x
  ·rw [y79 h] at c3
   have e:smpA a=z105 (z104 x):=by rw [← hS,z742 (a:=x) h,h]
   rw [e]
   generalize z105 (z104 x)=y at *
   generalize z104 x=t at *
   repeat' ((first|apply y6 ok;rfl|apply z8 c1;rfl;rfl|apply z8 c2;rfl;rfl|apply z8 c3;rfl;rfl)<;>conv=>whnf)
   all_goals (refine rsD [] [] rfl ?_;(repeat' first|exact y83 _|constructor))
  ·rw [y80 h] at c3
   have hlt:muA (z105 (z104 x)) < muA x:=ho.resolve_left h
   have e:smpA (z105 (z104 x))=smpA a:=by rw [← hn,hS]
   generalize z105 (z104 x)=y at *
   generalize z104 x=t at *
   repeat' ((first|apply y6 ok;rfl|apply z8 c1;rfl;rfl|apply z8 c2;rfl;rfl|apply z8 c3;rfl;rfl)<;>conv=>whnf)
   all_goals refine z29 y ⟨hv,e⟩ hlt (by refine swR [0,1] [] rfl rfl ?_;(repeat' first|exact y83 _|apply y85|constructor))
theorem smpO_ft {g:Graph} {l:List Tree} {a:Aut} (ha:autB a=true):(ftO g l (smpO a)).isSome=(ftO g l a).isSome:=by
 have e:smpO a=smpA a:=by unfold smpO;rw [if_pos ha]
 rw [e]
 by_cases hg:glB g l=true
 ·exact z744 hg ha
 ·have h1:∀ b,ftO g l b=none:=fun b=>by
   unfold ftO
   rw [if_neg (by rw [(y69 _).mp hg];simp)]
  rw [h1,h1]
set_option maxHeartbeats 1600000 in
theorem z595 (c1 : ∀ a : Aut, a.mx → QQ 12 [.agg a.cs] [] (.tup [.agg (smpO a).cs, .bool (autB a)]) []) (c2 : ∀ a : Aut, a.mx → QQ 13 [.agg a.cs] [] (.tup [.agg (smpO a).cs, .bool (autB a)]) []) (c : List Int) (hc : CodeOk c)
    (cd:∃ (g:Graph) (l:List Tree) (a:Aut),(g.mx∧Lmx l∧a.mx)∧QQ 11 [lst 1 enU c] [] (.tup [.agg g.cs,lst 3 Tree.cs' l,.agg a.cs]) []):QQ 4 [lst 1 enU c] [] (.bool true) []:=by
  obtain ⟨g,l,a,⟨hg,hl,ha⟩,cd⟩:=cd
  have hlen:=hc.len
  unfold maxLen at hlen
  have k1:=c1 a ha
  have k2:=c2 a ha
  have f1:QQ 15 [.agg g.cs,lst 3 Tree.cs' l,.agg a.cs] [] (.tup [.agg (ftL g l a).cs,.bool (ftO g l a).isSome]) []:=(by refine y7 (z265 g hg l hl a ha) [] [0,1] rfl rfl rfl ?_ ?_<;>(repeat' first|exact y83 _|(apply z55 rfl rfl rfl);(focus ((repeat ((exact z48 (fun _=>rfl) _)));done));(focus (((simp;done));done))|apply z57|apply z156|constructor))
  have hb:(smpO a).mx:=by
    unfold smpO
    split
    · rename_i h;exact z639 (z554 _ (z153.1 h))
    · exact ⟨by simp [maxLen],by simp [maxLen],by simp [maxLen],by simp⟩
  have f2:QQ 15 [.agg g.cs,lst 3 Tree.cs' l,.agg (smpO a).cs] [] (.tup [.agg (ftL g l (smpO a)).cs,.bool (ftO g l (smpO a)).isSome]) []:=(by refine y7 (z265 g hg l hl (smpO a) hb) [] [0,1] rfl rfl rfl ?_ ?_<;>(repeat' first|exact y83 _|(apply z55 rfl rfl rfl);(focus ((repeat ((exact z48 (fun _=>rfl) _)));done));(focus (((simp;done));done))|apply z57|apply z156|constructor))
  have k3:=z368 (smpO a) (smpO a) hb hb
  rw [y79 rfl] at k3
  cases hv:autB a with
  | true =>
    rw [smpO_ft hv] at f2
    rw [hv] at k1 k2
    generalize (ftO g l a).isSome=r at *
    generalize ftL g l (smpO a)=t2 at *
    generalize ftL g l a=t1 at *
    generalize smpO a=b at *
    refine z12 z24 func4 rfl rfl 71 ntmps4 (by simp) ?_
    cases r
    all_goals
      repeat' ((first|apply y6 ok;rfl|apply z7<;>intro _|apply z8 cd;rfl;rfl|apply z8 k1;rfl;rfl|apply z8 k2;rfl;rfl|apply z8 k3;rfl;rfl|apply z8 f1;rfl;rfl|apply z8 f2;rfl;rfl)<;>conv=>whnf)
      all_goals (refine rsD [] [] rfl ?_;(repeat' first|exact y83 _|constructor))
  | false =>
    rw [hv] at k1 k2
    generalize smpO a=b at *
    refine z12 z24 func4 rfl rfl 71 ntmps4 (by simp) ?_
    repeat' ((first|apply y6 ok;rfl|apply z7<;>intro _|apply z8 cd;rfl;rfl|apply z8 k1;rfl;rfl|apply z8 k2;rfl;rfl|apply z8 k3;rfl;rfl)<;>conv=>whnf)
    all_goals (refine rsD [] [] rfl ?_;(repeat' first|exact y83 _|constructor))
section
variable {g:Graph} {ls:List Int} {a:Aut} {s q:List Int}
theorem FndP.tr (hG:GB g) (hA:AutP a) (h:FndP g ls a s q) (hl8:s.length+q.length≤8000):trB g ⟨stL s a.acc.length,stL q a.acc.length⟩=true:=by
 have hac:=hA.1
 have hl:(s++q).length=s.length+q.length:=by simp
 have hp:=h.pos
 have hall:(Trace.mk (stL s a.acc.length) (stL q a.acc.length)).all=stL (s++q) a.acc.length:=by unfold Trace.all stL;simp
 have hsl:(stL s a.acc.length).length=s.length:=by simp [stL]
 have hql:(stL q a.acc.length).length=q.length:=by simp [stL]
 have hal:(stL (s++q) a.acc.length).length=s.length+q.length:=by simp [stL]
 have inv:∀ k,k < (s++q).length→∃ (i:Nat) (to:Int),i < g.st.length∧to∈g.nx.getD i []∧(s++q).getD k 0 / a.acc.length=i∧(s++q).getD (nxW (s++q).length s.length k).toNat 0 / a.acc.length=to:=fun k hk=>by
  obtain ⟨i,to,e,h1,h2,h3,h4,h5,h6,h7,h8⟩:=z489 (h.inn ((s++q).getD k 0) (by rw [z20 hk];exact y41 _)) (h.step hk) hA
  exact ⟨i,to,h1,h2,h5,h7⟩
 unfold trB
 simp only [y68,decide_eq_true_eq]
 refine ⟨⟨by rw [hql];exact hp,by rw [hsl,hql];exact hl8⟩,?_,?_,?_⟩
 ·rw [hall]
  refine z1012 ((z453 _).2 hG) (by rw [hal];omega) fun k hk=>?_
  rw [hal] at hk
  have hk' : k < (s++q).length:=by omega
  obtain ⟨i,to,h1,h2,h3,h4⟩:=inv k hk'
  unfold stepP
  rw [z738 hk',h3]
  simp only [y68,Bool.or_eq_true,decide_eq_true_eq]
  refine ⟨⟨by omega,by omega⟩,?_⟩
  by_cases hk0:k=0
  ·exact .inl hk0
  ·right
   obtain ⟨i',to',g1,g2,g3,g4⟩:=inv (k - 1) (by omega)
   unfold nxW at g4
   rw [if_neg (by omega),y74,show k - 1+1=k by omega,h3] at g4
   rw [z738 (by omega),g3,y74,g4]
   exact g2
 ·rw [hall,z738 (by omega)]
  obtain ⟨j,hj,e⟩:=List.mem_iff_getElem.1 h.ini
  have h5:=(hA.2.2.1 j hj hj).1
  rw [e] at h5
  exact Int.ediv_eq_zero_of_lt h5.1 (by omega)
 ·show (stL q a.acc.length).getD 0 0∈g.nx.getD ((stL q a.acc.length).getD ((stL q a.acc.length).length - 1) 0).toNat []
  rw [hql,z738 hp,z738 (by omega)]
  have hx0:=h.inn (q.getD (q.length - 1) 0) (by rw [z20 (by omega)];exact List.mem_append.2 (.inr (y41 _)))
  obtain ⟨i,to,e,h1,h2,h3,h4,h5,h6,h7,h8⟩:=z489 hx0 h.back hA
  rw [h7,h5,y74]
  exact h2
end
end Go.Proofs.YteinbnahinpegaaGreat
namespace Go.Proofs.YteinbnahinpegaaGreat
open Go.Gl Proofs.Tryz
attribute [local irreducible] z18 AWP z38 z41 z40 RetS z42
set_option maxHeartbeats 3200000 in
theorem z1230 (bs:List Int) (hb:CodeOk bs):∃ (g:Graph) (l:List Tree) (a:Aut),(g.d∧Lab.d l∧a.sm)∧QQ 11 [lst 1 enU bs] [] (.tup [.agg g.cs,lst 3 Tree.cs' l,.agg a.cs]) []:=by
 have co:=z1038 bs hb.len
 have hbt:=hb.take
 generalize bs.take 2000=b0 at *
 obtain ⟨l,p1,⟨l1,l2,l3,l4⟩,c1⟩:=z880 b0 hbt 0 ⟨by omega,by omega⟩
 obtain ⟨a0,p2,⟨a1,a2,a3,a4,a5,a6⟩,c2⟩:=z597 b0 hbt p1 ⟨by omega,by omega⟩
 obtain ⟨a',p3,⟨b1,b2,b3⟩,cm⟩:=z883 b0 hbt p2 ⟨by omega,by omega⟩ a0 ⟨a1,a2,a3,a6⟩
 obtain ⟨g0,g,p4,p5,cg0,cg,hg,q1,q2⟩:=mutG_ok b0 hbt p3 ⟨by omega,by omega⟩
 refine ⟨g,l,a',⟨hg,⟨l1,l2⟩,b1⟩,?_⟩
 have c2' : QQ 44 [.ptr 0 none 0] [rdO b0 p1] (.agg a0.cs) [rdO b0 p2]:=(by refine y7 c2 [0] [1,2,3] rfl rfl rfl ?_ ?_<;>(repeat' first|exact y83 _|apply y85|(apply z55 rfl rfl rfl);(focus ((repeat ((exact z48 (fun _=>rfl) _)));done));(focus (((simp;done));done))|apply z57|constructor))
 have cm' : QQ 43 [.ptr 0 none 0,.agg a0.cs] [rdO b0 p2] (.agg a'.cs) [rdO b0 p3]:=(by refine y7 cm [0] [1,2,3] rfl rfl rfl ?_ ?_<;>(repeat' first|exact y83 _|apply y85|(apply z55 rfl rfl rfl);(focus ((repeat ((exact z48 (fun _=>rfl) _)));done));(focus (((simp;done));done))|apply z57|constructor))
 refine z12 z24 func11 rfl rfl 22 ntmps11 (by simp) ?_
 repeat' ((first|apply y6 ok;rfl|apply z27;kernel_rfl|(first|apply z31 [] [2] co;rfl;rfl|apply z31 [2] [] c1;rfl;rfl|apply z31 [2] [] c2';rfl;rfl|apply z31 [2] [] cm';rfl;rfl|apply z31 [2] [] cg0;rfl;rfl|apply z31 [2] [] cg;rfl;rfl);rfl)<;>conv=>whnf)
 all_goals (refine rsD [] [] rfl ?_;(repeat' first|exact y83 _|constructor))
end Go.Proofs.YteinbnahinpegaaGreat
