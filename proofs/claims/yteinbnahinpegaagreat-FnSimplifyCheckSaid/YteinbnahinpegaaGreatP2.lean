/- A part of the proofs over this program: T84, T85, T86, T87, T88, T89, T90, T91, T92, T93, T94. -/
import Derived.Test.YteinbnahinpegaaGreatP1
set_option linter.all false
namespace Go.Proofs.YteinbnahinpegaaGreat
open Go.Gl Proofs.Tryz
attribute [local irreducible] z18 AWP z38 z41 z40 RetS z42
structure Edge where
 fr:Int
 to:Int
 gd:Tree
 var:Int
 val:Tree
 sync:Int
def Edge.cs (e:Edge):List AC:=[.int e.fr,.int e.to,.int e.gd.kind,.int e.gd.val,lst 3 Tree.cs' e.gd.kids,.int e.var,.int e.val.kind,.int e.val.val,lst 3 Tree.cs' e.val.kids,.int e.sync]
structure Proc where
 loc:Int
 es:List Edge
def Proc.cs (p:Proc):List AC:=[.int p.loc,lst 10 Edge.cs p.es]
structure Sys where
 init:List Int
 ps:List Proc
def Sys.cs (s:Sys):List AC:=[ints s.init,lst 2 Proc.cs s.ps]
structure Edge.sm (e:Edge):Prop where
 gd:e.gd.sz≤100
 val:e.val.sz≤100
 var : -1≤e.var∧e.var≤2
 sync : -2≤e.sync∧e.sync≤2
structure Proc.sm (p:Proc):Prop where
 loc:0≤p.loc∧p.loc≤100
 len:p.es.length≤10
 el:∀ e∈p.es,e.sm
structure Sys.sm (s:Sys):Prop where
 init:s.init.length≤10
 len:s.ps.length≤10
 el:∀ p∈s.ps,p.sm
structure Edge.s1 (e:Edge):Prop where
 gd:e.gd.sz≤1000
 val:e.val.sz≤1000
structure Proc.s1 (p:Proc):Prop where
 len:p.es.length≤10
 el:∀ e∈p.es,e.s1
structure Sys.s1 (s:Sys):Prop where
 init:s.init.length≤20
 len:s.ps.length≤20
 el:∀ p∈s.ps,p.s1
theorem Edge.sm.s1 {e:Edge} (h:e.sm):e.s1:=⟨by have:=h.gd;omega,by have:=h.val;omega⟩
theorem Proc.sm.s1 {p:Proc} (h:p.sm):p.s1:=⟨h.len,fun e he=>(h.el e he).s1⟩
theorem Sys.sm.s1 {s:Sys} (h:s.sm):s.s1:=⟨by have:=h.init;omega,by have:=h.len;omega,fun p hp=>(h.el p hp).s1⟩
set_option maxHeartbeats 6400000 in
theorem z692 (bs:List Int) (hb:BytesOk bs) (p:Int) (hp:few1 p) (n:Int) (hn:0≤n∧n≤100):∃ (e:Edge) (p' : Int),(e.sm∧p≤p'∧p'≤p+200)∧QQ 120 [.ptr 0 none 0,.int n] [rdO bs p] (.agg e.cs) [rdO bs p']:=by
 obtain ⟨a,⟨la,ua⟩,ca⟩:=z73 bs hb p n (by omega) (by omega) (by omega)
 obtain ⟨b,⟨lb,ub⟩,cb⟩:=z73 bs hb (p+1) n (by omega) (by omega) (by omega)
 obtain ⟨gd,q,⟨g1,g2,g3⟩,cg⟩:=z625 bs hb (p+1+1) ⟨by omega,by omega⟩
 obtain ⟨w,⟨lw,uw⟩,cw⟩:=z73 bs hb q 3 (by omega) (by omega) (by omega)
 rw [y16] at cg
 by_cases hw:w=0
 ·subst hw
  obtain ⟨y,⟨ly,uy⟩,cy⟩:=z73 bs hb (q+1) 4 (by omega) (by omega) (by omega)
  by_cases hy:y=0
  ·subst hy
   obtain ⟨s,ms,cs⟩:=z115 bs hb (q+1+1) (by omega) (by omega) [1,-1,1,-1,2,-2] (by decide) (by decide)
   refine ⟨⟨a,b,gd,-1,leaf 0 0,s⟩,q+1+1+1,⟨⟨by show gd.sz≤100;omega,by (rw [z112];omega),by show -1≤(-1:Int)∧(-1:Int)≤2;omega,by simp at ms;show -2≤s∧s≤2;omega⟩,by omega,by omega⟩,?_⟩
   refine z12 z24 func120 rfl rfl 61 ntmps120 (by simp) ?_
   repeat' ((first|apply y6 ok;rfl|(first|apply z15 [0] [] ca;rfl;rfl|apply z15 [0] [] cb;rfl;rfl|apply z15 [0] [] cg;rfl;rfl|apply z15 [0] [] cw;rfl;rfl|apply z15 [0] [] cy;rfl;rfl|apply z15 [0,3] [] cs;rfl;rfl);rfl;(focus ((repeat' first|exact z23|apply z19)<;>first|exact z58 rfl rfl|refine z30 ?_;((exact z6 fun _=>rfl)))))<;>conv=>whnf)
   all_goals (refine rsD [0] [] rfl ?_;(repeat' first|exact y83 _|exact z63|apply y85|apply z57|constructor))
  ·refine ⟨⟨a,b,gd,-1,leaf 0 0,0⟩,q+1+1,⟨⟨by show gd.sz≤100;omega,by (rw [z112];omega),by show -1≤(-1:Int)∧(-1:Int)≤2;omega,by show -2≤(0:Int)∧(0:Int)≤2;omega⟩,by omega,by omega⟩,?_⟩
   refine z12 z24 func120 rfl rfl 61 ntmps120 (by simp) ?_
   repeat' ((first|apply y6 ok;rfl|apply z7<;>intro _|(first|apply z31 [0] [] ca;rfl;rfl|apply z31 [0] [] cb;rfl;rfl|apply z31 [0] [] cg;rfl;rfl|apply z31 [0] [] cw;rfl;rfl|apply z31 [0] [] cy;rfl;rfl);rfl)<;>conv=>whnf)
   all_goals try (exfalso;omega)
   all_goals (refine rsD [0] [] rfl ?_;(repeat' first|exact y83 _|exact z63|apply y85|apply z57|constructor))
 obtain ⟨x,mx,cx⟩:=z115 bs hb (q+1) (by omega) (by omega) [0,1,0,2] (by decide) (by decide)
 obtain ⟨z,⟨lz,uz⟩,cz⟩:=z73 bs hb (q+1+1) 4 (by omega) (by omega) (by omega)
 by_cases h0:z=0
 ·subst h0
  obtain ⟨k,⟨lk,uk⟩,ck⟩:=z73 bs hb (q+1+1+1) 3 (by omega) (by omega) (by omega)
  obtain ⟨y,⟨ly,uy⟩,cy⟩:=z73 bs hb (q+1+1+1+1) 4 (by omega) (by omega) (by omega)
  by_cases hy:y=0
  ·subst hy
   obtain ⟨s,ms,cs⟩:=z115 bs hb (q+1+1+1+1+1) (by omega) (by omega) [1,-1,1,-1,2,-2] (by decide) (by decide)
   refine ⟨⟨a,b,gd,x,leaf 1 k,s⟩,q+1+1+1+1+1+1,⟨⟨by show gd.sz≤100;omega,by (rw [z112];omega),by simp at mx;show -1≤x∧x≤2;omega,by simp at ms;show -2≤s∧s≤2;omega⟩,by omega,by omega⟩,?_⟩
   refine z12 z24 func120 rfl rfl 61 ntmps120 (by simp) ?_
   repeat' ((first|apply y6 ok;rfl|apply z7<;>intro _|(first|apply z15 [0] [] ca;rfl;rfl|apply z15 [0] [] cb;rfl;rfl|apply z15 [0] [] cg;rfl;rfl|apply z15 [0] [] cw;rfl;rfl|apply z15 [0,3] [] cx;rfl;rfl|apply z15 [0] [] cz;rfl;rfl|apply z15 [0] [] ck;rfl;rfl|apply z15 [0] [] cy;rfl;rfl|apply z15 [0,6] [] cs;rfl;rfl);rfl;(focus ((repeat' first|exact z23|apply z19)<;>first|exact z58 rfl rfl|refine z30 ?_;((exact z6 fun _=>rfl)))))<;>conv=>whnf)
   all_goals try (exfalso;omega)
   all_goals (refine rsD [0] [] rfl ?_;(repeat' first|exact y83 _|exact z63|apply y85|apply z57|constructor))
  ·refine ⟨⟨a,b,gd,x,leaf 1 k,0⟩,q+1+1+1+1+1,⟨⟨by show gd.sz≤100;omega,by (rw [z112];omega),by simp at mx;show -1≤x∧x≤2;omega,by show -2≤(0:Int)∧(0:Int)≤2;omega⟩,by omega,by omega⟩,?_⟩
   refine z12 z24 func120 rfl rfl 61 ntmps120 (by simp) ?_
   repeat' ((first|apply y6 ok;rfl|apply z7<;>intro _|(first|apply z15 [0] [] ca;rfl;rfl|apply z15 [0] [] cb;rfl;rfl|apply z15 [0] [] cg;rfl;rfl|apply z15 [0] [] cw;rfl;rfl|apply z15 [0,3] [] cx;rfl;rfl|apply z15 [0] [] cz;rfl;rfl|apply z15 [0] [] ck;rfl;rfl|apply z15 [0] [] cy;rfl;rfl);rfl;(focus ((repeat' first|exact z23|apply z19)<;>first|exact z58 rfl rfl|refine z30 ?_;((exact z6 fun _=>rfl)))))<;>conv=>whnf)
   all_goals try (exfalso;omega)
   all_goals (refine rsD [0] [] rfl ?_;(repeat' first|exact y83 _|exact z63|apply y85|apply z57|constructor))
 by_cases h1:z=1
 ·subst h1
  obtain ⟨y,⟨ly,uy⟩,cy⟩:=z73 bs hb (q+1+1+1) 4 (by omega) (by omega) (by omega)
  by_cases hy:y=0
  ·subst hy
   obtain ⟨s,ms,cs⟩:=z115 bs hb (q+1+1+1+1) (by omega) (by omega) [1,-1,1,-1,2,-2] (by decide) (by decide)
   refine ⟨⟨a,b,gd,x,.mk 8 0 [leaf 2 x,leaf 1 1],s⟩,q+1+1+1+1+1,⟨⟨by show gd.sz≤100;omega,by (show Tree.sz _≤100;rw [z359];simp [z112]),by simp at mx;show -1≤x∧x≤2;omega,by simp at ms;show -2≤s∧s≤2;omega⟩,by omega,by omega⟩,?_⟩
   refine z12 z24 func120 rfl rfl 61 ntmps120 (by simp) ?_
   repeat' ((first|apply y6 ok;rfl|apply z7<;>intro _|(first|apply z15 [0] [] ca;rfl;rfl|apply z15 [0] [] cb;rfl;rfl|apply z15 [0] [] cg;rfl;rfl|apply z15 [0] [] cw;rfl;rfl|apply z15 [0,3] [] cx;rfl;rfl|apply z15 [0] [] cz;rfl;rfl|apply z15 [0] [] cy;rfl;rfl|apply z15 [0,7] [] cs;rfl;rfl);rfl;(focus ((repeat' first|exact z23|apply z19)<;>first|exact z58 rfl rfl|refine z30 ?_;((exact z6 fun _=>rfl)))))<;>conv=>whnf)
   all_goals try (exfalso;omega)
   all_goals (refine rsD [0] [6] rfl ?_;(repeat' first|exact y83 _|exact z63|apply y85|refine z55 rfl rfl rfl rfl rfl ?_|apply z57|apply z97;rfl|constructor))
  ·refine ⟨⟨a,b,gd,x,.mk 8 0 [leaf 2 x,leaf 1 1],0⟩,q+1+1+1+1,⟨⟨by show gd.sz≤100;omega,by (show Tree.sz _≤100;rw [z359];simp [z112]),by simp at mx;show -1≤x∧x≤2;omega,by show -2≤(0:Int)∧(0:Int)≤2;omega⟩,by omega,by omega⟩,?_⟩
   refine z12 z24 func120 rfl rfl 61 ntmps120 (by simp) ?_
   repeat' ((first|apply y6 ok;rfl|apply z7<;>intro _|(first|apply z15 [0] [] ca;rfl;rfl|apply z15 [0] [] cb;rfl;rfl|apply z15 [0] [] cg;rfl;rfl|apply z15 [0] [] cw;rfl;rfl|apply z15 [0,3] [] cx;rfl;rfl|apply z15 [0] [] cz;rfl;rfl|apply z15 [0] [] cy;rfl;rfl);rfl;(focus ((repeat' first|exact z23|apply z19)<;>first|exact z58 rfl rfl|refine z30 ?_;((exact z6 fun _=>rfl)))))<;>conv=>whnf)
   all_goals try (exfalso;omega)
   all_goals (refine rsD [0] [6] rfl ?_;(repeat' first|exact y83 _|exact z63|apply y85|refine z55 rfl rfl rfl rfl rfl ?_|apply z57|apply z97;rfl|constructor))
 by_cases h2:z=2
 ·subst h2
  obtain ⟨y,⟨ly,uy⟩,cy⟩:=z73 bs hb (q+1+1+1) 4 (by omega) (by omega) (by omega)
  by_cases hy:y=0
  ·subst hy
   obtain ⟨s,ms,cs⟩:=z115 bs hb (q+1+1+1+1) (by omega) (by omega) [1,-1,1,-1,2,-2] (by decide) (by decide)
   refine ⟨⟨a,b,gd,x,.mk 9 0 [leaf 1 1,leaf 2 x],s⟩,q+1+1+1+1+1,⟨⟨by show gd.sz≤100;omega,by (show Tree.sz _≤100;rw [z359];simp [z112]),by simp at mx;show -1≤x∧x≤2;omega,by simp at ms;show -2≤s∧s≤2;omega⟩,by omega,by omega⟩,?_⟩
   refine z12 z24 func120 rfl rfl 61 ntmps120 (by simp) ?_
   repeat' ((first|apply y6 ok;rfl|apply z7<;>intro _|(first|apply z15 [0] [] ca;rfl;rfl|apply z15 [0] [] cb;rfl;rfl|apply z15 [0] [] cg;rfl;rfl|apply z15 [0] [] cw;rfl;rfl|apply z15 [0,3] [] cx;rfl;rfl|apply z15 [0] [] cz;rfl;rfl|apply z15 [0] [] cy;rfl;rfl|apply z15 [0,7] [] cs;rfl;rfl);rfl;(focus ((repeat' first|exact z23|apply z19)<;>first|exact z58 rfl rfl|refine z30 ?_;((exact z6 fun _=>rfl)))))<;>conv=>whnf)
   all_goals try (exfalso;omega)
   all_goals (refine rsD [0] [6] rfl ?_;(repeat' first|exact y83 _|exact z63|apply y85|refine z55 rfl rfl rfl rfl rfl ?_|apply z57|apply z97;rfl|constructor))
  ·refine ⟨⟨a,b,gd,x,.mk 9 0 [leaf 1 1,leaf 2 x],0⟩,q+1+1+1+1,⟨⟨by show gd.sz≤100;omega,by (show Tree.sz _≤100;rw [z359];simp [z112]),by simp at mx;show -1≤x∧x≤2;omega,by show -2≤(0:Int)∧(0:Int)≤2;omega⟩,by omega,by omega⟩,?_⟩
   refine z12 z24 func120 rfl rfl 61 ntmps120 (by simp) ?_
   repeat' ((first|apply y6 ok;rfl|apply z7<;>intro _|(first|apply z15 [0] [] ca;rfl;rfl|apply z15 [0] [] cb;rfl;rfl|apply z15 [0] [] cg;rfl;rfl|apply z15 [0] [] cw;rfl;rfl|apply z15 [0,3] [] cx;rfl;rfl|apply z15 [0] [] cz;rfl;rfl|apply z15 [0] [] cy;rfl;rfl);rfl;(focus ((repeat' first|exact z23|apply z19)<;>first|exact z58 rfl rfl|refine z30 ?_;((exact z6 fun _=>rfl)))))<;>conv=>whnf)
   all_goals try (exfalso;omega)
   all_goals (refine rsD [0] [6] rfl ?_;(repeat' first|exact y83 _|exact z63|apply y85|refine z55 rfl rfl rfl rfl rfl ?_|apply z57|apply z97;rfl|constructor))
 obtain ⟨t,q2,⟨t1,t2,t3⟩,ct⟩:=z1189 bs hb (q+1+1+1) ⟨by omega,by omega⟩
 rw [y16] at ct
 obtain ⟨y,⟨ly,uy⟩,cy⟩:=z73 bs hb q2 4 (by omega) (by omega) (by omega)
 by_cases hy:y=0
 ·subst hy
  obtain ⟨s,ms,cs⟩:=z115 bs hb (q2+1) (by omega) (by omega) [1,-1,1,-1,2,-2] (by decide) (by decide)
  refine ⟨⟨a,b,gd,x,t,s⟩,q2+1+1,⟨⟨by show gd.sz≤100;omega,by show t.sz≤100;omega,by simp at mx;show -1≤x∧x≤2;omega,by simp at ms;show -2≤s∧s≤2;omega⟩,by omega,by omega⟩,?_⟩
  refine z12 z24 func120 rfl rfl 61 ntmps120 (by simp) ?_
  repeat' ((first|apply y6 ok;rfl|apply z7<;>intro _|(first|apply z15 [0] [] ca;rfl;rfl|apply z15 [0] [] cb;rfl;rfl|apply z15 [0] [] cg;rfl;rfl|apply z15 [0] [] cw;rfl;rfl|apply z15 [0,3] [] cx;rfl;rfl|apply z15 [0] [] cz;rfl;rfl|apply z15 [0] [] ct;rfl;rfl|apply z15 [0] [] cy;rfl;rfl|apply z15 [0,6] [] cs;rfl;rfl);rfl;(focus ((repeat' first|exact z23|apply z19)<;>first|exact z58 rfl rfl|refine z30 ?_;((exact z6 fun _=>rfl)))))<;>conv=>whnf)
  all_goals try (exfalso;omega)
  all_goals (refine rsD [0] [] rfl ?_;(repeat' first|exact y83 _|apply y85|constructor))
 ·refine ⟨⟨a,b,gd,x,t,0⟩,q2+1,⟨⟨by show gd.sz≤100;omega,by show t.sz≤100;omega,by simp at mx;show -1≤x∧x≤2;omega,by show -2≤(0:Int)∧(0:Int)≤2;omega⟩,by omega,by omega⟩,?_⟩
  refine z12 z24 func120 rfl rfl 61 ntmps120 (by simp) ?_
  repeat' ((first|apply y6 ok;rfl|apply z7<;>intro _|(first|apply z15 [0] [] ca;rfl;rfl|apply z15 [0] [] cb;rfl;rfl|apply z15 [0] [] cg;rfl;rfl|apply z15 [0] [] cw;rfl;rfl|apply z15 [0,3] [] cx;rfl;rfl|apply z15 [0] [] cz;rfl;rfl|apply z15 [0] [] ct;rfl;rfl|apply z15 [0] [] cy;rfl;rfl);rfl;(focus ((repeat' first|exact z23|apply z19)<;>first|exact z58 rfl rfl|refine z30 ?_;((exact z6 fun _=>rfl)))))<;>conv=>whnf)
  all_goals try (exfalso;omega)
  all_goals (refine rsD [0] [] rfl ?_;(repeat' first|exact y83 _|apply y85|constructor))
def isProc (bs:List Int) (q:Int) (pr:Proc) (q' : Int):Prop:=pr.sm∧∃ (m:Nat) (pf:Nat→Int),
 QQ 60 [.ptr 0 none 0,.sref 1 0 4] [rdO bs q,.cells 1 ([2,3,1,2].map enI)] (.int pr.loc) [rdO bs (q+1),.cells 1 ([2,3,1,2].map enI)] ∧
 QQ 60 [.ptr 0 none 0,.sref 1 0 5] [rdO bs (q+1),.cells 1 ([3,4,2,5,1].map enI)] (.int m) [rdO bs (q+1+1),.cells 1 ([3,4,2,5,1].map enI)] ∧
 m≤5∧pr.es.length=m∧pf 0=q+1+1∧pf m=q'∧∀ k (h:k < pr.es.length),QQ 120 [.ptr 0 none 0,.int pr.loc] [rdO bs (pf k)] (.agg pr.es[k].cs) [rdO bs (pf (k+1))]
theorem proc_ex (bs:List Int) (hb:BytesOk bs) (q:Int) (hq:0≤q∧q≤999980000):∃ pr q',isProc bs q pr q'∧q≤q'∧q'≤q+1010:=by
 obtain ⟨v,mv,cv⟩:=z115 bs hb q (by omega) (by omega) [2,3,1,2] (by decide) (by decide)
 obtain ⟨w,mw,cw⟩:=z115 bs hb (q+1) (by omega) (by omega) [3,4,2,5,1] (by decide) (by decide)
 simp only [List.mem_cons,List.not_mem_nil,or_false] at mv mw
 obtain ⟨m,rfl⟩:∃ m:Nat,w=m:=⟨w.toNat,by omega⟩
 obtain ⟨es,pf,h1,h2,h3,h4⟩:=z394 (fun _ r (e:Edge) r'=>e.sm∧QQ 120 [.ptr 0 none 0,.int v] [rdO bs r] (.agg e.cs) [rdO bs r']) (q+1+1) 200 m (fun k r hk a1 a2=>by
  obtain ⟨e,r',⟨b1,b2,b3⟩,c⟩:=z692 bs hb r ⟨by omega,by omega⟩ v (by omega)
  exact ⟨e,r',⟨b1,c⟩,b2,b3⟩)
 have h5:=h4 m (y49 _)
 refine ⟨⟨v,es⟩,pf m,⟨⟨by show 0≤v∧v≤100;omega,by show es.length≤10;omega,fun e he=>?_⟩,m,pf,cv,cw,by omega,h1,h2,rfl,fun k h=>(h3 k h).2⟩,by omega,by omega⟩
 obtain ⟨i,hi,rfl⟩:=List.mem_iff_getElem.1 he
 exact (h3 i hi).1
set_option maxHeartbeats 6400000 in
theorem z887 (bs:List Int) (hb:BytesOk bs) (p:Int) (hp:few2 p):∃ (s:Sys) (p' : Int),(s.sm∧p≤p'∧p'≤p+4000)∧QQ 62 [.ptr 0 none 0] [rdO bs p] (.agg s.cs) [rdO bs p']:=by
 obtain ⟨a,⟨la,ua⟩,ca⟩:=z73 bs hb p 2 (by omega) (by omega) (by omega)
 obtain ⟨b,mb,cb⟩:=z115 bs hb (p+1) (by omega) (by omega) [0,0,1,3] (by decide) (by decide)
 obtain ⟨w,mw,cw⟩:=z115 bs hb (p+1+1) (by omega) (by omega) [2,1,2,3] (by decide) (by decide)
 simp only [List.mem_cons,List.not_mem_nil,or_false] at mw
 obtain ⟨m,rfl⟩:∃ m:Nat,w=m:=⟨w.toNat,by omega⟩
 obtain ⟨ps,pf,h1,h2,h3,h4⟩:=z394 (fun _ q pr q'=>isProc bs q pr q') (p+1+1+1) 1010 m (fun k r hk a1 a2=>proc_ex bs hb r (by omega))
 have h5:=h4 m (y49 _)
 refine ⟨⟨[a,b,0],ps⟩,pf m,⟨⟨by simp,by show ps.length≤10;omega,fun e he=>?_⟩,by omega,by omega⟩,?_⟩
 ·obtain ⟨i,hi,rfl⟩:=List.mem_iff_getElem.1 he
  exact (h3 i hi).1
 rw [← h2] at cw
 refine z12 z24 func62 rfl rfl 48 ntmps62 (by simp) ?_
 repeat' ((first|apply y6 ok;rfl|(first|apply z15 [0] [] ca;rfl;rfl|apply z15 [0,2] [] cb;rfl;rfl|apply z15 [0,5] [] cw;rfl;rfl);rfl;(focus ((repeat' first|exact z23|apply z19)<;>first|exact z58 rfl rfl|refine z30 ?_;((exact z6 fun _=>rfl)))))<;>conv=>whnf)
 refine y82 (y86 2 rfl) ?_
 refine z69 (fun i:Nat=>([(0,.ptr 0 none 0),(2,.ptr 1 none 0),(3,.ptr 2 none 0),(4,.int (m - i))],[rdO bs (pf i),.cells 2 [[.nils,.nils]],.cells 2 [[ints [a,b,0],.sref 3 0 i]],.cells 2 ((ps.take i).map Proc.cs)])) (fun i=>i≤m) (fun i=>m - i) 0 (by omega) (by refine swR [0,1,4,6] [3] rfl rfl ?_;(repeat' first|exact y83 _|exact z56|apply y85|refine z11 rfl z39 ?_|constructor)) ?_
 intro i hi
 by_cases him:i < m
 ·have hil:i < ps.length:=by omega
  obtain ⟨g1,m2,pf2,c1,c2,g2,g3,g4,g5,g6⟩:=h3 i hil
  rw [← g4] at c2
  have hpi:(ps.take (i+1)).map Proc.cs=(ps.take i).map Proc.cs++[Proc.cs ps[i]]:=by rw [y47 hil,y61];rfl
  repeat' ((first|apply y6 ok;rfl|apply z7<;>intro _|(first|apply z15 [0,4] [] c1;rfl;rfl|apply z15 [0,6] [] c2;rfl;rfl);rfl;(focus ((repeat' first|exact z23|apply z19)<;>first|exact z58 rfl rfl|refine z30 ?_;((exact z6 fun _=>rfl)))))<;>conv=>whnf)
  all_goals try (exfalso;omega)
  refine y82 (y86 10 rfl) ?_
  refine z69 (fun k:Nat=>([(0,.ptr 0 none 0),(2,.ptr 1 none 0),(3,.ptr 2 none 0),(4,.int (m - i)),(5,.ptr 4 none 0),(6,.int (m2 - k))],[rdO bs (pf2 k),.cells 2 [[.nils,.nils]],.cells 2 [[ints [a,b,0],.sref 3 0 i]],.cells 2 ((ps.take i).map Proc.cs),.cells 2 [[.int ps[i].loc,.sref 5 0 k]],.cells 10 ((ps[i].es.take k).map Edge.cs)])) (fun k=>k≤m2) (fun k=>m2 - k) 0 (by omega) (by refine swR [0,1,2,3,5,7] [] rfl rfl ?_;(repeat' first|exact y83 _|exact z56|exact z10 _|apply y85|(refine z11 rfl ?_ ?_);(focus ((repeat' (first|exact z39|exact z6 (fun _=>rfl)));done))|constructor)) ?_
  intro k hk
  by_cases hkm:k < m2
  ·have hke:k < ps[i].es.length:=by omega
   have ce:=g6 k hke
   repeat' ((first|apply y6 ok;rfl|apply z27;kernel_rfl|(apply y40;first|omega|unfold inI;omega|(try dsimp only);simp only [y46,y45,y44,y43,y55,y56];omega|exact ⟨rfl,z17 rfl z26⟩)|apply z7<;>intro _|apply z31 [0] [] ce;rfl;rfl;rfl)<;>conv=>whnf)
   all_goals try (exfalso;omega)
   all_goals refine z29 (k+1) (by omega) (by omega) (by refine swR [0,1,2,3,4,7] [] rfl rfl ?_;(repeat' first|exact y83 _|exact z10 _|refine z160 ?_;omega|apply y85|(first|refine z33 rfl ?_ ?_|refine z11 rfl ?_ ?_);(focus ((repeat' (first|exact z6 (fun _=>rfl)|apply z25));done))|refine z130 (by omega) (by omega) ?_|constructor))
  ·have ek:k=m2:=by omega
   subst ek
   rw [y54 (show ps[i].es.length≤k by omega)]
   repeat' ((first|apply y6 ok;rfl|(apply y40;first|unfold inI;omega|(try dsimp only);simp only [y46,y45,y44,y43,y55,y56];omega|exact ⟨rfl,z17 rfl z26⟩)|apply z7<;>intro _)<;>conv=>whnf)
   all_goals try (exfalso;omega)
   all_goals refine z29 (i+1) (by omega) (by omega) (by refine swR [0,1,2,7] [5] rfl rfl ?_;(repeat' first|exact y83 _|refine z367 ?_;omega|refine z160 ?_;omega|apply y85|(refine z33 rfl ?_ ?_);(focus ((repeat' (first|exact z6 (fun _=>rfl)|apply z25));done))|refine z130 (by omega) (by omega) ?_|(apply z93 rfl rfl rfl);(focus ((repeat ((exact z48 (fun _=>rfl) _)));done));(focus (((simp;omega));done))|constructor))
 ·have e:i=m:=by omega
  subst e
  rw [y54 (show ps.length≤i by omega)]
  repeat' ((first|apply y6 ok;rfl|apply z7<;>intro _)<;>conv=>whnf)
  all_goals try (exfalso;omega)
  all_goals (refine rsD [0] [3] rfl ?_;(repeat' first|exact y83 _|refine z367 ?_;omega|apply y85|(apply z55 rfl rfl rfl);(focus ((repeat ((exact z48 (fun _=>rfl) _)));done));(focus (((simp;omega));done))|apply z57|constructor))
theorem z1091 (n:Nat) (e:List AC):z80 (List.replicate n e)=List.replicate n (z299 e):=by
 induction n with
 |zero=>rfl
 |succ n ih=>simp only [List.replicate_succ,z80,ih]
noncomputable def noneB (t:Tree):Bool:=decide (t.kind=0∧t.val=0∧t.kids.length=0)
theorem z1187 (t:Tree):QQ 246 [z61 Tree.cs' t] [] (.bool (noneB t)) []:=by
 refine z16 z24 func246 rfl rfl 17 ntmps246 (by simp) ?_
 repeat' ((first|apply y6 ok;rfl|apply z7<;>intro _)<;>conv=>whnf)
 all_goals refine z34 rfl ?_
 all_goals unfold noneB
 all_goals first|rw [decide_eq_decide];omega|rw [decide_eq_false_iff_not];omega
noncomputable def z605 (e:Edge) (n:Int):Bool:=decide (0≤e.fr∧e.fr < n∧0≤e.to∧e.to < n∧n≤4) && (e.gd.exprB && (decide (-2≤e.sync∧e.sync≤2∧-1≤e.var∧e.var < 3) && (if e.var < 0 then noneB e.val else e.val.exprB)))
set_option maxHeartbeats 1600000 in
theorem z806 (e:Edge) (he:e.s1) (n:Int):QQ 241 [.agg e.cs,.int n] [] (.bool (z605 e n)) []:=by
 have h1:=he.gd
 have h2:=he.val
 have c1:=z196 e.gd (z187 _ (by unfold maxLen;omega))
 have c2:=z196 e.val (z187 _ (by unfold maxLen;omega))
 have c3:=z1187 e.val
 rw [y16] at c1 c2 c3
 unfold z605
 generalize e.gd.exprB=b1 at *
 generalize e.val.exprB=b2 at *
 generalize noneB e.val=b3 at *
 by_cases ha:0≤e.fr∧e.fr < n∧0≤e.to∧e.to < n∧n≤4
 ·rw [y79 ha]
  by_cases hb : -2≤e.sync∧e.sync≤2∧-1≤e.var∧e.var < 3
  ·rw [y79 hb]
   by_cases hv:e.var < 0
   ·rw [if_pos hv]
    refine z16 z24 func241 rfl rfl 71 ntmps241 (by simp) ?_
    cases b1<;>cases b3
    all_goals
     repeat' ((first|apply y6 ok;rfl|apply z7<;>intro _|apply z8 c1;rfl;rfl|apply z8 c3;rfl;rfl)<;>conv=>whnf)
     all_goals first|exfalso;omega|exact z34 rfl rfl
   ·rw [if_neg hv]
    refine z16 z24 func241 rfl rfl 71 ntmps241 (by simp) ?_
    cases b1<;>cases b2
    all_goals
     repeat' ((first|apply y6 ok;rfl|apply z7<;>intro _|apply z8 c1;rfl;rfl|apply z8 c2;rfl;rfl)<;>conv=>whnf)
     all_goals first|exfalso;omega|exact z34 rfl rfl
  ·rw [y80 hb]
   refine z16 z24 func241 rfl rfl 71 ntmps241 (by simp) ?_
   cases b1
   all_goals
    repeat' ((first|apply y6 ok;rfl|apply z7<;>intro _|apply z8 c1;rfl;rfl)<;>conv=>whnf)
    all_goals first|exfalso;omega|exact z34 rfl rfl
 ·rw [y80 ha]
  refine z16 z24 func241 rfl rfl 71 ntmps241 (by simp) ?_
  repeat' ((first|apply y6 ok;rfl|(first|apply z7|apply z82)<;>intro _|apply z8 c1;rfl;rfl)<;>conv=>whnf)
  all_goals first|exfalso;omega|exact z34 rfl rfl
noncomputable def z594 (p:Proc):Bool:=p.es.all (fun e=>z605 e p.loc) && decide (1≤p.loc∧p.loc≤4∧p.es.length≤6)
theorem z788 (p:Proc) (hp:p.s1):QQ 215 [.agg p.cs] [] (.bool (z594 p)) []:=by
 have hl:=hp.len
 unfold z594
 refine z16 z24 func215 rfl rfl 34 ntmps215 (by simp) ?_
 repeat' (((apply y6 ok;rfl))<;>conv=>whnf)
 refine z111 (fun k:Nat=>([(1,.ptr 0 none 0),(3,.int k)],[.cells 2 [p.cs]])) (fun k=>k≤p.es.length∧p.es.all (fun e=>z605 e p.loc)=(p.es.drop k).all (fun e=>z605 e p.loc)) (fun k=>p.es.length - k) 0 ⟨by omega,rfl⟩ ⟨[0],rfl,by decide,rfl,by repeat' (first|exact True.intro|exact ⟨rfl,rfl⟩|apply y40),by repeat' (first|exact True.intro|exact z43 rfl rfl|apply y40)⟩ ?_
 intro k hk
 by_cases hkl:k < p.es.length
 ·have ce:=z806 p.es[k] (hp.el _ (y41 _)) p.loc
  have e:=z207 (fun e=>z605 e p.loc) p.es k hkl
  rw [e] at hk
  have g0:(p.es.map Edge.cs)[k]?=some (Edge.cs p.es[k]):=by rw [y48,y42 hkl];rfl
  generalize z605 p.es[k] p.loc=b at *
  cases b
  all_goals
   repeat' ((first|apply y6 ok;rfl|apply z27;kernel_rfl|refine z14 (i:=k) rfl g0 ?_|(apply y40;first|omega|unfold inI;omega)|apply z7<;>intro _|apply z8 ce;rfl;rfl)<;>conv=>whnf)
   all_goals try (exfalso;omega)
  ·exact z34 rfl (by rw [hk.2];rfl)
  ·exact z92 (k+1) [0] ⟨by omega,by rw [hk.2,Bool.true_and]⟩ (by omega) ⟨rfl,by decide,rfl,by repeat' (first|exact True.intro|exact ⟨rfl,rfl⟩|apply y40),by repeat' (first|exact True.intro|exact z43 rfl rfl|apply y40)⟩
 ·have e:=z195 (fun e=>z605 e p.loc) p.es k (by omega)
  rw [e] at hk
  repeat' ((first|apply y6 ok;rfl|apply y40;omega|((with_reducible apply z13;omega));intro _|apply z7<;>intro _)<;>conv=>whnf)
  all_goals first|exfalso;omega|(refine z34 rfl ?_;rw [hk.2];simp only [Bool.true_and,Bool.false_and];first|rw [decide_eq_decide];omega|rw [decide_eq_false_iff_not];omega)
noncomputable def sysB (s:Sys):Bool:=s.ps.all z594 && (z438 s.init && decide (1≤s.ps.length∧s.ps.length≤3))
theorem z585 (s:Sys) (hs:s.s1):QQ 170 [.agg s.cs] [] (.bool (sysB s)) []:=by
 have hl:=hs.len
 have hi:=hs.init
 have cv:=z1188 s.init (by unfold maxLen;omega)
 unfold sysB
 generalize z438 s.init=vb at *
 refine z16 z24 func170 rfl rfl 33 ntmps170 (by simp) ?_
 repeat' (((apply y6 ok;rfl))<;>conv=>whnf)
 refine z111 (fun k:Nat=>([(1,.ptr 0 none 0),(3,.int k)],[.cells 2 [s.cs]])) (fun k=>k≤s.ps.length∧s.ps.all z594=(s.ps.drop k).all z594) (fun k=>s.ps.length - k) 0 ⟨by omega,rfl⟩ ⟨[0],rfl,by decide,rfl,by repeat' (first|exact True.intro|exact ⟨rfl,rfl⟩|apply y40),by repeat' (first|exact True.intro|exact z43 rfl rfl|apply y40)⟩ ?_
 intro k hk
 by_cases hkl:k < s.ps.length
 ·have ce:=z788 s.ps[k] (hs.el _ (y41 _))
  have e:=z207 z594 s.ps k hkl
  rw [e] at hk
  have g0:(s.ps.map Proc.cs)[k]?=some (Proc.cs s.ps[k]):=by rw [y48,y42 hkl];rfl
  generalize z594 s.ps[k]=b at *
  cases b
  all_goals
   repeat' ((first|apply y6 ok;rfl|refine z14 (i:=k) rfl g0 ?_|(apply y40;first|omega|unfold inI;omega)|apply z7<;>intro _|apply z8 ce;rfl;rfl)<;>conv=>whnf)
   all_goals try (exfalso;omega)
  ·exact z34 rfl (by rw [hk.2];rfl)
  ·exact z92 (k+1) [0] ⟨by omega,by rw [hk.2,Bool.true_and]⟩ (by omega) ⟨rfl,by decide,rfl,by repeat' (first|exact True.intro|exact ⟨rfl,rfl⟩|apply y40),by repeat' (first|exact True.intro|exact z43 rfl rfl|apply y40)⟩
 ·have e:=z195 z594 s.ps k (by omega)
  rw [e] at hk
  cases vb
  all_goals
   repeat' ((first|apply y6 ok;rfl|apply y40;omega|((with_reducible apply z13;omega));intro _|apply z7<;>intro _|apply z8 cv;rfl;rfl)<;>conv=>whnf)
   all_goals first|exfalso;omega|(refine z34 rfl ?_;rw [hk.2];simp only [Bool.true_and,Bool.false_and];first|done|rw [decide_eq_decide];omega|rw [decide_eq_false_iff_not];omega)
theorem z794 (s:Sys) (hs:s.s1):QQ 115 [.agg s.cs] [] (.tup [.agg (if sysB s then (⟨List.replicate s.ps.length 0,s.init⟩:State) else ⟨[],[]⟩).cs,.bool (sysB s)]) []:=by
 have hl:=hs.len
 have hi:=hs.init
 have c:=z585 s hs
 generalize sysB s=b at *
 refine z12 z24 func115 rfl rfl 17 ntmps115 (by simp) ?_
 cases b
 all_goals
  repeat' ((first|apply y6 ok;rfl|apply z27;kernel_rfl|(apply y40;first|dsimp only;omega|exact z49 (fun _=>rfl))|apply z8 c;rfl;rfl)<;>conv=>whnf)
 ·(refine rsD [] [] rfl ?_;(repeat' first|exact y83 _|exact z63|apply z57|apply z156|constructor))
 ·(refine rsD [] [2,4] rfl ?_;(repeat' first|exact y83 _|refine z367 ?_;omega|(apply z55 rfl rfl rfl);(focus ((repeat (first|exact z48 (fun _=>rfl) _|rfl));done));(focus (((simp;done));done))|apply z57|apply z156|refine z97 ?_ ?_;(focus (simp;done))|constructor))
  exact z21 (by rw [z1091,if_pos rfl];simp only [List.map_replicate,y74];rfl)
def Sys.pr (s:Sys) (i:Nat):Proc:=s.ps.getD i ⟨0,[]⟩
def Proc.eg (p:Proc) (k:Nat):Edge:=p.es.getD k ⟨0,0,leaf 0 0,0,leaf 0 0,0⟩
theorem y15 {s:Sys} {i:Nat} (h:i < s.ps.length):(s.ps.map Proc.cs)[i]?=some (s.pr i).cs:=by
 unfold Sys.pr;rw [z20 h,y48,y42 h];rfl
theorem y13 {p:Proc} {k:Nat} (h:k < p.es.length):(p.es.map Edge.cs)[k]?=some (p.eg k).cs:=by
 unfold Proc.eg;rw [z20 h,y48,y42 h];rfl
structure Edge.ok (e:Edge) (n:Int):Prop where
 to:0≤e.to∧e.to < n
 gd:e.gd.good
 var : -1≤e.var∧e.var≤2
 val:0≤e.var→e.val.good
 sync : -2≤e.sync∧e.sync≤2
structure Sys.ok (s:Sys):Prop where
 n1:1≤s.ps.length
 n3:s.ps.length≤3
 ne:∀ i,i < s.ps.length→(s.pr i).es.length≤6
 loc:∀ i,i < s.ps.length→(s.pr i).loc≤4
 eg:∀ i k,i < s.ps.length→k < (s.pr i).es.length→((s.pr i).eg k).ok (s.pr i).loc
 init:ValsOk s.init
theorem Sys.ok_of {s:Sys} (h:sysB s=true):s.ok:=by
 unfold sysB at h
 rw [y68,y68,decide_eq_true_iff,y76] at h
 obtain ⟨h1,h2,h3⟩:=h
 have hp:∀ i,i < s.ps.length→z594 (s.pr i)=true:=fun i hi=>by unfold Sys.pr;rw [z20 hi];exact h1 _ (y41 _)
 have hq:∀ i,i < s.ps.length→(∀ e∈(s.pr i).es,z605 e (s.pr i).loc=true)∧1≤(s.pr i).loc∧(s.pr i).loc≤4∧(s.pr i).es.length≤6:=fun i hi=>by
  have:=hp i hi
  unfold z594 at this
  rw [y68,decide_eq_true_iff,y76] at this
  exact this
 refine ⟨h3.1,h3.2,fun i hi=>(hq i hi).2.2.2,fun i hi=>(hq i hi).2.2.1,fun i k hi hk=>?_,z728 h2⟩
 have he:=(hq i hi).1 ((s.pr i).eg k) (by unfold Proc.eg;rw [z20 hk];exact y41 _)
 unfold z605 at he
 simp only [y68,decide_eq_true_iff] at he
 obtain ⟨a1,a2,a3,a4⟩:=he
 refine ⟨⟨a1.2.2.1,a1.2.2.2.1⟩,y26 a2,⟨a3.2.2.1,by omega⟩,fun hv=>?_,⟨a3.1,a3.2.1⟩⟩
 rw [if_neg (by omega)] at a4
 exact y26 a4
noncomputable def rdyE (e:Edge) (st:State) (i:Nat):Bool:=decide (e.fr=st.a.getD i 0) && decide (e.gd.ev st.b≠0)
structure State.ok (st:State) (s:Sys):Prop where
 a:st.a.length=s.ps.length
 b:ValsOk st.b
theorem z624 (s:Sys) (hs:s.ok) (st:State) (h:st.ok s) (i k:Nat) (hi:i < s.ps.length) (hk:k < (s.pr i).es.length):QQ 171 [.agg s.cs,.agg st.cs,.int i,.int k] [] (.bool (rdyE ((s.pr i).eg k) st i)) []:=by
 have gp:=y15 hi
 have ge:=y13 hk
 have hE:=hs.eg i k hi hk
 have h3:=hs.n3
 have ha:=h.a
 have h6:=hs.ne i hi
 generalize (s.pr i).eg k=e at *
 have hb:=h.b.1
 have ga:(st.a.map enI)[i]?=some (enI (st.a.getD i 0)):=by rw [y48,z20 (show i < st.a.length by omega),y42 (by omega)];rfl
 have ce:=z789 st.b h.b e.gd hE.gd
 rw [y16] at ce
 unfold rdyE
 generalize st.a.getD i 0=x at *
 generalize s.pr i=p at *
 refine z16 z24 func171 rfl rfl 35 ntmps171 (by simp) ?_
 repeat' ((first|apply y6 ok;rfl|apply z27;kernel_rfl|refine z14 (i:=i) rfl gp ?_|refine z14 (i:=k) rfl ge ?_|refine z14 (i:=i) rfl ga ?_|apply y40;omega|apply z7<;>intro _|apply z8 ce;rfl;rfl)<;>conv=>whnf)
 all_goals exact z34 rfl (by simp [*])
structure Stp where
 p:Int
 e:Int
 q:Int
 f:Int
def Stp.cs (x:Stp):List AC:=[.int x.p,.int x.e,.int x.q,.int x.f]
structure Stp.ok (x:Stp) (s:Sys):Prop where
 p:0≤x.p∧x.p < s.ps.length
 e:0≤x.e∧x.e < (s.pr x.p.toNat).es.length
 q : -1≤x.q∧x.q < s.ps.length
 f:0≤x.q→0≤x.f∧x.f < (s.pr x.q.toNat).es.length
open Classical in
noncomputable def z676 (s:Sys) (st:State) (i k:Nat) (j m:Nat):List Stp:=if j≠i∧((s.pr j).eg m).sync=-((s.pr i).eg k).sync∧rdyE ((s.pr j).eg m) st j=true then [⟨i,k,j,m⟩] else []
noncomputable def z677 (s:Sys) (st:State) (i k:Nat):List Stp:=cat s.ps.length fun j=>cat (s.pr j).es.length (z676 s st i k j)
theorem partL_ok {s:Sys} {st:State} {i k:Nat} (hi:i < s.ps.length) (hk:k < (s.pr i).es.length):∀ x∈z677 s st i k,x.ok s:=fun x hx=>by
 obtain ⟨j,hj,hx⟩:=z687 hx
 obtain ⟨m,hm,hx⟩:=z687 hx
 unfold z676 at hx
 split at hx
 ·rw [List.mem_singleton.1 hx]
  exact ⟨⟨by show 0≤(i:Int);omega,by show (i:Int) < _;omega⟩,⟨by show 0≤(k:Int);omega,by show (k:Int) < _;simpa using hk⟩,⟨by show -1≤(j:Int);omega,by show (j:Int) < _;omega⟩,fun _=>⟨by show 0≤(m:Int);omega,by show (m:Int) < _;simpa using hm⟩⟩
 ·cases hx
theorem z763 {s:Sys} (hs:s.ok) {st:State} {i k:Nat} : (z677 s st i k).length≤18:=by
 have h3:=hs.n3
 have:=z711 (n:=s.ps.length) (c:=6) (f:=fun j=>cat (s.pr j).es.length (z676 s st i k j)) (fun j hj=>by
  have h6:=hs.ne j hj
  have:=z711 (n:=(s.pr j).es.length) (c:=1) (f:=z676 s st i k j) (fun m _=>by unfold z676;split<;>simp)
  omega)
 unfold z677
 omega
set_option maxHeartbeats 1600000 in
theorem z691 (s:Sys) (hs:s.ok) (st:State) (h:st.ok s) (i k:Nat) (hi:i < s.ps.length) (hk:k < (s.pr i).es.length):QQ 172 [.agg s.cs,.agg st.cs,.int i,.int k] [] (lst 4 Stp.cs (z677 s st i k)) []:=by
  have gp:=y15 hi
  have ge:=y13 hk
  have h3:=hs.n3
  have h6:=hs.ne i hi
  have hE:=hs.eg i k hi hk
  have hsy:=hE.sync
  have hfin:z677 s st i k=cat s.ps.length (fun j=>cat (s.pr j).es.length (z676 s st i k j)):=rfl
  have hR1:∀ j m,(j≠i∧((s.pr j).eg m).sync=-((s.pr i).eg k).sync∧rdyE ((s.pr j).eg m) st j=true)→z676 s st i k j m=[⟨i,k,j,m⟩]:=fun _ _ h=>if_pos h
  have hR0:∀ j m,¬(j≠i∧((s.pr j).eg m).sync=-((s.pr i).eg k).sync∧rdyE ((s.pr j).eg m) st j=true)→z676 s st i k j m=[]:=fun _ _ h=>if_neg h
  generalize z677 s st i k=FIN at *
  generalize z676 s st i k=R at *
  generalize (s.pr i).eg k=e at *
  generalize hp:s.pr i=p at *
  refine z12 z24 func172 rfl rfl 76 ntmps172 (by simp) ?_
  repeat' ((first|apply y6 ok;rfl|refine z14 (i:=i) rfl gp ?_|refine z14 (i:=k) rfl ge ?_|apply y40;omega)<;>conv=>whnf)
  refine z69 (fun x:Nat×List Stp=>([(2,.int i),(3,.int k),(4,.ptr 0 none 0),(5,.ptr 1 none 0),(9,.sref 2 0 x.2.length),(10,.int e.sync),(11,.int x.1)],[.cells 2 [s.cs],.cells 2 [st.cs],.cells 4 (x.2.map Stp.cs)])) (fun x=>x.1≤s.ps.length∧x.2.length≤6 * x.1∧x.2=cat x.1 fun j=>cat (s.pr j).es.length (R j)) (fun x=>s.ps.length - x.1) (0,[]) ⟨by omega,by simp,rfl⟩ (by refine swR [0,1,2] [] rfl rfl ?_;(repeat' first|exact y83 _|apply y85|refine z11 rfl z39 ?_|constructor)) ?_
  rintro ⟨j,L⟩ ⟨hj,hLl,hL⟩
  simp only at hj hL hLl
  by_cases hjl:j < s.ps.length
  · have gj:=y15 hjl
    have hj6:=hs.ne j hjl
    repeat' ((first|apply y6 ok;rfl|apply z7<;>intro _)<;>conv=>whnf)
    all_goals try (exfalso;omega)
    refine z69 (fun x:Nat×List Stp=>([(2,.int i),(3,.int k),(4,.ptr 0 none 0),(5,.ptr 1 none 0),(9,.sref 2 0 x.2.length),(10,.int e.sync),(11,.int j),(12,.int x.1)],[.cells 2 [s.cs],.cells 2 [st.cs],.cells 4 (x.2.map Stp.cs)])) (fun x=>x.1≤(s.pr j).es.length∧x.2.length≤6 * j+x.1∧x.2=L++cat x.1 (R j)) (fun x=>(s.pr j).es.length - x.1) (0,L) ⟨by omega,by simpa using hLl,by rw [z978,y62]⟩ (by refine swR [0,1,2] [] rfl rfl ?_;(repeat' first|exact y83 _|exact z10 _|apply y85|refine z11 rfl (z6 (fun _=>rfl)) ?_|constructor)) ?_
    rintro ⟨m,M⟩ ⟨hm,hMl,hM⟩
    simp only at hm hM hMl
    by_cases hml:m < (s.pr j).es.length
    · have gm:=y13 hml
      have hl:=z624 s hs st h j m hjl hml
      have hR1m:=hR1 j m
      have hR0m:=hR0 j m
      have hcs:=z429 m (R j)
      have hE2:=(hs.eg j m hjl hml).sync
      generalize (s.pr j).eg m=e2 at *
      generalize rdyE e2 st j=rd at *
      generalize hpj:s.pr j=pj at *
      cases rd
      all_goals
        repeat' ((first|apply y6 ok;rfl|refine z14 (i:=j) rfl gj ?_|refine z14 (i:=m) rfl gm ?_|(apply y40;first|omega|unfold inI;omega|(try dsimp only);simp only [y46,y45,y44,y43,y55,y56];omega|exact ⟨rfl,z17 rfl z26⟩)|(first|apply z7|apply z35)<;>intro _|apply z8 hl;rfl;rfl)<;>conv=>whnf)
        all_goals try (exfalso;omega)
      all_goals first
        | (have hz := hR1m ⟨by omega, by omega, rfl⟩
           refine z29 (m+1,M++[⟨i,k,j,m⟩]) ⟨by omega,by simp;omega,by rw [hM,hcs,hz,List.append_assoc]⟩ (by show pj.es.length - (m+1) < pj.es.length - m;omega) (by refine swR [0,1,4] [] rfl rfl ?_;(repeat' first|exact y83 _|refine z44 ?_;((simp;done))|apply y85|(refine z33 rfl ?_ ?_);(focus ((repeat' (first|exact z6 (fun _=>rfl)|apply z25));done))|refine z77 ?_ ?_;(focus omega)|constructor)))
        | (have hz := hR0m (by rintro ⟨z1, z2, z3⟩; first | exact absurd z3 (by decide) | omega)
           refine z29 (m+1,M) ⟨by omega,by simp;omega,by rw [hM,hcs,hz,y62]⟩ (by show pj.es.length - (m+1) < pj.es.length - m;omega) (by refine swR [0,1,2] [] rfl rfl ?_;(repeat' first|exact y83 _|exact z10 _|apply y85|refine z11 rfl (z6 (fun _=>rfl)) ?_|constructor)))
    · repeat' ((first|apply y6 ok;rfl|refine z14 (i:=j) rfl gj ?_|(apply y40;first|omega|unfold inI;omega)|((with_reducible apply z13;omega));intro _|(first|apply z7|apply z35)<;>intro _)<;>conv=>whnf)
      all_goals try (exfalso;omega)
      have e:m=(s.pr j).es.length:=by omega
      all_goals refine z29 (j+1,M) ⟨by omega,by simp;omega,by rw [hM,hL,e];exact (z429 j fun j=>cat (s.pr j).es.length (R j)).symm⟩ (by show s.ps.length - (j+1) < s.ps.length - j;omega) (by refine swR [0,1,2] [] rfl rfl ?_;(repeat' first|exact y83 _|exact z10 _|apply y85|refine z11 rfl (z6 (fun _=>rfl)) ?_|constructor))
  · have e:j=s.ps.length:=by omega
    have eL:L=FIN:=by rw [hfin,hL,e]
    subst eL
    repeat' ((first|apply y6 ok;rfl|apply z7<;>intro _)<;>conv=>whnf)
    all_goals try (exfalso;omega)
    all_goals (refine rsD [] [2] rfl ?_;(repeat' first|exact y83 _|(apply z55 rfl rfl rfl);(focus ((repeat ((exact z48 (fun _=>rfl) _)));done));(focus (((simp;done));done))|constructor))
end Go.Proofs.YteinbnahinpegaaGreat
namespace Go.Proofs.YteinbnahinpegaaGreat
open Go.Gl Proofs.Tryz
attribute [local irreducible] z18 AWP z38 z41 z40 RetS z42
noncomputable def z479 (s:Sys) (st:State) (j m:Nat):List Stp:=if ((s.pr j).eg m).sync < 0∨rdyE ((s.pr j).eg m) st j=false then [] else if ((s.pr j).eg m).sync=0 then [⟨j,m,-1,-1⟩] else z677 s st j m
noncomputable def z586 (s:Sys) (st:State):List Stp:=cat s.ps.length fun j=>cat (s.pr j).es.length (z479 s st j)
theorem z934 {s:Sys} {st:State} : ∀ x∈z586 s st,x.ok s:=fun x hx=>by
 obtain ⟨j,hj,hx⟩:=z687 hx
 obtain ⟨m,hm,hx⟩:=z687 hx
 unfold z479 at hx
 split at hx
 ·cases hx
 split at hx
 ·rw [List.mem_singleton.1 hx]
  exact ⟨⟨by show 0≤(j:Int);omega,by show (j:Int) < _;omega⟩,⟨by show 0≤(m:Int);omega,by show (m:Int) < _;simpa using hm⟩,⟨by show -1≤(-1:Int);omega,by show (-1:Int) < _;omega⟩,fun h=>absurd (show (0:Int)≤-1 from h) (by decide)⟩
 ·exact partL_ok hj hm x hx
set_option maxHeartbeats 1600000 in
theorem z1034 (s:Sys) (hs:s.ok) (st:State) (h:st.ok s):QQ 116 [.agg s.cs,.agg st.cs] [] (lst 4 Stp.cs (z586 s st)) []:=by
  have h3:=hs.n3
  have hfin:z586 s st=cat s.ps.length (fun j=>cat (s.pr j).es.length (z479 s st j)):=rfl
  have hR0:∀ j m,(((s.pr j).eg m).sync < 0∨rdyE ((s.pr j).eg m) st j=false)→z479 s st j m=[]:=fun _ _ h=>if_pos h
  have hR1:∀ j m,¬(((s.pr j).eg m).sync < 0∨rdyE ((s.pr j).eg m) st j=false)→((s.pr j).eg m).sync=0→z479 s st j m=[⟨j,m,-1,-1⟩]:=fun _ _ h k=>by unfold z479;rw [if_neg h,if_pos k]
  have hR2:∀ j m,¬(((s.pr j).eg m).sync < 0∨rdyE ((s.pr j).eg m) st j=false)→((s.pr j).eg m).sync≠0→z479 s st j m=z677 s st j m:=fun _ _ h k=>by unfold z479;rw [if_neg h,if_neg k]
  generalize z586 s st=FIN at *
  generalize z479 s st=R at *
  refine z12 z24 func116 rfl rfl 64 ntmps116 (by simp) ?_
  repeat' (((apply y6 ok;rfl))<;>conv=>whnf)
  refine z69 (fun x:Nat×List Stp=>([(2,.ptr 0 none 0),(3,.ptr 1 none 0),(5,.sref 2 0 x.2.length),(6,.int x.1)],[.cells 2 [s.cs],.cells 2 [st.cs],.cells 4 (x.2.map Stp.cs)])) (fun x=>x.1≤s.ps.length∧x.2.length≤108 * x.1∧x.2=cat x.1 fun j=>cat (s.pr j).es.length (R j)) (fun x=>s.ps.length - x.1) (0,[]) ⟨by omega,by simp,rfl⟩ (by refine swR [0,1,2] [] rfl rfl ?_;(repeat' first|exact y83 _|apply y85|refine z11 rfl z39 ?_|constructor)) ?_
  rintro ⟨j,L⟩ ⟨hj,hLl,hL⟩
  simp only at hj hL hLl
  by_cases hjl:j < s.ps.length
  · have gj:=y15 hjl
    have hj6:=hs.ne j hjl
    repeat' ((first|apply y6 ok;rfl|apply z7<;>intro _)<;>conv=>whnf)
    all_goals try (exfalso;omega)
    refine z69 (fun x:Nat×List Stp=>([(2,.ptr 0 none 0),(3,.ptr 1 none 0),(5,.sref 2 0 x.2.length),(6,.int j),(7,.int x.1)],[.cells 2 [s.cs],.cells 2 [st.cs],.cells 4 (x.2.map Stp.cs)])) (fun x=>x.1≤(s.pr j).es.length∧x.2.length≤108 * j+18 * x.1∧x.2=L++cat x.1 (R j)) (fun x=>(s.pr j).es.length - x.1) (0,L) ⟨by omega,by simpa using hLl,by rw [z978,y62]⟩ (by refine swR [0,1,2] [] rfl rfl ?_;(repeat' first|exact y83 _|exact z10 _|apply y85|refine z11 rfl (z6 (fun _=>rfl)) ?_|constructor)) ?_
    rintro ⟨m,M⟩ ⟨hm,hMl,hM⟩
    simp only at hm hM hMl
    by_cases hml:m < (s.pr j).es.length
    · have gm:=y13 hml
      have hl:=z624 s hs st h j m hjl hml
      have hP:=z691 s hs st h j m hjl hml
      have hPl:=z763 hs (st:=st) (i:=j) (k:=m)
      have hR0m:=hR0 j m
      have hR1m:=hR1 j m
      have hR2m:=hR2 j m
      have hcs:=z429 m (R j)
      have hE2:=(hs.eg j m hjl hml).sync
      generalize (s.pr j).eg m=e2 at *
      generalize rdyE e2 st j=rd at *
      generalize z677 s st j m=PL at *
      generalize hpj:s.pr j=pj at *
      cases rd
      all_goals
        repeat' ((first|apply y6 ok;rfl|refine z14 (i:=j) rfl gj ?_|refine z14 (i:=m) rfl gm ?_|(apply y40;first|omega|unfold inI;omega|(try dsimp only);simp only [y46,y45,y44,y43,y55,y56];omega|exact z49 (fun _=>rfl)|exact ⟨rfl,z17 rfl z26⟩)|apply z7<;>intro _|apply z8 hl;rfl;rfl|apply z8 hP;rfl;rfl)<;>conv=>whnf)
        all_goals try (exfalso;omega)
      all_goals first
        | (have hz := hR2m (by rintro (z1 | z1) <;> first | omega | exact absurd z1 (by decide)) (by omega)
           refine z29 (m+1,M++PL) ⟨by omega,by simp;omega,by rw [hM,hcs,hz,List.append_assoc]⟩ (by show pj.es.length - (m+1) < pj.es.length - m;omega) (by refine swR [0,1,3] [] rfl rfl ?_;(repeat' first|exact y83 _|refine z44 ?_;((simp;done))|apply y85|(refine z11 rfl ?_ ?_);(focus ((repeat' (first|exact z6 (fun _=>rfl)|apply z90|apply z25));done))|refine z1265 ?_;(omega)|constructor)))
        | (have hz := hR1m (by rintro (z1 | z1) <;> first | omega | exact absurd z1 (by decide)) (by omega)
           refine z29 (m+1,M++[⟨j,m,-1,-1⟩]) ⟨by omega,by simp;omega,by rw [hM,hcs,hz,List.append_assoc]⟩ (by show pj.es.length - (m+1) < pj.es.length - m;omega) (by refine swR [0,1,4] [] rfl rfl ?_;(repeat' first|exact y83 _|refine z44 ?_;((simp;done))|apply y85|(refine z33 rfl ?_ ?_);(focus ((repeat' (first|exact z6 (fun _=>rfl)|apply z25));done))|refine z77 ?_ ?_;(focus omega)|constructor)))
        | (have hz := hR0m (by first | exact .inr rfl | exact .inl (by omega))
           refine z29 (m+1,M) ⟨by omega,by simp;omega,by rw [hM,hcs,hz,y62]⟩ (by show pj.es.length - (m+1) < pj.es.length - m;omega) (by refine swR [0,1,2] [] rfl rfl ?_;(repeat' first|exact y83 _|exact z10 _|apply y85|refine z11 rfl (z6 (fun _=>rfl)) ?_|constructor)))
    · repeat' ((first|apply y6 ok;rfl|refine z14 (i:=j) rfl gj ?_|(apply y40;first|omega|unfold inI;omega)|((with_reducible apply z13;omega));intro _|apply z7<;>intro _)<;>conv=>whnf)
      all_goals try (exfalso;omega)
      have e:m=(s.pr j).es.length:=by omega
      all_goals refine z29 (j+1,M) ⟨by omega,by simp;omega,by rw [hM,hL,e];exact (z429 j fun j=>cat (s.pr j).es.length (R j)).symm⟩ (by show s.ps.length - (j+1) < s.ps.length - j;omega) (by refine swR [0,1,2] [] rfl rfl ?_;(repeat' first|exact y83 _|exact z10 _|apply y85|refine z11 rfl (z6 (fun _=>rfl)) ?_|constructor))
  · have e:j=s.ps.length:=by omega
    have eL:L=FIN:=by rw [hfin,hL,e]
    subst eL
    repeat' ((first|apply y6 ok;rfl|apply z7<;>intro _)<;>conv=>whnf)
    all_goals try (exfalso;omega)
    all_goals (refine rsD [] [2] rfl ?_;(repeat' first|exact y83 _|(apply z55 rfl rfl rfl);(focus ((repeat ((exact z48 (fun _=>rfl) _)));done));(focus (((simp;done));done))|constructor))
noncomputable def z201 (st:State) (i:Nat) (e:Edge):State:=⟨st.a.set i e.to,if 0≤e.var then st.b.set e.var.toNat (e.val.ev st.b) else st.b⟩
theorem z656 {s:Sys} {st:State} (h:st.ok s) {i:Nat} {e:Edge} {n:Int} (he:e.ok n):(z201 st i e).ok s:=by
 refine ⟨by simp [z201,h.a],?_⟩
 unfold z201
 dsimp only
 split
 ·refine ⟨by simp [h.b.1],fun x hx=>?_⟩
  rcases List.mem_or_eq_of_mem_set hx with hx|rfl
  ·exact h.b.2 x hx
  ·exact y19 h.b _ (he.val (by assumption))
 ·exact h.b
theorem z787 (st:State) (e:Edge) (n:Int) (he:e.ok n) (i:Nat) (hi:i < st.a.length) (hl:st.a.length≤10) (hv:ValsOk st.b):QQ 173 [.agg [.sref 0 0 st.a.length,.sref 1 0 st.b.length],.int i,.agg e.cs] [.cells 1 (st.a.map enI),.cells 1 (st.b.map enI)] (.agg [.sref 0 0 st.a.length,.sref 1 0 st.b.length]) [.cells 1 ((z201 st i e).a.map enI),.cells 1 ((z201 st i e).b.map enI)]:=by
 have hb:=hv.1
 have hvar:=he.var
 by_cases h0:0≤e.var
 ·have c:=z789 st.b hv e.val (he.val h0)
  rw [y16] at c
  have hr:=y19 hv e.val (he.val h0)
  have e1:z201 st i e=⟨st.a.set i e.to,st.b.set e.var.toNat (e.val.ev st.b)⟩:=by unfold z201;rw [if_pos h0]
  rw [e1]
  generalize e.val.ev st.b=x at *
  refine z12 z24 func173 rfl rfl 27 ntmps173 (by simp) ?_
  repeat' ((first|apply y6 ok;rfl|apply z27;kernel_rfl|apply y40;omega|((apply z13;omega));intro _|apply z7<;>intro _|apply z120 [] [1] [] c;(focus ((repeat' first|exact z87|apply z60)<;>first|exact z147 rfl rfl rfl|rfl));rfl;rfl;(focus ((repeat' exact z23)<;>fail));((refine .inr ⟨rfl,?_⟩;repeat' first|exact True.intro|apply y40)))<;>conv=>whnf)
  all_goals first|exfalso;omega|exact h0|show e.var.toNat < st.b.length;omega|skip
  all_goals (refine rsD [0,1] [] rfl ?_;(repeat' first|exact y83 _|refine z50 rfl (z6 (fun _=>rfl)) ?_|refine z468 (by omega) ?_|constructor))
 ·have e1:z201 st i e=⟨st.a.set i e.to,st.b⟩:=by unfold z201;rw [if_neg h0]
  rw [e1]
  refine z12 z24 func173 rfl rfl 27 ntmps173 (by simp) ?_
  repeat' ((first|apply y6 ok;rfl|apply y40;omega|((apply z13;omega));intro _|apply z7<;>intro _)<;>conv=>whnf)
  all_goals try (exfalso;omega)
  all_goals (refine rsD [0,1] [] rfl ?_;(repeat' first|exact y83 _|exact z10 _|refine z50 rfl (z6 (fun _=>rfl)) ?_|refine z11 rfl (z6 (fun _=>rfl)) ?_|refine z468 (by omega) ?_|constructor))
noncomputable def z273 (s:Sys) (st:State) (x:Stp):State:=if 0≤x.q then z201 (z201 st x.p.toNat ((s.pr x.p.toNat).eg x.e.toNat)) x.q.toNat ((s.pr x.q.toNat).eg x.f.toNat) else z201 st x.p.toNat ((s.pr x.p.toNat).eg x.e.toNat)
theorem z950 {a:Int} {n:Nat} (h:0≤a) (h2:a < n):∃ m:Nat,a=m∧m < n:=⟨a.toNat,by omega,by omega⟩
theorem z818 {s:Sys} (hs:s.ok) {st:State} (h:st.ok s) {x:Stp} (hx:x.ok s):(z273 s st x).ok s:=by
 have hp:=hx.p
 have he:=hx.e
 have hq:=hx.q
 unfold z273
 have h1:=z656 (i:=x.p.toNat) h (hs.eg x.p.toNat x.e.toNat (by omega) (by omega))
 split
 ·rename_i hq0
  have hf:=hx.f hq0
  exact z656 h1 (hs.eg x.q.toNat x.f.toNat (by omega) (by omega))
 ·exact h1
theorem z731 (st:State) (i:Nat) (e:Edge):(z201 st i e).a.length=st.a.length∧(z201 st i e).b.length=st.b.length:=by
 unfold z201
 constructor
 ·simp
 ·dsimp only;split<;>simp
set_option maxHeartbeats 3200000 in
theorem z1035 (s:Sys) (hs:s.ok) (st:State) (h:st.ok s) (x:Stp) (hx:x.ok s):QQ 117 [.agg s.cs,.agg st.cs,.agg x.cs] [] (.agg (z273 s st x).cs) []:=by
 have hn3:=hs.n3
 have ha:=h.a
 have hb:=h.b.1
 obtain ⟨p,e,q,f⟩:=x
 obtain ⟨hp,he,hq,hf⟩:=hx
 simp only at hp he hq hf
 obtain ⟨pi,rfl,hpi⟩:=z950 hp.1 hp.2
 simp only [y74] at he
 obtain ⟨ei,rfl,hei⟩:=z950 he.1 he.2
 have gp:=y15 hpi
 have ge:=y13 hei
 have hE:=hs.eg pi ei hpi hei
 have hP6:=hs.ne pi hpi
 have c1:=z787 st ((s.pr pi).eg ei) _ hE pi (by omega) (by omega) h.b
 have h1:=z656 (i:=pi) h hE
 have hl1:=z731 st pi ((s.pr pi).eg ei)
 rw [show st.a.length=0+st.a.length by omega,show st.b.length=0+st.b.length by omega] at c1
 by_cases hq0:0≤q
 ·have hf:=hf hq0
  obtain ⟨qi,rfl,hqi⟩:=z950 hq0 hq.2
  simp only [y74] at hf
  obtain ⟨fi,rfl,hfi⟩:=z950 hf.1 hf.2
  have gq:=y15 hqi
  have gf:=y13 hfi
  have hF:=hs.eg qi fi hqi hfi
  have hQ6:=hs.ne qi hqi
  have e0:z273 s st ⟨pi,ei,qi,fi⟩=z201 (z201 st pi ((s.pr pi).eg ei)) qi ((s.pr qi).eg fi):=by unfold z273;rw [if_pos hq0];rfl
  have c2:=z787 (z201 st pi ((s.pr pi).eg ei)) ((s.pr qi).eg fi) _ hF qi (by omega) (by omega) h1.b
  have hl2:=z731 (z201 st pi ((s.pr pi).eg ei)) qi ((s.pr qi).eg fi)
  rw [hl1.1,hl1.2,show st.a.length=0+st.a.length by omega,show st.b.length=0+st.b.length by omega] at c2
  rw [e0]
  generalize z201 (z201 st pi ((s.pr pi).eg ei)) qi ((s.pr qi).eg fi)=s2 at *
  generalize z201 st pi ((s.pr pi).eg ei)=s1 at *
  generalize (s.pr pi).eg ei=ed at *
  generalize (s.pr qi).eg fi=fd at *
  generalize s.pr pi=pp at *
  generalize s.pr qi=qq at *
  refine z12 z24 func117 rfl rfl 51 ntmps117 (by simp) ?_
  repeat' ((first|apply y6 ok;rfl|apply z27;kernel_rfl|refine z14 (i:=pi) rfl gp ?_|refine z14 (i:=ei) rfl ge ?_|refine z14 (i:=qi) rfl gq ?_|refine z14 (i:=fi) rfl gf ?_|(apply y40;first|omega|dsimp only;omega|exact z49 (fun _=>rfl))|(first|apply z175 [5,7] [] c1;rfl;(focus ((repeat' first|exact z62|apply z71)<;>(refine z89 rfl ?_;((exact z6 fun _=>rfl)))))|apply z175 [5,7] [] c2;rfl;(focus ((repeat' first|exact z62|apply z71)<;>(refine z89 rfl ?_;((exact z6 fun _=>rfl))))));rfl;(focus ((repeat' first|exact z23|apply z19)<;>(refine z30 ?_;((exact z6 fun _=>rfl))))))<;>conv=>whnf)
  all_goals (refine rsD [] [5,7] rfl ?_;(repeat' first|refine z367 ?_;omega|(apply z55 rfl rfl rfl);(focus ((repeat ((exact z48 (fun _=>rfl) _)));done));(focus (((simp;omega));done))|apply z57|constructor))
 ·have e0:z273 s st ⟨pi,ei,q,f⟩=z201 st pi ((s.pr pi).eg ei):=by unfold z273;rw [if_neg hq0];rfl
  rw [e0]
  generalize z201 st pi ((s.pr pi).eg ei)=s1 at *
  generalize (s.pr pi).eg ei=ed at *
  generalize s.pr pi=pp at *
  refine z12 z24 func117 rfl rfl 51 ntmps117 (by simp) ?_
  repeat' ((first|apply y6 ok;rfl|apply z27;kernel_rfl|refine z14 (i:=pi) rfl gp ?_|refine z14 (i:=ei) rfl ge ?_|(apply y40;first|omega|dsimp only;omega|exact z49 (fun _=>rfl))|apply z7<;>intro _|apply z175 [5,7] [] c1;rfl;(focus ((repeat' first|exact z62|apply z71)<;>(refine z89 rfl ?_;((exact z6 fun _=>rfl)))));rfl;(focus ((repeat' first|exact z23|apply z19)<;>(refine z30 ?_;((exact z6 fun _=>rfl))))))<;>conv=>whnf)
  all_goals first|exfalso;apply hq0;assumption|skip
  all_goals (refine rsD [] [5,7] rfl ?_;(repeat' first|refine z367 ?_;omega|(apply z55 rfl rfl rfl);(focus ((repeat ((exact z48 (fun _=>rfl) _)));done));(focus (((simp;omega));done))|apply z57|constructor))
theorem z737 (a b:State) (ha:a.sm) (hb:b.sm):QQ 174 [.agg a.cs,.agg b.cs] [] (.bool (decide (a=b))) []:=by
 have h1:=ha.a
 have h2:=ha.b
 have h3:=hb.a
 have h4:=hb.b
 have c1:=z412 a.a b.a (by unfold maxLen;omega) (by unfold maxLen;omega)
 have c2:=z412 a.b b.b (by unfold maxLen;omega) (by unfold maxLen;omega)
 obtain ⟨a1,a2⟩:=a
 obtain ⟨b1,b2⟩:=b
 simp only at *
 have e:decide ((⟨a1,a2⟩:State)=⟨b1,b2⟩)=(decide (a1=b1) && decide (a2=b2)):=by
  by_cases h:a1=b1<;>by_cases k:a2=b2<;>simp [h,k]
 rw [e]
 generalize decide (a1=b1)=p at *
 generalize decide (a2=b2)=q at *
 refine z16 z24 func174 rfl rfl 17 ntmps174 (by simp) ?_
 cases p
 all_goals
  repeat' ((first|apply y6 ok;rfl|apply z8 c1;rfl;rfl|apply z8 c2;rfl;rfl)<;>conv=>whnf)
  all_goals exact z34 rfl rfl
def z360 (t:State):List State→Int→Int
 |[],_=>-1
 |x::r,k=>if x=t then k else z360 t r (k+1)
theorem z901 (t:State):∀ (l:List State) (k:Int),0≤k→-1≤z360 t l k∧z360 t l k < k+l.length:=by
 intro l
 induction l with
 |nil=>intro k h;simp only [z360,y56];omega
 |cons x l ih =>
  intro k h
  simp only [z360,y55]
  split
  ·omega
  ·have:=ih (k+1) (by omega);omega
theorem z1044 (t:State) (l:List State) (k:Nat) (h:k < l.length):z360 t (l.drop k) k=if l[k]=t then (k:Int) else z360 t (l.drop (k+1)) ((k+1:Nat):Int):=by
 rw [y77 h,z360];rfl
theorem z1186 (l:List State) (t:State) (hl:l.length≤1000) (hs:∀ s∈l,s.sm) (ht:t.sm):QQ 118 [lst 2 State.cs l,.agg t.cs] [] (.int (z360 t l 0)) []:=by
 refine z16 z24 func118 rfl rfl 19 ntmps118 (by simp) ?_
 repeat' (((apply y6 ok;rfl))<;>conv=>whnf)
 refine z111 (fun k:Nat=>([(0,lst 2 State.cs l),(3,.ptr 0 none 0),(5,.int k)],[.cells 2 [t.cs]])) (fun k=>k≤l.length∧z360 t l 0=z360 t (l.drop k) k) (fun k=>l.length - k) 0 ⟨by omega,rfl⟩ ⟨[0],rfl,by decide,rfl,by repeat' (first|exact True.intro|exact ⟨rfl,rfl⟩|apply y40),by repeat' (first|exact True.intro|exact z43 rfl rfl|apply y40)⟩ ?_
 intro k hk
 by_cases hkl:k < l.length
 ·have c:=z737 l[k] t (hs _ (y41 _)) ht
  have e:=z1044 t l k hkl
  rw [e] at hk
  have g0:(l.map State.cs)[k]?=some (State.cs l[k]):=by rw [y48,y42 hkl];rfl
  by_cases hx:l[k]=t
  ·rw [if_pos hx] at hk
   rw [y79 hx] at c
   generalize l[k]=x at *
   repeat' ((first|apply y6 ok;rfl|apply z27;kernel_rfl|refine z14 (i:=k) rfl g0 ?_|apply y40;omega|apply z7<;>intro _|apply z8 c;rfl;rfl)<;>conv=>whnf)
   all_goals first|exfalso;omega|exact z670 rfl hk.2
  ·rw [if_neg hx] at hk
   rw [y80 hx] at c
   generalize l[k]=x at *
   repeat' ((first|apply y6 ok;rfl|apply z27;kernel_rfl|refine z14 (i:=k) rfl g0 ?_|(apply y40;first|omega|unfold inI;omega)|apply z7<;>intro _|apply z8 c;rfl;rfl)<;>conv=>whnf)
   all_goals try (exfalso;omega)
   exact z92 (k+1) [0] ⟨by omega,hk.2⟩ (by omega) ⟨rfl,by decide,rfl,by repeat' (first|exact True.intro|exact ⟨rfl,rfl⟩|apply y40),by repeat' (first|exact True.intro|exact z43 rfl rfl|apply y40)⟩
 ·have e:l.drop k=[]:=y81 (by omega)
  rw [e] at hk
  repeat' ((first|apply y6 ok;rfl|apply y40;omega|((with_reducible apply z13;omega));intro _|apply z7<;>intro _)<;>conv=>whnf)
  all_goals first|exfalso;omega|exact z670 rfl hk.2
end Go.Proofs.YteinbnahinpegaaGreat
namespace Go.Proofs.YteinbnahinpegaaGreat
open Go.Gl Proofs.Tryz
attribute [local irreducible] z18 AWP z38 z41 z40 RetS z42
open Classical in
noncomputable def inn (s:Sys) (st0:State):List Stp→List State→List Int→Option (List State×List Int)
 |[],S,N=>some (S,N)
 |x::r,S,N =>
  if z360 (z273 s st0 x) S 0 < 0 then
   (if 60≤(S.length:Int) then none else inn s st0 r (S++[z273 s st0 x]) (if (S.length:Int)∈N then N else N++[(S.length:Int)]))
  else
   (if 60≤z360 (z273 s st0 x) S 0 then none else inn s st0 r S (if z360 (z273 s st0 x) S 0∈N then N else N++[z360 (z273 s st0 x) S 0]))
open Classical in
noncomputable def z751 (L:List Stp) (N:List Int) (i:Nat):List Int:=if L=[] then N++[(i:Int)] else N
noncomputable def grow (s:Sys):Nat→List State→List (List Int)→Nat→Option Graph
 |0,_,_,_=>none
 |f+1,S,G,i=>match S[i]? with
  |none=>some ⟨S,G⟩
  |some st0=>match inn s st0 (z586 s st0) S [] with
   |none=>none
   |some (S',N)=>grow s f S' (G++[z751 (z586 s st0) N i]) (i+1)
theorem State.ok.sm {s:Sys} (hs:s.ok) {st:State} (h:st.ok s):st.sm:=⟨by have:=h.a;have:=hs.n3;omega,by have:=h.b.1;omega⟩
theorem z736 {s:Sys} (hs:s.ok) {st:State} : (z586 s st).length≤324:=by
 have h3:=hs.n3
 have:=z711 (n:=s.ps.length) (c:=108) (f:=fun j=>cat (s.pr j).es.length (z479 s st j)) (fun j hj=>by
  have h6:=hs.ne j hj
  have:=z711 (n:=(s.pr j).es.length) (c:=18) (f:=z479 s st j) (fun m _=>by
   unfold z479
   split
   ·simp
   split
   ·simp
   ·exact z763 hs)
  omega)
 unfold z586
 omega
structure GInv (s:Sys) (S:List State) (G:List (List Int)) (i:Nat):Prop where
 le:i≤S.length
 n:S.length≤60
 one:1≤S.length
 g:G.length=i
 st:∀ t∈S,t.ok s
 row:∀ r∈G,r.length≤400
theorem inn_inv {s:Sys} (hs:s.ok) {st0:State} (h0:st0.ok s):∀ (L:List Stp),(∀ x∈L,x.ok s)→∀ (S:List State) (N:List Int) (S' : List State) (N' : List Int),S.length≤60→(∀ t∈S,t.ok s)→inn s st0 L S N=some (S',N')→S'.length≤60∧S.length≤S'.length∧(∀ t∈S',t.ok s)∧N'.length≤N.length+L.length∧∀ i,i < S.length→S'[i]?=S[i]?:=by
 intro L
 induction L with
 |nil =>
  intro _ S N S' N' h1 h2 h3
  simp only [inn,Option.some.injEq,Prod.mk.injEq] at h3
  obtain ⟨rfl,rfl⟩:=h3
  exact ⟨h1,y49 _,h2,by simp,fun _ _=>rfl⟩
 |cons x L ih =>
  intro hx S N S' N' h1 h2 h3
  have hxo:=z818 hs h0 (hx x (by simp))
  have ih:=ih fun y hy=>hx y (by simp [hy])
  simp only [inn] at h3
  split at h3
  ·split at h3
   ·cases h3
   ·obtain ⟨a1,a2,a3,a4,a5⟩:=ih _ _ S' N' (by simp;omega) (fun t ht=>by
     rcases List.mem_append.1 ht with h|h
     ·exact h2 t h
     ·rw [List.mem_singleton.1 h];exact hxo) h3
    refine ⟨a1,by simp at a2;omega,a3,?_,fun i hi=>by rw [a5 i (by simp;omega),y63 hi]⟩
    simp only [y55]
    split at a4<;>(try simp at a4)<;>omega
  ·split at h3
   ·cases h3
   ·obtain ⟨a1,a2,a3,a4,a5⟩:=ih _ _ S' N' h1 h2 h3
    refine ⟨a1,a2,a3,?_,a5⟩
    simp only [y55]
    split at a4<;>(try simp at a4)<;>omega
theorem grow_inv {s:Sys} (hs:s.ok):∀ (f:Nat) (S:List State) (G:List (List Int)) (i:Nat) (g:Graph),GInv s S G i→grow s f S G i=some g→GInv s g.st g.nx g.st.length:=by
 intro f
 induction f with
 |zero=>intro S G i g _ h;simp [grow] at h
 |succ f ih =>
  intro S G i g hI h
  simp only [grow] at h
  split at h
  ·rename_i hn
   simp only [Option.some.injEq] at h
   subst h
   have:S.length≤i:=List.getElem?_eq_none_iff.1 hn
   have e:i=S.length:=by have:=hI.le;omega
   subst e
   exact hI
  ·rename_i st0 hst
   have hil:=(List.getElem?_eq_some_iff.1 hst).1
   have h0:=hI.st st0 (List.mem_of_getElem? hst)
   split at h
   ·cases h
   ·rename_i S' N hin
    obtain ⟨a1,a2,a3,a4,a5⟩:=inn_inv hs h0 _ (fun x hx=>z934 x hx) _ _ _ _ hI.n hI.st hin
    have hl:=z736 hs (st:=st0)
    refine ih _ _ _ _ ⟨by omega,a1,by have:=hI.one;omega,by simp [hI.g],a3,fun r hr=>?_⟩ h
    rcases List.mem_append.1 hr with h|h
    ·exact hI.row r h
    ·rw [List.mem_singleton.1 h]
     unfold z751
     simp only [y56] at a4
     split<;>(try simp)<;>omega
end Go.Proofs.YteinbnahinpegaaGreat
namespace Go.Proofs.YteinbnahinpegaaGreat
open Go.Gl Proofs.Tryz
attribute [local irreducible] z18 AWP z38 z41 z40 RetS z42
noncomputable def z371 (s:Sys):Option Graph:=if sysB s=true then grow s 61 [⟨List.replicate s.ps.length 0,s.init⟩] [] 0 else none
theorem z644 {q:Bool} : LocLe (.tup [.agg [.nils,.nils],.bool q]) (.tup [.agg (⟨[],[]⟩:Graph).cs,.bool q]):=z156 (.cons (z57 (.cons z63 (.cons z63 .nil))) (.cons (y83 _) .nil))
theorem z457 {objs:Nat→AObj} {π Bn:List Nat} {o:Nat} {l:List State} (ho:objs o=.cells 2 (l.map State.cs)) (h1:idx π o=none) (h2:inB Bn o=true):bor objs π Bn (.sref o 0 l.length)=lst 2 State.cs l :=
 z353 ho h1 h2 (by simp) (z48 (fun _=>rfl) _)
set_option maxHeartbeats 6400000 in
theorem z712 (s:Sys) (hsm:s.s1):QQ 61 [.agg s.cs] [] (.tup [.agg ((z371 s).getD ⟨[],[]⟩).cs,.bool (z371 s).isSome]) []:=by
 have c0:=z794 s hsm
 by_cases hv:sysB s=true
 ·have hs:=Sys.ok_of hv
  have hn3:=hs.n3
  have eb:z371 s=grow s 61 [⟨List.replicate s.ps.length 0,s.init⟩] [] 0:=by unfold z371;rw [if_pos hv]
  rw [if_pos hv,hv] at c0
  have hI0:GInv s [⟨List.replicate s.ps.length 0,s.init⟩] [] 0:=⟨by simp,by simp,by simp,rfl,fun t ht=>by
   rw [List.mem_singleton.1 ht]
   exact ⟨by simp,hs.init⟩,by simp⟩
  rw [eb]
  generalize (⟨List.replicate s.ps.length 0,s.init⟩:State)=st1 at *
  generalize hR:grow s 61 [st1] [] 0=R at *
  refine z12 z24 func61 rfl rfl 96 ntmps61 (by simp) ?_
  repeat' ((first|apply y6 ok;rfl|apply z8 c0;rfl;rfl)<;>conv=>whnf)
  refine y82 (y86 1 rfl) ?_
  refine z69 (fun x:Nat×List State×List (List Int)=>([(1,.ptr 0 none 0),(2,.ptr 1 none 0),(6,.ptr 2 none 0),(7,.int x.1)],[.cells 2 [s.cs],.cells 2 [[.nils,.nils]],.cells 2 [[.sref 3 0 x.2.1.length,.sref 4 0 x.2.2.length]],.cells 2 (x.2.1.map State.cs),.cells 1 (x.2.2.map encL)])) (fun x=>GInv s x.2.1 x.2.2 x.1∧grow s (61 - x.1) x.2.1 x.2.2 x.1=R) (fun x=>61 - x.1) (0,[st1],[]) ⟨hI0,hR⟩ (by refine swR [0,1,4,3,5] [] rfl rfl ?_;(repeat' first|exact y83 _|exact z56|apply y85|refine z11 rfl z39 ?_|constructor)) ?_
  rintro ⟨i,S,G⟩ ⟨hI,hg⟩
  simp only at hI hg
  have hS60:=hI.n
  have hGi:=hI.g
  have hile:=hI.le
  by_cases hil:i < S.length
  ·obtain ⟨st0,hst⟩:∃ st0,S[i]?=some st0:=⟨S[i],y42 hil⟩
   have h0:=hI.st st0 (List.mem_of_getElem? hst)
   rw [show 61 - i=(60 - i)+1 by omega,grow,hst] at hg
   dsimp only at hg
   have cS:=z1034 s hs st0 h0
   have hLl:=z736 hs (st:=st0)
   have hLo:∀ x∈z586 s st0,x.ok s:=fun x hx=>z934 x hx
   have gS:(S.map State.cs)[i]?=some (State.cs st0):=by rw [y48,hst];rfl
   generalize z586 s st0=LST at *
   generalize hRIN:inn s st0 LST S []=RIN at *
   repeat' ((first|apply y6 ok;rfl|apply z27;kernel_rfl|refine z14 (i:=i) rfl gS ?_|apply y40;omega|apply z7<;>intro _|apply z8 cS;rfl;rfl)<;>conv=>whnf)
   all_goals first|(exfalso;dsimp only at *;omega)|skip
   refine z69 (fun x:Nat×List State×List Int=>([(1,.ptr 0 none 0),(2,.ptr 1 none 0),(6,.ptr 2 none 0),(7,.int i),(8,lst 4 Stp.cs LST),(9,.sref 5 0 x.2.2.length),(10,.int x.1)],[.cells 2 [s.cs],.cells 2 [[.nils,.nils]],.cells 2 [[.sref 3 0 x.2.1.length,.sref 4 0 G.length]],.cells 2 (x.2.1.map State.cs),.cells 1 (G.map encL),.cells 1 (x.2.2.map enI)])) (fun x=>x.1≤LST.length∧x.2.1.length≤60∧(∀ t∈x.2.1,t.ok s)∧x.2.1[i]?=some st0∧x.2.2.length≤x.1∧inn s st0 (LST.drop x.1) x.2.1 x.2.2=RIN) (fun x=>LST.length - x.1) (0,S,[]) ⟨by simp,hS60,hI.st,hst,by simp,hRIN⟩ (by refine swR [0,1,2,3,4,5] [] rfl rfl ?_;(repeat' first|exact y83 _|exact z10 _|apply y85|(refine z11 rfl ?_ ?_);(focus ((repeat' (first|exact z39|exact z6 (fun _=>rfl)));done))|constructor)) ?_
   rintro ⟨k,S',N⟩ ⟨hk,hS',hSo,hSi,hN,hin⟩
   simp only at hk hS' hSo hSi hN hin
   by_cases hkl:k < LST.length
   ·rw [y77 hkl,inn] at hin
    have hx:=hLo LST[k] (y41 _)
    have g1:(LST.map Stp.cs)[k]?=some (Stp.cs LST[k]):=by rw [y48,y42 hkl];rfl
    have c83:=z1035 s hs st0 h0 LST[k] hx
    have hto:=z818 hs h0 hx
    have g0:(S'.map State.cs)[i]?=some (State.cs st0):=by rw [y48,hSi];rfl
    have hiS:i < S'.length:=(List.getElem?_eq_some_iff.1 hSi).1
    generalize z273 s st0 LST[k]=to at *
    have c84:=z1186 S' to (by omega) (fun t ht=>(hSo t ht).sm hs) (hto.sm hs)
    have hfr:=z901 to S' 0 (by omega)
    generalize z360 to S' 0=n at *
    generalize LST[k]=x at *
    have cN:=fun v=>z1185 N (by unfold maxLen;omega) v
    by_cases hn:n < 0
    ·rw [if_pos hn] at hin
     by_cases h60:60≤(S'.length:Int)
     ·rw [if_pos h60] at hin
      subst hin
      dsimp only at hg
      subst hg
      repeat' ((first|apply y6 ok;rfl|apply z27;kernel_rfl|refine z14 (i:=i) rfl g0 ?_|refine z14 (i:=k) rfl g1 ?_|(apply y40;first|omega|dsimp only;omega|(try dsimp only);simp only [y46,y45,y44,y43,y55,y56];omega|exact ⟨rfl,z17 rfl z26⟩)|apply z7<;>intro _|apply z8 c83;rfl;rfl|apply z120 [] [3] [] c84;(focus (exact z60 (z457 rfl rfl rfl) (z60 rfl z87)));rfl;rfl;(focus ((repeat' exact z23)<;>fail));((refine .inr ⟨rfl,?_⟩;repeat' exact True.intro)))<;>conv=>whnf)
      all_goals first|exfalso;omega|(exfalso;dsimp only at *;omega)|skip
      all_goals refine y14 [] [] rfl rfl rfl ?_
      all_goals exact RetS.done z644 .nil
     ·rw [if_neg h60] at hin
      have cM:=cN S'.length
      by_cases hm:(S'.length:Int)∈N
      ·rw [if_pos hm] at hin
       rw [y79 hm] at cM
       repeat' ((first|apply y6 ok;rfl|apply z27;kernel_rfl|refine z14 (i:=i) rfl g0 ?_|refine z14 (i:=k) rfl g1 ?_|(apply y40;first|omega|unfold inI;omega|dsimp only;omega|(try dsimp only);simp only [y46,y45,y44,y43,y55,y56];omega|exact ⟨rfl,z17 rfl z26⟩)|apply z7<;>intro _|apply z8 c83;rfl;rfl|(first|apply z120 [] [3] [] c84;(focus (exact z60 (z457 rfl rfl rfl) (z60 rfl z87)));rfl|apply z120 [] [5] [] cM;(focus ((repeat' first|exact z87|apply z60)<;>first|exact z147 rfl rfl rfl|rfl));rfl);rfl;(focus ((repeat' exact z23)<;>fail));((refine .inr ⟨rfl,?_⟩;repeat' exact True.intro)))<;>conv=>whnf)
       all_goals first|exfalso;omega|exfalso;contradiction|skip
       all_goals refine z29 (k+1,S'++[to],N) ⟨by omega,by simp;omega,fun t ht=>by rcases List.mem_append.1 ht with h|h;exact hSo t h;rw [List.mem_singleton.1 h];exact hto,by rw [← hSi];exact y63 hiS,by show N.length≤k+1;omega,hin⟩ (by show LST.length - (k+1) < LST.length - k;omega) (by refine swR [0,1,2,8,4,5] [] rfl rfl ?_;(repeat' first|exact y83 _|exact z10 _|refine z44 ?_;((simp;done))|apply y85|(first|refine z33 rfl ?_ ?_|refine z11 rfl ?_ ?_);(focus ((repeat' (first|exact z6 (fun _=>rfl)|apply z25));done))|refine z77 ?_ ?_;(focus omega)|constructor))
      ·rw [if_neg hm] at hin
       rw [y80 hm] at cM
       repeat' ((first|apply y6 ok;rfl|apply z27;kernel_rfl|refine z14 (i:=i) rfl g0 ?_|refine z14 (i:=k) rfl g1 ?_|(apply y40;first|omega|unfold inI;omega|dsimp only;omega|(try dsimp only);simp only [y46,y45,y44,y43,y55,y56];omega|exact ⟨rfl,z17 rfl z26⟩)|apply z7<;>intro _|apply z8 c83;rfl;rfl|(first|apply z120 [] [3] [] c84;(focus (exact z60 (z457 rfl rfl rfl) (z60 rfl z87)));rfl|apply z120 [] [5] [] cM;(focus ((repeat' first|exact z87|apply z60)<;>first|exact z147 rfl rfl rfl|rfl));rfl);rfl;(focus ((repeat' exact z23)<;>fail));((refine .inr ⟨rfl,?_⟩;repeat' exact True.intro)))<;>conv=>whnf)
       all_goals first|exfalso;omega|exfalso;contradiction|skip
       all_goals refine z29 (k+1,S'++[to],N++[(S'.length:Int)]) ⟨by omega,by simp;omega,fun t ht=>by rcases List.mem_append.1 ht with h|h;exact hSo t h;rw [List.mem_singleton.1 h];exact hto,by rw [← hSi];exact y63 hiS,by simp;omega,hin⟩ (by show LST.length - (k+1) < LST.length - k;omega) (by refine swR [0,1,2,8,4,10] [] rfl rfl ?_;(repeat' first|exact y83 _|exact z10 _|refine z44 ?_;((simp;done))|apply y85|(first|refine z33 rfl ?_ ?_|refine z11 rfl ?_ ?_);(focus ((repeat' (first|exact z6 (fun _=>rfl)|apply z25));done))|refine z77 ?_ ?_;(focus omega)|constructor))
    ·rw [if_neg hn] at hin
     by_cases h60:60≤n
     ·rw [if_pos h60] at hin
      subst hin
      dsimp only at hg
      subst hg
      repeat' ((first|apply y6 ok;rfl|apply z27;kernel_rfl|refine z14 (i:=i) rfl g0 ?_|refine z14 (i:=k) rfl g1 ?_|apply y40;omega|apply z7<;>intro _|apply z8 c83;rfl;rfl|apply z120 [] [3] [] c84;(focus (exact z60 (z457 rfl rfl rfl) (z60 rfl z87)));rfl;rfl;(focus ((repeat' exact z23)<;>fail));((refine .inr ⟨rfl,?_⟩;repeat' exact True.intro)))<;>conv=>whnf)
      all_goals (exfalso;omega)
      all_goals refine y14 [] [] rfl rfl rfl ?_
      all_goals exact RetS.done z644 .nil
     ·rw [if_neg h60] at hin
      have cM:=cN n
      by_cases hm:n∈N
      ·rw [if_pos hm] at hin
       rw [y79 hm] at cM
       repeat' ((first|apply y6 ok;rfl|apply z27;kernel_rfl|refine z14 (i:=i) rfl g0 ?_|refine z14 (i:=k) rfl g1 ?_|(apply y40;first|omega|unfold inI;omega|dsimp only;omega)|apply z7<;>intro _|apply z8 c83;rfl;rfl|(first|apply z120 [] [3] [] c84;(focus (exact z60 (z457 rfl rfl rfl) (z60 rfl z87)));rfl|apply z120 [] [5] [] cM;(focus ((repeat' first|exact z87|apply z60)<;>first|exact z147 rfl rfl rfl|rfl));rfl);rfl;(focus ((repeat' exact z23)<;>fail));((refine .inr ⟨rfl,?_⟩;repeat' exact True.intro)))<;>conv=>whnf)
       all_goals try (exfalso;omega)
       all_goals refine z29 (k+1,S',N) ⟨by omega,hS',hSo,hSi,by show N.length≤k+1;omega,hin⟩ (by show LST.length - (k+1) < LST.length - k;omega) (by refine swR [0,1,2,3,4,5] [] rfl rfl ?_;(repeat' first|exact y83 _|exact z10 _|apply y85|refine z11 rfl (z6 (fun _=>rfl)) ?_|constructor))
      ·rw [if_neg hm] at hin
       rw [y80 hm] at cM
       repeat' ((first|apply y6 ok;rfl|apply z27;kernel_rfl|refine z14 (i:=i) rfl g0 ?_|refine z14 (i:=k) rfl g1 ?_|(apply y40;first|omega|unfold inI;omega|dsimp only;omega|(try dsimp only);simp only [y46,y45,y44,y43,y55,y56];omega|exact ⟨rfl,z17 rfl z26⟩)|apply z7<;>intro _|apply z8 c83;rfl;rfl|(first|apply z120 [] [3] [] c84;(focus (exact z60 (z457 rfl rfl rfl) (z60 rfl z87)));rfl|apply z120 [] [5] [] cM;(focus ((repeat' first|exact z87|apply z60)<;>first|exact z147 rfl rfl rfl|rfl));rfl);rfl;(focus ((repeat' exact z23)<;>fail));((refine .inr ⟨rfl,?_⟩;repeat' exact True.intro)))<;>conv=>whnf)
       all_goals try (exfalso;omega)
       all_goals refine z29 (k+1,S',N++[n]) ⟨by omega,hS',hSo,hSi,by simp;omega,hin⟩ (by show LST.length - (k+1) < LST.length - k;omega) (by refine swR [0,1,2,3,4,8] [] rfl rfl ?_;(repeat' first|exact y83 _|exact z10 _|refine z44 ?_;((simp;done))|apply y85|(first|refine z33 rfl ?_ ?_|refine z11 rfl ?_ ?_);(focus ((repeat' (first|exact z6 (fun _=>rfl)|apply z25));done))|refine z77 ?_ ?_;(focus omega)|constructor))
   ·rw [y81 (by omega),inn] at hin
    subst hin
    dsimp only at hg
    have hiS:i < S'.length:=(List.getElem?_eq_some_iff.1 hSi).1
    have hnext:GInv s S' (G++[z751 LST N i]) (i+1):=⟨by omega,hS',by omega,by simp [hGi],hSo,fun r hr=>by
     rcases List.mem_append.1 hr with h|h
     ·exact hI.row r h
     ·rw [List.mem_singleton.1 h]
      unfold z751
      split<;>(try simp)<;>omega⟩
    rw [show 60 - i=61 - (i+1) by omega] at hg
    by_cases hz:LST=[]
    ·have er:z751 LST N i=N++[(i:Int)]:=by unfold z751;rw [if_pos hz]
     have hz0:LST.length=0:=by rw [hz];rfl
     rw [er] at hg hnext
     repeat' ((first|apply y6 ok;rfl|(apply y40;first|omega|unfold inI;omega|dsimp only;omega|(try dsimp only);simp only [y46,y45,y44,y43,y55,y56];omega|exact ⟨rfl,z17 rfl z26⟩)|(first|with_reducible apply z13;omega|apply z13;omega);intro _|apply z7<;>intro _)<;>conv=>whnf)
     all_goals try (exfalso;omega)
     all_goals refine z29 (i+1,S',G++[N++[(i:Int)]]) ⟨hnext,hg⟩ (by show 61 - (i+1) < 61 - i;omega) (by refine swR [0,1,2,3,9] [7] rfl rfl ?_;(repeat' first|exact y83 _|exact z10 _|refine z44 ?_;((simp;done))|apply y85|(first|refine z33 rfl ?_ ?_|refine z11 rfl ?_ ?_);(focus ((repeat' (first|exact z6 (fun _=>rfl)|apply z25));done))|refine z77 ?_ ?_;(focus omega)|(apply z93 rfl rfl rfl);(focus ((repeat (first|exact z48 (fun _=>rfl) _|apply z219|apply z336|rfl));done));(focus (((simp;done));done))|refine z97 ?_ ?_;(focus (simp;done))|constructor))
    ·have er:z751 LST N i=N:=by unfold z751;rw [if_neg hz]
     have hz0:LST.length≠0:=fun h=>hz (y71 h)
     rw [er] at hg hnext
     repeat' ((first|apply y6 ok;rfl|(apply y40;first|omega|unfold inI;omega|(try dsimp only);simp only [y46,y45,y44,y43,y55,y56];omega|exact ⟨rfl,z17 rfl z26⟩)|(first|with_reducible apply z13;omega|apply z13;omega);intro _|apply z7<;>intro _)<;>conv=>whnf)
     all_goals try (exfalso;omega)
     all_goals refine z29 (i+1,S',G++[N]) ⟨hnext,hg⟩ (by show 61 - (i+1) < 61 - i;omega) (by refine swR [0,1,2,3,7] [5] rfl rfl ?_;(repeat' first|exact y83 _|exact z10 _|refine z44 ?_;((simp;done))|apply y85|(first|refine z33 rfl ?_ ?_|refine z11 rfl ?_ ?_);(focus ((repeat' (first|exact z6 (fun _=>rfl)|apply z25));done))|refine z77 ?_ ?_;(focus omega)|(apply z93 rfl rfl rfl);(focus ((repeat ((exact z48 (fun _=>rfl) _)));done));(focus (((simp;done));done))|constructor))
  ·have hn:S[i]?=none:=List.getElem?_eq_none_iff.2 (by omega)
   rw [show 61 - i=(60 - i)+1 by omega,grow,hn] at hg
   dsimp only at hg
   subst hg
   repeat' ((first|apply y6 ok;rfl|apply y40;omega|((apply z13;omega));intro _|apply z7<;>intro _)<;>conv=>whnf)
   all_goals first|exfalso;contradiction|skip
   all_goals (refine rsD [] [3,4] rfl ?_;(repeat' first|exact y83 _|(apply z55 rfl rfl rfl);(focus ((repeat ((exact z48 (fun _=>rfl) _)));done));(focus (((simp;done));done))|apply z57|apply z156|constructor))
 ·have eb:z371 s=none:=by unfold z371;rw [if_neg hv]
  rw [if_neg hv,(y69 _).mp hv] at c0
  rw [eb]
  refine z12 z24 func61 rfl rfl 96 ntmps61 (by simp) ?_
  repeat' ((first|apply y6 ok;rfl|apply z8 c0;rfl;rfl)<;>conv=>whnf)
  all_goals refine y14 [] [] rfl rfl rfl ?_
  all_goals exact RetS.done z644 .nil
def isSt (bs:List Int) (i:Int) (q:Int) (t:State) (q' : Int):Prop:=∃ a b:Int,t=⟨[i % 3],[a,b,0]⟩∧q'=q+1+1 ∧
 QQ 58 [.ptr 0 none 0,.int 3] [rdO bs q] (.int a) [rdO bs (q+1)]∧QQ 58 [.ptr 0 none 0,.int 2] [rdO bs (q+1)] (.int b) [rdO bs (q+1+1)]
def isRow (bs:List Int) (n:Nat) (q:Int) (r:List Int) (q' : Int):Prop:=∃ a b c:Int,r=(if c=0∧b≠a then [a,b] else [a])∧q'=q+1+1+1 ∧
 QQ 58 [.ptr 0 none 0,.int n] [rdO bs q] (.int a) [rdO bs (q+1)]∧QQ 58 [.ptr 0 none 0,.int n] [rdO bs (q+1)] (.int b) [rdO bs (q+1+1)] ∧
 QQ 58 [.ptr 0 none 0,.int 2] [rdO bs (q+1+1)] (.int c) [rdO bs (q+1+1+1)]
structure Small (bs:List Int) (q q' : Int) (g:Graph) (m:Nat) (pf pg:Nat→Int):Prop where
 num:QQ 60 [.ptr 0 none 0,.sref 1 0 6] [rdO bs q,.cells 1 ([3,4,2,5,1,6].map enI)] (.int m) [rdO bs (pf 0),.cells 1 ([3,4,2,5,1,6].map enI)]
 m1:1≤m
 m6:m≤6
 sl:g.st.length=m
 nl:g.nx.length=m
 st:∀ k (h:k < g.st.length),isSt bs (m - k) (pf k) g.st[k] (pf (k+1))
 mid:pf m=pg 0
 row:∀ k (h:k < g.nx.length),isRow bs m (pg k) g.nx[k] (pg (k+1))
 last:pg m=q'
 q0:q≤q'
 q1:q'≤q+40
theorem z936 (bs:List Int) (hb:BytesOk bs) (q:Int) (hq:0≤q∧q≤999990000):∃ g q' m pf pg,Small bs q q' g m pf pg:=by
 obtain ⟨w,mw,cw⟩:=z115 bs hb q (by omega) (by omega) [3,4,2,5,1,6] (by decide) (by decide)
 simp only [List.mem_cons,List.not_mem_nil,or_false] at mw
 obtain ⟨m,rfl⟩:∃ m:Nat,w=m:=⟨w.toNat,by omega⟩
 obtain ⟨S,pf,h1,h2,h3,h4⟩:=z394 (fun k r t r'=>isSt bs (m - k) r t r') (q+1) 2 m (fun k r hk a1 a2=>by
  obtain ⟨a,_,ca⟩:=z73 bs hb r 3 (by omega) (by omega) (by omega)
  obtain ⟨b,_,cb⟩:=z73 bs hb (r+1) 2 (by omega) (by omega) (by omega)
  exact ⟨_,_,⟨a,b,rfl,rfl,ca,cb⟩,by omega,by omega⟩)
 have h5:=h4 m (y49 _)
 obtain ⟨G,pg,g1,g2,g3,g4⟩:=z394 (fun _ r t r'=>isRow bs m r t r') (pf m) 3 m (fun k r hk a1 a2=>by
  obtain ⟨a,_,ca⟩:=z73 bs hb r m (by omega) (by omega) (by omega)
  obtain ⟨b,_,cb⟩:=z73 bs hb (r+1) m (by omega) (by omega) (by omega)
  obtain ⟨c,_,cc⟩:=z73 bs hb (r+1+1) 2 (by omega) (by omega) (by omega)
  exact ⟨_,_,⟨a,b,c,rfl,rfl,ca,cb,cc⟩,by omega,by omega⟩)
 have g5:=g4 m (y49 _)
 exact ⟨⟨S,G⟩,pg m,m,pf,pg,by rw [← h2] at cw;exact cw,by omega,by omega,h1,g1,h3,g2.symm,g3,rfl,by omega,by omega⟩
theorem Small.sm {bs:List Int} {q q' : Int} {g:Graph} {m:Nat} {pf pg:Nat→Int} (h:Small bs q q' g m pf pg):g.sm:=by
 have h1:=h.sl
 have h2:=h.nl
 have h3:=h.m6
 refine ⟨by omega,by omega,fun s hs=>?_,fun r hr=>?_⟩
 ·obtain ⟨i,hi,rfl⟩:=List.mem_iff_getElem.1 hs
  obtain ⟨a,b,e,_⟩:=h.st i hi
  rw [e];exact ⟨by simp,by simp⟩
 ·obtain ⟨i,hi,rfl⟩:=List.mem_iff_getElem.1 hr
  obtain ⟨a,b,c,e,_⟩:=h.row i hi
  rw [e];split<;>simp
set_option maxHeartbeats 6400000 in
theorem z1031 (bs:List Int) (hb:BytesOk bs) (p:Int) (hp:few3 p):∃ (g:Graph) (p' : Int),(g.sm∧1≤g.st.length∧g.nx.length=g.st.length∧p≤p'∧p'≤p+5000)∧QQ 19 [.ptr 0 none 0] [rdO bs p] (.agg g.cs) [rdO bs p']:=by
 obtain ⟨v,⟨v0,v1⟩,cv⟩:=z73 bs hb p 3 (by omega) (by omega) (by omega)
 by_cases hv:0 < v
 ·obtain ⟨s,q0,⟨hs,s0,s1⟩,cs⟩:=z887 bs hb (p+1) ⟨by omega,by omega⟩
  have cB:=z712 s hs.s1
  by_cases hr:∃ g,z371 s=some g∧g.st.length≤24
  ·obtain ⟨g,hg,hl⟩:=hr
   have hI:GInv s g.st g.nx g.st.length:=by
    have h:=hg
    unfold z371 at h
    split at h
    ·rename_i hv2
     have hso:=Sys.ok_of hv2
     exact grow_inv hso 61 _ _ 0 g ⟨by simp,by simp,by simp,rfl,fun t ht=>by
      rw [List.mem_singleton.1 ht]
      exact ⟨by simp,hso.init⟩,by simp⟩ h
    ·cases h
   have hso:s.ok:=by
    have h:=hg
    unfold z371 at h
    split at h
    ·exact Sys.ok_of (by assumption)
    ·cases h
   refine ⟨g,q0,⟨⟨by omega,by have:=hI.g;omega,fun t ht=>(hI.st t ht).sm hso,fun r hr=>by have:=hI.row r hr;omega⟩,hI.one,hI.g,by omega,by omega⟩,?_⟩
   rw [hg] at cB
   simp only [Option.getD_some,Option.isSome_some] at cB
   refine z12 z24 func19 rfl rfl 88 ntmps19 (by simp) ?_
   repeat' ((first|apply y6 ok;rfl|apply z7<;>intro _|apply z8 cB;rfl;rfl|(first|apply z31 [0] [] cv;rfl;rfl|apply z31 [0] [] cs;rfl;rfl);rfl)<;>conv=>whnf)
   all_goals try (exfalso;omega)
   all_goals (refine rsD [0] [] rfl ?_;(repeat' first|exact y83 _|apply y85|constructor))
  ·obtain ⟨g,q',m,pf,pg,F⟩:=z936 bs hb q0 (by omega)
   have m1:=F.m1
   have m6:=F.m6
   have sl:=F.sl
   have nl:=F.nl
   have z0:=F.q0
   have z1:=F.q1
   cases hB:z371 s with
   |none =>
    rw [hB] at cB
    simp only [Option.getD_none,Option.isSome_none] at cB
    refine ⟨g,q',⟨F.sm,by omega,by omega,by omega,by omega⟩,?_⟩
    have Fn:=F.num
    refine z12 z24 func19 rfl rfl 88 ntmps19 (by simp) ?_
    repeat' ((first|apply y6 ok;rfl|apply z7<;>intro _|apply z8 cB;rfl;rfl|(first|apply z15 [0] [] cv;rfl;rfl|apply z15 [0] [] cs;rfl;rfl|apply z15 [0,4] [] Fn;rfl;rfl);rfl;(focus ((repeat' first|exact z23|apply z19)<;>first|exact z58 rfl rfl|refine z30 ?_;((exact z6 fun _=>rfl)))))<;>conv=>whnf)
    all_goals try (exfalso;omega)
    all_goals
     refine y82 (y86 2 rfl) ?_
     refine z69 (fun k:Nat=>([(0,.ptr 0 none 0),(2,.ptr 1 none 0),(5,.ptr 2 none 0),(6,.int (m - k))],[rdO bs (pf k),.cells 2 [[.nils,.nils]],.cells 2 [[.sref 3 0 k,.nils]],.cells 2 ((g.st.take k).map State.cs)])) (fun k=>k≤m) (fun k=>m - k) 0 (by omega) (by refine swR [0,1,3,5] [] rfl rfl ?_;(repeat' first|exact y83 _|exact z56|apply y85|refine z11 rfl z39 ?_|constructor)) ?_
     intro k hk
     by_cases hkm:k < m
     ·have hkl:k < g.st.length:=by omega
      obtain ⟨a,b,es,eq,ca,cb⟩:=F.st k hkl
      rw [← eq] at cb
      repeat' ((first|apply y6 ok;rfl|apply z27;kernel_rfl|(apply y40;first|omega|unfold inI;omega|(try dsimp only);simp only [y46,y45,y44,y43,y55,y56];omega|exact ⟨rfl,z17 rfl z26⟩)|apply z7<;>intro _|(first|apply z31 [0] [] ca;rfl;rfl|apply z31 [0] [] cb;rfl;rfl);rfl)<;>conv=>whnf)
      all_goals try (exfalso;omega)
      all_goals refine z29 (k+1) (by omega) (by omega) (by refine swR [0,1,2,7] [4,5] rfl rfl ?_;(repeat' first|exact y83 _|refine z160 ?_;omega|apply y85|(refine z33 rfl ?_ ?_);(focus ((repeat' (first|exact z6 (fun _=>rfl)|apply z25));done))|refine z130 (by omega) (by omega) ?_|refine z93 rfl rfl rfl rfl rfl ?_|constructor)<;>(rw [es];exact y83 _))
     ·have e:k=m:=by omega
      subst e
      rw [y54 (show g.st.length≤k by omega)]
      repeat' ((first|apply y6 ok;rfl|apply y40;omega|apply z7<;>intro _)<;>conv=>whnf)
      all_goals try (exfalso;omega)
      refine y82 (y86 1 rfl) ?_
      have Fm:=F.mid
      rw [Fm]
      refine z69 (fun i:Nat=>([(0,.ptr 0 none 0),(2,.ptr 1 none 0),(5,.ptr 2 none 0),(7,.int i)],[rdO bs (pg i),.cells 2 [[.nils,.nils]],.cells 2 [[.sref 3 0 k,.sref 4 0 i]],.cells 2 (g.st.map State.cs),.cells 1 ((g.nx.take i).map encL)])) (fun i=>i≤k) (fun i=>k - i) 0 (by omega) (by refine swR [0,1,2,3,4] [] rfl rfl ?_;(repeat' first|exact y83 _|exact z56|exact z10 _|apply y85|(refine z11 rfl ?_ ?_);(focus ((repeat' (first|exact z39|exact z6 (fun _=>rfl)));done))|constructor)) ?_
      intro i hi
      by_cases hik:i < k
      ·have hil:i < g.nx.length:=by omega
       obtain ⟨a,b,c,er,eq,ca,cb,cc⟩:=F.row i hil
       rw [← eq] at cc
       by_cases hc:c=0
       ·by_cases hba:b=a
        ·rw [if_neg (fun h=>h.2 hba)] at er
         repeat' ((first|apply y6 ok;rfl|(apply y40;first|omega|unfold inI;omega|(try dsimp only);simp only [y46,y45,y44,y43,y55,y56];omega|exact ⟨rfl,z17 rfl z26⟩)|apply z107|(first|apply z7|apply z35)<;>intro _|(first|apply z31 [0] [] ca;rfl;rfl|apply z31 [0] [] cb;rfl;rfl|apply z31 [0] [] cc;rfl;rfl);rfl)<;>conv=>whnf)
         all_goals try (exfalso;omega)
         all_goals refine z29 (i+1) (by omega) (by omega) (by refine swR [0,1,2,3,7] [5] rfl rfl ?_;(repeat' first|exact y83 _|exact z10 _|apply y85|(first|refine z33 rfl ?_ ?_|refine z11 rfl ?_ ?_);(focus ((repeat' (first|exact z6 (fun _=>rfl)|apply z25));done))|refine z130 (by omega) (by omega) ?_|refine z93 rfl rfl rfl rfl rfl ?_|constructor)<;>((rw [er];exact y83 _)))
        ·rw [if_pos ⟨hc,hba⟩] at er
         repeat' ((first|apply y6 ok;rfl|(apply y40;first|omega|unfold inI;omega|(try dsimp only);simp only [y46,y45,y44,y43,y55,y56];omega|exact ⟨rfl,z17 rfl z26⟩)|apply z107|(first|apply z7|apply z35)<;>intro _|(first|apply z31 [0] [] ca;rfl;rfl|apply z31 [0] [] cb;rfl;rfl|apply z31 [0] [] cc;rfl;rfl);rfl)<;>conv=>whnf)
         all_goals try (exfalso;omega)
         all_goals refine z29 (i+1) (by omega) (by omega) (by refine swR [0,1,2,3,9] [7] rfl rfl ?_;(repeat' first|exact y83 _|exact z10 _|apply y85|(first|refine z33 rfl ?_ ?_|refine z11 rfl ?_ ?_);(focus ((repeat' (first|exact z6 (fun _=>rfl)|apply z25));done))|refine z130 (by omega) (by omega) ?_|(apply z93 rfl rfl rfl);(focus ((repeat (first|apply z219|apply z336|rfl));done));(focus ((rfl);done))|constructor)<;>((rw [er];exact y83 _)))
       ·rw [if_neg (fun h=>hc h.1)] at er
        repeat' ((first|apply y6 ok;rfl|(apply y40;first|omega|unfold inI;omega|(try dsimp only);simp only [y46,y45,y44,y43,y55,y56];omega|exact ⟨rfl,z17 rfl z26⟩)|apply z107|(first|apply z7|apply z35)<;>intro _|(first|apply z31 [0] [] ca;rfl;rfl|apply z31 [0] [] cb;rfl;rfl|apply z31 [0] [] cc;rfl;rfl);rfl)<;>conv=>whnf)
        all_goals try (exfalso;omega)
        all_goals refine z29 (i+1) (by omega) (by omega) (by refine swR [0,1,2,3,7] [5] rfl rfl ?_;(repeat' first|exact y83 _|exact z10 _|apply y85|(first|refine z33 rfl ?_ ?_|refine z11 rfl ?_ ?_);(focus ((repeat' (first|exact z6 (fun _=>rfl)|apply z25));done))|refine z130 (by omega) (by omega) ?_|refine z93 rfl rfl rfl rfl rfl ?_|constructor)<;>((rw [er];exact y83 _)))
      ·have e:i=k:=by omega
       subst e
       rw [y54 (show g.nx.length≤i by omega)]
       repeat' ((first|apply y6 ok;rfl|apply z7<;>intro _)<;>conv=>whnf)
       all_goals try (exfalso;omega)
       all_goals rw [F.last]
       all_goals (refine rsD [0] [3,4] rfl ?_;(repeat' first|exact y83 _|refine z367 ?_;omega|apply y85|(apply z55 rfl rfl rfl);(focus ((repeat ((exact z48 (fun _=>rfl) _)));done));(focus (((simp;omega));done))|apply z57|constructor))
   |some g0 =>
    have hl:¬(g0.st.length≤24):=fun h=>hr ⟨g0,hB,h⟩
    rw [hB] at cB
    simp only [Option.getD_some,Option.isSome_some] at cB
    refine ⟨g,q',⟨F.sm,by omega,by omega,by omega,by omega⟩,?_⟩
    have Fn:=F.num
    refine z12 z24 func19 rfl rfl 88 ntmps19 (by simp) ?_
    repeat' ((first|apply y6 ok;rfl|apply z7<;>intro _|apply z8 cB;rfl;rfl|(first|apply z15 [0] [] cv;rfl;rfl|apply z15 [0] [] cs;rfl;rfl|apply z15 [0,4] [] Fn;rfl;rfl);rfl;(focus ((repeat' first|exact z23|apply z19)<;>first|exact z58 rfl rfl|refine z30 ?_;((exact z6 fun _=>rfl)))))<;>conv=>whnf)
    all_goals try (exfalso;omega)
    all_goals
     refine y82 (y86 2 rfl) ?_
     refine z69 (fun k:Nat=>([(0,.ptr 0 none 0),(2,.ptr 1 none 0),(5,.ptr 2 none 0),(6,.int (m - k))],[rdO bs (pf k),.cells 2 [[.nils,.nils]],.cells 2 [[.sref 3 0 k,.nils]],.cells 2 ((g.st.take k).map State.cs)])) (fun k=>k≤m) (fun k=>m - k) 0 (by omega) (by refine swR [0,1,3,5] [] rfl rfl ?_;(repeat' first|exact y83 _|exact z56|apply y85|refine z11 rfl z39 ?_|constructor)) ?_
     intro k hk
     by_cases hkm:k < m
     ·have hkl:k < g.st.length:=by omega
      obtain ⟨a,b,es,eq,ca,cb⟩:=F.st k hkl
      rw [← eq] at cb
      repeat' ((first|apply y6 ok;rfl|apply z27;kernel_rfl|(apply y40;first|omega|unfold inI;omega|(try dsimp only);simp only [y46,y45,y44,y43,y55,y56];omega|exact ⟨rfl,z17 rfl z26⟩)|apply z7<;>intro _|(first|apply z31 [0] [] ca;rfl;rfl|apply z31 [0] [] cb;rfl;rfl);rfl)<;>conv=>whnf)
      all_goals try (exfalso;omega)
      all_goals refine z29 (k+1) (by omega) (by omega) (by refine swR [0,1,2,7] [4,5] rfl rfl ?_;(repeat' first|exact y83 _|refine z160 ?_;omega|apply y85|(refine z33 rfl ?_ ?_);(focus ((repeat' (first|exact z6 (fun _=>rfl)|apply z25));done))|refine z130 (by omega) (by omega) ?_|refine z93 rfl rfl rfl rfl rfl ?_|constructor)<;>(rw [es];exact y83 _))
     ·have e:k=m:=by omega
      subst e
      rw [y54 (show g.st.length≤k by omega)]
      repeat' ((first|apply y6 ok;rfl|apply y40;omega|apply z7<;>intro _)<;>conv=>whnf)
      all_goals try (exfalso;omega)
      refine y82 (y86 1 rfl) ?_
      have Fm:=F.mid
      rw [Fm]
      refine z69 (fun i:Nat=>([(0,.ptr 0 none 0),(2,.ptr 1 none 0),(5,.ptr 2 none 0),(7,.int i)],[rdO bs (pg i),.cells 2 [[.nils,.nils]],.cells 2 [[.sref 3 0 k,.sref 4 0 i]],.cells 2 (g.st.map State.cs),.cells 1 ((g.nx.take i).map encL)])) (fun i=>i≤k) (fun i=>k - i) 0 (by omega) (by refine swR [0,1,2,3,4] [] rfl rfl ?_;(repeat' first|exact y83 _|exact z56|exact z10 _|apply y85|(refine z11 rfl ?_ ?_);(focus ((repeat' (first|exact z39|exact z6 (fun _=>rfl)));done))|constructor)) ?_
      intro i hi
      by_cases hik:i < k
      ·have hil:i < g.nx.length:=by omega
       obtain ⟨a,b,c,er,eq,ca,cb,cc⟩:=F.row i hil
       rw [← eq] at cc
       by_cases hc:c=0
       ·by_cases hba:b=a
        ·rw [if_neg (fun h=>h.2 hba)] at er
         repeat' ((first|apply y6 ok;rfl|(apply y40;first|omega|unfold inI;omega|(try dsimp only);simp only [y46,y45,y44,y43,y55,y56];omega|exact ⟨rfl,z17 rfl z26⟩)|apply z107|(first|apply z7|apply z35)<;>intro _|(first|apply z31 [0] [] ca;rfl;rfl|apply z31 [0] [] cb;rfl;rfl|apply z31 [0] [] cc;rfl;rfl);rfl)<;>conv=>whnf)
         all_goals try (exfalso;omega)
         all_goals refine z29 (i+1) (by omega) (by omega) (by refine swR [0,1,2,3,7] [5] rfl rfl ?_;(repeat' first|exact y83 _|exact z10 _|apply y85|(first|refine z33 rfl ?_ ?_|refine z11 rfl ?_ ?_);(focus ((repeat' (first|exact z6 (fun _=>rfl)|apply z25));done))|refine z130 (by omega) (by omega) ?_|refine z93 rfl rfl rfl rfl rfl ?_|constructor)<;>((rw [er];exact y83 _)))
        ·rw [if_pos ⟨hc,hba⟩] at er
         repeat' ((first|apply y6 ok;rfl|(apply y40;first|omega|unfold inI;omega|(try dsimp only);simp only [y46,y45,y44,y43,y55,y56];omega|exact ⟨rfl,z17 rfl z26⟩)|apply z107|(first|apply z7|apply z35)<;>intro _|(first|apply z31 [0] [] ca;rfl;rfl|apply z31 [0] [] cb;rfl;rfl|apply z31 [0] [] cc;rfl;rfl);rfl)<;>conv=>whnf)
         all_goals try (exfalso;omega)
         all_goals refine z29 (i+1) (by omega) (by omega) (by refine swR [0,1,2,3,9] [7] rfl rfl ?_;(repeat' first|exact y83 _|exact z10 _|apply y85|(first|refine z33 rfl ?_ ?_|refine z11 rfl ?_ ?_);(focus ((repeat' (first|exact z6 (fun _=>rfl)|apply z25));done))|refine z130 (by omega) (by omega) ?_|(apply z93 rfl rfl rfl);(focus ((repeat (first|apply z219|apply z336|rfl));done));(focus ((rfl);done))|constructor)<;>((rw [er];exact y83 _)))
       ·rw [if_neg (fun h=>hc h.1)] at er
        repeat' ((first|apply y6 ok;rfl|(apply y40;first|omega|unfold inI;omega|(try dsimp only);simp only [y46,y45,y44,y43,y55,y56];omega|exact ⟨rfl,z17 rfl z26⟩)|apply z107|(first|apply z7|apply z35)<;>intro _|(first|apply z31 [0] [] ca;rfl;rfl|apply z31 [0] [] cb;rfl;rfl|apply z31 [0] [] cc;rfl;rfl);rfl)<;>conv=>whnf)
        all_goals try (exfalso;omega)
        all_goals refine z29 (i+1) (by omega) (by omega) (by refine swR [0,1,2,3,7] [5] rfl rfl ?_;(repeat' first|exact y83 _|exact z10 _|apply y85|(first|refine z33 rfl ?_ ?_|refine z11 rfl ?_ ?_);(focus ((repeat' (first|exact z6 (fun _=>rfl)|apply z25));done))|refine z130 (by omega) (by omega) ?_|refine z93 rfl rfl rfl rfl rfl ?_|constructor)<;>((rw [er];exact y83 _)))
      ·have e:i=k:=by omega
       subst e
       rw [y54 (show g.nx.length≤i by omega)]
       repeat' ((first|apply y6 ok;rfl|apply z7<;>intro _)<;>conv=>whnf)
       all_goals try (exfalso;omega)
       all_goals rw [F.last]
       all_goals (refine rsD [0] [3,4] rfl ?_;(repeat' first|exact y83 _|refine z367 ?_;omega|apply y85|(apply z55 rfl rfl rfl);(focus ((repeat ((exact z48 (fun _=>rfl) _)));done));(focus (((simp;omega));done))|apply z57|constructor))
 ·obtain ⟨g,q',m,pf,pg,F⟩:=z936 bs hb (p+1) (by omega)
  have m1:=F.m1
  have m6:=F.m6
  have sl:=F.sl
  have nl:=F.nl
  have z0:=F.q0
  have z1:=F.q1
  refine ⟨g,q',⟨F.sm,by omega,by omega,by omega,by omega⟩,?_⟩
  have Fn:=F.num
  refine z12 z24 func19 rfl rfl 88 ntmps19 (by simp) ?_
  repeat' ((first|apply y6 ok;rfl|apply z7<;>intro _|(first|apply z15 [0] [] cv;rfl;rfl|apply z15 [0,3] [] Fn;rfl;rfl);rfl;(focus ((repeat' first|exact z23|apply z19)<;>first|exact z58 rfl rfl|refine z30 ?_;((exact z6 fun _=>rfl)))))<;>conv=>whnf)
  all_goals try (exfalso;omega)
  all_goals
   refine y82 (y86 2 rfl) ?_
   refine z69 (fun k:Nat=>([(0,.ptr 0 none 0),(2,.ptr 1 none 0),(5,.ptr 2 none 0),(6,.int (m - k))],[rdO bs (pf k),.cells 2 [[.nils,.nils]],.cells 2 [[.sref 3 0 k,.nils]],.cells 2 ((g.st.take k).map State.cs)])) (fun k=>k≤m) (fun k=>m - k) 0 (by omega) (by refine swR [0,1,2,4] [] rfl rfl ?_;(repeat' first|exact y83 _|exact z56|apply y85|refine z11 rfl z39 ?_|constructor)) ?_
   intro k hk
   by_cases hkm:k < m
   ·have hkl:k < g.st.length:=by omega
    obtain ⟨a,b,es,eq,ca,cb⟩:=F.st k hkl
    rw [← eq] at cb
    repeat' ((first|apply y6 ok;rfl|apply z27;kernel_rfl|(apply y40;first|omega|unfold inI;omega|(try dsimp only);simp only [y46,y45,y44,y43,y55,y56];omega|exact ⟨rfl,z17 rfl z26⟩)|apply z7<;>intro _|(first|apply z31 [0] [] ca;rfl;rfl|apply z31 [0] [] cb;rfl;rfl);rfl)<;>conv=>whnf)
    all_goals try (exfalso;omega)
    all_goals refine z29 (k+1) (by omega) (by omega) (by refine swR [0,1,2,7] [4,5] rfl rfl ?_;(repeat' first|exact y83 _|refine z160 ?_;omega|apply y85|(refine z33 rfl ?_ ?_);(focus ((repeat' (first|exact z6 (fun _=>rfl)|apply z25));done))|refine z130 (by omega) (by omega) ?_|refine z93 rfl rfl rfl rfl rfl ?_|constructor)<;>(rw [es];exact y83 _))
   ·have e:k=m:=by omega
    subst e
    rw [y54 (show g.st.length≤k by omega)]
    repeat' ((first|apply y6 ok;rfl|apply y40;omega|apply z7<;>intro _)<;>conv=>whnf)
    all_goals try (exfalso;omega)
    refine y82 (y86 1 rfl) ?_
    have Fm:=F.mid
    rw [Fm]
    refine z69 (fun i:Nat=>([(0,.ptr 0 none 0),(2,.ptr 1 none 0),(5,.ptr 2 none 0),(7,.int i)],[rdO bs (pg i),.cells 2 [[.nils,.nils]],.cells 2 [[.sref 3 0 k,.sref 4 0 i]],.cells 2 (g.st.map State.cs),.cells 1 ((g.nx.take i).map encL)])) (fun i=>i≤k) (fun i=>k - i) 0 (by omega) (by refine swR [0,1,2,3,4] [] rfl rfl ?_;(repeat' first|exact y83 _|exact z56|exact z10 _|apply y85|(refine z11 rfl ?_ ?_);(focus ((repeat' (first|exact z39|exact z6 (fun _=>rfl)));done))|constructor)) ?_
    intro i hi
    by_cases hik:i < k
    ·have hil:i < g.nx.length:=by omega
     obtain ⟨a,b,c,er,eq,ca,cb,cc⟩:=F.row i hil
     rw [← eq] at cc
     by_cases hc:c=0
     ·by_cases hba:b=a
      ·rw [if_neg (fun h=>h.2 hba)] at er
       repeat' ((first|apply y6 ok;rfl|(apply y40;first|omega|unfold inI;omega|(try dsimp only);simp only [y46,y45,y44,y43,y55,y56];omega|exact ⟨rfl,z17 rfl z26⟩)|apply z107|(first|apply z7|apply z35)<;>intro _|(first|apply z31 [0] [] ca;rfl;rfl|apply z31 [0] [] cb;rfl;rfl|apply z31 [0] [] cc;rfl;rfl);rfl)<;>conv=>whnf)
       all_goals try (exfalso;omega)
       all_goals refine z29 (i+1) (by omega) (by omega) (by refine swR [0,1,2,3,7] [5] rfl rfl ?_;(repeat' first|exact y83 _|exact z10 _|apply y85|(first|refine z33 rfl ?_ ?_|refine z11 rfl ?_ ?_);(focus ((repeat' (first|exact z6 (fun _=>rfl)|apply z25));done))|refine z130 (by omega) (by omega) ?_|refine z93 rfl rfl rfl rfl rfl ?_|constructor)<;>((rw [er];exact y83 _)))
      ·rw [if_pos ⟨hc,hba⟩] at er
       repeat' ((first|apply y6 ok;rfl|(apply y40;first|omega|unfold inI;omega|(try dsimp only);simp only [y46,y45,y44,y43,y55,y56];omega|exact ⟨rfl,z17 rfl z26⟩)|apply z107|(first|apply z7|apply z35)<;>intro _|(first|apply z31 [0] [] ca;rfl;rfl|apply z31 [0] [] cb;rfl;rfl|apply z31 [0] [] cc;rfl;rfl);rfl)<;>conv=>whnf)
       all_goals try (exfalso;omega)
       all_goals refine z29 (i+1) (by omega) (by omega) (by refine swR [0,1,2,3,9] [7] rfl rfl ?_;(repeat' first|exact y83 _|exact z10 _|apply y85|(first|refine z33 rfl ?_ ?_|refine z11 rfl ?_ ?_);(focus ((repeat' (first|exact z6 (fun _=>rfl)|apply z25));done))|refine z130 (by omega) (by omega) ?_|(apply z93 rfl rfl rfl);(focus ((repeat (first|apply z219|apply z336|rfl));done));(focus ((rfl);done))|constructor)<;>((rw [er];exact y83 _)))
     ·rw [if_neg (fun h=>hc h.1)] at er
      repeat' ((first|apply y6 ok;rfl|(apply y40;first|omega|unfold inI;omega|(try dsimp only);simp only [y46,y45,y44,y43,y55,y56];omega|exact ⟨rfl,z17 rfl z26⟩)|apply z107|(first|apply z7|apply z35)<;>intro _|(first|apply z31 [0] [] ca;rfl;rfl|apply z31 [0] [] cb;rfl;rfl|apply z31 [0] [] cc;rfl;rfl);rfl)<;>conv=>whnf)
      all_goals try (exfalso;omega)
      all_goals refine z29 (i+1) (by omega) (by omega) (by refine swR [0,1,2,3,7] [5] rfl rfl ?_;(repeat' first|exact y83 _|exact z10 _|apply y85|(first|refine z33 rfl ?_ ?_|refine z11 rfl ?_ ?_);(focus ((repeat' (first|exact z6 (fun _=>rfl)|apply z25));done))|refine z130 (by omega) (by omega) ?_|refine z93 rfl rfl rfl rfl rfl ?_|constructor)<;>((rw [er];exact y83 _)))
    ·have e:i=k:=by omega
     subst e
     rw [y54 (show g.nx.length≤i by omega)]
     repeat' ((first|apply y6 ok;rfl|apply z7<;>intro _)<;>conv=>whnf)
     all_goals try (exfalso;omega)
     all_goals rw [F.last]
     all_goals (refine rsD [0] [3,4] rfl ?_;(repeat' first|exact y83 _|refine z367 ?_;omega|apply y85|(apply z55 rfl rfl rfl);(focus ((repeat ((exact z48 (fun _=>rfl) _)));done));(focus (((simp;omega));done))|apply z57|constructor))
structure Graph.d (g:Graph):Prop where
 st:g.st.length≤100
 nx:g.nx.length≤101
 el:∀ s∈g.st,s.sm
 row:∀ r∈g.nx,r.length≤1001
theorem Graph.d.mx {g:Graph} (h:g.d):g.mx:=by
 have h1:=h.st
 have h2:=h.nx
 have h3:=h.el
 exact ⟨⟨by unfold maxLen;omega,fun s hs=>⟨by have:=(h3 s hs).a;unfold maxLen;omega,by have:=(h3 s hs).b;unfold maxLen;omega⟩⟩,by unfold maxLen;omega,fun l hl=>by have:=h.row l hl;unfold maxLen;omega⟩
structure Lab.d (l:List Tree):Prop where
 len:l.length≤3
 el:∀ t∈l,t.sz≤5
theorem Lab.d.mx {l:List Tree} (h:Lab.d l):Lmx l:=Lmx_of (by have:=h.len;omega) fun t ht=>by have:=h.el t ht;omega
structure CodeOk (bs:List Int):Prop where
 len:bs.length≤maxLen
 el:∀ x∈bs,0≤x∧x≤255
theorem CodeOk.take {bs:List Int} (h:CodeOk bs):BytesOk (bs.take 2000):=⟨by simp;omega,fun x hx=>h.el x (List.mem_of_mem_take hx)⟩
theorem mutG_ok (bs:List Int) (hb:BytesOk bs) (p:Int) (hp:few3 p):∃ (g0 g:Graph) (p1 p2:Int),QQ 19 [.ptr 0 none 0] [rdO bs p] (.agg g0.cs) [rdO bs p1]∧QQ 18 [.ptr 0 none 0,.agg g0.cs] [rdO bs p1] (.agg g.cs) [rdO bs p2]∧g.d∧p≤p2∧p2≤p+6000:=by
 obtain ⟨g0,p1,⟨h1,h2,h3,h4,h5⟩,c1⟩:=z1031 bs hb p hp
 obtain ⟨g,p2,⟨k1,k2,k3,k4,k5,k6⟩,c2⟩:=z886 bs hb p1 ⟨by omega,by omega⟩ g0 h1 h2 h3
 exact ⟨g0,g,p1,p2,c1,c2,⟨k1,k2,k3,k4⟩,by omega,by omega⟩
end Go.Proofs.YteinbnahinpegaaGreat
