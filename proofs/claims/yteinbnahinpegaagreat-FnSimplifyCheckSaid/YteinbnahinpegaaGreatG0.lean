/- A part of the proofs over this program: GlA, GlB, GlC, GlC2, GlD, GlE, GlF, GlG, GlH, GlI1, GlI2, GlI, GlJ, GlK, GlH2, GlH3, GlH4. -/
import Derived.Tactics
import Derived.Orders
import GoSem.Instr.MapUpdate
import Derived.Wp
import Derived.IntWalk
import Derived.Laws.Append
set_option linter.all false
namespace Go.Gl
abbrev y40 := @And.intro
abbrev y41 := @List.getElem_mem
abbrev y42 := @List.getElem?_eq_getElem
abbrev y43 := @List.length_replicate
abbrev y44 := @List.length_append
abbrev y45 := @List.length_take
abbrev y46 := @List.length_map
abbrev y47 := @List.take_succ_eq_append_getElem
abbrev y48 := @List.getElem?_map
abbrev y49 := @Nat.le_refl
abbrev y50 := @Nat.zero_le
abbrev y51 := @List.mem_append
abbrev y52 := @List.mem_singleton
abbrev y53 := @List.take_length
abbrev y54 := @List.take_of_length_le
abbrev y55 := @List.length_cons
abbrev y56 := @List.length_nil
abbrev y57 := @List.mem_map
abbrev y58 := @List.mem_range
abbrev y59 := @List.range_succ
abbrev y60 := @List.foldl_append
abbrev y61 := @List.map_append
abbrev y62 := @List.append_nil
abbrev y63 := @List.getElem?_append_left
abbrev y64 := @List.getElem?_append_right
abbrev y65 := @List.getD_eq_getElem?_getD
abbrev y66 := @List.getElem?_eq_none
abbrev y67 := @Nat.lt_or_ge
abbrev y68 := @Bool.and_eq_true
abbrev y69 := @Bool.not_eq_true
abbrev y70 := @List.mem_cons_of_mem
abbrev y71 := @List.eq_nil_of_length_eq_zero
abbrev y72 := @List.ext_getElem
abbrev y73 := @List.nodup_append
abbrev y74 := @Int.toNat_natCast
abbrev y75 := @Classical.byContradiction
abbrev y76 := @List.all_eq_true
abbrev y77 := @List.drop_eq_getElem_cons
abbrev y78 := @Array.getD_eq_getD_getElem?
abbrev y79 := @decide_eq_true
abbrev y80 := @decide_eq_false
abbrev y81 := @List.drop_eq_nil_of_le
inductive AC where
 |any
 |raw (v:Value)
 |list (w n:Nat) (es:List (List AC))
 |pt (cs:List AC)
 |sref (o off len:Nat)
 |ptr (o:Nat) (i:Option Nat) (off:Nat)
 |mref (o:Nat)
 |own (w:Nat) (es:List (List AC))
 |fn (f:Fn) (first caps:List AC)
 |agg (cs:List AC)
 |tup (cs:List AC)
 deriving Inhabited
@[reducible] def AC.int (n:Int):AC:=.raw (.int .i64 n)
@[reducible] def AC.bool (b:Bool):AC:=.raw (.bool b)
@[reducible] def AC.nils:AC:=.raw (.slice none 0 0)
inductive AObj where
 |fresh
 |dead
 |cells (w:Nat) (es:List (List AC))
 |mp (d:Nat) (es:List (List Int×Int))
def keyV:Nat→List Int→Value
 |0,l=>.int .i64 (l.headD 0)
 |_+1,l=>.agg (l.map (Value.int .i64)).toArray
def kLen:Nat→Nat
 |0=>1
 |n+1=>if n < 64 then n+1 else n - 63
def valV (d:Nat) (n:Int):Value:=if d≤64 then .int .i64 n else .bool (decide (n≠0))
def MapRel (d:Nat) (es:List (List Int×Int)) (c:List MapEntry):Prop :=
 c.map (fun e=>(e.key,e.val))=es.map (fun p=>(keyV d p.1,valV d p.2))∧∀ p∈es,p.1.length=kLen d
structure Ghost where
 S:Nat→Option Obj
 U:Nat→Option Obj
 ι:Nat→Option (Nat×Nat×Nat)
 κ:Nat→Option (Nat×List Nat)
abbrev Loc:=Option (Nat×List Nat)
def Loc.cell (l:Loc) (j:Nat):Loc:=l.map fun p=>(p.1,j::p.2)
def Ghost.bare (G:Ghost):Ghost:={ G with ι:=fun _=>none }
mutual
def V (G:Ghost) (h:Nat→Option Obj) (l:Loc) (x:AC) (v:Value):Prop:=match x with
 |.any=>True
 |.raw u=>v=u
 |.list w n es=>∃ a cap,v=.slice a n cap∧n≤cap∧es.length=n∧(es=[]∨∃ b off c el fz,a=some ⟨b,off,none⟩∧G.S b=some (.cells c el fz)∧VLL G.bare h none w es c off)
 |.pt cs=>∃ b off c el fz,v=.pointer (some ⟨b,off,none⟩)∧G.S b=some (.cells c el fz)∧VL G.bare h none cs c off
 |.sref o off len=>∃ cap,len≤cap∧((cap=0∧∃ a,v=.slice a 0 0)∨∃ b size w,G.ι o=some (b,size,w)∧(off+cap) * w≤size∧v=.slice (some ⟨b,off * w,none⟩) len cap)
 |.ptr o i off=>∃ b size w,G.ι o=some (b,size,w)∧v=.pointer (some ⟨b,i.getD 0 * w+off,none⟩)
 |.mref o=>∃ b size w,G.ι o=some (b,size,w)∧v=.map (some b)
 |.own w es=>∃ a cap,v=.slice a es.length cap∧es.length≤cap∧((es=[]∧cap=0)∨∃ b c el p,a=some ⟨b,0,none⟩∧l=some p∧G.κ b=some p∧h b=some (.cells c el (0,0))∧cap * w≤c.size∧VLL G.bare h l w es c 0)
 |.fn f first caps=>∃ xs ys,v=.func f xs ys∧xs.size=first.length∧ys.size=caps.length∧VL G h none first xs 0∧VL G h none caps ys 0
 |.agg cs=>∃ c,v=.agg c∧c.size=cs.length∧VL G h none cs c 0
 |.tup cs=>∃ c,v=.tuple c∧c.size=cs.length∧VL G h none cs c 0
termination_by structural x
def VL (G:Ghost) (h:Nat→Option Obj) (l:Loc) (xs:List AC) (c:Array Value) (off:Nat):Prop:=match xs with
 |[]=>True
 |x::xs=>(∃ v,c[off]?=some v∧V G h (l.cell off) x v)∧VL G h l xs c (off+1)
termination_by structural xs
def VLL (G:Ghost) (h:Nat→Option Obj) (l:Loc) (w:Nat) (es:List (List AC)) (c:Array Value) (off:Nat):Prop:=match es with
 |[]=>True
 |e::es=>e.length=w∧VL G h l e c off∧VLL G h l w es c (off+w)
termination_by structural es
end
structure St where
 env:Nat→AC
 objs:Nat→AObj
 next:Nat
 n:Nat
def hp (w:World):Nat→Option Obj:=fun b=>w.heap[b]?
def ObjRel (G:Ghost) (h:Nat→Option Obj) (o:Nat):AObj→Prop
 |.fresh=>G.ι o=none
 |.dead=>True
 |.mp d es=>∃ b size w c clock,G.ι o=some (b,size,w)∧G.κ b=some (o,[])∧h b=some (.map c clock)∧MapRel d es c.toList
 |.cells w es=>(es=[]∧G.ι o=none)∨∃ b size c el,G.ι o=some (b,size,w)∧G.κ b=some (o,[])∧h b=some (.cells c el (0,0))∧c.size=size∧VLL G h (some (o,[])) w es c 0
structure Wf (G:Ghost) (objs:Nat→AObj) (w:World):Prop where
 hS:∀ b x,G.S b=some x→w.heap[b]?=some x
 hU:∀ b x,G.U b=some x→w.heap[b]?=some x
 su:∀ b x,G.U b=some x→G.S b=none
 sk:∀ b p,G.κ b=some p→G.S b=none∧G.U b=none∧b < w.heap.size
 objs:∀ o,ObjRel G (hp w) o (objs o)
def Marks (G:Ghost) (ds:List Deferred):Prop:=∃ Ds:List Nat,ds=Ds.map (fun D=>{ target:=.collected D,args:=#[] })∧Ds.Nodup∧∀ D∈Ds,G.S D=some (.deferred (some []))
theorem Marks.nil (G:Ghost):Marks G []:=⟨[],rfl,.nil,by simp⟩
theorem Marks.mono {G G' : Ghost} {ds:List Deferred} (h:∀ b x,G.S b=some x→G'.S b=some x):Marks G ds→Marks G' ds:=fun ⟨Ds,h1,h2,h3⟩=>⟨Ds,h1,h2,fun D hD=>h _ _ (h3 D hD)⟩
structure Rel (G:Ghost) (st:St) (a:Act) (w:World):Prop where
 wf:Wf G st.objs w
 env:∀ s,V G (hp w) none (st.env s) (a.tmps.getD s undef)
 size:a.tmps.size=st.n
 defers:Marks G a.defers
structure Le (w w' : World):Prop where
 os:w'.os=w.os
 tape:w'.tape=w.tape
 output:w'.output=w.output
 size:w.heap.size≤w'.heap.size
theorem Le.refl (w:World):Le w w:=⟨rfl,rfl,rfl,y49 _⟩
theorem Le.trans {a b c:World} (h:Le a b) (k:Le b c):Le a c :=
 ⟨k.os.trans h.os,k.tape.trans h.tape,k.output.trans h.output,Nat.le_trans h.size k.size⟩
structure Ghost.Sub (G G' : Ghost):Prop where
 S:∀ b x,G.S b=some x→G'.S b=some x
 U:G'.U=G.U
theorem Ghost.Sub.refl (G:Ghost):G.Sub G:=⟨fun _ _ h=>h,rfl⟩
theorem Ghost.Sub.trans {a b c:Ghost} (h:a.Sub b) (k:b.Sub c):a.Sub c :=
 ⟨fun x y e=>k.S x y (h.S x y e),k.U.trans h.U⟩
mutual
def AC.under (M:Nat) (x:AC):Bool:=match x with
 |.sref o _ _=>Nat.blt o M
 |.ptr o _ _=>Nat.blt o M
 |.mref o=>Nat.blt o M
 |.fn _ first caps=>match z138 M first with
  |true=>z138 M caps
  |false=>false
 |.agg cs=>z138 M cs
 |.tup cs=>z138 M cs
 |_=>true
termination_by structural x
def z138 (M:Nat) (xs:List AC):Bool:=match xs with
 |[]=>true
 |x::xs=>match x.under M with
  |true=>z138 M xs
  |false=>false
termination_by structural xs
end
mutual
def AC.ren (r:Nat→Nat) (x:AC):AC:=match x with
 |.sref o off len=>.sref (r o) off len
 |.ptr o i off=>.ptr (r o) i off
 |.mref o=>.mref (r o)
 |.fn f first caps=>.fn f (renL r first) (renL r caps)
 |.agg cs=>.agg (renL r cs)
 |.tup cs=>.tup (renL r cs)
 |x=>x
termination_by structural x
def renL (r:Nat→Nat) (xs:List AC):List AC:=match xs with
 |[]=>[]
 |x::xs=>x.ren r::renL r xs
termination_by structural xs
end
theorem z179 (r:Nat→Nat) (xs:List AC):renL r xs=xs.map (AC.ren r):=by
 induction xs with
 |nil=>rfl
 |cons x xs ih=>simp [renL,ih]
theorem z439 {M:Nat} {xs:List AC} : z138 M xs=true↔∀ x∈xs,x.under M=true:=by
 induction xs with
 |nil=>simp [z138]
 |cons x xs ih =>
  simp only [z138]
  cases h:x.under M<;>simp [ih,h]
section move
mutual
theorem z916 (x : AC) (G G' : Ghost) (h h' : Nat → Option Obj) (f : Nat × List Nat → Nat × List Nat) (D : Nat × List Nat → Prop) (hS : ∀ b c el fz, G.S b = some (.cells c el fz) → G'.S b = some (.cells c el fz)) (hι : ∀ o t, G.ι o = some t → G'.ι o = some t)
    (hf:∀ o j q,f (o,j::q)=((f (o,q)).1,j::(f (o,q)).2)) (hD:∀ o j q,D (o,q)→D (o,j::q))
    (hκ:∀ b p,D p→G.κ b=some p→G'.κ b=some (f p)∧h' b=h b) (l:Loc) (v:Value) (hl:∀ p,l=some p→D p) (hv:V G h l x v):V G' h' (l.map f) x v:=by
  have hb:∀ b p,False→G.bare.κ b=some p→G'.bare.κ b=some (id p)∧h' b=h b:=fun _ _ h=>h.elim
  match x with
  | .any=>simp [V]
  | .raw _=>simpa [V] using hv
  | .list w n es =>
    simp only [V] at hv ⊢
    obtain ⟨a,cap,rfl,hcap,hn,hv⟩:=hv
    refine ⟨a,cap,rfl,hcap,hn,hv.imp id ?_⟩
    rintro ⟨b,off,c,el,fz,rfl,hb',hc⟩
    exact ⟨b,off,c,el,fz,rfl,hS _ _ _ _ hb',z335 es G.bare G'.bare h h' id (fun _=>False) hS (fun _ _ e=>e) (fun _ _ _=>rfl) (fun _ _ _ h=>h) hb none w c off (by simp) hc⟩
  | .pt cs =>
    simp only [V] at hv ⊢
    obtain ⟨b,off,c,el,fz,rfl,hb',hc⟩:=hv
    exact ⟨b,off,c,el,fz,rfl,hS _ _ _ _ hb',z247 cs G.bare G'.bare h h' id (fun _=>False) hS (fun _ _ e=>e) (fun _ _ _=>rfl) (fun _ _ _ h=>h) hb none c off (by simp) hc⟩
  | .sref o off len =>
    simp only [V] at hv ⊢
    obtain ⟨cap,hc,hv⟩:=hv
    refine ⟨cap,hc,hv.imp id ?_⟩
    rintro ⟨b,size,w,hb,h2⟩
    exact ⟨b,size,w,hι _ _ hb,h2⟩
  | .ptr o i off =>
    simp only [V] at hv ⊢
    obtain ⟨b,size,w,hb,h2⟩:=hv
    exact ⟨b,size,w,hι _ _ hb,h2⟩
  | .mref o =>
    simp only [V] at hv ⊢
    obtain ⟨b,size,w,hb,h2⟩:=hv
    exact ⟨b,size,w,hι _ _ hb,h2⟩
  | .own w es =>
    simp only [V] at hv ⊢
    obtain ⟨a,cap,rfl,hcap,hv⟩:=hv
    refine ⟨a,cap,rfl,hcap,hv.imp id ?_⟩
    rintro ⟨b,c,el,p,rfl,rfl,hk,hb,hs,hc⟩
    obtain ⟨hk',hh'⟩:=hκ b p (hl p rfl) hk
    exact ⟨b,c,el,f p,rfl,rfl,hk',by rw [hh',hb],hs,z335 es G.bare G'.bare h h' f D hS (fun _ _ e=>e) hf hD hκ (some p) w c 0 (fun q hq j=>by cases hq;exact hD _ _ _ (hl p rfl)) hc⟩
  | .fn g first caps =>
    simp only [V] at hv ⊢
    obtain ⟨xs,ys,rfl,h1,h2,h3,h4⟩:=hv
    exact ⟨xs,ys,rfl,h1,h2,z247 first G G' h h' f D hS hι hf hD hκ none xs 0 (by simp) h3,z247 caps G G' h h' f D hS hι hf hD hκ none ys 0 (by simp) h4⟩
  | .agg cs =>
    simp only [V] at hv ⊢
    obtain ⟨c,rfl,h1,h3⟩:=hv
    exact ⟨c,rfl,h1,z247 cs G G' h h' f D hS hι hf hD hκ none c 0 (by simp) h3⟩
  | .tup cs =>
    simp only [V] at hv ⊢
    obtain ⟨c,rfl,h1,h3⟩:=hv
    exact ⟨c,rfl,h1,z247 cs G G' h h' f D hS hι hf hD hκ none c 0 (by simp) h3⟩
termination_by structural x
theorem z247 (xs : List AC) (G G' : Ghost) (h h' : Nat → Option Obj) (f : Nat × List Nat → Nat × List Nat) (D : Nat × List Nat → Prop) (hS : ∀ b c el fz, G.S b = some (.cells c el fz) → G'.S b = some (.cells c el fz)) (hι : ∀ o t, G.ι o = some t → G'.ι o = some t)
    (hf:∀ o j q,f (o,j::q)=((f (o,q)).1,j::(f (o,q)).2)) (hD:∀ o j q,D (o,q)→D (o,j::q))
    (hκ:∀ b p,D p→G.κ b=some p→G'.κ b=some (f p)∧h' b=h b) (l:Loc) (c:Array Value) (off:Nat) (hl:∀ p,l=some p→∀ j,D (p.1,j::p.2)) (hv:VL G h l xs c off):VL G' h' (l.map f) xs c off:=by
  match xs with
  | []=>simp [VL]
  | x::xs =>
    simp only [VL] at hv ⊢
    obtain ⟨⟨v,hv1,hv2⟩,hv3⟩:=hv
    refine ⟨⟨v,hv1,?_⟩,z247 xs G G' h h' f D hS hι hf hD hκ l c (off+1) hl hv3⟩
    have:=z916 x G G' h h' f D hS hι hf hD hκ (l.cell off) v (by
      intro p hp
      cases l with
      | none=>simp [Loc.cell] at hp
      | some q=>simp [Loc.cell] at hp;subst hp;exact hl q rfl off) hv2
    cases l with
    | none=>exact this
    | some q =>
      simp only [Loc.cell,Option.map_some] at this ⊢
      rw [hf q.1 off q.2] at this
      exact this
termination_by structural xs
theorem z335 (es : List (List AC)) (G G' : Ghost) (h h' : Nat → Option Obj) (f : Nat × List Nat → Nat × List Nat) (D : Nat × List Nat → Prop) (hS : ∀ b c el fz, G.S b = some (.cells c el fz) → G'.S b = some (.cells c el fz)) (hι : ∀ o t, G.ι o = some t → G'.ι o = some t)
    (hf:∀ o j q,f (o,j::q)=((f (o,q)).1,j::(f (o,q)).2)) (hD:∀ o j q,D (o,q)→D (o,j::q))
    (hκ:∀ b p,D p→G.κ b=some p→G'.κ b=some (f p)∧h' b=h b) (l:Loc) (w:Nat) (c:Array Value) (off:Nat) (hl:∀ p,l=some p→∀ j,D (p.1,j::p.2)) (hv:VLL G h l w es c off):VLL G' h' (l.map f) w es c off:=by
  match es with
  | []=>simp [VLL]
  | e::es =>
    simp only [VLL] at hv ⊢
    obtain ⟨h1,h2,h3⟩:=hv
    exact ⟨h1,z247 e G G' h h' f D hS hι hf hD hκ l c off hl h2,z335 es G G' h h' f D hS hι hf hD hκ l w c (off+w) hl h3⟩
termination_by structural es
end
theorem z302 (x : AC) (G G' : Ghost) (h h' : Nat → Option Obj) (f : Nat × List Nat → Nat × List Nat) (D : Nat × List Nat → Prop) (hS : ∀ b x, G.S b = some x → G'.S b = some x) (hι : ∀ o t, G.ι o = some t → G'.ι o = some t)
    (hf:∀ o j q,f (o,j::q)=((f (o,q)).1,j::(f (o,q)).2)) (hD:∀ o j q,D (o,q)→D (o,j::q))
    (hκ:∀ b p,D p→G.κ b=some p→G'.κ b=some (f p)∧h' b=h b) (l:Loc) (v:Value) (hl:∀ p,l=some p→D p) (hv:V G h l x v):V G' h' (l.map f) x v :=
  z916 x G G' h h' f D (fun b c el fz e=>hS b _ e) hι hf hD hκ l v hl hv
theorem VL_move (xs : List AC) (G G' : Ghost) (h h' : Nat → Option Obj) (f : Nat × List Nat → Nat × List Nat) (D : Nat × List Nat → Prop) (hS : ∀ b x, G.S b = some x → G'.S b = some x) (hι : ∀ o t, G.ι o = some t → G'.ι o = some t)
    (hf:∀ o j q,f (o,j::q)=((f (o,q)).1,j::(f (o,q)).2)) (hD:∀ o j q,D (o,q)→D (o,j::q))
    (hκ:∀ b p,D p→G.κ b=some p→G'.κ b=some (f p)∧h' b=h b) (l:Loc) (c:Array Value) (off:Nat) (hl:∀ p,l=some p→∀ j,D (p.1,j::p.2)) (hv:VL G h l xs c off):VL G' h' (l.map f) xs c off :=
  z247 xs G G' h h' f D (fun b c el fz e=>hS b _ e) hι hf hD hκ l c off hl hv
theorem z190 (es : List (List AC)) (G G' : Ghost) (h h' : Nat → Option Obj) (f : Nat × List Nat → Nat × List Nat) (D : Nat × List Nat → Prop) (hS : ∀ b x, G.S b = some x → G'.S b = some x) (hι : ∀ o t, G.ι o = some t → G'.ι o = some t)
    (hf:∀ o j q,f (o,j::q)=((f (o,q)).1,j::(f (o,q)).2)) (hD:∀ o j q,D (o,q)→D (o,j::q))
    (hκ:∀ b p,D p→G.κ b=some p→G'.κ b=some (f p)∧h' b=h b) (l:Loc) (w:Nat) (c:Array Value) (off:Nat) (hl:∀ p,l=some p→∀ j,D (p.1,j::p.2)) (hv:VLL G h l w es c off):VLL G' h' (l.map f) w es c off :=
  z335 es G G' h h' f D (fun b c el fz e=>hS b _ e) hι hf hD hκ l w c off hl hv
end move
mutual
theorem V_ren (x : AC) (M : Nat) (r : Nat → Nat) (G G' : Ghost) (h h' : Nat → Option Obj) (f : Nat × List Nat → Nat × List Nat) (D : Nat × List Nat → Prop) (hS : ∀ b x, G.S b = some x → G'.S b = some x) (hι : ∀ o t, o < M → G.ι o = some t → G'.ι (r o) = some t)
    (hf:∀ o j q,f (o,j::q)=((f (o,q)).1,j::(f (o,q)).2)) (hD:∀ o j q,D (o,q)→D (o,j::q))
    (hκ:∀ b p,D p→G.κ b=some p→G'.κ b=some (f p)∧h' b=h b) (l:Loc) (v:Value) (hl:∀ p,l=some p→D p) (hu:x.under M=true) (hv:V G h l x v):V G' h' (l.map f) (x.ren r) v:=by
  match x with
  | .any=>simp [V,AC.ren]
  | .raw _=>simpa [V,AC.ren] using hv
  | .list w n es=>exact z302 (.list w n es) G.bare G'.bare h h' f D hS (fun _ _ e=>e) hf hD hκ l v hl hv
  | .pt cs=>exact z302 (.pt cs) G.bare G'.bare h h' f D hS (fun _ _ e=>e) hf hD hκ l v hl hv
  | .own w es=>exact z302 (.own w es) G.bare G'.bare h h' f D hS (fun _ _ e=>e) hf hD hκ l v hl hv
  | .sref o off len =>
    simp only [V,AC.ren,AC.under] at hv hu ⊢
    obtain ⟨cap,hc,hv⟩:=hv
    refine ⟨cap,hc,hv.imp id ?_⟩
    rintro ⟨b,size,w,hb,h2⟩
    exact ⟨b,size,w,hι _ _ (by simpa [Nat.blt_eq] using hu) hb,h2⟩
  | .ptr o i off =>
    simp only [V,AC.ren,AC.under] at hv hu ⊢
    obtain ⟨b,size,w,hb,h2⟩:=hv
    exact ⟨b,size,w,hι _ _ (by simpa [Nat.blt_eq] using hu) hb,h2⟩
  | .mref o =>
    simp only [V,AC.ren,AC.under] at hv hu ⊢
    obtain ⟨b,size,w,hb,h2⟩:=hv
    exact ⟨b,size,w,hι _ _ (by simpa [Nat.blt_eq] using hu) hb,h2⟩
  | .fn g first caps =>
    simp only [V,AC.ren,AC.under] at hv hu ⊢
    cases hu1:z138 M first<;>rw [hu1] at hu
    · simp at hu
    · obtain ⟨xs,ys,rfl,h1,h2,h3,h4⟩:=hv
      refine ⟨xs,ys,rfl,by simpa [z179] using h1,by simpa [z179] using h2,z828 first M r G G' h h' f D hS hι hf hD hκ none xs 0 (by simp) hu1 h3,z828 caps M r G G' h h' f D hS hι hf hD hκ none ys 0 (by simp) hu h4⟩
  | .agg cs =>
    simp only [V,AC.ren,AC.under] at hv hu ⊢
    obtain ⟨c,rfl,h1,h3⟩:=hv
    exact ⟨c,rfl,by simpa [z179] using h1,z828 cs M r G G' h h' f D hS hι hf hD hκ none c 0 (by simp) hu h3⟩
  | .tup cs =>
    simp only [V,AC.ren,AC.under] at hv hu ⊢
    obtain ⟨c,rfl,h1,h3⟩:=hv
    exact ⟨c,rfl,by simpa [z179] using h1,z828 cs M r G G' h h' f D hS hι hf hD hκ none c 0 (by simp) hu h3⟩
termination_by structural x
theorem z828 (xs : List AC) (M : Nat) (r : Nat → Nat) (G G' : Ghost) (h h' : Nat → Option Obj) (f : Nat × List Nat → Nat × List Nat) (D : Nat × List Nat → Prop) (hS : ∀ b x, G.S b = some x → G'.S b = some x) (hι : ∀ o t, o < M → G.ι o = some t → G'.ι (r o) = some t)
    (hf:∀ o j q,f (o,j::q)=((f (o,q)).1,j::(f (o,q)).2)) (hD:∀ o j q,D (o,q)→D (o,j::q))
    (hκ:∀ b p,D p→G.κ b=some p→G'.κ b=some (f p)∧h' b=h b) (l:Loc) (c:Array Value) (off:Nat) (hl:∀ p,l=some p→∀ j,D (p.1,j::p.2)) (hu:z138 M xs=true) (hv:VL G h l xs c off):VL G' h' (l.map f) (renL r xs) c off:=by
  match xs with
  | []=>simp [VL,renL]
  | x::xs =>
    simp only [VL,renL,z138] at hv hu ⊢
    cases hu1:x.under M<;>rw [hu1] at hu
    · simp at hu
    · obtain ⟨⟨v,hv1,hv2⟩,hv3⟩:=hv
      refine ⟨⟨v,hv1,?_⟩,z828 xs M r G G' h h' f D hS hι hf hD hκ l c (off+1) hl hu hv3⟩
      have:=V_ren x M r G G' h h' f D hS hι hf hD hκ (l.cell off) v (by
        intro p hp
        cases l with
        | none=>simp [Loc.cell] at hp
        | some q=>simp [Loc.cell] at hp;subst hp;exact hl q rfl off) hu1 hv2
      cases l with
      | none=>exact this
      | some q =>
        simp only [Loc.cell,Option.map_some] at this ⊢
        rw [hf q.1 off q.2] at this
        exact this
termination_by structural xs
end
mutual
theorem z914 (x : AC) (M : Nat) (r : Nat → Nat) (G G' : Ghost) (h h' : Nat → Option Obj) (f : Nat × List Nat → Nat × List Nat) (D : Nat × List Nat → Prop) (hS : ∀ b x, G.S b = some x → G'.S b = some x) (hι : ∀ o t, o < M → G.ι (r o) = some t → G'.ι o = some t)
    (hf:∀ o j q,f (o,j::q)=((f (o,q)).1,j::(f (o,q)).2)) (hD:∀ o j q,D (o,q)→D (o,j::q))
    (hκ:∀ b p,D p→G.κ b=some p→G'.κ b=some (f p)∧h' b=h b) (l:Loc) (v:Value) (hl:∀ p,l=some p→D p) (hu:x.under M=true) (hv:V G h l (x.ren r) v):V G' h' (l.map f) x v:=by
  match x with
  | .any=>simp [V,AC.ren]
  | .raw _=>simpa [V,AC.ren] using hv
  | .list w n es=>exact z302 (.list w n es) G.bare G'.bare h h' f D hS (fun _ _ e=>e) hf hD hκ l v hl hv
  | .pt cs=>exact z302 (.pt cs) G.bare G'.bare h h' f D hS (fun _ _ e=>e) hf hD hκ l v hl hv
  | .own w es=>exact z302 (.own w es) G.bare G'.bare h h' f D hS (fun _ _ e=>e) hf hD hκ l v hl hv
  | .sref o off len =>
    simp only [V,AC.ren,AC.under] at hv hu ⊢
    obtain ⟨cap,hc,hv⟩:=hv
    refine ⟨cap,hc,hv.imp id ?_⟩
    rintro ⟨b,size,w,hb,h2⟩
    exact ⟨b,size,w,hι _ _ (by simpa [Nat.blt_eq] using hu) hb,h2⟩
  | .ptr o i off =>
    simp only [V,AC.ren,AC.under] at hv hu ⊢
    obtain ⟨b,size,w,hb,h2⟩:=hv
    exact ⟨b,size,w,hι _ _ (by simpa [Nat.blt_eq] using hu) hb,h2⟩
  | .mref o =>
    simp only [V,AC.ren,AC.under] at hv hu ⊢
    obtain ⟨b,size,w,hb,h2⟩:=hv
    exact ⟨b,size,w,hι _ _ (by simpa [Nat.blt_eq] using hu) hb,h2⟩
  | .fn g first caps =>
    simp only [V,AC.ren,AC.under] at hv hu ⊢
    cases hu1:z138 M first<;>rw [hu1] at hu
    · simp at hu
    · obtain ⟨xs,ys,rfl,h1,h2,h3,h4⟩:=hv
      refine ⟨xs,ys,rfl,by simpa [z179] using h1,by simpa [z179] using h2,z434 first M r G G' h h' f D hS hι hf hD hκ none xs 0 (by simp) hu1 h3,z434 caps M r G G' h h' f D hS hι hf hD hκ none ys 0 (by simp) hu h4⟩
  | .agg cs =>
    simp only [V,AC.ren,AC.under] at hv hu ⊢
    obtain ⟨c,rfl,h1,h3⟩:=hv
    exact ⟨c,rfl,by simpa [z179] using h1,z434 cs M r G G' h h' f D hS hι hf hD hκ none c 0 (by simp) hu h3⟩
  | .tup cs =>
    simp only [V,AC.ren,AC.under] at hv hu ⊢
    obtain ⟨c,rfl,h1,h3⟩:=hv
    exact ⟨c,rfl,by simpa [z179] using h1,z434 cs M r G G' h h' f D hS hι hf hD hκ none c 0 (by simp) hu h3⟩
termination_by structural x
theorem z434 (xs : List AC) (M : Nat) (r : Nat → Nat) (G G' : Ghost) (h h' : Nat → Option Obj) (f : Nat × List Nat → Nat × List Nat) (D : Nat × List Nat → Prop) (hS : ∀ b x, G.S b = some x → G'.S b = some x) (hι : ∀ o t, o < M → G.ι (r o) = some t → G'.ι o = some t)
    (hf:∀ o j q,f (o,j::q)=((f (o,q)).1,j::(f (o,q)).2)) (hD:∀ o j q,D (o,q)→D (o,j::q))
    (hκ:∀ b p,D p→G.κ b=some p→G'.κ b=some (f p)∧h' b=h b) (l:Loc) (c:Array Value) (off:Nat) (hl:∀ p,l=some p→∀ j,D (p.1,j::p.2)) (hu:z138 M xs=true) (hv:VL G h l (renL r xs) c off):VL G' h' (l.map f) xs c off:=by
  match xs with
  | []=>simp [VL,renL]
  | x::xs =>
    simp only [VL,renL,z138] at hv hu ⊢
    cases hu1:x.under M<;>rw [hu1] at hu
    · simp at hu
    · obtain ⟨⟨v,hv1,hv2⟩,hv3⟩:=hv
      refine ⟨⟨v,hv1,?_⟩,z434 xs M r G G' h h' f D hS hι hf hD hκ l c (off+1) hl hu hv3⟩
      have:=z914 x M r G G' h h' f D hS hι hf hD hκ (l.cell off) v (by
        intro p hp
        cases l with
        | none=>simp [Loc.cell] at hp
        | some q=>simp [Loc.cell] at hp;subst hp;exact hl q rfl off) hu1 hv2
      cases l with
      | none=>exact this
      | some q =>
        simp only [Loc.cell,Option.map_some] at this ⊢
        rw [hf q.1 off q.2] at this
        exact this
termination_by structural xs
end
section index
variable {G:Ghost} {h:Nat→Option Obj}
theorem z70 {l : Loc} {xs : List AC} {c : Array Value} {off : Nat} :
    VL G h l xs c off↔∀ j x,xs[j]?=some x→∃ v,c[off+j]?=some v∧V G h (l.cell (off+j)) x v:=by
  induction xs generalizing off with
  | nil=>simp [VL]
  | cons y ys ih =>
    simp only [VL,ih]
    constructor
    · rintro ⟨h1,h2⟩ j x hx
      cases j with
      | zero=>simp at hx;subst hx;simpa using h1
      | succ j=>simp at hx;have:=h2 j x hx;rwa [show off+(j+1)=off+1+j by omega]
    · intro hh
      refine ⟨by simpa using hh 0 y (by simp),fun j x hx=>?_⟩
      have:=hh (j+1) x (by simpa using hx)
      rwa [show off+(j+1)=off+1+j by omega] at this
theorem z74 {l : Loc} {w : Nat} {es : List (List AC)} {c : Array Value} {off : Nat} :
    VLL G h l w es c off↔∀ i e,es[i]?=some e→e.length=w∧VL G h l e c (off+i * w):=by
  induction es generalizing off with
  | nil=>simp [VLL]
  | cons y ys ih =>
    simp only [VLL,ih]
    constructor
    · rintro ⟨h0,h1,h2⟩ i e he
      cases i with
      | zero=>simp at he;subst he;simpa using ⟨h0,h1⟩
      | succ i=>simp at he;have:=h2 i e he;rwa [show off+(i+1) * w=off+w+i * w by rw [Nat.add_mul];omega]
    · intro hh
      refine ⟨(hh 0 y (by simp)).1,by simpa using (hh 0 y (by simp)).2,fun i e he=>?_⟩
      have:=hh (i+1) e (by simpa using he)
      rwa [show off+(i+1) * w=off+w+i * w by rw [Nat.add_mul];omega] at this
theorem z149 {G' : Ghost} {h' : Nat → Option Obj} (hS : ∀ b x, G.S b = some x → G'.S b = some x) (hι : ∀ o t, G.ι o = some t → G'.ι o = some t) {x : AC} {v : Value}
    (hv:V G h none x v):V G' h' none x v :=
  z302 x G G' h h' id (fun _=>False) hS hι (fun _ _ _=>rfl) (fun _ _ _ h=>h) (fun _ _ h=>h.elim) none v (by simp) hv
theorem VL_none {G' : Ghost} {h' : Nat → Option Obj} (hS : ∀ b x, G.S b = some x → G'.S b = some x) (hι : ∀ o t, G.ι o = some t → G'.ι o = some t) {xs : List AC} {c : Array Value} {off : Nat}
    (hv:VL G h none xs c off):VL G' h' none xs c off :=
  VL_move xs G G' h h' id (fun _=>False) hS hι (fun _ _ _=>rfl) (fun _ _ _ h=>h) (fun _ _ h=>h.elim) none c off (by simp) hv
theorem z1272 {h' : Nat→Option Obj} {xs:List AC} {c:Array Value} {off:Nat} (hv:VL G.bare h none xs c off):VL G h' none xs c off :=
 VL_none (G:=G.bare) (G':=G) (fun _ _ e=>e) (fun _ _ e=>by cases e) hv
theorem V_at {l:Loc} {x:AC} {v:Value} (hv:V G h none x v):V G h l x v:=by
 cases x with
 |own w es =>
  simp only [V] at hv ⊢
  obtain ⟨a,cap,rfl,hcap,hv⟩:=hv
  refine ⟨a,cap,rfl,hcap,.inl ?_⟩
  rcases hv with hv|⟨b,c,el,p,_,hp,_⟩
  ·exact hv
  ·exact absurd hp (by simp)
 |_=>exact hv
def AC.isOwn:AC→Bool
 |.own ..=>true
 |_=>false
theorem z1271 {l:Loc} {x:AC} {v:Value} (hx:x.isOwn=false) (hv:V G h l x v):V G h none x v:=by
 cases x with
 |own w es=>simp [AC.isOwn] at hx
 |_=>exact hv
end index
end Go.Gl
namespace Go.Gl
variable {P:Program} {a:Act} {w w' : World} {next:Act→World→Prop} {Q:Exit→Act→World→Prop}
theorem wp_v {o : Oper} {s : Sem Value} {v : Value} (he : execOp a.eval o = (do pure (.value (← s)))) (hs : s.run P w = .ok v w')
    (h:next (a.put o.dst v) w'):o.wp P a w next Q:=by
  unfold Oper.wp
  rw [he]
  simp only [Sem.run_bind,hs]
  exact h
theorem wp_u {o : Oper} {s : Sem Unit} (he : execOp a.eval o = (do s; pure .skip)) (hs : s.run P w = .ok () w')
    (h:next (a.put o.dst undef) w'):o.wp P a w next Q:=by
  unfold Oper.wp
  rw [he]
  simp only [Sem.run_bind,hs]
  exact h
theorem z59 {t:TypeId} {d:TypeDesc} (h:P.underlying t=some d):(underlying t).run P w=.ok d w:=by
 simp [underlying,program,Sem.run,h,go_sem]
theorem z193 {t:TypeId} {i:TypeInfo} (h:P.info? t=some i):(typeInfo t).run P w=.ok i w:=by
 simp [typeInfo,program,Sem.run,h,go_sem]
theorem z157 {t:TypeId} {i:TypeInfo} (h:P.info? t=some i):(sizeOf t).run P w=.ok i.size w:=by
 simp [sizeOf,z193 h,go_sem]
theorem z166 {t:TypeId} {i:TypeInfo} {z:Value} (h:P.info? t=some i) (hz:i.zero=some z):(zeroValue t).run P w=.ok z w:=by
 simp [zeroValue,z193 h,hz,go_sem]
def aggB:TypeDesc→Bool
 |.struct _=>true
 |.array _ _=>true
 |_=>false
theorem z396 {t:TypeId} {d:TypeDesc} (h:P.underlying t=some d):(isAgg t).run P w=.ok (aggB d) w:=by
 simp only [isAgg,Sem.run_bind,z59 h]
 cases d<;>simp [aggB,go_sem]
theorem z937 {b off:Nat} {c el fz v} (hb:w.heap[b]?=some (.cells c el fz)) (hc:c[off]?=some v):(load ⟨b,off,none⟩).run P w=.ok v w:=by
 simp [load,Sem.run,World.cell?,hb,hc]
theorem z477 (b off i:Nat):(⟨b,off,none⟩:Addr).add i=⟨b,off+i,none⟩:=by
 unfold Addr.add;split<;>simp_all
theorem z258 {b off : Nat} {c el fz} (hb : w.heap[b]? = some (.cells c el fz)) (n : Nat) :
    ∀ (i:Nat) (acc:Array Value),off+i+n≤c.size→(loadCellsFrom ⟨b,off,none⟩ i n acc).run P w=.ok (acc++c.extract (off+i) (off+i+n)) w:=by
  induction n with
  | zero=>intro i acc h;simp [loadCellsFrom,go_sem];omega
  | succ n ih =>
    intro i acc h
    simp only [loadCellsFrom,z477,Sem.run_bind]
    rw [z937 hb (v:=c[off+i]) (by rw [Array.getElem?_eq_getElem (by omega)])]
    simp only [Result.andThen]
    rw [ih (i+1) _ (by omega)]
    congr 1
    apply Array.ext_getElem?
    intro j
    simp only [Array.getElem?_append,Array.getElem?_push,Array.getElem?_extract,Array.size_push]
    repeat' split
    all_goals first
      | omega
      | rfl
      | (congr 1;omega)
      | (simp_all;done)
      | (rename_i h1 h2;rw [Array.getElem?_eq_getElem (by omega)];simp;congr 1;omega)
      | skip
theorem z529 {t : TypeId} {d : TypeDesc} {i : TypeInfo} {b off : Nat} {c el fz} (hu : P.underlying t = some d) (ha : aggB d = true) (hi : P.info? t = some i)
    (hb:w.heap[b]?=some (.cells c el fz)) (hs:off+i.size≤c.size):(loadVar t ⟨b,off,none⟩).run P w=.ok (.agg (c.extract off (off+i.size))) w:=by
  simp only [loadVar,Sem.run_bind,z396 hu,ha,Result.andThen,if_true,z157 hi,loadCells]
  rw [z258 hb _ 0 #[] (by omega)]
  simp [go_sem]
theorem z528 {t : TypeId} {d : TypeDesc} {b off : Nat} {c el fz v} (hu : P.underlying t = some d) (ha : aggB d = false)
    (hb:w.heap[b]?=some (.cells c el fz)) (hc:c[off]?=some v):(loadVar t ⟨b,off,none⟩).run P w=.ok v w:=by
  simp only [loadVar,Sem.run_bind,z396 hu,ha,Result.andThen]
  exact z937 hb hc
def lay (c:Array Value) (off:Nat):List Value→Array Value
 |[]=>c
 |v::vs=>lay (c.setIfInBounds off v) (off+1) vs
theorem z345 (vs:List Value):∀ (c:Array Value) (off:Nat),(lay c off vs).size=c.size:=by
 induction vs with
 |nil=>intros;rfl
 |cons v vs ih=>intro c off;simp [lay,ih]
theorem z451 (vs : List Value) : ∀ (c : Array Value) (off j : Nat), off + vs.length ≤ c.size →
  (lay c off vs)[j]?=if off≤j∧j < off+vs.length then vs[j - off]? else c[j]?:=by
 induction vs with
 |nil=>intro c off j _;simp [lay];intro h1 h2;omega
 |cons v vs ih =>
  intro c off j h
  simp only [y55] at h ⊢
  rw [lay,ih _ _ _ (by simp;omega)]
  by_cases h1:off=j
  ·subst h1
   rw [if_neg (by omega),if_pos (by omega)]
   simp [Array.getElem?_setIfInBounds]
   omega
  ·by_cases h2:off+1≤j∧j < off+1+vs.length
   ·rw [if_pos h2,if_pos (by omega)]
    rw [show j - off=(j - (off+1))+1 by omega]
    simp
   ·rw [if_neg h2,if_neg (by omega)]
    simp [Array.getElem?_setIfInBounds,h1]
def World.setObj (w:World) (b:Nat) (o:Obj):World:={ w with heap:=w.heap.setIfInBounds b o }
theorem z1118 {b off : Nat} {c el v} (hb : w.heap[b]? = some (.cells c el (0, 0))) (hc : off < c.size) (hv : v.oneCell = true) :
    (store ⟨b,off,none⟩ v).run P w=.ok () (World.setObj w b (.cells (c.setIfInBounds off v) el (0,0))):=by
  have h1:w.cell? ⟨b,off,none⟩=some c[off]:=by simp [World.cell?,hb,hc]
  have h2:w.frozen? ⟨b,off,none⟩=false:=by simp [World.frozen?,hb]
  have h3:w.setCell ⟨b,off,none⟩ v=World.setObj w b (.cells (c.setIfInBounds off v) el (0,0)):=by
    simp only [World.setCell,World.setObj]
    congr 1
    apply Array.ext_getElem?
    intro j
    simp only [Array.getElem?_modify,Array.getElem?_setIfInBounds]
    split
    · rename_i e;subst e;rw [hb]
      have:b < w.heap.size:=by
        rcases y67 b w.heap.size with h|h
        · exact h
        · simp [Array.getElem?_eq_none h] at hb
      simp [this]
    · rfl
  have:=(Sem.wp_iff_run P (store ⟨b,off,none⟩ v) (fun _ w''=>w''=w.setCell ⟨b,off,none⟩ v) (fun _ _=>False) w).1 (by
    simp [store,Sem.wp,hv,h1,h2])
  rw [← h3]
  cases hr:(store ⟨b,off,none⟩ v).run P w with
  | ok u w''=>rw [hr] at this;simp [Result.sat] at this;rw [this]
  | halt x w''=>rw [hr] at this;simp [Result.sat] at this
theorem z362 {b off : Nat} {el} (vs : List Value) : ∀ (w : World) (c : Array Value) (i : Nat), w.heap[b]? = some (.cells c el (0, 0)) → off + i + vs.length ≤ c.size → (∀ v ∈ vs, v.oneCell = true) →
  (storeCells ⟨b,off,none⟩ vs i).run P w=.ok () (World.setObj w b (.cells (lay c (off+i) vs) el (0,0))):=by
 induction vs with
 |nil =>
  intro w c i hb _ _
  simp only [storeCells,lay]
  have:World.setObj w b (.cells c el (0,0))=w:=by
   simp only [World.setObj]
   congr 1
   apply Array.ext_getElem?
   intro j
   simp only [Array.getElem?_setIfInBounds]
   split
   ·rename_i e;subst e
    have:b < w.heap.size:=by
     rcases y67 b w.heap.size with h|h
     ·exact h
     ·simp [Array.getElem?_eq_none h] at hb
    rw [hb];simp [this]
   ·rfl
  rw [this];rfl
 |cons v vs ih =>
  intro w c i hb hs hv
  simp only [y55] at hs
  simp only [storeCells,z477,Sem.run_bind]
  rw [z1118 hb (by omega) (hv v (by simp))]
  simp only [Result.andThen]
  have hlt:b < w.heap.size:=by
   rcases y67 b w.heap.size with h|h
   ·exact h
   ·simp [Array.getElem?_eq_none h] at hb
  rw [ih _ (c.setIfInBounds (off+i) v) (i+1) (by simp [World.setObj,hlt]) (by simp;omega) (fun x hx=>hv x (by simp [hx]))]
  simp [World.setObj,lay,Nat.add_assoc]
theorem z746 {t : TypeId} {i : TypeInfo} {b off : Nat} {c el v} (hi : P.info? t = some i) (hs : v.cells.size = i.size)
    (hb:w.heap[b]?=some (.cells c el (0,0))) (hc:off+i.size≤c.size) (hv:∀ x∈v.cells.toList,x.oneCell=true) :
    (storeVar t ⟨b,off,none⟩ v).run P w=.ok () (World.setObj w b (.cells (lay c off v.cells.toList) el (0,0))):=by
  simp only [storeVar,Sem.run_bind,z157 hi,Result.andThen,hs]
  simp only [ne_eq,not_true,if_false]
  have:=z362 (P:=P) (off:=off) (el:=el) v.cells.toList w c 0 hb (by simp [hs];omega) hv
  simpa using this
theorem z210 {el:TypeId} {c:Array Value} : (newRow el c).run P w=.ok ⟨w.heap.size,0,none⟩ (w.alloc (.cells c el)):=by
 simp [newRow,newObj,Sem.run,go_sem]
end Go.Gl
namespace Go.Gl
variable {P:Program} {w:World}
structure TyI where
 desc:TypeDesc
 size:Nat
 bytes:Nat
 zero:Value
abbrev Tab:=Nat→Option TyI
def TyOk (P:Program) (t:TypeId) (i:TyI):Prop :=
 P.underlying t=some i.desc∧∃ inf,P.info? t=some inf∧inf.size=i.size∧inf.bytes=i.bytes∧inf.zero=some i.zero
def z135 (P:Program) (T:Tab):Prop:=∀ t i,T t=some i→TyOk P t i
theorem TyOk.size {t:TypeId} {i:TyI} (h:TyOk P t i):(sizeOf t).run P w=.ok i.size w:=by
 obtain ⟨_,inf,h1,h2,_⟩:=h
 rw [z157 h1,h2]
theorem TyOk.und {t:TypeId} {i:TyI} (h:TyOk P t i):(underlying t).run P w=.ok i.desc w:=z59 h.1
theorem TyOk.zeroV {t:TypeId} {i:TyI} (h:TyOk P t i):(zeroValue t).run P w=.ok i.zero w:=by
 obtain ⟨_,inf,h1,_,_,h2⟩:=h
 exact z166 h1 h2
theorem z530 {t e : TypeId} {i ei : TyI} {b off len cap : Nat} {k : IntKind} {n : Int} (ht : TyOk P t i) (hd : i.desc = .slice e) (he : TyOk P e ei)
    (h0:0≤n) (h1:n.toNat < len):(Instr.indexAt t (.slice (some ⟨b,off,none⟩) len cap) (.int k n)).run P w=.ok (.pointer (some ⟨b,off+n.toNat * ei.size,none⟩)) w:=by
  simp only [Instr.indexAt,asIntOf,Sem.run_bind,Sem.run_pure,Result.andThen,ht.und,hd]
  rw [if_pos ⟨h0,by omega⟩]
  simp only [Sem.run_bind,he.size,Result.andThen,Sem.run_pure,z477]
theorem z613 {t e : TypeId} {i ei : TyI} {b off len : Nat} {k : IntKind} {n : Int} (ht : TyOk P t i) (hd : i.desc = .array len e) (he : TyOk P e ei)
    (h0:0≤n) (h1:n.toNat < len):(Instr.indexAt t (.pointer (some ⟨b,off,none⟩)) (.int k n)).run P w=.ok (.pointer (some ⟨b,off+n.toNat * ei.size,none⟩)) w:=by
  simp only [Instr.indexAt,asIntOf,Sem.run_bind,Sem.run_pure,Result.andThen,ht.und,hd,Instr.sureAddr]
  rw [if_pos ⟨h0,by omega⟩]
  simp only [Sem.run_bind,he.size,Result.andThen,Sem.run_pure,z477]
theorem z531 {s : TypeId} {i fi : TyI} {fs : Array Field} {f : Nat} {fd : Field} {b off : Nat} (ht : TyOk P s i) (hd : i.desc = .struct fs) (hf : fs[f]? = some fd) (hfi : TyOk P fd.type fi) (hz : fi.size ≠ 0) :
    (Instr.fieldAt s (.pointer (some ⟨b,off,none⟩)) f).run P w=.ok (.pointer (some ⟨b,off+fd.offset,none⟩)) w:=by
  simp only [Instr.fieldAt,Sem.run_bind,ht.und,hd,Result.andThen,hf,Instr.sureAddr,Sem.run_pure,fieldPlace,hfi.size,if_neg hz,z477]
theorem z249 {t : TypeId} {i : TyI} {b off : Nat} {c el fz} (ht : TyOk P t i) (ha : aggB i.desc = true)
    (hb:w.heap[b]?=some (.cells c el fz)) (hs:off+i.size≤c.size):(Instr.loadAt t (.pointer (some ⟨b,off,none⟩))).run P w=.ok (.agg (c.extract off (off+i.size))) w:=by
  obtain ⟨h1,inf,h2,h3,_⟩:=ht
  simp only [Instr.loadAt,Instr.sureAddr,Sem.run_bind,Sem.run_pure,Result.andThen]
  rw [z529 h1 ha h2 hb (by rw [h3];exact hs),h3]
theorem z364 {t : TypeId} {i : TyI} {b off : Nat} {c el fz v} (ht : TyOk P t i) (ha : aggB i.desc = false)
    (hb:w.heap[b]?=some (.cells c el fz)) (hc:c[off]?=some v):(Instr.loadAt t (.pointer (some ⟨b,off,none⟩))).run P w=.ok v w:=by
  simp only [Instr.loadAt,Instr.sureAddr,Sem.run_bind,Sem.run_pure,Result.andThen]
  exact z528 ht.1 ha hb hc
theorem z860 {t : TypeId} {i : TyI} {b off : Nat} {c el v} (ht : TyOk P t i) (hs : v.cells.size = i.size)
    (hb:w.heap[b]?=some (.cells c el (0,0))) (hc:off+i.size≤c.size) (hv:∀ x∈v.cells.toList,x.oneCell=true) :
    (Instr.storeAt t (.pointer (some ⟨b,off,none⟩)) v).run P w=.ok () (World.setObj w b (.cells (lay c off v.cells.toList) el (0,0))):=by
  obtain ⟨_,inf,h2,h3,_⟩:=ht
  simp only [Instr.storeAt,Instr.sureAddr,Sem.run_bind,Sem.run_pure,Result.andThen]
  exact z746 h2 (by rw [h3];exact hs) hb (by rw [h3];exact hc) hv
theorem run_box {t:TypeId} {v:Value} : (Instr.box t v).run P w=.ok (.pointer (some ⟨w.heap.size,0,none⟩)) (w.alloc (.cells v.cells t)):=by
 simp only [Instr.box,newVar,Sem.run_bind,z210,Result.andThen,Sem.run_pure]
theorem z1122 {t:TypeId} {i:TyI} (ht:TyOk P t i):(Instr.alloc t true (.tuple #[])).run P w=.ok (.pointer (some ⟨w.heap.size,0,none⟩)) (w.alloc (.cells i.zero.cells t)):=by
 simp only [Instr.alloc,Sem.run_bind,ht.zeroV,Result.andThen,newVar,z210,Sem.run_pure]
def z243 (n:Nat) (z:Array Value):Array Value:=(Array.range (n * z.size)).map (fun j=>z[j % z.size]!)
theorem z1051 {n:Nat} {z:Array Value} {i j:Nat} (hi:i < n) (hj:j < z.size):(z243 n z)[i * z.size+j]?=z[j]?:=by
 have h:i * z.size+j < n * z.size:=by
  have:(i+1) * z.size≤n * z.size:=Nat.mul_le_mul_right _ hi
  rw [Nat.add_mul] at this;omega
 have hm:(i * z.size+j) % z.size=j:=by rw [Nat.add_comm,Nat.add_mul_mod_self_right,Nat.mod_eq_of_lt hj]
 unfold z243
 rw [Array.getElem?_map,Array.getElem?_eq_getElem (by simpa using h)]
 simp [hm,hj]
theorem z669 {t e : TypeId} {i ei : TyI} {k k' : IntKind} {n m : Int} (ht : TyOk P t i) (hd : i.desc = .slice e) (he : TyOk P e ei)
    (hz:ei.zero.cells.size=ei.size) (h0:0≤n) (hnm:n≤m) (h1:m * ei.bytes≤2 ^ 47) (h2:m≤2 ^ 47) :
    (Instr.makeSlice t (.int k n) (.int k' m)).run P w=.ok (.slice (some ⟨w.heap.size,0,none⟩) n.toNat m.toNat) (w.alloc (.cells (z243 m.toNat ei.zero.cells) e)):=by
  have hm:IntKind.i64.wrap m=m:=IntWalk.i64_in _ (by omega)
  have hn:IntKind.i64.wrap n=n:=IntWalk.i64_in _ (by omega)
  obtain ⟨hu,inf,hi1,hi2,hi3,hi4⟩:=he
  simp only [Instr.makeSlice,Sem.run_bind,ht.und,hd,Result.andThen,asInt,asIntOf,Sem.run_pure,z193 hi1,hm,hn,hi3]
  have hbm:(ei.bytes:Int) * m=m * ei.bytes:=Int.mul_comm _ _
  have hc:¬ ((decide (m < 0) || decide ((ei.bytes:Int) * m > 2 ^ 48))=true∨n < 0)∧¬ n > m:=by
    simp [hbm];omega
  have h47:m.toNat * ei.bytes≤2 ^ 47:=by
    have:((m.toNat * ei.bytes:Nat):Int)=m * ei.bytes:=by push_cast;rw [Int.toNat_of_nonneg (by omega)]
    omega
  rw [if_neg (by simp [hbm];omega)]
  have hroom:(askRoom (m.toNat * ei.bytes)).run P w=.ok () w:=by
    unfold askRoom roomBytes;rw [if_neg (by omega)];rfl
  simp only [Sem.run_bind,hroom,Result.andThen,z157 hi1,hi2]
  by_cases hn0:m.toNat * ei.size=0
  · simp only [hn0,if_true]
    have:z243 m.toNat ei.zero.cells=#[]:=by unfold z243;rw [hz,hn0];simp
    rw [this]
    simp [z210,Result.andThen,go_sem]
  · simp only [hn0,if_false,Sem.run_bind,z166 hi1 hi4,Result.andThen,Sem.run_pure,z210]
    unfold z243;rw [hz]
end Go.Gl
namespace Go.Gl
variable {P:Program} {w:World}
theorem z250 {size n b off l k : Nat} {c : Array Value} {el fz} (hb : w.heap[b]? = some (.cells c el fz)) (h : off + n * size ≤ c.size) :
    (Builtin.firstCells size n (.slice (some ⟨b,off,none⟩) l k)).run P w=.ok (c.extract off (off+n * size)) w:=by
  simp only [Builtin.firstCells,loadCells]
  rw [z258 hb _ 0 #[] (by omega)]
  simp
theorem z91 {size : Nat} {a : Option Addr} {l k : Nat} :
    (Builtin.firstCells size 0 (.slice a l k)).run P w=.ok #[] w:=by
  cases a<;>simp [Builtin.firstCells,loadCells,loadCellsFrom,go_sem]
theorem z339 {t ty e : TypeId} {i ei : TyI} (ht : TyOk P t i) (hd : i.desc = .slice e) (he : TyOk P e ei)
    {a:Option Addr} {n m cap:Nat} {x:Value} {olds news:Array Value} (hm:(Builtin.lenOf x).run P w=.ok m w)
    (hx:∀ w' : World,w'.heap=w.heap→(Builtin.firstCells ei.size m x).run P w'=.ok news w')
    (hs:∀ w' : World,w'.heap=w.heap→(Builtin.firstCells ei.size n (.slice a n cap)).run P w'=.ok olds w')
    (h1:(n+m) * ei.bytes≤2 ^ 47) (h2:n+m≤2 ^ 47) :
    (n+m≤cap∧(Builtin.append_ #[t,t] ty #[.slice a n cap,x]).run P w=((match a with|some a=>storeCells (a.add (n * ei.size)) news.toList|none=>pure ()).run P w).andThen (fun _ w'=>.ok (.slice a (n+m) cap) w')) ∨
    (cap < n+m∧∃ nc rest,n+m≤nc∧rest.size=(nc - (n+m)) * ei.zero.cells.size∧∃ w',(Builtin.append_ #[t,t] ty #[.slice a n cap,x]).run P w=.ok (.slice (some ⟨w.heap.size,0,none⟩) (n+m) nc) w' ∧
      w'.heap=w.heap.push (.cells (olds++news++rest) e)∧w'.os=w.os∧w'.tape=w.tape∧w'.output=w.output):=by
  obtain ⟨hu,inf,hi1,hi2,hi3,hi4⟩:=he
  have hut:=ht.1
  rw [hd] at hut
  by_cases hc:n+m≤cap
  · refine .inl ⟨hc,?_⟩
    simp only [Builtin.append_]
    simp [z59 hut,z157 hi1,hi2,hm,hc,hx w rfl]
    cases a<;>simp
  · refine .inr ⟨by omega,?_⟩
    have h3:¬ (9223372036854775807 < ((n:Int)+(m:Int))):=by omega
    have h4:¬ (281474976710656 < Builtin.nextslicecap (n+m) cap * ei.bytes):=by
      have:=growslice_fits (need:=n+m) (old:=cap) (bytes:=ei.bytes) (by omega) (by omega)
      omega
    have hcut:n+m≤(Question.appendCap (n+m) cap e).cut (w.tape w.drawn (.appendCap (n+m) cap e)):=by simp [Question.cut]
    refine ⟨(Question.appendCap (n+m) cap e).cut (w.tape w.drawn (.appendCap (n+m) cap e)),Builtin.zeroCells ei.zero.cells ((Question.appendCap (n+m) cap e).cut (w.tape w.drawn (.appendCap (n+m) cap e)) - (n+m)),hcut,by simp [Builtin.zeroCells],?_⟩
    refine ⟨{ w with heap:=w.heap.push (.cells (olds++news++Builtin.zeroCells ei.zero.cells ((Question.appendCap (n+m) cap e).cut (w.tape w.drawn (.appendCap (n+m) cap e)) - (n+m))) e),drawn:=w.drawn+1 },?_,rfl,rfl,rfl,rfl⟩
    have hx':=hx { w with drawn:=w.drawn+1 } rfl
    have hs':=hs { w with drawn:=w.drawn+1 } rfl
    have hx'':=hx w.drew rfl
    have hs'':=hs w.drew rfl
    simp only [Builtin.append_]
    simp [z59 hut,z157 hi1,hi2,hm,hc,hx'',hs'',hi3,h3,h4,z193 hi1,z166 hi1 hi4,newRow,Question.forced]
    rfl
end Go.Gl
namespace Go.Gl
def upd {α:Type} (f:Nat→α) (k:Nat) (v:α) (j:Nat):α:=cond (Nat.beq j k) v (f j)
theorem z36 {α:Type} (f:Nat→α) (k:Nat) (v:α):upd f k v k=v:=by
 simp [upd]
theorem z52 {α:Type} (f:Nat→α) {k j:Nat} (v:α) (h:j≠k):upd f k v j=f j:=by
 have:Nat.beq j k=false:=by
  cases hb:Nat.beq j k with
  |false=>rfl
  |true=>exact absurd (Nat.eq_of_beq_eq_true hb) h
 simp [upd,this]
theorem z923 {α:Type} (f:Nat→α) (k:Nat):upd f k (f k)=f:=by
 funext j
 by_cases h:j=k
 ·subst h;exact z36 _ _ _
 ·exact z52 _ _ h
structure Ch where
 o:Nat
 pre:AObj
 post:AObj
def z88 (f:Nat→AObj):List Ch→Nat→AObj
 |[]=>f
 |c::cs=>z88 (upd f c.o c.post) cs
def newsOf:List Ch→Nat
 |[]=>0
 |c::cs=>(match c.pre with | .fresh=>1|_=>0)+newsOf cs
def z465 (f:Nat→AC) (dst:Option Nat) (v:AC):Nat→AC :=
 match dst with
 |some d=>upd f d v
 |none=>f
def St.app (st:St) (dst:Option Nat) (res:AC) (fp:List Ch):St :=
 { env:=z465 st.env dst res,objs:=z88 st.objs fp,next:=st.next+newsOf fp,n:=st.n }
def ofVal:Value→AC
 |.agg cs=>.agg (cs.toList.map .raw)
 |v=>.raw v
def St.ev (st:St):Operand→AC
 |.tmp t=>st.env t
 |.const v=>ofVal v
 |.global _=>.any
 |.func f=>.fn (.func f) [] []
theorem V_ofVal (G:Ghost) (h:Nat→Option Obj) (v:Value):V G h none (ofVal v) v:=by
 cases v with
 |agg cs =>
  simp only [ofVal,V]
  refine ⟨cs,rfl,by simp,z70.2 fun j x hx=>?_⟩
  simp only [y48,Option.map_eq_some_iff] at hx
  obtain ⟨v,hv,rfl⟩:=hx
  exact ⟨v,by simpa using hv,by simp [V]⟩
 |_=>simp [ofVal,V]
variable {P:Program} {G:Ghost} {st:St} {a:Act} {w:World}
theorem Rel.ev (h:Rel G st a w) (x:Operand):V G (hp w) none (st.ev x) (a.eval x):=by
 cases x with
 |tmp t=>exact h.env t
 |const v=>exact V_ofVal G _ v
 |global g=>simp [St.ev,V]
 |func f=>simp [St.ev,V,Act.eval,VL]
theorem z292 {n : Nat} {env : Nat → AC} {dst : Option Nat} {res : AC} {v : Value} (hd : ∀ d, dst = some d → d < n) (hn : a.tmps.size = n)
    (he:∀ s,V G (hp w) none (env s) (a.tmps.getD s undef)) (hv:V G (hp w) none res v) :
    ∀ s,V G (hp w) none (z465 env dst res s) ((a.put dst v).tmps.getD s undef):=by
  intro s
  cases dst with
  | none=>exact he s
  | some d =>
    have hd':=hd d rfl
    by_cases hs:s=d
    · subst hs
      simp only [z465,z36,Act.put]
      have:(a.tmps.setIfInBounds s v).getD s undef=v:=by
        rw [y78,Array.getElem?_setIfInBounds]
        simp [hn,hd']
      rw [this];exact hv
    · simp only [z465,z52 _ _ hs,Act.put]
      have:(a.tmps.setIfInBounds d v).getD s undef=a.tmps.getD s undef:=by
        rw [y78,y78,Array.getElem?_setIfInBounds]
        simp [Ne.symm hs]
      rw [this];exact he s
theorem z203 (a:Act) (dst:Option Nat) (v:Value):(a.put dst v).tmps.size=a.tmps.size:=by
 cases dst<;>simp [Act.put]
theorem z146 (a:Act) (dst:Option Nat) (v:Value):(a.put dst v).defers=a.defers:=by
 cases dst<;>simp [Act.put]
theorem z148 (f:Nat→AObj):∀ (fp:List Ch),(∀ c∈fp,f c.o=c.pre∧c.post=c.pre)→z88 f fp=f
 |[],_=>rfl
 |c::cs,h=>by
  obtain ⟨h1,h2⟩:=h c (by simp)
  have:upd f c.o c.post=f:=by rw [h2,← h1];exact z923 f c.o
  simp only [z88,this]
  exact z148 f cs fun x hx=>h x (by simp [hx])
theorem Rel.pure (h : Rel G st a w) {dst : Option Nat} {res : AC} {v : Value} {fp : List Ch} (hd : ∀ d, dst = some d → d < st.n)
    (hv:V G (hp w) none res v) (hf:∀ c∈fp,st.objs c.o=c.pre∧c.post=c.pre):Rel G (st.app dst res fp) (a.put dst v) w where
  wf:=by
    have:(st.app dst res fp).objs=st.objs:=z148 _ _ hf
    rw [this];exact h.wf
  env:=z292 hd h.size h.env hv
  size:=by rw [z203];exact h.size
  defers:=by rw [z146];exact h.defers
def Ghost.push (G:Ghost) (o b size wd:Nat):Ghost :=
 { G with ι:=upd G.ι o (some (b,size,wd)),κ:=upd G.κ b (some (o,[])) }
theorem z170 {w w' : World} {x:Obj} (hh:w'.heap=w.heap.push x) (b:Nat):w'.heap[b]?=if b=w.heap.size then some x else w.heap[b]?:=by
 rw [hh,Array.getElem?_push]
theorem z864 {w w' : World} {x:Obj} (hh:w'.heap=w.heap.push x) (h1:w'.os=w.os) (h2:w'.tape=w.tape) (h3:w'.output=w.output):Le w w' :=
 ⟨h1,h2,h3,by rw [hh];simp⟩
theorem y8 {o b size wd:Nat} : ∀ x y,G.S x=some y→(G.push o b size wd).S x=some y:=fun _ _ e=>e
theorem y9 {o b size wd:Nat} (ho:G.ι o=none):∀ o' t,G.ι o'=some t→(G.push o b size wd).ι o'=some t:=by
 intro o' t h
 have:o'≠o:=by intro e;subst e;rw [ho] at h;cases h
 simp only [Ghost.push,z52 _ _ this,h]
theorem Wf.push {objs : Nat → AObj} {w w' : World} (h : Wf G objs w) {o : Nat} {c : Array Value} {el : TypeId} {wd : Nat} {es : List (List AC)} (ho : objs o = .fresh)
    (hh:w'.heap=w.heap.push (.cells c el (0,0))) (hc:VLL G (hp w) none wd es c 0) :
    Wf (G.push o w.heap.size c.size wd) (upd objs o (.cells wd es)) w':=by
  have hio:G.ι o=none:=by have:=h.objs o;rw [ho] at this;exact this
  have hlt:∀ b x,w.heap[b]?=some x→b < w.heap.size:=fun b x e=>by
    rcases y67 b w.heap.size with hl|hl
    · exact hl
    · rw [Array.getElem?_eq_none hl] at e;cases e
  have hold:∀ b x,w.heap[b]?=some x→w'.heap[b]?=some x:=fun b x e=>by
    rw [z170 hh,if_neg (Nat.ne_of_lt (hlt b x e))];exact e
  have hι:=y9 (b:=w.heap.size) (size:=c.size) (wd:=wd) hio
  have hκ:∀ b p,G.κ b=some p→(G.push o w.heap.size c.size wd).κ b=some p∧hp w' b=hp w b:=fun b p e=>by
    have:=(h.sk b p e).2.2
    refine ⟨by simp only [Ghost.push,z52 _ _ (Nat.ne_of_lt this),e],?_⟩
    simp only [hp,z170 hh,if_neg (Nat.ne_of_lt this)]
  refine ⟨fun b x e=>hold b x (h.hS b x e),fun b x e=>hold b x (h.hU b x e),h.su,fun b p e=>?_,fun o'=>?_⟩
  · by_cases hb:b=w.heap.size
    · subst hb
      refine ⟨?_,?_,by rw [hh];simp⟩
      · cases hs:G.S w.heap.size with
        | none=>simpa [Ghost.push] using hs
        | some x=>exact absurd (hlt _ _ (h.hS _ _ hs)) (Nat.lt_irrefl _)
      · cases hs:G.U w.heap.size with
        | none=>simpa [Ghost.push] using hs
        | some x=>exact absurd (hlt _ _ (h.hU _ _ hs)) (Nat.lt_irrefl _)
    · simp only [Ghost.push,z52 _ _ hb] at e
      obtain ⟨h1,h2,h3⟩:=h.sk b p e
      exact ⟨h1,h2,by rw [hh];simp;omega⟩
  · by_cases hoo:o'=o
    · subst hoo
      rw [z36]
      refine .inr ⟨w.heap.size,c.size,c,el,by simp [Ghost.push,z36],by simp [Ghost.push,z36],by simp [hp,z170 hh],rfl,?_⟩
      rw [z74]
      intro i e he
      obtain ⟨h1,h2⟩:=z74.1 hc i e he
      refine ⟨h1,z70.2 fun j x hx=>?_⟩
      obtain ⟨v,hv1,hv2⟩:=z70.1 h2 j x hx
      exact ⟨v,hv1,V_at (z149 y8 hι hv2)⟩
    · rw [z52 _ _ hoo]
      have:=h.objs o'
      cases hob:objs o' with
      | fresh=>rw [hob] at this;simpa [ObjRel,Ghost.push,z52 _ _ hoo] using this
      | dead=>trivial
      | mp d es' =>
        rw [hob] at this
        obtain ⟨b,size,wx,c',ck,h1,h2,h3,h4⟩:=this
        obtain ⟨hk1,hk2⟩:=hκ b _ h2
        exact ⟨b,size,wx,c',ck,hι _ _ h1,hk1,by rw [hk2];exact h3,h4⟩
      | cells wd' es' =>
        rw [hob] at this
        rcases this with ⟨h1,h2⟩|⟨b,size,c',el',h1,h2,h3,h4,h5⟩
        · exact .inl ⟨h1,by simpa [Ghost.push,z52 _ _ hoo] using h2⟩
        · obtain ⟨hk1,hk2⟩:=hκ b _ h2
          refine .inr ⟨b,size,c',el',hι _ _ h1,hk1,by rw [hk2];exact h3,h4,?_⟩
          have:=z190 es' G (G.push o w.heap.size c.size wd) (hp w) (hp w') id (fun _=>True) y8 hι (fun _ _ _=>rfl) (fun _ _ _ h=>h) (fun b p _ e=>hκ b p e) _ wd' c' 0 (fun _ _ _=>trivial) h5
          simpa using this
theorem Rel.push (h : Rel G st a w) {w' : World} {dst : Option Nat} {res : AC} {v : Value} {o : Nat} {c : Array Value} {el : TypeId} {wd : Nat} {es : List (List AC)}
    (hd:∀ d,dst=some d→d < st.n) (ho:st.objs o=.fresh)
    (hh:w'.heap=w.heap.push (.cells c el (0,0))) (hc:VLL G (hp w) none wd es c 0) (hv:V (G.push o w.heap.size c.size wd) (hp w') none res v) :
    Rel (G.push o w.heap.size c.size wd) (st.app dst res [⟨o,.fresh,.cells wd es⟩]) (a.put dst v) w' where
  wf:=h.wf.push ho hh hc
  env:=by
    have hio:G.ι o=none:=by have:=h.wf.objs o;rw [ho] at this;exact this
    exact z292 hd h.size (fun s=>z149 y8 (y9 hio) (h.env s)) hv
  size:=by rw [z203];exact h.size
  defers:=by rw [z146];exact h.defers.mono (fun _ _ e=>e)
theorem Wf.store {objs : Nat → AObj} {w : World} (h : Wf G objs w) {o b : Nat} {size : Nat} {c c' : Array Value} {el : TypeId} {wd : Nat} {es' : List (List AC)}
    (hι:G.ι o=some (b,size,wd)) (hκ:G.κ b=some (o,[])) (hb:w.heap[b]?=some (.cells c el (0,0))) (hsz:c.size=size) (hs:c'.size=c.size)
    (hc:VLL G (hp w) (some (o,[])) wd es' c' 0):Wf G (upd objs o (.cells wd es')) (World.setObj w b (.cells c' el (0,0))):=by
  obtain ⟨hS,hU,hlt⟩:=h.sk b _ hκ
  have hother:∀ b',b'≠b→(World.setObj w b (.cells c' el (0,0))).heap[b']?=w.heap[b']?:=fun b' hne=>by
    simp [World.setObj,Ne.symm hne]
  have hthis:(World.setObj w b (.cells c' el (0,0))).heap[b]?=some (.cells c' el (0,0)):=by
    simp [World.setObj,hlt]
  have hmove:∀ b' p,p≠(o,[])→G.κ b'=some p→G.κ b'=some (id p)∧hp (World.setObj w b (.cells c' el (0,0))) b'=hp w b':=fun b' p hp' e=>by
    refine ⟨e,hother b' ?_⟩
    rintro rfl
    rw [hκ] at e;cases e;exact hp' rfl
  refine ⟨fun b' x e=>?_,fun b' x e=>?_,h.su,fun b' p e=>?_,fun o'=>?_⟩
  · have:b'≠b:=by rintro rfl;rw [hS] at e;cases e
    rw [hother b' this];exact h.hS b' x e
  · have:b'≠b:=by rintro rfl;rw [hU] at e;cases e
    rw [hother b' this];exact h.hU b' x e
  · obtain ⟨h1,h2,h3⟩:=h.sk b' p e
    exact ⟨h1,h2,by simpa [World.setObj] using h3⟩
  · by_cases hoo:o'=o
    · subst hoo
      rw [z36]
      refine .inr ⟨b,size,c',el,hι,hκ,hthis,by rw [hs,hsz],?_⟩
      have:=z190 es' G G (hp w) (hp (World.setObj w b (.cells c' el (0,0)))) id (fun p=>p.2≠[]) (fun _ _ e=>e) (fun _ _ e=>e) (fun _ _ _=>rfl) (fun _ _ _ _=>by simp)
        (fun b' p hD e=>hmove b' p (by rintro rfl;exact hD rfl) e) (some (o',[])) wd c' 0 (fun _ _ _=>by simp) hc
      simpa using this
    · rw [z52 _ _ hoo]
      have:=h.objs o'
      cases hob:objs o' with
      | fresh=>rw [hob] at this;exact this
      | dead=>trivial
      | mp d es'' =>
        rw [hob] at this
        obtain ⟨b2,size2,wx,c2,ck,h1,h2,h3,h4⟩:=this
        have hne:b2≠b:=by rintro rfl;rw [hκ] at h2;cases h2;exact hoo rfl
        exact ⟨b2,size2,wx,c2,ck,h1,h2,by simpa only [hp,hother b2 hne] using h3,h4⟩
      | cells wd' es'' =>
        rw [hob] at this
        rcases this with ⟨h1,h2⟩|⟨b2,size2,c2,el2,h1,h2,h3,h4,h5⟩
        · exact .inl ⟨h1,h2⟩
        · have hne:b2≠b:=by rintro rfl;rw [hκ] at h2;cases h2;exact hoo rfl
          refine .inr ⟨b2,size2,c2,el2,h1,h2,by simpa only [hp,hother b2 hne] using h3,h4,?_⟩
          have:=z190 es'' G G (hp w) (hp (World.setObj w b (.cells c' el (0,0)))) id (fun p=>p.1=o') (fun _ _ e=>e) (fun _ _ e=>e) (fun _ _ _=>rfl) (fun _ _ _ h=>h)
            (fun b' p hD e=>hmove b' p (by rintro rfl;exact hoo hD.symm) e) (some (o',[])) wd' c2 0 (fun p hp' _=>by cases hp';rfl) h5
          simpa using this
end Go.Gl
namespace Go.Gl
def cellsOf:AC→List AC
 |.agg cs=>cs
 |c=>[c]
def z338:AC→Bool
 |.raw v=>v.oneCell
 |.list ..=>true
 |.pt _=>true
 |.sref ..=>true
 |.ptr ..=>true
 |.mref ..=>true
 |.fn ..=>true
 |_=>false
def z95:List AC→Bool
 |[]=>true
 |c::cs=>match z338 c with
  |true=>z95 cs
  |false=>false
def z1019:List AC→Bool
 |[]=>true
 |c::cs=>match c.isOwn with
  |true=>false
  |false=>z1019 cs
def z76 (b:Bool) (K:Prop):Prop:=match b with
 |true=>K
 |false=>False
theorem z322 {b:Bool} {K:Prop} (h:b=true) (k:K):z76 b K:=by subst h;exact k
theorem z32 {b:Bool} {K:Prop} (h:z76 b K):b=true∧K:=by
 cases b with
 |true=>exact ⟨rfl,h⟩
 |false=>exact h.elim
abbrev OpK:=AC→List Ch→Prop
def St.rd (st:St) (o:Nat):Ch:=⟨o,st.objs o,st.objs o⟩
def vcG (b:Bool) (F:Bool→Prop):Prop:=match b with
 |true=>F true
 |false=>F false
theorem z651 {b:Bool} {F:Bool→Prop} (h:vcG b F):F b:=by cases b<;>exact h
theorem z298 {b:Bool} {F:Bool→Prop} (h1:b=true→F true) (h2:b=false→F false):vcG b F:=by
 cases b
 ·exact h2 rfl
 ·exact h1 rfl
def z921 (c a b:AC) (K:OpK):Prop :=
 match c with
 |.raw (.bool cv)=>vcG cv fun cv=>match cv with
  |true=>K a []
  |false=>K b []
 |_=>False
def z94 (z:Value):List AC:=z.cells.toList.map .raw
def z233 (n:Nat) (K:Nat→Prop):Prop:=match n with
 |0=>K 0
 |n+1=>z233 n fun r=>K (r+1)
theorem z116 {n:Nat} {K:Nat→Prop} : z233 n K=K n:=by
 induction n generalizing K with
 |zero=>rfl
 |succ n ih=>simp [z233,ih]
def z723 (st:St) (wd:Nat) (es:List (List AC)) (res:Nat→AC) (K:OpK):Prop :=
 match st.objs st.next with
 |.fresh=>z233 st.next fun q=>K (res q) [⟨q,.fresh,.cells wd es⟩]
 |_=>False
def z416 (x:AC) (K:AC→Prop):Prop:=match x with
 |.any=>K .any
 |.raw v=>K (.raw v)
 |.list w n es=>K (.list w n es)
 |.pt cs=>K (.pt cs)
 |.sref o off len=>K (.sref o off len)
 |.ptr o i off=>K (.ptr o i off)
 |.mref o=>K (.mref o)
 |.own w es=>K (.own w es)
 |.fn f a b=>K (.fn f a b)
 |.agg cs=>K (.agg cs)
 |.tup cs=>K (.tup cs)
theorem z141 {x:AC} {K:AC→Prop} : z416 x K=K x:=by cases x<;>rfl
def z257 (e:List AC) (off:Nat) (vs:List AC):List AC:=e.take off++vs++e.drop (off+vs.length)
def z843 (n:Nat) (cs:List AC) (K:List AC→Prop):Prop:=match n with
 |0=>K []
 |n+1=>match cs with
  |c::cs=>z843 n cs fun r=>K (c::r)
  |[]=>K []
def z607 (n:Nat) (cs:List AC) (K:List AC→Prop):Prop:=match n with
 |0=>K cs
 |n+1=>match cs with
  |_::cs=>z607 n cs K
  |[]=>K []
def litK (cs:List AC) (K:List AC→Prop):Prop:=match cs with
 |[]=>K []
 |c::cs=>litK cs fun r=>K (c::r)
def catK (cs ds:List AC) (K:List AC→Prop):Prop:=match cs with
 |[]=>K ds
 |c::cs=>catK cs ds fun r=>K (c::r)
def z441 (e:List AC) (off:Nat) (vs:List AC) (K:List AC→Prop):Prop :=
 z843 off e fun a=>z607 (off+vs.length) e fun d=>catK vs d fun b=>catK a b K
theorem z657 {n:Nat} {cs:List AC} {K:List AC→Prop} : z843 n cs K=K (cs.take n):=by
 induction n generalizing cs K with
 |zero=>simp [z843]
 |succ n ih=>cases cs<;>simp [z843,ih]
theorem z351 {n:Nat} {cs:List AC} {K:List AC→Prop} : z607 n cs K=K (cs.drop n):=by
 induction n generalizing cs K with
 |zero=>simp [z607]
 |succ n ih=>cases cs<;>simp [z607,ih]
theorem z284 {cs:List AC} {K:List AC→Prop} : litK cs K=K cs:=by
 induction cs generalizing K with
 |nil=>simp [litK]
 |cons c cs ih=>simp [litK,ih]
theorem catK_eq {cs ds:List AC} {K:List AC→Prop} : catK cs ds K=K (cs++ds):=by
 induction cs generalizing K with
 |nil=>simp [catK]
 |cons c cs ih=>simp [catK,ih]
theorem z209 {e:List AC} {off:Nat} {vs:List AC} {K:List AC→Prop} : z441 e off vs K=K (z257 e off vs):=by
 simp [z441,z657,z351,catK_eq,z257]
def z652 (i:TyI) (e:List AC) (off:Nat) (fp:List Ch) (K:OpK):Prop:=match aggB i.desc with
 |true=>z76 (Nat.ble (off+i.size) e.length) (z607 off e fun d=>z843 i.size d fun cs=>z76 (z1019 cs) (K (.agg cs) fp))
 |false=>z607 off e fun d=>match d with
  |c::_=>z76 (!c.isOwn) (K c fp)
  |[]=>False
def z724 (i:TyI) (st:St) (p:AC) (K:OpK):Prop :=
 match p with
 |.pt cs=>match aggB i.desc with
  |true=>z76 (Nat.ble i.size cs.length) (z843 i.size cs fun cs=>K (.agg cs) [])
  |false=>match cs with
   |c::_=>K c []
   |[]=>False
 |.ptr o k off=>match st.objs o with
  |.cells _ es=>match k with
   |none=>match es with
    |e::_=>z652 i e off [st.rd o] K
    |[]=>False
   |some k=>∃ e,es[k]?=some e∧z652 i e off [st.rd o] K
  |_=>False
 |_=>False
def z837 (i:TyI) (st:St) (p v:AC) (K:OpK):Prop :=
 match p with
 |.ptr o k off=>match st.objs o with
  |.cells w es=>z416 v fun v=>z76 (Nat.beq (cellsOf v).length i.size) (z76 (z95 (cellsOf v)) (z76 (Nat.ble (off+i.size) w) (match k with
   |none=>match es with
    |e::rest=>z441 e off (cellsOf v) fun e'=>K .any [⟨o,.cells w (e::rest),.cells w (e'::rest)⟩]
    |[]=>False
   |some k=>∃ e,es[k]?=some e∧z441 e off (cellsOf v) fun e'=>K .any [⟨o,.cells w es,.cells w (es.set k e')⟩])))
  |_=>False
 |_=>False
def z840 (off:Nat) (p:AC) (K:OpK):Prop :=
 match p with
 |.pt cs=>z607 off cs fun d=>K (.pt d) []
 |.ptr o k off'=>K (.ptr o k (off'+off)) []
 |_=>False
def z1081 (len sz:Nat) (p ix:AC) (K:OpK):Prop :=
 match ix with
 |.raw (.int _ n)=>(0≤n∧n.toNat < len)∧(match p with
  |.pt cs=>z607 (n.toNat * sz) cs fun d=>K (.pt d) []
  |.ptr o k off=>K (.ptr o k (off+n.toNat * sz)) []
  |_=>False)
 |_=>False
def z839 (wd:Nat) (st:St) (x ix:AC) (K:OpK):Prop :=
 match ix with
 |.raw (.int _ n)=>match x with
  |.list w _ es=>z76 (Nat.beq w wd) (0≤n∧∃ cs,es[n.toNat]?=some cs∧K (.pt cs) [])
  |.sref o off len=>match st.objs o with
   |.cells w _=>z76 (Nat.beq w wd) ((0≤n∧n.toNat < len)∧K (.ptr o (some (n.toNat+off)) 0) [st.rd o])
   |_=>False
  |_=>False
 |_=>False
def z1078 (i:TyI) (st:St) (l c:AC) (K:OpK):Prop :=
 match l,c with
 |.raw (.int _ n), .raw (.int _ m) => (0 ≤ n ∧ n ≤ m ∧ m * i.bytes ≤ 2 ^ 47 ∧ m ≤ 2 ^ 47) ∧
   z76 (Nat.beq (z94 i.zero).length i.size) (z233 i.size fun sz=>litK (z94 i.zero) fun z=>z723 st sz (List.replicate n.toNat z) (fun q=>.sref q 0 n.toNat) K)
 |_,_=>False
def vcLen (x:AC) (K:OpK):Prop :=
 match x with
 |.list _ n _=>K (.int n) []
 |.sref _ _ n=>K (.int n) []
 |.raw (.slice _ n _)=>K (.int n) []
 |.raw (.string s)=>K (.int s.size) []
 |_=>False
def vcTup (x:AC) (i:Nat) (K:OpK):Prop :=
 match x with
 |.tup cs=>match cs.drop i with
  |c::_=>K c []
  |[]=>False
 |_=>False
def inI (n:Int):Prop:=-9223372036854775808≤n∧n≤9223372036854775807
def z555:Option TyI→Bool
 |some i=>match i.desc with
  |.bool=>true
  |_=>false
 |none=>false
def vcBin (t:Option TyI) (op:BinOp) (x y:AC) (K:OpK):Prop :=
 match x,y with
 |.raw (.int .i64 m),.raw (.int .i64 n)=>match op with
  |.add=>inI (m+n)∧K (.int (m+n)) []
  |.sub=>inI (m - n)∧K (.int (m - n)) []
  |.mul=>inI (m * n)∧K (.int (m * n)) []
  |.quo=>(0≤m∧0 < n∧inI (m / n))∧K (.int (m / n)) []
  |.rem=>(0≤m∧0 < n)∧K (.int (m % n)) []
  |.eql=>K (.bool (decide (m=n))) []
  |.neq=>K (.bool (!decide (m=n))) []
  |.lss=>K (.bool (decide (m < n))) []
  |.leq=>K (.bool (decide (m≤n))) []
  |.gtr=>K (.bool (decide (n < m))) []
  |.geq=>K (.bool (decide (n≤m))) []
  |_=>False
 |.raw (.int .u8 m),.raw (.int .u8 n)=>match op with
  |.gtr=>K (.bool (decide (n < m))) []
  |_=>False
 |.raw (.int .u64 m),.raw (.int .u64 n)=>match op with
  |.eql=>K (.bool (decide (m=n))) []
  |.neq=>K (.bool (!decide (m=n))) []
  |_=>False
 |.raw (.bool a),.raw (.bool b)=>match op with
  |.eql=>z76 (z555 t) (K (.bool (a == b)) [])
  |.neq=>z76 (z555 t) (K (.bool (a != b)) [])
  |_=>False
 |_,_=>False
def vcUn (op:UnOp) (x:AC) (K:OpK):Prop :=
 match op,x with
 |.not,.raw (.bool b)=>K (.bool (!b)) []
 |.neg,.raw (.int .i64 n)=>inI (-n)∧K (.int (-n)) []
 |_,_=>False
def z766 (xs:List Operand):List Nat:=xs.filterMap fun x=>match x with
 |.tmp t=>some t
 |_=>none
def St.reads (st:St) (xs:List Operand):List (Nat×AC):=(z766 xs).map fun t=>(t,st.env t)
structure OpT (P:Program) (o:Oper) (rd:List (Nat×AC)) (fp:List Ch) (res:AC):Prop where
 run:∀ (Q:Exit→Act→World→Prop) (K:Act→World→Prop) (G:Ghost) (st:St) (a:Act) (w:World),Rel G st a w→(∀ p∈rd,st.env p.1=p.2)→(∀ c∈fp,st.objs c.o=c.pre) →
  (∀ d,o.dst=some d→d < st.n)→(∀ G' a' w',G.Sub G'→(∀ o t,G.ι o=some t→G'.ι o=some t)→Le w w'→Rel G' (st.app o.dst res fp) a' w'→K a' w')→o.wp P a w K Q
theorem z119 {st st' : St} {xs:List Operand} {x:Operand} (hx:x∈xs) (h:∀ p∈st.reads xs,st'.env p.1=p.2):st'.ev x=st.ev x:=by
 cases x with
 |tmp t =>
  have:(t,st.env t)∈st.reads xs:=by
   simp only [St.reads,z766,y57,List.mem_filterMap]
   exact ⟨t,⟨.tmp t,hx,rfl⟩,rfl⟩
  exact h _ this
 |_=>rfl
variable {P:Program}
theorem OpT.val {o : Oper} {st : St} {fp : List Ch} {res : AC} (s : (Operand → Value) → Sem Value) (he : ∀ ρ, execOp ρ o = (do pure (.value (← s ρ)))) (hf : ∀ c ∈ fp, c.post = c.pre)
    (h:∀ (G:Ghost) (objs:Nat→AObj) (a:Act) (w:World),Wf G objs w→(∀ c∈fp,objs c.o=c.pre)→(∀ x∈o.op.operands.toList,V G (hp w) none (st.ev x) (a.eval x))→∃ v,(s a.eval).run P w=.ok v w∧V G (hp w) none res v) :
    OpT P o (st.reads o.op.operands.toList) fp res where
  run Q K G st' a w hR hrd hfp hd hK:=by
    obtain ⟨v,hv,hV⟩:=h G st'.objs a w hR.wf hfp (fun x hx=>by rw [← z119 hx hrd];exact hR.ev x)
    refine wp_v (he a.eval) hv ?_
    exact hK G _ w (Ghost.Sub.refl G) (fun _ _ h=>h) (Le.refl w) (hR.pure hd hV fun c hc=>⟨hfp c hc,hf c hc⟩)
def z132:Op→Bool
 |.store ..=>true
 |.alloc _=>true
 |.box ..=>true
 |.makeSlice ..=>true
 |.buildSlice ..=>true
 |.call _=>true
 |.makeMap ..=>true
 |.mapUpdate ..=>true
 |_=>false
def z108 (P:Program) (st:St) (o:Oper) (K:OpK):Prop :=
 ∃ res fp,OpT P o (st.reads o.op.operands.toList) fp res∧(∀ c∈fp,st.objs c.o=c.pre∧(z132 o.op=false→c.post=c.pre))∧K res fp
section
variable {dst:Option Tmp} {type:TypeId} {pos:String} {after:Array Edge} {guard:Option (Nat×Bool)} {st:St} {K:OpK}
theorem z997 {x:Operand} (h:K (st.ev x) []):z108 P st ⟨dst,.move x,type,pos,after,guard⟩ K :=
 ⟨_,[],OpT.val (fun ρ=>pure (ρ x)) (fun _=>rfl) (by simp) (fun G objs a w _ _ hx=>⟨a.eval x,rfl,hx x (by simp [Op.operands])⟩),by simp,h⟩
theorem z740 {x:Operand} (h:K (st.ev x) []):z108 P st ⟨dst,.assign x,type,pos,after,guard⟩ K :=
 ⟨_,[],OpT.val (fun ρ=>pure (ρ x)) (fun _=>rfl) (by simp) (fun G objs a w _ _ hx=>⟨a.eval x,rfl,hx x (by simp [Op.operands])⟩),by simp,h⟩
theorem z103 {G:Ghost} {h:Nat→Option Obj} {l:Loc} {v u:Value} : V G h l (.raw u) v↔v=u:=by simp [V]
theorem z996 {c x y:Operand} (h:z921 (st.ev c) (st.ev x) (st.ev y) K):z108 P st ⟨dst,.pick c x y,type,pos,after,guard⟩ K:=by
 unfold z921 at h
 split at h
 ·rename_i cv hc
  have h:=z651 h
  have key : ∀ res, K res [] → (∀ (G : Ghost) (hh : Nat → Option Obj) (u v : Value), V G hh none (st.ev x) u → V G hh none (st.ev y) v → V G hh none res (if cv then u else v)) →
    z108 P st ⟨dst,.pick c x y,type,pos,after,guard⟩ K:=by
   intro res hk hv
   refine ⟨res,[],OpT.val (fun ρ=>do pure (if ← asBool (ρ c) then ρ x else ρ y)) (fun _=>by simp [execOp,go_sem]) (by simp) (fun G objs a w _ _ hx=>?_),by simp,hk⟩
   have h1:=hx c (by simp [Op.operands])
   rw [hc,z103] at h1
   exact ⟨if cv then a.eval x else a.eval y,by rw [h1];rfl,hv G _ _ _ (hx x (by simp [Op.operands])) (hx y (by simp [Op.operands]))⟩
  cases cv with
  |true=>exact key _ h fun G hh u v h1 h2=>by simpa using h1
  |false=>exact key _ h fun G hh u v h1 h2=>by simpa using h2
 ·exact h.elim
end
end Go.Gl
namespace Go.Gl
variable {P:Program} {T:Tab} {dst:Option Tmp} {type:TypeId} {pos:String} {after:Array Edge} {guard:Option (Nat×Bool)} {st:St} {K:OpK}
theorem z1161 {l:List AC} : z1019 l=true↔∀ x∈l,x.isOwn=false:=by
 induction l with
 |nil=>simp [z1019]
 |cons c cs ih =>
  simp only [z1019]
  cases h:c.isOwn<;>simp [ih,h]
theorem z177 {l:List AC} : z95 l=true↔∀ x∈l,z338 x=true:=by
 induction l with
 |nil=>simp [z95]
 |cons c cs ih =>
  simp only [z95]
  cases h:z338 c<;>simp [ih,h]
theorem z461 {G:Ghost} {h:Nat→Option Obj} {l:Loc} {cs:List AC} {c:Array Value} {off k:Nat} (hv:VL G h l cs c off):VL G h l (cs.drop k) c (off+k):=by
 rw [z70] at hv ⊢
 intro j x hx
 rw [List.getElem?_drop] at hx
 have:=hv (k+j) x hx
 rwa [show off+k+j=off+(k+j) by omega]
theorem z918 {G:Ghost} {h:Nat→Option Obj} {l:Loc} {cs:List AC} {c:Array Value} {off k:Nat} (hv:VL G h l cs c off):VL G h l (cs.take k) c off:=by
 rw [z70] at hv ⊢
 intro j x hx
 rw [List.getElem?_take] at hx
 split at hx
 ·exact hv j x hx
 ·cases hx
theorem z717 {G : Ghost} {h : Nat → Option Obj} {l : Loc} {cs : List AC} {c : Array Value} {off : Nat} (hv : VL G h l cs c off) (ho : z1019 cs = true) (hs : off + cs.length ≤ c.size) :
    V G h none (.agg cs) (.agg (c.extract off (off+cs.length))):=by
  simp only [V]
  refine ⟨_,rfl,by simp;omega,z70.2 fun j x hx=>?_⟩
  have hj:j < cs.length:=by
    rcases y67 j cs.length with h|h
    · exact h
    · rw [y66 h] at hx;cases hx
  obtain ⟨v,hv1,hv2⟩:=z70.1 hv j x hx
  refine ⟨v,?_,z1271 (z1161.1 ho x (List.mem_of_getElem? hx)) hv2⟩
  rw [Array.getElem?_extract,if_pos (by omega)]
  simpa using hv1
theorem z502 {G:Ghost} {h:Nat→Option Obj} {l:Loc} {cs:List AC} {c:Array Value} {off:Nat} (hv:VL G h l cs c off) (hne:cs≠[]):off+cs.length≤c.size:=by
 have hl:0 < cs.length:=List.length_pos_iff.2 hne
 obtain ⟨v,hv1,_⟩:=z70.1 hv (cs.length - 1) cs[cs.length - 1] (by rw [y42 (by omega)])
 have:=(Array.getElem?_eq_some_iff.1 hv1).1
 omega
theorem z1018 {G : Ghost} {h : Nat → Option Obj} {cs : List AC} {c : Array Value} {off : Nat} (hs : off + cs.length ≤ c.size) (hv : VL G h none cs c off) :
    V G h none (.agg cs) (.agg (c.extract off (off+cs.length))):=by
  simp only [V]
  refine ⟨_,rfl,by simp;omega,z70.2 fun j x hx=>?_⟩
  have hj:j < cs.length:=by
    rcases y67 j cs.length with h|h
    · exact h
    · rw [y66 h] at hx;cases hx
  obtain ⟨v,hv1,hv2⟩:=z70.1 hv j x hx
  refine ⟨v,?_,hv2⟩
  rw [Array.getElem?_extract,if_pos (by omega)]
  simpa using hv1
def ObjOk (G:Ghost) (w:World) (o wd:Nat) (es:List (List AC)) (b:Nat) (c:Array Value) (el:TypeId):Prop :=
 G.ι o=some (b,c.size,wd)∧G.κ b=some (o,[])∧w.heap[b]?=some (.cells c el (0,0))∧VLL G (hp w) (some (o,[])) wd es c 0
theorem Wf.obj {G : Ghost} {objs : Nat → AObj} {w : World} (h : Wf G objs w) {o wd : Nat} {es : List (List AC)} (ho : objs o = .cells wd es) {k : Nat} {e : List AC} (he : es[k]? = some e) :
    ∃ b c el,ObjOk G w o wd es b c el:=by
  have:=h.objs o
  rw [ho] at this
  rcases this with ⟨h1,_⟩|⟨b,size,c,el,h1,h2,h3,h4,h5⟩
  · subst h1;simp at he
  · subst h4;exact ⟨b,c,el,h1,h2,h3,h5⟩
theorem V_ptr {G:Ghost} {h:Nat→Option Obj} {l:Loc} {o off:Nat} {i:Option Nat} {v:Value} {b s wd:Nat} (hv:V G h l (.ptr o i off) v) (hι:G.ι o=some (b,s,wd)):v=.pointer (some ⟨b,i.getD 0 * wd+off,none⟩):=by
 simp only [V] at hv
 obtain ⟨b',s',w',h1,h2⟩:=hv
 rw [hι] at h1;cases h1;exact h2
theorem z1172 {o:Oper} {t:TypeId} {x:Operand} (ho:o.op=.load t x):∀ ρ,execOp ρ o=(do pure (.value (← Instr.loadAt t (ρ x)))):=by
 intro ρ;unfold execOp;rw [ho]
theorem z812 {t : TypeId} {i : TyI} {o k off wd : Nat} {ki : Option Nat} {es : List (List AC)} {e : List AC} (ht : TyOk P t i) (hob : st.objs o = .cells wd es) (he : es[k]? = some e) (hki : ki.getD 0 = k) (h : z652 i e off [st.rd o] K) :
    ∃ res fp,(∀ c∈fp,c.post=c.pre∧st.objs c.o=c.pre)∧K res fp ∧
    ∀ (G:Ghost) (objs:Nat→AObj) (w:World) (v:Value),Wf G objs w→(∀ c∈fp,objs c.o=c.pre)→V G (hp w) none (.ptr o ki off) v→∃ u,(Instr.loadAt t v).run P w=.ok u w∧V G (hp w) none res u:=by
  unfold z652 at h
  cases ha:aggB i.desc with
  | true =>
    rw [ha] at h
    obtain ⟨hle,h⟩:=z32 h
    rw [z351,z657] at h
    obtain ⟨hno,hk⟩:=z32 h
    have hle:=Nat.le_of_ble_eq_true hle
    refine ⟨_,[st.rd o],by simp [St.rd],hk,fun G objs w v0 hw hob' h1=>?_⟩
    have hob2:objs o=.cells wd es:=by have:=hob' (st.rd o) (by simp);simp only [St.rd] at this;rw [this,hob]
    obtain ⟨b,c,el,hι,hκ,hb,hc⟩:=hw.obj hob2 he
    have h2:=V_ptr h1 hι
    rw [hki] at h2
    obtain ⟨hew,hel⟩:=z74.1 hc k e he
    have hlen:((e.drop off).take i.size).length=i.size:=by simp;omega
    have hvl:VL G (hp w) (some (o,[])) ((e.drop off).take i.size) c (k * wd+off):=by
      have:=z918 (k:=i.size) (z461 (k:=off) hel)
      rwa [Nat.zero_add] at this
    have hbd:k * wd+off+i.size≤c.size:=by
      by_cases hne:e=[]
      · subst hne
        simp at hle
        have:i.size=0:=by omega
        have:off=0:=by omega
        subst this
        have hwd:wd=0:=by simpa using hew.symm
        subst hwd;omega
      · have:=z502 hel hne
        omega
    refine ⟨_,by rw [h2];exact z249 ht ha hb hbd,?_⟩
    have:=z717 hvl hno (by rw [hlen];exact hbd)
    rwa [hlen] at this
  | false =>
    rw [ha] at h
    dsimp only at h
    rw [z351] at h
    split at h
    · rename_i c0 rest hdr
      obtain ⟨hno,hk⟩:=z32 h
      refine ⟨_,[st.rd o],by simp [St.rd],hk,fun G objs w v0 hw hob' h1=>?_⟩
      have hob2:objs o=.cells wd es:=by have:=hob' (st.rd o) (by simp);simp only [St.rd] at this;rw [this,hob]
      obtain ⟨b,c,el,hι,hκ,hb,hc⟩:=hw.obj hob2 he
      have h2:=V_ptr h1 hι
      rw [hki] at h2
      obtain ⟨hew,hel⟩:=z74.1 hc k e he
      have:=z461 (k:=off) hel
      rw [hdr] at this
      simp only [VL,Nat.zero_add] at this
      obtain ⟨⟨v,hv1,hv2⟩,_⟩:=this
      exact ⟨v,by rw [h2];exact z364 ht ha hb hv1,z1271 (by simpa using hno) hv2⟩
    · exact h.elim
theorem z955 {t : TypeId} {i : TyI} {p : AC} (ht : TyOk P t i) (h : z724 i st p K) : ∃ res fp, (∀ c ∈ fp, c.post = c.pre ∧ st.objs c.o = c.pre) ∧ K res fp ∧
  ∀ (G:Ghost) (objs:Nat→AObj) (w:World) (v:Value),Wf G objs w→(∀ c∈fp,objs c.o=c.pre)→V G (hp w) none p v→∃ u,(Instr.loadAt t v).run P w=.ok u w∧V G (hp w) none res u:=by
 unfold z724 at h
 split at h
 ·rename_i cs
  cases ha:aggB i.desc with
  |true =>
   rw [ha] at h
   obtain ⟨hle,hk⟩:=z32 h
   rw [z657] at hk
   have hle:=Nat.le_of_ble_eq_true hle
   refine ⟨_,[],by simp,hk,fun G objs w v hw _ h1=>?_⟩
   simp only [V] at h1
   obtain ⟨b,off,c,el,fz,h2,h3,h4⟩:=h1
   have h4:=z1272 (h':=hp w) h4
   have hlen:(cs.take i.size).length=i.size:=by simp;omega
   by_cases hz:i.size=0
   ·refine ⟨.agg (c.extract off (off+i.size)),?_,?_⟩
    ·rw [h2]
     by_cases hoff:off≤c.size
     ·exact z249 ht ha (hw.hS _ _ h3) (by omega)
     ·obtain ⟨h1,inf,hi2,hi3,_⟩:=ht
      simp only [Instr.loadAt,Instr.sureAddr,Sem.run_bind,Sem.run_pure,Result.andThen,loadVar,z396 h1,ha,if_true,z157 hi2,hi3,hz,loadCells,loadCellsFrom]
      simp
      omega
    ·simp only [hz,List.take_zero,V]
     exact ⟨_,rfl,by simp;omega,by simp [VL]⟩
   ·have hne:cs.take i.size≠[]:=by intro e;rw [e] at hlen;simp at hlen;omega
    have hb:=z502 (z918 (k:=i.size) h4) hne
    rw [hlen] at hb
    refine ⟨_,by rw [h2];exact z249 ht ha (hw.hS _ _ h3) hb,?_⟩
    have:=z1018 (by rw [hlen];exact hb) (z918 (k:=i.size) h4)
    rwa [hlen] at this
  |false =>
   rw [ha] at h
   dsimp only at h
   split at h
   ·rename_i c0 rest
    refine ⟨_,[],by simp,h,fun G objs w v0 hw _ h1=>?_⟩
    simp only [V] at h1
    obtain ⟨b,off,c,el,fz,h2,h3,h4⟩:=h1
    have h4:=z1272 (h':=hp w) h4
    simp only [VL] at h4
    obtain ⟨⟨v,hv1,hv2⟩,_⟩:=h4
    exact ⟨v,by rw [h2];exact z364 ht ha (hw.hS _ _ h3) hv1,hv2⟩
   ·exact h.elim
 ·rename_i o k off
  split at h
  ·rename_i wd es hob
   split at h
   ·split at h
    ·rename_i e rest
     exact z812 ht hob (k:=0) (by simp) rfl h
    ·exact h.elim
   ·rename_i k'
    obtain ⟨e,he,h⟩:=h
    exact z812 ht hob he rfl h
  ·exact h.elim
 ·exact h.elim
theorem z998 {t:TypeId} {i:TyI} {x:Operand} (ht:TyOk P t i) (h:z724 i st (st.ev x) K):z108 P st ⟨dst,.load t x,type,pos,after,guard⟩ K:=by
 obtain ⟨res,fp,h1,h2,h3⟩:=z955 ht h
 exact ⟨res,fp,OpT.val (fun ρ=>Instr.loadAt t (ρ x)) (z1172 rfl) (fun c hc=>(h1 c hc).1) (fun G objs a w hw hob hxs=>h3 G objs w _ hw hob (hxs x (by simp [Op.operands]))),fun c hc=>⟨(h1 c hc).2,fun _=>(h1 c hc).1⟩,h2⟩
theorem z521 {s f : Nat} {i fi : TyI} {fs : Array Field} {fd : Field} {x : Operand} (ht : TyOk P s i) (hd : i.desc = .struct fs) (hf : fs[f]? = some fd) (hfi : TyOk P fd.type fi) (hz : fi.size ≠ 0)
    (h:z840 fd.offset (st.ev x) K):z108 P st ⟨dst,.fieldAddr s x f,type,pos,after,guard⟩ K:=by
  unfold z840 at h
  split at h
  · rename_i cs hx
    rw [z351] at h
    refine ⟨_,[],OpT.val (fun ρ=>Instr.fieldAt s (ρ x) f) (fun _=>rfl) (by simp) (fun G objs a w hw _ hxs=>?_),by simp,h⟩
    have h1:=hxs x (by simp [Op.operands])
    rw [hx] at h1;simp only [V] at h1
    obtain ⟨b,off,c,el,fz,h2,h3,h4⟩:=h1
    refine ⟨_,by rw [h2];exact z531 ht hd hf hfi hz,?_⟩
    simp only [V]
    exact ⟨b,off+fd.offset,c,el,fz,rfl,h3,z461 h4⟩
  · rename_i o k off hx
    refine ⟨_,[],OpT.val (fun ρ=>Instr.fieldAt s (ρ x) f) (fun _=>rfl) (by simp) (fun G objs a w hw _ hxs=>?_),by simp,h⟩
    have h1:=hxs x (by simp [Op.operands])
    rw [hx] at h1;simp only [V] at h1
    obtain ⟨b,sz,wd,h2,h3⟩:=h1
    refine ⟨_,by rw [h3];exact z531 ht hd hf hfi hz,?_⟩
    simp only [V]
    exact ⟨b,sz,wd,h2,by rw [Nat.add_assoc]⟩
  · exact h.elim
theorem z589 {t e len : Nat} {i ei : TyI} {x ix : Operand} (ht : TyOk P t i) (hd : i.desc = .array len e) (he : TyOk P e ei)
    (h:z1081 len ei.size (st.ev x) (st.ev ix) K):z108 P st ⟨dst,.indexAddr t x ix,type,pos,after,guard⟩ K:=by
  unfold z1081 at h
  split at h
  · rename_i kk n hix
    obtain ⟨⟨h0,hlt⟩,h⟩:=h
    split at h
    · rename_i cs hx
      rw [z351] at h
      refine ⟨_,[],OpT.val (fun ρ=>Instr.indexAt t (ρ x) (ρ ix)) (fun _=>rfl) (by simp) (fun G objs a w hw _ hxs=>?_),by simp,h⟩
      have h1:=hxs x (by simp [Op.operands])
      have h2':=hxs ix (by simp [Op.operands])
      rw [hix,z103] at h2'
      rw [hx] at h1;simp only [V] at h1
      obtain ⟨b,off,c,el,fz,h2,h3,h4⟩:=h1
      refine ⟨_,by rw [h2,h2'];exact z613 ht hd he h0 hlt,?_⟩
      simp only [V]
      exact ⟨b,off+n.toNat * ei.size,c,el,fz,rfl,h3,z461 h4⟩
    · rename_i o k off hx
      refine ⟨_,[],OpT.val (fun ρ=>Instr.indexAt t (ρ x) (ρ ix)) (fun _=>rfl) (by simp) (fun G objs a w hw _ hxs=>?_),by simp,h⟩
      have h1:=hxs x (by simp [Op.operands])
      have h2':=hxs ix (by simp [Op.operands])
      rw [hix,z103] at h2'
      rw [hx] at h1;simp only [V] at h1
      obtain ⟨b,sz,wd,h2,h3⟩:=h1
      refine ⟨_,by rw [h3,h2'];exact z613 ht hd he h0 hlt,?_⟩
      simp only [V]
      exact ⟨b,sz,wd,h2,by rw [Nat.add_assoc]⟩
    · exact h.elim
  · exact h.elim
theorem z520 {t e : Nat} {i ei : TyI} {x ix : Operand} (ht : TyOk P t i) (hd : i.desc = .slice e) (he : TyOk P e ei)
    (h:z839 ei.size st (st.ev x) (st.ev ix) K):z108 P st ⟨dst,.indexAddr t x ix,type,pos,after,guard⟩ K:=by
  unfold z839 at h
  split at h
  · rename_i k n hix
    split at h
    · rename_i wd nn es hx
      obtain ⟨hw,h0,cs,hcs,hk⟩:=z32 h
      have hw:=Nat.eq_of_beq_eq_true hw
      refine ⟨_,[],OpT.val (fun ρ=>Instr.indexAt t (ρ x) (ρ ix)) (fun _=>rfl) (by simp) (fun G objs a w hwf _ hxs=>?_),by simp,hk⟩
      have h1:=hxs x (by simp [Op.operands])
      have h2:=hxs ix (by simp [Op.operands])
      rw [hix,z103] at h2
      rw [hx] at h1;simp only [V] at h1
      obtain ⟨a0,cap,h3,_,h4,h5⟩:=h1
      have hlt:n.toNat < nn:=by
        rw [← h4]
        rcases y67 n.toNat es.length with h|h
        · exact h
        · rw [y66 h] at hcs;cases hcs
      rcases h5 with h5|⟨b,off,c,el,fz,h6,h7,h8⟩
      · subst h5;simp at hcs
      · subst h6
        refine ⟨_,by rw [h2,h3];exact z530 ht hd he h0 hlt,?_⟩
        simp only [V]
        obtain ⟨h9,h10⟩:=z74.1 h8 _ _ hcs
        exact ⟨b,_,c,el,fz,rfl,h7,by rw [← hw];exact h10⟩
    · rename_i o off len hx
      split at h
      · rename_i wd es hob
        obtain ⟨hw,⟨h0,hlt⟩,hk⟩:=z32 h
        have hw:=Nat.eq_of_beq_eq_true hw
        refine ⟨_,[st.rd o],OpT.val (fun ρ=>Instr.indexAt t (ρ x) (ρ ix)) (fun _=>rfl) (by simp [St.rd]) (fun G objs a w hwf hob' hxs=>?_),by simp [St.rd],hk⟩
        have h1:=hxs x (by simp [Op.operands])
        have h2:=hxs ix (by simp [Op.operands])
        rw [hix,z103] at h2
        rw [hx] at h1;simp only [V] at h1
        obtain ⟨cap,hcap,h3⟩:=h1
        have hob2:objs o=.cells wd es:=by have:=hob' (st.rd o) (by simp);simp only [St.rd] at this;rw [this,hob]
        rcases h3 with ⟨h3,_⟩|⟨b,sz,wd',h4,h5,h6⟩
        · omega
        · have hwd:wd'=wd:=by
            have:=hwf.objs o
            rw [hob2] at this
            rcases this with ⟨_,h7⟩|⟨b',s',c',el',h7,_⟩
            · rw [h4] at h7;cases h7
            · rw [h4] at h7;cases h7;rfl
          subst hwd
          refine ⟨_,by rw [h2,h6];exact z530 ht hd he h0 hlt,?_⟩
          simp only [V]
          refine ⟨b,sz,wd',h4,?_⟩
          rw [← hw,Option.getD_some,Nat.add_mul,Nat.add_comm (off * wd')]
          rfl
      · exact h.elim
    · exact h.elim
  · exact h.elim
end Go.Gl
namespace Go.Gl
variable {P:Program} {T:Tab} {dst:Option Tmp} {type:TypeId} {pos:String} {after:Array Edge} {guard:Option (Nat×Bool)} {st:St} {K:OpK}
theorem z309 {G:Ghost} {h:Nat→Option Obj} {l:Loc} {c:AC} {v:Value} (hs:z338 c=true) (hv:V G h l c v):v.oneCell=true:=by
 cases c<;>simp only [z338,V] at hs hv
 case raw u=>subst hv;exact hs
 case list=>obtain ⟨_,_,rfl,_⟩:=hv;rfl
 case pt=>obtain ⟨_,_,_,_,_,rfl,_⟩:=hv;rfl
 case sref =>
  obtain ⟨cap,_,hv⟩:=hv
  rcases hv with ⟨_,a,rfl⟩|⟨_,_,_,_,_,rfl⟩<;>rfl
 case ptr=>obtain ⟨_,_,_,_,rfl⟩:=hv;rfl
 case mref=>obtain ⟨_,_,_,_,rfl⟩:=hv;rfl
 case fn=>obtain ⟨_,_,rfl,_⟩:=hv;rfl
 all_goals simp at hs
theorem z1241 {v:Value} (h:v.oneCell=true):v.cells=#[v]:=by
 cases v<;>first|rfl|simp [Value.oneCell] at h
theorem z428 {G : Ghost} {h : Nat → Option Obj} {c : AC} {v : Value} (hs : z95 (cellsOf c) = true) (hv : V G h none c v) :
    v.cells.size=(cellsOf c).length∧VL G h none (cellsOf c) v.cells 0∧∀ u∈v.cells.toList,u.oneCell=true:=by
  have single:∀ c',cellsOf c'=[c']→z95 (cellsOf c')=true→V G h none c' v→v.cells.size=(cellsOf c').length∧VL G h none (cellsOf c') v.cells 0∧∀ u∈v.cells.toList,u.oneCell=true:=by
    intro c' he hs' hv'
    rw [he] at hs' ⊢
    have h1:=z309 ((z177.1 hs') c' (by simp)) hv'
    rw [z1241 h1]
    refine ⟨rfl,?_,by simpa using h1⟩
    simp only [VL]
    exact ⟨⟨v,by simp,by simpa [Loc.cell] using hv'⟩,trivial⟩
  cases c with
  | agg cs =>
    simp only [V] at hv
    obtain ⟨arr,rfl,h1,h2⟩:=hv
    simp only [cellsOf] at hs ⊢
    refine ⟨h1,h2,fun u hu=>?_⟩
    simp only [Value.cells] at hu
    obtain ⟨j,hj,rfl⟩:=List.getElem_of_mem hu
    simp at hj
    have hjc:j < cs.length:=by omega
    obtain ⟨v,hv1,hv2⟩:=z70.1 h2 j cs[j] (by rw [y42 hjc])
    simp [Array.getElem?_eq_getElem hj] at hv1
    subst hv1
    exact z309 (z177.1 hs _ (y41 hjc)) hv2
  | _=>exact single _ rfl hs hv
theorem getElem?_splice {e vs : List AC} {off j : Nat} (h : off + vs.length ≤ e.length) :
    (z257 e off vs)[j]?=if off≤j∧j < off+vs.length then vs[j - off]? else e[j]?:=by
  unfold z257
  have h1:(e.take off).length=off:=by simp;omega
  rw [List.append_assoc,List.getElem?_append]
  split
  · rename_i hj;rw [h1] at hj
    rw [if_neg (by omega),List.getElem?_take,if_pos hj]
  · rename_i hj;rw [h1] at hj ⊢
    rw [List.getElem?_append]
    split
    · rw [if_pos (by omega)]
    · rw [if_neg (by omega),List.getElem?_drop]
      congr 1;omega
theorem z408 {e vs:List AC} {off:Nat} (h:off+vs.length≤e.length):(z257 e off vs).length=e.length:=by
 unfold z257;simp;omega
theorem z735 {t : TypeId} {i : TyI} {x y : Operand} {o k off wd : Nat} {ki : Option Nat} {es : List (List AC)} {e : List AC} (ht : TyOk P t i) (hx : st.ev x = .ptr o ki off) (hob : st.objs o = .cells wd es) (he : es[k]? = some e) (hki : ki.getD 0 = k)
    (hlen:(cellsOf (st.ev y)).length=i.size) (hst:z95 (cellsOf (st.ev y))=true) (hle:off+i.size≤wd) (hk:K .any [⟨o,.cells wd es,.cells wd (es.set k (z257 e off (cellsOf (st.ev y))))⟩]) :
    z108 P st ⟨dst,.store t x y,type,pos,after,guard⟩ K:=by
  refine ⟨.any,[⟨o,.cells wd es,.cells wd (es.set k (z257 e off (cellsOf (st.ev y))))⟩],⟨fun Q K' G st' a w hR hrd hfp hd hK=>?_⟩,by simp [hob,z132],hk⟩
  have hob2:st'.objs o=.cells wd es:=hfp _ (List.mem_singleton.2 rfl)
  obtain ⟨b,c,el,hι,hκ,hb,hc⟩:=hR.wf.obj hob2 he
  have h1:=hR.ev x
  rw [z119 (xs:=(Op.store t x y).operands.toList) (by simp [Op.operands]) hrd,hx] at h1
  have h2:=hR.ev y
  rw [z119 (xs:=(Op.store t x y).operands.toList) (by simp [Op.operands]) hrd] at h2
  obtain ⟨hcs,hcv,hc1⟩:=z428 hst h2
  obtain ⟨hew,hel⟩:=z74.1 hc k e he
  have hkl:k < es.length:=by
    rcases y67 k es.length with h|h
    · exact h
    · rw [y66 h] at he;cases he
  have hbd:k * wd+off+i.size≤c.size:=by
    by_cases hne:e=[]
    · subst hne
      simp at hew
      subst hew
      omega
    · have:=z502 hel hne
      omega
  refine wp_u rfl (by rw [V_ptr h1 hι,hki];exact (by exact z860 ht (by rw [hcs,hlen]) hb hbd hc1)) ?_
  refine hK G _ _ (Ghost.Sub.refl G) (fun _ _ h=>h) ⟨rfl,rfl,rfl,by simp [World.setObj]⟩ ⟨?_,?_,by rw [z203];exact hR.size,by rw [z146];exact hR.defers⟩
  · refine hR.wf.store hι hκ hb rfl (z345 _ _ _) (z74.2 fun m e' he'=>?_)
    have hln:(z257 e off (cellsOf (st.ev y))).length=wd:=by rw [z408 (by omega),hew]
    have hpos:∀ j,j < wd→(lay c (k * wd+off) (a.eval y).cells.toList)[m * wd+j]?=if m=k∧off≤j∧j < off+i.size then (a.eval y).cells[j - off]? else c[m * wd+j]?:=by
      intro j hj
      rw [z451 _ _ _ _ (by simp [hcs,hlen];omega)]
      simp only [Array.length_toList,hcs,hlen]
      by_cases hm:m=k
      · subst hm
        by_cases h3:off≤j∧j < off+i.size
        · rw [if_pos (by omega),if_pos ⟨rfl,h3⟩,show m * wd+j - (m * wd+off)=j - off by omega]
          simp
        · rw [if_neg (by omega),if_neg (by rintro ⟨_,h⟩;omega)]
      · rw [if_neg (c:=m=k∧_) (by rintro ⟨h,_⟩;exact hm h),if_neg]
        rcases Nat.lt_or_gt_of_ne hm with hlt|hgt
        · have:(m+1) * wd≤k * wd:=Nat.mul_le_mul_right _ hlt
          rw [Nat.add_mul] at this;omega
        · have:(k+1) * wd≤m * wd:=Nat.mul_le_mul_right _ hgt
          rw [Nat.add_mul] at this;omega
    by_cases hm:m=k
    · subst hm
      rw [List.getElem?_set_self hkl] at he'
      cases he'
      refine ⟨hln,z70.2 fun j z hz=>?_⟩
      have hj:j < wd:=by
        rw [← hln]
        rcases y67 j (z257 e off (cellsOf (st.ev y))).length with h|h
        · exact h
        · rw [y66 h] at hz;cases hz
      rw [getElem?_splice (by omega)] at hz
      rw [show 0+m * wd+j=m * wd+j by omega,hpos j hj]
      split at hz
      · rename_i hin
        rw [if_pos ⟨rfl,by omega⟩]
        obtain ⟨v,hv1,hv2⟩:=z70.1 hcv _ z hz
        exact ⟨v,by simpa using hv1,V_at hv2⟩
      · rw [if_neg (by rintro ⟨_,h⟩;omega)]
        obtain ⟨v,hv1,hv2⟩:=z70.1 hel j z hz
        rw [Nat.zero_add] at hv1 hv2
        exact ⟨v,hv1,hv2⟩
    · rw [List.getElem?_set_ne (Ne.symm hm)] at he'
      obtain ⟨h3,h4⟩:=z74.1 hc m e' he'
      refine ⟨h3,z70.2 fun j z hz=>?_⟩
      have hj:j < wd:=by
        rw [← h3]
        rcases y67 j e'.length with h|h
        · exact h
        · rw [y66 h] at hz;cases hz
      obtain ⟨v,hv1,hv2⟩:=z70.1 h4 j z hz
      rw [Nat.zero_add] at hv1 hv2 ⊢
      exact ⟨v,by rw [hpos j hj,if_neg (by simp [hm])];exact hv1,hv2⟩
  · exact z292 hd hR.size (fun s=>z149 (fun _ _ e=>e) (fun _ _ e=>e) (hR.env s)) (by simp [V])
theorem z850 {t:TypeId} {i:TyI} {x y:Operand} (ht:TyOk P t i) (h:z837 i st (st.ev x) (st.ev y) K):z108 P st ⟨dst,.store t x y,type,pos,after,guard⟩ K:=by
 unfold z837 at h
 split at h
 ·rename_i o ki off hx
  split at h
  ·rename_i wd es hob
   rw [z141] at h
   obtain ⟨hlen,h⟩:=z32 h
   obtain ⟨hst,h⟩:=z32 h
   obtain ⟨hle,h⟩:=z32 h
   have hlen:=Nat.eq_of_beq_eq_true hlen
   have hle:=Nat.le_of_ble_eq_true hle
   cases ki with
   |none =>
    cases es with
    |nil=>exact h.elim
    |cons e rest =>
     dsimp only at h
     rw [z209] at h
     exact z735 ht hx hob (k:=0) (e:=e) (by simp) rfl hlen hst hle (by simpa using h)
   |some k =>
    obtain ⟨e,he,h⟩:=h
    rw [z209] at h
    exact z735 ht hx hob he rfl hlen hst hle h
  ·exact h.elim
 ·exact h.elim
theorem OpT.fresh {o : Oper} {st : St} {q wd : Nat} {es : List (List AC)} {res : AC} (s : (Operand → Value) → Sem Value) (he : ∀ ρ, execOp ρ o = (do pure (.value (← s ρ))))
    (h:∀ (G:Ghost) (a:Act) (w:World),(∀ x∈o.op.operands.toList,V G (hp w) none (st.ev x) (a.eval x))→∃ v c el,(s a.eval).run P w=.ok v (w.alloc (.cells c el))∧VLL G (hp w) none wd es c 0 ∧
      (∀ (G' : Ghost) (h' : Nat→Option Obj),G'.ι q=some (w.heap.size,c.size,wd)→V G' h' none res v)) :
    OpT P o (st.reads o.op.operands.toList) [⟨q,.fresh,.cells wd es⟩] res where
  run Q K G st' a w hR hrd hfp hd hK:=by
    obtain ⟨v,c,el,h1,h2,h3⟩:=h G a w (fun x hx=>by rw [← z119 hx hrd];exact hR.ev x)
    refine wp_v (he a.eval) h1 ?_
    have hq:st'.objs q=.fresh:=hfp _ (List.mem_singleton.2 rfl)
    have hh:(w.alloc (.cells c el)).heap=w.heap.push (.cells c el (0,0)):=rfl
    exact hK (G.push q w.heap.size c.size wd) _ _ ⟨y8,rfl⟩ (y9 (by have:=hR.wf.objs q;rw [hq] at this;exact this)) ⟨rfl,rfl,rfl,by simp [hh]⟩ (hR.push hd hq hh h2 (h3 _ _ (by simp [Ghost.push,z36])))
theorem z467 (G:Ghost) (h:Nat→Option Obj) (z:Value):VL G h none (z94 z) z.cells 0:=by
 refine z70.2 fun j x hx=>?_
 simp only [z94,y48,Option.map_eq_some_iff] at hx
 obtain ⟨v,hv,rfl⟩:=hx
 exact ⟨v,by simpa using hv,by simp [V]⟩
theorem z311 {o : Oper} {wd : Nat} {es : List (List AC)} {res : Nat → AC} (hw : z132 o.op = true) (h : z723 st wd es res K)
    (hT:OpT P o (st.reads o.op.operands.toList) [⟨st.next,.fresh,.cells wd es⟩] (res st.next)):z108 P st o K:=by
  unfold z723 at h
  split at h
  · rename_i hf
    rw [z116] at h
    exact ⟨res st.next,_,hT,by simp [hf,hw],h⟩
  · exact h.elim
theorem z641 {G:Ghost} {h:Nat→Option Obj} {l:Loc} {cs:List AC} {c:Array Value} (hv:VL G h l cs c 0):VLL G h l cs.length [cs] c 0:=by
 simp only [VLL];exact ⟨trivial,hv,trivial⟩
theorem z984 {q b s wd:Nat} {G' : Ghost} {h' : Nat→Option Obj} (hι:G'.ι q=some (b,s,wd)):V G' h' none (.ptr q none 0) (.pointer (some ⟨b,0,none⟩)):=by
 simp only [V];exact ⟨b,s,wd,hι,by simp⟩
def z842 (i:TyI) (st:St) (K:OpK):Prop:=litK (z94 i.zero) fun z=>z723 st z.length [z] (fun q=>.ptr q none 0) K
theorem z854 {t:TypeId} {i:TyI} (ht:TyOk P t i) (h:z842 i st K):z108 P st ⟨dst,.alloc t,type,pos,after,guard⟩ K :=
 z311 rfl (by unfold z842 at h;rwa [z284] at h) (OpT.fresh (fun _=>Instr.alloc t true (.tuple #[])) (fun _=>rfl) fun G a w _ =>
  ⟨_,_,_,z1122 ht,z641 (z467 G _ _),fun _ _ hι=>z984 hι⟩)
def vcBox (st:St) (v:AC) (K:OpK):Prop:=z416 v fun v=>z76 (z95 (cellsOf v)) (litK (cellsOf v) fun z=>z723 st z.length [z] (fun q=>.ptr q none 0) K)
theorem z1108 {t:TypeId} {x:Operand} (h:vcBox st (st.ev x) K):z108 P st ⟨dst,.box t x,type,pos,after,guard⟩ K:=by
 unfold vcBox at h
 rw [z141] at h
 obtain ⟨hs,h⟩:=z32 h
 rw [z284] at h
 exact z311 rfl h (OpT.fresh (fun ρ=>Instr.box t (ρ x)) (fun _=>rfl) fun G a w hx=>by
  obtain ⟨h1,h2,_⟩:=z428 hs (hx x (by simp [Op.operands]))
  exact ⟨_,_,_,run_box,z641 h2,fun _ _ hι=>z984 hι⟩)
theorem z462 {G:Ghost} {h:Nat→Option Obj} {l:Loc} {n:Nat} {z:Value} : VLL G h l z.cells.size (List.replicate n (z94 z)) (z243 n z.cells) 0:=by
 refine z74.2 fun i e he=>?_
 rw [List.getElem?_replicate] at he
 split at he
 ·rename_i hi
  cases he
  refine ⟨by simp [z94],z70.2 fun j x hx=>?_⟩
  have hj:j < z.cells.size:=by
   have:j < (z94 z).length:=by
    rcases y67 j (z94 z).length with h|h
    ·exact h
    ·rw [y66 h] at hx;cases hx
   simpa [z94] using this
  rw [show 0+i * z.cells.size+j=i * z.cells.size+j by omega,z1051 hi hj]
  simp only [z94,y48,Option.map_eq_some_iff] at hx
  obtain ⟨v,hv,rfl⟩:=hx
  exact ⟨v,by simpa using hv,by simp [V]⟩
 ·cases he
theorem z294 (n:Nat) (z:Array Value):(z243 n z).size=n * z.size:=by simp [z243]
theorem z519 {t e : TypeId} {i ei : TyI} {x y : Operand} (ht : TyOk P t i) (hd : i.desc = .slice e) (he : TyOk P e ei)
    (h:z1078 ei st (st.ev x) (st.ev y) K):z108 P st ⟨dst,.makeSlice t x y,type,pos,after,guard⟩ K:=by
  unfold z1078 at h
  split at h
  · rename_i k1 n k2 m hx hy
    obtain ⟨⟨h0,h1,h2,h3⟩,h⟩:=h
    obtain ⟨hz,h⟩:=z32 h
    rw [z116,z284] at h
    have hz' : ei.zero.cells.size=ei.size:=by have:=Nat.eq_of_beq_eq_true hz;simpa [z94] using this
    exact z311 rfl h (OpT.fresh (fun ρ=>Instr.makeSlice t (ρ x) (ρ y)) (fun _=>rfl) fun G a w hxs=>by
      have h4:=hxs x (by simp [Op.operands])
      have h5:=hxs y (by simp [Op.operands])
      rw [hx,z103] at h4
      rw [hy,z103] at h5
      refine ⟨_,_,_,by rw [h4,h5];exact z669 ht hd he hz' h0 h1 h2 h3,?_,fun G' h' hι=>?_⟩
      · have:=z462 (G:=G) (h:=hp w) (l:=none) (n:=m.toNat) (z:=ei.zero)
        rw [hz'] at this
        rw [z74] at this ⊢
        intro i e he
        refine this i e ?_
        rw [List.getElem?_replicate] at he ⊢
        split at he
        · rw [if_pos (by omega)];exact he
        · cases he
      · simp only [V]
        refine ⟨m.toNat,by omega,.inr ⟨_,_,_,hι,?_,by simp⟩⟩
        rw [z294,hz',Nat.zero_add];exact y49 _)
  · exact h.elim
end Go.Gl
namespace Go.Gl
variable {P:Program} {T:Tab} {dst:Option Tmp} {type:TypeId} {pos:String} {after:Array Edge} {guard:Option (Nat×Bool)} {st:St} {K:OpK}
theorem z84 {o : Oper} {res : AC} (s : (Operand → Value) → Sem Value) (he : ∀ ρ, execOp ρ o = (do pure (.value (← s ρ)))) (hk : K res [])
    (h:∀ (G:Ghost) (a:Act) (w:World),(∀ x∈o.op.operands.toList,V G (hp w) none (st.ev x) (a.eval x))→∃ v,(s a.eval).run P w=.ok v w∧V G (hp w) none res v):z108 P st o K :=
  ⟨res,[],OpT.val s he (by simp) (fun G _ a w _ _ hx=>h G a w hx),by simp,hk⟩
theorem z663 {x:Operand} {i:Nat} (h:vcTup (st.ev x) i K):z108 P st ⟨dst,.extract x i,type,pos,after,guard⟩ K:=by
 unfold vcTup at h
 split at h
 ·rename_i cs hx
  split at h
  ·rename_i c rest hdr
   refine z84 (fun ρ=>Instr.extract (ρ x) i) (fun _=>rfl) h fun G a w hxs=>?_
   have h1:=hxs x (by simp [Op.operands])
   rw [hx] at h1;simp only [V] at h1
   obtain ⟨arr,h2,h3,h4⟩:=h1
   have:=z461 (k:=i) h4
   rw [hdr] at this
   simp only [VL,Nat.zero_add] at this
   obtain ⟨⟨v,hv1,hv2⟩,_⟩:=this
   refine ⟨v,?_,hv2⟩
   rw [h2];simp [Instr.extract,hv1,go_sem]
  ·exact h.elim
 ·exact h.elim
def z1113:Option TyI→Bool
 |some i=>match i.desc with
  |.slice _=>true
  |_=>false
 |none=>false
def z846:Option TyI→Bool
 |some i=>match i.desc with
  |.string=>true
  |_=>false
 |none=>false
def z1079 (t:Option TyI) (x:AC) (K:OpK):Prop :=
 match x with
 |.raw (.string s)=>z76 (z846 t) (K (.int s.size) [])
 |x=>z76 (z1113 t) (vcLen x K)
theorem z409 {c : Array Operand} {ts : Array TypeId} (ρ : Operand → Value) :
    execOp ρ ⟨dst,.call ⟨.builtin .len,c,ts⟩,type,pos,after,guard⟩=(do pure (.value (← Builtin.len_ ts type (c.map ρ)))):=by
  simp [execOp,resolve,invoke,Go.builtin,go_sem]
theorem z855 {t:TypeId} (hT:z135 P T) (h:z1113 (T t)=true):∃ e,P.underlying t=some (.slice e):=by
 unfold z1113 at h
 split at h
 ·rename_i i hi
  split at h
  ·rename_i e he
   exact ⟨e,by rw [(hT _ _ hi).1,he]⟩
  ·simp at h
 ·simp at h
theorem z734 {t:TypeId} (hT:z135 P T) (h:z846 (T t)=true):P.underlying t=some .string:=by
 unfold z846 at h
 split at h
 ·rename_i i hi
  split at h
  ·rename_i he
   rw [(hT _ _ hi).1,he]
  ·simp at h
 ·simp at h
theorem z638 {t:TypeId} (hT:z135 P T) (h:z555 (T t)=true):P.underlying t=some .bool:=by
 unfold z555 at h
 split at h
 ·rename_i i hi
  split at h
  ·rename_i he
   rw [(hT _ _ hi).1,he]
  ·simp at h
 ·simp at h
theorem z202 {w : World} {t e : TypeId} {ty : TypeId} {a : Option Addr} {n c : Nat} (h : P.underlying t = some (.slice e)) :
    (Builtin.len_ #[t] ty #[.slice a n c]).run P w=.ok (.int .i64 n) w:=by
  simp [Builtin.len_,z59 h,goInt,go_sem]
theorem z591 {w : World} {t : TypeId} {ty : TypeId} {s : ByteArray} (h : P.underlying t = some .string) :
    (Builtin.len_ #[t] ty #[.string s]).run P w=.ok (.int .i64 s.size) w:=by
  simp [Builtin.len_,z59 h,goInt,go_sem]
theorem z1106 {x:Operand} {t:TypeId} (hT:z135 P T) (h:z1079 (T t) (st.ev x) K):z108 P st ⟨dst,.call ⟨.builtin .len,#[x],#[t]⟩,type,pos,after,guard⟩ K:=by
 unfold z1079 at h
 split at h
 ·rename_i s hx
  obtain ⟨hs,hk⟩:=z32 h
  refine z84 (fun ρ=>Builtin.len_ #[t] type #[ρ x]) (fun ρ=>by rw [z409];simp) hk fun G a w hxs=>?_
  have h1:=hxs x (by simp [Op.operands,Call.operands])
  rw [hx,z103] at h1
  exact ⟨_,by rw [h1];exact z591 (z734 hT hs),by simp [V]⟩
 ·obtain ⟨hs,h⟩:=z32 h
  obtain ⟨e,he⟩:=z855 hT hs
  unfold vcLen at h
  split at h
  ·rename_i wd n es hx
   refine z84 (fun ρ=>Builtin.len_ #[t] type #[ρ x]) (fun ρ=>by rw [z409];simp) h fun G a w hxs=>?_
   have h1:=hxs x (by simp [Op.operands,Call.operands])
   rw [hx] at h1;simp only [V] at h1
   obtain ⟨_,_,h1,_⟩:=h1
   exact ⟨_,by rw [h1];exact z202 he,by simp [V]⟩
  ·rename_i o off n hx
   refine z84 (fun ρ=>Builtin.len_ #[t] type #[ρ x]) (fun ρ=>by rw [z409];simp) h fun G a w hxs=>?_
   have h1:=hxs x (by simp [Op.operands,Call.operands])
   rw [hx] at h1;simp only [V] at h1
   obtain ⟨cap,hc,h1⟩:=h1
   rcases h1 with ⟨h2,_,h1⟩|⟨_,_,_,_,_,h1⟩
   ·have:n=0:=by omega
    subst this
    exact ⟨_,by rw [h1];exact z202 he,by simp [V]⟩
   ·exact ⟨_,by rw [h1];exact z202 he,by simp [V]⟩
  ·rename_i a0 n c hx
   refine z84 (fun ρ=>Builtin.len_ #[t] type #[ρ x]) (fun ρ=>by rw [z409];simp) h fun G a w hxs=>?_
   have h1:=hxs x (by simp [Op.operands,Call.operands])
   rw [hx,z103] at h1
   exact ⟨_,by rw [h1];exact z202 he,by simp [V]⟩
  ·rename_i s hx _ _ _
   exact absurd ‹_› (by simp_all)
  ·exact h.elim
theorem z482 {w:World} (d:Nat) {t:TypeId} {m n:Bool} (h:P.underlying t=some .bool):(Op.equalIn (d+1) t (.bool m) (.bool n)).run P w=.ok (m == n) w:=by
 simp [Op.equalIn,z59 h]
theorem z365 {w:World} {t:TypeId} {m n:Bool} (h:P.underlying t=some .bool):(Op.equal t (.bool m) (.bool n)).run P w=.ok (m == n) w :=
 z482 9999 h
theorem z245 {op : BinOp} {t t2 : TypeId} {x y : Operand} (ρ : Operand → Value) :
    execOp ρ ⟨dst,.binOp op t x y t2,type,pos,after,guard⟩=(do pure (.value (← (do eqGuard op t x y (ρ x) (ρ y);binOp op t (ρ x) (ρ y))))):=rfl
theorem z288 {n:Int} (h:inI n):IntKind.i64.wrap n=n:=IntWalk.i64_in _ (by unfold inI at h;omega)
theorem z1109 {op:BinOp} {t t2:TypeId} {x y:Operand} (hT:z135 P T) (h:vcBin (T t) op (st.ev x) (st.ev y) K):z108 P st ⟨dst,.binOp op t x y t2,type,pos,after,guard⟩ K:=by
 unfold vcBin at h
 split at h
 ·rename_i m n hx hy
  have key:∀ v,K (.raw v) []→(∀ w:World,(binOp op t (.int .i64 m) (.int .i64 n)).run P w=.ok v w)→z108 P st ⟨dst,.binOp op t x y t2,type,pos,after,guard⟩ K:=by
   intro v hk hr
   refine z84 (fun ρ=>do eqGuard op t x y (ρ x) (ρ y);binOp op t (ρ x) (ρ y)) (fun ρ=>z245 ρ) hk fun G a w hxs=>?_
   have h1:=hxs x (by simp [Op.operands])
   have h2:=hxs y (by simp [Op.operands])
   rw [hx,z103] at h1
   rw [hy,z103] at h2
   refine ⟨v,?_,by simp [V]⟩
   rw [h1,h2]
   have:(eqGuard op t x y (.int .i64 m) (.int .i64 n)).run P w=.ok () w:=by
    unfold eqGuard
    split<;>rfl
   rw [Sem.run_bind,this]
   exact hr w
  have hrem:∀ w:World,0≤m→0 < n→(binOp .rem t (.int .i64 m) (.int .i64 n)).run P w=.ok (.int .i64 (m % n)) w:=fun w h0 h1=>by
   have e:binOp .rem t (.int .i64 m) (.int .i64 n)=Op.intDiv .rem .i64 m n:=rfl
   rw [e]
   unfold Op.intDiv
   rw [if_neg (by omega)]
   simp [Int.tmod_eq_emod_of_nonneg h0]
  have hquo:∀ w:World,0≤m→0 < n→inI (m / n)→(binOp .quo t (.int .i64 m) (.int .i64 n)).run P w=.ok (.int .i64 (m / n)) w:=fun w h0 h1 hr=>by
   have e:binOp .quo t (.int .i64 m) (.int .i64 n)=Op.intDiv .quo .i64 m n:=rfl
   rw [e]
   unfold Op.intDiv
   rw [if_neg (by omega)]
   simp [Int.tdiv_eq_ediv_of_nonneg h0,z288 hr]
  split at h
  ·exact key _ h.2 fun w=>by simp [binOp,Op.intArith,z288 h.1,go_sem]
  ·exact key _ h.2 fun w=>by simp [binOp,Op.intArith,z288 h.1,go_sem]
  ·exact key _ h.2 fun w=>by simp [binOp,Op.intArith,z288 h.1,go_sem]
  ·refine key _ h.2 fun w=>?_
   obtain ⟨⟨h0,h1,hr⟩,_⟩:=h
   exact hquo w h0 h1 hr
  ·refine key _ h.2 fun w=>?_
   obtain ⟨⟨h0,h1⟩,_⟩:=h
   exact hrem w h0 h1
  ·exact key _ h fun w=>by simp [binOp,Op.intCmp,go_sem];rfl
  ·exact key _ h fun w=>by simp [binOp,Op.intCmp,go_sem];rfl
  ·exact key _ h fun w=>by simp [binOp,Op.intCmp,go_sem]
  ·exact key _ h fun w=>by simp [binOp,Op.intCmp,go_sem]
  ·exact key _ h fun w=>by simp [binOp,Op.intCmp,go_sem]
  ·exact key _ h fun w=>by simp [binOp,Op.intCmp,go_sem]
  ·exact h.elim
 ·rename_i m n hx hy
  split at h
  ·refine z84 (fun ρ=>do eqGuard .gtr t x y (ρ x) (ρ y);binOp .gtr t (ρ x) (ρ y)) (fun ρ=>z245 ρ) h fun G a w hxs=>?_
   have h1:=hxs x (by simp [Op.operands])
   have h2:=hxs y (by simp [Op.operands])
   rw [hx,z103] at h1
   rw [hy,z103] at h2
   refine ⟨_,?_,by rw [z103]⟩
   rw [h1,h2]
   have:(eqGuard .gtr t x y (.int .u8 m) (.int .u8 n)).run P w=.ok () w:=by
    unfold eqGuard
    split<;>rfl
   rw [Sem.run_bind,this]
   show (binOp .gtr t (.int .u8 m) (.int .u8 n)).run P w=_
   simp [binOp,Op.intCmp,go_sem]
  ·exact h.elim
 ·rename_i m n hx hy
  have key:∀ v,K (.raw v) []→(∀ w:World,(binOp op t (.int .u64 m) (.int .u64 n)).run P w=.ok v w)→z108 P st ⟨dst,.binOp op t x y t2,type,pos,after,guard⟩ K:=by
   intro v hk hr
   refine z84 (fun ρ=>do eqGuard op t x y (ρ x) (ρ y);binOp op t (ρ x) (ρ y)) (fun ρ=>z245 ρ) hk fun G a w hxs=>?_
   have h1:=hxs x (by simp [Op.operands])
   have h2:=hxs y (by simp [Op.operands])
   rw [hx,z103] at h1
   rw [hy,z103] at h2
   refine ⟨v,?_,by rw [z103]⟩
   rw [h1,h2]
   have:(eqGuard op t x y (.int .u64 m) (.int .u64 n)).run P w=.ok () w:=by
    unfold eqGuard
    split<;>rfl
   rw [Sem.run_bind,this]
   exact hr w
  split at h
  ·exact key _ h fun w=>by simp [binOp,Op.intCmp,go_sem];rfl
  ·exact key _ h fun w=>by simp [binOp,Op.intCmp,go_sem];rfl
  ·exact h.elim
 ·rename_i m n hx hy
  have key:∀ v,z555 (T t)=true→(op=.eql∧v=(m == n)∨op=.neq∧v=(m != n))→K (.raw (.bool v)) []→z108 P st ⟨dst,.binOp op t x y t2,type,pos,after,guard⟩ K:=by
   intro v hb ho hk
   refine z84 (fun ρ=>do eqGuard op t x y (ρ x) (ρ y);binOp op t (ρ x) (ρ y)) (fun ρ=>z245 ρ) hk fun G a w hxs=>?_
   have h1:=hxs x (by simp [Op.operands])
   have h2:=hxs y (by simp [Op.operands])
   rw [hx,z103] at h1
   rw [hy,z103] at h2
   refine ⟨_,?_,by rw [z103]⟩
   rw [h1,h2]
   have:(eqGuard op t x y (.bool m) (.bool n)).run P w=.ok () w:=by
    unfold eqGuard
    split<;>rfl
   rw [Sem.run_bind,this]
   rcases ho with ⟨rfl,rfl⟩|⟨rfl,rfl⟩
   ·have e:binOp .eql t (.bool m) (.bool n)=(do pure (.bool (← Op.equal t (.bool m) (.bool n)))):=rfl
    rw [e]
    simp only [Result.andThen]
    rw [Sem.run_bind,z365 (z638 hT hb)]
    rfl
   ·have e:binOp .neq t (.bool m) (.bool n)=(do pure (.bool (!(← Op.equal t (.bool m) (.bool n))))):=rfl
    rw [e]
    simp only [Result.andThen]
    rw [Sem.run_bind,z365 (z638 hT hb)]
    rfl
  split at h
  ·obtain ⟨hb,hk⟩:=z32 h
   exact key _ hb (.inl ⟨rfl,rfl⟩) hk
  ·obtain ⟨hb,hk⟩:=z32 h
   exact key _ hb (.inr ⟨rfl,rfl⟩) hk
  ·exact h.elim
 ·exact h.elim
theorem sound_un {op:UnOp} {t:TypeId} {x:Operand} (h:vcUn op (st.ev x) K):z108 P st ⟨dst,.unOp op t x,type,pos,after,guard⟩ K:=by
 unfold vcUn at h
 split at h
 ·rename_i b hx
  refine z84 (fun ρ=>Op.unary .not (ρ x)) (fun ρ=>rfl) h fun G a w hxs=>?_
  have h1:=hxs x (by simp [Op.operands])
  rw [hx,z103] at h1
  exact ⟨_,by rw [h1];simp [Op.unary,go_sem];rfl,by simp [V]⟩
 ·rename_i n hx
  refine z84 (fun ρ=>Op.unary .neg (ρ x)) (fun ρ=>rfl) h.2 fun G a w hxs=>?_
  have h1:=hxs x (by simp [Op.operands])
  rw [hx,z103] at h1
  refine ⟨_,?_,by rw [z103]⟩
  rw [h1]
  simp [Op.unary,Op.intArith,z288 h.1,go_sem]
 ·exact h.elim
end Go.Gl
namespace Go.Gl
mutual
def AC.unown (x:AC):AC:=match x with
 |.own w es=>.list w es.length (z80 es)
 |.sref ..=>.any
 |.ptr ..=>.any
 |.mref _=>.any
 |.fn ..=>.any
 |.agg _=>.any
 |.tup _=>.any
 |x=>x
termination_by structural x
def z299 (xs:List AC):List AC:=match xs with
 |[]=>[]
 |x::xs=>x.unown::z299 xs
termination_by structural xs
def z80 (es:List (List AC)):List (List AC):=match es with
 |[]=>[]
 |e::es=>z299 e::z80 es
termination_by structural es
end
theorem z729 (xs:List AC):z299 xs=xs.map AC.unown:=by
 induction xs with
 |nil=>rfl
 |cons x xs ih=>simp [z299,ih]
theorem z208 (es:List (List AC)):z80 es=es.map (·.map AC.unown):=by
 induction es with
 |nil=>rfl
 |cons x xs ih=>simp [z80,ih,z729]
mutual
theorem V_unown (x : AC) (G G' : Ghost) (h : Nat → Option Obj) (D : Nat × List Nat → Prop) (hS : ∀ b x, G.S b = some x → G'.S b = some x) (hD : ∀ o j q, D (o, q) → D (o, j :: q))
    (hκ:∀ b p x,D p→G.κ b=some p→h b=some x→G'.S b=some x) (l:Loc) (v:Value) (hl:∀ p,l=some p→D p) (hv:V G h l x v):V G' h none x.unown v:=by
  match x with
  | .any=>simp [AC.unown,V]
  | .raw _=>simpa [AC.unown,V] using hv
  | .list w n es=>exact z149 (G:=G.bare) (G':=G') hS (fun _ _ e=>by cases e) (x:=.list w n es) hv
  | .pt cs=>exact z149 (G:=G.bare) (G':=G') hS (fun _ _ e=>by cases e) (x:=.pt cs) hv
  | .own w es =>
    simp only [V,AC.unown] at hv ⊢
    obtain ⟨a,cap,rfl,hcap,hv⟩:=hv
    refine ⟨a,cap,rfl,hcap,by rw [z208];simp,?_⟩
    rcases hv with ⟨rfl,_⟩|⟨b,c,el,p,rfl,rfl,hk,hb,hs,hc⟩
    · exact .inl rfl
    · exact .inr ⟨b,0,c,el,(0,0),rfl,hκ b p _ (hl p rfl) hk hb,z581 es G.bare G'.bare h D hS hD hκ (some p) w c 0 (fun q hq j=>by cases hq;exact hD _ _ _ (hl p rfl)) hc⟩
  | .sref ..=>simp [AC.unown,V]
  | .ptr ..=>simp [AC.unown,V]
  | .mref _=>simp [AC.unown,V]
  | .fn ..=>simp [AC.unown,V]
  | .agg _=>simp [AC.unown,V]
  | .tup _=>simp [AC.unown,V]
termination_by structural x
theorem z718 (xs : List AC) (G G' : Ghost) (h : Nat → Option Obj) (D : Nat × List Nat → Prop) (hS : ∀ b x, G.S b = some x → G'.S b = some x) (hD : ∀ o j q, D (o, q) → D (o, j :: q))
    (hκ:∀ b p x,D p→G.κ b=some p→h b=some x→G'.S b=some x) (l:Loc) (c:Array Value) (off:Nat) (hl:∀ p,l=some p→∀ j,D (p.1,j::p.2)) (hv:VL G h l xs c off):VL G' h none (z299 xs) c off:=by
  match xs with
  | []=>simp [VL,z299]
  | x::xs =>
    simp only [VL,z299] at hv ⊢
    obtain ⟨⟨v,hv1,hv2⟩,hv3⟩:=hv
    refine ⟨⟨v,hv1,?_⟩,z718 xs G G' h D hS hD hκ l c (off+1) hl hv3⟩
    exact V_unown x G G' h D hS hD hκ (l.cell off) v (by
      intro p hp
      cases l with
      | none=>simp [Loc.cell] at hp
      | some q=>simp [Loc.cell] at hp;subst hp;exact hl q rfl off) hv2
termination_by structural xs
theorem z581 (es : List (List AC)) (G G' : Ghost) (h : Nat → Option Obj) (D : Nat × List Nat → Prop) (hS : ∀ b x, G.S b = some x → G'.S b = some x) (hD : ∀ o j q, D (o, q) → D (o, j :: q))
    (hκ:∀ b p x,D p→G.κ b=some p→h b=some x→G'.S b=some x) (l:Loc) (w:Nat) (c:Array Value) (off:Nat) (hl:∀ p,l=some p→∀ j,D (p.1,j::p.2)) (hv:VLL G h l w es c off):VLL G' h none w (z80 es) c off:=by
  match es with
  | []=>simp [VLL,z80]
  | e::es =>
    simp only [VLL,z80] at hv ⊢
    obtain ⟨h1,h2,h3⟩:=hv
    exact ⟨by rw [z729];simpa using h1,z718 e G G' h D hS hD hκ l c off hl h2,z581 es G G' h D hS hD hκ l w c (off+w) hl h3⟩
termination_by structural es
end
mutual
def AC.plain (x:AC):Bool:=match x with
 |.list ..=>false
 |.pt _=>false
 |.own _ es=>z251 es
 |.fn _ first caps=>match z198 first with
  |true=>z198 caps
  |false=>false
 |.agg cs=>z198 cs
 |.tup cs=>z198 cs
 |_=>true
termination_by structural x
def z198 (xs:List AC):Bool:=match xs with
 |[]=>true
 |x::xs=>match x.plain with
  |true=>z198 xs
  |false=>false
termination_by structural xs
def z251 (es:List (List AC)):Bool:=match es with
 |[]=>true
 |e::es=>match z198 e with
  |true=>z251 es
  |false=>false
termination_by structural es
end
theorem z1010 {xs:List AC} : z198 xs=true↔∀ x∈xs,x.plain=true:=by
 induction xs with
 |nil=>simp [z198]
 |cons x xs ih =>
  simp only [z198]
  cases h:x.plain<;>simp [ih,h]
theorem z867 {es:List (List AC)} : z251 es=true↔∀ e∈es,z198 e=true:=by
 induction es with
 |nil=>simp [z251]
 |cons x xs ih =>
  simp only [z251]
  cases h:z198 x<;>simp [ih,h]
mutual
theorem z1270 (x:AC) (G G' : Ghost) (h:Nat→Option Obj) (hι:G'.ι=G.ι) (hκ:G'.κ=G.κ) (l:Loc) (v:Value) (hp:x.plain=true) (hv:V G h l x v):V G' h l x v:=by
 match x with
 |.any=>simp [V]
 |.raw _=>simpa [V] using hv
 |.list w n es=>simp [AC.plain] at hp
 |.pt cs=>simp [AC.plain] at hp
 |.own w es =>
  simp only [V,AC.plain] at hv hp ⊢
  obtain ⟨a,cap,rfl,hcap,hv⟩:=hv
  refine ⟨a,cap,rfl,hcap,hv.imp id ?_⟩
  rintro ⟨b,c,el,p,rfl,rfl,hk,hb,hs,hc⟩
  exact ⟨b,c,el,p,rfl,rfl,by rw [hκ];exact hk,hb,hs,z830 es G.bare G'.bare h rfl hκ (some p) w c 0 hp hc⟩
 |.sref ..=>simp only [V] at hv ⊢;rw [hι];exact hv
 |.ptr ..=>simp only [V] at hv ⊢;rw [hι];exact hv
 |.mref _=>simp only [V] at hv ⊢;rw [hι];exact hv
 |.fn g first caps =>
  simp only [V,AC.plain] at hv hp ⊢
  cases hp1:z198 first<;>rw [hp1] at hp
  ·simp at hp
  ·obtain ⟨xs,ys,rfl,h1,h2,h3,h4⟩:=hv
   exact ⟨xs,ys,rfl,h1,h2,z356 first G G' h hι hκ none xs 0 hp1 h3,z356 caps G G' h hι hκ none ys 0 hp h4⟩
 |.agg cs =>
  simp only [V,AC.plain] at hv hp ⊢
  obtain ⟨c,rfl,h1,h3⟩:=hv
  exact ⟨c,rfl,h1,z356 cs G G' h hι hκ none c 0 hp h3⟩
 |.tup cs =>
  simp only [V,AC.plain] at hv hp ⊢
  obtain ⟨c,rfl,h1,h3⟩:=hv
  exact ⟨c,rfl,h1,z356 cs G G' h hι hκ none c 0 hp h3⟩
termination_by structural x
theorem z356 (xs:List AC) (G G' : Ghost) (h:Nat→Option Obj) (hι:G'.ι=G.ι) (hκ:G'.κ=G.κ) (l:Loc) (c:Array Value) (off:Nat) (hp:z198 xs=true) (hv:VL G h l xs c off):VL G' h l xs c off:=by
 match xs with
 |[]=>simp [VL]
 |x::xs =>
  simp only [VL,z198] at hv hp ⊢
  cases hp1:x.plain<;>rw [hp1] at hp
  ·simp at hp
  ·obtain ⟨⟨v,hv1,hv2⟩,hv3⟩:=hv
   exact ⟨⟨v,hv1,z1270 x G G' h hι hκ _ v hp1 hv2⟩,z356 xs G G' h hι hκ l c (off+1) hp hv3⟩
termination_by structural xs
theorem z830 (es:List (List AC)) (G G' : Ghost) (h:Nat→Option Obj) (hι:G'.ι=G.ι) (hκ:G'.κ=G.κ) (l:Loc) (w:Nat) (c:Array Value) (off:Nat) (hp:z251 es=true) (hv:VLL G h l w es c off):VLL G' h l w es c off:=by
 match es with
 |[]=>simp [VLL]
 |e::es =>
  simp only [VLL,z251] at hv hp ⊢
  cases hp1:z198 e<;>rw [hp1] at hp
  ·simp at hp
  ·obtain ⟨h1,h2,h3⟩:=hv
   exact ⟨h1,z356 e G G' h hι hκ l c off hp1 h2,z830 es G G' h hι hκ l w c (off+w) hp h3⟩
termination_by structural es
end
def idx:List Nat→Nat→Option Nat
 |[],_=>none
 |x::xs,o=>match Nat.beq x o with
  |true=>some 0
  |false=>match idx xs o with
   |some i=>some (i+1)
   |none=>none
theorem z498 {l:List Nat} {o i:Nat} (h:idx l o=some i):l[i]?=some o:=by
 induction l generalizing i with
 |nil=>simp [idx] at h
 |cons x xs ih =>
  simp only [idx] at h
  split at h
  ·rename_i hb;cases h;simp [Nat.eq_of_beq_eq_true hb]
  ·split at h
   ·rename_i j hj;cases h;simpa using ih hj
   ·cases h
theorem idx_none {l:List Nat} {o:Nat} (h:idx l o=none):o ∉ l:=by
 induction l with
 |nil=>simp
 |cons x xs ih =>
  simp only [idx] at h
  split at h
  ·cases h
  ·rename_i hb
   split at h
   ·cases h
   ·rename_i hn
    simp only [List.mem_cons,not_or]
    refine ⟨?_,ih hn⟩
    rintro rfl
    rw [Nat.beq_refl] at hb;cases hb
theorem z230 {l:List Nat} (hn:l.Nodup) {o i:Nat} (h:l[i]?=some o):idx l o=some i:=by
 induction l generalizing i with
 |nil=>simp at h
 |cons x xs ih =>
  obtain ⟨h1,h2⟩:=List.nodup_cons.1 hn
  cases i with
  |zero=>simp at h;subst h;simp [idx]
  |succ i =>
   have hm:xs[i]?=some o:=by simpa using h
   have hne:Nat.beq x o=false:=by
    cases hb:Nat.beq x o with
    |false=>rfl
    |true=>exact absurd (Nat.eq_of_beq_eq_true hb ▸ List.mem_of_getElem? hm) h1
   simp [idx,hne,ih h2 hm]
def inB:List Nat→Nat→Bool
 |[],_=>false
 |x::xs,o=>match Nat.beq x o with
  |true=>true
  |false=>inB xs o
theorem z286 {l:List Nat} {o:Nat} : inB l o=true↔o∈l:=by
 induction l with
 |nil=>simp [inB]
 |cons x xs ih =>
  simp only [inB]
  cases hb:Nat.beq x o with
  |true=>simp [Nat.eq_of_beq_eq_true hb]
  |false =>
   have:x≠o:=by rintro rfl;rw [Nat.beq_refl] at hb;cases hb
   simp [ih,Ne.symm this]
mutual
def bor (objs:Nat→AObj) (π Bn:List Nat) (x:AC):AC:=match x with
 |.sref o off len=>match idx π o with
  |some i=>.sref i off len
  |none=>match inB Bn o with
   |true=>match objs o with
    |.cells w es=>if off+len≤es.length then .list w len (((z80 es).drop off).take len) else .any
    |_=>.any
   |false=>.any
 |.ptr o i off=>match idx π o with
  |some j=>.ptr j i off
  |none=>match inB Bn o with
   |true=>match objs o with
    |.cells _ es=>match es[i.getD 0]? with
     |some e=>.pt ((z299 e).drop off)
     |none=>.any
    |_=>.any
   |false=>.any
 |.mref o=>match idx π o with
  |some j=>.mref j
  |none=>.any
 |.own ..=>.any
 |.fn f first caps=>.fn f (borL objs π Bn first) (borL objs π Bn caps)
 |.agg cs=>.agg (borL objs π Bn cs)
 |.tup cs=>.tup (borL objs π Bn cs)
 |x=>x
termination_by structural x
def borL (objs:Nat→AObj) (π Bn:List Nat) (xs:List AC):List AC:=match xs with
 |[]=>[]
 |x::xs=>bor objs π Bn x::borL objs π Bn xs
termination_by structural xs
end
theorem z236 (objs:Nat→AObj) (π Bn:List Nat) (xs:List AC):(borL objs π Bn xs).length=xs.length:=by
 induction xs with
 |nil=>rfl
 |cons x xs ih=>simp [borL,ih]
structure BorOk (G Gc:Ghost) (h:Nat→Option Obj) (objs:Nat→AObj) (π Bn:List Nat):Prop where
 S:∀ b x,G.S b=some x→Gc.S b=some x
 ι:∀ o i t,idx π o=some i→G.ι o=some t→Gc.ι i=some t
 B:∀ b o p x,o∈Bn→G.κ b=some (o,p)→h b=some x→Gc.S b=some x
 obj:∀ o,ObjRel G h o (objs o)
theorem VL_drop' {G:Ghost} {h:Nat→Option Obj} {l:Loc} {cs:List AC} {c:Array Value} {off k:Nat} (hv:VL G h l cs c off):VL G h l (cs.drop k) c (off+k):=z461 hv
theorem z917 {G : Ghost} {h : Nat → Option Obj} {w len off b cap : Nat} (hcap : len ≤ cap) {es : List (List AC)} {c : Array Value} {el : TypeId} {fz : Nat × Nat} (hS : G.S b = some (.cells c el fz))
    (hc:VLL G.bare h none w es c 0) (hl:off+len≤es.length):V G h none (.list w len ((es.drop off).take len)) (.slice (some ⟨b,off * w,none⟩) len cap):=by
  simp only [V]
  refine ⟨_,cap,rfl,hcap,by simp;omega,.inr ⟨b,off * w,c,el,fz,rfl,hS,?_⟩⟩
  rw [z74] at hc ⊢
  intro i e he
  rw [List.getElem?_take] at he
  split at he
  · rw [List.getElem?_drop] at he
    have:=hc (off+i) e he
    rwa [Nat.zero_add,Nat.add_mul] at this
  · cases he
mutual
theorem V_bor (x : AC) {G Gc : Ghost} {h : Nat → Option Obj} {objs : Nat → AObj} {π Bn : List Nat} (H : BorOk G Gc h objs π Bn)
    (v:Value) (hv:V G h none x v):V Gc h none (bor objs π Bn x) v:=by
  match x with
  | .any=>simp [bor,V]
  | .raw _=>simpa [bor,V] using hv
  | .list w n es=>exact z149 (G:=G.bare) (G':=Gc) H.S (fun _ _ e=>by cases e) (x:=.list w n es) hv
  | .pt cs=>exact z149 (G:=G.bare) (G':=Gc) H.S (fun _ _ e=>by cases e) (x:=.pt cs) hv
  | .own ..=>simp [bor,V]
  | .sref o off len =>
    simp only [bor]
    split
    · rename_i i hi
      simp only [V] at hv ⊢
      obtain ⟨cap,hc,hv⟩:=hv
      refine ⟨cap,hc,hv.imp id ?_⟩
      rintro ⟨b,size,w,hb,h2⟩
      exact ⟨b,size,w,H.ι _ _ _ hi hb,h2⟩
    · split
      · rename_i hB
        have ho:=H.obj o
        split
        · rename_i w es hob
          rw [hob] at ho
          split
          · rename_i hle
            simp only [V] at hv
            obtain ⟨cap,hc,hv⟩:=hv
            rcases hv with ⟨h0,a,rfl⟩|⟨b,size,w',hb,h2,rfl⟩
            · have:len=0:=by omega
              subst this
              simp only [List.take_zero,V]
              exact ⟨a,0,rfl,y49 _,rfl,.inl trivial⟩
            · rcases ho with ⟨h3,h4⟩|⟨b',size',c,el,h3,h4,h5,h6,h7⟩
              · rw [hb] at h4;cases h4
              · rw [hb] at h3;cases h3
                refine z917 (G:=Gc) hc (H.B b o [] _ (z286.1 hB) h4 h5) ?_ (by rw [z208];simpa using hle)
                refine z581 es G Gc.bare h (fun p=>p.1=o) H.S (fun _ _ _ e=>e) (fun b p x hp hk hx=>?_) (some (o,[])) w c 0 (fun p hp j=>by cases hp;rfl) h7
                exact H.B b o p.2 x (z286.1 hB) (by rw [hk,← hp]) hx
          · simp [V]
        · simp [V]
      · simp [V]
  | .mref o =>
    simp only [bor]
    split
    · rename_i j hi
      simp only [V] at hv ⊢
      obtain ⟨b,size,w,hb,h2⟩:=hv
      exact ⟨b,size,w,H.ι _ _ _ hi hb,h2⟩
    · simp [V]
  | .ptr o i off =>
    simp only [bor]
    split
    · rename_i j hi
      simp only [V] at hv ⊢
      obtain ⟨b,size,w,hb,h2⟩:=hv
      exact ⟨b,size,w,H.ι _ _ _ hi hb,h2⟩
    · split
      · rename_i hB
        have ho:=H.obj o
        split
        · rename_i w es hob
          rw [hob] at ho
          split
          · rename_i e he
            simp only [V] at hv ⊢
            obtain ⟨b,size,w',hb,rfl⟩:=hv
            rcases ho with ⟨h3,h4⟩|⟨b',size',c,el,h3,h4,h5,h6,h7⟩
            · rw [hb] at h4;cases h4
            · rw [hb] at h3;cases h3
              refine ⟨b,_,c,el,(0,0),rfl,H.B b o [] _ (z286.1 hB) h4 h5,?_⟩
              refine VL_drop' ?_
              obtain ⟨_,h8⟩:=z74.1 h7 _ e he
              rw [Nat.zero_add] at h8
              exact z718 e G Gc.bare h (fun p=>p.1=o) H.S (fun _ _ _ e=>e) (fun b p x hp hk hx=>H.B b o p.2 x (z286.1 hB) (by rw [hk,← hp]) hx) (some (o,[])) c _ (fun p hp j=>by cases hp;rfl) h8
          · simp [V]
        · simp [V]
      · simp [V]
  | .fn f first caps =>
    simp only [V,bor] at hv ⊢
    obtain ⟨xs,ys,rfl,h1,h2,h3,h4⟩:=hv
    exact ⟨xs,ys,rfl,by rw [z236];exact h1,by rw [z236];exact h2,z640 first H xs 0 h3,z640 caps H ys 0 h4⟩
  | .agg cs =>
    simp only [V,bor] at hv ⊢
    obtain ⟨c,rfl,h1,h3⟩:=hv
    exact ⟨c,rfl,by rw [z236];exact h1,z640 cs H c 0 h3⟩
  | .tup cs =>
    simp only [V,bor] at hv ⊢
    obtain ⟨c,rfl,h1,h3⟩:=hv
    exact ⟨c,rfl,by rw [z236];exact h1,z640 cs H c 0 h3⟩
termination_by structural x
theorem z640 (xs : List AC) {G Gc : Ghost} {h : Nat → Option Obj} {objs : Nat → AObj} {π Bn : List Nat} (H : BorOk G Gc h objs π Bn)
    (c:Array Value) (off:Nat) (hv:VL G h none xs c off):VL Gc h none (borL objs π Bn xs) c off:=by
  match xs with
  | []=>simp [VL,borL]
  | x::xs =>
    simp only [VL,borL] at hv ⊢
    obtain ⟨⟨v,hv1,hv2⟩,hv3⟩:=hv
    exact ⟨⟨v,hv1,V_bor x H v hv2⟩,z640 xs H c (off+1) hv3⟩
termination_by structural xs
end
variable {P:Program} {T:Tab} {dst:Option Tmp} {type:TypeId} {pos:String} {after:Array Edge} {guard:Option (Nat×Bool)} {st:St} {K:OpK}
def z65 {α:Type} (d:α):List α→Nat→α
 |[],_=>d
 |x::_,0=>x
 |_::xs,n+1=>z65 d xs n
theorem z72 {α:Type} {d:α} {l:List α} {n:Nat} {x:α} (h:l[n]?=some x):z65 d l n=x:=by
 induction l generalizing n with
 |nil=>simp at h
 |cons y ys ih =>
  cases n with
  |zero=>simpa [z65] using h
  |succ n=>simp [z65];exact ih (by simpa using h)
theorem z78 {α:Type} {d:α} {l:List α} {n:Nat} (h:l.length≤n):z65 d l n=d:=by
 induction l generalizing n with
 |nil=>simp [z65]
 |cons y ys ih =>
  cases n with
  |zero=>simp at h
  |succ n=>simp [z65];exact ih (by simpa using h)
def z47 (l:List AObj):Nat→AObj:=z65 .fresh l
def z833 (P : Program) (f : FuncId) : Prop := ∃ fn c, P.funcs[f]? = some fn ∧ (fn.name == "runtime.NumGoroutine") = false ∧ fn.body = some c
def CallsA (P:Program) (f:FuncId) (args:List AC) (objs:List AObj) (res:AC) (objs' : List AObj):Prop :=
 z833 P f∧∀ (G:Ghost) (w:World) (vs:Array Value),Wf G (z47 objs) w→vs.size=args.length→VL G (hp w) none args vs 0 →
  Calls P f vs w fun e w'=>∃ G' v,e=.returned v∧G.Sub G'∧(∀ o t,o < objs.length→G.ι o=some t→G'.ι o=some t)∧Le w w'∧Wf G' (z47 objs') w'∧V G' (hp w') none res v
theorem z749 {f:FuncId} {args:Array Value} {w:World} (h:z833 P f):(callFunc f args).run P w=.ok (.enter f args) w:=by
 obtain ⟨fn,c,h1,h2,h3⟩:=h
 simp only [callFunc,program,Sem.run_bind]
 simp [Sem.run,h1,h3]
 simp at h2
 simp [h2]
def z81 (objs:Nat→AObj) (π Bn:List Nat) (o:Nat):AObj:=match objs o with
 |.cells w es=>.cells w (es.map (·.map fun x=>match x with
  |.own w' es'=>.own w' es'
  |x=>bor objs π Bn x))
 |x=>x
def z126 (r:Nat→Nat):AObj→AObj
 |.cells w es=>.cells w (es.map (renL r))
 |x=>x
def z277 (M:Nat):AObj→Prop
 |.cells _ es=>∀ e∈es,z138 M e=true
 |.fresh=>False
 |.dead=>True
 |.mp _ _=>True
def z341:AObj→Prop
 |.cells _ es=>z251 es=true
 |_=>True
def z169:AObj→Bool
 |.fresh=>false
 |_=>true
def z380:AObj→Bool
 |.fresh=>true
 |_=>false
structure CallI where
 π:List Nat
 Bn:List Nat
 ν:List Nat
 args0:List AC
 objs0:List AObj
 res0:AC
 objs1:List AObj
 res1:AC
 objs1' : List AObj
def CallI.r (c:CallI):Nat→Nat:=z65 0 (c.π++c.ν)
def z191 (st:St):List Nat→List AObj→List Ch
 |o::os,x::xs=>⟨o,st.objs o,x⟩::z191 st os xs
 |_,_=>[]
def CallI.ch (c:CallI) (st:St):List Ch:=z191 st (c.π++c.ν) c.objs1'++c.Bn.map st.rd
structure CallOk (P:Program) (f:FuncId) (st:St) (args:List AC) (c:CallI):Prop where
 h0:CallsA P f c.args0 c.objs0 c.res0 c.objs1
 h1:borL st.objs c.π c.Bn args=c.args0
 h2:c.π.map (z81 st.objs c.π c.Bn)=c.objs0
 h3:(c.π++c.ν++c.Bn).Nodup
 h4:∀ o∈c.π,z169 (st.objs o)=true
 h4' : ∀ o∈c.ν,z380 (st.objs o)=true
 h5:c.objs1.length=(c.π++c.ν).length
 h6:c.res0.ren c.r=c.res1
 h6' : c.objs1.map (z126 c.r)=c.objs1'
 h7:c.res0.under c.objs1.length=true
 h7' : ∀ x∈c.objs1,z277 c.objs1.length x
 h8:c.Bn=[]∨(c.res0.plain=true∧∀ x∈c.objs1,z341 x)
theorem z829 {G:Ghost} {h:Nat→Option Obj} {xs ys:List AC} {a b:Array Value} (hl:a.size=xs.length) (h1:VL G h none xs a 0) (h2:VL G h none ys b 0):VL G h none (xs++ys) (a++b) 0:=by
 rw [z70] at h1 h2 ⊢
 intro j x hx
 rw [List.getElem?_append] at hx
 split at hx
 ·rename_i hj
  obtain ⟨v,hv1,hv2⟩:=h1 j x hx
  refine ⟨v,?_,hv2⟩
  rw [Array.getElem?_append,if_pos (by omega)];exact hv1
 ·rename_i hj
  obtain ⟨v,hv1,hv2⟩:=h2 _ x hx
  refine ⟨v,?_,hv2⟩
  rw [Array.getElem?_append,if_neg (by omega)]
  rw [show 0+j - a.size=0+(j - xs.length) by omega];exact hv1
theorem z538 {l:List AObj} {i:Nat} {x:AObj} (h:l[i]?=some x):z47 l i=x:=z72 h
section ghosts
open Classical
noncomputable def Ghost.sub (G:Ghost) (h:Nat→Option Obj) (π Bn:List Nat):Ghost where
 S b:=match G.κ b with
  |some (o,_)=>if o∈Bn then h b else none
  |none=>G.S b
 U b:=match G.κ b with
  |some (o,_)=>if o∈π∨o∈Bn then none else h b
  |none=>G.U b
 ι i:=if i < π.length then G.ι (z65 0 π i) else none
 κ b:=match G.κ b with
  |some (o,p)=>match idx π o with
   |some i=>some (i,p)
   |none=>none
  |none=>none
noncomputable def Ghost.back (G G' : Ghost) (π ν Bn:List Nat):Ghost where
 S b:=match G.κ b with
  |some (o,_)=>if o∈Bn then none else G'.S b
  |none=>G'.S b
 U:=G.U
 ι o:=match idx (π++ν) o with
  |some i=>G'.ι i
  |none=>G.ι o
 κ b:=match G'.κ b with
  |some (i,p)=>if i < (π++ν).length then some (z65 0 (π++ν) i,p) else none
  |none=>match G.κ b with
   |some (o,p)=>if o∈π then none else some (o,p)
   |none=>none
end ghosts
end Go.Gl
namespace Go.Gl
variable {P:Program}
theorem z239 (f:Nat→AObj) (a b:List Ch):z88 f (a++b)=z88 (z88 f a) b:=by
 induction a generalizing f with
 |nil=>rfl
 |cons c cs ih=>simp [z88,ih]
theorem z253 (f:Nat→AObj) (cs:List Ch) (o:Nat) (h:∀ c∈cs,c.o≠o):z88 f cs o=f o:=by
 induction cs generalizing f with
 |nil=>rfl
 |cons c cs ih =>
  rw [z88,ih _ (fun c' hc'=>h c' (by simp [hc'])),z52 _ _ (Ne.symm (h c (by simp)))]
theorem z643 {st:St} {os:List Nat} {xs:List AObj} {c:Ch} (h:c∈z191 st os xs):c.o∈os∧c.pre=st.objs c.o:=by
 induction os generalizing xs with
 |nil=>simp [z191] at h
 |cons o os ih =>
  cases xs with
  |nil=>simp [z191] at h
  |cons x xs =>
   simp only [z191,List.mem_cons] at h
   rcases h with rfl|h
   ·exact ⟨by simp,rfl⟩
   ·obtain ⟨h1,h2⟩:=ih h;exact ⟨by simp [h1],h2⟩
theorem z819 (st:St):∀ (os:List Nat) (xs:List AObj) (f:Nat→AObj),os.Nodup→os.length=xs.length→∀ (i o:Nat) (x:AObj),os[i]?=some o→xs[i]?=some x→z88 f (z191 st os xs) o=x:=by
 intro os
 induction os with
 |nil=>intro xs f _ _ i o x h;simp at h
 |cons a os ih =>
  intro xs f hn hl i o x ho hx
  cases xs with
  |nil=>simp at hl
  |cons y ys =>
   obtain ⟨h1,h2⟩:=List.nodup_cons.1 hn
   simp only [z191,z88]
   cases i with
   |zero =>
    simp at ho hx;subst ho;subst hx
    rw [z253 _ _ _ (fun c hc e=>h1 (by rw [← e];exact (z643 hc).1)),z36]
   |succ i=>exact ih ys _ h2 (by simpa using hl) i o x (by simpa using ho) (by simpa using hx)
theorem z1200 {w:World} {b:Nat} (h:b < w.heap.size):∃ x,w.heap[b]?=some x:=⟨w.heap[b],Array.getElem?_eq_getElem h⟩
section
variable {G:Ghost} {objs:Nat→AObj} {w:World} {π Bn:List Nat}
theorem sub_S (hW:Wf G objs w) {b:Nat} {x:Obj} (h:G.S b=some x):(G.sub (hp w) π Bn).S b=some x:=by
 cases hk:G.κ b with
 |none=>simp [Ghost.sub,hk,h]
 |some p=>have:=(hW.sk b p hk).1;rw [h] at this;cases this
theorem sub_ι {o i:Nat} {t} (hi:idx π o=some i) (h:G.ι o=some t):(G.sub (hp w) π Bn).ι i=some t:=by
 have:=z498 hi
 have hl:=(List.getElem?_eq_some_iff.1 this).1
 simp [Ghost.sub,hl,z72 this,h]
theorem z431 (hW:Wf G objs w):BorOk G (G.sub (hp w) π Bn) (hp w) objs π Bn where
 S b x h:=sub_S hW h
 ι o i t hi h:=sub_ι hi h
 B b o p x ho hk hx:=by simp [Ghost.sub,hk,ho,hx]
 obj:=hW.objs
theorem z1269 (hW:Wf G objs w) (hn:π.Nodup) (hd:∀ o∈π,o ∉ Bn) (ha:∀ o∈π,z169 (objs o)=true):Wf (G.sub (hp w) π Bn) (z47 (π.map (z81 objs π Bn))) w where
 hS b x h:=by
  cases hk:G.κ b with
  |none=>simp [Ghost.sub,hk] at h;exact hW.hS b x h
  |some p =>
   obtain ⟨o,q⟩:=p
   simp [Ghost.sub,hk] at h;exact h.2
 hU b x h:=by
  cases hk:G.κ b with
  |none=>simp [Ghost.sub,hk] at h;exact hW.hU b x h
  |some p =>
   obtain ⟨o,q⟩:=p
   simp [Ghost.sub,hk] at h;exact h.2
 su b x h:=by
  cases hk:G.κ b with
  |none=>simp [Ghost.sub,hk] at h ⊢;exact hW.su b x h
  |some p =>
   obtain ⟨o,q⟩:=p
   simp [Ghost.sub,hk] at h ⊢
   intro ho;exact absurd ho h.1.2
 sk b p h:=by
  cases hk:G.κ b with
  |none=>simp [Ghost.sub,hk] at h
  |some p' =>
   obtain ⟨o,q⟩:=p'
   simp only [Ghost.sub,hk] at h ⊢
   split at h
   ·rename_i i hi
    have ho:o∈π:=List.mem_of_getElem? (z498 hi)
    exact ⟨if_neg (hd o ho),if_pos (.inl ho),(hW.sk b _ hk).2.2⟩
   ·cases h
 objs i:=by
  by_cases hi:i < π.length
  ·have hpi:π[i]?=some π[i]:=y42 hi
   have hidx:=z230 hn hpi
   have:z47 (π.map (z81 objs π Bn)) i=z81 objs π Bn π[i]:=z538 (by simp [hi])
   rw [this]
   have hc:=ha π[i] (y41 hi)
   have ho:=hW.objs π[i]
   unfold z81
   cases hob:objs π[i] with
   |fresh=>rw [hob] at hc;simp [z169] at hc
   |dead=>trivial
   |mp d es =>
    rw [hob] at ho
    have hιe:(G.sub (hp w) π Bn).ι i=G.ι π[i]:=by simp [Ghost.sub,hi,z72 hpi]
    obtain ⟨b,size,wx,c,ck,h1,h2,h3,h4⟩:=ho
    exact ⟨b,size,wx,c,ck,by rw [hιe];exact h1,by simp [Ghost.sub,h2,hidx],h3,h4⟩
   |cells wd es =>
    rw [hob] at ho
    have hιe:(G.sub (hp w) π Bn).ι i=G.ι π[i]:=by simp [Ghost.sub,hi,z72 hpi]
    rcases ho with ⟨h1,h2⟩|⟨b,size,c,el,h1,h2,h3,h4,h5⟩
    ·subst h1;exact .inl ⟨rfl,by rw [hιe];exact h2⟩
    ·refine .inr ⟨b,size,c,el,by rw [hιe];exact h1,by simp [Ghost.sub,h2,hidx],h3,h4,?_⟩
     rw [z74] at h5 ⊢
     intro k e he
     rw [y48,Option.map_eq_some_iff] at he
     obtain ⟨e0,he0,rfl⟩:=he
     obtain ⟨h6,h7⟩:=h5 k e0 he0
     refine ⟨by simpa using h6,?_⟩
     rw [z70] at h7 ⊢
     intro j x hx
     rw [y48,Option.map_eq_some_iff] at hx
     obtain ⟨x0,hx0,rfl⟩:=hx
     obtain ⟨v,hv1,hv2⟩:=h7 j x0 hx0
     refine ⟨v,hv1,?_⟩
     cases hx0' : x0 with
     |own w' es' =>
      subst hx0'
      have:=z302 (.own w' es') G.bare (G.sub (hp w) π Bn) (hp w) (hp w) (fun p=>(i,p.2)) (fun p=>p.1=π[i]) (fun b x h=>sub_S hW h) (fun _ _ e=>by cases e) (fun _ _ _=>rfl) (fun _ _ _ h=>h)
       (fun b p hp hk=>⟨by
        have hk' : G.κ b=some (π[i],p.2):=by rw [← hp];exact hk
        simp [Ghost.sub,hk',hidx],rfl⟩) (Loc.cell (some (π[i],[])) (0+k * wd+j)) v (by intro p hp;simp [Loc.cell] at hp;rw [← hp]) hv2
      simpa [Loc.cell] using this
     |_ =>
      subst hx0'
      exact V_at (V_bor _ (z431 hW) v (z1271 rfl hv2))
  ·have:z47 (π.map (z81 objs π Bn)) i=.fresh:=z78 (by simpa using hi)
   rw [this]
   simp [ObjRel,Ghost.sub,hi]
variable {G' : Ghost} {w' : World} {ν:List Nat}
theorem z1209 (hW : Wf G objs w) {objs1 : Nat → AObj} (hW' : Wf G' objs1 w') (hs : (G.sub (hp w) π Bn).Sub G') {b o : Nat} {p : List Nat} (hk : G.κ b = some (o, p)) (ho : o ∉ π) :
    w'.heap[b]?=w.heap[b]?∧G'.κ b=none∧(o ∉ Bn→G'.S b=none):=by
  obtain ⟨x,hx⟩:=z1200 (hW.sk b _ hk).2.2
  by_cases hB:o∈Bn
  · have h1:(G.sub (hp w) π Bn).S b=some x:=by simp [Ghost.sub,hk,hB,hp,hx]
    have h2:=hs.S b x h1
    refine ⟨by rw [hx,hW'.hS b x h2],?_,fun h=>absurd hB h⟩
    cases hk' : G'.κ b with
    | none=>rfl
    | some q=>have:=(hW'.sk b q hk').1;rw [h2] at this;cases this
  · have h1:(G.sub (hp w) π Bn).U b=some x:=by simp [Ghost.sub,hk,hB,ho,hp,hx]
    have h2:G'.U b=some x:=by rw [hs.U];exact h1
    refine ⟨by rw [hx,hW'.hU b x h2],?_,fun _=>hW'.su b x h2⟩
    cases hk' : G'.κ b with
    | none=>rfl
    | some q=>have:=(hW'.sk b q hk').2.1;rw [h2] at this;cases this
theorem z1257 (hW:Wf G objs w) (hk:∀ o t,o < π.length→(G.sub (hp w) π Bn).ι o=some t→G'.ι o=some t) (hn:(π++ν).Nodup) (hf:∀ o∈ν,z380 (objs o)=true) {o:Nat} {t} (h:G.ι o=some t):(G.back G' π ν Bn).ι o=some t:=by
 cases hi:idx (π++ν) o with
 |none=>simp [Ghost.back,hi,h]
 |some i =>
  simp only [Ghost.back,hi]
  have hio:=z498 hi
  by_cases hl:i < π.length
  ·refine hk i t hl ?_
   rw [y63 hl] at hio
   exact sub_ι (z230 (List.nodup_append.1 hn).1 hio) h
  ·rw [y64 (by omega)] at hio
   have hfr:=hf o (List.mem_of_getElem? hio)
   have:=hW.objs o
   cases hob:objs o with
   |fresh=>rw [hob] at this;rw [show G.ι o=none from this] at h;cases h
   |dead=>rw [hob] at hfr;cases hfr
   |mp _ _=>rw [hob] at hfr;cases hfr
   |cells _ _=>rw [hob] at hfr;cases hfr
theorem z981 (hW:Wf G objs w) (hs:(G.sub (hp w) π Bn).Sub G') {b:Nat} {x:Obj} (h:G.S b=some x):(G.back G' π ν Bn).S b=some x:=by
 cases hk:G.κ b with
 |none=>simp only [Ghost.back,hk];exact hs.S b x (sub_S hW h)
 |some p=>have:=(hW.sk b p hk).1;rw [h] at this;cases this
noncomputable def Ghost.cut (G G' : Ghost) (π ν Bn:List Nat):Ghost:={ G' with S:=(G.back G' π ν Bn).S }
theorem cut_V (x:AC) {h:Nat→Option Obj} {l:Loc} {v:Value} (hp:Bn=[]∨x.plain=true) (hv:V G' h l x v):V (G.cut G' π ν Bn) h l x v:=by
 rcases hp with rfl|hp
 ·have:G.cut G' π ν []=G':=by
   unfold Ghost.cut
   have:(G.back G' π ν []).S=G'.S:=by
    funext b
    simp only [Ghost.back]
    split<;>simp
   rw [this]
  rw [this];exact hv
 ·exact z1270 x G' (G.cut G' π ν Bn) h rfl rfl l v hp hv
theorem ren_V (x : AC) {M : Nat} {h : Nat → Option Obj} {i : Nat} {l : Loc} {v : Value} (hl : ∀ p, l = some p → p.1 = i ∧ i < (π ++ ν).length) (hM : M = (π ++ ν).length) (hn : (π ++ ν).Nodup) (hu : x.under M = true) (hp : Bn = [] ∨ x.plain = true) (hv : V G' h l x v) :
    V (G.back G' π ν Bn) h (l.map fun p=>(z65 0 (π++ν) p.1,p.2)) (x.ren (z65 0 (π++ν))) v:=by
  refine V_ren x M (z65 0 (π++ν)) (G.cut G' π ν Bn) (G.back G' π ν Bn) h h (fun p=>(z65 0 (π++ν) p.1,p.2)) (fun p=>p.1=i∧i < (π++ν).length) (fun _ _ e=>e) ?_ (fun _ _ _=>rfl) (fun _ _ _ h=>h) ?_ l v hl hu (cut_V x hp hv)
  · intro o t ho h
    have hget:(π++ν)[o]?=some (π++ν)[o]:=y42 (by omega)
    have:=z230 hn hget
    simp only [Ghost.back,z72 hget,this]
    exact h
  · rintro b ⟨o,p⟩ ⟨rfl,hlt⟩ hk
    have hk' : G'.κ b=some (o,p):=hk
    exact ⟨by simp only [Ghost.back,hk',if_pos hlt],rfl⟩
theorem Wf_back (hW : Wf G objs w) {objs1 : List AObj} (hW' : Wf G' (z47 objs1) w') (hs : (G.sub (hp w) π Bn).Sub G') (hk : ∀ o t, o < π.length → (G.sub (hp w) π Bn).ι o = some t → G'.ι o = some t) (hle : Le w w')
    (hn:(π++ν++Bn).Nodup) (hf:∀ o∈ν,z380 (objs o)=true) (hlen:objs1.length=(π++ν).length) (hu:∀ x∈objs1,z277 objs1.length x) (hpl:Bn=[]∨∀ x∈objs1,z341 x) {st:St} (hst:st.objs=objs) :
    Wf (G.back G' π ν Bn) (z88 objs (z191 st (π++ν) (objs1.map (z126 (z65 0 (π++ν))))++Bn.map st.rd)) w' where
  hS b x h:=by
    cases hkb:G.κ b with
    | none=>simp only [Ghost.back,hkb] at h;exact hW'.hS b x h
    | some p =>
      obtain ⟨o,q⟩:=p
      simp only [Ghost.back,hkb] at h
      split at h
      · cases h
      · exact hW'.hS b x h
  hU b x h:=by
    have h:G.U b=some x:=h
    have h1:(G.sub (hp w) π Bn).U b=some x:=by
      cases hkb:G.κ b with
      | none=>simp [Ghost.sub,hkb,h]
      | some p=>have:=(hW.sk b p hkb).2.1;rw [h] at this;cases this
    exact hW'.hU b x (by rw [hs.U];exact h1)
  su b x h:=by
    have h:G.U b=some x:=h
    cases hkb:G.κ b with
    | none =>
      simp only [Ghost.back,hkb]
      exact hW'.su b x (by rw [hs.U];simp [Ghost.sub,hkb,h])
    | some p=>have:=(hW.sk b p hkb).2.1;rw [h] at this;cases this
  sk b q h:=by
    cases hk' : G'.κ b with
    | some p =>
      obtain ⟨h1,h2,h3⟩:=hW'.sk b p hk'
      refine ⟨?_,?_,h3⟩
      · simp only [Ghost.back]
        split
        · split
          · rfl
          · exact h1
        · exact h1
      · show G.U b=none
        cases hu:G.U b with
        | none=>rfl
        | some x =>
          have:(G.sub (hp w) π Bn).U b=some x:=by
            cases hkb:G.κ b with
            | none=>simp [Ghost.sub,hkb,hu]
            | some p=>have:=(hW.sk b p hkb).2.1;rw [hu] at this;cases this
          rw [hs.U,this] at h2;cases h2
    | none =>
      simp only [Ghost.back,hk'] at h
      split at h
      · rename_i o p hkb
        split at h
        · cases h
        · rename_i ho
          obtain ⟨h1,h2,h3⟩:=hW.sk b _ hkb
          obtain ⟨_,_,h5⟩:=z1209 hW hW' hs hkb ho
          refine ⟨?_,h2,Nat.lt_of_lt_of_le h3 hle.size⟩
          simp only [Ghost.back,hkb]
          split
          · rfl
          · rename_i hB;exact h5 hB
      · cases h
  objs o:=by
    have hn1:(π++ν).Nodup:=(List.nodup_append.1 hn).1
    have hdis:∀ o∈Bn,o ∉ π++ν:=fun o ho h=>(List.nodup_append.1 hn).2.2 o h o ho rfl
    rw [z239]
    have hrd:∀ f:Nat→AObj,(∀ b∈Bn,f b=objs b)→z88 f (Bn.map st.rd)=f:=fun f hfb=>z148 f _ fun c hc=>by
      rw [y57] at hc
      obtain ⟨b,hb,rfl⟩:=hc
      exact ⟨by simp only [St.rd,hst];exact hfb b hb,rfl⟩
    rw [hrd _ fun b hb=>z253 _ _ _ (fun c hc e=>hdis b hb (by rw [← e];exact (z643 hc).1))]
    show ObjRel _ _ o (z88 objs (z191 st (π++ν) (List.map (z126 (z65 0 (π++ν))) objs1)) o)
    cases hi:idx (π++ν) o with
    | some i =>
      have hio:=z498 hi
      have hil:=(List.getElem?_eq_some_iff.1 hio).1
      have hx:objs1[i]?=some objs1[i]:=y42 (by omega)
      rw [z819 st (π++ν) (objs1.map (z126 (z65 0 (π++ν)))) objs hn1 (by simp [hlen]) i o (z126 (z65 0 (π++ν)) objs1[i]) hio (by simp [hx])]
      have hob:=hW'.objs i
      rw [z538 hx] at hob
      have hu1:=hu objs1[i] (y41 (by omega))
      have hp1:Bn=[]∨z341 objs1[i]:=hpl.imp id fun h=>h _ (y41 (by omega))
      have hιe:(G.back G' π ν Bn).ι o=G'.ι i:=by simp [Ghost.back,hi]
      cases hobj:objs1[i] with
      | fresh=>rw [hobj] at hu1;exact hu1.elim
      | dead=>trivial
      | mp d es =>
        rw [hobj] at hob
        obtain ⟨b,size,wx,c,ck,h1,h2,h3,h4⟩:=hob
        exact ⟨b,size,wx,c,ck,by rw [hιe];exact h1,by simp only [Ghost.back,h2,if_pos hil,z72 hio],h3,h4⟩
      | cells wd es =>
        rw [hobj] at hob hu1 hp1
        rcases hob with ⟨h1,h2⟩|⟨b,size,c,el,h1,h2,h3,h4,h5⟩
        · subst h1;exact .inl ⟨rfl,by rw [hιe];exact h2⟩
        · refine .inr ⟨b,size,c,el,by rw [hιe];exact h1,by simp only [Ghost.back,h2,if_pos hil,z72 hio],h3,h4,?_⟩
          rw [z74] at h5 ⊢
          intro k e he
          rw [y48,Option.map_eq_some_iff] at he
          obtain ⟨e0,he0,rfl⟩:=he
          obtain ⟨h6,h7⟩:=h5 k e0 he0
          have hm:=List.mem_of_getElem? he0
          refine ⟨by rw [z179];simpa using h6,?_⟩
          rw [z70] at h7 ⊢
          intro j x hx
          rw [z179,y48,Option.map_eq_some_iff] at hx
          obtain ⟨x0,hx0,rfl⟩:=hx
          obtain ⟨v,hv1,hv2⟩:=h7 j x0 hx0
          refine ⟨v,hv1,?_⟩
          have:=ren_V (G:=G) (Bn:=Bn) x0 (i:=i) (l:=Loc.cell (some (i,[])) (0+k * wd+j)) (by intro p hp;simp [Loc.cell] at hp;rw [← hp];exact ⟨rfl,hil⟩) hlen hn1 (z439.1 (hu1 e0 hm) x0 (List.mem_of_getElem? hx0))
            (hp1.imp id fun h=>z1010.1 (z867.1 h e0 hm) x0 (List.mem_of_getElem? hx0)) hv2
          simpa [Loc.cell,z72 hio] using this
    | none =>
      have hnot:=idx_none hi
      rw [z253 _ _ _ (fun c hc e=>hnot (by rw [← e];exact (z643 hc).1))]
      have hπ:o ∉ π:=fun h=>hnot (List.mem_append.2 (.inl h))
      have hob:=hW.objs o
      have hιe:(G.back G' π ν Bn).ι o=G.ι o:=by simp [Ghost.back,hi]
      cases hobj:objs o with
      | fresh=>rw [hobj] at hob;simpa [ObjRel,hιe] using hob
      | dead=>trivial
      | mp d es =>
        rw [hobj] at hob
        obtain ⟨b,size,wx,c,ck,h1,h2,h3,h4⟩:=hob
        obtain ⟨h5,h6,_⟩:=z1209 hW hW' hs h2 hπ
        exact ⟨b,size,wx,c,ck,by rw [hιe];exact h1,by simp only [Ghost.back,h6,h2,if_neg hπ],by show w'.heap[b]?=_;rw [h5];exact h3,h4⟩
      | cells wd es =>
        rw [hobj] at hob
        have hmv:∀ b p,p.1=o→G.κ b=some p→(G.back G' π ν Bn).κ b=some (id p)∧hp w' b=hp w b:=by
          rintro b ⟨o',q⟩ rfl hkb
          obtain ⟨h1,h2,_⟩:=z1209 hW hW' hs hkb hπ
          refine ⟨?_,h1⟩
          simp only [Ghost.back,h2,hkb,if_neg hπ,id]
        rcases hob with ⟨h1,h2⟩|⟨b,size,c,el,h1,h2,h3,h4,h5⟩
        · exact .inl ⟨h1,by rw [hιe];exact h2⟩
        · obtain ⟨h6,h7⟩:=hmv b _ rfl h2
          refine .inr ⟨b,size,c,el,by rw [hιe];exact h1,h6,by rw [h7];exact h3,h4,?_⟩
          have:=z190 es G (G.back G' π ν Bn) (hp w) (hp w') id (fun p=>p.1=o) (fun b x h=>z981 hW hs h) (fun o t h=>z1257 hW hk hn1 hf h) (fun _ _ _=>rfl) (fun _ _ _ h=>h) hmv (some (o,[])) wd c 0 (fun p hp _=>by cases hp;rfl) h5
          simpa using this
end
end Go.Gl
namespace Go.Gl
variable {P:Program} {T:Tab} {dst:Option Tmp} {type:TypeId} {pos:String} {after:Array Edge} {guard:Option (Nat×Bool)} {st:St} {K:OpK}
mutual
theorem z572 (x:AC) {f g:Nat→AObj} {π Bn:List Nat} (h:∀ o∈Bn,f o=g o):bor f π Bn x=bor g π Bn x:=by
 match x with
 |.sref o off len =>
  simp only [bor]
  split
  ·rfl
  ·split
   ·rename_i hB;rw [h o (z286.1 hB)]
   ·rfl
 |.ptr o i off =>
  simp only [bor]
  split
  ·rfl
  ·split
   ·rename_i hB;rw [h o (z286.1 hB)]
   ·rfl
 |.mref o=>simp only [bor]
 |.fn f first caps=>simp only [bor];rw [z214 first h,z214 caps h]
 |.agg cs=>simp only [bor];rw [z214 cs h]
 |.tup cs=>simp only [bor];rw [z214 cs h]
 |.any=>rfl
 |.raw _=>rfl
 |.list ..=>rfl
 |.pt _=>rfl
 |.own ..=>rfl
termination_by structural x
theorem z214 (xs:List AC) {f g:Nat→AObj} {π Bn:List Nat} (h:∀ o∈Bn,f o=g o):borL f π Bn xs=borL g π Bn xs:=by
 match xs with
 |[]=>rfl
 |x::xs=>simp only [borL];rw [z572 x h,z214 xs h]
termination_by structural xs
end
theorem z675 {f g:Nat→AObj} {π Bn:List Nat} (h:∀ o∈Bn,f o=g o) {o:Nat} (ho:f o=g o):z81 f π Bn o=z81 g π Bn o:=by
 have:(fun x=>bor f π Bn x)=fun x=>bor g π Bn x:=funext fun x=>z572 x h
 unfold z81
 rw [ho]
 cases g o with
 |cells w es =>
  simp only [AObj.cells.injEq,true_and]
  refine List.map_congr_left fun e _=>List.map_congr_left fun x _=>?_
  cases x<;>first|rfl|exact z572 _ h
 |_=>rfl
theorem reads_ev {st st' : St} {xs:List Operand} (h:∀ p∈st.reads xs,st'.env p.1=p.2) {ys:List Operand} (hy:∀ y∈ys,y∈xs):ys.map st'.ev=ys.map st.ev :=
 List.map_congr_left fun y hm=>z119 (hy y hm) h
theorem z1069 {st:St} {os:List Nat} {xs:List AObj} (hl:os.length=xs.length) {o:Nat} (ho:o∈os):∃ c∈z191 st os xs,c.o=o∧c.pre=st.objs o:=by
 induction os generalizing xs with
 |nil=>simp at ho
 |cons a os ih =>
  cases xs with
  |nil=>simp at hl
  |cons x xs =>
   simp only [z191,List.mem_cons,exists_eq_or_imp]
   by_cases hao:a=o
   ·exact .inl ⟨hao,by rw [hao]⟩
   ·have:o∈os:=by simpa [Ne.symm hao] using ho
    exact .inr (ih (by simpa using hl) this)
theorem opT_call {fop : Operand} {cargs : Array Operand} {ts : Array TypeId} {f : FuncId} {first caps : List AC} {c : CallI} (hf : st.ev fop = .fn (.func f) first caps)
    (hc:CallOk P f st (first++(cargs.toList.map st.ev++caps)) c) :
    OpT P ⟨dst,.call ⟨.value fop,cargs,ts⟩,type,pos,after,guard⟩ (st.reads (Op.operands (.call ⟨.value fop,cargs,ts⟩)).toList) (c.ch st) c.res1 where
  run Q K G st' a w hR hrd hfp hd hK:=by
    have hops:(Op.operands (.call ⟨.value fop,cargs,ts⟩)).toList=fop::cargs.toList:=by simp [Op.operands,Call.operands]
    have hlen' : (c.π++c.ν).length=c.objs1'.length:=by rw [← hc.h6',y46,hc.h5]
    have hobj:∀ o∈c.π++c.ν,st'.objs o=st.objs o:=fun o ho=>by
      obtain ⟨ch,h1,h2,h3⟩:=z1069 (st:=st) hlen' ho
      have:=hfp ch (List.mem_append.2 (.inl h1))
      rw [h2,h3] at this;exact this
    have hobjB:∀ o∈c.Bn,st'.objs o=st.objs o:=fun o ho=>hfp (st.rd o) (List.mem_append.2 (.inr (List.mem_map.2 ⟨o,ho,rfl⟩)))
    have hπ:∀ o∈c.π,o∈c.π++c.ν:=fun o ho=>List.mem_append.2 (.inl ho)
    have hν:∀ o∈c.ν,o∈c.π++c.ν:=fun o ho=>List.mem_append.2 (.inr ho)
    have hn1:(c.π++c.ν).Nodup:=(List.nodup_append.1 hc.h3).1
    have hnB:∀ o∈c.π,o ∉ c.Bn:=fun o ho hb=>(List.nodup_append.1 hc.h3).2.2 o (hπ o ho) o hb rfl
    have hWs:=z1269 (π:=c.π) (Bn:=c.Bn) hR.wf (List.nodup_append.1 hn1).1 hnB (fun o ho=>by rw [hobj o (hπ o ho)];exact hc.h4 o ho)
    have hpass:c.π.map (z81 st'.objs c.π c.Bn)=c.objs0:=by
      rw [← hc.h2]
      exact List.map_congr_left fun o ho=>z675 hobjB (hobj o (hπ o ho))
    rw [hpass] at hWs
    have hfe:=hR.ev fop
    rw [z119 (by rw [hops];simp) hrd,hf] at hfe
    simp only [V] at hfe
    obtain ⟨xs,ys,hfv,hxs,hys,hxv,hyv⟩:=hfe
    have hav:VL G (hp w) none (cargs.toList.map st.ev) (cargs.map a.eval) 0:=by
      rw [← reads_ev (st:=st) (st':=st') hrd (ys:=cargs.toList) (by rw [hops];intro y hy;simp [hy])]
      rw [z70]
      intro j x hx
      rw [y48,Option.map_eq_some_iff] at hx
      obtain ⟨y,hy,rfl⟩:=hx
      refine ⟨a.eval y,?_,hR.ev y⟩
      have:cargs[j]?=some y:=by simpa using hy
      simp [this]
    have hargs:VL G (hp w) none (first++(cargs.toList.map st.ev++caps)) (xs++(cargs.map a.eval++ys)) 0 :=
      z829 hxs hxv (z829 (by simp) hav hyv)
    have hborrow:VL (G.sub (hp w) c.π c.Bn) (hp w) none c.args0 (xs++(cargs.map a.eval++ys)) 0:=by
      have:=z640 _ (z431 (π:=c.π) (Bn:=c.Bn) hR.wf) _ 0 hargs
      rw [z214 _ hobjB,hc.h1] at this
      exact this
    have hcall:=hc.h0.2 (G.sub (hp w) c.π c.Bn) w _ hWs (by rw [← hc.h1,z236];simp [hxs,hys]) hborrow
    have hex:(execOp a.eval ⟨dst,.call ⟨.value fop,cargs,ts⟩,type,pos,after,guard⟩).run P w=.ok (.enter f (xs++(cargs.map a.eval++ys))) w:=by
      show (do let d ← resolve a.eval ⟨.value fop,cargs,ts⟩ type;invoke d.target d.args:Sem Next).run P w=_
      simp only [resolve,hfv,Deferred.ofValue,Sem.run_bind,Sem.run_pure,Result.andThen,invoke,Array.append_assoc]
      exact z749 hc.h0.1
    unfold Oper.wp
    rw [hex]
    simp only [Oper.upon]
    refine hcall.mono ?_
    rintro e w' ⟨G',v,rfl,hs,hι,hle,hW',hv⟩
    have hlen0:c.objs0.length=c.π.length:=by rw [← hc.h2];simp
    rw [hlen0] at hι
    have hfr:∀ o∈c.ν,z380 (st'.objs o)=true:=fun o ho=>by rw [hobj o (hν o ho)];exact hc.h4' o ho
    have hback:=Wf_back (Bn:=c.Bn) (st:=st') hR.wf hW' hs hι hle hc.h3 hfr hc.h5 hc.h7' (hc.h8.imp id And.right) rfl
    rw [show List.map (z126 (z65 0 (c.π++c.ν))) c.objs1=c.objs1' from hc.h6'] at hback
    have hobjs:(st'.app dst c.res1 (c.ch st)).objs=z88 st'.objs (z191 st' (c.π++c.ν) c.objs1'++c.Bn.map st'.rd):=by
      show z88 st'.objs (z191 st (c.π++c.ν) c.objs1'++c.Bn.map st.rd)=_
      rw [z239,z239]
      have e1:∀ (os:List Nat) (xs:List AObj) (g:Nat→AObj),z88 g (z191 st os xs)=z88 g (z191 st' os xs):=by
        intro os
        induction os with
        | nil=>intro xs g;simp [z191]
        | cons o os ih=>intro xs g;cases xs<;>simp [z191,z88,ih]
      have e2:c.Bn.map st.rd=c.Bn.map st'.rd:=List.map_congr_left fun o ho=>by simp only [St.rd,hobjB o ho]
      rw [e1,e2]
    refine hK (G.back G' c.π c.ν c.Bn) _ _ ⟨fun b x h=>z981 hR.wf hs h,rfl⟩ (fun o t h=>z1257 hR.wf hι hn1 hfr h) hle ⟨by rw [hobjs];exact hback,?_,by rw [z203];exact hR.size,by rw [z146];exact hR.defers.mono (fun b x h=>z981 hR.wf hs h)⟩
    refine z292 hd hR.size (fun s=>z149 (fun b x h=>z981 hR.wf hs h) (fun o t h=>z1257 hR.wf hι hn1 hfr h) (hR.env s)) ?_
    have:=ren_V (G:=G) (Bn:=c.Bn) (π:=c.π) (ν:=c.ν) c.res0 (i:=0) (l:=none) (by simp) hc.h5 hn1 hc.h7 (hc.h8.imp id And.left) hv
    rw [show c.res0.ren (z65 0 (c.π++c.ν))=c.res1 from hc.h6] at this
    simpa using this
def z18 (P:Program) (st:St) (fv:AC) (args:List AC) (K:OpK):Prop :=
 match fv with
 |.fn (.func f) first caps=>∃ c:CallI,CallOk P f st (first++(args++caps)) c∧K c.res1 (c.ch st)
 |_=>False
theorem z1001 {fop:Operand} {cargs:Array Operand} {ts:Array TypeId} (h:z18 P st (st.ev fop) (cargs.toList.map st.ev) K):z108 P st ⟨dst,.call ⟨.value fop,cargs,ts⟩,type,pos,after,guard⟩ K:=by
 unfold z18 at h
 split at h
 ·rename_i f first caps hf
  obtain ⟨c,hc,hk⟩:=h
  refine ⟨_,_,opT_call hf hc,fun ch hch=>?_,hk⟩
  simp only [CallI.ch,y51,y57] at hch
  rcases hch with hch|⟨b,_,rfl⟩
  ·exact ⟨(z643 hch).2.symm,fun h=>by cases h⟩
  ·exact ⟨rfl,fun h=>by cases h⟩
 ·exact h.elim
end Go.Gl
namespace Go.Gl
variable {P:Program} {T:Tab} {dst:Option Tmp} {type:TypeId} {pos:String} {after:Array Edge} {guard:Option (Nat×Bool)} {st:St} {K:OpK}
def z129 (m n:Int):Prop:=0≤m∧0≤n∧m≤9223372036854775807∧n≤9223372036854775807
def z435 (m n:Int):Prop:=0≤m∧0≤n∧m < 18446744073709551616∧n < 18446744073709551616
def z1083 (op:BinOp) (x y:AC) (K:OpK):Prop :=
 match x,y with
 |.raw (.int .i64 m),.raw (.int k n)=>match op with
  |.shl=>(0≤n∧n≤62∧inI (m * 2 ^ n.toNat))∧K (.int (m * 2 ^ n.toNat)) []
  |.shr=>(0≤n∧n≤62)∧K (.int (m / 2 ^ n.toNat)) []
  |.and=>match k with
   |.i64=>z129 m n∧K (.int ((m.toNat &&& n.toNat:Nat):Int)) []
   |_=>False
  |.or=>match k with
   |.i64=>z129 m n∧K (.int ((m.toNat ||| n.toNat:Nat):Int)) []
   |_=>False
  |.xor=>match k with
   |.i64=>z129 m n∧K (.int ((m.toNat ^^^ n.toNat:Nat):Int)) []
   |_=>False
  |.andNot=>match k with
   |.i64=>z129 m n∧K (.int (((BitVec.ofNat 64 m.toNat &&& ~~~BitVec.ofNat 64 n.toNat).toNat:Nat):Int)) []
   |_=>False
  |_=>False
 |.raw (.int .u64 m),.raw (.int k n)=>match op with
  |.shl=>(0≤n∧n≤63∧0≤m∧m * 2 ^ n.toNat < 18446744073709551616)∧K (.raw (.int .u64 (m * 2 ^ n.toNat))) []
  |.shr=>(0≤n∧n≤63)∧K (.raw (.int .u64 (m / 2 ^ n.toNat))) []
  |.and=>match k with
   |.u64=>z435 m n∧K (.raw (.int .u64 ((m.toNat &&& n.toNat:Nat):Int))) []
   |_=>False
  |.or=>match k with
   |.u64=>z435 m n∧K (.raw (.int .u64 ((m.toNat ||| n.toNat:Nat):Int))) []
   |_=>False
  |.andNot=>match k with
   |.u64=>z435 m n∧K (.raw (.int .u64 (((BitVec.ofNat 64 m.toNat &&& ~~~BitVec.ofNat 64 n.toNat).toNat:Nat):Int))) []
   |_=>False
  |_=>False
 |_,_=>False
theorem z140 {m:Int} (h0:0≤m):BitVec.ofInt IntKind.i64.bits m=BitVec.ofNat 64 m.toNat:=by
 obtain ⟨n,rfl⟩:=Int.eq_ofNat_of_zero_le h0
 rfl
theorem z154 {m:Int} (h0:0≤m) (h1:m≤9223372036854775807):(BitVec.ofNat 64 m.toNat).toNat=m.toNat:=by
 simp only [BitVec.toNat_ofNat]
 exact Nat.mod_eq_of_lt (by omega)
theorem z211 {m:Int} (h0:0≤m):BitVec.ofInt IntKind.u64.bits m=BitVec.ofNat 64 m.toNat:=by
 obtain ⟨n,rfl⟩:=Int.eq_ofNat_of_zero_le h0
 rfl
theorem z337 {m:Int} (h0:0≤m) (h1:m < 18446744073709551616):(BitVec.ofNat 64 m.toNat).toNat=m.toNat:=by
 simp only [BitVec.toNat_ofNat]
 exact Nat.mod_eq_of_lt (by omega)
theorem z925 {n:Int} (h0:0≤n) (h1:n < 18446744073709551616):IntKind.u64.wrap n=n:=by
 simp [IntKind.wrap,IntKind.bits,IntKind.signed]
 omega
theorem z1002 {op:BinOp} {t t2:TypeId} {x y:Operand} (h:z1083 op (st.ev x) (st.ev y) K):z108 P st ⟨dst,.binOp op t x y t2,type,pos,after,guard⟩ K:=by
 unfold z1083 at h
 split at h
 ·rename_i m k n hx hy
  have key:∀ v,K (.raw v) []→(∀ w:World,(binOp op t (.int .i64 m) (.int k n)).run P w=.ok v w)→z108 P st ⟨dst,.binOp op t x y t2,type,pos,after,guard⟩ K:=by
   intro v hk hr
   refine z84 (fun ρ=>do eqGuard op t x y (ρ x) (ρ y);binOp op t (ρ x) (ρ y)) (fun ρ=>z245 ρ) hk fun G a w hxs=>?_
   have h1:=hxs x (by simp [Op.operands])
   have h2:=hxs y (by simp [Op.operands])
   rw [hx,z103] at h1
   rw [hy,z103] at h2
   refine ⟨v,?_,by simp [V]⟩
   rw [h1,h2]
   have:(eqGuard op t x y (.int .i64 m) (.int k n)).run P w=.ok () w:=by
    unfold eqGuard
    split<;>rfl
   rw [Sem.run_bind,this]
   exact hr w
  have hb:∀ (r:Nat),r < 9223372036854775808→IntKind.i64.wrap (r:Int)=r:=fun r hr=>z288 (by unfold inI;omega)
  split at h
  ·obtain ⟨⟨h0,h1,h2⟩,hk⟩:=h
   refine key _ hk fun w=>?_
   have e:binOp .shl t (.int .i64 m) (.int k n)=Op.shift .shl .i64 m k n:=rfl
   rw [e]
   unfold Op.shift
   rw [if_neg (by omega)]
   have:min n.toNat IntKind.i64.bits=n.toNat:=by simp [IntKind.bits];omega
   simp only [this]
   rw [z288 h2]
   rfl
  ·obtain ⟨⟨h0,h1⟩,hk⟩:=h
   refine key _ hk fun w=>?_
   have e:binOp .shr t (.int .i64 m) (.int k n)=Op.shift .shr .i64 m k n:=rfl
   rw [e]
   unfold Op.shift
   rw [if_neg (by omega)]
   have:min n.toNat IntKind.i64.bits=n.toNat:=by simp [IntKind.bits];omega
   simp only [this]
   rw [Int.fdiv_eq_ediv_of_nonneg _ (Int.le_of_lt (Int.pow_pos (by decide)))]
   rfl
  ·split at h
   ·obtain ⟨⟨h0,h1,h2,h3⟩,hk⟩:=h
    refine key _ hk fun w=>?_
    have e:binOp .and t (.int .i64 m) (.int .i64 n)=Op.intBits .and .i64 m n:=rfl
    rw [e]
    simp only [Op.intBits,z140 h0,z140 h1]
    show Sem.run P (pure (Value.int .i64 (IntKind.i64.wrap ((BitVec.ofNat 64 m.toNat &&& BitVec.ofNat 64 n.toNat).toNat:Int)))) w=_
    rw [BitVec.toNat_and,z154 h0 h2,z154 h1 h3]
    rw [hb _ (by have:=@Nat.and_le_left m.toNat n.toNat;omega)]
    rfl
   ·exact h.elim
  ·split at h
   ·obtain ⟨⟨h0,h1,h2,h3⟩,hk⟩:=h
    refine key _ hk fun w=>?_
    have e:binOp .or t (.int .i64 m) (.int .i64 n)=Op.intBits .or .i64 m n:=rfl
    rw [e]
    simp only [Op.intBits,z140 h0,z140 h1]
    show Sem.run P (pure (Value.int .i64 (IntKind.i64.wrap ((BitVec.ofNat 64 m.toNat ||| BitVec.ofNat 64 n.toNat).toNat:Int)))) w=_
    rw [BitVec.toNat_or,z154 h0 h2,z154 h1 h3]
    rw [hb _ (by have:=@Nat.or_lt_two_pow m.toNat n.toNat 63 (by omega) (by omega);omega)]
    rfl
   ·exact h.elim
  ·split at h
   ·obtain ⟨⟨h0,h1,h2,h3⟩,hk⟩:=h
    refine key _ hk fun w=>?_
    have e:binOp .xor t (.int .i64 m) (.int .i64 n)=Op.intBits .xor .i64 m n:=rfl
    rw [e]
    simp only [Op.intBits,z140 h0,z140 h1]
    show Sem.run P (pure (Value.int .i64 (IntKind.i64.wrap ((BitVec.ofNat 64 m.toNat ^^^ BitVec.ofNat 64 n.toNat).toNat:Int)))) w=_
    rw [BitVec.toNat_xor,z154 h0 h2,z154 h1 h3]
    rw [hb _ (by have:=@Nat.xor_lt_two_pow m.toNat n.toNat 63 (by omega) (by omega);omega)]
    rfl
   ·exact h.elim
  ·split at h
   ·obtain ⟨⟨h0,h1,h2,h3⟩,hk⟩:=h
    refine key _ hk fun w=>?_
    have e:binOp .andNot t (.int .i64 m) (.int .i64 n)=Op.intBits .andNot .i64 m n:=rfl
    rw [e]
    simp only [Op.intBits,z140 h0,z140 h1]
    have hlt:(BitVec.ofNat 64 m.toNat &&& ~~~BitVec.ofNat 64 n.toNat).toNat < 9223372036854775808:=by
     rw [BitVec.toNat_and,z154 h0 h2]
     have:=@Nat.and_le_left m.toNat (~~~BitVec.ofNat 64 n.toNat).toNat
     omega
    have:=hb _ hlt
    show Sem.run P (pure (Value.int .i64 (IntKind.i64.wrap ((BitVec.ofNat 64 m.toNat &&& ~~~BitVec.ofNat 64 n.toNat).toNat:Int)))) w=_
    rw [this]
    rfl
   ·exact h.elim
  ·exact h.elim
 ·rename_i m k n hx hy
  have key:∀ v,K (.raw v) []→(∀ w:World,(binOp op t (.int .u64 m) (.int k n)).run P w=.ok v w)→z108 P st ⟨dst,.binOp op t x y t2,type,pos,after,guard⟩ K:=by
   intro v hk hr
   refine z84 (fun ρ=>do eqGuard op t x y (ρ x) (ρ y);binOp op t (ρ x) (ρ y)) (fun ρ=>z245 ρ) hk fun G a w hxs=>?_
   have h1:=hxs x (by simp [Op.operands])
   have h2:=hxs y (by simp [Op.operands])
   rw [hx,z103] at h1
   rw [hy,z103] at h2
   refine ⟨v,?_,by simp [V]⟩
   rw [h1,h2]
   have:(eqGuard op t x y (.int .u64 m) (.int k n)).run P w=.ok () w:=by
    unfold eqGuard
    split<;>rfl
   rw [Sem.run_bind,this]
   exact hr w
  have hb:∀ (r:Nat),r < 18446744073709551616→IntKind.u64.wrap (r:Int)=r:=fun r hr=>z925 (by omega) (by omega)
  split at h
  ·obtain ⟨⟨h0,h1,h2,h3⟩,hk⟩:=h
   refine key _ hk fun w=>?_
   have e:binOp .shl t (.int .u64 m) (.int k n)=Op.shift .shl .u64 m k n:=rfl
   rw [e]
   unfold Op.shift
   rw [if_neg (by omega)]
   have:min n.toNat IntKind.u64.bits=n.toNat:=by simp [IntKind.bits];omega
   simp only [this]
   rw [z925 (Int.mul_nonneg h2 (Int.le_of_lt (Int.pow_pos (by decide)))) h3]
   rfl
  ·obtain ⟨⟨h0,h1⟩,hk⟩:=h
   refine key _ hk fun w=>?_
   have e:binOp .shr t (.int .u64 m) (.int k n)=Op.shift .shr .u64 m k n:=rfl
   rw [e]
   unfold Op.shift
   rw [if_neg (by omega)]
   have:min n.toNat IntKind.u64.bits=n.toNat:=by simp [IntKind.bits];omega
   simp only [this]
   rw [Int.fdiv_eq_ediv_of_nonneg _ (Int.le_of_lt (Int.pow_pos (by decide)))]
   rfl
  ·split at h
   ·obtain ⟨⟨h0,h1,h2,h3⟩,hk⟩:=h
    refine key _ hk fun w=>?_
    have e:binOp .and t (.int .u64 m) (.int .u64 n)=Op.intBits .and .u64 m n:=rfl
    rw [e]
    simp only [Op.intBits,z211 h0,z211 h1]
    show Sem.run P (pure (Value.int .u64 (IntKind.u64.wrap ((BitVec.ofNat 64 m.toNat &&& BitVec.ofNat 64 n.toNat).toNat:Int)))) w=_
    rw [BitVec.toNat_and,z337 h0 h2,z337 h1 h3]
    rw [hb _ (by have:=@Nat.and_le_left m.toNat n.toNat;omega)]
    rfl
   ·exact h.elim
  ·split at h
   ·obtain ⟨⟨h0,h1,h2,h3⟩,hk⟩:=h
    refine key _ hk fun w=>?_
    have e:binOp .or t (.int .u64 m) (.int .u64 n)=Op.intBits .or .u64 m n:=rfl
    rw [e]
    simp only [Op.intBits,z211 h0,z211 h1]
    show Sem.run P (pure (Value.int .u64 (IntKind.u64.wrap ((BitVec.ofNat 64 m.toNat ||| BitVec.ofNat 64 n.toNat).toNat:Int)))) w=_
    rw [BitVec.toNat_or,z337 h0 h2,z337 h1 h3]
    rw [hb _ (by have:=@Nat.or_lt_two_pow m.toNat n.toNat 64 (by omega) (by omega);omega)]
    rfl
   ·exact h.elim
  ·split at h
   ·obtain ⟨⟨h0,h1,h2,h3⟩,hk⟩:=h
    refine key _ hk fun w=>?_
    have e:binOp .andNot t (.int .u64 m) (.int .u64 n)=Op.intBits .andNot .u64 m n:=rfl
    rw [e]
    simp only [Op.intBits,z211 h0,z211 h1]
    have:=hb _ (BitVec.ofNat 64 m.toNat &&& ~~~BitVec.ofNat 64 n.toNat).isLt
    show Sem.run P (pure (Value.int .u64 (IntKind.u64.wrap ((BitVec.ofNat 64 m.toNat &&& ~~~BitVec.ofNat 64 n.toNat).toNat:Int)))) w=_
    rw [this]
    rfl
   ·exact h.elim
  ·exact h.elim
 ·exact h.elim
def intT:Option TyI→Option IntKind
 |some i=>match i.desc with
  |.int k=>some k
  |_=>none
 |none=>none
def z1082 (t:Option TyI) (x:AC) (K:OpK):Prop :=
 match x with
 |.raw (.int _ n)=>match intT t with
  |some k=>k.wrap n=n∧K (.raw (.int k n)) []
  |none=>False
 |_=>False
theorem z1197 {t:TypeId} {k:IntKind} (hT:z135 P T) (h:intT (T t)=some k):P.underlying t=some (.int k):=by
 unfold intT at h
 split at h
 ·rename_i i hi
  split at h
  ·rename_i k' he
   cases h
   rw [(hT _ _ hi).1,he]
  ·cases h
 ·cases h
theorem z1000 {s d:TypeId} {i:TyI} {x:Operand} (hT:z135 P T) (hs:TyOk P s i) (h:z1082 (T d) (st.ev x) K):z108 P st ⟨dst,.convert s d x,type,pos,after,guard⟩ K:=by
 unfold z1082 at h
 split at h
 ·rename_i k0 n hx
  split at h
  ·rename_i k hk0
   obtain ⟨h1,hk⟩:=h
   refine z84 (fun ρ=>convert s d (ρ x)) (fun ρ=>rfl) hk fun G a w hxs=>?_
   have h2:=hxs x (by simp [Op.operands])
   rw [hx,z103] at h2
   refine ⟨_,?_,by rw [z103]⟩
   rw [h2]
   unfold convert
   rw [Sem.run_bind,hs.und]
   simp only [Result.andThen]
   rw [Sem.run_bind,z59 (z1197 hT hk0)]
   simp only [Result.andThen,Conv.intToInt,h1]
   cases i.desc<;>rfl
  ·exact h.elim
 ·exact h.elim
theorem z588 {fn:Fn} {first caps:Array Operand} (h:K (.fn fn (first.toList.map st.ev) (caps.toList.map st.ev)) []):z108 P st ⟨dst,.makeFunc fn first caps,type,pos,after,guard⟩ K:=by
 refine z84 (fun ρ=>Instr.makeFunc fn (first.map ρ) (caps.map ρ)) (fun ρ=>rfl) h fun G a w hxs=>⟨_,rfl,?_⟩
 have key:∀ (xs:Array Operand),(∀ x∈xs.toList,x∈(Op.operands (.makeFunc fn first caps)).toList)→VL G (hp w) none (xs.toList.map st.ev) (xs.map a.eval) 0:=by
  intro xs hm
  rw [z70]
  intro j x hx
  rw [y48,Option.map_eq_some_iff] at hx
  obtain ⟨y,hy,rfl⟩:=hx
  have:xs[j]?=some y:=by simpa using hy
  exact ⟨a.eval y,by simp [this],hxs y (hm y (List.mem_of_getElem? hy))⟩
 simp only [V]
 exact ⟨_,_,rfl,by simp,by simp,key first (fun x hx=>by simp [Op.operands];exact .inl (by simpa using hx)),key caps (fun x hx=>by simp [Op.operands];exact .inr (by simpa using hx))⟩
def vcNil (x:AC) (K:OpK):Prop :=
 match x with
 |.pt cs=>K (.pt cs) []
 |.ptr o i off=>K (.ptr o i off) []
 |_=>False
theorem nil_step {x:Operand} (ρ:Operand→Value) {ad:Addr} (h:ρ x=.pointer (some ad)):execOp ρ ⟨dst,.nilCheck x,type,pos,after,guard⟩=pure (.value (ρ x)):=by
 simp only [execOp,h]
theorem OpT.nil {x : Operand} {st : St} {res : AC} (hres : st.ev x = res) (hp : ∀ (G : Ghost) (h : Nat → Option Obj) (v : Value), V G h none res v → ∃ ad, v = .pointer (some ad)) :
    OpT P ⟨dst,.nilCheck x,type,pos,after,guard⟩ (st.reads (Op.operands (.nilCheck x)).toList) [] res where
  run Q K G st' a w hR hrd hfp hd hK:=by
    have h1:=hR.ev x
    rw [z119 (xs:=(Op.operands (.nilCheck x)).toList) (by simp [Op.operands]) hrd,hres] at h1
    obtain ⟨ad,h2⟩:=hp _ _ _ h1
    unfold Oper.wp
    rw [nil_step a.eval h2]
    exact hK G _ w (Ghost.Sub.refl G) (fun _ _ h=>h) (Le.refl w) (hR.pure hd h1 (by simp))
theorem z1103 {x:Operand} (h:vcNil (st.ev x) K):z108 P st ⟨dst,.nilCheck x,type,pos,after,guard⟩ K:=by
 unfold vcNil at h
 split at h
 ·rename_i cs hx
  exact ⟨_,[],OpT.nil hx (fun G hh v hv=>by simp only [V] at hv;obtain ⟨b,off,_,_,_,hv,_⟩:=hv;exact ⟨_,hv⟩),by simp,h⟩
 ·rename_i o i off hx
  exact ⟨_,[],OpT.nil hx (fun G hh v hv=>by simp only [V] at hv;obtain ⟨b,_,_,_,hv⟩:=hv;exact ⟨_,hv⟩),by simp,h⟩
 ·exact h.elim
end Go.Gl
namespace Go.Gl
variable {P:Program} {T:Tab} {dst:Option Tmp} {type:TypeId} {pos:String} {after:Array Edge} {guard:Option (Nat×Bool)} {st:St} {K:OpK}
theorem z1211 (vs:List Value):∀ (c:Array Value) (off k:Nat),(vs.zipIdx k).foldl (fun cs p=>cs.setIfInBounds (off+p.2) p.1) c=lay c (off+k) vs:=by
 induction vs with
 |nil=>intro c off k;rfl
 |cons v vs ih=>intro c off k;simp only [List.zipIdx_cons,List.foldl_cons,lay];rw [ih];rfl
theorem z798 (c:Array Value) (off:Nat) (vs:Array Value):vs.zipIdx.foldl (fun cs (x:Value×Nat)=>match x with|(c,j)=>cs.setIfInBounds (off+j) c) c=lay c off vs.toList:=by
 rw [← Array.foldl_toList,Array.toList_zipIdx]
 exact z1211 vs.toList c off 0
theorem VL_lay {G : Ghost} {h : Nat → Option Obj} {e vs : List AC} {c a : Array Value} {base off : Nat} (he : VL G h none e c base) (hv : VL G h none vs a 0) (ha : a.size = vs.length) (hle : off + vs.length ≤ e.length) (hb : base + e.length ≤ c.size) :
    VL G h none (z257 e off vs) (lay c (base+off) a.toList) base:=by
  rw [z70] at he hv ⊢
  intro j x hx
  rw [getElem?_splice hle] at hx
  rw [z451 _ _ _ _ (by simp [ha];omega)]
  simp only [Array.length_toList,ha]
  split at hx
  · rename_i hj
    obtain ⟨v,hv1,hv2⟩:=hv _ x hx
    refine ⟨v,?_,hv2⟩
    rw [if_pos (by omega),show base+j - (base+off)=j - off by omega]
    simpa using hv1
  · rename_i hj
    obtain ⟨v,hv1,hv2⟩:=he j x hx
    refine ⟨v,?_,hv2⟩
    rw [if_neg (by omega)]
    exact hv1
def repK (n:Nat) (z:List AC) (K:List (List AC)→Prop):Prop:=match n with
 |0=>K []
 |n+1=>repK n z fun r=>K (z::r)
theorem repK_eq {n:Nat} {z:List AC} {K:List (List AC)→Prop} : repK n z K=K (List.replicate n z):=by
 induction n generalizing K with
 |zero=>rfl
 |succ n ih=>simp [repK,ih,List.replicate_succ]
def setE (es:List (List AC)) (i:Nat) (e:List AC) (K:List (List AC)→Prop):Prop:=match es,i with
 |[],_=>False
 |_::es,0=>K (e::es)
 |x::es,i+1=>setE es i e fun r=>K (x::r)
theorem z1117 {es:List (List AC)} {i:Nat} {e:List AC} {K:List (List AC)→Prop} (h:setE es i e K):i < es.length∧K (es.set i e):=by
 induction es generalizing i K with
 |nil=>cases i<;>exact h.elim
 |cons x es ih =>
  cases i with
  |zero=>exact ⟨by simp,h⟩
  |succ i=>obtain ⟨h1,h2⟩:=ih h;exact ⟨by simpa using h1,h2⟩
def z513 (size:Nat) (es:List (List AC)) (parts:List (Nat×AC)) (K:List (List AC)→Prop):Prop:=match parts with
 |[]=>K es
 |(i,v)::rest=>z416 v fun v=>z76 (Nat.beq (cellsOf v).length size) (z76 (z95 (cellsOf v)) (litK (cellsOf v) fun e=>setE es i e fun es'=>z513 size es' rest K))
theorem z1219 {G : Ghost} {h : Nat → Option Obj} {size : Nat} {place : Nat → Option (Nat × Nat)} (hpl : ∀ i, place i = some (i * size, size)) : ∀ (parts : List (Nat × AC)) (vals : List (Nat × Value)) (es : List (List AC)) (c : Array Value) (K : List (List AC) → Prop),
  z513 size es parts K→parts.map Prod.fst=vals.map Prod.fst→(∀ (j:Nat) (p:Nat×AC) (q:Nat×Value),parts[j]?=some p→vals[j]?=some q→V G h none p.2 q.2)→VLL G h none size es c 0→c.size=es.length * size →
  ∃ es' c',K es'∧Instr.fill place c vals=some c'∧VLL G h none size es' c' 0∧c'.size=c.size∧es'.length=es.length:=by
 intro parts
 induction parts with
 |nil =>
  intro vals es c K hk hm hv hc hs
  cases vals with
  |nil=>exact ⟨es,c,hk,rfl,hc,rfl,rfl⟩
  |cons _ _=>simp at hm
 |cons p rest ih =>
  intro vals es c K hk hm hv hc hs
  obtain ⟨i,v⟩:=p
  cases vals with
  |nil=>simp at hm
  |cons q vals =>
   obtain ⟨i',u⟩:=q
   simp only [List.map_cons,List.cons.injEq] at hm
   obtain ⟨rfl,hm⟩:=hm
   simp only [z513,z141] at hk
   obtain ⟨h1,hk⟩:=z32 hk
   obtain ⟨h2,hk⟩:=z32 hk
   rw [z284] at hk
   obtain ⟨hlt,hk⟩:=z1117 hk
   have h1:=Nat.eq_of_beq_eq_true h1
   have hvu:=hv 0 (i,v) (i,u) (by simp) (by simp)
   obtain ⟨h3,h4,_⟩:=z428 h2 hvu
   have hbd:i * size+size≤c.size:=by
    rw [hs]
    have:(i+1) * size≤es.length * size:=Nat.mul_le_mul_right _ hlt
    rw [Nat.add_mul] at this;omega
   have hc' : VLL G h none size (es.set i (cellsOf v)) (lay c (i * size) u.cells.toList) 0:=by
    rw [z74] at hc ⊢
    intro m e he
    by_cases hmi:m=i
    ·subst hmi
     rw [List.getElem?_set_self hlt] at he
     cases he
     refine ⟨h1,z70.2 fun j x hx=>?_⟩
     obtain ⟨w,hw1,hw2⟩:=z70.1 h4 j x hx
     have hj:j < size:=by
      rw [← h1]
      rcases y67 j (cellsOf v).length with h|h
      ·exact h
      ·rw [y66 h] at hx;cases hx
     refine ⟨w,?_,hw2⟩
     rw [z451 _ _ _ _ (by simp [h3,h1];omega)]
     simp only [Array.length_toList,h3,h1]
     rw [if_pos (by omega),show 0+m * size+j - m * size=0+j by omega]
     simpa using hw1
    ·rw [List.getElem?_set_ne (Ne.symm hmi)] at he
     obtain ⟨h5,h6⟩:=hc m e he
     refine ⟨h5,z70.2 fun j x hx=>?_⟩
     obtain ⟨w,hw1,hw2⟩:=z70.1 h6 j x hx
     have hj:j < size:=by
      rw [← h5]
      rcases y67 j e.length with h|h
      ·exact h
      ·rw [y66 h] at hx;cases hx
     refine ⟨w,?_,hw2⟩
     rw [z451 _ _ _ _ (by simp [h3,h1];omega)]
     simp only [Array.length_toList,h3,h1]
     rw [if_neg]
     ·exact hw1
     ·rcases Nat.lt_or_gt_of_ne hmi with hlt'|hgt
      ·have:(m+1) * size≤i * size:=Nat.mul_le_mul_right _ hlt'
       rw [Nat.add_mul] at this;omega
      ·have:(i+1) * size≤m * size:=Nat.mul_le_mul_right _ hgt
       rw [Nat.add_mul] at this;omega
   obtain ⟨es',c',h5,h6,h7,h8,h9⟩:=ih vals _ _ K hk hm (fun j p q hp hq=>hv (j+1) p q (by simpa using hp) (by simpa using hq)) hc' (by rw [z345,hs];simp)
   refine ⟨es',c',h5,?_,h7,by rw [h8,z345],by rw [h9];simp⟩
   simp only [Instr.fill,hpl]
   rw [if_neg (by simp [h3,h1,hbd])]
   rw [z798]
   exact h6
def lim24:Nat:=16777216
def z308 (i:TyI) (n:Nat) (st:St) (parts:List (Nat×AC)) (K:OpK):Prop :=
 z76 (Nat.beq (z94 i.zero).length i.size) (z76 (Nat.ble (n * i.size) lim24) (z76 (Nat.blt 0 i.size) (z233 i.size fun sz=>litK (z94 i.zero) fun z=>repK n z fun es=>z513 sz es parts fun es'=>z723 st sz es' (fun q=>.sref q 0 n) K)))
theorem z592 {t e : TypeId} {i ei : TyI} {n : Nat} {parts : Array (Nat × Value)} {c : Array Value} {w : World} (ht : TyOk P t i) (hd : i.desc = .slice e) (he : TyOk P e ei) (hz : ei.zero.cells.size = ei.size) (hn : n * ei.size ≤ lim24)
    (hf:Instr.fill (fun j=>some (j * ei.size,ei.size)) (z243 n ei.zero.cells) parts.toList=some c) :
    (Instr.buildSlice t n parts).run P w=.ok (.slice (some ⟨w.heap.size,0,none⟩) n n) (w.alloc (.cells c e)):=by
  simp only [Instr.buildSlice,Sem.run_bind,ht.und,hd,Result.andThen,he.size]
  unfold lim24 at hn
  rw [if_neg (by omega)]
  unfold z243 at hf
  rw [hz] at hf
  by_cases h0:n * ei.size=0
  · simp only [h0,if_true,Sem.run_bind,Sem.run_pure,Result.andThen]
    have:(Array.map (fun x=>(#[]:Array Value)[x % (#[]:Array Value).size]!) (Array.range 0))=Array.map (fun j=>ei.zero.cells[j % ei.size]!) (Array.range (n * ei.size)):=by rw [h0];simp
    rw [this,hf]
    simp only [Sem.run_bind,z210,Result.andThen,Sem.run_pure]
  · simp only [h0,if_false,Sem.run_bind,he.zeroV,Sem.run_pure,Result.andThen]
    rw [hz,hf]
    simp only [Sem.run_bind,z210,Result.andThen,Sem.run_pure]
theorem setE_fun:∀ (es:List (List AC)) (i:Nat) (e:List AC) (K1:List (List AC)→Prop),setE es i e K1→∃ r,K1 r∧∀ K2:List (List AC)→Prop,K2 r→setE es i e K2:=by
 intro es
 induction es with
 |nil=>intro i e K1 h;cases i<;>exact h.elim
 |cons x es ih =>
  intro i e K1 h
  cases i with
  |zero=>exact ⟨_,h,fun K2 h2=>h2⟩
  |succ i=>obtain ⟨r,h3,h4⟩:=ih i e _ h;exact ⟨_,h3,fun K2 h2=>h4 _ h2⟩
theorem z989 {size:Nat} : ∀ (ps:List (Nat×AC)) (es:List (List AC)) (K1:List (List AC)→Prop),z513 size es ps K1→∃ es',K1 es'∧∀ K2:List (List AC)→Prop,K2 es'→z513 size es ps K2:=by
 intro ps
 induction ps with
 |nil=>intro es K1 hk;exact ⟨es,hk,fun K2 h2=>h2⟩
 |cons p ps ih =>
  intro es K1 hk
  obtain ⟨j,v⟩:=p
  simp only [z513,z141] at hk ⊢
  obtain ⟨h1,hk⟩:=z32 hk
  obtain ⟨h2,hk⟩:=z32 hk
  rw [z284] at hk
  obtain ⟨r,h3,h4⟩:=setE_fun _ _ _ _ hk
  obtain ⟨es',h5,h6⟩:=ih _ _ h3
  exact ⟨es',h5,fun K2 hK2=>z322 h1 (z322 h2 (by rw [z284];exact h4 _ (h6 K2 hK2)))⟩
theorem z480 {t e : TypeId} {i ei : TyI} {n : Nat} {parts : Array (Nat × Operand)} (ht : TyOk P t i) (hd : i.desc = .slice e) (he : TyOk P e ei)
    (h:z308 ei n st (parts.toList.map fun p=>(p.1,st.ev p.2)) K):z108 P st ⟨dst,.buildSlice t n parts,type,pos,after,guard⟩ K:=by
  unfold z308 at h
  obtain ⟨hz,h⟩:=z32 h
  obtain ⟨hn,h⟩:=z32 h
  obtain ⟨hpos,h⟩:=z32 h
  rw [z116,z284,repK_eq] at h
  have hz' : ei.zero.cells.size=ei.size:=by have:=Nat.eq_of_beq_eq_true hz;simpa [z94] using this
  have hn:=Nat.le_of_ble_eq_true hn
  have hpos:0 < ei.size:=by simpa [Nat.blt_eq] using hpos
  -- the abstract part does not hang on the world
  have habs : ∃ es', z723 st ei.size es' (fun q => .sref q 0 n) K ∧ ∀ (G : Ghost) (a : Act) (w : World), (∀ x ∈ (Op.operands (.buildSlice t n parts)).toList, V G (hp w) none (st.ev x) (a.eval x)) →
      ∃ c,Instr.fill (fun j=>some (j * ei.size,ei.size)) (z243 n ei.zero.cells) (parts.map fun p=>(p.1,a.eval p.2)).toList=some c∧VLL G (hp w) none ei.size es' c 0∧c.size=n * ei.size:=by
    obtain ⟨es',h1,h2⟩:=z989 _ _ _ h
    refine ⟨es',h1,fun G a w hx=>?_⟩
    have h3:=h2 (fun e=>e=es') rfl
    have hc0:=z462 (G:=G) (h:=hp w) (l:=none) (n:=n) (z:=ei.zero)
    rw [hz'] at hc0
    obtain ⟨es2,c,h4,h5,h6,h7,_⟩:=z1219 (G:=G) (h:=hp w) (fun i=>rfl) _ (parts.map fun p=>(p.1,a.eval p.2)).toList _ _ _ h3 (by simp) (fun j p q hp hq=>by
      rw [y48,Option.map_eq_some_iff] at hp
      obtain ⟨p0,hp0,rfl⟩:=hp
      rw [Array.toList_map,y48,hp0] at hq
      simp at hq
      subst hq
      exact hx p0.2 (by simp [Op.operands];exact ⟨p0.1,by simpa using List.mem_of_getElem? hp0⟩)) hc0 (by rw [z294,hz'];simp)
    subst h4
    exact ⟨c,h5,h6,by rw [h7,z294,hz']⟩
  obtain ⟨es',h1,h2⟩:=habs
  have hT:OpT P ⟨dst,.buildSlice t n parts,type,pos,after,guard⟩ (st.reads (Op.operands (.buildSlice t n parts)).toList) [⟨st.next,.fresh,.cells ei.size es'⟩] (.sref st.next 0 n):=by
    refine OpT.fresh (fun ρ=>Instr.buildSlice t n (parts.map fun p=>(p.1,ρ p.2))) (fun ρ=>by simp only [execOp]) fun G a w hx=>?_
    obtain ⟨c,h3,h4,h5⟩:=h2 G a w hx
    have hr:=z592 (w:=w) ht hd he hz' hn h3
    refine ⟨_,c,e,hr,h4,fun G' h' hι=>?_⟩
    simp only [V]
    refine ⟨n,y49 _,.inr ⟨_,_,_,hι,?_,?_⟩⟩
    · rw [h5,Nat.zero_add];exact y49 _
    · rw [Nat.zero_mul]
  exact z311 (res:=fun q=>.sref q 0 n) rfl h1 hT
end Go.Gl
namespace Go.Gl
variable {P:Program} {T:Tab} {dst:Option Tmp} {type:TypeId} {pos:String} {after:Array Edge} {guard:Option (Nat×Bool)} {st:St} {K:OpK}
def z373 (T:Tab) (fs:Array Field) (e:List AC) (parts:List (Nat×AC)) (K:List AC→Prop):Prop:=match parts with
 |[]=>K e
 |(i,v)::rest=>match fs[i]? with
  |some fd=>match T fd.type with
   |some ti=>z416 v fun v=>z76 (Nat.beq (cellsOf v).length ti.size) (z76 (z95 (cellsOf v)) (z76 (Nat.ble (fd.offset+ti.size) e.length) (z441 e fd.offset (cellsOf v) fun e'=>z373 T fs e' rest K)))
   |none=>False
  |none=>False
theorem z1013 {G : Ghost} {h : Nat → Option Obj} {fs : Array Field} {place : Nat → Option (Nat × Nat)} (hpl : ∀ i fd ti, fs[i]? = some fd → T fd.type = some ti → place i = some (fd.offset, ti.size)) : ∀ (parts : List (Nat × AC)) (vals : List (Nat × Value)) (e : List AC) (c : Array Value) (K : List AC → Prop),
  z373 T fs e parts K→parts.map Prod.fst=vals.map Prod.fst→(∀ (j:Nat) (p:Nat×AC) (q:Nat×Value),parts[j]?=some p→vals[j]?=some q→V G h none p.2 q.2)→VL G h none e c 0→c.size=e.length →
  ∃ e' c',K e'∧Instr.fill place c vals=some c'∧VL G h none e' c' 0∧c'.size=c.size∧e'.length=e.length:=by
 intro parts
 induction parts with
 |nil =>
  intro vals e c K hk hm hv hc hs
  cases vals with
  |nil=>exact ⟨e,c,hk,rfl,hc,rfl,rfl⟩
  |cons _ _=>simp at hm
 |cons p rest ih =>
  intro vals e c K hk hm hv hc hs
  obtain ⟨i,v⟩:=p
  cases vals with
  |nil=>simp at hm
  |cons q vals =>
   obtain ⟨i',u⟩:=q
   simp only [List.map_cons,List.cons.injEq] at hm
   obtain ⟨rfl,hm⟩:=hm
   simp only [z373] at hk
   split at hk
   ·rename_i fd hfd
    split at hk
    ·rename_i ti hti
     rw [z141] at hk
     obtain ⟨h1,hk⟩:=z32 hk
     obtain ⟨h2,hk⟩:=z32 hk
     obtain ⟨h0,hk⟩:=z32 hk
     rw [z209] at hk
     have h1:=Nat.eq_of_beq_eq_true h1
     have h0:=Nat.le_of_ble_eq_true h0
     have hvu:=hv 0 (i,v) (i,u) (by simp) (by simp)
     obtain ⟨h3,h4,_⟩:=z428 h2 hvu
     have hc':=VL_lay (base:=0) (off:=fd.offset) hc h4 h3 (by omega) (by omega)
     have hsl:(z257 e fd.offset (cellsOf v)).length=e.length:=z408 (by omega)
     obtain ⟨e',c',h5,h6,h7,h8,h9⟩:=ih vals _ _ K hk hm (fun j p q hp hq=>hv (j+1) p q (by simpa using hp) (by simpa using hq)) hc' (by rw [z345,hsl,hs])
     refine ⟨e',c',h5,?_,h7,by rw [h8,z345],by rw [h9,hsl]⟩
     simp only [Instr.fill,hpl i fd ti hfd hti]
     rw [if_neg (by simp [h3,h1];omega)]
     rw [z798]
     rw [Nat.zero_add] at h6
     exact h6
    ·exact hk.elim
   ·exact hk.elim
theorem z745 {fs:Array Field} : ∀ (ps:List (Nat×AC)) (e:List AC) (K1:List AC→Prop),z373 T fs e ps K1→∃ e',K1 e'∧∀ K2:List AC→Prop,K2 e'→z373 T fs e ps K2:=by
 intro ps
 induction ps with
 |nil=>intro e K1 hk;exact ⟨e,hk,fun K2 h2=>h2⟩
 |cons p ps ih =>
  intro e K1 hk
  obtain ⟨i,v⟩:=p
  simp only [z373] at hk ⊢
  split at hk
  ·rename_i fd hfd
   split at hk
   ·rename_i ti hti
    rw [z141] at hk
    obtain ⟨h1,hk⟩:=z32 hk
    obtain ⟨h2,hk⟩:=z32 hk
    obtain ⟨h0,hk⟩:=z32 hk
    rw [z209] at hk
    obtain ⟨e',h5,h6⟩:=ih _ _ hk
    refine ⟨e',h5,fun K2 hK2=>?_⟩
    rw [z141]
    exact z322 h1 (z322 h2 (z322 h0 (by rw [z209];exact h6 K2 hK2)))
   ·exact hk.elim
  ·exact hk.elim
def z334 (T:Tab):List Field→Bool
 |[]=>true
 |f::fs=>match T f.type with
  |some _=>z334 T fs
  |none=>false
def z841 (T:Tab) (i:TyI) (parts:List (Nat×AC)) (K:OpK):Prop:=match i.desc with
 |.struct fs=>z76 (z334 T fs.toList) (litK (z94 i.zero) fun z=>z373 T fs z parts fun e=>K (.agg e) [])
 |_=>False
theorem z879 (hT:z135 P T) {w:World} : ∀ (fs:List Field),z334 T fs=true→(fs.mapM fun f=>do pure (f.offset,← sizeOf f.type):Sem (List (Nat×Nat))).run P w=.ok (fs.map fun f=>(f.offset,((T f.type).map (·.size)).getD 0)) w:=by
 intro fs
 induction fs with
 |nil=>intro _;simp
 |cons f fs ih =>
  intro h
  simp only [z334] at h
  split at h
  ·rename_i ti hti
   rw [List.mapM_cons,Sem.run_bind,Sem.run_bind,(hT _ _ hti).size]
   simp only [Result.andThen,Sem.run_pure,Sem.run_bind]
   rw [ih h]
   simp [hti]
  ·cases h
theorem z1121 (hT : z135 P T) {t : TypeId} {i : TyI} {fs : Array Field} {parts : Array (Nat × Value)} {c : Array Value} {w : World} (ht : TyOk P t i) (hd : i.desc = .struct fs) (ha : z334 T fs.toList = true)
    (hf:Instr.fill (fun j=>(fs.toList.map fun f=>(f.offset,((T f.type).map (·.size)).getD 0)).toArray[j]?) i.zero.cells parts.toList=some c) :
    (Instr.build t parts).run P w=.ok (.agg c) w:=by
  simp only [Instr.build,Sem.run_bind,ht.zeroV,Result.andThen,ht.und,hd]
  rw [Array.mapM_eq_mapM_toList]
  have hm:=z879 hT (w:=w) fs.toList ha
  simp only [bind_pure_comp,Sem.run_map] at hm ⊢
  simp only [hm,Result.andThen]
  simp at hf
  simp [hf]
theorem z853 (hT:z135 P T) {t:TypeId} {i:TyI} {parts:Array (Nat×Operand)} (ht:TyOk P t i) (h:z841 T i (parts.toList.map fun p=>(p.1,st.ev p.2)) K):z108 P st ⟨dst,.build t parts,type,pos,after,guard⟩ K:=by
 unfold z841 at h
 split at h
 ·rename_i fs hd
  obtain ⟨ha,h⟩:=z32 h
  rw [z284] at h
  obtain ⟨e',h1,h2⟩:=z745 _ _ _ h
  refine z84 (fun ρ=>Instr.build t (parts.map fun p=>(p.1,ρ p.2))) (fun ρ=>by simp only [execOp]) h1 fun G a w hx=>?_
  have h3:=h2 (fun e=>e=e') rfl
  obtain ⟨e2, c, h4, h5, h6, h7, h8⟩ := z1013 (G := G) (h := hp w) (place := fun j => (fs.toList.map fun f => (f.offset, ((T f.type).map (·.size)).getD 0)).toArray[j]?) (fun j fd ti hfd hti => by
    have:fs.toList[j]?=some fd:=by simpa using hfd
    simp [this,hti]) _ (parts.map fun p=>(p.1,a.eval p.2)).toList _ i.zero.cells _ h3 (by simp) (fun j p q hp hq=>by
   rw [y48,Option.map_eq_some_iff] at hp
   obtain ⟨p0,hp0,rfl⟩:=hp
   rw [Array.toList_map,y48,hp0] at hq
   simp at hq
   subst hq
   exact hx p0.2 (by simp [Op.operands];exact ⟨p0.1,by simpa using List.mem_of_getElem? hp0⟩)) (z467 G _ _) (by simp [z94])
  subst h4
  refine ⟨_,z1121 hT ht hd ha h5,?_⟩
  simp only [V]
  exact ⟨c,rfl,by rw [h7,h8];simp [z94],h6⟩
 ·exact h.elim
theorem z259 {k:IntKind} {n:Int} {y:Nat} {code:BoundsCode} {w:World} (h0:0≤n) (h1:n≤y):(Instr.sliceBound (.int k n) y code).run P w=.ok n.toNat w:=by
 unfold Instr.sliceBound
 simp only [asIntOf,Sem.run_bind,Sem.run_pure,Result.andThen]
 rw [if_pos ⟨h0,h1⟩];rfl
end Go.Gl
