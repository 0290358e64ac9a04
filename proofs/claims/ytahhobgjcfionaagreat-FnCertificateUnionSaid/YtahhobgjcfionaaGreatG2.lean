/- A part of the proofs over this program: GlT, GlU, GlW, GlX, GlY, GlZ, GlZ1, GlAA, D1, GlRS, D3, D2, D4, D5, D6, D7, D8, D9, D10, D12, GlRT, GlRV, GlRW, GlRX, GlRY, D14, D17, D18, D13, D19, D20, D21, D22, D23, D24. -/
import Derived.Test.YtahhobgjcfionaaGreatG0
import Derived.Test.YtahhobgjcfionaaGreatG1
import Derived.Below
import Derived.ChangeSame
import Derived.ChangeArms
import Derived.WideKeyArgs
import Derived.OpenShut
import Derived.Sort.Grow
import Derived.Lib.SlicesCompact
set_option linter.all false
namespace Go.Gl
open Go.RowKit Go.WideShapes Go.ChangeShapes
variable {P:Program}
def z338 (w:Nat→Option Obj):Ghost:={ S:=w,U:=fun _=>none,ι:=fun _=>none,κ:=fun _=>none }
theorem Wf.start (W:World):Wf (z338 (hp W)) (z33 []) W where
 hS _ _ h:=h
 hU _ _ h:=by cases h
 su _ _ h:=by cases h
 sk _ _ h:=by cases h
 objs o:=by
  show ObjRel _ _ o (z33 [] o)
  have:z33 [] o=.fresh:=by simp [z33,z56]
  rw [this];rfl
def CellsV (h:Nat→Option Obj):List AC→List Value→Prop
 |[],[]=>True
 |x::xs,v::vs=>V (z338 h) h none x v∧CellsV h xs vs
 |_,_=>False
theorem CellsV.length {h:Nat→Option Obj} : {xs:List AC}→{vs:List Value}→CellsV h xs vs→xs.length=vs.length
 |[],[],_=>rfl
 |_::_,_::_,h=>by simp [h.2.length]
 |[],_::_,h=>h.elim
 |_::_,[],h=>h.elim
theorem CellsV.append {h:Nat→Option Obj} : {xs xs' : List AC}→{vs vs' : List Value}→CellsV h xs vs→CellsV h xs' vs'→CellsV h (xs++xs') (vs++vs')
 |[],_,[],_,_,k=>k
 |_::_,_,_::_,_,h,k=>⟨h.1,h.2.append k⟩
 |[],_,_::_,_,h,_=>h.elim
 |_::_,_,[],_,h,_=>h.elim
theorem CellsV.get {h:Nat→Option Obj} : {xs:List AC}→{vs:List Value}→CellsV h xs vs→∀ (j:Nat) (x:AC),xs[j]?=some x→∃ v,vs[j]?=some v∧V (z338 h) h none x v
 |[],_,_,j,x,e=>by cases e
 |x::xs,v::vs,k,0,y,e=>by cases e;exact ⟨v,rfl,k.1⟩
 |x::xs,v::vs,k,j+1,y,e=>by simpa using k.2.get j y (by simpa using e)
 |_::_,[],k,_,_,_=>k.elim
theorem CellsV.VL {h:Nat→Option Obj} {xs:List AC} {vs:List Value} (k:CellsV h xs vs) {c:Array Value} {off:Nat} (hc:∀ j,j < vs.length→c[off+j]?=vs[j]?):Go.Gl.VL (z338 h) h none xs c off:=by
 rw [z59]
 intro j x hx
 obtain ⟨v,hv,hV⟩:=k.get j x hx
 refine ⟨v,?_,by simpa [Loc.cell] using hV⟩
 have:j < vs.length:=by
  rcases y62 j vs.length with h|h
  ·exact h
  ·rw [y61 h] at hv;cases hv
 rw [hc j this,hv]
mutual
def AC.wt (x:AC):Nat:=match x with
 |.list _ _ es=>AC.wtLL es+1
 |.raw _=>1
 |.any=>1
 |.pt _=>1
 |.sref ..=>1
 |.ptr ..=>1
 |.mref _=>1
 |.own ..=>1
 |.fn ..=>1
 |.agg _=>1
 |.tup _=>1
termination_by structural x
def AC.wtL (xs:List AC):Nat:=match xs with
 |[]=>0
 |x::xs=>AC.wt x+AC.wtL xs
termination_by structural xs
def AC.wtLL (es:List (List AC)):Nat:=match es with
 |[]=>0
 |e::es=>AC.wtL e+AC.wtLL es
termination_by structural es
end
def z505 {H:Type} (b:DataW H→Nat):List (DataW H)→Nat
 |[]=>0
 |d::r=>b d+z505 b r
structure Bulk {H:Type} (b:DataW H→Nat):Prop where
 lit:∀ l,1≤b (.lit l)
 nil:1≤b .nil
 slice:∀ es sp,z505 b es+1≤b (.slice es sp)
 agg:∀ ps,z505 b ps≤b (.agg ps)
theorem z941 {H:Type} {b:DataW H→Nat} : (es:List (List AC))→(ds:List (DataW H))→(∀ (i:Nat) (e:List AC),es[i]?=some e→∃ d,ds[i]?=some d∧AC.wtL e≤b d)→AC.wtLL es≤z505 b ds
 |[],_,_=>y46 _
 |e::es,[],h=>by obtain ⟨d,hd,_⟩:=h 0 e rfl;cases hd
 |e::es,d::ds,h=>by
  obtain ⟨d',hd,h1⟩:=h 0 e rfl
  cases hd
  have:=z941 es ds fun i e' he=>h (i+1) e' (by simpa using he)
  simp only [AC.wtLL,z505]
  omega
def Opens (P:Program) (t:TypeId) (R:List AC→Prop) (k:Nat):Prop:=∀ (H:Type) (enc:TypeId×Value→H) (b:DataW H→Nat) (_:Bulk b) (W:World) (cs:List Value) (x:DataW H×List MemPlace),
 DataW.trod enc P W 0 (fun _=>true) true k t cs=some x→∃ xs,R xs∧CellsV (hp W) xs cs∧AC.wtL xs≤b x.1
theorem Opens.imp {t:TypeId} {R R' : List AC→Prop} {k:Nat} (h:Opens P t R k) (hi:∀ xs,R xs→R' xs):Opens P t R' k:=fun H enc b hB W cs x hx=>by
 obtain ⟨xs,h1,h2⟩:=h H enc b hB W cs x hx
 exact ⟨xs,hi _ h1,h2⟩
theorem z1003 {t:TypeId} {q:IntKind} (ht:P.underlying t=some (.int q)) (k:Nat):Opens P t (fun xs=>∃ n,xs=[.raw (.int q n)]∧(Lit.int q n).wf=true) k:=fun H enc b hB W cs x hx=>by
 cases k with
 |zero=>simp [DataW.trod] at hx
 |succ k =>
  unfold DataW.trod at hx
  rw [ht] at hx
  split at hx<;>simp_all
  next n _ =>
   obtain ⟨⟨rfl,h⟩,rfl⟩:=hx
   exact ⟨_,⟨_,rfl,h⟩,by simp [CellsV,V],by simpa [AC.wtL,AC.wt] using hB.lit _⟩
theorem z887 {t:TypeId} {R:List AC→Prop} : Opens P t R 0:=fun H enc b hB W cs x hx=>by simp [DataW.trod] at hx
theorem z504 {α:Type} {p:Nat→α→Prop} : ∀ (n:Nat),(∀ i,i < n→∃ a,p i a)→∃ l:List α,l.length=n∧∀ i a,l[i]?=some a→p i a
 |0,_=>⟨[],rfl,fun i a h=>by cases h⟩
 |n+1,h=>by
  obtain ⟨l,h1,h2⟩:=z504 n fun i hi=>h i (by omega)
  obtain ⟨a,ha⟩:=h n (by omega)
  refine ⟨l++[a],by simp [h1],fun i b hb=>?_⟩
  by_cases hi:i < l.length
  ·exact h2 i b (by rwa [y58 hi] at hb)
  ·rw [y59 (by omega)] at hb
   obtain rfl:i=n:=by
    have:=(List.getElem?_eq_some_iff.1 hb).1
    simp at this
    omega
   simp [h1] at hb
   exact hb ▸ ha
theorem z769 {t e : TypeId} {R : List AC → Prop} {n : Nat} (ht : P.underlying t = some (.slice e)) (hc : P.cellsOf e = n) (hn : 0 < n) {k : Nat} (h : Opens P e R k) :
    Opens P t (fun xs=>∃ es,xs=[.list n es.length es]∧es.length≤maxLen∧∀ y∈es,R y) (k+1):=fun H enc b hB W cs x hx=>by
  rcases DataW.trod_slice ht hx with ⟨rfl,rfl⟩|⟨a,len,cap,elems,rest,m,hm,rfl,rfl,hb,hl,hmx,hlen,hel,_,_⟩
  · refine ⟨_,⟨[],rfl,by simp [maxLen],fun y hy=>by cases hy⟩,⟨?_,trivial⟩,by simpa [AC.wtL,AC.wt,AC.wtLL] using hB.nil⟩
    simp only [V]
    exact ⟨none,0,rfl,y45 _,by simp,.inl (by simp)⟩
  · obtain rfl:k=m:=by omega
    have hcell:∀ (ad:Addr) v,W.cell? ad=some v→ad.spot=none∧∃ c el fz,W.heap[ad.block]?=some (.cells c el fz)∧c[ad.off]?=some v:=by
      intro ad v hv
      simp only [World.cell?] at hv
      split at hv
      · next c el fz hh =>
        cases hsp:ad.spot with
        | none=>exact ⟨rfl,c,el,fz,hh,by simpa [hsp] using hv⟩
        | some _=>simp [hsp] at hv
      · cases hv
    have elem:∀ i,i < len→∃ (cs:List Value) (y:List AC),R y∧CellsV (hp W) y cs∧(∃ d,(elems.map (·.1))[i]?=some d∧AC.wtL y≤b d)∧cs.length=n∧∀ j,j < n→W.cell? ((a.add (i * n)).add j)=cs[j]?:=by
      intro i hi
      have h1:=hel i hi
      rw [hc,y38 (by omega),Option.bind_eq_some_iff] at h1
      obtain ⟨cs,h2,h3⟩:=h1
      obtain ⟨y,hy,hcy,hwt⟩:=h H enc b hB W cs _ h3
      obtain ⟨_,hcl,hcg⟩:=World.cells?_some h2
      exact ⟨cs,y,hy,hcy,⟨_,by rw [y44,y38 (by omega)];rfl,hwt⟩,hcl,hcg⟩
    rcases Nat.eq_zero_or_pos len with rfl|hpos
    · refine ⟨_,⟨[],rfl,by simp [maxLen],fun y hy=>by cases hy⟩,⟨?_,trivial⟩,by
        have:=hB.slice (elems.map (·.1)) (rest.map (·.1))
        simp [AC.wtL,AC.wt,AC.wtLL]
        omega⟩
      simp only [V]
      exact ⟨some a,cap,rfl,y46 _,by simp,.inl (by simp)⟩
    · obtain ⟨hsp,c,el,fz,hblk⟩:a.spot=none∧∃ c el fz,W.heap[a.block]?=some (.cells c el fz):=by
        obtain ⟨cs,y,_,_,_,hcl,hcg⟩:=elem 0 hpos
        have:=hcg 0 hn
        rw [y38 (by omega)] at this
        obtain ⟨h1,c,el,fz,h2,_⟩:=hcell _ _ this
        exact ⟨by simpa [Addr.add] using h1,c,el,fz,by simpa [Addr.add] using h2⟩
      have hadd:∀ i j,((a.add i).add j)=⟨a.block,a.off+(i+j),none⟩:=by
        intro i j
        obtain ⟨b,o,sp⟩:=a
        simp only at hsp
        subst hsp
        simp only [Addr.add]
        split<;>split<;>simp_all [Nat.add_assoc]
      obtain ⟨es,hes,hget⟩:=z504 (p:=fun i y=>(R y∧∃ d,(elems.map (·.1))[i]?=some d∧AC.wtL y≤b d)∧y.length=n∧VL (z338 (hp W)) (hp W) none y c (a.off+i * n)) len (fun i hi=>by
        obtain ⟨cs,y,hy,hcy,hwt,hcl,hcg⟩:=elem i hi
        refine ⟨y,⟨hy,hwt⟩,by rw [hcy.length,hcl],hcy.VL fun j hj=>?_⟩
        have h1:=hcg j (by omega)
        rw [y38 hj] at h1 ⊢
        rw [hadd] at h1
        obtain ⟨_,c',_,_,h2,h3⟩:=hcell _ _ h1
        rw [hblk] at h2
        cases h2
        rw [← h3,Nat.add_assoc])
      refine ⟨_,⟨es,rfl,by omega,fun y hy=>?_⟩,⟨?_,trivial⟩,?_⟩
      · obtain ⟨i,hi⟩:=List.getElem?_of_mem hy
        exact (hget i y hi).1.1
      · simp only [V]
        obtain ⟨bk,o,sp⟩:=a
        simp only at hsp
        subst hsp
        refine ⟨some ⟨bk,o,none⟩,cap,by rw [hes],by omega,trivial,.inr ⟨bk,o,c,el,fz,rfl,hblk,?_⟩⟩
        rw [z63]
        exact fun i e he=>(hget i e he).2
      · have:=hB.slice (elems.map (·.1)) (rest.map (·.1))
        have:=z941 es (elems.map (·.1)) fun i e he=>(hget i e he).1.2
        simp [AC.wtL,AC.wt]
        omega
def ArgOk (P:Program) (t:TypeId) (R:AC→Nat→Prop):Prop:=∀ (H:Type) (enc:TypeId×Value→H) (b:DataW H→Nat) (_:Bulk b) (W:World) (r:_root_.Go.Reach) (b0:Nat) (v:Value) (d:DataW H) (ps:List MemPlace),
 Value.okWide P W r b0 t v→DataW.Trod enc P W 0 (fun _=>true) true t v d ps→∃ x m,R x m∧V (z338 (hp W)) (hp W) none x v∧m≤b d
theorem z805 {t e:TypeId} {R:List AC→Prop} (ht:P.underlying t=some (.slice e)) (h:∀ k,Opens P t R k):ArgOk P t fun x m=>R [x]∧m=AC.wt x:=fun H enc b hB W r b0 v d ps hv ⟨k,hk⟩=>by
 obtain ⟨a,len,cap,rfl⟩:=okWide_slice ht hv
 obtain ⟨xs,h1,h2,h3⟩:=h k H enc b hB W _ _ hk
 have hl:=h2.length
 match xs,hl with
 |[x],_=>exact ⟨x,_,⟨h1,rfl⟩,h2.1,by simpa [AC.wtL] using h3⟩
def ArgsOk (P:Program):List TypeId→(List AC→Nat→Prop)→Prop
 |[],R=>R [] 0
 |t::ts,R=>∃ R1 R2,ArgOk P t R1∧ArgsOk P ts R2∧∀ a m as n,R1 a m→R2 as n→R (a::as) (m+n)
theorem z416 {H : Type} {enc : TypeId × Value → H} {b : DataW H → Nat} (hB : Bulk b) {W : World} {r : _root_.Go.Reach} {b0 : Nat} : (ts : List TypeId) → (vs : List Value) → (ds : List (DataW H)) → (ps : List MemPlace) → (R : List AC → Nat → Prop) → ArgsOk P ts R → 
  (∀ (j:Nat) t v,ts[j]?=some t→vs[j]?=some v→Value.okWide P W r b0 t v)→DataW.TrodAll enc P W 0 (fun _=>true) true ts vs ds ps→∃ xs m,R xs m∧CellsV (hp W) xs vs∧m≤z505 b ds
 |[],[],[],_,R,h,_,_=>⟨[],0,h,trivial,y46 _⟩
 |t::ts,v::vs,d::ds,_,R,⟨R1,R2,h1,h2,h3⟩,hv,⟨p,q,h4,h5,_⟩=>by
  obtain ⟨x,m,hx,hV,hm⟩:=h1 H enc b hB W r b0 v d p (hv 0 t v rfl rfl) h4
  obtain ⟨xs,n,hxs,hVs,hn⟩:=z416 hB ts vs ds q R2 h2 (fun j t' v' e e'=>hv (j+1) t' v' (by simpa using e) (by simpa using e')) h5
  exact ⟨x::xs,m+n,h3 x m xs n hx hxs,⟨hV,hVs⟩,by simp only [z505];omega⟩
end Go.Gl
namespace Go.Gl
open Go.RowKit Go.WideShapes Go.ChangeShapes
variable {P:Program}
theorem below_of {G' : Ghost} {W W' : World} {o:Nat→AObj} (hle:Le W W') (hs:(z338 (hp W)).Sub G') (hw:Wf G' o W'):Below W.heap.size W W' where
 os:=hle.os
 tape:=hle.tape
 output:=hle.output
 size:=hle.size
 block k hk:=by
  have h1:(z338 (hp W)).S k=some W.heap[k]:=by show W.heap[k]?=_;rw [Array.getElem?_eq_getElem hk]
  rw [hw.hS k _ (hs.S k _ h1),Array.getElem?_eq_getElem hk]
theorem z335 {H : Type} {enc : TypeId × Value → H} {W W' : World} (hl : laidOutB P = true) (hb : Below W.heap.size W W') {sp : Nat → Bool} : (ts : List TypeId) → (vs : List Value) → (ds : List (DataW H)) → (ps : List MemPlace) →
  (∀ t∈ts,P.readableRec t=true∧t < P.types.size)→(∀ p∈ps,p.block < W.heap.size)→(∀ p∈ps,sp p.block=true) →
  DataW.TrodAll enc P W 0 (fun _=>true) true ts vs ds ps→DataW.TrodAll enc P W' 0 sp true ts vs ds ps
 |[],[],[],_,_,_,_,h=>h
 |t::ts,v::vs,d::ds,_,ht,hlt,hs,⟨p,q,h1,h2,e⟩=>by
  subst e
  exact ⟨p,q,WideElems.Trod_stays hl (ht t (by simp)).1 (ht t (by simp)).2 h1 (fun x hx=>hb.same (hlt x (by simp [hx]))) (fun x hx=>hs x (by simp [hx])),
   z335 hl hb ts vs ds q (fun t h=>ht t (by simp [h])) (fun x hx=>hlt x (by simp [hx])) (fun x hx=>hs x (by simp [hx])) h2,rfl⟩
theorem post_of_below' {H : Type} {enc : TypeId × Value → H} {f : Func} {s : ChangeSpec} {apart fresh handsOn z86 : Bool} {W W' : World} {args : Array Value} {v : Value} {ds gs : List (DataW H)} {before pa pv : List MemPlace}
    (hW:DataW.Whole enc P f.params.toList s.vars apart W args.toList ds gs before)
    (hres:∀ (b:Nat) (sp:Nat→Bool) (hd:Bool),DataW.TrodAll enc P W' b sp hd f.resultTypes.toList (v.resultList f.resultTypes.size) (s.fn H (ds++gs)).results [])
    (hargs:∀ sp:Nat→Bool,(∀ p∈before,sp p.block=true)→DataW.TrodAll enc P W' 0 sp true f.params.toList args.toList (s.fn H (ds++gs)).args pa)
    (hvars:∀ sp:Nat→Bool,(∀ p∈before,sp p.block=true)→DataW.TrodVars enc P W' sp s.vars (s.fn H (ds++gs)).vars pv)
    (hps:before=pa++pv) (hb:Below W.heap.size W W')
    (hok:∀ (j:Nat) (t:TypeId) (r:Value),f.resultTypes[j]?=some t→(v.resultList f.resultTypes.size)[j]?=some r→Value.okWide P W' .any 0 t r) :
    s.post enc P f apart fresh handsOn z86 W args v W':=by
  have hlt:∀ p∈before,p.block < W.heap.size:=fun p hp=>hW.lt p hp
  have hold:∀ p∈before,(fun b=>decide (b < W.heap.size)) p.block=true:=fun p hp=>by simpa using hlt p hp
  refine ⟨ds,gs,before,[],pa,pv,hW,hres _ _ _,hargs _ hold,hvars _ hold,World.keptBut_mono (fun p hp=>⟨hp,?_⟩) (hb.frame (·∈before)),fun _=>?_⟩
  · rw [hps,y47] at hp
    exact Or.inr hp
  · obtain ⟨_,_,_,_,_,hz,hn⟩:=hW
    refine ⟨hok,_,_,([]++pa)++pv,⟨[]++pa,pv,trodAll_append (hargs _ (fun _ _=>rfl)) (hres _ _ _),hvars _ (fun _ _=>rfl),rfl,?_,?_⟩,?_⟩
    · intro b off hp
      have hin:MemPlace.cell b off∈before:=by rw [hps];simpa using hp
      rw [hb.frozen (hlt _ hin)]
      exact hz b off hin
    · intro ha
      have:=hn ha
      rw [hps] at this
      simpa using this
    · intro p hp _
      rw [hps]
      simpa using hp
theorem law_post {H : Type} {enc : TypeId × Value → H} {f : FuncId} {fn : Func} {s : ChangeSpec} {W : World} {args : Array Value} {ds gs : List (DataW H)} {before : List MemPlace} {R : List AC → Nat → Prop} {tb : TypeId} {r : _root_.Go.Reach} {b0 : Nat} {apart fresh handsOn z86 : Bool}
    {b:DataW H→Nat} (hB:Bulk b) (hl:laidOutB P=true) (hts:∀ t∈fn.params.toList,P.readableRec t=true∧t < P.types.size)
    (hvars:s.vars=[]) (hsp:∀ ds:List (DataW H),ds.length=fn.params.size→s.fn H ds={ results:=[.lit (.bool true)],args:=ds }) (hres:fn.resultTypes=#[tb]) (hbool:P.underlying tb=some .bool)
    (hargs:ArgsOk P fn.params.toList R) (hC:∀ xs m,R xs m→m≤z505 b ds→CallsA P f xs [] (.bool true) [])
    (hval:∀ (j:Nat) t v,fn.params[j]?=some t→args[j]?=some v→Value.okWide P W r b0 t v)
    (hW:DataW.Whole enc P fn.params.toList s.vars apart W args.toList ds gs before) :
    Calls P f args W fun e W'=>∃ v,e=.returned v∧s.post enc P fn apart fresh handsOn z86 W args v W':=by
  have hW0:=hW
  obtain ⟨p,q,hA,hV,rfl,hz,hn⟩:=hW
  rw [hvars] at hV
  obtain ⟨rfl,rfl⟩:gs=[]∧q=[]:=by
    cases gs with
    | nil=>exact ⟨rfl,hV⟩
    | cons _ _=>exact hV.elim
  obtain ⟨xs,m,hR,hcs,hm⟩:=z416 hB _ _ _ _ _ hargs (fun j t v e e'=>hval j t v (by simpa using e) (by simpa using e')) hA
  have hlen:ds.length=fn.params.size:=by
    have:∀ (ts:List TypeId) (vs:List Value) (ds:List (DataW H)) (ps:List MemPlace),DataW.TrodAll enc P W 0 (fun _=>true) true ts vs ds ps→ds.length=ts.length:=by
      intro ts
      induction ts with
      | nil=>intro vs ds ps h;rw [(trodAll_nil h).2.1];rfl
      | cons t ts ih =>
        intro vs ds ps h
        obtain ⟨v,vs1,d,ds1,a,b,rfl,rfl,rfl,h1,h2⟩:=trodAll_cons h
        simp [ih _ _ _ h2]
    simpa using this _ _ _ _ hA
  have hsp':=hsp (ds++[]) (by simpa using hlen)
  obtain ⟨_,hcall⟩:=hC xs m hR hm
  refine (hcall (z338 (hp W)) W args (Wf.start W) (by simpa using hcs.length.symm) (hcs.VL fun j _=>by simp)).mono fun e W' ⟨G',v,he,hs,_,hle,hw,hv⟩=>?_
  subst he
  have hv:v=.bool true:=by simpa [V] using hv
  subst hv
  have hb:=below_of hle hs hw
  refine ⟨_,rfl,post_of_below' (pa:=p) (pv:=[]) hW0 (fun _ _ _=>?_) (fun sp hsp=>?_) (fun sp _=>?_) rfl hb (ok_one hres rfl (okWide_bool_mk hbool _))⟩
  · rw [hsp',hres]
    exact trodAll_mk1 (shut_bool hbool _)
  · rw [hsp']
    simp only [y57] at hsp ⊢
    exact z335 hl hb _ _ _ _ hts (fun x hx=>hW0.lt x (by simp [hx])) hsp hA
  · rw [hsp',hvars]
    rfl
theorem z319 {α:Type} {f:α→List AC} (h:∀ a,∀ x∈f a,x.unown=x) (l:List α):z67 (l.map f)=l.map f :=
 z646 fun e he x hx=>by
  obtain ⟨a,_,rfl⟩:=List.mem_map.1 he
  exact h a x hx
theorem bor_seal {objs:Nat→AObj} {π Bn:List Nat} {o w len:Nat} {es L:List (List AC)} (ho:objs o=.cells w es) (h1:idx π o=none) (h2:inB Bn o=true) (he:es=L) (hu:z67 L=L) (hl:L.length=len):bor objs π Bn (.sref o 0 len)=.list w len L:=by
 subst he
 rw [z301 ho h1 h2 hl,hu]
end Go.Gl
namespace Go.Gl
variable {P:Program}
theorem z93 {b:Bool} {A B:Prop} (h1:b=false→A) (h2:b=true→B):vcIf (!b) A B:=by
 cases b
 ·exact h1 rfl
 ·exact h2 rfl
theorem z53 {m:Nat} {st:St} {res r:AC} (hm:z225 m 0 []=true) (hu:res.under 0=true) (h:r=res):z36 m st res [] r :=
 ⟨[],List.nodup_nil,hm,hu,y3 (by rw [z219 res hu,h]),trivial⟩
theorem z828 {m:Nat} {st:St} {res r:AC} (hm:z225 m 0 []=true) (hu:res.under 0=true) (h:ACle r res):z36 m st res [] r :=
 ⟨[],List.nodup_nil,hm,hu,by rw [z219 res hu];exact h,trivial⟩
theorem z29 {m:Nat} {st:St} {b c:Bool} (hm:z225 m 0 []=true) (h:c=b):z36 m st (.raw (.bool c)) [] (.raw (.bool b)):=z53 hm rfl (by rw [h])
theorem z588 {m:Nat} {st:St} {b c:Int} (hm:z225 m 0 []=true) (h:c=b):z36 m st (.raw (.int .i64 c)) [] (.raw (.int .i64 b)):=z53 hm rfl (by rw [h])
theorem z115 {m:Nat} {st:St} {res r:AC} {objs' : List AObj} (π:List Nat) (h1:π.Nodup) (h2:z225 m 0 π=true) (h3:res.under π.length=true) (h4:r=res.ren (z56 0 π)) (h5:z478 (fun o x=>z140 π.length x∧st.objs o=z103 (z56 0 π) x) 0 π objs'):z36 m st res objs' r :=
 ⟨π,h1,h2,h3,y3 h4,h5⟩
theorem z30 {M w:Nat} {r:Nat→Nat} {x:AObj} {e:List AC} (h:z117 M e=true) (hx:x=.cells w [renL r e]):z140 M (.cells w [e])∧x=z103 r (.cells w [e]) :=
 ⟨fun y hy=>by rw [List.mem_singleton.1 hy];exact h,by rw [hx];rfl⟩
def idxS {α σ:Type} (p:α→σ→Bool) (nx:α→σ→σ) (l:List α) (s:σ) (k:Nat):Int×σ:=match l with
 |[]=>(-1,s)
 |x::r=>if p x s then (k,nx x s) else idxS p nx r (nx x s) (k+1)
def z44 {α:Type} (I:α→List (Nat×AC)×List AObj) (ok:α→Prop) (μ:α→Nat) (x:α) (m n:Nat) (st:St):Prop:=∃ y π,ok y∧μ y < μ x∧PickL π m n st (I y).1 (I y).2
theorem z86 {α:Type} {I:α→List (Nat×AC)×List AObj} {ok:α→Prop} {μ:α→Nat} {x:α} {m n:Nat} {st:St} (y:α) (π:List Nat) (h1:ok y) (h2:μ y < μ x) (h3:PickL π m n st (I y).1 (I y).2):z44 I ok μ x m n st:=⟨y,π,h1,h2,h3⟩
theorem z97 {α : Type} {m n : Nat} {env : List (Nat × AC)} {objs : List AObj} {body : Code} {Q : Exit → St → Prop} (I : α → List (Nat × AC) × List AObj) (ok : α → Prop) (μ : α → Nat) (x0 : α) (h0 : ok x0) (hinit : ∃ π, PickL π m n (mkSt n env objs) (I x0).1 (I x0).2)
    (round:∀ x,ok x→AWP P m body (z453 (fun st'=>z44 I ok μ x m n st') Q) (mkSt n (I x).1 (I x).2)):AWP P m (.loop body) Q (mkSt n env objs) :=
  z859 I ok μ x0 h0 hinit round
theorem z8 {α:Type} {f:α→List AC} {l:List α} {i:Nat} {K:List AC→Prop} (h:i < l.length) (k:∀ h:i < l.length,K (f (l[i]'h))):∃ e,(l.map f)[(i:Int).toNat]?=some e∧K e:=⟨_,z483 _ _ _ h,k h⟩
theorem z128 {α:Type} {a:α} {K:α→Prop} (k:K a):∃ e,some a=some e∧K e:=⟨a,rfl,k⟩
theorem z146 {α:Type} (p:α→Bool) (l:List α) (k:Nat) (h:k < l.length):(l.drop k).all p=(p l[k] && (l.drop (k+1)).all p):=by
 rw [y71 h,List.all_cons]
theorem z138 {α:Type} (p:α→Bool) (l:List α) (k:Nat) (h:l.length≤k):(l.drop k).all p=true:=by
 rw [y75 h];rfl
theorem z850 {α:Type} (p:α→Bool) (l:List α) (k:Nat) (h:k < l.length):(l.drop k).any p=(p l[k] || (l.drop (k+1)).any p):=by
 rw [y71 h,List.any_cons]
theorem z705 {α:Type} (p:α→Bool) (l:List α) (k:Nat) (h:l.length≤k):(l.drop k).any p=false:=by
 rw [y75 h];rfl
theorem z788 {α:Type} {f:α→List AC} {l:List α} {i:Nat} {K:List AC→Prop} (h:i < l.length) (k:∀ h:i < l.length,K (f (l[i]'h))):∃ e,(l.map f)[i]?=some e∧K e:=⟨_,z483 _ _ _ h,k h⟩
theorem z854 {P:Program} {st:St} {K:OpK} {f:FuncId} {first caps args args0:List AC} {res:AC} (Bn:List Nat) (h:CallsA P f args0 [] res []) (hb:borL st.objs [] Bn (first++(args++caps))=args0) (hu:res.under 0=true) (hpl:res.plain=true) (hn:z187 Bn=true) (k:z356 res fun r=>K r (Bn.map st.rd)):z19 P st (.fn (.func f) first caps) args K:=by
 refine z713 [] Bn h hb rfl (by simp) hu (by simp) (.inr ⟨hpl,by simp⟩) (y45 _) ?_
 rw [z98]
 show z66 (z187 ([]++[]++Bn)) _
 rw [List.nil_append,List.nil_append,hn]
 show renK _ _ _
 rw [z470]
 rw [z119] at k
 show K (res.ren (z56 0 [])) _
 rw [z219 res hu]
 exact k
def z727 (M:Nat) (r:Nat→Nat) (x y:AObj):Prop:=z234 M x∧z103 r x=y
theorem z21 {M w:Nat} {r:Nat→Nat} {es:List (List AC)} (h:Flat es):z727 M r (.cells w es) (.cells w es) :=
 ⟨fun e he=>z325 (h e he) M,h.ren r⟩
theorem z46 {M w:Nat} {r:Nat→Nat} {e e' : List AC} (h:z117 M e=true) (he:renL r e=e'):z727 M r (.cells w [e]) (.cells w [e']) :=
 ⟨fun x hx=>by rw [List.mem_singleton.1 hx];exact h,by simp [z103,he]⟩
theorem z589 {M:Nat} {r:Nat→Nat} : z727 M r .dead .dead:=⟨trivial,rfl⟩
def ObjsRen (M:Nat) (r:Nat→Nat):List AObj→List AObj→Prop
 |[],ys=>ys=[]
 |x::xs,ys=>∃ y zs,ys=y::zs∧z727 M r x y∧ObjsRen M r xs zs
theorem z15 {M:Nat} {r:Nat→Nat} : ObjsRen M r [] []:=rfl
theorem z14 {M:Nat} {r:Nat→Nat} {x y:AObj} {xs ys:List AObj} (h:z727 M r x y) (k:ObjsRen M r xs ys):ObjsRen M r (x::xs) (y::ys):=⟨y,ys,rfl,h,k⟩
theorem ObjsRen.spec {M:Nat} {r:Nat→Nat} : ∀ {xs ys:List AObj},ObjsRen M r xs ys→(∀ x∈xs,z234 M x)∧xs.map (z103 r)=ys:=by
 intro xs
 induction xs with
 |nil=>intro ys h;cases h;exact ⟨by simp,rfl⟩
 |cons x xs ih =>
  rintro ys ⟨y,zs,rfl,⟨h1,h2⟩,h3⟩
  obtain ⟨h4,h5⟩:=ih h3
  refine ⟨fun z hz=>?_,by rw [List.map_cons,h2,h5]⟩
  rcases List.mem_cons.1 hz with rfl|hz
  ·exact h1
  ·exact h4 z hz
theorem z82 {objs:Nat→AObj} {π Bn:List Nat} {o w:Nat} {es:List (List AC)} (ho:objs o=.cells w es) (h:Flat es):z70 objs π Bn o=.cells w es:=by
 simp only [z70,ho,AObj.cells.injEq,true_and]
 conv=>rhs;rw [← List.map_id es]
 refine List.map_congr_left fun e he=>?_
 conv=>rhs;rw [id,← List.map_id e]
 refine List.map_congr_left fun x hx=>?_
 have:=z224.1 (h e he) x hx
 cases x<;>first|rfl|simp [AC.flat] at this
def PassOk (objs:Nat→AObj) (π Bn:List Nat):List Nat→List AObj→Prop
 |[],ys=>ys=[]
 |o::os,ys=>∃ y zs,ys=y::zs∧z70 objs π Bn o=y∧PassOk objs π Bn os zs
theorem z55 {objs:Nat→AObj} {π Bn:List Nat} : PassOk objs π Bn [] []:=rfl
theorem z71 {objs:Nat→AObj} {π Bn:List Nat} {o:Nat} {os:List Nat} {y:AObj} {ys:List AObj} (h:z70 objs π Bn o=y) (k:PassOk objs π Bn os ys):PassOk objs π Bn (o::os) (y::ys):=⟨y,ys,rfl,h,k⟩
theorem PassOk.spec {objs:Nat→AObj} {π Bn:List Nat} : ∀ {os:List Nat} {ys:List AObj},PassOk objs π Bn os ys→os.map (z70 objs π Bn)=ys:=by
 intro os
 induction os with
 |nil=>intro ys h;cases h;rfl
 |cons o os ih =>
  rintro ys ⟨y,zs,rfl,h1,h2⟩
  rw [List.map_cons,h1,ih h2]
def PlainObjs:List AObj→Prop
 |[]=>True
 |x::xs=>z292 x∧PlainObjs xs
theorem PlainObjs.spec:∀ {xs:List AObj},PlainObjs xs→∀ x∈xs,z292 x:=by
 intro xs
 induction xs with
 |nil=>intro _ x hx;cases hx
 |cons y xs ih =>
  intro h x hx
  rcases List.mem_cons.1 hx with rfl|hx
  ·exact h.1
  ·exact ih h.2 x hx
theorem z185 {α:Type} {f:α→List AC} (h:∀ a,z172 (f a)=true) (l:List α):z208 (l.map f)=true:=by
 induction l with
 |nil=>rfl
 |cons a l ih=>simp only [List.map_cons,z208,h a,ih]
def allN (p:Nat→Bool):List Nat→Bool
 |[]=>true
 |x::xs=>match p x with
  |true=>allN p xs
  |false=>false
theorem z231 {p:Nat→Bool} {l:List Nat} (h:allN p l=true):∀ x∈l,p x=true:=by
 induction l with
 |nil=>intro x hx;cases hx
 |cons y l ih =>
  intro x hx
  simp only [allN] at h
  split at h
  ·rename_i hy
   rcases List.mem_cons.1 hx with rfl|hx
   ·exact hy
   ·exact ih h x hx
  ·cases h
theorem z132 {st : St} {K : OpK} {f : FuncId} {first caps args args0 : List AC} {objs0 objs1 objs1' : List AObj} {res : AC} (π Bn ν : List Nat) (h : CallsA P f args0 objs0 res objs1) (hb : borL st.objs π Bn (first ++ (args ++ caps)) = args0) (hp : PassOk st.objs π Bn π objs0)
    (hc:allN (fun o=>z144 (st.objs o)) π=true) (hf:allN (fun o=>z322 (st.objs o)) ν=true) (hn:z187 (π++ν++Bn)=true) (hl:Nat.beq objs1.length (π++ν).length=true) (hu:res.under objs1.length=true)
    (ho:ObjsRen objs1.length (z56 0 (π++ν)) objs1 objs1') (hpl:Bn=[]∨(res.plain=true∧PlainObjs objs1))
    (k:renK (z56 0 (π++ν)) res fun res1=>K res1 (z166 st (π++ν) objs1'++Bn.map st.rd)):z19 P st (.fn (.func f) first caps) args K:=by
  rw [z470] at k
  obtain ⟨h1,h2⟩:=ho.spec
  exact ⟨⟨π,Bn,ν,args0,objs0,res,objs1,res.ren (z56 0 (π++ν)),objs1'⟩,⟨h,hb,hp.spec,z157 hn,z231 hc,z231 hf,Nat.eq_of_beq_eq_true hl,rfl,h2,hu,h1,hpl.imp id fun h=>⟨h.1,h.2.spec⟩⟩,k⟩
end Go.Gl
namespace Go.Gl
variable {P:Program} {G:Ghost} {objs:Nat→AObj} {w:World} {π Bn:List Nat}
theorem z341 (hW0 : Wf G objs w) (hn : π.Nodup) (hd : ∀ o ∈ π, o ∉ Bn) (ha : ∀ o ∈ π, z144 (objs o) = true) :
    Wf (G.seal_ (hp w) π Bn) (z33 (π.map (z70 objs π Bn))) w∧G.Sub (G.seal_ (hp w) π Bn)∧(∀ o i t,idx π o=some i→G.ι o=some t→(G.seal_ (hp w) π Bn).ι i=some t) ∧
      ∀ x v,V G (hp w) none x v→V (G.seal_ (hp w) π Bn) (hp w) none (bor objs π Bn x) v:=by
  have hW:=z1092 (Bn:=Bn) hW0 hn hd ha
  have hbor:=z366 (π:=π) (Bn:=Bn) hW0
  refine ⟨⟨hW.hS,hW0.hU,fun b x hu=>?_,fun b p hk=>?_,fun o=>?_⟩,⟨fun b x e=>hbor.S b x e,rfl⟩,fun o i t hi e=>sub_ι (w:=w) (Bn:=Bn) hi e,fun x v hv=>?_⟩
  · have hu:G.U b=some x:=hu
    cases hkb:G.κ b with
    | none=>show (G.sub (hp w) π Bn).S b=none;simp [Ghost.sub,hkb];exact hW0.su b x hu
    | some p=>have:=(hW0.sk b p hkb).2.1;rw [hu] at this;cases this
  · have hk' : (G.sub (hp w) π Bn).κ b=some p:=hk
    obtain ⟨h1,_,h3⟩:=hW.sk b p hk'
    refine ⟨h1,?_,h3⟩
    show G.U b=none
    cases hkb:G.κ b with
    | none=>simp [Ghost.sub,hkb] at hk'
    | some q=>exact (hW0.sk b q hkb).2.1
  · exact z186 (G:=G.sub (hp w) π Bn) (h:=hp w) (fun _ _ e=>e) (fun _ _ e=>e) rfl (fun b p _ hk=>⟨hk,rfl⟩) (hW.objs o)
  · exact z110 (G:=G.sub (hp w) π Bn) (G':=G.seal_ (hp w) π Bn) (fun _ _ e=>e) (fun _ _ e=>e) (V_bor _ hbor _ hv)
theorem CallsA.lend {f : FuncId} {args : List AC} {objs objs1 objs2 : List AObj} {res res2 : AC} (h : CallsA P f args objs res objs1) (π Bn : List Nat) (hn : z187 (π ++ Bn) = true) (ha : allN (fun o => z144 (z33 objs1 o)) π = true)
    (hf:z225 objs.length 0 π=true) (hr:bor (z33 objs1) π Bn res=res2) (hp' : PassOk (z33 objs1) π Bn π objs2):CallsA P f args objs res2 objs2:=by
  refine ⟨h.1,fun G w vs hW hs hv=>(h.2 G w vs hW hs hv).mono ?_⟩
  rintro e w' ⟨G',v,rfl,h1,h2,h3,h4,h5⟩
  have hnd:=z157 hn
  obtain ⟨k1,k2,k3,k4⟩:=z341 (π:=π) (Bn:=Bn) h4 (List.nodup_append.1 hnd).1 (fun o ho hb=>(List.nodup_append.1 hnd).2.2 o ho o hb rfl) (z231 ha)
  refine ⟨_,v,rfl,h1.trans k2,fun o t ho e=>?_,h3,by rw [← hp'.spec];exact k1,by rw [← hr];exact k4 _ _ h5⟩
  have:=z137 objs.length 0 π hf o ho
  rw [Nat.zero_add] at this
  exact k3 o o t (z188 (List.nodup_append.1 hnd).1 this) (h2 o t ho e)
theorem CallsA.keep {f:FuncId} {args:List AC} {w n:Nat} {es:List (List AC)} (h:CallsA P f args [] (.sref 0 0 n) [.cells w es]) (hu:z67 es=es) (hl:es.length=n):CallsA P f args [] (.list w n es) [] :=
 h.lend [] [0] rfl rfl rfl (bor_seal rfl rfl rfl rfl hu hl) z55
theorem get_fill {α:Type} {f:α→List AC} {l:List α} {z:List AC} {k:Nat} {K:List AC→Prop} (h:k < l.length) (kk:K z):∃ e,((l.take k).map f++List.replicate (l.length - k) z)[(k:Int).toNat+0]?=some e∧K e :=
 ⟨z,fill_get _ _ _ _ h,kk⟩
theorem obj_fill {α : Type} {M w : Nat} {r : Nat → Nat} {f : α → List AC} {l : List α} {z e : List AC} {k j : Nat} {x : AObj} (hk : k < l.length) (hx : x = .cells w (((l.take k).map f ++ List.replicate (l.length - k) z).set j e)) (hj : j = k) (he : e = f l[k]) (hf : ∀ a, z326 (f a) = true) (hz : z326 z = true) :
    z140 M (.cells w ((l.take (k+1)).map f++List.replicate (l.length - (k+1)) z))∧x=z103 r (.cells w ((l.take (k+1)).map f++List.replicate (l.length - (k+1)) z)):=by
  subst hj he
  exact z35 (by rw [hx,fill_set _ _ _ _ hk]) (z92 (z4 hf) (z64 hz))
theorem fill_end {α:Type} (f:α→List AC) (l:List α) (z:List AC) (k:Nat) (h:k=l.length):(l.take k).map f++List.replicate (l.length - k) z=l.map f:=by
 subst h;simp
theorem obj_app {α : Type} {M w : Nat} {r : Nat → Nat} {f : α → List AC} {l : List α} {e : List AC} {k : Nat} {x : AObj} (hk : k < l.length) (n : Nat) (hx : x = .cells w (((l.take k).map f).take n ++ [e])) (hn : n = k) (he : e = f l[k]) (hf : ∀ a, z326 (f a) = true) :
    z140 M (.cells w ((l.take (k+1)).map f))∧x=z103 r (.cells w ((l.take (k+1)).map f)):=by
  subst hn he
  refine z35 ?_ (z4 hf)
  rw [hx,y43 hk,y56,y50 (by simp;omega)]
  rfl
theorem z469 {m:Nat} {st:St} {o n w:Nat} {es es' : List (List AC)} (hm:z225 m 0 [o]=true) (hf:Flat es) (ho:st.objs o=.cells w es') (he:es'=es):z36 m st (.sref 0 0 n) [.cells w es] (.sref o 0 n) :=
 ⟨[o],by simp,hm,rfl,ACle.refl _,⟨z35 (by rw [ho,he]) hf,trivial⟩⟩
theorem z160 {α:Type} (f:α→Value) (l:List α):z67 (l.map fun a=>[AC.raw (f a)])=l.map fun a=>[AC.raw (f a)] :=
 z319 (fun a x hx=>by cases hx with|head=>rfl|tail _ h=>cases h) l
end Go.Gl
namespace Go.Gl
variable {P:Program}
noncomputable def Ghost.expose (G:Ghost) (q b0 size wd2:Nat):Ghost:={ G with κ:=fun b=>if b=b0 then some (q,[]) else G.κ b,ι:=fun o=>if o=q then some (b0,size,wd2) else G.ι o }
def z892:List AC→Bool
 |[]=>true
 |x::xs=>match x.flat && !x.isOwn with
  |true=>z892 xs
  |false=>false
theorem z678 {xs:List AC} : z892 xs=true↔∀ x∈xs,x.flat=true∧x.isOwn=false:=by
 induction xs with
 |nil=>simp [z892]
 |cons x xs ih =>
  simp only [z892]
  cases h:(x.flat && !x.isOwn)<;>simp_all
def Leaf (es:List (List AC)):Prop:=∀ e∈es,z892 e=true
theorem Leaf.flat {es:List (List AC)} (h:Leaf es):Flat es:=fun e he=>z224.2 fun x hx=>(z678.1 (h e he) x hx).1
theorem z239 {α:Type} {f:α→List AC} (h:∀ a,z892 (f a)=true) (l:List α):Leaf (l.map f):=by
 intro x hx
 obtain ⟨a,_,rfl⟩:=List.mem_map.1 hx
 exact h a
theorem VLL_leaf {G G' : Ghost} {h:Nat→Option Obj} {l l' : Loc} {w:Nat} {es:List (List AC)} {c:Array Value} {off:Nat} (hf:Leaf es) (hS:∀ b x,G.S b=some x→G'.S b=some x) (hc:VLL G.bare h l w es c off):VLL G' h l' w es c off:=by
 rw [z63] at hc ⊢
 intro i e he
 obtain ⟨h1,h2⟩:=hc i e he
 refine ⟨h1,?_⟩
 rw [z59] at h2 ⊢
 intro j x hx
 obtain ⟨v,hv1,hv2⟩:=h2 j x hx
 have:=(z678.1 (hf e (List.mem_of_getElem? he)) x (List.mem_of_getElem? hx)).2
 exact ⟨v,hv1,V_at (z110 (G:=G.bare) (G':=G') hS (fun _ _ e=>by cases e) (z1094 this hv2))⟩
theorem Wf.expose {G : Ghost} {objs : Nat → AObj} {w : World} (hW : Wf G objs w) {o q k j wd wd2 : Nat} {es es2 : List (List AC)} {e : List AC} (ho : objs o = .cells wd es) (he : es[k]? = some e) (hj : e[j]? = some (.own wd2 es2)) (hq : objs q = .fresh) (hfl : Leaf es2) :
    ∃ G',(∀ b x,G.S b=some x→G'.S b=some x)∧G'.U=G.U∧(∀ o t,G.ι o=some t→G'.ι o=some t)∧Wf G' (upd (upd objs o (.cells wd (es.set k (e.set j (.sref q 0 es2.length))))) q (.cells wd2 es2)) w:=by
  have hoq:o≠q:=by rintro rfl;rw [ho] at hq;cases hq
  obtain ⟨b,c,el,hι,hκ,hb,hc⟩:=hW.obj ho he
  have hιq:G.ι q=none:=by have:=hW.objs q;rw [hq] at this;exact this
  have hkl:k < es.length:=(List.getElem?_eq_some_iff.1 he).1
  have hjl:j < e.length:=(List.getElem?_eq_some_iff.1 hj).1
  rw [z63] at hc
  obtain ⟨hek,hcv⟩:=hc k e he
  rw [z59] at hcv
  obtain ⟨v0,hv0,hv0'⟩:=hcv j _ hj
  simp only [V,Loc.cell,Option.map_some] at hv0'
  obtain ⟨a,cap,rfl,hcap,hown⟩:=hv0'
  rcases hown with ⟨hes,hcap0⟩|⟨b0,c0,el0,p,ha,hp,hκ0,hb0,hsz,hc0⟩
  · -- no block
    subst hes hcap0
    refine ⟨G,fun _ _ e=>e,rfl,fun _ _ e=>e,hW.hS,hW.hU,hW.su,hW.sk,fun o'=>?_⟩
    by_cases h1:o'=q
    · subst h1;rw [z24];exact .inl ⟨rfl,hιq⟩
    · rw [z43 _ _ h1]
      by_cases h2:o'=o
      · subst h2
        rw [z24]
        refine .inr ⟨b,c.size,c,el,hι,hκ,hb,rfl,?_⟩
        rw [z63]
        intro i e' he'
        by_cases hik:i=k
        · subst hik
          rw [List.getElem?_set_self hkl] at he'
          cases he'
          refine ⟨by simpa using hek,?_⟩
          rw [z59]
          intro jj x hx
          by_cases hjj:jj=j
          · subst hjj
            rw [List.getElem?_set_self hjl] at hx
            cases hx
            exact ⟨_,hv0,by simp only [V];exact ⟨0,y45 _,.inl ⟨rfl,a,rfl⟩⟩⟩
          · rw [List.getElem?_set_ne (Ne.symm hjj)] at hx
            exact hcv jj x hx
        · rw [List.getElem?_set_ne (Ne.symm hik)] at he'
          exact hc i e' he'
      · rw [z43 _ _ h2];exact hW.objs o'
  · subst ha
    cases hp
    have hS:∀ b' x,G.S b'=some x→(G.expose q b0 c0.size wd2).S b'=some x:=fun _ _ e=>e
    have hιs:∀ o' t,G.ι o'=some t→(G.expose q b0 c0.size wd2).ι o'=some t:=fun o' t e=>by
      by_cases h:o'=q
      · subst h;rw [hιq] at e;cases e
      · simp only [Ghost.expose,if_neg h];exact e
    have hκ' : ∀ b' p',p'≠(o,[0+k * wd+j])→G.κ b'=some p'→(G.expose q b0 c0.size wd2).κ b'=some p':=fun b' p' hne hk=>by
      have:b'≠b0:=by rintro rfl;rw [hκ0] at hk;cases hk;exact hne rfl
      simp only [Ghost.expose,if_neg this];exact hk
    refine ⟨G.expose q b0 c0.size wd2,hS,rfl,hιs,hW.hS,hW.hU,hW.su,fun b' p' hk=>?_,fun o'=>?_⟩
    · by_cases h:b'=b0
      · subst h;exact hW.sk _ _ hκ0
      · simp only [Ghost.expose,if_neg h] at hk;exact hW.sk _ _ hk
    · by_cases h1:o'=q
      · subst h1
        rw [z24]
        refine .inr ⟨b0,c0.size,c0,el0,by simp [Ghost.expose],by simp [Ghost.expose],hb0,rfl,?_⟩
        exact VLL_leaf hfl hS hc0
      · rw [z43 _ _ h1]
        by_cases h2:o'=o
        · subst h2
          rw [z24]
          refine .inr ⟨b,c.size,c,el,hιs _ _ hι,hκ' b (o',[]) (by simp) hκ,hb,rfl,?_⟩
          have hmv:∀ (x:AC) (pos:Nat) (v:Value),pos≠0+k * wd+j→V G (hp w) (some (o',[pos])) x v→V (G.expose q b0 c0.size wd2) (hp w) (some (o',[pos])) x v:=fun x pos v hne hv=>by
            have:=z256 x G (G.expose q b0 c0.size wd2) (hp w) (hp w) id (fun p=>p.2.getLast?=some pos) hS hιs (fun _ _ _=>rfl) (fun o'' j' q' h=>by
              cases q' with
              | nil=>simp at h
              | cons y ys=>rw [List.getLast?_cons_cons];exact h) (fun b' p hp hk=>⟨hκ' b' p (by rintro rfl;simp at hp;exact hne (by omega)) hk,rfl⟩) (some (o',[pos])) v (fun p hp=>by cases hp;rfl) hv
            simpa using this
          rw [z63]
          intro i e' he'
          by_cases hik:i=k
          · subst hik
            rw [List.getElem?_set_self hkl] at he'
            cases he'
            refine ⟨by simpa using hek,?_⟩
            rw [z59]
            intro jj x hx
            by_cases hjj:jj=j
            · subst hjj
              rw [List.getElem?_set_self hjl] at hx
              cases hx
              refine ⟨_,hv0,?_⟩
              simp only [V]
              exact ⟨cap,by omega,.inr ⟨b0,c0.size,wd2,by simp [Ghost.expose],by simpa using hsz,by simp⟩⟩
            · rw [List.getElem?_set_ne (Ne.symm hjj)] at hx
              obtain ⟨v,hv1,hv2⟩:=hcv jj x hx
              exact ⟨v,hv1,by simpa [Loc.cell] using hmv x _ v (by omega) (by simpa [Loc.cell] using hv2)⟩
          · rw [List.getElem?_set_ne (Ne.symm hik)] at he'
            obtain ⟨h3,h4⟩:=hc i e' he'
            refine ⟨h3,?_⟩
            rw [z59] at h4 ⊢
            intro jj x hx
            obtain ⟨v,hv1,hv2⟩:=h4 jj x hx
            have hjw:jj < wd:=by rw [← h3];exact (List.getElem?_eq_some_iff.1 hx).1
            have hne:0+i * wd+jj≠0+k * wd+j:=by
              intro heq
              have hj' : j < wd:=by rw [← hek];exact hjl
              rcases Nat.lt_or_gt_of_ne hik with hlt|hlt
              · have:(i+1) * wd≤k * wd:=Nat.mul_le_mul_right _ hlt
                rw [Nat.add_mul] at this;omega
              · have:(k+1) * wd≤i * wd:=Nat.mul_le_mul_right _ hlt
                rw [Nat.add_mul] at this;omega
            exact ⟨v,hv1,by simpa [Loc.cell] using hmv x _ v hne (by simpa [Loc.cell] using hv2)⟩
        · rw [z43 _ _ h2]
          exact z186 hS (fun _ _ e=>hιs _ _ e) (by simp [Ghost.expose,h1]) (fun b' p hp hk=>⟨hκ' b' p (by rintro rfl;exact h2 hp.symm) hk,rfl⟩) (hW.objs o')
def LocLe (x y:AC):Prop:=∀ (G:Ghost) (h:Nat→Option Obj) (l:Loc) (v:Value),V G h l x v→V G h l y v
theorem z598 {w:Nat} : LocLe .nils (.own w []):=fun G h l v hv=>by
 simp only [V] at hv ⊢
 exact ⟨none,0,hv,y45 _,.inl ⟨trivial,rfl⟩⟩
theorem LocLe.refl (x:AC):LocLe x x:=fun _ _ _ _ h=>h
theorem Reach.weaken {m n : Nat} {env : List (Nat × AC)} {objs objs' : List AObj} (o : Nat) {wd : Nat} {es es' : List (List AC)} (ho : z33 objs o = .cells wd es) (hl : es'.length = es.length)
    (hr:∀ (i:Nat) (e' : List AC),es'[i]?=some e'→∃ e:List AC,es[i]?=some e∧e'.length=e.length∧∀ (j:Nat) (x' : AC),e'[j]?=some x'→∃ x,e[j]?=some x∧LocLe x x')
    (hk:z285 objs [⟨o,.dead,.cells wd es'⟩] fun l=>l=objs'):Reach m (mkSt n env objs) (mkSt n env objs'):=fun G a w hR=>by
  obtain ⟨l,rfl,hl'⟩:=z120 hk
  refine ⟨G,SubM.refl m G,⟨?_,hR.env,hR.size,hR.defers⟩⟩
  show Wf G (z33 l) w
  rw [hl']
  refine ⟨hR.wf.hS,hR.wf.hU,hR.wf.su,hR.wf.sk,fun o'=>?_⟩
  show ObjRel G (hp w) o' (upd (z33 objs) o (.cells wd es') o')
  by_cases h:o'=o
  · subst h
    rw [z24]
    have:=hR.wf.objs o'
    rw [show (mkSt n env objs).objs o'=.cells wd es from ho] at this
    rcases this with ⟨h1,h2⟩|⟨b,size,c,el,h1,h2,h3,h4,h5⟩
    · subst h1
      exact .inl ⟨y66 (by simpa using hl),h2⟩
    · refine .inr ⟨b,size,c,el,h1,h2,h3,h4,?_⟩
      rw [z63] at h5 ⊢
      intro i e' he'
      obtain ⟨e,he,hle,hx⟩:=hr i e' he'
      obtain ⟨h6,h7⟩:=h5 i e he
      refine ⟨by rw [hle,h6],?_⟩
      rw [z59] at h7 ⊢
      intro j x' hx'
      obtain ⟨x,hx1,hx2⟩:=hx j x' hx'
      obtain ⟨v,hv1,hv2⟩:=h7 j x hx1
      exact ⟨v,hv1,hx2 _ _ _ _ hv2⟩
  · rw [z43 _ _ h];exact hR.wf.objs o'
theorem z320 {N w:Nat} : ∀ (i:Nat) (e' : List AC),(List.replicate N [AC.own w []])[i]?=some e'→∃ e,(List.replicate N [AC.nils])[i]?=some e∧e'.length=e.length∧∀ (j:Nat) (x' : AC),e'[j]?=some x'→∃ x,e[j]?=some x∧LocLe x x':=by
 intro i e' he
 rw [List.getElem?_replicate] at he ⊢
 split at he
 ·rename_i hi
  cases he
  refine ⟨_,if_pos hi,rfl,fun j x' hx=>?_⟩
  match j,hx with
  |0,hx=>cases hx;exact ⟨_,rfl,z598⟩
  |j+1,hx=>simp at hx
 ·cases he
theorem z151 (id:Nat) {m:Nat} {ops:Array Oper} {d:Bool} {Q:Exit→St→Prop} {st:St} (h:AWP P m (.region id ops d) Q st):AWP P m (.region id ops d) Q st:=h
theorem z112 (id:Nat) {m:Nat} {ops:Array Oper} {d:Bool} {c:Code} {Q:Exit→St→Prop} {st:St} (h:AWP P m (.seq (.region id ops d) c) Q st):AWP P m (.seq (.region id ops d) c) Q st:=h
theorem z616 {es:List (List AC)} {i n:Nat} {r:List AC} {K:List AC→Prop} (h:n=i) (hi:i < es.length) (k:K r):∃ e,(es.set i r)[n]?=some e∧K e :=
 ⟨r,by subst h;exact List.getElem?_set_self hi,k⟩
theorem z87 {α:Type} {f:α→List AC} {l:List α} {x:Int} {K:List AC→Prop} (h:x.toNat < l.length) (k:∀ h:x.toNat < l.length,K (f (l[x.toNat]'h))):∃ e,(l.map f)[x.toNat]?=some e∧K e:=⟨_,z483 _ _ _ h,k h⟩
theorem z123 {m:Nat} {st:St} {o n n' w:Nat} {es es' : List (List AC)} (hm:z225 m 0 [o]=true) (hf:Flat es) (hn:n'=n) (ho:st.objs o=.cells w es') (he:es'=es):z36 m st (.sref 0 0 n) [.cells w es] (.sref o 0 n'):=by
 subst hn;exact z469 hm hf ho he
theorem Reach.expose {m n : Nat} {env : List (Nat × AC)} {objs objs' : List AObj} (o k j : Nat) {wd wd2 : Nat} {es es2 : List (List AC)} {e : List AC} (ho : z33 objs o = .cells wd es) (he : es[k]? = some e) (hj : e[j]? = some (.own wd2 es2)) (hfl : Leaf es2)
    (hk:z285 objs [⟨o,.dead,.cells wd (es.set k (e.set j (.sref objs.length 0 es2.length)))⟩,⟨objs.length,.fresh,.cells wd2 es2⟩] fun l=>l=objs'):Reach m (mkSt n env objs) (mkSt n env objs'):=fun G a w hR=>by
  obtain ⟨l,rfl,hl⟩:=z120 hk
  obtain ⟨G',h1,h2,h3,h4⟩:=hR.wf.expose (q:=objs.length) ho he hj (z62 (y45 _)) hfl
  refine ⟨G',⟨⟨h1,h2⟩,fun o t _ e=>h3 o t e⟩,⟨?_,fun s=>z110 h1 h3 (hR.env s),hR.size,hR.defers.mono h1⟩⟩
  show Wf G' (z33 l) w
  rw [hl];exact h4
theorem Reach.absorb {m n : Nat} {env : List (Nat × AC)} {objs objs' : List AObj} (o q k j : Nat) {wd wd2 len : Nat} {es es2 : List (List AC)} {e : List AC} (ho : z33 objs o = .cells wd es) (he : es[k]? = some e) (hj : e[j]? = some (.sref q 0 len)) (hq : z33 objs q = .cells wd2 es2) (hn : es2.length = len) (hoq : Nat.beq o q = false) (hfl : Flat es2)
    (hk:z285 objs [⟨o,.dead,.cells wd (es.set k (e.set j (.own wd2 es2)))⟩,⟨q,.dead,.dead⟩] fun l=>l=objs'):Reach m (mkSt n env objs) (mkSt n env objs'):=fun G a w hR=>by
  obtain ⟨l,rfl,hl⟩:=z120 hk
  have h4:=hR.wf.absorb (o:=o) (q:=q) ho he hj hq hn (by rintro rfl;rw [Nat.beq_refl] at hoq;cases hoq) hfl
  refine ⟨G.absorb o q (k * wd+j),⟨⟨fun _ _ e=>e,rfl⟩,fun o t _ e=>e⟩,⟨?_,fun s=>z110 (G:=G) (G':=G.absorb o q (k * wd+j)) (fun _ _ e=>e) (fun _ _ e=>e) (hR.env s),hR.size,hR.defers.mono (fun _ _ e=>e)⟩⟩
  show Wf _ (z33 l) w
  rw [hl];exact h4
abbrev y78 := @LocLe.refl
end Go.Gl
namespace Go.Gl
variable {P:Program}
mutual
theorem V_mvD (x : AC) (G G' : Ghost) (h h' : Nat → Option Obj) (f : Nat × List Nat → Nat × List Nat) (D : Nat × List Nat → Prop) (hS : ∀ b x, G.S b = some x → G'.S b = some x) (hι : ∀ o t, G.ι o = some t → G'.ι o = some t)
    (hf:∀ o j q,D (o,q)→f (o,j::q)=((f (o,q)).1,j::(f (o,q)).2)) (hD:∀ o j q,D (o,q)→D (o,j::q))
    (hκ:∀ b p,D p→G.κ b=some p→G'.κ b=some (f p)∧h' b=h b) (l:Loc) (v:Value) (hl:∀ p,l=some p→D p) (hv:V G h l x v):V G' h' (l.map f) x v:=by
  have hb:∀ b p,False→G.bare.κ b=some p→G'.bare.κ b=some (id p)∧h' b=h b:=fun _ _ h=>h.elim
  match x with
  | .any=>simp [V]
  | .raw _=>simpa [V] using hv
  | .list w n es =>
    simp only [V] at hv ⊢
    obtain ⟨a,cap,rfl,hcap,hn,hv⟩:=hv
    refine ⟨a,cap,rfl,hcap,hn,hv.imp id ?_⟩
    rintro ⟨b,off,c,el,fz,rfl,hb',hc⟩
    exact ⟨b,off,c,el,fz,rfl,hS _ _ hb',z632 es G.bare G'.bare h h' id (fun _=>False) hS (fun _ _ e=>e) (fun _ _ _ _=>rfl) (fun _ _ _ h=>h) hb none w c off (by simp) hc⟩
  | .pt cs =>
    simp only [V] at hv ⊢
    obtain ⟨b,off,c,el,fz,rfl,hb',hc⟩:=hv
    exact ⟨b,off,c,el,fz,rfl,hS _ _ hb',z517 cs G.bare G'.bare h h' id (fun _=>False) hS (fun _ _ e=>e) (fun _ _ _ _=>rfl) (fun _ _ _ h=>h) hb none c off (by simp) hc⟩
  | .sref o off len =>
    simp only [V] at hv ⊢
    obtain ⟨cap,hc,hv⟩:=hv
    refine ⟨cap,hc,hv.imp id ?_⟩
    rintro ⟨b,size,w,hb,h2⟩
    exact ⟨b,size,w,hι _ _ hb,h2⟩
  | .ptr o i off =>
    simp only [V] at hv ⊢
    obtain ⟨b,size,w,hb,h2⟩:=hv
    exact ⟨b,size,w,hι _ _ hb,h2⟩
  | .mref o =>
    simp only [V] at hv ⊢
    obtain ⟨b,size,w,hb,h2⟩:=hv
    exact ⟨b,size,w,hι _ _ hb,h2⟩
  | .own w es =>
    simp only [V] at hv ⊢
    obtain ⟨a,cap,rfl,hcap,hv⟩:=hv
    refine ⟨a,cap,rfl,hcap,hv.imp id ?_⟩
    rintro ⟨b,c,el,p,rfl,rfl,hk,hb,hs,hc⟩
    obtain ⟨hk',hh'⟩:=hκ b p (hl p rfl) hk
    exact ⟨b,c,el,f p,rfl,rfl,hk',by rw [hh',hb],hs,z632 es G.bare G'.bare h h' f D hS (fun _ _ e=>e) hf hD hκ (some p) w c 0 hl hc⟩
  | .fn g first caps =>
    simp only [V] at hv ⊢
    obtain ⟨xs,ys,rfl,h1,h2,h3,h4⟩:=hv
    exact ⟨xs,ys,rfl,h1,h2,z517 first G G' h h' f D hS hι hf hD hκ none xs 0 (by simp) h3,z517 caps G G' h h' f D hS hι hf hD hκ none ys 0 (by simp) h4⟩
  | .agg cs =>
    simp only [V] at hv ⊢
    obtain ⟨c,rfl,h1,h3⟩:=hv
    exact ⟨c,rfl,h1,z517 cs G G' h h' f D hS hι hf hD hκ none c 0 (by simp) h3⟩
  | .tup cs =>
    simp only [V] at hv ⊢
    obtain ⟨c,rfl,h1,h3⟩:=hv
    exact ⟨c,rfl,h1,z517 cs G G' h h' f D hS hι hf hD hκ none c 0 (by simp) h3⟩
termination_by structural x
theorem z517 (xs : List AC) (G G' : Ghost) (h h' : Nat → Option Obj) (f : Nat × List Nat → Nat × List Nat) (D : Nat × List Nat → Prop) (hS : ∀ b x, G.S b = some x → G'.S b = some x) (hι : ∀ o t, G.ι o = some t → G'.ι o = some t)
    (hf:∀ o j q,D (o,q)→f (o,j::q)=((f (o,q)).1,j::(f (o,q)).2)) (hD:∀ o j q,D (o,q)→D (o,j::q))
    (hκ:∀ b p,D p→G.κ b=some p→G'.κ b=some (f p)∧h' b=h b) (l:Loc) (c:Array Value) (off:Nat) (hl:∀ p,l=some p→D p) (hv:VL G h l xs c off):VL G' h' (l.map f) xs c off:=by
  match xs with
  | []=>simp [VL]
  | x::xs =>
    simp only [VL] at hv ⊢
    obtain ⟨⟨v,hv1,hv2⟩,hv3⟩:=hv
    refine ⟨⟨v,hv1,?_⟩,z517 xs G G' h h' f D hS hι hf hD hκ l c (off+1) hl hv3⟩
    have:=V_mvD x G G' h h' f D hS hι hf hD hκ (l.cell off) v (by
      intro p hp
      cases l with
      | none=>simp [Loc.cell] at hp
      | some q=>simp [Loc.cell] at hp;subst hp;exact hD _ _ _ (hl q rfl)) hv2
    cases l with
    | none=>exact this
    | some q =>
      simp only [Loc.cell,Option.map_some] at this ⊢
      rw [hf q.1 off q.2 (hl q rfl)] at this
      exact this
termination_by structural xs
theorem z632 (es : List (List AC)) (G G' : Ghost) (h h' : Nat → Option Obj) (f : Nat × List Nat → Nat × List Nat) (D : Nat × List Nat → Prop) (hS : ∀ b x, G.S b = some x → G'.S b = some x) (hι : ∀ o t, G.ι o = some t → G'.ι o = some t)
    (hf:∀ o j q,D (o,q)→f (o,j::q)=((f (o,q)).1,j::(f (o,q)).2)) (hD:∀ o j q,D (o,q)→D (o,j::q))
    (hκ:∀ b p,D p→G.κ b=some p→G'.κ b=some (f p)∧h' b=h b) (l:Loc) (w:Nat) (c:Array Value) (off:Nat) (hl:∀ p,l=some p→D p) (hv:VLL G h l w es c off):VLL G' h' (l.map f) w es c off:=by
  match es with
  | []=>simp [VLL]
  | e::es =>
    simp only [VLL] at hv ⊢
    obtain ⟨h1,h2,h3⟩:=hv
    exact ⟨h1,z517 e G G' h h' f D hS hι hf hD hκ l c off hl h2,z632 es G G' h h' f D hS hι hf hD hκ l w c (off+w) hl h3⟩
termination_by structural es
end
def z620 (κ:Nat→Option (Nat×List Nat)) (o q pos:Nat) (b:Nat):Option (Nat×List Nat):=match κ b with
 |some (o',p)=>if o'=o∧p.getLast?=some pos then some (q,p.dropLast) else some (o',p)
 |none=>none
noncomputable def Ghost.exposeD (G:Ghost) (o q pos b0 size wd2:Nat):Ghost:={ G with κ:=z620 G.κ o q pos,ι:=fun o'=>if o'=q then some (b0,size,wd2) else G.ι o' }
theorem Wf.exposeD {G : Ghost} {objs : Nat → AObj} {w : World} (hW : Wf G objs w) {o q k j wd wd2 : Nat} {es es2 : List (List AC)} {e : List AC} (ho : objs o = .cells wd es) (he : es[k]? = some e) (hj : e[j]? = some (.own wd2 es2)) (hq : objs q = .fresh) :
    ∃ G',(∀ b x,G.S b=some x→G'.S b=some x)∧G'.U=G.U∧(∀ o t,G.ι o=some t→G'.ι o=some t)∧Wf G' (upd (upd objs o (.cells wd (es.set k (e.set j (.sref q 0 es2.length))))) q (.cells wd2 es2)) w:=by
  have hoq:o≠q:=by rintro rfl;rw [ho] at hq;cases hq
  obtain ⟨b,c,el,hι,hκ,hb,hc⟩:=hW.obj ho he
  have hιq:G.ι q=none:=by have:=hW.objs q;rw [hq] at this;exact this
  have hkl:k < es.length:=(List.getElem?_eq_some_iff.1 he).1
  have hjl:j < e.length:=(List.getElem?_eq_some_iff.1 hj).1
  rw [z63] at hc
  obtain ⟨hek,hcv⟩:=hc k e he
  rw [z59] at hcv
  obtain ⟨v0,hv0,hv0'⟩:=hcv j _ hj
  simp only [V,Loc.cell,Option.map_some] at hv0'
  obtain ⟨a,cap,rfl,hcap,hown⟩:=hv0'
  rcases hown with ⟨hes,hcap0⟩|⟨b0,c0,el0,p,ha,hp,hκ0,hb0,hsz,hc0⟩
  · -- no block
    subst hes hcap0
    refine ⟨G,fun _ _ e=>e,rfl,fun _ _ e=>e,hW.hS,hW.hU,hW.su,hW.sk,fun o'=>?_⟩
    by_cases h1:o'=q
    · subst h1;rw [z24];exact .inl ⟨rfl,hιq⟩
    · rw [z43 _ _ h1]
      by_cases h2:o'=o
      · subst h2
        rw [z24]
        refine .inr ⟨b,c.size,c,el,hι,hκ,hb,rfl,?_⟩
        rw [z63]
        intro i e' he'
        by_cases hik:i=k
        · subst hik
          rw [List.getElem?_set_self hkl] at he'
          cases he'
          refine ⟨by simpa using hek,?_⟩
          rw [z59]
          intro jj x hx
          by_cases hjj:jj=j
          · subst hjj
            rw [List.getElem?_set_self hjl] at hx
            cases hx
            exact ⟨_,hv0,by simp only [V];exact ⟨0,y45 _,.inl ⟨rfl,a,rfl⟩⟩⟩
          · rw [List.getElem?_set_ne (Ne.symm hjj)] at hx
            exact hcv jj x hx
        · rw [List.getElem?_set_ne (Ne.symm hik)] at he'
          exact hc i e' he'
      · rw [z43 _ _ h2];exact hW.objs o'
  · subst ha
    cases hp
    rw [Nat.zero_add] at hκ0
    have hS:∀ b' x,G.S b'=some x→(G.exposeD o q (k * wd+j) b0 c0.size wd2).S b'=some x:=fun _ _ e=>e
    have hιs:∀ o' t,G.ι o'=some t→(G.exposeD o q (k * wd+j) b0 c0.size wd2).ι o'=some t:=fun o' t e=>by
      by_cases h:o'=q
      · subst h;rw [hιq] at e;cases e
      · simp only [Ghost.exposeD,if_neg h];exact e
    have hκ' : ∀ b' p',¬(p'.1=o∧p'.2.getLast?=some (k * wd+j))→G.κ b'=some p'→(G.exposeD o q (k * wd+j) b0 c0.size wd2).κ b'=some p':=fun b' p' hne hk=>by
      obtain ⟨p1,p2⟩:=p'
      simp only [Ghost.exposeD,z620,hk,if_neg hne]
    have hκm:∀ b' p',p'.1=o∧p'.2.getLast?=some (k * wd+j)→G.κ b'=some p'→(G.exposeD o q (k * wd+j) b0 c0.size wd2).κ b'=some (q,p'.2.dropLast):=fun b' p' hne hk=>by
      obtain ⟨p1,p2⟩:=p'
      simp only [Ghost.exposeD,z620,hk,if_pos hne]
    refine ⟨G.exposeD o q (k * wd+j) b0 c0.size wd2,hS,rfl,hιs,hW.hS,hW.hU,hW.su,fun b' p' hk=>?_,fun o'=>?_⟩
    · cases hkb:G.κ b' with
      | none=>simp [Ghost.exposeD,z620,hkb] at hk
      | some p=>exact hW.sk _ _ hkb
    · by_cases h1:o'=q
      · subst h1
        rw [z24]
        refine .inr ⟨b0,c0.size,c0,el0,by simp [Ghost.exposeD],by have:=hκm b0 (o,[k * wd+j]) ⟨rfl,rfl⟩ hκ0;simpa using this,hb0,rfl,?_⟩
        have:=z632 es2 G.bare (G.exposeD o o' (k * wd+j) b0 c0.size wd2) (hp w) (hp w) (fun p=>(o',p.2.dropLast)) (fun p=>p.1=o∧p.2.getLast?=some (k * wd+j)) hS (fun _ _ e=>by cases e)
          (fun o1 j1 q1 h=>by
            cases q1 with
            | nil=>simp at h
            | cons y ys=>simp [List.dropLast_cons_of_ne_nil])
          (fun o1 j1 q1 h=>by
            cases q1 with
            | nil=>simp at h
            | cons y ys=>simpa using h)
          (fun b' p hp hk=>⟨hκm b' p hp hk,rfl⟩) (some (o,[0+k * wd+j])) wd2 c0 0 (fun p hp=>by cases hp;simp) hc0
        simpa using this
      · rw [z43 _ _ h1]
        by_cases h2:o'=o
        · subst h2
          rw [z24]
          refine .inr ⟨b,c.size,c,el,hιs _ _ hι,hκ' b (o',[]) (by simp) hκ,hb,rfl,?_⟩
          have hmv:∀ (x:AC) (pos:Nat) (v:Value),pos≠0+k * wd+j→V G (hp w) (some (o',[pos])) x v→V (G.exposeD o' q (k * wd+j) b0 c0.size wd2) (hp w) (some (o',[pos])) x v:=fun x pos v hne hv=>by
            have:=z256 x G (G.exposeD o' q (k * wd+j) b0 c0.size wd2) (hp w) (hp w) id (fun p=>p.2.getLast?=some pos) hS hιs (fun _ _ _=>rfl) (fun o'' j' q' h=>by
              cases q' with
              | nil=>simp at h
              | cons y ys=>simpa using h) (fun b' p hp hk=>⟨hκ' b' p (by rintro ⟨_,h⟩;rw [hp] at h;cases h;exact hne (by omega)) hk,rfl⟩) (some (o',[pos])) v (fun p hp=>by cases hp;rfl) hv
            simpa using this
          rw [z63]
          intro i e' he'
          by_cases hik:i=k
          · subst hik
            rw [List.getElem?_set_self hkl] at he'
            cases he'
            refine ⟨by simpa using hek,?_⟩
            rw [z59]
            intro jj x hx
            by_cases hjj:jj=j
            · subst hjj
              rw [List.getElem?_set_self hjl] at hx
              cases hx
              refine ⟨_,hv0,?_⟩
              simp only [V]
              exact ⟨cap,by omega,.inr ⟨b0,c0.size,wd2,by simp [Ghost.exposeD],by simpa using hsz,by simp⟩⟩
            · rw [List.getElem?_set_ne (Ne.symm hjj)] at hx
              obtain ⟨v,hv1,hv2⟩:=hcv jj x hx
              exact ⟨v,hv1,by simpa [Loc.cell] using hmv x _ v (by omega) (by simpa [Loc.cell] using hv2)⟩
          · rw [List.getElem?_set_ne (Ne.symm hik)] at he'
            obtain ⟨h3,h4⟩:=hc i e' he'
            refine ⟨h3,?_⟩
            rw [z59] at h4 ⊢
            intro jj x hx
            obtain ⟨v,hv1,hv2⟩:=h4 jj x hx
            have hjw:jj < wd:=by rw [← h3];exact (List.getElem?_eq_some_iff.1 hx).1
            have hne:0+i * wd+jj≠0+k * wd+j:=by
              intro heq
              have hj' : j < wd:=by rw [← hek];exact hjl
              rcases Nat.lt_or_gt_of_ne hik with hlt|hlt
              · have:(i+1) * wd≤k * wd:=Nat.mul_le_mul_right _ hlt
                rw [Nat.add_mul] at this;omega
              · have:(k+1) * wd≤i * wd:=Nat.mul_le_mul_right _ hlt
                rw [Nat.add_mul] at this;omega
            exact ⟨v,hv1,by simpa [Loc.cell] using hmv x _ v hne (by simpa [Loc.cell] using hv2)⟩
        · rw [z43 _ _ h2]
          exact z186 hS (fun _ _ e=>hιs _ _ e) (by simp [Ghost.exposeD,h1]) (fun b' p hp hk=>⟨hκ' b' p (by rintro ⟨h,_⟩;exact h2 (hp.symm.trans h)) hk,rfl⟩) (hW.objs o')
theorem Reach.exposeD {m n : Nat} {env : List (Nat × AC)} {objs objs' : List AObj} (o k j : Nat) {wd wd2 : Nat} {es es2 : List (List AC)} {e : List AC} (ho : z33 objs o = .cells wd es) (he : es[k]? = some e) (hj : e[j]? = some (.own wd2 es2))
    (hk:z285 objs [⟨o,.dead,.cells wd (es.set k (e.set j (.sref objs.length 0 es2.length)))⟩,⟨objs.length,.fresh,.cells wd2 es2⟩] fun l=>l=objs'):Reach m (mkSt n env objs) (mkSt n env objs'):=fun G a w hR=>by
  obtain ⟨l,rfl,hl⟩:=z120 hk
  obtain ⟨G',h1,h2,h3,h4⟩:=hR.wf.exposeD (q:=objs.length) ho he hj (z62 (y45 _))
  refine ⟨G',⟨⟨h1,h2⟩,fun o t _ e=>h3 o t e⟩,⟨?_,fun s=>z110 h1 h3 (hR.env s),hR.size,hR.defers.mono h1⟩⟩
  show Wf G' (z33 l) w
  rw [hl];exact h4
end Go.Gl
namespace Go.Gl
variable {P:Program} {st:St} {K:OpK} {f:FuncId} {first caps args args0:List AC} {objs0 objs1 objs1' : List AObj} {res:AC}
def addN (l:List Nat) (x:Nat):List Nat:=match inB l x with
 |true=>l
 |false=>l++[x]
mutual
def namesA (acc:List Nat) (x:AC):List Nat:=match x with
 |.sref o _ _=>addN acc o
 |.ptr o _ _=>addN acc o
 |.mref o=>addN acc o
 |.fn _ a b=>z479 (z479 acc a) b
 |.agg cs=>z479 acc cs
 |.tup cs=>z479 acc cs
 |_=>acc
termination_by structural x
def z479 (acc:List Nat) (xs:List AC):List Nat:=match xs with
 |[]=>acc
 |x::xs=>z479 (namesA acc x) xs
termination_by structural xs
end
end Go.Gl
namespace Go.Gl
open Go.Sort
variable {P:Program}
end Go.Gl
namespace Go.Gl
theorem z410 {α:Type} (f:α→Nat) {l:List α} {a:α} (h:a∈l):f a≤(l.map f).sum:=by
 induction l with
 |nil=>cases h
 |cons b l ih =>
  simp only [List.map_cons,List.sum_cons]
  cases h with
  |head=>omega
  |tail _ h=>have:=ih h;omega
inductive Tree where
 |mk (kind val:Int) (kids:List Tree)
def Tree.kind:Tree→Int | .mk k _ _=>k
def Tree.val:Tree→Int | .mk _ v _=>v
def Tree.kids:Tree→List Tree | .mk _ _ l=>l
mutual
def Tree.cs:Tree→List AC
 |.mk k v l=>[.int k,.int v,.list 3 l.length (Tree.css l)]
def Tree.css:List Tree→List (List AC)
 |[]=>[]
 |t::l=>Tree.cs t::Tree.css l
end
mutual
def Tree.sz:Tree→Nat
 |.mk _ _ l=>Tree.szs l
def Tree.szs:List Tree→Nat
 |[]=>0
 |t::l=>1+Tree.sz t+Tree.szs l
end
mutual
def Tree.mx:Tree→Prop
 |.mk _ _ l=>l.length≤maxLen∧Tree.mxs l
def Tree.mxs (l:List Tree):Prop:=match l with
 |[]=>True
 |t::r=>Tree.mx t∧Tree.mxs r
end
theorem Tree.css_eq (l:List Tree):Tree.css l=l.map Tree.cs:=by
 induction l with
 |nil=>simp [Tree.css]
 |cons t l ih=>simp [Tree.css,ih]
def Tree.cs' (t:Tree):List AC:=[.int t.kind,.int t.val,.list 3 t.kids.length (t.kids.map Tree.cs)]
theorem y15:Tree.cs=Tree.cs':=by
 funext t
 cases t with
 |mk k v l=>simp [Tree.cs,Tree.cs',Tree.css_eq,Tree.kind,Tree.val,Tree.kids]
theorem Tree.szs_eq (l:List Tree):Tree.szs l=l.length+(l.map Tree.sz).sum:=by
 induction l with
 |nil=>simp [Tree.szs]
 |cons t l ih=>simp [Tree.szs,ih];omega
theorem y33 (t:Tree):t.sz=t.kids.length+(t.kids.map Tree.sz).sum:=by
 cases t with
 |mk k v l=>simp only [Tree.sz,Tree.kids,Tree.szs_eq]
theorem Tree.mxs_iff (l:List Tree):Tree.mxs l↔∀ t∈l,t.mx:=by
 induction l with
 |nil=>simp [Tree.mxs]
 |cons t l ih=>simp [Tree.mxs,ih]
theorem y25 (t:Tree):t.mx↔t.kids.length≤maxLen∧∀ u∈t.kids,u.mx:=by
 cases t with
 |mk k v l=>simp only [Tree.mx,Tree.kids,Tree.mxs_iff]
theorem Tree.lst_eq (l:List Tree):AC.list 3 l.length (l.map Tree.cs)=AC.list 3 l.length (l.map Tree.cs'):=by rw [y15]
noncomputable instance:DecidableEq Tree:=Classical.typeDecidableEq Tree
theorem Tree.ext {a b:Tree} (h1:a.kind=b.kind) (h2:a.val=b.val) (h3:a.kids=b.kids):a=b:=by
 cases a;cases b;simp_all [Tree.kind,Tree.val,Tree.kids]
theorem y24 {p:Tree→Prop} (h:∀ t,(∀ u∈t.kids,p u)→p t) (t:Tree):p t :=
 Tree.rec (motive_1:=p) (motive_2:=fun l=>∀ u∈l,p u) (fun _ _ _ ih=>h _ ih) (fun _ h=>by cases h) (fun _ _ h1 h2 u hu=>by
  cases hu with
  |head=>exact h1
  |tail _ h=>exact h2 u h) t
variable {P:Program} {T:Tab}
inductive F2 {α β:Type} (R:α→β→Prop):List α→List β→Prop
 |nil:F2 R [] []
 |cons {x:α} {y:β} {xs:List α} {ys:List β} : R x y→F2 R xs ys→F2 R (x::xs) (y::ys)
theorem VL_le {xs ys:List AC} (h:F2 LocLe xs ys):∀ {G:Ghost} {hh:Nat→Option Obj} {l:Loc} {c:Array Value} {off:Nat},VL G hh l xs c off→VL G hh l ys c off:=by
 induction h with
 |nil=>intro G hh l c off _;simp [VL]
 |cons h1 _ ih =>
  intro G hh l c off hv
  simp only [VL] at hv ⊢
  obtain ⟨⟨v,hv1,hv2⟩,hv3⟩:=hv
  exact ⟨⟨v,hv1,h1 _ _ _ _ hv2⟩,ih hv3⟩
theorem z191 {α β:Type} {R:α→β→Prop} {xs:List α} {ys:List β} (h:F2 R xs ys):xs.length=ys.length:=by
 induction h with
 |nil=>rfl
 |cons _ _ ih=>simp [ih]
theorem VLL_le {w:Nat} {xs ys:List (List AC)} (h:F2 (F2 LocLe) xs ys):∀ {G:Ghost} {hh:Nat→Option Obj} {l:Loc} {c:Array Value} {off:Nat},VLL G hh l w xs c off→VLL G hh l w ys c off:=by
 induction h with
 |nil=>intro G hh l c off _;simp [VLL]
 |cons h1 _ ih =>
  intro G hh l c off hv
  simp only [VLL] at hv ⊢
  obtain ⟨hv1,hv2,hv3⟩:=hv
  exact ⟨by rw [← z191 h1,hv1],VL_le h1 hv2,ih hv3⟩
theorem LocLe.trans {x y z:AC} (h:LocLe x y) (k:LocLe y z):LocLe x z:=fun G hh l v hv=>k G hh l v (h G hh l v hv)
theorem y8 {x y:AC} (h:x=y):LocLe x y:=h ▸ y78 x
theorem z52 {w:Nat} : LocLe .nils (.list w 0 []):=fun G h l v hv=>by
 simp only [V] at hv ⊢
 exact ⟨none,0,hv,y45 _,rfl,.inl trivial⟩
theorem z42 {xs ys:List AC} (h:F2 LocLe xs ys):LocLe (.agg xs) (.agg ys):=fun G hh l v hv=>by
 simp only [V] at hv ⊢
 obtain ⟨c,rfl,h1,h2⟩:=hv
 exact ⟨c,rfl,by rw [h1,z191 h],VL_le h h2⟩
theorem z88 {xs ys:List AC} (h:F2 LocLe xs ys):LocLe (.tup xs) (.tup ys):=fun G hh l v hv=>by
 simp only [V] at hv ⊢
 obtain ⟨c,rfl,h1,h2⟩:=hv
 exact ⟨c,rfl,by rw [h1,z191 h],VL_le h h2⟩
theorem z81 {w n n' : Nat} {xs ys:List (List AC)} (hn:n=n') (h:F2 (F2 LocLe) xs ys):LocLe (.list w n xs) (.list w n' ys):=fun G hh l v hv=>by
 subst hn
 simp only [V] at hv ⊢
 obtain ⟨a,cap,rfl,h1,h2,h3⟩:=hv
 refine ⟨a,cap,rfl,h1,by rw [← z191 h,h2],?_⟩
 rcases h3 with rfl|⟨b,off,c,el,fz,h4,h5,h6⟩
 ·cases h;exact .inl rfl
 ·exact .inr ⟨b,off,c,el,fz,h4,h5,VLL_le h h6⟩
theorem z277 (xs:List AC):F2 LocLe xs xs:=by
 induction xs with
 |nil=>exact .nil
 |cons x xs ih=>exact .cons (y78 x) ih
theorem z9 (xs:List (List AC)):F2 (F2 LocLe) xs xs:=by
 induction xs with
 |nil=>exact .nil
 |cons x xs ih=>exact .cons (z277 x) ih
theorem z26 {xs ys:List (List AC)} (h:xs=ys):F2 (F2 LocLe) xs ys:=h ▸ z9 xs
theorem node_le' {k v:Int} {x:AC} {l:List Tree} (h:LocLe x (.list 3 l.length (l.map Tree.cs))):F2 LocLe [.int k,.int v,x] (Tree.cs' (.mk k v l)) :=
 .cons (y78 _) (.cons (y78 _) (.cons h .nil))
def ObjLe:AObj→AObj→Prop
 |.cells w es,.cells w' es'=>w=w'∧F2 (F2 LocLe) es es'
 |.dead,.dead=>True
 |.mp d es,.mp d' es'=>d=d'∧es=es'
 |_,_=>False
theorem ObjLe.mk {w:Nat} {es es' : List (List AC)} (h:F2 (F2 LocLe) es es'):ObjLe (.cells w es) (.cells w es'):=⟨rfl,h⟩
theorem ObjLe.box {w:Nat} {e e' : List AC} (h:F2 LocLe e e'):ObjLe (.cells w [e]) (.cells w [e']):=⟨rfl,.cons h .nil⟩
theorem ObjRel.le {G:Ghost} {h:Nat→Option Obj} {o:Nat} {x y:AObj} (hl:ObjLe x y) (hx:ObjRel G h o x):ObjRel G h o y:=by
 cases x with
 |fresh=>exact hl.elim
 |mp d es =>
  cases y with
  |mp d' es'=>obtain ⟨rfl,rfl⟩:=hl;exact hx
  |_=>exact hl.elim
 |dead =>
  cases y with
  |dead=>exact hx
  |_=>exact hl.elim
 |cells w es =>
  cases y with
  |cells w' es' =>
   obtain ⟨rfl,hl⟩:=hl
   rcases hx with ⟨h1,h2⟩|⟨b,size,c,el,h1,h2,h3,h4,h5⟩
   ·subst h1;cases hl;exact .inl ⟨rfl,h2⟩
   ·exact .inr ⟨b,size,c,el,h1,h2,h3,h4,VLL_le hl h5⟩
  |_=>exact hl.elim
theorem Wf.le {G:Ghost} {objs objs' : List AObj} {w:World} (h:Wf G (z33 objs) w) (hl:F2 ObjLe objs objs'):Wf G (z33 objs') w:=by
 refine ⟨h.hS,h.hU,h.su,h.sk,fun o=>?_⟩
 have ho:=h.objs o
 have key:∀ {xs ys:List AObj} (k:Nat),F2 ObjLe xs ys→ObjLe (z33 xs k) (z33 ys k)∨z33 xs k=z33 ys k:=by
  intro xs ys k hf
  induction hf generalizing k with
  |nil=>exact .inr rfl
  |cons h1 _ ih =>
   cases k with
   |zero=>exact .inl h1
   |succ k=>exact ih k
 rcases key o hl with h1|h1
 ·exact ObjRel.le h1 ho
 ·show ObjRel G (hp w) o (z33 objs' o)
  rw [← h1];exact ho
theorem CallsA.arg {f:FuncId} {args args0:List AC} {objs objs' : List AObj} {res:AC} (h:CallsA P f args objs res objs') (hl:F2 LocLe args0 args):CallsA P f args0 objs res objs' :=
 ⟨h.1,fun G w vs hW hs hv=>h.2 G w vs hW (by rw [← z191 hl,hs]) (VL_le hl hv)⟩
theorem CallsA.res {f:FuncId} {args:List AC} {objs objs' : List AObj} {res res' : AC} (h:CallsA P f args objs res objs') (hl:LocLe res res'):CallsA P f args objs res' objs' :=
 ⟨h.1,fun G w vs hW hs hv=>(h.2 G w vs hW hs hv).mono fun e w' ⟨G',v,h1,h2,h3,h4,h5,h6⟩=>⟨G',v,h1,h2,h3,h4,h5,hl _ _ _ _ h6⟩⟩
def RetS (m:Nat) (o:Nat→AObj) (res:AC) (objs' : List AObj) (r:AC):Prop :=
 ∀ (G:Ghost) (w:World) (v:Value),Wf G o w→V G (hp w) none r v→∃ G',SubM m G G'∧Wf G' (z33 objs') w∧V G' (hp w) none res v
theorem RetS.of {m:Nat} {st:St} {res:AC} {objs' : List AObj} {r:AC} (h:z36 m st res objs' r):RetS m st.objs res objs' r:=fun G w v hW hV=>by
 obtain ⟨π,hn,hf,hu,hr,ho⟩:=h
 obtain ⟨ho1,ho2⟩:=z268 0 π objs' ho
 have hpick:Wf (G.pick π) (z33 objs') w:=hW.pick hn (fun i o hio=>⟨(ho2 i o hio).2,(ho2 i o hio).1⟩) (fun i hi=>z62 (by omega))
 exact ⟨G.pick π,SubM.pick (fun i hi=>by have:=z137 m 0 π hf i hi;simpa using this),hpick,z768 _ hu (hr _ _ _ hV)⟩
theorem y11 (π Bn : List Nat) {m : Nat} {o : Nat → AObj} {res : AC} {objs' : List AObj} {r : AC} (hn : z187 (π ++ Bn) = true) (ha : allN (fun x => z144 (o x)) π = true) (hf : z225 m 0 π = true)
    (h:RetS m (z33 (π.map (z70 o π Bn))) res objs' (bor o π Bn r)):RetS m o res objs' r:=fun G w v hW hV=>by
  have hnd:=z157 hn
  obtain ⟨k1,k2,k3,k4⟩:=z341 (π:=π) (Bn:=Bn) hW (List.nodup_append.1 hnd).1 (fun o ho hb=>(List.nodup_append.1 hnd).2.2 o ho o hb rfl) (z231 ha)
  obtain ⟨G',h1,h2,h3⟩:=h _ w v k1 (k4 _ _ hV)
  refine ⟨G',SubM.trans ⟨k2,fun o t ho e=>?_⟩ h1,h2,h3⟩
  have:=z137 m 0 π hf o ho
  rw [Nat.zero_add] at this
  exact k3 o o t (z188 (List.nodup_append.1 hnd).1 this) e
theorem RetS.done {m:Nat} {objs objs' : List AObj} {res r:AC} (h1:LocLe r res) (h2:F2 ObjLe objs objs'):RetS m (z33 objs) res objs' r:=fun G w v hW hV =>
 ⟨G,SubM.refl m G,hW.le h2,h1 _ _ _ _ hV⟩
def RetSQ (T:Tab) (rs:List ResultVar) (m:Nat) (res:AC) (objs' : List AObj) (ex:Exit) (st:St):Prop:=match ex with
 |.normal=>z373 T st rs fun xs=>RetS m st.objs res objs' (z304 xs)
 |.ret=>z373 T st rs fun xs=>RetS m st.objs res objs' (z304 xs)
 |_=>False
theorem rets_ok (hT : z113 P T) {fn : Func} {m : Nat} {res : AC} {objs' : List AObj} {G : Ghost} {st : St} {a : Act} {w : World} (hR : Rel G st a w) (h : z373 T st fn.results.toList fun xs => RetS m st.objs res objs' (z304 xs)) :
    ∃ v G',(results fn a.tmps).run P w=.ok v w∧SubM m G G'∧Wf G' (z33 objs') w∧V G' (hp w) none res v:=by
  obtain ⟨xs,vs,h1,h2,h3,_,h4⟩:=z992 hT hR _ _ h
  have hres:(results fn a.tmps).run P w=.ok (if h:vs.toArray.size=1 then vs.toArray[0] else .tuple vs.toArray) w:=by
    rw [z385,Array.mapM_eq_mapM_toList]
    simp [h1]
  have hV:V G (hp w) none (z304 xs) (if h:vs.toArray.size=1 then vs.toArray[0] else .tuple vs.toArray):=by
    by_cases hl:vs.length=1
    · obtain ⟨v,rfl⟩:=List.length_eq_one_iff.1 hl
      obtain ⟨x,rfl⟩:=List.length_eq_one_iff.1 (h2 ▸ hl)
      obtain ⟨v',hv1,hv2⟩:=h3 0 x (by simp)
      simp at hv1;subst hv1
      simpa [z304] using hv2
    · rw [dif_neg (by simpa using hl)]
      have:z304 xs=.tup xs:=by
        unfold z304
        split
        · simp at h2;exact absurd h2 hl
        · rfl
      rw [this]
      simp only [V]
      refine ⟨_,rfl,by simp [h2],z59.2 fun j x hx=>?_⟩
      obtain ⟨v,hv1,hv2⟩:=h3 j x hx
      exact ⟨v,by simpa using hv1,hv2⟩
  obtain ⟨G',h5,h6,h7⟩:=h4 G w _ hR.wf hV
  exact ⟨_,G',hres,h5,h6,h7⟩
theorem z7 (hT : z113 P T) {f : FuncId} {fn : Func} {c : Code} (hf : P.funcs[f]? = some fn) (hb : fn.body = some c) (hn : (fn.name == "runtime.NumGoroutine") = false) {args : List AC} {objs : List AObj} {res : AC} {objs' : List AObj}
    (n:Nat) (hnt:fn.ntmps=n) (hl:args.length≤n) (h:AWP P objs.length c (RetSQ T fn.results.toList objs.length res objs') (mkSt n (z161 0 args) objs)):CallsA P f args objs res objs':=by
  subst hnt
  refine ⟨⟨fn,c,hf,hn,hb⟩,fun G w vs hW hs hv=>?_⟩
  refine z414 hf hb (z173 (h G.split { tmps:=vs++Array.replicate (fn.ntmps - vs.size) undef,defers:=[] } w ⟨hW.split,fun s=>z401 (G:=G) (fun _ _ _ _ e=>z377 e) (fun _ _ e=>e) (h:=hp w) (h':=hp w) ?_,by show _=fn.ntmps;simp;omega,Marks.nil _⟩) fun ex a' w' hq=>?_)
  · show V G (hp w) none (z83 (z161 0 args) s) _
    rw [z321]
    by_cases hsl:s < args.length
    · have hx:args[s]?=some args[s]:=y38 hsl
      obtain ⟨v,hv1,hv2⟩:=z59.1 hv s _ hx
      rw [Nat.zero_add] at hv1
      rw [z58 hx]
      have:(vs++Array.replicate (fn.ntmps - vs.size) undef).getD s undef=v:=by
        rw [y72,Array.getElem?_append,if_pos (by omega),hv1];rfl
      rw [this];exact hv2
    · rw [z62 (by omega)];simp [V]
  · obtain ⟨G',st',h1,h2,h3,h4⟩:=hq
    obtain ⟨Ds,d1,d2,d3,d4,d5,d6⟩:=z482 hW h1.1 h4
    have h1' : SubM objs.length G (G.join G' Ds):=⟨d4,fun o t ho e=>by rw [d5];exact h1.2 o t ho e⟩
    have key:(z373 T st' fn.results.toList fun xs=>RetS objs.length st'.objs res objs' (z304 xs))→LeavesInM Fence.wide 0 P fn a'.tmps (fun e w'=>∃ G'' v',e=.returned v'∧G.Sub G''∧(∀ o t,o < objs.length→G.ι o=some t→G''.ι o=some t)∧Le w w'∧Wf G'' (z33 objs') w'∧V G'' (hp w') none res v') a'.defers .returning w':=by
      intro hr
      obtain ⟨v,G'',h5,h6,h7,h8⟩:=rets_ok hT d6 hr
      have h9:=h1'.trans h6
      rw [d1]
      exact z272 Ds w' d2 d3 ⟨v,h5,G'',v,rfl,h9.1,h9.2,h2.trans (z574 Ds w'),h7,h8⟩
    cases ex with
    | normal=>exact key h3
    | ret=>exact key h3
    | _=>exact h3.elim
def envLe (f:Nat→AC):List (Nat×AC)→Prop
 |[]=>True
 |(s,x)::r=>LocLe (f s) x∧envLe f r
theorem z916 {f:Nat→AC} {env:List (Nat×AC)} (h:envLe f env) (s:Nat):LocLe (f s) (z83 env s):=by
 induction env with
 |nil=>exact fun G hh l v _=>by simp [z83,V]
 |cons y env ih =>
  obtain ⟨s',x⟩:=y
  obtain ⟨h1,h2⟩:=h
  simp only [z83]
  cases hb:Nat.beq s s' with
  |true=>rw [Nat.eq_of_beq_eq_true hb];exact h1
  |false=>exact ih h2
theorem SealW.reach (π Bn : List Nat) {m n : Nat} {st : St} {env : List (Nat × AC)} {objs : List AObj} (hst : st.n = n) (hn : z187 (π ++ Bn) = true) (ha : allN (fun x => z144 (st.objs x)) π = true) (hf : z225 m 0 π = true)
    (he:envLe (fun s=>bor st.objs π Bn (st.env s)) env) (ho:F2 ObjLe (π.map (z70 st.objs π Bn)) objs):Reach m st (mkSt n env objs):=fun G a w hR=>by
  have hnd:=z157 hn
  obtain ⟨k1,k2,k3,k4⟩:=z341 (π:=π) (Bn:=Bn) hR.wf (List.nodup_append.1 hnd).1 (fun o ho hb=>(List.nodup_append.1 hnd).2.2 o ho o hb rfl) (z231 ha)
  refine ⟨_,⟨k2,fun o t ho e=>?_⟩,⟨k1.le ho,fun s=>?_,by rw [hR.size,hst];rfl,hR.defers.mono k2.S⟩⟩
  · have:=z137 m 0 π hf o ho
    rw [Nat.zero_add] at this
    exact k3 o o t (z188 (List.nodup_append.1 hnd).1 this) e
  · exact z916 he s _ _ _ _ (k4 _ _ (hR.env s))
theorem z48 {q:Nat} : LocLe .nils (.sref q 0 0):=fun G h l v hv=>by
 simp only [V] at hv ⊢
 exact ⟨0,y45 _,.inl ⟨rfl,none,hv⟩⟩
theorem Reach.empty (w:Nat) {m n:Nat} {env:List (Nat×AC)} {objs:List AObj} (_hm:Nat.ble m objs.length=true):Reach m (mkSt n env objs) (mkSt n env (objs++[.cells w []])):=fun G a wd hR=>by
 refine ⟨G,SubM.refl m G,⟨⟨hR.wf.hS,hR.wf.hU,hR.wf.su,hR.wf.sk,fun o=>?_⟩,hR.env,hR.size,hR.defers⟩⟩
 show ObjRel G (hp wd) o (z56 .fresh (objs++[.cells w []]) o)
 have ho:ObjRel G (hp wd) o (z56 .fresh objs o):=hR.wf.objs o
 rcases Nat.lt_trichotomy o objs.length with h|h|h
 ·have h1:(objs++[AObj.cells w []])[o]?=some objs[o]:=by rw [y58 h,y38 h]
  rw [z58 h1]
  rwa [z58 (y38 h)] at ho
 ·subst h
  rw [z58 (x:=AObj.cells w []) (by simp)]
  rw [z62 (y45 _)] at ho
  exact .inl ⟨rfl,ho⟩
 ·rw [z62 (by simp;omega)]
  rwa [z62 (by omega)] at ho
def z47 {α:Type} (I:α→List (Nat×AC)×List AObj) (ok:α→Prop) (μ:α→Nat) (x:α) (m n:Nat) (st:St):Prop:=∃ y,ok y∧μ y < μ x∧Reach m st (mkSt n (I y).1 (I y).2)
theorem z23 {α:Type} {I:α→List (Nat×AC)×List AObj} {ok:α→Prop} {μ:α→Nat} {x:α} {m n:Nat} {st:St} (y:α) (h1:ok y) (h2:μ y < μ x) (h3:Reach m st (mkSt n (I y).1 (I y).2)):z47 I ok μ x m n st:=⟨y,h1,h2,h3⟩
theorem z65 {α : Type} {m n : Nat} {env : List (Nat × AC)} {objs : List AObj} {body : Code} {Q : Exit → St → Prop} (I : α → List (Nat × AC) × List AObj) (ok : α → Prop) (μ : α → Nat) (x0 : α) (h0 : ok x0) (hinit : Reach m (mkSt n env objs) (mkSt n (I x0).1 (I x0).2))
    (round:∀ x,ok x→AWP P m body (z453 (fun st'=>z47 I ok μ x m n st') Q) (mkSt n (I x).1 (I x).2)):AWP P m (.loop body) Q (mkSt n env objs):=z1083 I ok μ x0 h0 hinit round
theorem z10 {objs:Nat→AObj} {π Bn:List Nat} {o w:Nat} {es es' : List (List AC)} (ho:objs o=.cells w es) (hf:Flat es) (h:F2 (F2 LocLe) es es'):ObjLe (z70 objs π Bn o) (.cells w es'):=by
 rw [z82 ho hf];exact ⟨rfl,h⟩
theorem z37 {α:Type} {f:α→List AC} (h:∀ a,z253 (f a)=f a) (l:List α):z67 (l.map f)=l.map f:=by
 induction l with
 |nil=>rfl
 |cons a l ih=>simp only [List.map_cons,z67,h a,ih]
theorem z17 {a:List (List AC)} (h:Flat a) (n:Nat):Flat (a.take n):=fun e he=>h e (List.mem_of_mem_take he)
theorem z1055 {a:List (List AC)} (h:Flat a) (n:Nat) {e:List AC} (he:z326 e=true):Flat (a.set n e):=fun x hx=>by
 rcases List.mem_or_eq_of_mem_set hx with h1|rfl
 ·exact h x h1
 ·exact he
theorem z106 {α:Type} {f:α→List AC} {l:List α} {k n:Nat} {e:List AC} (hn:n=k) (hk:k < l.length) (he:F2 LocLe e (f (l[k]'hk))):F2 (F2 LocLe) (((l.take k).map f).take n++[e]) ((l.take (k+1)).map f):=by
 subst hn
 rw [y43 hk,y56,y50 (by simp;omega)]
 have:∀ (a:List (List AC)) {b c:List AC},F2 LocLe b c→F2 (F2 LocLe) (a++[b]) (a++[c]):=fun a b c h=>by
  induction a with
  |nil=>exact .cons h .nil
  |cons x a ih=>exact .cons (z277 x) ih
 exact this _ he
theorem z101 {a b:Int} (h:a=b):LocLe (.int a) (.int b):=h ▸ y78 _
theorem end_le {α:Type} {w k:Nat} {f:α→List AC} {l:List α} (h:k=l.length):LocLe (.list w k ((l.take k).map f)) (.list w l.length (l.map f)):=by
 subst h;rw [y49];exact y78 _
theorem z493 {k:Nat} {l:List Tree} (h:k=l.length):LocLe (.list 3 k ((l.take k).map Tree.cs')) (.list 3 l.length (l.map Tree.cs)):=by
 rw [y15];exact end_le h
theorem z357 {l:List Tree} : F2 (F2 LocLe) (l.map Tree.cs') (l.map Tree.cs):=by rw [y15];exact z9 _
theorem Wf.empty {G:Ghost} {objs:List AObj} {wd:World} (w:Nat) (h:Wf G (z33 objs) wd):Wf G (z33 (objs++[.cells w []])) wd:=by
 refine ⟨h.hS,h.hU,h.su,h.sk,fun o=>?_⟩
 show ObjRel G (hp wd) o (z56 .fresh (objs++[.cells w []]) o)
 have ho:ObjRel G (hp wd) o (z56 .fresh objs o):=h.objs o
 rcases Nat.lt_trichotomy o objs.length with h|h|h
 ·have h1:(objs++[AObj.cells w []])[o]?=some objs[o]:=by rw [y58 h,y38 h]
  rw [z58 h1]
  rwa [z58 (y38 h)] at ho
 ·subst h
  rw [z58 (x:=AObj.cells w []) (by simp)]
  rw [z62 (y45 _)] at ho
  exact .inl ⟨rfl,ho⟩
 ·rw [z62 (by simp;omega)]
  rwa [z62 (by omega)] at ho
theorem RetS.empty (w:Nat) {m:Nat} {objs:List AObj} {res:AC} {objs' : List AObj} {r:AC} (h:RetS m (z33 (objs++[.cells w []])) res objs' r):RetS m (z33 objs) res objs' r:=fun G wd v hW hV=>h G wd v (hW.empty w) hV
theorem y4 {f : FuncId} {args : List AC} {objs objs1 objs2 : List AObj} {res res2 : AC} (h : CallsA P f args objs res objs1) (π Bn : List Nat) (hn : z187 (π ++ Bn) = true) (ha : allN (fun o => z144 (z33 objs1 o)) π = true)
    (hf:z225 objs.length 0 π=true) (hr:LocLe (bor (z33 objs1) π Bn res) res2) (ho:F2 ObjLe (π.map (z70 (z33 objs1) π Bn)) objs2):CallsA P f args objs res2 objs2:=by
  refine ⟨h.1,fun G w vs hW hs hv=>(h.2 G w vs hW hs hv).mono ?_⟩
  rintro e w' ⟨G',v,rfl,h1,h2,h3,h4,h5⟩
  have hnd:=z157 hn
  obtain ⟨k1,k2,k3,k4⟩:=z341 (π:=π) (Bn:=Bn) h4 (List.nodup_append.1 hnd).1 (fun o ho hb=>(List.nodup_append.1 hnd).2.2 o ho o hb rfl) (z231 ha)
  refine ⟨_,v,rfl,h1.trans k2,fun o t ho e=>?_,h3,k1.le ho,hr _ _ _ _ (k4 _ _ h5)⟩
  have:=z137 objs.length 0 π hf o ho
  rw [Nat.zero_add] at this
  exact k3 o o t (z188 (List.nodup_append.1 hnd).1 this) (h2 o t ho e)
theorem nils_of {l:List Tree} (h:l=[]):LocLe .nils (.list 3 l.length (l.map Tree.cs)):=by subst h;exact z52
theorem z270 {α:Type} {w n:Nat} {f:α→List AC} {l:List α} (h:n=l.length):LocLe (.list w n (l.map f)) (.list w l.length (l.map f)):=by subst h;exact y78 _
def borX (objs:Nat→AObj) (π Bn:List Nat) (x:AC):AC:=match x with
 |.own w' es'=>.own w' es'
 |x=>bor objs π Bn x
theorem z346 {objs:Nat→AObj} {π Bn:List Nat} {o w:Nat} {es:List (List AC)} (ho:objs o=.cells w es):z70 objs π Bn o=.cells w (es.map (·.map (borX objs π Bn))):=by
 simp only [z70,ho];rfl
theorem z714 {objs:Nat→AObj} {π Bn:List Nat} {es:List (List AC)} (h:Flat es):es.map (·.map (borX objs π Bn))=es:=by
 have:=z82 (objs:=fun _=>.cells 0 es) (π:=π) (Bn:=Bn) (o:=0) rfl h
 conv=>rhs;rw [← List.map_id es]
 refine List.map_congr_left fun e he=>?_
 conv=>rhs;rw [id,← List.map_id e]
 refine List.map_congr_left fun x hx=>?_
 have:=z224.1 (h e he) x hx
 cases x<;>first|rfl|simp [AC.flat] at this
theorem z27 {objs:Nat→AObj} {π Bn:List Nat} {o w:Nat} {A L:List (List AC)} {e:List AC} (ho:objs o=.cells w (A++[e])) (hf:Flat A) (h:F2 (F2 LocLe) (A++[e.map (borX objs π Bn)]) L):ObjLe (z70 objs π Bn o) (.cells w L):=by
 rw [z346 ho,y56,z714 hf]
 exact ⟨rfl,h⟩
theorem z41 {objs:Nat→AObj} {π Bn:List Nat} {o w i:Nat} {A L:List (List AC)} {e:List AC} (ho:objs o=.cells w (A.set i e)) (hf:Flat A) (h:F2 (F2 LocLe) (A.set i (e.map (borX objs π Bn))) L):ObjLe (z70 objs π Bn o) (.cells w L):=by
 rw [z346 ho,List.map_set,z714 hf]
 exact ⟨rfl,h⟩
theorem z617 {A:List (List AC)} {x y:List AC} {k:Nat} (hk:A.length=k) (hA:Flat A) (hy:z326 y=true):Flat ((A++[x]).set k y):=by
 subst hk
 intro e he
 rw [List.set_append_right _ _ (y45 _)] at he
 simp only [Nat.sub_self,List.set_cons_zero,y47,y48] at he
 rcases he with h|rfl
 ·exact hA e h
 ·exact hy
theorem z755 {A L:List (List AC)} {x y:List AC} {k:Nat} (hk:A.length=k) (h:F2 (F2 LocLe) (A++[y]) L):F2 (F2 LocLe) ((A++[x]).set k y) L:=by
 subst hk
 rw [List.set_append_right _ _ (y45 _)]
 simpa using h
theorem z45 {objs:Nat→AObj} {π Bn:List Nat} {o w n:Nat} {es L:List (List AC)} {y:AC} (h1:idx π o=none) (h2:inB Bn o=true) (ho:objs o=.cells w es) (hu:z67 es=L) (hl:es.length=n) (h:LocLe (.list w n L) y):LocLe (bor objs π Bn (.sref o 0 n)) y:=by
 rw [z301 ho h1 h2 hl,hu];exact h
theorem z182 {a b a' b' : List (List AC)} (h:z67 a=a') (k:z67 b=b'):z67 (a++b)=a'++b':=by
 subst h k
 induction a with
 |nil=>rfl
 |cons e a ih=>simp only [List.cons_append,z67,ih]
theorem z288 {a a' : List (List AC)} (h:z67 a=a') (n:Nat):z67 (a.take n)=a'.take n:=by
 subst h
 induction a generalizing n with
 |nil=>simp [z67]
 |cons e a ih =>
  cases n with
  |zero=>rfl
  |succ n=>simp only [List.take_succ_cons,z67,ih]
theorem z815 {a a' : List (List AC)} (h:z67 a=a') (n:Nat) (e:List AC):z67 (a.set n e)=a'.set n (z253 e):=by
 subst h
 induction a generalizing n with
 |nil=>simp [z67]
 |cons x a ih =>
  cases n with
  |zero=>rfl
  |succ n=>simp only [List.set_cons_succ,z67,ih]
theorem z199 {α:Type} {f:α→List AC} {l:List α} {i j:Nat} {e:List AC} {x:α} (hj:j=i) (he:F2 LocLe e (f x)):F2 (F2 LocLe) ((l.map f).set j e) ((l.set i x).map f):=by
 subst hj
 rw [List.map_set]
 have:∀ (l:List (List AC)) (j:Nat) {e e' : List AC},F2 LocLe e e'→F2 (F2 LocLe) (l.set j e) (l.set j e'):=fun l=>by
  induction l with
  |nil=>intro j _ _ _;exact .nil
  |cons x l ih =>
   intro j e e' h
   cases j with
   |zero=>exact .cons h (z9 _)
   |succ j=>exact .cons (z277 _) (ih j h)
 exact this _ _ he
theorem z69 {α:Type} {f:α→List AC} {l:List α} {n:Nat} {e:List AC} {x:α} (hn:l.length≤n) (he:F2 LocLe e (f x)):F2 (F2 LocLe) ((l.map f).take n++[e]) ((l++[x]).map f):=by
 rw [y50 (by simpa using hn),y56]
 have:∀ (a:List (List AC)) {b c:List AC},F2 LocLe b c→F2 (F2 LocLe) (a++[b]) (a++[c]):=fun a b c h=>by
  induction a with
  |nil=>exact .cons h .nil
  |cons x a ih=>exact .cons (z277 x) ih
 exact this _ he
theorem RetS.mid (π Bn : List Nat) (objs1 : List AObj) (r1 : AC) {m : Nat} {o : Nat → AObj} {res : AC} {objs' : List AObj} {r : AC} (hn : z187 (π ++ Bn) = true) (ha : allN (fun x => z144 (o x)) π = true) (hf : z225 m 0 π = true)
    (hr:LocLe (bor o π Bn r) r1) (ho:F2 ObjLe (π.map (z70 o π Bn)) objs1) (h:RetS m (z33 objs1) res objs' r1):RetS m o res objs' r :=
  y11 π Bn hn ha hf fun G w v hW hV=>h G w v (hW.le ho) (hr _ _ _ _ hV)
theorem z845 (a:List (List AC)) {b c:List AC} (h:F2 LocLe b c):F2 (F2 LocLe) (a++[b]) (a++[c]):=by
 induction a with
 |nil=>exact .cons h .nil
 |cons x a ih=>exact .cons (z277 x) ih
theorem app2_le {A:List (List AC)} {n:Nat} {e e' : List AC} (hn:A.length≤n) (h:F2 LocLe e e'):F2 (F2 LocLe) (A.take n++[e]) (A++[e']):=by
 rw [y50 hn];exact z845 A h
theorem app3_le {α:Type} {f:α→List AC} {l:List α} {e:List AC} {x:α} (h:F2 LocLe e (f x)):F2 (F2 LocLe) (l.map f++[e]) ((l++[x]).map f):=by
 rw [y56];exact z845 _ h
theorem z997 {objs:Nat→AObj} {π Bn:List Nat} {o w i j:Nat} {A L:List (List AC)} {e x:List AC} (ho:objs o=.cells w ((A.set i x).set j e)) (hj:j=i) (hf:Flat A) (h:F2 (F2 LocLe) (A.set i (e.map (borX objs π Bn))) L):ObjLe (z70 objs π Bn o) (.cells w L):=by
 subst hj
 rw [List.set_set] at ho
 exact z41 ho hf h
theorem set2_le {A:List (List AC)} {i j:Nat} {e e' : List AC} (hj:j=i) (he:F2 LocLe e e'):F2 (F2 LocLe) (A.set j e) (A.set i e'):=by
 subst hj
 induction A generalizing j with
 |nil=>exact .nil
 |cons x l ih =>
  cases j with
  |zero=>exact .cons he (z9 _)
  |succ j=>exact .cons (z277 _) ih
theorem z34 {o n n' : Nat} (h:n=n'):LocLe (.sref o 0 n) (.sref o 0 n'):=h ▸ y78 _
theorem z1087 {α:Type} {f:α→List AC} {l l2:List α} {n:Nat} (hn:l.length≤n):F2 (F2 LocLe) ((l.map f).take n++l2.map f) ((l++l2).map f):=by
 rw [y50 (by simpa using hn),y56];exact z9 _
def cat {α:Type} (n:Nat) (f:Nat→List α):List α:=(List.range n).flatMap f
theorem z853 {α:Type} (f:Nat→List α):cat 0 f=[]:=rfl
theorem z364 {α:Type} (n:Nat) (f:Nat→List α):cat (n+1) f=cat n f++f n:=by
 unfold cat;rw [y54,List.flatMap_append];simp
theorem z604 {α:Type} {n:Nat} {f:Nat→List α} {x:α} (h:x∈cat n f):∃ i,i < n∧x∈f i:=by
 unfold cat at h
 obtain ⟨i,hi,hx⟩:=List.mem_flatMap.1 h
 exact ⟨i,List.mem_range.1 hi,hx⟩
theorem z625 {α:Type} {n c:Nat} {f:Nat→List α} (h:∀ i,i < n→(f i).length≤c):(cat n f).length≤n * c:=by
 induction n with
 |zero=>simp [cat]
 |succ n ih =>
  rw [z364,y40,Nat.add_mul]
  have:=ih fun i hi=>h i (by omega)
  have:=h n (by omega)
  omega
theorem z76 {objs:Nat→AObj} {π Bn:List Nat} {o w n:Nat} {es L:List (List AC)} {y:AC} (h1:idx π o=none) (h2:inB Bn o=true) (ho:objs o=.cells w es) (hu:z67 es=L) (hl:es.length=n) (h:LocLe (.list w n L) y):LocLe (borX objs π Bn (.sref o 0 n)) y:=z45 h1 h2 ho hu hl h
abbrev y79 := @ObjLe.box
abbrev y80 := @Reach.empty
abbrev y81 := @RetS.empty
end Go.Gl
namespace Go.Gl
def build (N:Nat) (ps:List (Nat×Int)):List (List Int):=(List.range N).map fun r=>(ps.filter (fun p=>p.1 == r)).map (·.2)
theorem z85 (N:Nat) (ps:List (Nat×Int)):(build N ps).length=N:=by simp [build]
theorem z365 {N:Nat} {ps:List (Nat×Int)} {i:Nat} (h:i < (build N ps).length):(build N ps)[i]=(ps.filter (fun p=>p.1 == i)).map (·.2):=by
 simp [build]
theorem z926 {N:Nat} {ps:List (Nat×Int)} {i:Nat} {v:Int} (h:i < (build N ps).length):build N (ps++[(i,v)])=(build N ps).set i ((build N ps)[i]++[v]):=by
 apply y67 (by simp [build])
 intro j h1 h2
 rw [List.getElem_set]
 simp only [z365]
 by_cases hj:i=j
 ·subst hj;rw [if_pos rfl];simp
 ·rw [if_neg hj];simp [hj]
theorem z1074 (N:Nat):build N []=List.replicate N []:=by
 apply y67 (by simp [build])
 intro j h1 h2
 simp [z365]
def z80 (r:List Int):List AC:=[.own 1 (r.map fun n=>[AC.raw (.int .i64 n)])]
theorem z985 {N : Nat} {ps : List (Nat × Int)} {i : Nat} {v : Int} {a b : List AC} (h : i < (build N ps).length) :
    ((((build N ps).map z80).set i a).set i b).set i (z80 ((build N ps)[i]++[v]))=(build N (ps++[(i,v)])).map z80:=by
  rw [List.set_set,List.set_set,z926 h,List.map_set]
theorem rows_push' {N : Nat} {ps : List (Nat × Int)} {i n len : Nat} {v : Int} {a b : List AC} (h : i < (build N ps).length) (hn : n = i) (hl : len = (build N ps)[i].length) :
    ((((build N ps).map z80).set i a).set n b).set i [.own 1 ((((build N ps)[i].map fun n=>[AC.raw (.int .i64 n)]).take len)++[[AC.raw (.int .i64 v)]])]=(build N (ps++[(i,v)])).map z80:=by
  subst hn hl
  rw [← z985 h (a:=a) (b:=b)]
  congr 1
  simp only [z80]
  rw [y50 (by simp),y56]
  rfl
theorem z1046 {es:List (List AC)} {i n:Nat} {r:List AC} (h:n=i) (hi:i < es.length):(es.set n r)[i]?=some r:=by
 subst h;exact List.getElem?_set_self hi
theorem z246 {α β:Type} {f:α→List β} {c:Nat} : ∀ (l:List α),(∀ x∈l,(f x).length≤c)→(l.flatMap f).length≤l.length * c:=by
 intro l
 induction l with
 |nil=>intro _;simp
 |cons x l ih =>
  intro h
  have h1:=h x (by simp)
  have h2:=ih fun y hy=>h y (by simp [hy])
  rw [List.flatMap_cons,y40,y51,Nat.add_mul]
  omega
theorem z557 {α β:Type} {f g:α→List β} : ∀ {l:List α},(∀ x∈l,f x=g x)→l.flatMap f=l.flatMap g:=by
 intro l
 induction l with
 |nil=>intro _;rfl
 |cons x l ih =>
  intro h
  rw [List.flatMap_cons,List.flatMap_cons,h x (by simp),ih fun y hy=>h y (by simp [hy])]
theorem z283 {N:Nat} {ps:List (Nat×Int)} {i:Nat} (h:i < (build N ps).length):(build N ps)[i].length≤ps.length:=by
 rw [z365,y42]
 exact List.length_filter_le _ _
theorem z827 (N:Nat):(build N []).map z80=List.replicate N [.own 1 []]:=by
 rw [z1074,List.map_replicate];rfl
theorem z20 {α:Type} {l:List α} {i:Nat} {d:α} (h:i < l.length):l.getD i d=l[i]:=by
 rw [y60,y38 h];rfl
theorem z169 {a b A B:Int} (h1:0≤a) (h2:a≤A) (h3:0≤b) (h4:b≤B):0≤a * b∧a * b≤A * B :=
 ⟨Int.mul_nonneg h1 h3,Int.mul_le_mul h2 h4 h3 (by omega)⟩
theorem z170 {α β:Type} (f:α→List β) (l:List α) (k:Nat) (h:k < l.length):(l.drop k).flatMap f=f l[k]++(l.drop (k+1)).flatMap f:=by
 rw [y71 h,List.flatMap_cons]
theorem z109 {α β:Type} (f:α→List β) (l:List α) (k:Nat) (h:l.length≤k):(l.drop k).flatMap f=[]:=by
 rw [y75 h];rfl
section gen
variable {α:Type}
def z105 (N:Nat) (ps:List (Nat×α)):List (List α):=(List.range N).map fun r=>(ps.filter (fun p=>p.1 == r)).map (·.2)
theorem z148 (N:Nat) (ps:List (Nat×α)):(z105 N ps).length=N:=by simp [z105]
theorem z299 {N:Nat} {ps:List (Nat×α)} {i:Nat} (h:i < (z105 N ps).length):(z105 N ps)[i]=(ps.filter (fun p=>p.1 == i)).map (·.2):=by
 simp [z105]
theorem z801 {N:Nat} {ps:List (Nat×α)} {i:Nat} {v:α} (h:i < (z105 N ps).length):z105 N (ps++[(i,v)])=(z105 N ps).set i ((z105 N ps)[i]++[v]):=by
 apply y67 (by simp [z105])
 intro j h1 h2
 rw [List.getElem_set]
 simp only [z299]
 by_cases hj:i=j
 ·subst hj;rw [if_pos rfl];simp
 ·rw [if_neg hj];simp [hj]
theorem z927 (N:Nat):z105 N ([]:List (Nat×α))=List.replicate N []:=by
 apply y67 (by simp [z105])
 intro j h1 h2
 simp [z299]
def ownG (w:Nat) (f:α→List AC) (r:List α):List AC:=[.own w (r.map f)]
theorem z882 {w : Nat} {f : α → List AC} {N : Nat} {ps : List (Nat × α)} {i n len : Nat} {v : α} {a b e : List AC} (h : i < (z105 N ps).length) (hn : n = i) (hl : len = (z105 N ps)[i].length) (he : e = f v) :
    ((((z105 N ps).map (ownG w f)).set i a).set n b).set i [.own w ((((z105 N ps)[i].map f).take len)++[e])]=(z105 N (ps++[(i,v)])).map (ownG w f):=by
  subst hn hl he
  rw [List.set_set,List.set_set,z801 h,List.map_set]
  congr 1
  simp only [ownG]
  rw [y50 (by simp),y56]
  rfl
theorem z986 (w:Nat) (f:α→List AC) (N:Nat):(z105 N []).map (ownG w f)=List.replicate N [.own w []]:=by
 rw [z927,List.map_replicate];rfl
theorem z627 {N:Nat} {ps:List (Nat×α)} {i:Nat} (h:i < (z105 N ps).length):(z105 N ps)[i].length≤ps.length:=by
 rw [z299,y42]
 exact List.length_filter_le _ _
theorem z761 {w:Nat} {f:α→List AC} (hf:∀ a,∀ x∈f a,x.unown=x) (l:List (List α)):z67 (l.map (ownG w f))=l.map fun r=>[AC.list w r.length (r.map f)]:=by
 rw [z177,List.map_map]
 refine List.map_congr_left fun r _=>?_
 show [AC.list w _ (z67 _)]=_
 rw [z319 hf]
 simp
end gen
end Go.Gl
namespace Go.Gl
def z307 (k:Int):Int:=if k=1∨k=2 then 0 else if k=3 then 1 else if 4≤k∧k≤9 then 2 else -1
def z388 (k:Int):Int:=if k=1 then 3 else if k=2 then 2 else 0
mutual
def Tree.walkE (t:Tree) (d n:Int):Int×Bool:=match t with
 |.mk k v l=>if d≤6∧n+1≤15∧0≤v∧v≤z388 k∧(l.length:Int)=z307 k then Tree.walkEs l (d+1) (n+1) else (n+1,false)
def Tree.walkEs (l:List Tree) (d n:Int):Int×Bool:=match l with
 |[]=>(n,true)
 |t::r=>if (Tree.walkE t d n).2 then Tree.walkEs r d (Tree.walkE t d n).1 else ((Tree.walkE t d n).1,false)
end
mutual
def Tree.shape (t:Tree) (d:Int):Bool:=match t with
 |.mk k v l=>decide (1≤d∧(l.length:Int)=z307 k∧0≤v∧v≤z388 k) && Tree.shapes l (d - 1)
def Tree.shapes (l:List Tree) (d:Int):Bool:=match l with
 |[]=>true
 |t::r=>Tree.shape t d && Tree.shapes r d
end
mutual
def Tree.count (t:Tree) (d:Int):Int:=match t with
 |.mk _ _ l=>if 0 < d then 1+Tree.counts l (d - 1) else 1
def Tree.counts (l:List Tree) (d:Int):Int:=match l with
 |[]=>0
 |t::r=>Tree.count t d+Tree.counts r d
end
theorem Tree.rec2 {p:Tree→Prop} {q:List Tree→Prop} (h:∀ k v l,q l→p (.mk k v l)) (h0:q []) (h1:∀ t r,p t→q r→q (t::r)):(∀ t,p t)∧∀ l,q l :=
  ⟨fun t=>Tree.rec (motive_1:=p) (motive_2:=q) (fun k v l ih=>h k v l ih) h0 (fun _ _ a b=>h1 _ _ a b) t,
   fun l=>Tree.rec_1 (motive_1:=p) (motive_2:=q) (fun k v l ih=>h k v l ih) h0 (fun _ _ a b=>h1 _ _ a b) l⟩
theorem Tree.count_pos:(∀ (t:Tree) d,1≤t.count d)∧∀ (l:List Tree) d,0≤Tree.counts l d:=by
 refine Tree.rec2 (p:=fun t=>∀ d,1≤t.count d) (q:=fun l=>∀ d,0≤Tree.counts l d) ?_ ?_ ?_
 ·intro k v l ih d
  have:=ih (d - 1)
  simp only [Tree.count];split<;>omega
 ·intro d;simp [Tree.counts]
 ·intro t r h1 h2 d
  have:=h1 d;have:=h2 d
  simp only [Tree.counts];omega
theorem Tree.walkE_spec : (∀ (t : Tree) d n, 0 ≤ n → n ≤ 15 → ((t.walkE d n).2 = true ↔ t.shape (7 - d) = true ∧ n + t.count (7 - d) ≤ 15) ∧ ((t.walkE d n).2 = true → (t.walkE d n).1 = n + t.count (7 - d)) ∧ n ≤ (t.walkE d n).1 ∧ (t.walkE d n).1 ≤ 16) ∧
  ∀ (l:List Tree) d n,0≤n→n≤15→((Tree.walkEs l d n).2=true↔Tree.shapes l (7 - d)=true∧n+Tree.counts l (7 - d)≤15)∧((Tree.walkEs l d n).2=true→(Tree.walkEs l d n).1=n+Tree.counts l (7 - d))∧n≤(Tree.walkEs l d n).1∧(Tree.walkEs l d n).1≤16:=by
 refine Tree.rec2 ?_ ?_ ?_
 ·intro k v l ih d n h0 h1
  simp only [Tree.walkE,Tree.shape,Tree.count,y63,decide_eq_true_eq]
  have hc:=Tree.count_pos.2 l (7 - d - 1)
  by_cases hb:d≤6∧n+1≤15∧0≤v∧v≤z388 k∧(l.length:Int)=z307 k
  ·rw [if_pos hb,if_pos (by omega)]
   have:=ih (d+1) (n+1) (by omega) hb.2.1
   rw [show 7 - (d+1)=7 - d - 1 by omega] at this
   obtain ⟨a1,a2,a3,a4⟩:=this
   refine ⟨?_,?_,by omega,by omega⟩
   ·rw [a1]
    constructor
    ·rintro ⟨b1,b2⟩;exact ⟨⟨⟨by omega,hb.2.2.2.2,hb.2.2.1,hb.2.2.2.1⟩,b1⟩,by omega⟩
    ·rintro ⟨b1,b2⟩;exact ⟨b1.2,by omega⟩
   ·intro h;rw [a2 h];omega
  ·rw [if_neg hb]
   refine ⟨⟨by simp,?_⟩,by simp,by simp only;omega,by simp only;omega⟩
   rintro ⟨⟨⟨b1,b2,b3,b4⟩,b5⟩,b6⟩
   rw [if_pos (by omega)] at b6
   exact absurd ⟨by omega,by omega,b3,b4,b2⟩ hb
 ·intro d n h0 h1
  simp [Tree.walkEs,Tree.shapes,Tree.counts];omega
 ·intro t r iht ihr d n h0 h1
  simp only [Tree.walkEs,Tree.shapes,Tree.counts,y63]
  obtain ⟨a1,a2,a3,a4⟩:=iht d n h0 h1
  have hc:=Tree.count_pos.2 r (7 - d)
  by_cases hb:(t.walkE d n).2=true
  ·rw [if_pos hb]
   have e:=a2 hb
   obtain ⟨b1,b2,b3,b4⟩:=ihr d (t.walkE d n).1 (by omega) (by rw [e];exact (a1.1 hb).2)
   refine ⟨?_,fun h=>by rw [b2 h,e];omega,by omega,b4⟩
   rw [b1,e]
   exact ⟨fun h=>⟨⟨(a1.1 hb).1,h.1⟩,by omega⟩,fun h=>⟨h.1.2,by omega⟩⟩
  ·rw [if_neg hb]
   refine ⟨⟨by simp,fun h=>absurd (a1.2 ⟨h.1.1,by omega⟩) hb⟩,by simp,a3,a4⟩
theorem y34 (t:Tree) (d n:Int):t.walkE d n=if d≤6∧n+1≤15∧0≤t.val∧t.val≤z388 t.kind∧(t.kids.length:Int)=z307 t.kind then Tree.walkEs t.kids (d+1) (n+1) else (n+1,false):=by
 cases t;rfl
theorem y35 (d:Int) (l:List Tree):∀ n k,Tree.walkEs l d n=((idxS (fun (x:Tree) s=>!(x.walkE d s).2) (fun x s=>(x.walkE d s).1) l n k).2,!decide (0≤(idxS (fun (x:Tree) s=>!(x.walkE d s).2) (fun x s=>(x.walkE d s).1) l n k).1)):=by
 induction l with
 |nil=>intro n k;simp [Tree.walkEs,idxS]
 |cons t l ih =>
  intro n k
  simp only [Tree.walkEs,idxS]
  cases h:(t.walkE d n).2
  ·simp
  ·simp only [if_true,Bool.not_true,Bool.false_eq_true,if_false];exact ih _ _
def Tree.exprB (t:Tree):Bool:=(t.walkE 1 0).2
theorem y17 (t:Tree):t.exprB=(t.shape 6 && decide (t.count 6≤15)):=by
 have h:=(Tree.walkE_spec.1 t 1 0 (by omega) (by omega)).1
 rw [show (7:Int) - 1=6 by omega,Int.zero_add] at h
 rw [Bool.eq_iff_iff,y63,decide_eq_true_eq]
 exact h
def b2i (b:Bool):Int:=if b then 1 else 0
mutual
def Tree.ev (v:List Int) (t:Tree):Int:=match t with
 |.mk k x l=>if k=1 then x else if k=2 then v.getD x.toNat 0 else match Tree.evs v l with
  |[a]=>b2i (decide (a=0))
  |[a,b]=>if k=4 then b2i (decide (a≠0∧b≠0)) else if k=5 then b2i (decide (a≠0∨b≠0)) else if k=6 then b2i (decide (a=b)) else if k=7 then b2i (decide (a < b)) else if k=8 then (a+b) % 4 else (a - b+4) % 4
  |_=>0
def Tree.evs (v:List Int) (l:List Tree):List Int:=match l with
 |[]=>[]
 |t::r=>Tree.ev v t::Tree.evs v r
end
def Tree.good (t:Tree):Prop:=∃ d,t.shape d=true
theorem y29 (l:List Tree) (d:Int):Tree.shapes l d=true↔∀ t∈l,t.shape d=true:=by
 induction l with
 |nil=>simp [Tree.shapes]
 |cons t l ih=>simp [Tree.shapes,ih]
theorem y23 {t:Tree} (h:t.exprB=true):t.good:=by
 rw [y17,y63] at h
 exact ⟨_,h.1⟩
theorem y22 {t:Tree} (h:t.good):(t.kids.length:Int)=z307 t.kind∧0≤t.val∧t.val≤z388 t.kind∧∀ u∈t.kids,u.good:=by
 obtain ⟨d,h⟩:=h
 cases t with
 |mk k v l =>
  simp only [Tree.shape,y63,decide_eq_true_eq] at h
  exact ⟨h.1.2.1,h.1.2.2.1,h.1.2.2.2,fun u hu=>⟨_,(y29 _ _).1 h.2 u hu⟩⟩
theorem z716 (b:Bool):0≤b2i b∧b2i b≤3:=by unfold b2i;split<;>omega
def ValsOk (v:List Int):Prop:=v.length=3∧∀ x∈v,0≤x∧x≤3
theorem ValsOk.get {v:List Int} (h:ValsOk v) (i:Nat):0≤v.getD i 0∧v.getD i 0≤3:=by
 rw [y60]
 by_cases hi:i < v.length
 ·rw [y38 hi]
  exact h.2 _ (y37 _)
 ·rw [y61 (by omega)];simp
theorem y16 {v:List Int} (hv:ValsOk v) (t:Tree):t.good→0≤t.ev v∧t.ev v≤3:=by
 induction t using y24 with|h t ih=>?_
 intro hg
 obtain ⟨h1,h2,h3,h4⟩:=y22 hg
 cases t with
 |mk k x l =>
  simp only [Tree.kind,Tree.val,Tree.kids] at *
  simp only [Tree.ev]
  split
  ·rename_i hk;subst hk;simp [z388] at h3;omega
  split
  ·exact hv.get _
  ·split
   ·exact z716 _
   ·rename_i a b hab
    repeat (first|(split;· first|exact z716 _|omega)|omega)
   ·omega
mutual
def Tree.co:Tree→List AC
 |.mk k v l=>[.int k,.int v,.own 3 (Tree.cos l)]
def Tree.cos:List Tree→List (List AC)
 |[]=>[]
 |t::l=>Tree.co t::Tree.cos l
end
def marks (k:Int) (n:Nat):List Int:=(List.range n).map fun i:Nat=>k+i
theorem z12 {es:List (List AC)} {i n:Nat} {r:List AC} {K:List AC→Prop} (h:n=i) (hg:es[i]?=some r) (k:K r):∃ e,es[n]?=some e∧K e:=⟨r,by rw [h];exact hg,k⟩
theorem z300 {objs:Nat→AObj} {π Bn:List Nat} {o w n:Nat} {es L:List (List AC)} (ho:objs o=.cells w es) (h1:idx π o=none) (h2:inB Bn o=true) (hl:es.length=n) (hu:z67 es=L):bor objs π Bn (.sref o 0 n)=.list w n L:=by
 rw [z301 ho h1 h2 hl,hu]
theorem bor_agg {objs:Nat→AObj} {π Bn:List Nat} {xs ys:List AC} (h:borL objs π Bn xs=ys):bor objs π Bn (.agg xs)=.agg ys:=by
 simp only [bor,h]
theorem z78 {objs:Nat→AObj} {π Bn:List Nat} : borL objs π Bn []=[]:=rfl
theorem z54 {objs:Nat→AObj} {π Bn:List Nat} {x y:AC} {xs ys:List AC} (h:bor objs π Bn x=y) (k:borL objs π Bn xs=ys):borL objs π Bn (x::xs)=y::ys:=by
 simp only [borL,h,k]
section
variable {P:Program}
theorem Wf.phantoms {G:Ghost} {w0:World} (hW:Wf G (z33 []) w0) {l:List AObj} (h:∀ x∈l,∃ w,x=.cells w []):Wf G (z33 l) w0:=by
 refine ⟨hW.hS,hW.hU,hW.su,hW.sk,fun o=>?_⟩
 have hι:G.ι o=none:=by
  have:=hW.objs o
  have e:z33 [] o=.fresh:=by simp [z33,z56]
  rw [e] at this;exact this
 show ObjRel G (hp w0) o (z33 l o)
 rcases y62 o l.length with h1|h1
 ·obtain ⟨w,hw⟩:=h _ (y37 h1)
  have:z33 l o=.cells w []:=by
   rw [← hw];unfold z33;exact z58 (y38 h1)
  rw [this];exact .inl ⟨rfl,hι⟩
 ·have:z33 l o=.fresh:=z62 h1
  rw [this];exact hι
theorem CallsA.nils {f:FuncId} {args:List AC} {res res' : AC} {l:List AObj} (h:CallsA P f args [] res []) (hl:∀ x∈l,∃ w,x=.cells w []) (hr:ACle res res'):CallsA P f args [] res' l:=by
 refine ⟨h.1,fun G w vs hW hs hv=>(h.2 G w vs hW hs hv).mono ?_⟩
 rintro e w' ⟨G',v,rfl,h1,h2,h3,h4,h5⟩
 exact ⟨G',v,rfl,h1,h2,h3,h4.phantoms hl,hr _ _ _ h5⟩
end
theorem z599 {o:Nat} : ACle .nils (.sref o 0 0):=fun G h v hv=>by
 simp only [V] at hv ⊢
 exact ⟨0,y45 _,.inl ⟨rfl,none,hv⟩⟩
end Go.Gl
namespace Go.Gl
inductive RP (rows:List (List Int)) (ini:List Int):Int→Prop
 |base {x:Int} : x∈ini→RP rows ini x
 |step {x y:Int} : RP rows ini x→y∈rows.getD x.toNat []→RP rows ini y
def InN (N:Nat) (l:List Int):Prop:=∀ x∈l,0≤x∧x < N
def mkB (N:Nat) (S:List Int):List Bool:=(List.range N).map fun v:Nat=>decide ((v:Int)∈S)
theorem mkB_len (N:Nat) (S:List Int):(mkB N S).length=N:=by simp [mkB]
theorem z773 (N:Nat):mkB N []=List.replicate N false:=by
 apply y67 (by simp [mkB])
 intro i h1 h2
 simp [mkB]
theorem mkB_get {N:Nat} {S:List Int} {v:Int} (h0:0≤v) (h1:v < N):(mkB N S)[v.toNat]?=some (decide (v∈S)):=by
 unfold mkB
 rw [y44,List.getElem?_range (by omega)]
 simp [Int.toNat_of_nonneg h0]
theorem mkB_set {N:Nat} {S S' : List Int} {v:Int} (h0:0≤v) (h1:v < N) (hs:∀ x,x∈S'↔x∈S∨x=v):(mkB N S).set v.toNat true=mkB N S':=by
 apply y67 (by simp [mkB])
 intro i h2 h3
 rw [List.getElem_set]
 simp only [mkB,List.getElem_map,List.getElem_range]
 have:=hs i
 by_cases h:v.toNat=i
 ·rw [if_pos h]
  have:(i:Int)=v:=by omega
  symm;rw [decide_eq_true_eq];exact (hs i).2 (.inr this)
 ·rw [if_neg h]
  have h4:¬ (i:Int)=v:=by omega
  simp only [decide_eq_decide]
  rw [this];simp [h4]
section
variable {enc:Bool→List AC}
theorem z276 {N n:Nat} {S:List Int} {v:Int} {K:List AC→Prop} (h:n=v.toNat) (h0:0≤v) (h1:v < N) (k:K (enc (decide (v∈S)))):∃ e,((mkB N S).map enc)[n]?=some e∧K e :=
 ⟨_,by rw [h,y44,mkB_get h0 h1];rfl,k⟩
theorem z380 {N n:Nat} {S S' : List Int} {v:Int} (h:n=v.toNat) (h0:0≤v) (h1:v < N) (hs:∀ x,x∈S'↔x∈S∨x=v):((mkB N S).map enc).set n (enc true)=(mkB N S').map enc:=by
 rw [h,← mkB_set h0 h1 hs,List.map_set]
end
noncomputable instance {rows:List (List Int)} {ini:List Int} {x:Int} : Decidable (RP rows ini x):=Classical.propDecidable _
noncomputable def z220 (rows:List (List Int)) (ini:List Int):List Bool:=(List.range rows.length).map fun v:Nat=>decide (RP rows ini v)
theorem z994 {rows:List (List Int)} {ini S:List Int} (h:∀ v:Nat,v < rows.length→((v:Int)∈S↔RP rows ini v)):mkB rows.length S=z220 rows ini:=by
 unfold mkB z220
 refine List.map_congr_left fun v hv=>?_
 simp only [decide_eq_decide]
 exact h v (List.mem_range.1 hv)
theorem z546 (rows:List (List Int)) (ini:List Int):(z220 rows ini).length=rows.length:=by simp [z220]
def cntU:Nat→List Int→Nat
 |0,_=>0
 |n+1,S=>cntU n S+(if (n:Int)∈S then 0 else 1)
theorem cntU_le {S S' : List Int} (h:∀ x∈S,x∈S') (n:Nat):cntU n S'≤cntU n S:=by
 induction n with
 |zero=>exact y45 _
 |succ n ih =>
  simp only [cntU]
  by_cases h1:(n:Int)∈S
  ·rw [if_pos h1,if_pos (h _ h1)];omega
  ·rw [if_neg h1];split<;>omega
theorem cntU_lt {S S' : List Int} {v:Int} (h:∀ x∈S,x∈S') (hv:v ∉ S) (hv' : v∈S') (n:Nat) (h0:0≤v) (h1:v < n):cntU n S'+1≤cntU n S:=by
 induction n with
 |zero=>omega
 |succ n ih =>
  simp only [cntU]
  by_cases h2:v=n
  ·subst h2
   rw [if_pos hv',if_neg hv]
   have:=cntU_le h n
   omega
  ·have:=ih (by omega)
   by_cases h3:(n:Int)∈S
   ·rw [if_pos h3,if_pos (h _ h3)];omega
   ·rw [if_neg h3];split<;>omega
theorem z922 (n:Nat) (S:List Int):cntU n S≤n:=by
 induction n with
 |zero=>exact y45 _
 |succ n ih=>simp only [cntU];split<;>omega
def z154 (out:List Int) (v:Int):List Int:=if v∈out then out else out++[v]
def z73 (out l:List Int):List Int:=l.foldl z154 out
def bfs (rows:List (List Int)) (ini:List Int):Nat→List Int
 |0=>z73 [] ini
 |i+1=>if h:i < (bfs rows ini i).length then z73 (bfs rows ini i) (rows.getD ((bfs rows ini i)[i]).toNat []) else bfs rows ini i
def bfsL (rows:List (List Int)) (ini:List Int):List Int:=bfs rows ini rows.length
theorem z638 {out:List Int} {v x:Int} : x∈z154 out v↔x∈out∨x=v:=by
 unfold z154;split
 ·rename_i h
  constructor
  ·exact .inl
  ·rintro (h1|rfl)<;>assumption
 ·simp
theorem z211 {out l:List Int} {x:Int} : x∈z73 out l↔x∈out∨x∈l:=by
 unfold z73
 induction l generalizing out with
 |nil=>simp
 |cons v l ih=>rw [List.foldl_cons,ih,z638];simp [or_assoc]
theorem z733 {out:List Int} {v:Int} (h:out.Nodup):(z154 out v).Nodup:=by
 unfold z154;split
 ·exact h
 ·rename_i hv
  rw [y68]
  exact ⟨h,by simp,fun a ha b hb=>by rintro rfl;rw [List.mem_singleton.1 hb] at ha;exact hv ha⟩
theorem z135 {out l:List Int} (h:out.Nodup):(z73 out l).Nodup:=by
 unfold z73
 induction l generalizing out with
 |nil=>exact h
 |cons v l ih=>exact ih (z733 h)
theorem z448 (out:List Int) (v:Int):∃ t,z154 out v=out++t:=by
 unfold z154;split
 ·exact ⟨[],by simp⟩
 ·exact ⟨_,rfl⟩
theorem z371 (out l:List Int):∃ t,z73 out l=out++t:=by
 unfold z73
 induction l generalizing out with
 |nil=>exact ⟨[],by simp⟩
 |cons v l ih =>
  obtain ⟨t,ht⟩:=z448 out v
  obtain ⟨t',ht'⟩:=ih (z154 out v)
  exact ⟨t++t',by rw [List.foldl_cons,ht',ht,List.append_assoc]⟩
theorem z732 (out l:List Int) (v:Int):z73 out (l++[v])=z154 (z73 out l) v:=by simp [z73]
theorem z233 {out l:List Int} {k:Nat} (h:k < l.length):z73 out (l.take (k+1))=z154 (z73 out (l.take k)) l[k]:=by
 rw [y43 h,z732]
theorem z129:∀ (N:Nat) (l:List Int),l.Nodup→InN N l→l.length≤N
 |0,l,_,h=>by
  cases l with
  |nil=>exact y45 _
  |cons a l=>have:=h a (by simp);omega
 |N+1,l,hn,h=>by
  by_cases hN:(N:Int)∈l
  ·have h1:=z129 N (l.erase N) (hn.erase _) fun x hx=>by
    have h2:=(hn.mem_erase_iff).1 hx
    have h3:=h x h2.2
    have h4:=h2.1
    omega
   rw [List.length_erase_of_mem hN] at h1
   have:0 < l.length:=List.length_pos_of_mem hN
   omega
  ·have h1:=z129 N l hn fun x hx=>by
    have h3:=h x hx
    have h4:x≠N:=by rintro rfl;exact hN hx
    omega
   omega
theorem z212 {N:Nat} {out l:List Int} (h:InN N out) (hl:InN N l):InN N (z73 out l):=fun x hx=>by
 rcases z211.1 hx with h1|h1
 ·exact h x h1
 ·exact hl x h1
section
variable {rows:List (List Int)} {ini:List Int}
theorem z197 {N:Nat} (hr:∀ r∈rows,InN N r) (v:Int):InN N (rows.getD v.toNat []):=by
 by_cases h:v.toNat < rows.length
 ·rw [z20 h];exact hr _ (y37 _)
 ·rw [y60,y61 (by omega)];intro x hx;cases hx
theorem z368 {N:Nat} (hr:∀ r∈rows,InN N r) (hi:InN N ini) (i:Nat):InN N (bfs rows ini i):=by
 induction i with
 |zero=>exact z212 (fun x hx=>by cases hx) hi
 |succ i ih =>
  rw [bfs];split
  ·exact z212 ih (z197 hr _)
  ·exact ih
theorem z510 (i:Nat):(bfs rows ini i).Nodup:=by
 induction i with
 |zero=>exact z135 (by simp)
 |succ i ih =>
  rw [bfs];split
  ·exact z135 ih
  ·exact ih
theorem z398 (hr:∀ r∈rows,InN rows.length r) (hi:InN rows.length ini) (i:Nat):(bfs rows ini i).length≤rows.length :=
 z129 _ _ (z510 i) (z368 hr hi i)
theorem z715 {i j:Nat} (h:(bfs rows ini i).length≤i) (hij:i≤j):bfs rows ini j=bfs rows ini i:=by
  induction j with
  | zero => obtain rfl : i = 0 := by omega
            rfl
  | succ j ih =>
    rcases y62 j i with h1|h1
    · obtain rfl:i=j+1:=by omega
      rfl
    · have e:=ih h1
      rw [bfs,dif_neg (by rw [e];omega),e]
theorem z1078 (i:Nat):∃ t,bfs rows ini (i+1)=bfs rows ini i++t:=by
 rw [bfs];split
 ·exact z371 _ _
 ·exact ⟨[],by simp⟩
theorem bfs_RP (i:Nat):∀ x∈bfs rows ini i,RP rows ini x:=by
 induction i with
 |zero =>
  intro x hx
  rcases z211.1 hx with h|h
  ·cases h
  ·exact .base h
 |succ i ih =>
  intro x hx
  rw [bfs] at hx
  split at hx
  ·rcases z211.1 hx with h|h
   ·exact ih x h
   ·exact .step (ih _ (y37 _)) h
  ·exact ih x hx
theorem z930 (i:Nat):∀ k,k < i→∀ h:k < (bfs rows ini i).length,∀ y∈rows.getD ((bfs rows ini i)[k]).toNat [],y∈bfs rows ini i:=by
 induction i with
 |zero=>intro k hk;omega
 |succ i ih =>
  intro k hk h y hy
  obtain ⟨t,ht⟩:=z1078 (rows:=rows) (ini:=ini) i
  by_cases hkl:k < (bfs rows ini i).length
  ·have e:(bfs rows ini (i+1))[k]=(bfs rows ini i)[k]:=by
    simp only [ht,List.getElem_append_left hkl]
   rw [e] at hy
   rcases y62 k i with h1|h1
   ·rw [ht];exact List.mem_append_left _ (ih k h1 hkl y hy)
   ·obtain rfl:k=i:=by omega
    rw [bfs,dif_pos hkl]
    exact z211.2 (.inr hy)
  ·rcases y62 i (bfs rows ini i).length with h1|h1
   ·omega
   ·have e:bfs rows ini (i+1)=bfs rows ini i:=z715 h1 (by omega)
    rw [e] at h;omega
theorem z134 (hr:∀ r∈rows,InN rows.length r) (hi:InN rows.length ini) (x:Int):x∈bfsL rows ini↔RP rows ini x:=by
 refine ⟨bfs_RP _ x,fun h=>?_⟩
 have hl:=z398 hr hi rows.length
 induction h with
 |base h =>
  have:∀ i,∀ x∈ini,x∈bfs rows ini i:=by
   intro i
   induction i with
   |zero=>intro x hx;exact z211.2 (.inr hx)
   |succ i ih =>
    intro x hx
    obtain ⟨t,ht⟩:=z1078 (rows:=rows) (ini:=ini) i
    rw [ht];exact List.mem_append_left _ (ih x hx)
  exact this _ _ h
 |step h1 h2 ih =>
  obtain ⟨k,hk,rfl⟩:=List.mem_iff_getElem.1 ih
  exact z930 _ k (Nat.lt_of_lt_of_le hk hl) hk _ h2
theorem z857 {i:Nat} (hr:∀ r∈rows,InN rows.length r) (hi:InN rows.length ini) (h:(bfs rows ini i).length≤i) (hil:i≤rows.length):bfs rows ini i=bfsL rows ini:=(z715 h hil).symm
theorem RP.in {x:Int} (hr:∀ r∈rows,InN rows.length r) (hi:InN rows.length ini) (h:RP rows ini x):0≤x∧x < rows.length:=by
 induction h with
 |base h=>exact hi _ h
 |step _ h2 _=>exact z197 hr _ _ h2
end
theorem z247 {r:Nat→Nat} {o o' a n n' : Nat} (h:n=n') (ho:o=r o'):AC.sref o a n=(AC.sref o' a n').ren r:=by rw [h,ho];rfl
end Go.Gl
namespace Go.Gl
section
variable {K K' : Type} [DecidableEq K] [DecidableEq K'] {κ:Nat→K} {κ' : Nat→K'}
end
end Go.Gl
namespace Go.Gl
def arityB (k:Int):Int:=if k=1∨k=2 then 0 else if k=3∨k=6∨k=8∨k=9∨k=11 then 1 else if k=4∨k=5∨k=7∨k=10 then 2 else -1
def mostB (k:Int):Int:=if k=2 then 2 else 0
mutual
def Tree.walkB (t:Tree) (d n:Int):Int×Bool:=match t with
 |.mk k v l=>if d≤6∧n+1≤12∧0≤v∧v≤mostB k∧(l.length:Int)=arityB k then Tree.walkBs l (d+1) (n+1) else (n+1,false)
def Tree.walkBs (l:List Tree) (d n:Int):Int×Bool:=match l with
 |[]=>(n,true)
 |t::r=>if (Tree.walkB t d n).2 then Tree.walkBs r d (Tree.walkB t d n).1 else ((Tree.walkB t d n).1,false)
end
mutual
def Tree.shapeB (t:Tree) (d:Int):Bool:=match t with
 |.mk k v l=>decide (1≤d∧(l.length:Int)=arityB k∧0≤v∧v≤mostB k) && Tree.shapeBBs l (d - 1)
def Tree.shapeBBs (l:List Tree) (d:Int):Bool:=match l with
 |[]=>true
 |t::r=>Tree.shapeB t d && Tree.shapeBBs r d
end
def ordB (s a b:Bool):Prop:=a=b∨a=s
theorem ordB.refl (s a:Bool):ordB s a a:=.inl rfl
theorem ordB.trans {s a b c:Bool} (h:ordB s a b) (k:ordB s b c):ordB s a c:=by
 unfold ordB at *
 cases s<;>cases a<;>cases b<;>cases c<;>simp_all
def gB (S:List Bool) (i:Nat):Bool:=S.getD i false
structure FixR (s:Bool) (H:Nat→List Bool→Bool) (n:Nat) (R:List Bool):Prop where
 len:R.length=n
 fix:∀ i,i < n→gB R i=H i R
 least:∀ T:List Bool,T.length=n→(∀ i,i < n→ordB s (H i T) (gB T i))→∀ i,i < n→ordB s (gB R i) (gB T i)
def MonoB (s:Bool) (H:Nat→List Bool→Bool) (n:Nat):Prop:=∀ (S T:List Bool),S.length=n→T.length=n→(∀ j,j < n→ordB s (gB S j) (gB T j))→∀ i,i < n→ordB s (H i S) (H i T)
open Classical in
noncomputable def lim (s:Bool) (H:Nat→List Bool→Bool) (n:Nat):List Bool:=if h:∃ R,FixR s H n R then h.choose else []
def cntS (s:Bool) (S:List Bool):Nat:=(S.filter fun b=>b == s).length
theorem z841 {S:List Bool} {i j:Nat} {b:Bool} (hi:i < S.length):gB (S.set i b) j=if j=i then b else gB S j:=by
 unfold gB
 by_cases h:j=i
 ·subst h
  rw [if_pos rfl,z20 (by simpa using hi)];simp
 ·rw [if_neg h]
  simp only [y60]
  rw [List.getElem?_set_ne (Ne.symm h)]
theorem cntS_set {s:Bool} {S:List Bool} {i:Nat} (hi:i < S.length) (h:gB S i=s):cntS s (S.set i (!s))+1=cntS s S:=by
 unfold gB at h
 rw [z20 hi] at h
 induction S generalizing i with
 |nil=>simp at hi
 |cons a S ih =>
  cases i with
  |zero =>
   simp only [List.getElem_cons_zero] at h
   subst h
   simp [cntS,List.filter_cons]
  |succ i =>
   have:=ih (i:=i) (by simpa using hi) (by simpa using h)
   unfold cntS at this ⊢
   rw [List.set_cons_succ,List.filter_cons,List.filter_cons]
   split<;>(try simp only [y51])<;>omega
structure Way (s:Bool) (H:Nat→List Bool→Bool) (n:Nat) (S:List Bool):Prop where
 len:S.length=n
 below:∀ T:List Bool,T.length=n→(∀ i,i < n→ordB s (H i T) (gB T i))→∀ i,i < n→ordB s (gB S i) (gB T i)
 post:∀ i,i < n→ordB s (gB S i) (H i S)
theorem Way.start {s:Bool} {H:Nat→List Bool→Bool} {n:Nat} : Way s H n (List.replicate n s):=by
 have e:∀ i,i < n→gB (List.replicate n s) i=s:=fun i hi=>by unfold gB;rw [z20 (by simpa using hi)];simp
 exact ⟨by simp,fun T _ _ i hi=>.inr (e i hi),fun i hi=>.inr (e i hi)⟩
theorem Way.put {s:Bool} {H:Nat→List Bool→Bool} {n:Nat} (hm:MonoB s H n) {S:List Bool} (h:Way s H n S) {i:Nat} (hi:i < n) {v:Bool} (h1:ordB s (gB S i) v) (h2:ordB s v (H i S)):Way s H n (S.set i v)∧(v≠gB S i→cntS s (S.set i v)+1=cntS s S):=by
 have hil:i < S.length:=by rw [h.len];exact hi
 have hle:∀ j,j < n→ordB s (gB S j) (gB (S.set i v) j):=fun j _=>by
  rw [z841 hil];split
  ·rename_i e;subst e;exact h1
  ·exact ordB.refl _ _
 have hH:=hm S (S.set i v) h.len (by simp [h.len]) hle
 refine ⟨⟨by simp [h.len],fun T hT hc j hj=>?_,fun j hj=>?_⟩,fun hne=>?_⟩
 ·rw [z841 hil];split
  ·rename_i e;subst e
   exact h2.trans ((hm S T h.len hT (h.below T hT hc) j hj).trans (hc j hj))
  ·exact h.below T hT hc j hj
 ·rw [z841 hil];split
  ·rename_i e;subst e;exact h2.trans (hH j hj)
  ·exact (h.post j hj).trans (hH j hj)
 ·have hs:gB S i=s:=by
   rcases h1 with e|e
   ·exact absurd e.symm hne
   ·exact e
  have hv:v=!s:=by
   cases v<;>cases s<;>simp_all
  rw [hv];exact cntS_set hil hs
def nxB (g:List (List Int)) (ev:Bool) (i:Nat) (S:List Bool):Bool:=if ev then (g.getD i []).all (fun t=>gB S t.toNat) else (g.getD i []).any (fun t=>gB S t.toNat)
end Go.Gl
namespace Go.Gl
theorem Way.step {s:Bool} {H:Nat→List Bool→Bool} {n:Nat} (hm:MonoB s H n) {S S' : List Bool} (h:Way s H n S') (hS:S.length=n) (hle:∀ j,j < n→ordB s (gB S j) (gB S' j)) {i:Nat} (hi:i < n) (hv:H i S=!s) (hg:gB S' i=s):Way s H n (S'.set i (!s))∧cntS s (S'.set i (!s))+1=cntS s S'∧∀ j,j < n→ordB s (gB S j) (gB (S'.set i (!s)) j):=by
 have hil:i < S'.length:=by rw [h.len];exact hi
 have h2:ordB s (!s) (H i S'):=by
  have:=hm S S' hS h.len hle i hi
  rwa [hv] at this
 have hp:=h.put hm hi (v:=!s) (.inr hg) h2
 refine ⟨hp.1,hp.2 (by rw [hg];cases s<;>simp),fun j hj=>?_⟩
 rw [z841 hil]
 split
 ·rename_i e
  subst e
  have:=hle j hj
  rw [hg] at this
  rcases this with e|e
  ·exact .inr e
  ·exact .inr e
 ·exact hle j hj
def unH (g:List (List Int)) (ev:Bool) (a b:List Bool) (i:Nat) (S:List Bool):Bool:=gB b i || (gB a i && nxB g ev i S)
def alH (g:List (List Int)) (ev:Bool) (a:List Bool) (i:Nat) (S:List Bool):Bool:=gB a i && nxB g ev i S
def nxL (g:List (List Int)) (ev:Bool) (n:Nat) (S:List Bool):List Bool:=(List.range n).map fun i=>nxB g ev i S
def hasB (ℓ a:Int):Bool:=decide (((((ℓ / 2 ^ a.toNat).toNat &&& (1:Int).toNat:Nat):Int))=1)
def ptB (L:List Int) (k v:Int) (a b:List Bool) (i:Nat):Bool:=if k=2 then hasB (L.getD i 0) v else if k=3 then !gB a i else if k=4 then gB a i && gB b i else if k=5 then gB a i || gB b i else true
noncomputable def opB (g:List (List Int)) (n:Nat) (L:List Int) (k v:Int) (ks:List (List Bool)):List Bool :=
 if k=6 then nxL g false n (ks.getD 0 []) else if k=9 then nxL g true n (ks.getD 0 [])
 else if k=7 then lim false (unH g false (ks.getD 0 []) (ks.getD 1 [])) n else if k=10 then lim false (unH g true (ks.getD 0 []) (ks.getD 1 [])) n
 else if k=8 then lim true (alH g false (ks.getD 0 [])) n else if k=11 then lim true (alH g true (ks.getD 0 [])) n
 else (List.range n).map (ptB L k v (ks.getD 0 []) (ks.getD 1 []))
mutual
noncomputable def Tree.satB (g:List (List Int)) (n:Nat) (L:List Int) (t:Tree):List Bool:=match t with
 |.mk k v l=>opB g n L k v (Tree.satBs g n L l)
noncomputable def Tree.satBs (g:List (List Int)) (n:Nat) (L:List Int) (l:List Tree):List (List Bool):=match l with
 |[]=>[]
 |t::r=>Tree.satB g n L t::Tree.satBs g n L r
end
theorem Way.now {g:List (List Int)} {ev:Bool} {a:List Bool} {n:Nat} (ha:a.length=n):Way true (alH g ev a) n a:=by
 refine ⟨ha,fun T hT h i hi=>?_,fun i hi=>?_⟩
 ·have:=h i hi
  unfold alH ordB at this
  unfold ordB
  revert this
  cases gB a i<;>cases gB T i<;>simp
 ·unfold alH ordB
  cases gB a i<;>simp
theorem rowInN {g:List (List Int)} {n:Nat} (hr:∀ r∈g,InN n r) (i:Nat):InN n (g.getD i []):=by
 by_cases hi:i < g.length
 ·rw [z20 hi];exact hr _ (y37 _)
 ·rw [y60,y61 (by omega)];intro x hx;cases hx
section
variable {g:List (List Int)} {n:Nat} (L:List Int)
variable (hr:∀ r∈g,InN n r)
include hr
end
end Go.Gl
namespace Go.Gl
theorem z803 {a b:Bool} (h:a=b):LocLe (.bool a) (.bool b):=h ▸ y78 _
def mvF (o n:Nat) (p:Nat×List Nat):Nat×List Nat:=if p.1=o then (n,p.2) else p
noncomputable def Ghost.rnm (G:Ghost) (o n:Nat):Ghost:={ G with ι:=fun x=>if x=n then G.ι o else G.ι x,κ:=fun b=>(G.κ b).map (mvF o n) }
theorem mvF_cons (o n o' j:Nat) (q:List Nat):mvF o n (o',j::q)=((mvF o n (o',q)).1,j::(mvF o n (o',q)).2):=by
 unfold mvF;dsimp only;split<;>rfl
theorem Wf.rnm {G : Ghost} {objs : Nat → AObj} {w : World} (hW : Wf G objs w) {o n wd : Nat} {es : List (List AC)} (ho : objs o = .cells wd es) (hn : objs n = .fresh) :
    Wf (G.rnm o n) (upd (upd objs n (.cells wd es)) o .dead) w∧∀ x t,G.ι x=some t→(G.rnm o n).ι x=some t:=by
  have hιn:G.ι n=none:=by have:=hW.objs n;rw [hn] at this;exact this
  have hon:o≠n:=fun e=>by rw [e,hn] at ho;cases ho
  have hι:∀ x t,G.ι x=some t→(G.rnm o n).ι x=some t:=fun x t e=>by
    show (if x=n then G.ι o else G.ι x)=some t
    by_cases h:x=n
    · rw [h,hιn] at e;cases e
    · rw [if_neg h];exact e
  have hmv:∀ (es:List (List AC)) (l:Loc) (wd:Nat) (c:Array Value),VLL G (hp w) l wd es c 0→VLL (G.rnm o n) (hp w) (l.map (mvF o n)) wd es c 0:=fun es l wd c hv =>
    z164 es G (G.rnm o n) (hp w) (hp w) (mvF o n) (fun _=>True) (fun _ _ e=>e) hι (fun a b c=>mvF_cons o n a b c) (fun _ _ _ h=>h) (fun b p _ hk=>⟨by show (G.κ b).map (mvF o n)=_;rw [hk];rfl,rfl⟩) l wd c 0 (fun _ _ _=>trivial) hv
  refine ⟨⟨hW.hS,hW.hU,hW.su,fun b p hk=>?_,fun x=>?_⟩,hι⟩
  · have hk:(G.κ b).map (mvF o n)=some p:=hk
    cases h:G.κ b with
    | none=>rw [h] at hk;cases hk
    | some p'=>exact hW.sk b p' h
  · by_cases h1:x=o
    · subst h1;rw [z24];trivial
    · rw [z43 _ _ h1]
      by_cases h2:x=n
      · subst h2
        rw [z24]
        have h:=hW.objs o
        rw [ho] at h
        have hx:(G.rnm o x).ι x=G.ι o:=by show (if x=x then G.ι o else G.ι x)=_;rw [if_pos rfl]
        rcases h with ⟨a,b⟩|⟨b,size,c,el,a1,a2,a3,a4,a5⟩
        · exact .inl ⟨a,by rw [hx];exact b⟩
        · refine .inr ⟨b,size,c,el,by rw [hx];exact a1,?_,a3,a4,?_⟩
          · show (G.κ b).map (mvF o x)=_;rw [a2];unfold mvF;simp
          · have:=hmv es (some (o,[])) wd c a5
            have e:Option.map (mvF o x) (some (o,[]))=some (x,[]):=by unfold mvF;simp
            rwa [e] at this
      · rw [z43 _ _ h2]
        have h:=hW.objs x
        have hx:(G.rnm o n).ι x=G.ι x:=by show (if x=n then G.ι o else G.ι x)=_;rw [if_neg h2]
        cases hc:objs x with
        | fresh=>rw [hc] at h;show (G.rnm o n).ι x=none;rw [hx];exact h
        | dead=>trivial
        | mp d es' =>
          rw [hc] at h
          obtain ⟨b,size,wx,c,ck,a1,a2,a3⟩:=h
          refine ⟨b,size,wx,c,ck,by rw [hx];exact a1,?_,a3⟩
          show (G.κ b).map (mvF o n)=_;rw [a2];unfold mvF;simp [h1]
        | cells wd' es' =>
          rw [hc] at h
          rcases h with ⟨a,b⟩|⟨b,size,c,el,a1,a2,a3,a4,a5⟩
          · exact .inl ⟨a,by rw [hx];exact b⟩
          · refine .inr ⟨b,size,c,el,by rw [hx];exact a1,?_,a3,a4,?_⟩
            · show (G.κ b).map (mvF o n)=_;rw [a2];unfold mvF;simp [h1]
            · have:=hmv es' (some (x,[])) wd' c a5
              have e:Option.map (mvF o n) (some (x,[]))=some (x,[]):=by unfold mvF;simp [h1]
              rwa [e] at this
def rnS (o n:Nat) (x:AC):AC:=match x with
 |.sref k off len=>.sref (cond (Nat.beq k o) n k) off len
 |x=>x
theorem rnS_V {G:Ghost} {h:Nat→Option Obj} {o n:Nat} (hι:∀ x t,G.ι x=some t→(G.rnm o n).ι x=some t) {x:AC} {v:Value} (hv:V G h none x v):V (G.rnm o n) h none (rnS o n x) v:=by
 cases x with
 |sref k off len =>
  simp only [rnS,V] at hv ⊢
  obtain ⟨cap,h1,h2⟩:=hv
  refine ⟨cap,h1,h2.imp id ?_⟩
  rintro ⟨b,size,w,a1,a2⟩
  refine ⟨b,size,w,?_,a2⟩
  cases hk:Nat.beq k o with
  |true =>
   have:=Nat.eq_of_beq_eq_true hk
   subst this
   show (if n=n then G.ι k else _)=_
   rw [if_pos rfl];exact a1
  |false=>exact hι k _ a1
 |_=>exact z110 (G:=G) (G':=G.rnm o n) (fun _ _ e=>e) hι hv
theorem rnS_env (o n:Nat) (env:List (Nat×AC)) (s:Nat):z83 (env.map fun p=>(p.1,rnS o n p.2)) s=rnS o n (z83 env s):=by
 induction env with
 |nil=>rfl
 |cons p env ih =>
  obtain ⟨k,x⟩:=p
  simp only [List.map_cons,z83]
  cases Nat.beq s k
  ·exact ih
  ·rfl
theorem Reach.rnm (o:Nat) {m n wd:Nat} {env:List (Nat×AC)} {objs:List AObj} {es:List (List AC)} (ho:z33 objs o=.cells wd es):Reach m (mkSt n env objs) (mkSt n (env.map fun p=>(p.1,rnS o objs.length p.2)) (objs.set o .dead++[.cells wd es])):=fun G a w hR=>by
 have hol:o < objs.length:=by
  rcases y62 o objs.length with h|h
  ·exact h
  ·have:z33 objs o=.fresh:=z62 h
   rw [this] at ho;cases ho
 have hn:z33 objs objs.length=.fresh:=z62 (y45 _)
 obtain ⟨h1,h2⟩:=hR.wf.rnm (o:=o) (n:=objs.length) ho hn
 refine ⟨G.rnm o objs.length,⟨⟨fun _ _ e=>e,rfl⟩,fun x t _ e=>h2 x t e⟩,⟨?_,fun s=>by
  show V _ _ none (z83 (env.map fun p=>(p.1,rnS o objs.length p.2)) s) _
  rw [rnS_env];exact rnS_V h2 (hR.env s),hR.size,hR.defers.mono (fun _ _ e=>e)⟩⟩
 show Wf _ (z33 (objs.set o .dead++[.cells wd es])) w
 have e:z33 (objs.set o .dead++[.cells wd es])=upd (upd (z33 objs) objs.length (.cells wd es)) o .dead:=by
  funext x
  by_cases h1:x=o
  ·subst h1
   rw [z24]
   exact z58 (by rw [y58 (by simpa using hol),List.getElem?_set_self hol])
  ·rw [z43 _ _ h1]
   rcases Nat.lt_trichotomy x objs.length with h|h|h
   ·rw [z43 _ _ (by omega)]
    have:z33 objs x=objs[x]:=z58 (y38 h)
    rw [this]
    exact z58 (by rw [y58 (by simpa using h),List.getElem?_set_ne (by omega),y38 h])
   ·subst h
    rw [z24]
    exact z58 (by simp)
   ·rw [z43 _ _ (by omega)]
    have:z33 objs x=.fresh:=z62 (by omega)
    rw [this]
    exact z62 (by simp;omega)
 rw [e];exact h1
theorem Reach.trunc {m n : Nat} {env : List (Nat × AC)} {objs objs' : List AObj} (o k : Nat) {wd : Nat} {es : List (List AC)} (ho : z33 objs o = .cells wd es)
    (hk:z285 objs [⟨o,.dead,.cells wd (es.take k)⟩] fun l=>l=objs'):Reach m (mkSt n env objs) (mkSt n env objs'):=fun G a w hR=>by
  obtain ⟨l,rfl,hl'⟩:=z120 hk
  refine ⟨G,SubM.refl m G,⟨?_,hR.env,hR.size,hR.defers⟩⟩
  show Wf G (z33 l) w
  rw [hl']
  refine ⟨hR.wf.hS,hR.wf.hU,hR.wf.su,hR.wf.sk,fun o'=>?_⟩
  show ObjRel G (hp w) o' (upd (z33 objs) o (.cells wd (es.take k)) o')
  by_cases h:o'=o
  · subst h
    rw [z24]
    have:=hR.wf.objs o'
    rw [show (mkSt n env objs).objs o'=.cells wd es from ho] at this
    rcases this with ⟨h1,h2⟩|⟨b,size,c,el,h1,h2,h3,h4,h5⟩
    · subst h1
      exact .inl ⟨by simp,h2⟩
    · refine .inr ⟨b,size,c,el,h1,h2,h3,h4,?_⟩
      rw [z63] at h5 ⊢
      intro i e' he'
      rw [List.getElem?_take] at he'
      split at he'
      · exact h5 i e' he'
      · cases he'
  · rw [z43 _ _ h];exact hR.wf.objs o'
theorem RetS.absorb {m : Nat} {objs objs' : List AObj} {res r : AC} (o q k j : Nat) {wd wd2 len : Nat} {es es2 : List (List AC)} {e : List AC} (ho : z33 objs o = .cells wd es) (he : es[k]? = some e) (hj : e[j]? = some (.sref q 0 len)) (hq : z33 objs q = .cells wd2 es2) (hn : es2.length = len) (hoq : Nat.beq o q = false) (hfl : Flat es2)
    (hk:z285 objs [⟨o,.dead,.cells wd (es.set k (e.set j (.own wd2 es2)))⟩,⟨q,.dead,.dead⟩] fun l=>RetS m (z33 l) res objs' r):RetS m (z33 objs) res objs' r:=fun G w v hW hV=>by
  obtain ⟨l,hl,hl'⟩:=z120 hk
  have h4:=hW.absorb (o:=o) (q:=q) ho he hj hq hn (by rintro rfl;rw [Nat.beq_refl] at hoq;cases hoq) hfl
  have h5:Wf (G.absorb o q (k * wd+j)) (z33 l) w:=by rw [hl'];exact h4
  obtain ⟨G',h1,h2,h3⟩:=hl _ w v h5 (z110 (G:=G) (G':=G.absorb o q (k * wd+j)) (fun _ _ e=>e) (fun _ _ e=>e) hV)
  have h6:SubM m G (G.absorb o q (k * wd+j)):=⟨⟨fun _ _ e=>e,rfl⟩,fun _ _ _ e=>e⟩
  exact ⟨G',h6.trans h1,h2,h3⟩
theorem RetS.trunc {m : Nat} {objs objs' : List AObj} {res r : AC} (o k : Nat) {wd : Nat} {es : List (List AC)} (ho : z33 objs o = .cells wd es)
    (hk:z285 objs [⟨o,.dead,.cells wd (es.take k)⟩] fun l=>RetS m (z33 l) res objs' r):RetS m (z33 objs) res objs' r:=fun G w v hW hV=>by
  obtain ⟨l,hl,hl'⟩:=z120 hk
  refine hl G w v ?_ hV
  rw [hl']
  refine ⟨hW.hS,hW.hU,hW.su,hW.sk,fun o'=>?_⟩
  show ObjRel G (hp w) o' (upd (z33 objs) o (.cells wd (es.take k)) o')
  by_cases h:o'=o
  · subst h
    rw [z24]
    have:=hW.objs o'
    rw [ho] at this
    rcases this with ⟨h1,h2⟩|⟨b,size,c,el,h1,h2,h3,h4,h5⟩
    · subst h1
      exact .inl ⟨by simp,h2⟩
    · refine .inr ⟨b,size,c,el,h1,h2,h3,h4,?_⟩
      rw [z63] at h5 ⊢
      intro i e' he'
      rw [List.getElem?_take] at he'
      split at he'
      · exact h5 i e' he'
      · cases he'
  · rw [z43 _ _ h];exact hW.objs o'
variable {P:Program} {T:Tab}
def z323 (l:List Int):AC:=.list 1 l.length (l.map fun x=>[AC.int x])
theorem z209 (w:World) (x:Obj) (b:Nat) (hb:b < w.heap.size):(w.alloc x).heap[b]?=w.heap[b]?:=by
 show (w.heap.push x)[b]?=_
 rw [Array.getElem?_push,if_neg (by omega)]
theorem upd_upd {α:Type} (f:Nat→α) (l:Nat) (x y:α):upd (upd f l x) l y=upd f l y:=by
 funext b
 by_cases h:b=l
 ·subst h;rw [z24,z24]
 ·rw [z43 _ _ h,z43 _ _ h,z43 _ _ h]
theorem Wf.fresh_ι {G:Ghost} {objs:List AObj} {w:World} (h:Wf G (z33 objs) w) {o:Nat} (ho:objs.length≤o):G.ι o=none:=by
 have:=h.objs o
 rw [show z33 objs o=.fresh from z62 ho] at this
 exact this
theorem y12 {M:Nat} {G G' : Ghost} {objs:List AObj} {w:World} (hW:Wf G (z33 objs) w) (hM:objs.length≤M) (h:SubM M G G'):∀ o t,G.ι o=some t→G'.ι o=some t:=fun o t e=>by
 rcases y62 o M with ho|ho
 ·exact h.2 o t ho e
 ·rw [hW.fresh_ι (by omega)] at e;cases e
def Ghost.turn (G:Ghost) (l:Nat) (x:Option Obj):Ghost:={ G with U:=upd G.U l x }
theorem Wf.turn {G:Ghost} {objs:Nat→AObj} {w:World} (h:Wf G objs w) {l:Nat} {x y:Obj} (hl:G.U l=some x):Wf (G.turn l (some y)) objs (w.putObj l y):=by
 have hlt:l < w.heap.size:=(Array.getElem?_eq_some_iff.1 (h.hU l x hl)).1
 have hs:=h.su l x hl
 refine ⟨fun b z e=>?_,fun b z e=>?_,fun b z e=>?_,fun b p e=>?_,fun o=>?_⟩
 ·have:b≠l:=by rintro rfl;rw [show G.S b=some z from e] at hs;cases hs
  rw [World.putObj_heap_other this];exact h.hS b z e
 ·by_cases hb:b=l
  ·subst hb
   simp only [Ghost.turn,z24] at e
   cases e
   exact World.putObj_heap_same hlt
  ·simp only [Ghost.turn,z43 _ _ hb] at e
   rw [World.putObj_heap_other hb];exact h.hU b z e
 ·by_cases hb:b=l
  ·subst hb;exact hs
  ·simp only [Ghost.turn,z43 _ _ hb] at e
   exact h.su b z e
 ·obtain ⟨h1,h2,h3⟩:=h.sk b p e
  have hb:b≠l:=by rintro rfl;rw [hl] at h2;cases h2
  refine ⟨h1,?_,by simpa [World.putObj] using h3⟩
  show upd G.U l (some y) b=none
  rw [z43 _ _ hb];exact h2
 ·refine y9 (G:=G) (G':=G.turn l (some y)) (h:=hp w) (fun _ _ _ _ e=>e) rfl (fun b p e=>⟨e,?_⟩) (h.objs o)
  have hb:b≠l:=by rintro rfl;have:=(h.sk b p e).2.1;rw [hl] at this;cases this
  exact World.putObj_heap_other hb
theorem Le.putObj (w:World) (l:Nat) (x:Obj):Le w (w.putObj l x):=⟨rfl,rfl,rfl,by simp [World.putObj]⟩
theorem Rel.turn {G:Ghost} {st:St} {a:Act} {w:World} (h:Rel G st a w) {l:Nat} {x y:Obj} (hl:G.U l=some x):Rel (G.turn l (some y)) st a (w.putObj l y) :=
 ⟨h.wf.turn hl,fun s=>z401 (G:=G) (G':=G.turn l (some y)) (fun _ _ _ _ e=>e) (fun _ _ e=>e) (h.env s),h.size,h.defers⟩
def z863 (P:Program) (fb:FuncId):Prop:=∀ {α:Type} (M:Nat) (rest:α→List AObj) (ok:Nat→α→Prop) (L:List Int) (l:Nat) (Gc:Ghost) (wc:World) (lb:Array Value) (x0:α),
 L.length≤maxLen→(∀ x,(rest x).length+1=M) →
 (∀ k x G w,(hk:k < L.length)→ok (k+1) x→SubM M Gc.split G→Le wc w→Wf G (z33 (AObj.cells 1 [[z323 L]]::rest x)) w→∃ f tmps assign body,
  (Instr.yield l #[.int .i64 k,.int .i64 L[k]]).run P w=.ok (.round l f tmps assign body) w ∧
  RoundIn Fence.wide 0 P l f tmps assign body w (fun e w'=>e=.returned (.bool true)∧∃ G' y,ok k y∧SubM M G G'∧Le w w'∧Wf G' (z33 (AObj.cells 1 [[z323 L]]::rest y)) w')) →
 ok L.length x0→Wf Gc (z33 (AObj.cells 1 [[z323 L]]::rest x0)) wc→lb.size=1→VL Gc (hp wc) none [.ptr 0 none 0] lb 0 →
 CallsIn Fence.wide 0 P fb (#[.func (.yield l) #[] #[]]++lb) wc (fun e w'=>∃ v G y,e=.returned v∧ok 0 y∧SubM M Gc G∧Le wc w'∧Wf G (z33 (AObj.cells 1 [[z323 L]]::rest y)) w')
theorem Wf.enter {G:Ghost} {objs:Nat→AObj} {w:World} (h:Wf G objs w) (x y:Obj):Wf { G with S:=upd G.S w.heap.size (some x),U:=upd G.U (w.heap.size+1) (some y) } objs ((w.alloc x).alloc y):=by
 have hlt:∀ b z,w.heap[b]?=some z→b < w.heap.size:=fun b z e=>(Array.getElem?_eq_some_iff.1 e).1
 have hx:((w.alloc x).alloc y).heap[w.heap.size]?=some x:=by
  rw [z209 _ _ _ (by simp)];exact World.alloc_heap_new w x
 have hy:((w.alloc x).alloc y).heap[w.heap.size+1]?=some y:=by
  have:=World.alloc_heap_new (w.alloc x) y;rwa [World.size_alloc] at this
 have hold:∀ b,b < w.heap.size→((w.alloc x).alloc y).heap[b]?=w.heap[b]?:=fun b hb=>by
  rw [z209 _ _ _ (by simp;omega),z209 _ _ _ hb]
 have hsn:∀ b,w.heap.size≤b→G.S b=none∧G.U b=none:=fun b hb=>by
  constructor
  ·cases e:G.S b with
   |none=>rfl
   |some z=>have:=hlt _ _ (h.hS b z e);omega
  ·cases e:G.U b with
   |none=>rfl
   |some z=>have:=hlt _ _ (h.hU b z e);omega
 refine ⟨fun b z e=>?_,fun b z e=>?_,fun b z e=>?_,fun b p e=>?_,fun o=>?_⟩
 ·by_cases hb:b=w.heap.size
  ·subst hb
   simp only [z24] at e
   cases e;exact hx
  ·simp only [z43 _ _ hb] at e
   have:=h.hS b z e
   rw [hold b (hlt _ _ this)];exact this
 ·by_cases hb:b=w.heap.size+1
  ·subst hb
   simp only [z24] at e
   cases e;exact hy
  ·simp only [z43 _ _ hb] at e
   have:=h.hU b z e
   rw [hold b (hlt _ _ this)];exact this
 ·by_cases hb:b=w.heap.size+1
  ·subst hb
   show upd G.S w.heap.size (some x) (w.heap.size+1)=none
   rw [z43 _ _ (by omega)];exact (hsn _ (by omega)).1
  ·simp only [z43 _ _ hb] at e
   have:=hlt _ _ (h.hU b z e)
   show upd G.S w.heap.size (some x) b=none
   rw [z43 _ _ (by omega)];exact h.su b z e
 ·obtain ⟨h1,h2,h3⟩:=h.sk b p e
  refine ⟨?_,?_,by simp;omega⟩
  ·show upd G.S w.heap.size (some x) b=none
   rw [z43 _ _ (by omega)];exact h1
  ·show upd G.U (w.heap.size+1) (some y) b=none
   rw [z43 _ _ (by omega)];exact h2
 ·refine y9 (G:=G) (G':={ G with S:=upd G.S w.heap.size (some x),U:=upd G.U (w.heap.size+1) (some y) }) (h:=hp w) (fun b c el fz e=>?_) rfl (fun b p e=>⟨e,?_⟩) (h.objs o)
  ·have:=hlt _ _ (h.hS b _ e)
   show upd G.S w.heap.size (some x) b=_
   rw [z43 _ _ (by omega)];exact e
  ·exact hold b (h.sk b p e).2.2
theorem z621 {G : Ghost} {h : Nat → Option Obj} {env : List (Nat × AC)} {tmps : Array Value} {n p : Nat} {x : AC} {v : Value} (hp : p < n) (hs : tmps.size = n) (he : ∀ s, V G h none (z83 env s) (tmps.getD s undef)) (hv : V G h none x v) :
    ∀ s,V G h none (z83 ((p,x)::env) s) ((tmps.setIfInBounds p v).getD s undef):=fun s=>by
  rw [z227]
  by_cases h:s=p
  · subst h
    rw [z24,y72,Array.getElem?_setIfInBounds]
    simpa [hs,hp] using hv
  · rw [z43 _ _ h,y72,Array.getElem?_setIfInBounds,if_neg (fun e=>h e.symm),← y72]
    exact he s
def EndR {α:Type} (M:Nat) (L:List Int) (rest:α→List AObj) (ok:Nat→α→Prop) (k:Nat) (st' : St):Prop:=∃ y,ok k y∧Reach M st' (mkSt st'.n [] (AObj.cells 1 [[z323 L]]::rest y))
theorem EndR.mk {α:Type} {M:Nat} {L:List Int} {rest:α→List AObj} {ok:Nat→α→Prop} {k n:Nat} {env:List (Nat×AC)} {objs:List AObj} (y:α) (h:ok k y) (hr:Reach M (mkSt n env objs) (mkSt n [] (AObj.cells 1 [[z323 L]]::rest y))):EndR M L rest ok k (mkSt n env objs):=⟨y,h,hr⟩
theorem z628 {α : Type} {m n M : Nat} {env : List (Nat × AC)} {objs : List AObj} {g : Operand} {p0 p1 : Nat} {assign body : Code} {Q : Exit → St → Prop} {fb : Nat} {L : List Int}
    (hI:z863 P fb) (hfb:z729 P fb) (hg:(mkSt n env objs).ev g=.fn (.func fb) [] [.ptr 0 none 0]) (hp0:p0 < n) (hp1:p1 < n) (hL:L.length≤maxLen) (hst:(z214 assign && z214 body)=true) (hmM:m≤M)
    (rest:α→List AObj) (ok:Nat→α→Prop) (x0:α) (hx0:(AObj.cells 1 [[z323 L]]::rest x0)=objs) (hlen:∀ x,(rest x).length+1=M) (h0:ok L.length x0)
    (hround:∀ k x,(hk:k < L.length)→ok (k+1) x→AWP P M assign (z453 (AWP P M body (z453 (EndR M L rest ok k) (fun _ _=>False))) (fun _ _=>False)) (mkSt n ((p1,.int L[k])::(p0,.int k)::env) (AObj.cells 1 [[z323 L]]::rest x)))
    (hq:∀ x,ok 0 x→Q .normal (mkSt n env (AObj.cells 1 [[z323 L]]::rest x))):AWP P m (.rangeFunc g #[p0,p1] assign body) Q (mkSt n env objs):=fun G a w hR ro hro=>by
  obtain ⟨hs1,hs2⟩:=Bool.and_eq_true_iff.1 hst
  have hro:ro=none:=hro.resolve_right (by simp [z214])
  subst hro
  have hobl:objs.length=M:=by rw [← hx0];exact hlen x0
  have hge:=hR.ev g
  rw [hg] at hge
  simp only [V] at hge
  obtain ⟨xs,lb,hgv,hxs,hlb,_,hlbv⟩:=hge
  obtain rfl:xs=#[]:=by simpa using hxs
  refine wpIn_rangeFunc (F:=wideR none) fun fn _=>?_
  obtain ⟨rec,hrec⟩:∃ rec:LoopState→Loop,rec=fun st=>{ state:=st,pending:=none,fn,tmps:=a.tmps,params:=#[p0,p1],assign,body,defers:=w.heap.size }:=⟨_,rfl⟩
  have hW0:=hR.wf.enter (.deferred (some [])) (.loop (rec .ready))
  obtain ⟨Gc,hGc⟩:∃ Gc:Ghost,Gc={ G with S:=upd G.S w.heap.size (some (.deferred (some []))),U:=upd G.U (w.heap.size+1) (some (.loop (rec .ready))) }:=⟨_,rfl⟩
  rw [← hGc] at hW0
  obtain ⟨l,hl⟩:∃ l,l=w.heap.size+1:=⟨_,rfl⟩
  have hUl:Gc.U l=some (.loop (rec .ready)):=by rw [hGc,hl];exact z24 _ _ _
  have hSD:Gc.S w.heap.size=some (.deferred (some [])):=by rw [hGc];exact z24 _ _ _
  have hSold:∀ b x,G.S b=some x→Gc.S b=some x:=fun b x e=>by
    have:=(Array.getElem?_eq_some_iff.1 (hR.wf.hS b x e)).1
    rw [hGc]
    show upd G.S w.heap.size _ b=_
    rw [z43 _ _ (by omega)];exact e
  have hιc:Gc.ι=G.ι:=by rw [hGc]
  obtain ⟨W1,hW1⟩:∃ W1,(w.alloc (.deferred (some []))).alloc (.loop (rec .ready))=W1:=⟨_,rfl⟩
  rw [hW1] at hW0
  have hle1:Le w W1:=by rw [← hW1];exact ⟨rfl,rfl,rfl,by simp;omega⟩
  have henv:∀ s,V Gc (hp W1) none (z83 env s) (a.tmps.getD s undef):=fun s=>z110 hSold (fun o t e=>by rw [hιc];exact e) (hR.env s)
  have hWc:Wf Gc (z33 (AObj.cells 1 [[z323 L]]::rest x0)) W1:=by rw [hx0];exact hW0
  -- one round
  have hy : ∀ k x G1 w1, (hk : k < L.length) → ok (k + 1) x → SubM M Gc.split G1 → Le W1 w1 → Wf G1 (z33 (AObj.cells 1 [[z323 L]] :: rest x)) w1 → ∃ f tmps assign body,
      (Instr.yield l #[.int .i64 k,.int .i64 L[k]]).run P w1=.ok (.round l f tmps assign body) w1 ∧
      RoundIn Fence.wide 0 P l f tmps assign body w1 (fun e w'=>e=.returned (.bool true)∧∃ G' y,ok k y∧SubM M G1 G'∧Le w1 w'∧Wf G' (z33 (AObj.cells 1 [[z323 L]]::rest y)) w'):=by
    intro k x G1 w1 hk hok hs hle hW
    have hU1:G1.U l=some (.loop (rec .ready)):=by rw [hs.1.U];simp [Ghost.split,hUl]
    have hrun:=run_yield (P:=P) (args:=#[.int .i64 k,.int .i64 L[k]]) (hW.hU l _ hU1) (by rw [hrec];rfl)
    rw [hrec] at hrun
    refine ⟨_,_,_,_,hrun,roundIn_of_wpIn trivial ?_⟩
    have hall:=y12 hWc.split (by exact Nat.le_of_eq (hlen _)) hs
    have he1:∀ s,V G1 (hp w1) none (z83 env s) (a.tmps.getD s undef):=fun s=>z110 hs.1.S hall (z401 (h':=hp W1) (fun _ _ _ _ e=>z377 e) (fun _ _ e=>e) (henv s))
    have he2:=z621 (p:=p0) (x:=.int k) (v:=.int .i64 k) hp0 hR.size he1 (by simp [V])
    have he3:=z621 (p:=p1) (x:=.int L[k]) (v:=.int .i64 L[k]) (n:=n) hp1 (by rw [Array.size_setIfInBounds];exact hR.size) he2 (by simp [V])
    have hR1:Rel G1 (mkSt n ((p1,.int L[k])::(p0,.int k)::env) (AObj.cells 1 [[z323 L]]::rest x)) { tmps:=(a.tmps.setIfInBounds p0 (.int .i64 k)).setIfInBounds p1 (.int .i64 L[k]),defers:=[] } w1 :=
      ⟨hW,he3,by show ((a.tmps.setIfInBounds p0 _).setIfInBounds p1 _).size=n;rw [Array.size_setIfInBounds,Array.size_setIfInBounds];exact hR.size,Marks.nil _⟩
    have hz:∀ (t:Array Value) (v0 v1:Value),((#[p0,p1]:Array Tmp).zip #[v0,v1]).foldl (fun tmps (t,a)=>tmps.setIfInBounds t a) t=(t.setIfInBounds p0 v0).setIfInBounds p1 v1:=by intro t v0 v1;simp
    dsimp only
    rw [hz]
    show Code.wpIn (wideR (some l)) 0 P assign _ _ w1
    refine wpIn_mono (hround k x hk hok G1 _ w1 hR1 (some l) (.inr hs1)) ?_
    rintro ex a2 w2 ⟨G2,st2,h1,h2,h3,h4⟩
    cases ex with
    | normal =>
      have hU2:G2.U l=some (.loop (rec .ready)):=by rw [h1.1.U];exact hU1
      refine ⟨_,run_beginRound (P:=P) (h4.wf.hU l _ hU2) (by rw [hrec]),?_⟩
      have hbz:({ rec .ready with state:=.busy } : Loop)=rec .busy:=by rw [hrec]
      rw [hbz]
      have hR2:=h4.turn (y:=.loop (rec .busy)) hU2
      refine wpIn_mono (h3 _ a2 _ hR2 (some l) (.inr hs2)) ?_
      rintro ex a3 w3 ⟨G3,st3,j1,j2,j3,j4⟩
      cases ex with
      | normal =>
        obtain ⟨y,hoky,hrch⟩:=j3
        obtain ⟨G4,k1,k2⟩:=hrch G3 a3 w3 j4
        have hU4:G4.U l=some (.loop (rec .busy)):=by rw [k1.1.U,j1.1.U];exact z24 _ _ _
        have hrz:({ rec .busy with state:=if (none:Option Code).isNone then .ready else .done,pending:=none } : Loop)=rec .ready:=by rw [hrec];rfl
        refine ⟨_,_,run_endRound (P:=P) none (k2.wf.hU l _ hU4),?_⟩
        rw [hrz]
        have hR5:=k2.turn (y:=.loop (rec .ready)) hU4
        have hUe:(G4.turn l (some (.loop (rec .ready)))).U=G1.U:=by
          show upd G4.U l _=G1.U
          rw [k1.1.U,j1.1.U]
          show upd (upd G2.U l _) l _=G1.U
          rw [upd_upd,h1.1.U]
          funext b
          by_cases hb:b=l
          · subst hb;rw [z24,hU1]
          · rw [z43 _ _ hb]
        refine ⟨rfl,G4.turn l (some (.loop (rec .ready))),y,hoky,⟨⟨fun b z e=>k1.1.S _ _ (j1.1.S _ _ (h1.1.S _ _ e)),hUe⟩,fun o t ho e=>k1.2 o t ho (j1.2 o t ho (h1.2 o t ho e))⟩,?_,hR5.wf⟩
        exact ((h2.trans (Le.putObj _ _ _)).trans j2).trans (Le.putObj _ _ _)
      | _=>exact j3.elim
    | _=>exact h3.elim
  have hcall:=hI M rest ok L l Gc W1 lb x0 hL hlen hy h0 hWc (by simpa using hlb) (z1096 hSold (fun o t e=>by rw [hιc];exact e) hlbv)
  refine ⟨l,[{ target:=.collected w.heap.size,args:=#[] }],W1,{ target:=.fn (.func fb) lb,args:=#[.func (.yield l) #[] #[]] },W1,fb,#[.func (.yield l) #[] #[]]++lb,W1,?_,?_,fun _ _=>trivial,?_,(fun h=>by cases h),?_⟩
  · rw [← hW1,hrec,hl];exact run_enterLoop_outer _ _ _ _ _
  · simp only [resolve,hgv]
    simp [go_sem]
  · have:=z406 (args:=#[.func (.yield l) #[] #[]]++lb) (w:=W1) hfb
    simpa [invoke,go_sem] using this
  refine hcall.mono ?_
  rintro e w3 ⟨v,G5,y,rfl,hoky,h1,h2,h3⟩
  have hU5:G5.U l=some (.loop (rec .ready)):=by rw [h1.1.U];exact hUl
  have hp0' : (rec .ready).pending=none:=by rw [hrec]
  refine ⟨none,w3.putObj l (.loop { rec .ready with state:=.exhausted }),(by have:=run_endLoop (P:=P) (h3.hU l _ hU5) (by rw [hrec];simp);rw [this];congr 1),?_⟩
  show PostA m G w Q .normal _ _
  have hlw:∀ b x,w.heap[b]?=some x→b≠l:=fun b x e=>by have:=(Array.getElem?_eq_some_iff.1 e).1;omega
  have hWf:Wf { G5 with U:=G.U } (z33 (AObj.cells 1 [[z323 L]]::rest y)) (w3.putObj l (.loop { rec .ready with state:=.exhausted })):=by
    have hUo:∀ b x,G.U b=some x→G5.U b=some x:=fun b x e=>by
      rw [h1.1.U,hGc]
      show upd G.U (w.heap.size+1) _ b=_
      rw [← hl,z43 _ _ (hlw b x (hR.wf.hU b x e))];exact e
    have hSl:G5.S l=none:=h3.su l _ hU5
    refine ⟨fun b z e=>?_,fun b z e=>?_,fun b z e=>h3.su b z (hUo b z e),fun b p e=>?_,fun o'=>?_⟩
    · have hb:b≠l:=by rintro rfl;rw [show G5.S b=some z from e] at hSl;cases hSl
      rw [World.putObj_heap_other hb];exact h3.hS b z e
    · rw [World.putObj_heap_other (hlw b z (hR.wf.hU b z e))];exact h3.hU b z (hUo b z e)
    · obtain ⟨i1,i2,i3⟩:=h3.sk b p e
      refine ⟨i1,?_,by simpa [World.putObj] using i3⟩
      show G.U b=none
      cases hu:G.U b with
      | none=>rfl
      | some z=>rw [hUo b z hu] at i2;cases i2
    · refine y9 (G:=G5) (G':={ G5 with U:=G.U }) (h:=hp w3) (fun _ _ _ _ e=>e) rfl (fun b p e=>⟨e,?_⟩) (h3.objs o')
      have hb:b≠l:=by rintro rfl;have:=(h3.sk b p e).2.1;rw [hU5] at this;cases this
      exact World.putObj_heap_other hb
  have hall:=y12 hWc (by exact Nat.le_of_eq (hlen _)) h1
  refine ⟨{ G5 with U:=G.U },mkSt n env (AObj.cells 1 [[z323 L]]::rest y),⟨⟨fun b z e=>h1.1.S _ _ (hSold b z e),rfl⟩,fun o' t ho' e=>h1.2 o' t (by omega) (by rw [hιc];exact e)⟩,(hle1.trans h2).trans (Le.putObj _ _ _),hq y hoky,hWf,fun s=>?_,hR.size,?_⟩
  · exact z110 (G:=Gc) (G':={ G5 with U:=G.U }) h1.1.S hall (henv s)
  · obtain ⟨Ds,d1,d2,d3⟩:=hR.defers
    refine ⟨w.heap.size::Ds,by show _::a.defers=_;rw [d1];rfl,List.nodup_cons.2 ⟨fun hD=>?_,d2⟩,fun D hD=>?_⟩
    · have:=(Array.getElem?_eq_some_iff.1 (hR.wf.hS _ _ (d3 _ hD))).1
      omega
    · rcases List.mem_cons.1 hD with rfl|hD
      · exact h1.1.S _ _ hSD
      · exact h1.1.S _ _ (hSold _ _ (d3 D hD))
theorem AWP.at_ {m:Nat} {c:Code} {Q:Exit→St→Prop} {st:St} (h:AWP P m c Q st) {G:Ghost} {a:Act} {w:World} (hR:Rel G st a w):c.wpIn Fence.wide 0 P (PostA m G w Q) a w:=h G a w hR none (.inl rfl)
theorem z1058 {G:Ghost} {h:Nat→Option Obj} {args:List AC} {vs:Array Value} (hs:vs.size=args.length) (hv:VL G h none args vs 0) (n:Nat) (s:Nat):V G h none (z83 (z161 0 args) s) ((vs++Array.replicate (n - vs.size) undef).getD s undef):=by
 rw [z321]
 by_cases hsl:s < args.length
 ·have hx:args[s]?=some args[s]:=y38 hsl
  obtain ⟨v,hv1,hv2⟩:=z59.1 hv s _ hx
  rw [Nat.zero_add] at hv1
  rw [z58 hx]
  have:(vs++Array.replicate (n - vs.size) undef).getD s undef=v:=by
   rw [y72,Array.getElem?_append,if_pos (by omega),hv1];rfl
  rw [this];exact hv2
 ·rw [z62 (by omega)];simp [V]
end Go.Gl
namespace Go.Gl
variable {P:Program}
def andB (a b:Bool):Bool:=match a with
 |true=>b
 |false=>false
theorem z149 {a b:Bool} (h:andB a b=true):a=true∧b=true:=by
 cases a
 ·cases h
 ·exact ⟨rfl,h⟩
def z925 (st:St) (π Bn ν:List Nat) (n:Nat) (res:AC):Bool:=andB (allN (fun o=>z144 (st.objs o)) π) (andB (allN (fun o=>z322 (st.objs o)) ν) (andB (z187 (π++ν++Bn)) (andB (Nat.beq n (π++ν).length) (res.under n))))
def undB (M:Nat):List AObj→Bool
 |[]=>true
 |.cells _ es::r=>andB (es.all (z117 M)) (undB M r)
 |.dead::r=>undB M r
 |.mp _ _::r=>undB M r
 |.fresh::_=>false
theorem z334 {M:Nat} : ∀ {xs:List AObj},undB M xs=true→∀ x∈xs,z234 M x
 |[],_,x,hx=>by cases hx
 |y::r,h,x,hx=>by
  cases y with
  |fresh=>cases h
  |dead=>rcases List.mem_cons.1 hx with rfl|hx;exact trivial;exact z334 (xs:=r) h x hx
  |mp a b=>rcases List.mem_cons.1 hx with rfl|hx;exact trivial;exact z334 (xs:=r) h x hx
  |cells w es =>
   obtain ⟨h1,h2⟩:=z149 h
   rcases List.mem_cons.1 hx with rfl|hx
   ·exact fun e he=>(List.all_eq_true.1 h1) e he
   ·exact z334 h2 x hx
theorem z345 {objs:Nat→AObj} {π Bn:List Nat} : ∀ {os:List Nat} {ys:List AObj},os.map (z70 objs π Bn)=ys→PassOk objs π Bn os ys
 |[],_,h=>h.symm
 |_::os,_,h=>⟨_,os.map (z70 objs π Bn),h.symm,rfl,z345 rfl⟩
theorem z549 {M:Nat} {r:Nat→Nat} : ∀ {xs:List AObj},(∀ x∈xs,z234 M x)→ObjsRen M r xs (xs.map (z103 r))
 |[],_=>rfl
 |x::xs,h=>⟨z103 r x,xs.map (z103 r),rfl,⟨h x (by simp),rfl⟩,z549 fun y hy=>h y (y65 _ hy)⟩
variable {st:St} {K:OpK} {f:FuncId} {first caps args args0:List AC} {objs0 objs1 objs1' : List AObj} {res:AC}
theorem z1072 (π Bn ν : List Nat) (h : CallsA P f args0 objs0 res objs1) (hb : borL st.objs π Bn (first ++ (args ++ caps)) = args0) (hp : PassOk st.objs π Bn π objs0) (hc : z925 st π Bn ν objs1.length res = true)
    (ho:ObjsRen objs1.length (z56 0 (π++ν)) objs1 objs1') (hpl:Bn=[]∨(res.plain=true∧PlainObjs objs1)) (k:renK (z56 0 (π++ν)) res fun res1=>K res1 (z166 st (π++ν) objs1'++Bn.map st.rd)):z19 P st (.fn (.func f) first caps) args K:=by
  obtain ⟨h1,h2⟩:=z149 hc
  obtain ⟨h2,h3⟩:=z149 h2
  obtain ⟨h3,h4⟩:=z149 h3
  obtain ⟨h4,h5⟩:=z149 h4
  exact z132 π Bn ν h hb hp h1 h2 h3 h4 h5 ho hpl k
theorem z99 (π Bn ν : List Nat) (h : CallsA P f args0 objs0 res objs1) (hb : borL st.objs π Bn (first ++ (args ++ caps)) = args0) (hp : π.map (z70 st.objs π Bn) = objs0) (hc : z925 st π Bn ν objs1.length res = true)
    (ho:ObjsRen objs1.length (z56 0 (π++ν)) objs1 objs1') (hpl:Bn=[]∨(res.plain=true∧PlainObjs objs1)) (k:renK (z56 0 (π++ν)) res fun res1=>K res1 (z166 st (π++ν) objs1'++Bn.map st.rd)):z19 P st (.fn (.func f) first caps) args K :=
  z1072 π Bn ν h hb (z345 hp) hc ho hpl k
theorem z147 (π ν : List Nat) (h : CallsA P f args0 objs0 res objs1) (hb : borL st.objs π [] (first ++ (args ++ caps)) = args0) (hp : PassOk st.objs π [] π objs0) (hc : z925 st π [] ν objs1.length res = true)
    (ho:ObjsRen objs1.length (z56 0 (π++ν)) objs1 objs1') (k:renK (z56 0 (π++ν)) res fun res1=>K res1 (z166 st (π++ν) objs1'++List.map st.rd [])):z19 P st (.fn (.func f) first caps) args K :=
  z1072 π [] ν h hb hp hc ho (.inl rfl) k
theorem z11 (π ν : List Nat) (h : CallsA P f args0 objs0 res objs1) (hb : borL st.objs π [] (first ++ (args ++ caps)) = args0) (hp : π.map (z70 st.objs π []) = objs0) (hc : z925 st π [] ν objs1.length res = true)
    (ho:ObjsRen objs1.length (z56 0 (π++ν)) objs1 objs1') (k:renK (z56 0 (π++ν)) res fun res1=>K res1 (z166 st (π++ν) objs1'++List.map st.rd [])):z19 P st (.fn (.func f) first caps) args K :=
  z1072 π [] ν h hb (z345 hp) hc ho (.inl rfl) k
theorem call_PB (π ν : List Nat) (h : CallsA P f args0 objs0 res objs1) (hb : borL st.objs π [] (first ++ (args ++ caps)) = args0) (hp : PassOk st.objs π [] π objs0) (hc : andB (undB objs1.length objs1) (z925 st π [] ν objs1.length res) = true)
    (k:renK (z56 0 (π++ν)) res fun res1=>K res1 (z166 st (π++ν) (objs1.map (z103 (z56 0 (π++ν))))++List.map st.rd [])):z19 P st (.fn (.func f) first caps) args K :=
  z147 π ν h hb hp (z149 hc).2 (z549 (z334 (z149 hc).1)) k
theorem z22 (π ν : List Nat) (h : CallsA P f args0 objs0 res objs1) (hb : borL st.objs π [] (first ++ (args ++ caps)) = args0) (hp : π.map (z70 st.objs π []) = objs0) (hc : andB (undB objs1.length objs1) (z925 st π [] ν objs1.length res) = true)
    (k:renK (z56 0 (π++ν)) res fun res1=>K res1 (z166 st (π++ν) (objs1.map (z103 (z56 0 (π++ν))))++List.map st.rd [])):z19 P st (.fn (.func f) first caps) args K :=
  call_PB π ν h hb (z345 hp) hc k
def layB (m:Nat) (o:Nat→AObj) (π Bn:List Nat):Bool:=andB (z187 (π++Bn)) (andB (allN (fun x=>z144 (o x)) π) (z225 m 0 π))
theorem swR (π Bn : List Nat) {m n : Nat} {st : St} {env : List (Nat × AC)} {objs : List AObj} (hst : st.n = n) (hc : layB m st.objs π Bn = true)
    (h:envLe (fun s=>bor st.objs π Bn (st.env s)) env∧F2 ObjLe (π.map (z70 st.objs π Bn)) objs):Reach m st (mkSt n env objs):=by
  obtain ⟨h1,h2⟩:=z149 hc
  obtain ⟨h2,h3⟩:=z149 h2
  exact SealW.reach π Bn hst h1 h2 h3 h.1 h.2
theorem rsL (π Bn:List Nat) {m:Nat} {o:Nat→AObj} {res:AC} {objs' : List AObj} {r:AC} (hc:layB m o π Bn=true) (h:RetS m (z33 (π.map (z70 o π Bn))) res objs' (bor o π Bn r)):RetS m o res objs' r:=by
 obtain ⟨h1,h2⟩:=z149 hc
 obtain ⟨h2,h3⟩:=z149 h2
 exact y11 π Bn h1 h2 h3 h
theorem rsD (π Bn:List Nat) {m:Nat} {o:Nat→AObj} {res:AC} {objs' : List AObj} {r:AC} (hc:layB m o π Bn=true) (h:LocLe (bor o π Bn r) res∧F2 ObjLe (π.map (z70 o π Bn)) objs'):RetS m o res objs' r :=
 rsL π Bn hc (RetS.done h.1 h.2)
end Go.Gl
namespace Go.Gl
def z420 (a:Int) (s:List Int×List Int) (y:Int):List Int×List Int:=if s.2.getD y.toNat 0=-2 then (s.1++[y],s.2.set y.toNat a) else s
def back (P:List Int):Nat→Int→List Int
 |0,_=>[]
 |f+1,a=>if 0≤a then a::back P f (P.getD a.toNat 0) else []
def swp (l:List Int) (i j:Nat):List Int:=(l.set i (l.getD j 0)).set j (l.getD i 0)
def revG:Nat→Nat→Nat→List Int→List Int
 |0,_,_,l=>l
 |f+1,i,j,l=>if i < j then revG f (i+1) (j - 1) (swp l i j) else l
theorem revG_len:∀ (f i j:Nat) (l:List Int),(revG f i j l).length=l.length:=by
 intro f
 induction f with
 |zero=>intro i j l;rfl
 |succ f ih=>intro i j l;rw [revG];split;rw [ih];simp [swp];rfl
def rvs (l:List Int):List Int:=revG l.length 0 (l.length - 1) l
theorem z381 (l:List Int):(rvs l).length=l.length:=revG_len _ _ _ _
structure SI (rows:List (List Int)) (c:Int) (n:Nat) (Q P:List Int):Prop where
 nd:Q.Nodup
 inN:InN n Q
 len:P.length=n
 un:∀ v:Int,0≤v→v < n→(P.getD v.toNat 0=-2↔v ∉ Q)
 pr:∀ k,k < Q.length→P.getD (Q.getD k 0).toNat 0=-1∨∃ j,j < k∧P.getD (Q.getD k 0).toNat 0=Q.getD j 0
 rp:∀ x∈Q,RP rows [c] x
 st:c∈Q
theorem SI.le {rows:List (List Int)} {c:Int} {n:Nat} {Q P:List Int} (h:SI rows c n Q P):Q.length≤n:=z129 n Q h.nd h.inN
theorem z355 {Q:List Int} {k:Nat} (h:k < Q.length):Q.getD k 0∈Q:=by rw [z20 h];exact y37 _
theorem z245 {Q:List Int} {y:Int} {k:Nat} (h:k < Q.length):(Q++[y]).getD k 0=Q.getD k 0:=by
 rw [z20 (by simp;omega),z20 h,List.getElem_append_left h]
theorem z498 {P:List Int} {i j:Nat} {a:Int} (h:i≠j):(P.set i a).getD j 0=P.getD j 0:=by
 simp only [y60];rw [List.getElem?_set_ne h]
theorem z354 {P:List Int} {i:Nat} {a:Int} (h:i < P.length):(P.set i a).getD i 0=a:=by
 rw [z20 (by simpa using h)];simp
theorem SI.one {rows : List (List Int)} {c : Int} {n : Nat} {Q P : List Int} (h : SI rows c n Q P) {i : Nat} (hi : i < Q.length) {y : Int} (hy : y ∈ rows.getD (Q.getD i 0).toNat []) (h0 : 0 ≤ y) (h1 : y < n) :
    SI rows c n (z420 (Q.getD i 0) (Q,P) y).1 (z420 (Q.getD i 0) (Q,P) y).2∧(∃ t,(z420 (Q.getD i 0) (Q,P) y).1=Q++t)∧y∈(z420 (Q.getD i 0) (Q,P) y).1:=by
  unfold z420
  have ha:=h.inN _ (z355 hi)
  by_cases hu:P.getD y.toNat 0=-2
  · rw [if_pos hu]
    have hn:=(h.un y h0 h1).1 hu
    have hyl:y.toNat < P.length:=by rw [h.len];omega
    have hne:∀ v∈Q,y.toNat≠v.toNat:=fun v hv e=>by
      have:=h.inN v hv
      have:y=v:=by omega
      rw [this] at hn;exact hn hv
    refine ⟨⟨?_,?_,by simp [h.len],?_,?_,?_,List.mem_append_left _ h.st⟩,⟨_,rfl⟩,by simp⟩
    · rw [y68]
      exact ⟨h.nd,by simp,fun a ha b hb=>by rintro rfl;rw [List.mem_singleton.1 hb] at ha;exact hn ha⟩
    · intro x hx
      rcases List.mem_append.1 hx with hx|hx
      · exact h.inN x hx
      · rw [List.mem_singleton.1 hx];exact ⟨h0,h1⟩
    · intro v v0 v1
      by_cases hv:v=y
      · subst hv
        show (P.set v.toNat _).getD v.toNat 0=-2↔_
        rw [z354 hyl]
        exact ⟨fun e=>by omega,fun hh=>absurd (by simp) hh⟩
      · show (P.set y.toNat _).getD v.toNat 0=-2↔_
        rw [z498 (by omega),h.un v v0 v1]
        simp [hv]
    · intro k hk
      show (P.set y.toNat _).getD ((Q++[y]).getD k 0).toNat 0=-1∨∃ j,j < k∧(P.set y.toNat _).getD ((Q++[y]).getD k 0).toNat 0=(Q++[y]).getD j 0
      simp only [y40,List.length_singleton] at hk
      rcases y62 k Q.length with h2|h2
      · rw [z245 h2,z498 (hne _ (z355 h2))]
        rcases h.pr k h2 with h3|⟨j,h3,h4⟩
        · exact .inl h3
        · exact .inr ⟨j,h3,by rw [h4,z245 (by omega)]⟩
      · have e:k=Q.length:=by omega
        subst e
        have e2:(Q++[y]).getD Q.length 0=y:=by rw [z20 (by simp)];simp
        rw [e2,z354 hyl]
        exact .inr ⟨i,hi,by rw [z245 hi]⟩
    · intro x hx
      rcases List.mem_append.1 hx with hx|hx
      · exact h.rp x hx
      · rw [List.mem_singleton.1 hx];exact .step (h.rp _ (z355 hi)) hy
  · rw [if_neg hu]
    refine ⟨h,⟨[],by simp⟩,?_⟩
    have:=h.un y h0 h1
    exact Classical.byContradiction fun hc=>hu (this.2 hc)
theorem SI.fold {rows : List (List Int)} {c : Int} {n : Nat} {i : Nat} {a : Int} : ∀ (r : List Int) (Q P : List Int), SI rows c n Q P → i < Q.length → Q.getD i 0 = a → (∀ y ∈ r, y ∈ rows.getD a.toNat [] ∧ 0 ≤ y ∧ y < n) →
  SI rows c n (r.foldl (z420 a) (Q,P)).1 (r.foldl (z420 a) (Q,P)).2∧(∃ t,(r.foldl (z420 a) (Q,P)).1=Q++t)∧∀ y∈r,y∈(r.foldl (z420 a) (Q,P)).1:=by
 intro r
 induction r with
 |nil=>intro Q P h _ _ _;exact ⟨h,⟨[],by simp⟩,fun y hy=>by cases hy⟩
 |cons y r ih =>
  intro Q P h hi ha hr
  have hy:=hr y (by simp)
  obtain ⟨h1,⟨t,ht⟩,h3⟩:=h.one hi (by rw [ha];exact hy.1) hy.2.1 hy.2.2
  rw [ha] at h1 ht h3
  rw [List.foldl_cons]
  generalize z420 a (Q,P) y=s at *
  obtain ⟨Q1,P1⟩:=s
  simp only at h1 ht h3
  subst ht
  obtain ⟨k1,⟨t2,ht2⟩,k3⟩:=ih (Q++t) P1 h1 (by simp;omega) (by rw [← ha,z20 (by simp;omega),z20 hi,List.getElem_append_left hi]) (fun z hz=>hr z (y65 _ hz))
  refine ⟨k1,⟨t++t2,by rw [ht2,List.append_assoc]⟩,fun z hz=>?_⟩
  rcases List.mem_cons.1 hz with rfl|hz
  ·rw [ht2];exact List.mem_append_left _ h3
  ·exact k3 z hz
structure SJ (rows:List (List Int)) (b:List Bool) (c:Int) (n:Nat) (Q P:List Int) (i:Nat):Prop where
 si:SI rows c n Q P
 le:i≤Q.length
 no:∀ k,k < i→gB b (Q.getD k 0).toNat=false∧∀ y∈rows.getD (Q.getD k 0).toNat [],y∈Q
theorem SJ.step {rows : List (List Int)} {b : List Bool} {c : Int} {n : Nat} {Q P : List Int} {i : Nat} (h : SJ rows b c n Q P i) (hr : ∀ r ∈ rows, InN n r) (hi : i < Q.length) (hb : gB b (Q.getD i 0).toNat = false) :
    SJ rows b c n ((rows.getD (Q.getD i 0).toNat []).foldl (z420 (Q.getD i 0)) (Q,P)).1 ((rows.getD (Q.getD i 0).toNat []).foldl (z420 (Q.getD i 0)) (Q,P)).2 (i+1):=by
  obtain ⟨k1,⟨t,ht⟩,k3⟩:=h.si.fold (i:=i) (a:=Q.getD i 0) (rows.getD (Q.getD i 0).toNat []) Q P hi rfl (fun y hy=>⟨hy,z197 hr _ y hy⟩)
  have e:∀ k,k < Q.length→(Q++t).getD k 0=Q.getD k 0:=fun k hk=>by rw [z20 (by simp;omega),z20 hk,List.getElem_append_left hk]
  refine ⟨k1,by rw [ht];simp;omega,fun k hk=>?_⟩
  rw [ht] at k3 ⊢
  rw [e k (by omega)]
  rcases y62 k i with h1|h1
  · exact ⟨(h.no k h1).1,fun y hy=>List.mem_append_left _ ((h.no k h1).2 y hy)⟩
  · obtain rfl:k=i:=by omega
    exact ⟨hb,k3⟩
theorem SJ.start {rows:List (List Int)} {b:List Bool} {c:Int} {n:Nat} (h0:0≤c) (h1:c < n):SJ rows b c n [c] ((List.replicate n (-2)).set c.toNat (-1)) 0:=by
 refine ⟨⟨by simp,fun x hx=>by rw [List.mem_singleton.1 hx];exact ⟨h0,h1⟩,by simp,fun v v0 v1=>?_,fun k hk=>?_,fun x hx=>.base hx,by simp⟩,by simp,fun k hk=>by omega⟩
 ·by_cases e:v=c
  ·subst e
   rw [z354 (by simp;omega)]
   simp
  ·rw [z498 (by omega),z20 (by simp;omega)]
   simp [e]
 ·obtain rfl:k=0:=by simpa using hk
  left
  show ((List.replicate n (-2:Int)).set c.toNat (-1)).getD c.toNat 0=-1
  rw [z354 (by simp;omega)]
theorem SJ.closed {rows:List (List Int)} {b:List Bool} {c:Int} {n:Nat} {Q P:List Int} {i:Nat} (h:SJ rows b c n Q P i) (hi:Q.length≤i) {x:Int} (hx:RP rows [c] x):x∈Q∧gB b x.toNat=false:=by
 have key:x∈Q:=by
  induction hx with
  |base hx=>rw [List.mem_singleton.1 hx];exact h.si.st
  |step _ hy ih =>
   obtain ⟨k,hk,e⟩:=List.mem_iff_getElem.1 ih
   have:=(h.no k (by omega)).2
   rw [z20 hk,e] at this
   exact this _ hy
 refine ⟨key,?_⟩
 obtain ⟨k,hk,e⟩:=List.mem_iff_getElem.1 key
 have:=(h.no k (by omega)).1
 rwa [z20 hk,e] at this
def Cyc (rows:List (List Int)) (x:Int):Prop:=∃ y,y∈rows.getD x.toNat []∧RP rows [y] x
def PathP (rows:List (List Int)) (p:List Int):Prop:=∀ i,i+1 < p.length→p.getD (i+1) 0∈rows.getD (p.getD i 0).toNat []
theorem RP.trans {rows:List (List Int)} {ini:List Int} {x y z:Int} (h:RP rows ini x) (hy:y∈rows.getD x.toNat []) (k:RP rows [y] z):RP rows ini z:=by
 induction k with
 |base hb=>rw [List.mem_singleton.1 hb];exact .step h hy
 |step _ hs ih=>exact .step ih hs
theorem RP.trans0 {rows:List (List Int)} {ini:List Int} {x z:Int} (h:RP rows ini x) (k:RP rows [x] z):RP rows ini z:=by
 induction k with
 |base hb=>rw [List.mem_singleton.1 hb];exact h
 |step _ hs ih=>exact .step ih hs
theorem RP.path {rows:List (List Int)} {ini:List Int} {x:Int} (h:RP rows ini x):∃ p:List Int,0 < p.length∧p.getD 0 0∈ini∧p.getD (p.length - 1) 0=x∧PathP rows p:=by
 induction h with
 |base hb=>exact ⟨[_],by simp,hb,rfl,fun i hi=>by simp at hi⟩
 |step _ hy ih =>
  rename_i u y _
  obtain ⟨p,h1,h2,h3,h4⟩:=ih
  refine ⟨p++[y],by simp,by rwa [z245 h1],by rw [z20 (by simp)];simp,fun i hi=>?_⟩
  simp only [y40,List.length_singleton] at hi
  rcases y62 (i+1) p.length with h|h
  ·rw [z245 h,z245 (by omega)];exact h4 i h
  ·have e:i+1=p.length:=by omega
   have e1:(p++[y]).getD i 0=u:=by rw [z245 (by omega),show i=p.length - 1 by omega,h3]
   have e2:(p++[y]).getD (i+1) 0=y:=by rw [e,z20 (by simp)];simp
   rw [e1,e2];exact hy
theorem PathP.rp {rows:List (List Int)} {p:List Int} (h:PathP rows p) {ini:List Int} (h0:p.getD 0 0∈ini):∀ i,i < p.length→RP rows ini (p.getD i 0):=by
 intro i
 induction i with
 |zero=>exact fun _=>.base h0
 |succ i ih=>exact fun hi=>.step (ih (by omega)) (h i hi)
theorem run_rp {rows:List (List Int)} {π:Nat→Int} (h:∀ k,π (k+1)∈rows.getD (π k).toNat []):∀ d k,RP rows [π k] (π (k+d)):=by
 intro d
 induction d with
 |zero=>exact fun k=>.base (by simp)
 |succ d ih=>exact fun k=>.step (ih k) (h (k+d))
theorem runInN {rows:List (List Int)} {N:Nat} (hr:∀ r∈rows,InN N r) {π:Nat→Int} (h:∀ k,π (k+1)∈rows.getD (π k).toNat []) (h0:0≤π 0∧π 0 < N):∀ k,0≤π k∧π k < N
 |0=>h0
 |k+1=>rowInN hr _ _ (h k)
theorem run_cyc {rows:List (List Int)} {N:Nat} (hr:∀ r∈rows,InN N r) {π:Nat→Int} (h:∀ k,π (k+1)∈rows.getD (π k).toNat []) (h0:0≤π 0∧π 0 < N) {acc:Int→Prop} (ha:∀ m,∃ k,m≤k∧acc (π k)):∃ k,acc (π k)∧Cyc rows (π k):=by
 let f:Nat→Nat:=fun m=>(ha m).choose
 have hf:∀ m,m≤f m∧acc (π (f m)):=fun m=>(ha m).choose_spec
 let s:Nat→Nat:=fun i=>Nat.rec (f 0) (fun _ k=>f (k+1)) i
 have hs:∀ i,acc (π (s i)):=fun i=>by
  cases i with
  |zero=>exact (hf 0).2
  |succ i=>exact (hf (s i+1)).2
 have hlt:∀ i,s i < s (i+1):=fun i=>(hf (s i+1)).1
 have hmono:∀ d i,s i < s (i+d+1):=by
  intro d
  induction d with
  |zero=>exact hlt
  |succ d ih=>exact fun i=>Nat.lt_trans (ih i) (hlt (i+d+1))
 by_cases hne:∀ i j,i < j→π (s i)≠π (s j)
 ·exfalso
  have hin:=runInN hr h h0
  have:=z129 N ((List.range (N+1)).map fun i=>π (s i)) (by
   show List.Pairwise (·≠·) _
   rw [List.pairwise_map]
   exact List.Pairwise.imp (fun {a b} hab=>hne a b hab) List.pairwise_lt_range) (fun x hx=>by
   obtain ⟨i,_,rfl⟩:=List.mem_map.1 hx
   exact hin _)
  rw [y42,List.length_range] at this
  omega
 ·simp only [Classical.not_forall,Classical.not_not] at hne
  obtain ⟨i,j,hij,e⟩:=hne
  have hl:s i < s j:=by
   have:=hmono (j - i - 1) i
   rwa [show i+(j - i - 1)+1=j by omega] at this
  refine ⟨s i,hs i,π (s i+1),h _,?_⟩
  have:=run_rp h (s j - (s i+1)) (s i+1)
  rw [show s i+1+(s j - (s i+1))=s j by omega,← e] at this
  exact this
def z240 (p q:List Int) (k:Nat):Int:=if k < p.length then p.getD k 0 else q.getD ((k - p.length) % q.length) 0
theorem z605 {rows:List (List Int)} {p q:List Int} (hp:PathP rows p) (hq:PathP rows q) (hl:0 < q.length) (h1:0 < p.length→q.getD 0 0∈rows.getD (p.getD (p.length - 1) 0).toNat []) (h2:q.getD 0 0∈rows.getD (q.getD (q.length - 1) 0).toNat []) (k:Nat):z240 p q (k+1)∈rows.getD (z240 p q k).toNat []:=by
 unfold z240
 rcases y62 (k+1) p.length with h|h
 ·rw [if_pos h,if_pos (by omega)];exact hp k h
 rw [if_neg (show ¬ k+1 < p.length by omega)]
 rcases y62 k p.length with h3|h3
 ·rw [if_pos h3,show k+1 - p.length=0 by omega,Nat.zero_mod,show k=p.length - 1 by omega]
  exact h1 (by omega)
 rw [if_neg (show ¬ k < p.length by omega),show k+1 - p.length=(k - p.length)+1 by omega]
 generalize k - p.length=j
 have hm:=Nat.mod_lt j hl
 rcases y62 (j % q.length+1) q.length with h4|h4
 ·rw [Nat.add_mod,Nat.mod_eq_of_lt (show 1 < q.length by omega),Nat.mod_eq_of_lt h4];exact hq _ h4
 ·have e:j % q.length=q.length - 1:=by omega
  have e2:(j+1) % q.length=0:=by
   have:=Nat.div_add_mod j q.length
   rw [e] at this
   rw [show j+1=q.length * (j / q.length)+q.length by omega]
   simp
  rw [e,e2];exact h2
theorem z679 {p q:List Int} {i:Nat} (hi:i < q.length) (m:Nat):∃ k,m≤k∧z240 p q k=q.getD i 0:=by
 refine ⟨p.length+(q.length * m+i),by have:m≤q.length * m:=Nat.le_mul_of_pos_left m (by omega);omega,?_⟩
 unfold z240
 rw [if_neg (by omega),show p.length+(q.length * m+i) - p.length=q.length * m+i by omega,Nat.mul_add_mod,Nat.mod_eq_of_lt hi]
theorem cyc_run {rows:List (List Int)} {ini:List Int} {x:Int} (h:RP rows ini x) (hc:Cyc rows x):∃ π:Nat→Int,π 0∈ini∧(∀ k,π (k+1)∈rows.getD (π k).toNat [])∧∀ m,∃ k,m≤k∧π k=x:=by
 obtain ⟨p,p1,p2,p3,p4⟩:=h.path
 obtain ⟨y,hy,hr⟩:=hc
 obtain ⟨q,q1,q2,q3,q4⟩:=hr.path
 rw [y48] at q2
 refine ⟨z240 p q,by unfold z240;rw [if_pos p1];exact p2,z605 p4 q4 q1 (fun _=>by rw [q2,p3];exact hy) (by rw [q2,q3];exact hy),fun m=>?_⟩
 obtain ⟨k,h1,h2⟩:=z679 (p:=p) (q:=q) (i:=q.length - 1) (by omega) m
 exact ⟨k,h1,by rw [h2,q3]⟩
theorem inf_iff {rows:List (List Int)} {ini:List Int} {N:Nat} (hr:∀ r∈rows,InN N r) (hi:InN N ini) {acc:Int→Prop} : (∃ π:Nat→Int,π 0∈ini∧(∀ k,π (k+1)∈rows.getD (π k).toNat [])∧∀ m,∃ k,m≤k∧acc (π k))↔∃ x,RP rows ini x∧acc x∧Cyc rows x:=by
 constructor
 ·rintro ⟨π,h0,h1,h2⟩
  obtain ⟨k,h3,h4⟩:=run_cyc hr h1 (hi _ h0) h2
  refine ⟨_,?_,h3,h4⟩
  have:=run_rp h1 k 0
  rw [Nat.zero_add] at this
  exact (RP.base h0).trans0 this
 ·rintro ⟨x,h1,h2,h3⟩
  obtain ⟨π,p0,p1,p2⟩:=cyc_run h1 h3
  exact ⟨π,p0,p1,fun m=>by obtain ⟨k,k1,k2⟩:=p2 m;exact ⟨k,k1,by rw [k2];exact h2⟩⟩
def z203 (k:Int):Int:=if k=1∨k=2 then 0 else if k=3∨k=6∨k=9∨k=10 then 1 else if k=4∨k=5∨k=7∨k=8 then 2 else -1
def z480 (k:Int):Int:=if k=2 then 2 else 0
mutual
def Tree.walkF (t:Tree) (d n:Int):Int×Bool:=match t with
 |.mk k v l=>if d≤6∧n+1≤12∧0≤v∧v≤z480 k∧(l.length:Int)=z203 k then Tree.walkFs l (d+1) (n+1) else (n+1,false)
def Tree.walkFs (l:List Tree) (d n:Int):Int×Bool:=match l with
 |[]=>(n,true)
 |t::r=>if (Tree.walkF t d n).2 then Tree.walkFs r d (Tree.walkF t d n).1 else ((Tree.walkF t d n).1,false)
end
mutual
def Tree.shapeF (t:Tree) (d:Int):Bool:=match t with
 |.mk k v l=>decide (1≤d∧(l.length:Int)=z203 k∧0≤v∧v≤z480 k) && Tree.shapeFs l (d - 1)
def Tree.shapeFs (l:List Tree) (d:Int):Bool:=match l with
 |[]=>true
 |t::r=>Tree.shapeF t d && Tree.shapeFs r d
end
theorem Tree.walkF_spec : (∀ (t : Tree) d n, 0 ≤ n → n ≤ 12 → ((t.walkF d n).2 = true ↔ t.shapeF (7 - d) = true ∧ n + t.count (7 - d) ≤ 12) ∧ ((t.walkF d n).2 = true → (t.walkF d n).1 = n + t.count (7 - d)) ∧ n ≤ (t.walkF d n).1 ∧ (t.walkF d n).1 ≤ 13) ∧
  ∀ (l:List Tree) d n,0≤n→n≤12→((Tree.walkFs l d n).2=true↔Tree.shapeFs l (7 - d)=true∧n+Tree.counts l (7 - d)≤12)∧((Tree.walkFs l d n).2=true→(Tree.walkFs l d n).1=n+Tree.counts l (7 - d))∧n≤(Tree.walkFs l d n).1∧(Tree.walkFs l d n).1≤13:=by
 refine Tree.rec2 ?_ ?_ ?_
 ·intro k v l ih d n h0 h1
  simp only [Tree.walkF,Tree.shapeF,Tree.count,y63,decide_eq_true_eq]
  have hc:=Tree.count_pos.2 l (7 - d - 1)
  by_cases hb:d≤6∧n+1≤12∧0≤v∧v≤z480 k∧(l.length:Int)=z203 k
  ·rw [if_pos hb,if_pos (by omega)]
   have:=ih (d+1) (n+1) (by omega) hb.2.1
   rw [show 7 - (d+1)=7 - d - 1 by omega] at this
   obtain ⟨a1,a2,a3,a4⟩:=this
   refine ⟨?_,?_,by omega,by omega⟩
   ·rw [a1]
    constructor
    ·rintro ⟨b1,b2⟩;exact ⟨⟨⟨by omega,hb.2.2.2.2,hb.2.2.1,hb.2.2.2.1⟩,b1⟩,by omega⟩
    ·rintro ⟨b1,b2⟩;exact ⟨b1.2,by omega⟩
   ·intro h;rw [a2 h];omega
  ·rw [if_neg hb]
   refine ⟨⟨by simp,?_⟩,by simp,by simp only;omega,by simp only;omega⟩
   rintro ⟨⟨⟨b1,b2,b3,b4⟩,b5⟩,b6⟩
   rw [if_pos (by omega)] at b6
   exact absurd ⟨by omega,by omega,b3,b4,b2⟩ hb
 ·intro d n h0 h1
  simp [Tree.walkFs,Tree.shapeFs,Tree.counts];omega
 ·intro t r iht ihr d n h0 h1
  simp only [Tree.walkFs,Tree.shapeFs,Tree.counts,y63]
  obtain ⟨a1,a2,a3,a4⟩:=iht d n h0 h1
  have hc:=Tree.count_pos.2 r (7 - d)
  by_cases hb:(t.walkF d n).2=true
  ·rw [if_pos hb]
   have e:=a2 hb
   obtain ⟨b1,b2,b3,b4⟩:=ihr d (t.walkF d n).1 (by omega) (by rw [e];exact (a1.1 hb).2)
   refine ⟨?_,fun h=>by rw [b2 h,e];omega,by omega,b4⟩
   rw [b1,e]
   exact ⟨fun h=>⟨⟨(a1.1 hb).1,h.1⟩,by omega⟩,fun h=>⟨h.1.2,by omega⟩⟩
  ·rw [if_neg hb]
   refine ⟨⟨by simp,fun h=>absurd (a1.2 ⟨h.1.1,by omega⟩) hb⟩,by simp,a3,a4⟩
def Tree.fmB (t:Tree):Bool:=(t.walkF 1 0).2
theorem y18 (t:Tree):t.fmB=(t.shapeF 6 && decide (t.count 6≤12)):=by
 have h:=(Tree.walkF_spec.1 t 1 0 (by omega) (by omega)).1
 rw [show (7:Int) - 1=6 by omega,Int.zero_add] at h
 rw [Bool.eq_iff_iff,y63,decide_eq_true_eq]
 exact h
theorem z309 {α : Type} (R : Nat → Int → α → Int → Prop) (p0 c : Int) : ∀ (m : Nat), (∀ k p, k < m → p0 ≤ p → p ≤ p0 + c * k → ∃ a p', R k p a p' ∧ p ≤ p' ∧ p' ≤ p + c) →
  ∃ (l:List α) (pf:Nat→Int),l.length=m∧pf 0=p0∧(∀ k (hk:k < l.length),R k (pf k) l[k] (pf (k+1)))∧∀ k,k≤m→p0≤pf k∧pf k≤p0+c * k:=by
 intro m
 induction m with
 |zero =>
  intro _
  refine ⟨[],fun _=>p0,rfl,rfl,fun k hk=>by simp at hk,fun k hk=>?_⟩
  have:k=0:=by omega
  subst this;simp
 |succ m ih =>
  intro h
  obtain ⟨l,pf,h1,h2,h3,h4⟩:=ih fun k p hk=>h k p (by omega)
  have h5:=h4 m (y45 _)
  obtain ⟨a,p',h6,h7,h8⟩:=h m (pf m) (by omega) h5.1 h5.2
  refine ⟨l++[a],fun k=>if k≤m then pf k else p',by simp [h1],by simp [h2],fun k hk=>?_,fun k hk=>?_⟩
  ·by_cases hkm:k < m
   ·simp only [if_pos (show k≤m by omega),if_pos (show k+1≤m by omega)]
    rw [List.getElem_append_left (by omega)]
    exact h3 k (by omega)
   ·have:k=m:=by simp at hk;omega
    subst this
    simp only [if_pos (y45 _),if_neg (show ¬(k+1≤k) by omega)]
    rw [List.getElem_append_right (by omega)]
    simpa [h1] using h6
  ·by_cases hkm:k≤m
   ·simp only [if_pos hkm];exact h4 k hkm
   ·have:k=m+1:=by omega
    subst this
    simp only [if_neg hkm]
    rw [show ((m+1:Nat):Int)=m+1 by omega,Int.mul_add]
    omega
theorem y28 (l:List Tree) (d:Int):Tree.shapeFs l d=true↔∀ t∈l,t.shapeF d=true:=by
 induction l with
 |nil=>simp [Tree.shapeFs]
 |cons t l ih=>simp [Tree.shapeFs,ih]
theorem y27 (t:Tree) (d:Int):t.shapeF d=true↔(1≤d∧(t.kids.length:Int)=z203 t.kind∧0≤t.val∧t.val≤z480 t.kind)∧∀ u∈t.kids,u.shapeF (d - 1)=true:=by
 cases t with
 |mk k v l=>simp only [Tree.shapeF,y63,decide_eq_true_eq,y28,Tree.kids,Tree.kind,Tree.val]
def Tree.goodF (t:Tree):Prop:=∃ d,t.shapeF d=true
theorem y21 {t:Tree} (h:t.fmB=true):t.goodF:=by
 rw [y18,y63] at h
 exact ⟨6,h.1⟩
theorem y20 {t:Tree} (h:t.goodF):(t.kids.length:Int)=z203 t.kind∧0≤t.val∧t.val≤z480 t.kind∧∀ u∈t.kids,u.goodF:=by
 obtain ⟨d,h⟩:=h
 rw [y27] at h
 exact ⟨h.1.2.1,h.1.2.2.1,h.1.2.2.2,fun u hu=>⟨d - 1,h.2 u hu⟩⟩
inductive FormF:Tree→Prop
 |tr:FormF (.mk 1 0 [])
 |at (v:Int) (h0:0≤v) (h1:v≤2):FormF (.mk 2 v [])
 |un (k:Int) (a:Tree) (hk:k=3∨k=6∨k=9∨k=10) (ha:a.goodF):FormF (.mk k 0 [a])
 |bin (k:Int) (a b:Tree) (hk:k=4∨k=5∨k=7∨k=8) (ha:a.goodF) (hb:b.goodF):FormF (.mk k 0 [a,b])
theorem y19 {t:Tree} (h:t.goodF):FormF t:=by
 obtain ⟨h1,h2,h3,h4⟩:=y20 h
 cases t with
 |mk k v l =>
  simp only [Tree.kids,Tree.kind,Tree.val] at h1 h2 h3 h4
  unfold z480 at h3
  unfold z203 at h1
  by_cases e1:k=1
  ·subst e1
   simp at h1 h3
   obtain rfl:v=0:=by omega
   subst h1;exact .tr
  by_cases e2:k=2
  ·subst e2
   simp at h1 h3
   subst h1;exact .at v h2 h3
  rw [if_neg e2] at h3
  obtain rfl:v=0:=by omega
  by_cases e3:k=3∨k=6∨k=9∨k=10
  ·rw [if_neg (by omega),if_pos e3] at h1
   match l,h1 with
   |[a],_=>exact .un k a e3 (h4 a (by simp))
   |[],h1=>simp at h1
   |a::b::r,h1=>simp at h1;omega
  by_cases e4:k=4∨k=5∨k=7∨k=8
  ·rw [if_neg (by omega),if_neg e3,if_pos e4] at h1
   match l,h1 with
   |[a,b],_=>exact .bin k a b e4 (h4 a (by simp)) (h4 b (by simp))
   |[],h1=>simp at h1
   |[a],h1=>simp at h1
   |a::b::c::r,h1=>simp at h1;omega
  ·rw [if_neg (by omega),if_neg e3,if_neg e4] at h1
   omega
def z1060 (k:Int):Int:=if k=4 then 5 else if k=5 then 4 else if k=7 then 8 else 7
def dftT:Tree:=.mk 0 0 []
def truT:Tree:=.mk 1 0 []
def notT (t:Tree):Tree:=.mk 3 0 [t]
def z772 (k v:Int) (neg:Bool) (ks:List Tree):Tree :=
 if k=1∨k=2 then (if neg then notT (.mk k v []) else .mk k v [])
 else if k=6 then .mk 6 0 [ks.getD 0 dftT]
 else if k=9∨k=10 then (if (decide (k=9) != neg)=true then .mk 7 0 [truT,ks.getD 0 dftT] else .mk 8 0 [notT truT,ks.getD 0 dftT])
 else .mk (if neg then z1060 k else k) 0 [ks.getD 0 dftT,ks.getD 1 dftT]
mutual
def Tree.nrm (neg:Bool) (t:Tree):Tree:=match t with
 |.mk k v l=>if k=3 then (Tree.nrms (!neg) l).getD 0 dftT else z772 k v neg (Tree.nrms neg l)
def Tree.nrms (neg:Bool) (l:List Tree):List Tree:=match l with
 |[]=>[]
 |t::r=>Tree.nrm neg t::Tree.nrms neg r
end
theorem z1007 (neg:Bool):(Tree.mk 1 0 []).nrm neg=if neg then notT (.mk 1 0 []) else .mk 1 0 []:=by simp [Tree.nrm,Tree.nrms,z772]
theorem z1009 (neg:Bool) (v:Int):(Tree.mk 2 v []).nrm neg=if neg then notT (.mk 2 v []) else .mk 2 v []:=by simp [Tree.nrm,Tree.nrms,z772]
theorem z770 (neg:Bool) (v:Int) (a:Tree):(Tree.mk 3 v [a]).nrm neg=a.nrm (!neg):=by simp [Tree.nrm,Tree.nrms]
theorem z597 (neg:Bool) (v:Int) (a:Tree):(Tree.mk 6 v [a]).nrm neg=.mk 6 0 [a.nrm neg]:=by simp [Tree.nrm,Tree.nrms,z772]
theorem z1008 (neg:Bool) (v:Int) (a:Tree):(Tree.mk 9 v [a]).nrm neg=if neg then .mk 8 0 [notT truT,a.nrm neg] else .mk 7 0 [truT,a.nrm neg]:=by cases neg<;>simp [Tree.nrm,Tree.nrms,z772]
theorem z1010 (neg:Bool) (v:Int) (a:Tree):(Tree.mk 10 v [a]).nrm neg=if neg then .mk 7 0 [truT,a.nrm neg] else .mk 8 0 [notT truT,a.nrm neg]:=by cases neg<;>simp [Tree.nrm,Tree.nrms,z772]
theorem z771 (neg:Bool) (k v:Int) (a b:Tree) (hk:k=4∨k=5∨k=7∨k=8):(Tree.mk k v [a,b]).nrm neg=.mk (if neg then z1060 k else k) 0 [a.nrm neg,b.nrm neg]:=by
 rcases hk with rfl|rfl|rfl|rfl<;>simp [Tree.nrm,Tree.nrms,z772]
theorem z455 (k v:Int) (a:Tree):(Tree.mk k v [a]).sz=1+a.sz:=by simp [Tree.sz,Tree.szs]
theorem z403 (k v:Int) (a b:Tree):(Tree.mk k v [a,b]).sz=2+(a.sz+b.sz):=by simp [Tree.sz,Tree.szs];omega
theorem z818 (k v:Int):(Tree.mk k v []).sz=0:=by simp [Tree.sz,Tree.szs]
theorem y26 (t:Tree):t.goodF→∀ neg,(t.nrm neg).sz≤4 * t.sz+3:=by
 induction t using y24 with|h t ih=>?_
 intro hg neg
 cases y19 hg with
 |tr=>rw [z1007];cases neg<;>simp [notT,z455,z818]
 |«at» v _ _=>rw [z1009];cases neg<;>simp [notT,z455,z818]
 |un k a hk ha =>
  have h1:=ih a (by simp [Tree.kids]) ha
  rw [z455]
  rcases hk with rfl|rfl|rfl|rfl
  ·rw [z770];have:=h1 (!neg);omega
  ·rw [z597,z455];have:=h1 neg;omega
  ·rw [z1008];have:=h1 neg;cases neg<;>simp [z403,notT,truT,z455,z818]<;>omega
  ·rw [z1010];have:=h1 neg;cases neg<;>simp [z403,notT,truT,z455,z818]<;>omega
 |bin k a b hk ha hb =>
  have h1:=ih a (by simp [Tree.kids]) ha neg
  have h2:=ih b (by simp [Tree.kids]) hb neg
  rw [z771 _ _ _ _ _ hk,z403,z403];omega
noncomputable def addT (o:List Tree) (t:Tree):List Tree:=if t∈o then o else o++[t]
mutual
noncomputable def Tree.subs (t:Tree) (o:List Tree):List Tree:=match t with
 |.mk k v l=>addT (Tree.subss l o) (.mk k v l)
noncomputable def Tree.subss (l:List Tree) (o:List Tree):List Tree:=match l with
 |[]=>o
 |t::r=>Tree.subss r (Tree.subs t o)
end
theorem y30 (t:Tree) (o:List Tree):t.subs o=addT (Tree.subss t.kids o) t:=by cases t;rw [Tree.subs];rfl
theorem y31 (l:List Tree) (t:Tree):∀ o,Tree.subss (l++[t]) o=t.subs (Tree.subss l o):=by
 induction l with
 |nil=>intro o;simp [Tree.subss]
 |cons u l ih=>intro o;simp only [List.cons_append,Tree.subss];exact ih _
theorem y32 {l:List Tree} {k:Nat} (h:k < l.length) (o:List Tree):Tree.subss (l.take (k+1)) o=l[k].subs (Tree.subss (l.take k) o):=by
 rw [y43 h,y31]
theorem z302 {o:List Tree} {t x:Tree} : x∈addT o t↔x∈o∨x=t:=by
 unfold addT
 split
 ·rename_i h
  constructor
  ·exact .inl
  ·rintro (h1|rfl)
   ·exact h1
   ·exact h
 ·simp
theorem z937 {o:List Tree} {t:Tree} (h:o.Nodup):(addT o t).Nodup:=by
 unfold addT
 split
 ·exact h
 ·rename_i hn
  rw [y68]
  exact ⟨h,by simp,fun a ha b hb=>by rintro rfl;rw [List.mem_singleton.1 hb] at ha;exact hn ha⟩
theorem addT_len (o:List Tree) (t:Tree):(addT o t).length≤o.length+1:=by unfold addT;split<;>simp
theorem z376:∀ t:Tree,∀ o:List Tree,(o.Nodup→(t.subs o).Nodup)∧(∀ x∈o,x∈t.subs o)∧t∈t.subs o∧(t.subs o).length≤o.length+t.sz+1∧(∀ x∈t.subs o,x∈o∨x.sz≤t.sz)∧((∀ x∈o,∀ u∈x.kids,u∈o)→∀ x∈t.subs o,∀ u∈x.kids,u∈t.subs o):=by
 intro t
 induction t using y24 with|h t ih=>?_
 have key:∀ (l:List Tree),(∀ u∈l,u∈t.kids)→∀ o:List Tree,(o.Nodup→(Tree.subss l o).Nodup)∧(∀ x∈o,x∈Tree.subss l o)∧(∀ u∈l,u∈Tree.subss l o)∧(Tree.subss l o).length≤o.length+(l.map fun u=>u.sz+1).sum∧(∀ x∈Tree.subss l o,x∈o∨∃ u∈l,x.sz≤u.sz)∧((∀ x∈o,∀ u∈x.kids,u∈o)→∀ x∈Tree.subss l o,∀ u∈x.kids,u∈Tree.subss l o):=by
  intro l
  induction l with
  |nil=>intro _ o;simp [Tree.subss]
  |cons u l ihl =>
   intro hl o
   obtain ⟨a1,a2,a3,a4,a5,a6⟩:=ih u (hl u (by simp)) o
   obtain ⟨b1,b2,b3,b4,b5,b6⟩:=ihl (fun x hx=>hl x (y65 _ hx)) (u.subs o)
   rw [Tree.subss]
   refine ⟨fun h=>b1 (a1 h),fun x hx=>b2 x (a2 x hx),fun x hx=>?_,?_,fun x hx=>?_,fun h=>b6 (a6 h)⟩
   ·rcases List.mem_cons.1 hx with rfl|hx
    ·exact b2 _ a3
    ·exact b3 x hx
   ·simp only [List.map_cons,List.sum_cons];omega
   ·rcases b5 x hx with h|⟨y,hy,h⟩
    ·rcases a5 x h with h|h
     ·exact .inl h
     ·exact .inr ⟨u,by simp,h⟩
    ·exact .inr ⟨y,y65 _ hy,h⟩
 intro o
 obtain ⟨b1,b2,b3,b4,b5,b6⟩:=key t.kids (fun _ h=>h) o
 rw [y30]
 have hsz:=y33 t
 have hsum:(t.kids.map fun u=>u.sz+1).sum=t.kids.length+(t.kids.map Tree.sz).sum:=by
  generalize t.kids=l
  induction l with
  |nil=>rfl
  |cons a l ih=>simp only [List.map_cons,List.sum_cons,y51,ih];omega
 refine ⟨fun h=>z937 (b1 h),fun x hx=>z302.2 (.inl (b2 x hx)),z302.2 (.inr rfl),?_,fun x hx=>?_,fun h x hx u hu=>z302.2 (.inl ?_)⟩
 ·have:=addT_len (Tree.subss t.kids o) t
  omega
 ·rcases z302.1 hx with h|rfl
  ·rcases b5 x h with h|⟨u,hu,h⟩
   ·exact .inl h
   ·have:=z410 Tree.sz hu
    exact .inr (by omega)
  ·exact .inr (y45 _)
 ·rcases z302.1 hx with h2|rfl
  ·exact b6 h x h2 u hu
  ·exact b3 u hu
def z89 (t:Tree):Bool:=decide (t.kind=2∨t.kind=6∨t.kind=7∨t.kind=8)
noncomputable def bscL (t:Tree):List Tree:=(t.subs []).filter z89
noncomputable def bscB (t:Tree):Bool:=decide ((t.fmB=true∧(t.nrm false).fmB=true)∧(bscL (t.nrm false)).length≤5)
def semOp (w:Nat→Int) (k v:Int) (ks:List (Nat→Prop)) (i:Nat):Prop :=
 if k=2 then hasB (w i) v=true
 else if k=3 then ¬ (ks.getD 0 fun _=>False) i
 else if k=4 then (ks.getD 0 fun _=>False) i∧(ks.getD 1 fun _=>False) i
 else if k=5 then (ks.getD 0 fun _=>False) i∨(ks.getD 1 fun _=>False) i
 else if k=6 then (ks.getD 0 fun _=>False) (i+1)
 else if k=7 then ∃ j,i≤j∧(ks.getD 1 fun _=>False) j∧∀ m,i≤m→m < j→(ks.getD 0 fun _=>False) m
 else if k=8 then ∀ j,i≤j→(ks.getD 1 fun _=>False) j∨∃ m,i≤m∧m < j∧(ks.getD 0 fun _=>False) m
 else if k=9 then ∃ j,i≤j∧(ks.getD 0 fun _=>False) j
 else if k=10 then ∀ j,i≤j→(ks.getD 0 fun _=>False) j
 else True
mutual
def Tree.sem (w:Nat→Int) (t:Tree):Nat→Prop:=match t with
 |.mk k v l=>semOp w k v (Tree.sems w l)
def Tree.sems (w:Nat→Int) (l:List Tree):List (Nat→Prop):=match l with
 |[]=>[]
 |t::r=>Tree.sem w t::Tree.sems w r
end
section
variable (w:Nat→Int)
end
mutual
def Tree.vl (σ:Tree→Bool) (t:Tree):Bool:=match t with
 |.mk k v l=>if k=1 then true else if k=3 then !((Tree.vls σ l).getD 0 false) else if k=4 then (Tree.vls σ l).getD 0 false && (Tree.vls σ l).getD 1 false else if k=5 then (Tree.vls σ l).getD 0 false || (Tree.vls σ l).getD 1 false else σ (.mk k v l)
def Tree.vls (σ:Tree→Bool) (l:List Tree):List Bool:=match l with
 |[]=>[]
 |t::r=>Tree.vl σ t::Tree.vls σ r
end
inductive NF:Tree→Prop
 |tr:NF (.mk 1 0 [])
 |at (v:Int):NF (.mk 2 v [])
 |nt:NF (.mk 3 0 [.mk 1 0 []])
 |na (v:Int):NF (.mk 3 0 [.mk 2 v []])
 |an {a b:Tree} : NF a→NF b→NF (.mk 4 0 [a,b])
 |or {a b:Tree} : NF a→NF b→NF (.mk 5 0 [a,b])
 |nx {a:Tree} : NF a→NF (.mk 6 0 [a])
 |un {a b:Tree} : NF a→NF b→NF (.mk 7 0 [a,b])
 |re {a b:Tree} : NF a→NF b→NF (.mk 8 0 [a,b])
theorem nrm_NF (t:Tree):t.goodF→∀ neg,NF (t.nrm neg):=by
 induction t using y24 with|h t ih=>?_
 intro hg neg
 cases y19 hg with
 |tr=>rw [z1007];cases neg;exact .tr;exact .nt
 |«at» v _ _=>rw [z1009];cases neg;exact .at v;exact .na v
 |un k a hk ha =>
  have h1:=ih a (by simp [Tree.kids]) ha
  rcases hk with rfl|rfl|rfl|rfl
  ·rw [z770];exact h1 _
  ·rw [z597];exact .nx (h1 _)
  ·rw [z1008];cases neg;exact .un .tr (h1 _);exact .re .nt (h1 _)
  ·rw [z1010];cases neg;exact .re .nt (h1 _);exact .un .tr (h1 _)
 |bin k a b hk ha hb =>
  have h1:=ih a (by simp [Tree.kids]) ha neg
  have h2:=ih b (by simp [Tree.kids]) hb neg
  rw [z771 _ _ _ _ _ hk]
  rcases hk with rfl|rfl|rfl|rfl<;>cases neg<;>first|exact .an h1 h2|exact .or h1 h2|exact .un h1 h2|exact .re h1 h2
section
variable {σ:Tree→Bool}
theorem vl_tr:(Tree.mk 1 0 []).vl σ=true:=by simp [Tree.vl]
theorem vl_not (v:Int) (a:Tree):(Tree.mk 3 v [a]).vl σ=!a.vl σ:=by simp [Tree.vl,Tree.vls]
theorem vl_and (v:Int) (a b:Tree):(Tree.mk 4 v [a,b]).vl σ=(a.vl σ && b.vl σ):=by simp [Tree.vl,Tree.vls]
theorem vl_or (v:Int) (a b:Tree):(Tree.mk 5 v [a,b]).vl σ=(a.vl σ || b.vl σ):=by simp [Tree.vl,Tree.vls]
theorem vl_at (v:Int):(Tree.mk 2 v []).vl σ=σ (.mk 2 v []):=by simp [Tree.vl]
theorem vl_nx (v:Int) (l:List Tree):(Tree.mk 6 v l).vl σ=σ (.mk 6 v l):=by simp [Tree.vl]
theorem vl_un (v:Int) (l:List Tree):(Tree.mk 7 v l).vl σ=σ (.mk 7 v l):=by simp [Tree.vl]
theorem vl_re (v:Int) (l:List Tree):(Tree.mk 8 v l).vl σ=σ (.mk 8 v l):=by simp [Tree.vl]
end
inductive In (B:Tree→Prop):Tree→Prop
 |tr:In B (.mk 1 0 [])
 |at (v:Int):B (.mk 2 v [])→In B (.mk 2 v [])
 |nt:In B (.mk 3 0 [.mk 1 0 []])
 |na (v:Int):B (.mk 2 v [])→In B (.mk 3 0 [.mk 2 v []])
 |an {a b:Tree} : In B a→In B b→In B (.mk 4 0 [a,b])
 |or {a b:Tree} : In B a→In B b→In B (.mk 5 0 [a,b])
 |nx {a:Tree} : B (.mk 6 0 [a])→In B a→In B (.mk 6 0 [a])
 |un {a b:Tree} : B (.mk 7 0 [a,b])→In B a→In B b→In B (.mk 7 0 [a,b])
 |re {a b:Tree} : B (.mk 8 0 [a,b])→In B a→In B b→In B (.mk 8 0 [a,b])
end Go.Gl
namespace Go.Gl
noncomputable def plc (B:List Tree) (t:Tree):Int:=match B.findIdx? (fun x=>decide (x=t)) with
 |some i=>i
 |none=>-1
noncomputable def sgB (B:List Tree) (s:Int) (t:Tree):Bool:=hasB s (plc B t)
theorem plc_mem {B:List Tree} {t:Tree} (h:t∈B):0≤plc B t∧plc B t < B.length:=by
 unfold plc
 split
 ·rename_i i e
  obtain ⟨h1,_,_⟩:=List.findIdx?_eq_some_iff_getElem.1 e
  omega
 ·rename_i e
  have:=List.findIdx?_eq_none_iff.1 e t h
  simp at this
noncomputable def vlB (B:List Tree) (s:Int) (t:Tree):Bool:=t.vl (sgB B s)
noncomputable def kidV (B:List Tree) (s:Int) (t:Tree) (j:Nat):Bool:=vlB B s (t.kids.getD j dftT)
noncomputable def folV (B:List Tree) (s t:Int) (f:Tree) (now next:Bool):Bool :=
 if f.kind=6 then kidV B t f 0
 else if f.kind=7 then kidV B s f 1 || (kidV B s f 0 && next)
 else if f.kind=8 then kidV B s f 1 && (kidV B s f 0 || next)
 else now
noncomputable def folI (B:List Tree) (s t:Int) (i:Nat):Bool:=folV B s t (B.getD i dftT) (hasB s i) (hasB t i) == hasB s i
noncomputable def folB (B:List Tree) (s t:Int):Bool:=(List.range B.length).all fun i=>folI B s t i
noncomputable def atoI (B:List Tree) (s:Int) (p:Nat×Nat) (i:Nat):Nat×Nat:=if (B.getD i dftT).kind=2 then (p.1 ||| 2 ^ (B.getD i dftT).val.toNat,if hasB s i=true then p.2 ||| 2 ^ (B.getD i dftT).val.toNat else p.2) else p
noncomputable def letB (B:List Tree) (s:Int):Nat×Nat:=(List.range B.length).foldl (atoI B s) (0,0)
noncomputable def untB (B:List Tree):List Int:=((List.range B.length).filter fun i=>decide ((B.getD i dftT).kind=7)).map Int.ofNat
noncomputable def fulB (B:List Tree) (s:Int) (u:Int):Bool:=!hasB s u || kidV B s (B.getD u.toNat dftT) 1
noncomputable def phB (B:List Tree) (U:List Int) (s ph:Int):Int×Bool :=
 if U.length=0 then (0,true) else if fulB B s (U.getD ph.toNat 0)=true then ((ph+1) % (U.length:Int),decide (ph=0)) else (ph,false)
noncomputable def z139 (L:List (List Int)) (p:List Int):List (List Int):=if p∈L then L else L++[p]
noncomputable def z258 (L:List (List Int)) (p:List Int):Nat:=L.idxOf p
structure Edg where
 src:Int
 care:Int
 val:Int
 dst:Int
structure TrS where
 L:List (List Int)
 acc:List Bool
 ed:List Edg
noncomputable def z102 (B:List Tree) (s ph:Int) (i:Nat) (c v:Int) (x:List (List Int)×List Edg) (t:Nat):List (List Int)×List Edg :=
 if folB B s t=true then (z139 x.1 [(t:Int),ph],x.2++[⟨i,c,v,z258 x.1 [(t:Int),ph]⟩]) else x
noncomputable def z198 (B:List Tree) (U:List Int) (i:Nat) (x:TrS):TrS :=
 let s:=(x.L.getD i []).getD 0 0
 let q:=phB B U s ((x.L.getD i []).getD 1 0)
 let c:=letB B s
 let y:=(List.range (2 ^ B.length)).foldl (z102 B s q.1 i c.1 c.2) (x.L,x.ed)
 ⟨y.1,x.acc++[q.2],y.2⟩
noncomputable def goS (B:List Tree) (U:List Int):Nat→Nat→TrS→Option TrS
 |0,_,_=>none
 |f+1,i,x=>if i < x.L.length then (if 64 < x.L.length then none else goS B U f (i+1) (z198 B U i x)) else some x
noncomputable def iniS (B:List Tree) (g:Tree):List (List Int):=((List.range (2 ^ B.length)).filter fun s=>vlB B (s:Nat) g).map fun s:Nat=>[(s:Int),0]
theorem subs_all {p:Tree→Prop} (hk:∀ x,p x→∀ u∈x.kids,p u):∀ t:Tree,∀ o:List Tree,p t→(∀ x∈o,p x)→∀ x∈t.subs o,p x:=by
 intro t
 induction t using y24 with|h t ih=>?_
 have key:∀ (l:List Tree),(∀ u∈l,u∈t.kids)→∀ o:List Tree,(∀ u∈l,p u)→(∀ x∈o,p x)→∀ x∈Tree.subss l o,p x:=by
  intro l
  induction l with
  |nil=>intro _ o _ ho;simpa [Tree.subss] using ho
  |cons u l ihl =>
   intro hl o hp ho
   rw [Tree.subss]
   exact ihl (fun x hx=>hl x (y65 _ hx)) _ (fun x hx=>hp x (y65 _ hx)) (ih u (hl u (by simp)) o (hp u (by simp)) ho)
 intro o ht ho x hx
 rw [y30] at hx
 rcases z302.1 hx with h|rfl
 ·exact key t.kids (fun _ h=>h) o (hk t ht) ho x h
 ·exact ht
theorem NF.kids {t:Tree} (h:NF t):∀ u∈t.kids,NF u:=by
 cases h with
 |tr=>intro u hu;simp [Tree.kids] at hu
 |«at» v=>intro u hu;simp [Tree.kids] at hu
 |nt=>intro u hu;simp [Tree.kids] at hu;subst hu;exact .tr
 |na v=>intro u hu;simp [Tree.kids] at hu;subst hu;exact .at v
 |an ha hb=>intro u hu;simp [Tree.kids] at hu;rcases hu with rfl|rfl<;>assumption
 |or ha hb=>intro u hu;simp [Tree.kids] at hu;rcases hu with rfl|rfl<;>assumption
 |nx ha=>intro u hu;simp [Tree.kids] at hu;subst hu;assumption
 |un ha hb=>intro u hu;simp [Tree.kids] at hu;rcases hu with rfl|rfl<;>assumption
 |re ha hb=>intro u hu;simp [Tree.kids] at hu;rcases hu with rfl|rfl<;>assumption
theorem in_of {L:List Tree} (hcl:∀ x∈L,∀ u∈x.kids,u∈L) {t:Tree} (h:NF t):t∈L→In (·∈L.filter z89) t:=by
 have bs:∀ x,x∈L→z89 x=true→x∈L.filter z89:=fun x h1 h2=>List.mem_filter.2 ⟨h1,h2⟩
 induction h with
 |tr=>intro _;exact .tr
 |«at» v=>intro ht;exact .at v (bs _ ht (by simp [z89,Tree.kind]))
 |nt=>intro _;exact .nt
 |na v=>intro ht;exact .na v (bs _ (hcl _ ht _ (by simp [Tree.kids])) (by simp [z89,Tree.kind]))
 |an _ _ iha ihb=>intro ht;exact .an (iha (hcl _ ht _ (by simp [Tree.kids]))) (ihb (hcl _ ht _ (by simp [Tree.kids])))
 |or _ _ iha ihb=>intro ht;exact .or (iha (hcl _ ht _ (by simp [Tree.kids]))) (ihb (hcl _ ht _ (by simp [Tree.kids])))
 |nx _ iha=>intro ht;exact .nx (bs _ ht (by simp [z89,Tree.kind])) (iha (hcl _ ht _ (by simp [Tree.kids])))
 |un _ _ iha ihb=>intro ht;exact .un (bs _ ht (by simp [z89,Tree.kind])) (iha (hcl _ ht _ (by simp [Tree.kids]))) (ihb (hcl _ ht _ (by simp [Tree.kids])))
 |re _ _ iha ihb=>intro ht;exact .re (bs _ ht (by simp [z89,Tree.kind])) (iha (hcl _ ht _ (by simp [Tree.kids]))) (ihb (hcl _ ht _ (by simp [Tree.kids])))
theorem z928 {u:Tree} (hg:u.goodF) (hn:NF u):(bscL u).Nodup∧(∀ x∈bscL u,x.sz≤u.sz)∧(∀ x∈bscL u,In (·∈bscL u) x)∧(∀ x∈bscL u,z89 x=true)∧(∀ v,Tree.mk 2 v []∈bscL u→0≤v∧v≤2)∧In (·∈bscL u) u:=by
 obtain ⟨h1,_,h3,_,h5,h6⟩:=z376 u []
 have hcl:=h6 (by simp)
 have hall:=subs_all (p:=fun x=>NF x∧x.goodF) (fun x hx v hv=>⟨hx.1.kids v hv,(y20 hx.2).2.2.2 v hv⟩) u [] ⟨hn,hg⟩ (by simp)
 unfold bscL
 generalize u.subs []=L at *
 refine ⟨(h1 List.nodup_nil).filter _,fun x hx=>?_,fun x hx=>?_,fun x hx=>(List.mem_filter.1 hx).2,fun v hv=>?_,in_of hcl hn h3⟩
 ·rcases h5 x (List.mem_filter.1 hx).1 with h|h
  ·simp at h
  ·exact h
 ·have hx:=(List.mem_filter.1 hx).1
  exact in_of hcl (hall x hx).1 hx
 ·have hx:=(List.mem_filter.1 hv).1
  obtain ⟨_,a,b,_⟩:=y20 (hall _ hx).2
  simp [Tree.val,Tree.kind,z480] at a b
  exact ⟨a,b⟩
theorem z839 (B:List Tree) (g:Tree):(iniS B g).length≤2 ^ B.length:=by
 unfold iniS
 rw [y42]
 have:=List.length_filter_le (fun s=>vlB B (s:Nat) g) (List.range (2 ^ B.length))
 simpa using this
def RowS (n:Nat) (U:List Int) (r:List Int):Prop:=∃ (s ph:Nat),r=[(s:Int),(ph:Int)]∧s < 2 ^ n∧(U.length=0∨ph < U.length)
def numI (n:Nat):List Int:=(List.range n).map Int.ofNat
theorem z1006 (n:Nat):numI (n+1)=numI n++[(n:Int)]:=by
 unfold numI;rw [y54,y56];rfl
theorem z596 (n:Nat):(numI n).length=n:=by simp [numI]
def iniK (B:List Tree) (V:Nat→Bool) (k:Nat):List (List Int):=((List.range k).filter V).map fun s:Nat=>[(s:Int),0]
theorem z1041 (B:List Tree) (V:Nat→Bool) (k:Nat):iniK B V (k+1)=iniK B V k++(if V k=true then [[(k:Int),0]] else []):=by
 unfold iniK
 rw [y54,List.filter_append,y56]
 congr 1
 by_cases h:V k=true
 ·rw [if_pos h,List.filter_cons_of_pos h];rfl
 ·rw [if_neg h,List.filter_cons_of_neg h];rfl
theorem iniK_len (B:List Tree) (V:Nat→Bool) (k:Nat):(iniK B V k).length≤k:=by
 unfold iniK
 rw [y42]
 have:=List.length_filter_le V (List.range k)
 simpa using this
theorem iniK_row (B:List Tree) (V:Nat→Bool) (k n:Nat) (U:List Int) (hk:k≤2 ^ n):∀ r∈iniK B V k,RowS n U r:=by
 intro r hr
 unfold iniK at hr
 obtain ⟨s,hs,rfl⟩:=List.mem_map.1 hr
 have:=List.mem_range.1 (List.mem_filter.1 hs).1
 exact ⟨s,0,rfl,by omega,by omega⟩
noncomputable def trS (B:List Tree) (g:Tree):Option TrS:=goS B (untB B) 65 0 ⟨iniS B g,[],[]⟩
theorem phB_row {B:List Tree} {U:List Int} {s ph:Nat} (h:U.length=0∨ph < U.length):∃ q:Nat,(phB B U s ph).1=q∧(U.length=0∨q < U.length):=by
 unfold phB
 by_cases h0:U.length=0
 ·rw [if_pos h0];exact ⟨0,rfl,.inl h0⟩
 ·rw [if_neg h0]
  split
  ·refine ⟨(ph+1) % U.length,by simp,.inr (Nat.mod_lt _ (by omega))⟩
  ·exact ⟨ph,rfl,h⟩
theorem z848 (B:List Tree) (s ph:Int) (i:Nat) (c v:Int):∀ (l:List Nat) (x:List (List Int)×List Edg),(l.foldl (z102 B s ph i c v) x).2.length≤x.2.length+l.length
 |[],x=>by simp
 |t::l,x=>by
  rw [List.foldl_cons,y51]
  have h:=z848 B s ph i c v l (z102 B s ph i c v x t)
  have:(z102 B s ph i c v x t).2.length≤x.2.length+1:=by
   unfold z102
   split
   ·simp
   ·omega
  omega
theorem z1045 (B:List Tree) (U:List Int):∀ (f i:Nat) (x y:TrS),goS B U f i x=some y→y.acc.length≤x.acc.length+f∧y.ed.length≤x.ed.length+f * 2 ^ B.length
 |0,i,x,y,h=>by simp [goS] at h
 |f+1,i,x,y,h=>by
  rw [goS] at h
  split at h
  ·split at h
   ·cases h
   ·have h1:=z1045 B U f (i+1) (z198 B U i x) y h
    have h2:(z198 B U i x).acc.length=x.acc.length+1:=by simp [z198]
    have h3:(z198 B U i x).ed.length≤x.ed.length+2 ^ B.length:=by
     have:=z848 B ((x.L.getD i []).getD 0 0) (phB B U ((x.L.getD i []).getD 0 0) ((x.L.getD i []).getD 1 0)).1 i (letB B ((x.L.getD i []).getD 0 0)).1 (letB B ((x.L.getD i []).getD 0 0)).2 (List.range (2 ^ B.length)) (x.L,x.ed)
     rw [List.length_range] at this
     exact this
    rw [Nat.add_mul]
    omega
  ·cases h
   rw [Nat.add_mul]
   omega
end Go.Gl
