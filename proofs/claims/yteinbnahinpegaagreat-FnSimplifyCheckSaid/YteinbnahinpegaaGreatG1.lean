/- A part of the proofs over this program: GlH5, GlH6, GlH7, GlH8, GlH9, GlN1, GlN2, GlN3, GlN4, GlKR, GlL, GlM, GlN, GlO, GlP. -/
import Derived.Test.YteinbnahinpegaaGreatG0
import Derived.Laws.StructEq
import Derived.Laws.Entries
import Derived.TacticsIn
import Derived.OrdersIn
import Derived.RangeFuncLeaves
import Derived.RangeFuncRecord
set_option linter.all false
namespace Go.Gl
variable {P:Program} {T:Tab} {dst:Option Tmp} {type:TypeId} {pos:String} {after:Array Edge} {guard:Option (Nat×Bool)} {st:St} {K:OpK}
def z275 (d:Int) (x:Option Value) (n:Int):Prop:=match x with
 |none=>n=d
 |some v=>∃ k,v=.int k n
theorem z526 {len cap : Nat} {lo hi mx : Option Value} {l h m : Int} {w : World} (hl : z275 0 lo l) (hh : z275 len hi h) (hm : z275 cap mx m) (hx : hi = none → mx = none) (h0 : 0 ≤ l) (h1 : l ≤ h) (h2 : h ≤ m) (h3 : m ≤ cap) :
    (Instr.sliceBounds true len cap lo hi mx).run P w=.ok (l.toNat,h.toNat,m.toNat) w:=by
  have hm0:((m.toNat:Nat):Int)=m:=Int.toNat_of_nonneg (by omega)
  have hh0:((h.toNat:Nat):Int)=h:=Int.toNat_of_nonneg (by omega)
  cases hi with
  | none =>
    have:=hx rfl
    subst this
    simp only [z275] at hh hm
    subst hh;subst hm
    cases lo with
    | none=>simp only [z275] at hl;subst hl;simp [Instr.sliceBounds]
    | some v =>
      obtain ⟨k,rfl⟩:=hl
      have hb:=z259 (P:=P) (k:=k) (n:=l) (y:=len) (code:=.sliceB) (w:=w) h0 (by omega)
      simp [Instr.sliceBounds,hb]
  | some v =>
    obtain ⟨k,rfl⟩:=hh
    cases mx with
    | none =>
      simp only [z275] at hm;subst hm
      have hb:=z259 (P:=P) (k:=k) (n:=h) (y:=cap) (code:=.sliceAcap) (w:=w) (by omega) (by omega)
      cases lo with
      | none=>simp only [z275] at hl;subst hl;simp [Instr.sliceBounds,hb]
      | some v =>
        obtain ⟨k',rfl⟩:=hl
        have hb':=z259 (P:=P) (k:=k') (n:=l) (y:=h.toNat) (code:=.sliceB) (w:=w) h0 (by omega)
        simp [Instr.sliceBounds,hb,hb']
    | some v =>
      obtain ⟨k2,rfl⟩:=hm
      have hb2:=z259 (P:=P) (k:=k2) (n:=m) (y:=cap) (code:=.slice3Acap) (w:=w) (by omega) (by omega)
      have hb:=z259 (P:=P) (k:=k) (n:=h) (y:=m.toNat) (code:=.slice3B) (w:=w) (by omega) (by omega)
      cases lo with
      | none=>simp only [z275] at hl;subst hl;simp [Instr.sliceBounds,hb,hb2]
      | some v =>
        obtain ⟨k',rfl⟩:=hl
        have hb':=z259 (P:=P) (k:=k') (n:=l) (y:=h.toNat) (code:=.slice3C) (w:=w) h0 (by omega)
        simp [Instr.sliceBounds,hb,hb',hb2]
theorem z167 {t e : TypeId} {i ei : TyI} {a : Option Addr} {len cap : Nat} {lo hi mx : Option Value} {l h m : Int} {w : World} (ht : TyOk P t i) (hd : i.desc = .slice e) (he : TyOk P e ei) (hl : z275 0 lo l) (hh : z275 len hi h) (hm : z275 cap mx m) (hx : hi = none → mx = none)
    (h0:0≤l) (h1:l≤h) (h2:h≤m) (h3:m≤cap) :
    (Instr.sliceAt t (.slice a len cap) lo hi mx).run P w=.ok (.slice (if m.toNat=l.toNat then a else a.map (·.add (l.toNat * ei.size))) (h.toNat - l.toNat) (m.toNat - l.toNat)) w:=by
  simp only [Instr.sliceAt,Sem.run_bind,ht.und,hd,Result.andThen]
  simp only [Instr.slice,Sem.run_bind,ht.und,hd,Result.andThen]
  rw [z526 hl hh hm hx h0 h1 h2 h3]
  simp only [Result.andThen,Sem.run_bind,he.size,Sem.run_pure]
def z297 (d:Int):Option AC→Option Int
 |none=>some d
 |some (.raw (.int _ n))=>some n
 |_=>none
def z1201 (hi mx:Option AC):Bool:=match hi,mx with
 |none,some _=>false
 |_,_=>true
def z1075 (wd:Nat) (st:St) (x:AC) (lo hi mx:Option AC) (K:OpK):Prop:=z76 (z1201 hi mx) (match x with
 |.list w n es=>z76 (Nat.beq w wd) (match z297 0 lo,z297 n hi with
  |some l,some h=>(match mx with
   |none=>(0≤l∧l≤h∧h≤n)∧K (.list w (h.toNat - l.toNat) ((es.drop l.toNat).take (h.toNat - l.toNat))) []
   |some m=>match z297 0 (some m) with
    |some m=>(0≤l∧l≤h∧h≤m∧m≤n)∧K (.list w (h.toNat - l.toNat) ((es.drop l.toNat).take (h.toNat - l.toNat))) []
    |none=>False)
  |_,_=>False)
 |.sref o off n=>match st.objs o with
  |.cells w _=>z76 (Nat.beq w wd) (match z297 0 lo,z297 n hi with
   |some l,some h=>(match mx with
    |none=>(0≤l∧l≤h∧h≤n)∧K (.sref o (l.toNat+off) (h.toNat - l.toNat)) [st.rd o]
    |some m=>match z297 0 (some m) with
     |some m=>(0≤l∧l≤h∧h≤m∧m≤n)∧K (.sref o (l.toNat+off) (h.toNat - l.toNat)) [st.rd o]
     |none=>False)
   |_,_=>False)
  |_=>False
 |.raw (.slice none 0 0)=>match z297 0 lo,z297 0 hi,z297 0 mx with
  |some l,some h,some m=>(l=0∧h=0∧m=0)∧K .nils []
  |_,_,_=>False
 |_=>False)
def OptV (G:Ghost) (h:Nat→Option Obj) (x:Option AC) (v:Option Value):Prop:=match x,v with
 |none,none=>True
 |some c,some u=>V G h none c u
 |_,_=>False
theorem z332 {G:Ghost} {h:Nat→Option Obj} {d:Int} {x:Option AC} {v:Option Value} {n:Int} (hb:z297 d x=some n) (hv:OptV G h x v):z275 d v n:=by
 cases x with
 |none=>cases v with
  |none=>simp [z297] at hb;exact hb.symm
  |some _=>exact hv.elim
 |some c=>cases v with
  |none=>exact hv.elim
  |some u =>
   cases c<;>simp only [z297] at hb<;>try cases hb
   rename_i r
   cases r<;>simp at hb
   subst hb
   simp only [OptV] at hv
   rw [z103] at hv
   exact ⟨_,hv⟩
theorem z851 {t e : TypeId} {i ei : TyI} {x : Operand} {lo hi mx : Option Operand} (ht : TyOk P t i) (hd : i.desc = .slice e) (he : TyOk P e ei)
    (h:z1075 ei.size st (st.ev x) (lo.map st.ev) (hi.map st.ev) (mx.map st.ev) K):z108 P st ⟨dst,.slice t x lo hi mx,type,pos,after,guard⟩ K:=by
  obtain ⟨hboth,h⟩:=z32 h
  have hno:∀ a:Act,hi.map a.eval=none→mx.map a.eval=none:=by
    intro a hn
    cases hi with
    | none=>cases mx with
      | none=>rfl
      | some _=>simp [z1201] at hboth
    | some _=>simp at hn
  have hops:∀ y,(lo=some y∨hi=some y∨mx=some y∨x=y)→y∈(Op.operands (.slice t x lo hi mx)).toList:=by
    intro y hy
    rcases hy with rfl|rfl|rfl|rfl<;>simp [Op.operands]
  have hopt : ∀ (G : Ghost) (a : Act) (w : World) (z : Option Operand), (∀ y, z = some y → y ∈ (Op.operands (.slice t x lo hi mx)).toList) → (∀ y ∈ (Op.operands (.slice t x lo hi mx)).toList, V G (hp w) none (st.ev y) (a.eval y)) →
      OptV G (hp w) (z.map st.ev) (z.map a.eval):=by
    intro G a w z hz hV
    cases z with
    | none=>trivial
    | some y=>exact hV y (hz y rfl)
  have step:∀ ρ,execOp ρ ⟨dst,.slice t x lo hi mx,type,pos,after,guard⟩=(do pure (.value (← Instr.sliceAt t (ρ x) (lo.map ρ) (hi.map ρ) (mx.map ρ)))):=fun ρ=>rfl
  have hmx : ∀ (G : Ghost) (a : Act) (w : World) (cap : Nat) (n hh m : Int), (∀ y ∈ (Op.operands (.slice t x lo hi mx)).toList, V G (hp w) none (st.ev y) (a.eval y)) → hh ≤ n → n ≤ cap → (mx = none ∨ (z297 0 (mx.map st.ev) = some m ∧ mx ≠ none ∧ hh ≤ m ∧ m ≤ n)) →
      ∃ m' : Int,z275 cap (mx.map a.eval) m'∧hh≤m'∧m'≤cap:=by
    intro G a w cap n hh m hxs h1 h2 hm
    rcases hm with hm|⟨hm1,hm2,hm3,hm4⟩
    · subst hm;exact ⟨cap,rfl,by omega,by omega⟩
    · have:=z332 hm1 (hopt G a w mx (fun y hy=>hops y (.inr (.inr (.inl hy)))) hxs)
      refine ⟨m,?_,hm3,by omega⟩
      cases mx with
      | none=>exact absurd rfl hm2
      | some y=>exact this
  split at h
  · rename_i wd n es hx
    obtain ⟨hw,h⟩:=z32 h
    have hw:=Nat.eq_of_beq_eq_true hw
    have key : ∀ (l hh m : Int), z297 0 (lo.map st.ev) = some l → z297 n (hi.map st.ev) = some hh → 0 ≤ l → l ≤ hh → hh ≤ n → (mx = none ∨ (z297 0 (mx.map st.ev) = some m ∧ mx ≠ none ∧ hh ≤ m ∧ m ≤ n)) → K (.list wd (hh.toNat - l.toNat) ((es.drop l.toNat).take (hh.toNat - l.toNat))) [] →
        z108 P st ⟨dst,.slice t x lo hi mx,type,pos,after,guard⟩ K:=by
      intro l hh m hl hhh h0 h1 h2 hm hk
      refine z84 _ step hk fun G a w hxs=>?_
      have hv:=hxs x (hops x (.inr (.inr (.inr rfl))))
      rw [hx] at hv;simp only [V] at hv
      obtain ⟨ad,cap,hv,hcap,hn,hes⟩:=hv
      have hbl:=z332 hl (hopt G a w lo (fun y hy=>hops y (.inl hy)) hxs)
      have hbh:=z332 hhh (hopt G a w hi (fun y hy=>hops y (.inr (.inl hy))) hxs)
      obtain ⟨m',hm1,hm2,hm3⟩:=hmx G a w cap n hh m hxs h2 (by omega) hm
      refine ⟨_,by rw [hv];exact z167 ht hd he hbl hbh hm1 (hno a) h0 h1 hm2 hm3,?_⟩
      simp only [V]
      refine ⟨_,_,rfl,by omega,by simp;omega,?_⟩
      rcases hes with hes|⟨b,off,c,el,fz,h6,h7,h8⟩
      · subst hes;exact .inl (by simp)
      · by_cases hz:hh.toNat - l.toNat=0
        · exact .inl (by rw [hz];simp)
        · refine .inr ⟨b,off+l.toNat * ei.size,c,el,fz,?_,h7,?_⟩
          · rw [if_neg (by omega),h6];simp [z477]
          · rw [z74] at h8 ⊢
            intro i e he'
            rw [List.getElem?_take] at he'
            split at he'
            · rw [List.getElem?_drop] at he'
              have:=h8 _ e he'
              rw [Nat.add_mul,← Nat.add_assoc,hw] at this
              rw [hw];exact this
            · cases he'
    split at h
    · rename_i l hh hl hhh
      split at h
      · rename_i hmn
        obtain ⟨⟨h0,h1,h2⟩,hk⟩:=h
        exact key l hh 0 hl hhh h0 h1 h2 (.inl (by cases mx<;>simp_all)) hk
      · rename_i m hms
        split at h
        · rename_i m' hm'
          obtain ⟨⟨h0,h1,h2,h3⟩,hk⟩:=h
          exact key l hh m' hl hhh h0 h1 (by omega) (.inr ⟨by rw [hms];exact hm',by rintro rfl;simp at hms,h2,h3⟩) hk
        · exact h.elim
    · exact h.elim
  · rename_i o off n hx
    split at h
    rotate_left
    · exact h.elim
    rename_i wd es hob
    obtain ⟨hw,h⟩:=z32 h
    have hw:=Nat.eq_of_beq_eq_true hw
    have key : ∀ (l hh m : Int), z297 0 (lo.map st.ev) = some l → z297 n (hi.map st.ev) = some hh → 0 ≤ l → l ≤ hh → hh ≤ n → (mx = none ∨ (z297 0 (mx.map st.ev) = some m ∧ mx ≠ none ∧ hh ≤ m ∧ m ≤ n)) → K (.sref o (l.toNat + off) (hh.toNat - l.toNat)) [st.rd o] →
        z108 P st ⟨dst,.slice t x lo hi mx,type,pos,after,guard⟩ K:=by
      intro l hh m hl hhh h0 h1 h2 hm hk
      refine ⟨_,[st.rd o],OpT.val _ step (by simp [St.rd]) (fun G objs a w hwf hob' hxs=>?_),by simp [St.rd],hk⟩
      have hob2:objs o=.cells wd es:=by have:=hob' (st.rd o) (by simp);simp only [St.rd] at this;rw [this,hob]
      have hv:=hxs x (hops x (.inr (.inr (.inr rfl))))
      rw [hx] at hv;simp only [V] at hv
      obtain ⟨cap,hcap,hv⟩:=hv
      have hbl:=z332 hl (hopt G a w lo (fun y hy=>hops y (.inl hy)) hxs)
      have hbh:=z332 hhh (hopt G a w hi (fun y hy=>hops y (.inr (.inl hy))) hxs)
      obtain ⟨m',hm1,hm2,hm3⟩:=hmx G a w cap n hh m hxs h2 (by omega) hm
      rcases hv with ⟨hc0,ad,hv⟩|⟨b,size,w',hι,hsz,hv⟩
      · subst hc0
        have hn0:n=0:=by omega
        subst hn0
        refine ⟨_,by rw [hv];exact z167 ht hd he hbl hbh hm1 (hno a) h0 h1 hm2 hm3,?_⟩
        simp only [V]
        exact ⟨m'.toNat - l.toNat,by omega,.inl ⟨by omega,if m'.toNat=l.toNat then ad else ad.map (·.add (l.toNat * ei.size)),by
          rw [show hh.toNat - l.toNat=0 by omega,show m'.toNat - l.toNat=0 by omega]⟩⟩
      · have hwd:w'=wd:=by
          have:=hwf.objs o
          rw [hob2] at this
          rcases this with ⟨_,h7⟩|⟨b',s',c',el',h7,_⟩
          · rw [hι] at h7;cases h7
          · rw [hι] at h7;cases h7;rfl
        subst hwd
        refine ⟨_,by rw [hv];exact z167 ht hd he hbl hbh hm1 (hno a) h0 h1 hm2 hm3,?_⟩
        simp only [V]
        refine ⟨m'.toNat - l.toNat,by omega,?_⟩
        by_cases hml:m'.toNat=l.toNat
        · exact .inl ⟨by omega,some ⟨b,off * w',none⟩,by rw [if_pos hml,show hh.toNat - l.toNat=0 by omega,show m'.toNat - l.toNat=0 by omega]⟩
        · refine .inr ⟨b,size,w',hι,?_,?_⟩
          · refine Nat.le_trans (Nat.mul_le_mul_right _ ?_) hsz
            omega
          · rw [if_neg hml,← hw]
            simp only [Option.map_some,z477,Nat.add_mul,Nat.add_comm]
    split at h
    · rename_i l hh hl hhh
      split at h
      · rename_i hmn
        obtain ⟨⟨h0,h1,h2⟩,hk⟩:=h
        exact key l hh 0 hl hhh h0 h1 h2 (.inl (by cases mx<;>simp_all)) hk
      · rename_i m hms
        split at h
        · rename_i m' hm'
          obtain ⟨⟨h0,h1,h2,h3⟩,hk⟩:=h
          exact key l hh m' hl hhh h0 h1 (by omega) (.inr ⟨by rw [hms];exact hm',by rintro rfl;simp at hms,h2,h3⟩) hk
        · exact h.elim
    · exact h.elim
  · rename_i hx
    split at h
    · rename_i l hh m hl hhh hm
      obtain ⟨⟨rfl,rfl,rfl⟩,hk⟩:=h
      refine z84 _ step hk fun G a w hxs=>?_
      have hv:=hxs x (hops x (.inr (.inr (.inr rfl))))
      rw [hx,z103] at hv
      have hbl:=z332 hl (hopt G a w lo (fun y hy=>hops y (.inl hy)) hxs)
      have hbh:=z332 hhh (hopt G a w hi (fun y hy=>hops y (.inr (.inl hy))) hxs)
      have hbm:=z332 hm (hopt G a w mx (fun y hy=>hops y (.inr (.inr (.inl hy)))) hxs)
      refine ⟨_,by rw [hv];exact z167 ht hd he hbl hbh hbm (hno a) (by omega) (by omega) (by omega) (by omega),?_⟩
      rw [z103];simp
    · exact h.elim
  · exact h.elim
end Go.Gl
namespace Go.Gl
variable {P:Program} {T:Tab} {dst:Option Tmp} {type:TypeId} {pos:String} {after:Array Edge} {guard:Option (Nat×Bool)} {st:St} {K:OpK}
def Stor (es:List (List AC)):Prop:=∀ e∈es,z95 e=true
theorem z26:Stor []:=by simp [Stor]
theorem z17 {e:List AC} {es:List (List AC)} (h:z95 e=true) (k:Stor es):Stor (e::es):=by
 intro x hx
 rcases List.mem_cons.1 hx with rfl|hx
 ·exact h
 ·exact k x hx
theorem z49 {α:Type} {f:α→List AC} {l:List α} (h:∀ a,z95 (f a)=true):Stor (l.map f):=by
 intro x hx
 obtain ⟨a,_,rfl⟩:=List.mem_map.1 hx
 exact h a
def z832 (P:Program) (G:Ghost) (w:World) (size:Nat) (x:Value) (m:Nat) (news:Array Value) (es:List (List AC)):Prop :=
 (∀ w' : World,w'.heap=w.heap→(Builtin.lenOf x).run P w'=.ok m w')∧(∀ w' : World,w'.heap=w.heap→(Builtin.firstCells size m x).run P w'=.ok news w') ∧
 news.size=m * size∧VLL G (hp w) none size es news 0∧es.length=m∧∀ u∈news.toList,u.oneCell=true
theorem z384 {G:Ghost} {h:Nat→Option Obj} {l:Loc} {w:Nat} {es:List (List AC)} {c:Array Value} {off:Nat} (hc:VLL G h none w es c off):VLL G h none w es (c.extract off (off+es.length * w)) 0:=by
 rw [z74] at hc ⊢
 intro i e he
 obtain ⟨h1,h2⟩:=hc i e he
 have hi:i < es.length:=by
  rcases y67 i es.length with h|h
  ·exact h
  ·rw [y66 h] at he;cases he
 refine ⟨h1,z70.2 fun j x hx=>?_⟩
 obtain ⟨v,hv1,hv2⟩:=z70.1 h2 j x hx
 have hj:j < w:=by
  rw [← h1]
  rcases y67 j e.length with h|h
  ·exact h
  ·rw [y66 h] at hx;cases hx
 refine ⟨v,?_,hv2⟩
 have hb:(i+1) * w≤es.length * w:=Nat.mul_le_mul_right _ hi
 rw [Nat.add_mul] at hb
 have hsz:=(Array.getElem?_eq_some_iff.1 hv1).1
 rw [Array.getElem?_extract,if_pos (by omega)]
 rw [show off+(0+i * w+j)=off+i * w+j by omega];exact hv1
theorem z1273 {G:Ghost} {h:Nat→Option Obj} {w:Nat} {es:List (List AC)} {c:Array Value} (hs:Stor es) (hc:VLL G h none w es c 0) (hsz:c.size=es.length * w):∀ u∈c.toList,u.oneCell=true:=by
 intro u hu
 obtain ⟨k,hk,rfl⟩:=List.getElem_of_mem hu
 simp at hk
 rw [hsz] at hk
 have hw:0 < w:=by
  rcases Nat.eq_zero_or_pos w with h|h
  ·subst h;simp at hk
  ·exact h
 have hi:k / w < es.length:=by
  rw [Nat.div_lt_iff_lt_mul hw];exact hk
 obtain ⟨h1,h2⟩:=z74.1 hc (k / w) es[k / w] (y42 hi)
 have hj:k % w < es[k / w].length:=by rw [h1];exact Nat.mod_lt _ hw
 obtain ⟨v,hv1,hv2⟩:=z70.1 h2 (k % w) es[k / w][k % w] (y42 hj)
 rw [show 0+k / w * w+k % w=k by rw [Nat.zero_add];exact Nat.div_add_mod' k w] at hv1
 have:c.toList[k]'(by simpa [hsz] using hk)=v:=by
  have:=(Array.getElem?_eq_some_iff.1 hv1).2
  simpa using this
 rw [this]
 exact z309 (z177.1 (hs _ (y41 hi)) _ (y41 hj)) hv2
theorem z985 {G:Ghost} {h:Nat→Option Obj} {l:Loc} {w:Nat} {es:List (List AC)} {c:Array Value} {off:Nat} (hw:0 < w) (hc:VLL G h l w es c off) (hne:es≠[]):off+es.length * w≤c.size:=by
 have hl:0 < es.length:=List.length_pos_iff.2 hne
 obtain ⟨h1,h2⟩:=z74.1 hc (es.length - 1) es[es.length - 1] (y42 (by omega))
 have:=z502 h2 (by intro e;rw [e] at h1;simp at h1;omega)
 rw [h1] at this
 have e:es.length * w=(es.length - 1) * w+w:=by
  rw [← Nat.succ_mul];congr 1;omega
 omega
theorem z1163 {G:Ghost} {w:World} {size n:Nat} {es:List (List AC)} {v:Value} (hw:0 < size) (hS:∀ b x,G.S b=some x→w.heap[b]?=some x) (hs:Stor es) (hv:V G (hp w) none (.list size n es) v):∃ news,z832 P G w size v n news es:=by
 simp only [V] at hv
 obtain ⟨a,cap,rfl,hcap,hn,hes⟩:=hv
 by_cases he:es=[]
 ·subst he
  have hn:n=0:=by simpa using hn.symm
  subst hn
  exact ⟨#[],fun w' _=>rfl,fun w' _=>z91,by simp,by simp [VLL],rfl,by simp⟩
 ·rcases hes with hes|⟨b,off,c,el,fz,rfl,hb,hc⟩
  ·exact absurd hes he
  ·have hbd:=z985 hw hc he
   have hc':=VLL_none' hc
   refine ⟨c.extract off (off+es.length * size),fun w' _=>rfl,fun w' hh=>?_,by simp;rw [← hn];omega,z384 (l:=none) hc',hn,z1273 hs (z384 (l:=none) hc') (by simp;omega)⟩
   rw [← hn]
   exact z250 (by rw [hh];exact hS b _ hb) (by omega)
where
 VLL_none' {G:Ghost} {h:Nat→Option Obj} {w:Nat} {es:List (List AC)} {c:Array Value} {off:Nat} (hc:VLL G.bare h none w es c off):VLL G h none w es c off:=by
  have:=z190 es G.bare G h h id (fun _=>False) (fun _ _ e=>e) (fun _ _ e=>by cases e) (fun _ _ _=>rfl) (fun _ _ _ h=>h) (fun _ _ h=>h.elim) none w c off (by simp) hc
  exact this
theorem z995 {es:List (List AC)} (hs:Stor es) {e:List AC} (he:e∈es) {x:AC} (hx:x∈e):x.isOwn=false:=by
 have:=z177.1 (hs e he) x hx
 cases x<;>simp_all [z338,AC.isOwn]
theorem z1162 {G:Ghost} {objs:Nat→AObj} {w:World} {size n o:Nat} {es:List (List AC)} {v:Value} (hw:0 < size) (hW:Wf G objs w) (ho:objs o=.cells size es) (hn:es.length=n) (hs:Stor es) (hv:V G (hp w) none (.sref o 0 n) v):∃ news,z832 P G w size v n news es:=by
 by_cases he:es=[]
 ·subst he
  have hn:n=0:=by simpa using hn.symm
  subst hn
  simp only [V] at hv
  obtain ⟨cap,_,hv⟩:=hv
  have:∃ a k,v=.slice a 0 k:=by
   rcases hv with ⟨_,a,rfl⟩|⟨_,_,_,_,_,rfl⟩
   ·exact ⟨_,_,rfl⟩
   ·exact ⟨_,_,rfl⟩
  obtain ⟨a,k,rfl⟩:=this
  exact ⟨#[],fun w' _=>rfl,fun w' _=>z91,by simp,by simp [VLL],rfl,by simp⟩
 ·have hob:=hW.objs o
  rw [ho] at hob
  rcases hob with ⟨h1,_⟩|⟨b,sz,c,el,h1,h2,h3,h4,h5⟩
  ·exact absurd h1 he
  ·have hbd:=z985 hw h5 he
   have h5' : VLL G (hp w) none size es c 0:=by
    rw [z74] at h5 ⊢
    intro i e hie
    obtain ⟨h6,h7⟩:=h5 i e hie
    refine ⟨h6,z70.2 fun j x hx=>?_⟩
    obtain ⟨u,hu1,hu2⟩:=z70.1 h7 j x hx
    exact ⟨u,hu1,z1271 (z995 hs (List.mem_of_getElem? hie) (List.mem_of_getElem? hx)) hu2⟩
   simp only [V] at hv
   obtain ⟨cap,hcap,hv⟩:=hv
   have hnp:0 < n:=by rw [← hn];exact List.length_pos_iff.2 he
   rcases hv with ⟨h0,_⟩|⟨b',sz',w',h6,h7,rfl⟩
   ·omega
   ·rw [h1] at h6;cases h6
    rw [Nat.zero_mul]
    have hx:=z384 (l:=none) h5'
    rw [Nat.zero_add] at hx hbd
    refine ⟨c.extract 0 (es.length * size),fun w' _=>rfl,fun w' hh=>?_,by simp;rw [← hn];omega,hx,hn,z1273 hs hx (by simp;omega)⟩
    have:=z250 (P:=P) (w:=w') (size:=size) (n:=n) (l:=n) (k:=cap) (off:=0) (by rw [hh];exact h3) (by rw [← hn];omega)
    rw [Nat.zero_add] at this
    rw [hn];exact this
end Go.Gl
namespace Go.Gl
variable {P:Program} {T:Tab} {dst:Option Tmp} {type:TypeId} {pos:String} {after:Array Edge} {guard:Option (Nat×Bool)} {st:St} {K:OpK}
def CellsFrom (G:Ghost) (h:Nat→Option Obj) (o wd:Nat) (es:List (List AC)) (c:Array Value):Prop :=
 ∀ i e,es[i]?=some e→e.length=wd∧∀ j x,e[j]?=some x→∃ v,c[i * wd+j]?=some v∧(V G h (some (o,[i * wd+j])) x v∨V G h none x v)
open Classical in
noncomputable def Ghost.mv (G:Ghost) (o q:Nat) (t:Nat×Nat×Nat) (nb:Option Nat):Ghost where
 S:=G.S
 U:=G.U
 ι:=upd G.ι q (some t)
 κ b:=if some b=nb then some (q,[]) else match G.κ b with
  |some (o',p)=>if o'=o then some (q,p) else some (o',p)
  |none=>none
theorem mv_S {G:Ghost} {o q:Nat} {t:Nat×Nat×Nat} {nb:Option Nat} : ∀ b x,G.S b=some x→(G.mv o q t nb).S b=some x:=fun _ _ e=>e
theorem mv_κ {G:Ghost} {o q:Nat} {t:Nat×Nat×Nat} {nb:Option Nat} {b:Nat} {p:Nat×List Nat} (hb:some b≠nb) (hk:G.κ b=some p):(G.mv o q t nb).κ b=some (if p.1=o then (q,p.2) else p):=by
 obtain ⟨o',p⟩:=p
 simp only [Ghost.mv,if_neg hb,hk]
 by_cases h:o'=o<;>simp [h]
theorem mv_ι {G:Ghost} {objs:Nat→AObj} {w:World} (hW:Wf G objs w) {o q:Nat} {t:Nat×Nat×Nat} {nb:Option Nat} (hq:objs q=.fresh):∀ o' t',G.ι o'=some t'→(G.mv o q t nb).ι o'=some t':=by
 intro o' t' h
 have hne:o'≠q:=by
  rintro rfl
  have:=hW.objs o'
  rw [hq] at this
  rw [show G.ι o'=none from this] at h;cases h
 simp only [Ghost.mv,z52 _ _ hne,h]
theorem CellsFrom.move {G G' : Ghost} {h h' : Nat → Option Obj} {o q wd : Nat} {es : List (List AC)} {c : Array Value} (hS : ∀ b x, G.S b = some x → G'.S b = some x) (hι : ∀ o t, G.ι o = some t → G'.ι o = some t)
    (hκ:∀ b p,p.1=o∧p.2≠[]→G.κ b=some p→G'.κ b=some (q,p.2)∧h' b=h b) (hc:CellsFrom G h o wd es c):VLL G' h' (some (q,[])) wd es c 0:=by
  refine z74.2 fun i e he=>?_
  obtain ⟨h1,h2⟩:=hc i e he
  refine ⟨h1,z70.2 fun j x hx=>?_⟩
  obtain ⟨v,hv1,hv2⟩:=h2 j x hx
  refine ⟨v,by rw [show 0+i * wd+j=i * wd+j by omega];exact hv1,?_⟩
  rcases hv2 with hv2|hv2
  · have:=z302 x G G' h h' (fun p=>(q,p.2)) (fun p=>p.1=o∧p.2≠[]) hS hι (fun _ _ _=>rfl) (fun _ _ _ h=>⟨h.1,by simp⟩) hκ (some (o,[i * wd+j])) v (by rintro p hp;cases hp;exact ⟨rfl,by simp⟩) hv2
    simpa [Loc.cell,Nat.zero_add] using this
  · exact V_at (z149 hS hι hv2)
theorem z225 {G G' : Ghost} {h h' : Nat → Option Obj} {o' : Nat} {x : AObj} (hS : ∀ b x, G.S b = some x → G'.S b = some x) (hι : ∀ o t, G.ι o = some t → G'.ι o = some t) (hιo : G'.ι o' = G.ι o')
    (hκ:∀ b p,p.1=o'→G.κ b=some p→G'.κ b=some p∧h' b=h b) (hx:ObjRel G h o' x):ObjRel G' h' o' x:=by
  cases x with
  | fresh=>simp only [ObjRel,hιo];exact hx
  | dead=>trivial
  | mp d es =>
    obtain ⟨b,size,wx,c,ck,h1,h2,h3,h4⟩:=hx
    obtain ⟨h6,h7⟩:=hκ b _ rfl h2
    exact ⟨b,size,wx,c,ck,by rw [hιo];exact h1,h6,by rw [h7];exact h3,h4⟩
  | cells wd es =>
    rcases hx with ⟨h1,h2⟩|⟨b,size,c,el,h1,h2,h3,h4,h5⟩
    · exact .inl ⟨h1,by rw [hιo];exact h2⟩
    · obtain ⟨h6,h7⟩:=hκ b _ rfl h2
      refine .inr ⟨b,size,c,el,by rw [hιo];exact h1,h6,by rw [h7];exact h3,h4,?_⟩
      have:=z190 es G G' h h' id (fun p=>p.1=o') hS hι (fun _ _ _=>rfl) (fun _ _ _ h=>h) hκ (some (o',[])) wd c 0 (fun p hp _=>by cases hp;rfl) h5
      simpa using this
theorem Wf.grow {G : Ghost} {objs : Nat → AObj} {w w' : World} (hW : Wf G objs w) {o q wd : Nat} {es : List (List AC)} {c : Array Value} {el : TypeId} (hq : objs q = .fresh) (hoq : o ≠ q)
    (hh:w'.heap=w.heap.push (.cells c el (0,0))) (hc:CellsFrom G (hp w) o wd es c):Wf (G.mv o q (w.heap.size,c.size,wd) (some w.heap.size)) (upd (upd objs o .dead) q (.cells wd es)) w':=by
  have hlt:∀ b x,w.heap[b]?=some x→b < w.heap.size:=fun b x e=>by
    rcases y67 b w.heap.size with hl|hl
    · exact hl
    · rw [Array.getElem?_eq_none hl] at e;cases e
  have hold:∀ b x,w.heap[b]?=some x→w'.heap[b]?=some x:=fun b x e=>by
    rw [z170 hh,if_neg (Nat.ne_of_lt (hlt b x e))];exact e
  have hsame:∀ b p,G.κ b=some p→hp w' b=hp w b:=fun b p e=>by
    simp only [hp,z170 hh,if_neg (Nat.ne_of_lt (hW.sk b p e).2.2)]
  have hnb:∀ b p,G.κ b=some p→some b≠some w.heap.size:=fun b p e h=>by
    have:=(hW.sk b p e).2.2;cases h;exact Nat.lt_irrefl _ this
  have hι:=mv_ι hW (o:=o) (t:=(w.heap.size,c.size,wd)) (nb:=some w.heap.size) hq
  refine ⟨fun b x e=>hold b x (hW.hS b x e),fun b x e=>hold b x (hW.hU b x e),hW.su,fun b p e=>?_,fun o'=>?_⟩
  · by_cases hb:b=w.heap.size
    · subst hb
      refine ⟨?_,?_,by rw [hh];simp⟩
      · cases hs:G.S w.heap.size with
        | none=>exact hs
        | some x=>exact absurd (hlt _ _ (hW.hS _ _ hs)) (Nat.lt_irrefl _)
      · cases hs:G.U w.heap.size with
        | none=>exact hs
        | some x=>exact absurd (hlt _ _ (hW.hU _ _ hs)) (Nat.lt_irrefl _)
    · have hb' : some b≠some w.heap.size:=fun h=>hb (by cases h;rfl)
      cases hk:G.κ b with
      | none=>simp [Ghost.mv,hb,hk] at e
      | some p' =>
        obtain ⟨h1,h2,h3⟩:=hW.sk b p' hk
        exact ⟨h1,h2,by rw [hh];simp;omega⟩
  · by_cases h1:o'=q
    · subst h1
      rw [z36]
      refine .inr ⟨w.heap.size,c.size,c,el,by simp [Ghost.mv,z36],by simp [Ghost.mv],by simp [hp,z170 hh],rfl,?_⟩
      refine hc.move mv_S hι (fun b p hp' hk=>⟨?_,hsame b p hk⟩)
      rw [mv_κ (hnb b p hk) hk,if_pos hp'.1]
    · rw [z52 _ _ h1]
      by_cases h2:o'=o
      · subst h2;rw [z36];trivial
      · rw [z52 _ _ h2]
        refine z225 mv_S hι (by simp [Ghost.mv,z52 _ _ h1]) (fun b p hp' hk=>⟨?_,hsame b p hk⟩) (hW.objs o')
        rw [mv_κ (hnb b p hk) hk,if_neg (by rw [hp'];exact h2)]
theorem Wf.inplace {G : Ghost} {objs : Nat → AObj} {w : World} (hW : Wf G objs w) {o q b wd : Nat} {es : List (List AC)} {c c' : Array Value} {el : TypeId} (hq : objs q = .fresh) (hoq : o ≠ q)
    (hι0:G.ι o=some (b,c.size,wd)) (hκ0:G.κ b=some (o,[])) (hb:w.heap[b]?=some (.cells c el (0,0))) (hs:c'.size=c.size) (hc:CellsFrom G (hp w) o wd es c') :
    Wf (G.mv o q (b,c.size,wd) none) (upd (upd objs o .dead) q (.cells wd es)) (World.setObj w b (.cells c' el (0,0))):=by
  obtain ⟨hS,hU,hlt⟩:=hW.sk b _ hκ0
  have hother:∀ b',b'≠b→(World.setObj w b (.cells c' el (0,0))).heap[b']?=w.heap[b']?:=fun b' hne=>by
    simp [World.setObj,Ne.symm hne]
  have hthis:(World.setObj w b (.cells c' el (0,0))).heap[b]?=some (.cells c' el (0,0)):=by
    simp [World.setObj,hlt]
  have hι:=mv_ι hW (o:=o) (t:=(b,c.size,wd)) (nb:=none) hq
  refine ⟨fun b' x e=>?_,fun b' x e=>?_,hW.su,fun b' p e=>?_,fun o'=>?_⟩
  · have:b'≠b:=by rintro rfl;rw [show G.S b'=some x from e] at hS;cases hS
    rw [hother b' this];exact hW.hS b' x e
  · have:b'≠b:=by rintro rfl;rw [show G.U b'=some x from e] at hU;cases hU
    rw [hother b' this];exact hW.hU b' x e
  · cases hk:G.κ b' with
    | none=>simp [Ghost.mv,hk] at e
    | some p' =>
      obtain ⟨h1,h2,h3⟩:=hW.sk b' p' hk
      exact ⟨h1,h2,by simpa [World.setObj] using h3⟩
  · by_cases h1:o'=q
    · subst h1
      rw [z36]
      refine .inr ⟨b,c.size,c',el,by simp [Ghost.mv,z36],by rw [mv_κ (by simp) hκ0];simp,hthis,hs,?_⟩
      refine hc.move mv_S hι (fun b' p hp' hk=>⟨by rw [mv_κ (by simp) hk,if_pos hp'.1],hother b' ?_⟩)
      rintro rfl
      rw [hκ0] at hk;cases hk;exact hp'.2 rfl
    · rw [z52 _ _ h1]
      by_cases h2:o'=o
      · subst h2;rw [z36];trivial
      · rw [z52 _ _ h2]
        refine z225 mv_S hι (by simp [Ghost.mv,z52 _ _ h1]) (fun b' p hp' hk=>⟨by rw [mv_κ (by simp) hk,if_neg (by rw [hp'];exact h2)],hother b' ?_⟩) (hW.objs o')
        rintro rfl
        rw [hκ0] at hk;cases hk;exact h2 hp'.symm
end Go.Gl
namespace Go.Gl
variable {P:Program} {T:Tab} {dst:Option Tmp} {type:TypeId} {pos:String} {after:Array Edge} {guard:Option (Nat×Bool)} {st:St} {K:OpK}
theorem Wf.phantom {G:Ghost} {objs:Nat→AObj} {w:World} (hW:Wf G objs w) {q wd:Nat} (hq:objs q=.fresh):Wf G (upd objs q (.cells wd [])) w :=
 ⟨hW.hS,hW.hU,hW.su,hW.sk,fun o'=>by
  by_cases h:o'=q
  ·subst h;rw [z36]
   have:=hW.objs o'
   rw [hq] at this
   exact .inl ⟨rfl,this⟩
  ·rw [z52 _ _ h];exact hW.objs o'⟩
theorem Wf.drop {G:Ghost} {objs:Nat→AObj} {w:World} (hW:Wf G objs w) (o:Nat):Wf G (upd objs o .dead) w :=
 ⟨hW.hS,hW.hU,hW.su,hW.sk,fun o'=>by
  by_cases h:o'=o
  ·subst h;rw [z36];trivial
  ·rw [z52 _ _ h];exact hW.objs o'⟩
theorem z1055 {G : Ghost} {h : Nat → Option Obj} {o wd n : Nat} {es es2 : List (List AC)} {c0 news rest : Array Value} (hn : n ≤ es.length) (h0 : VLL G h (some (o, [])) wd es c0 0) (h2 : VLL G h none wd es2 news 0) (hs : n * wd ≤ c0.size) (hns : news.size = es2.length * wd) :
    CellsFrom G h o wd (es.take n++es2) (c0.extract 0 (n * wd)++news++rest):=by
  have hsz:(c0.extract 0 (n * wd)).size=n * wd:=by simp;omega
  have hl:(es.take n).length=n:=by simp;omega
  intro i e he
  rw [List.getElem?_append] at he
  split at he
  · rename_i hi
    rw [hl] at hi
    rw [List.getElem?_take,if_pos hi] at he
    obtain ⟨h3,h4⟩:=z74.1 h0 i e he
    refine ⟨h3,fun j x hx=>?_⟩
    obtain ⟨v,hv1,hv2⟩:=z70.1 h4 j x hx
    have hj:j < wd:=by
      rw [← h3]
      rcases y67 j e.length with h|h
      · exact h
      · rw [y66 h] at hx;cases hx
    have hb:(i+1) * wd≤n * wd:=Nat.mul_le_mul_right _ hi
    rw [Nat.add_mul] at hb
    rw [Nat.zero_add] at hv1 hv2
    refine ⟨v,?_,.inl hv2⟩
    rw [Array.append_assoc,Array.getElem?_append,if_pos (by omega),Array.getElem?_extract,if_pos (by omega),Nat.zero_add]
    exact hv1
  · rename_i hi
    rw [hl] at hi he
    obtain ⟨h3,h4⟩:=z74.1 h2 (i - n) e he
    have hi2:i - n < es2.length:=by
      rcases y67 (i - n) es2.length with h|h
      · exact h
      · rw [y66 h] at he;cases he
    refine ⟨h3,fun j x hx=>?_⟩
    obtain ⟨v,hv1,hv2⟩:=z70.1 h4 j x hx
    have hj:j < wd:=by
      rw [← h3]
      rcases y67 j e.length with h|h
      · exact h
      · rw [y66 h] at hx;cases hx
    rw [Nat.zero_add] at hv1 hv2
    refine ⟨v,?_,.inr hv2⟩
    have hin:i * wd=n * wd+(i - n) * wd:=by rw [← Nat.add_mul];congr 1;omega
    have hb:(i - n+1) * wd≤es2.length * wd:=Nat.mul_le_mul_right _ hi2
    rw [Nat.add_mul] at hb
    rw [Array.getElem?_append,if_pos (by simp [hsz];omega),Array.getElem?_append,if_neg (by omega),hsz]
    rw [show i * wd+j - n * wd=(i - n) * wd+j by omega]
    exact hv1
theorem z910 {G : Ghost} {h : Nat → Option Obj} {o wd n : Nat} {es es2 : List (List AC)} {c0 news : Array Value} (hn : n ≤ es.length) (h0 : VLL G h (some (o, [])) wd es c0 0) (h2 : VLL G h none wd es2 news 0) (hs : n * wd + news.size ≤ c0.size) (hns : news.size = es2.length * wd) :
    CellsFrom G h o wd (es.take n++es2) (lay c0 (n * wd) news.toList):=by
  have hl:(es.take n).length=n:=by simp;omega
  intro i e he
  rw [List.getElem?_append] at he
  split at he
  · rename_i hi
    rw [hl] at hi
    rw [List.getElem?_take,if_pos hi] at he
    obtain ⟨h3,h4⟩:=z74.1 h0 i e he
    refine ⟨h3,fun j x hx=>?_⟩
    obtain ⟨v,hv1,hv2⟩:=z70.1 h4 j x hx
    have hj:j < wd:=by
      rw [← h3]
      rcases y67 j e.length with h|h
      · exact h
      · rw [y66 h] at hx;cases hx
    have hb:(i+1) * wd≤n * wd:=Nat.mul_le_mul_right _ hi
    rw [Nat.add_mul] at hb
    rw [Nat.zero_add] at hv1 hv2
    refine ⟨v,?_,.inl hv2⟩
    rw [z451 _ _ _ _ (by simpa using hs),if_neg (by omega)]
    exact hv1
  · rename_i hi
    rw [hl] at hi he
    obtain ⟨h3,h4⟩:=z74.1 h2 (i - n) e he
    have hi2:i - n < es2.length:=by
      rcases y67 (i - n) es2.length with h|h
      · exact h
      · rw [y66 h] at he;cases he
    refine ⟨h3,fun j x hx=>?_⟩
    obtain ⟨v,hv1,hv2⟩:=z70.1 h4 j x hx
    have hj:j < wd:=by
      rw [← h3]
      rcases y67 j e.length with h|h
      · exact h
      · rw [y66 h] at hx;cases hx
    rw [Nat.zero_add] at hv1 hv2
    refine ⟨v,?_,.inr hv2⟩
    have hin:i * wd=n * wd+(i - n) * wd:=by rw [← Nat.add_mul];congr 1;omega
    have hb:(i - n+1) * wd≤es2.length * wd:=Nat.mul_le_mul_right _ hi2
    rw [Nat.add_mul] at hb
    rw [z451 _ _ _ _ (by simpa using hs),if_pos (by simp;omega)]
    rw [show i * wd+j - n * wd=(i - n) * wd+j by omega]
    simpa using hv1
theorem z1065 {t e ty : TypeId} {i ei : TyI} (ht : TyOk P t i) (hd : i.desc = .slice e) (he : TyOk P e ei) (hz : ei.zero.cells.size = ei.size) {G : Ghost} {objs : Nat → AObj} {w : World} (hW : Wf G objs w) {o q n m : Nat} {es es2 : List (List AC)} {s x : Value} {news : Array Value}
    (ho:objs o=.cells ei.size es) (hq:objs q=.fresh) (hs:V G (hp w) none (.sref o 0 n) s) (hx:z832 P G w ei.size x m news es2) (hn:n≤es.length) (h1:(n+m) * ei.bytes≤2 ^ 47) (h2:n+m≤2 ^ 47) :
    ∃ v w' G',(Builtin.append_ #[t,t] ty #[s,x]).run P w=.ok v w'∧G.Sub G'∧(∀ o t,G.ι o=some t→G'.ι o=some t)∧Le w w'∧Wf G' (upd (upd objs o .dead) q (.cells ei.size (es.take n++es2))) w'∧V G' (hp w') none (.sref q 0 (n+m)) v:=by
  have hoq:o≠q:=by rintro rfl;rw [ho] at hq;cases hq
  obtain ⟨hx1,hx2,hx3,hx4,hx5,hx6⟩:=hx
  have hob:=hW.objs o
  rw [ho] at hob
  simp only [V] at hs
  obtain ⟨cap,hcap,hs⟩:=hs
  -- growing,once the old cells are known
  have grow : ∀ (a : Option Addr) (c0 : Array Value), s = .slice a n cap → (∀ w' : World, w'.heap = w.heap → (Builtin.firstCells ei.size n s).run P w' = .ok (c0.extract 0 (n * ei.size)) w') → n * ei.size ≤ c0.size → VLL G (hp w) (some (o, [])) ei.size (es.take n) c0 0 → cap < n + m →
      ∃ v w' G',(Builtin.append_ #[t,t] ty #[s,x]).run P w=.ok v w'∧G.Sub G'∧(∀ o t,G.ι o=some t→G'.ι o=some t)∧Le w w'∧Wf G' (upd (upd objs o .dead) q (.cells ei.size (es.take n++es2))) w'∧V G' (hp w') none (.sref q 0 (n+m)) v:=by
    rintro a c0 rfl hf hc0 hv hlt
    rcases z339 (ty:=ty) ht hd he (hx1 w rfl) hx2 hf h1 h2 with ⟨h,_⟩|⟨_,nc,rest,hnc,hrest,w',hrun,hh,e1,e2,e3⟩
    · omega
    · have hcf:=z1055 (rest:=rest) (n:=n) (by simp;omega) hv hx4 hc0 (by rw [hx3,hx5])
      rw [List.take_take,Nat.min_self] at hcf
      refine ⟨_,w',_,hrun,⟨mv_S,rfl⟩,mv_ι hW hq,z864 hh e1 e2 e3,hW.grow hq hoq hh hcf,?_⟩
      simp only [V]
      refine ⟨nc,hnc,.inr ⟨w.heap.size,(c0.extract 0 (n * ei.size)++news++rest).size,ei.size,by simp only [Ghost.mv,z36],?_,by rw [Nat.zero_mul]⟩⟩
      simp only [Array.size_append,hx3,hrest,hz,Nat.zero_add]
      have:(c0.extract 0 (n * ei.size)).size=n * ei.size:=by simp;omega
      rw [this,← Nat.add_mul,← Nat.add_mul]
      exact Nat.mul_le_mul_right _ (by omega)
  rcases hs with ⟨hc0,a,rfl⟩|⟨b,size,w',hι,hsz,rfl⟩
  · subst hc0
    have hn0:n=0:=by omega
    subst hn0
    by_cases hm:m=0
    · subst hm
      have hes2:es2=[]:=y71 hx5
      have hnews:news=#[]:=by apply Array.eq_empty_of_size_eq_zero;rw [hx3];simp
      subst hes2;subst hnews
      rcases z339 (ty:=ty) ht hd he (hx1 w rfl) hx2 (fun w' _=>z91) h1 h2 with ⟨_,hrun⟩|⟨h,_⟩
      · refine ⟨.slice a 0 0,w,G,?_,Ghost.Sub.refl G,fun _ _ h=>h,Le.refl w,?_,?_⟩
        · rw [hrun];cases a<;>simp [storeCells,go_sem]
        · simpa using (hW.drop o).phantom (wd:=ei.size) (by rw [z52 _ _ (Ne.symm hoq)];exact hq)
        · simp only [V];exact ⟨0,y49 _,.inl ⟨rfl,a,rfl⟩⟩
      · omega
    · have:=grow a #[] rfl (fun w' _=>by simpa using z91) (by simp) (by simp [VLL]) (by omega)
      exact this
  · rcases hob with ⟨h3,h4⟩|⟨b',size',c,el,h3,h4,h5,h6,h7⟩
    · rw [hι] at h4;cases h4
    · rw [hι] at h3;cases h3
      subst h6
      rw [Nat.zero_mul] at *
      rw [Nat.zero_add] at hsz
      have hnc:n * ei.size≤c.size:=Nat.le_trans (Nat.mul_le_mul_right _ hcap) hsz
      have hf:∀ w' : World,w'.heap=w.heap→(Builtin.firstCells ei.size n (.slice (some ⟨b,0,none⟩) n cap)).run P w'=.ok (c.extract 0 (n * ei.size)) w':=fun w' hh=>by
        have:=z250 (P:=P) (w:=w') (size:=ei.size) (n:=n) (l:=n) (k:=cap) (off:=0) (by rw [hh];exact h5) (by omega)
        rw [Nat.zero_add] at this;exact this
      have hvt:VLL G (hp w) (some (o,[])) ei.size (es.take n) c 0:=by
        rw [z74] at h7 ⊢
        intro i e hie
        rw [List.getElem?_take] at hie
        split at hie
        · exact h7 i e hie
        · cases hie
      by_cases hroom:n+m≤cap
      · rcases z339 (ty:=ty) ht hd he (hx1 w rfl) hx2 hf h1 h2 with ⟨_,hrun⟩|⟨h,_⟩
        · have hfit:n * ei.size+news.size≤c.size:=by
            rw [hx3,← Nat.add_mul]
            exact Nat.le_trans (Nat.mul_le_mul_right _ hroom) hsz
          have hst:=z362 (P:=P) (off:=n * ei.size) (el:=el) news.toList w c 0 h5 (by simpa using hfit) hx6
          rw [Nat.add_zero] at hst
          have hcf:=z910 hn h7 hx4 hfit (by rw [hx3,hx5])
          refine ⟨.slice (some ⟨b,0,none⟩) (n+m) cap,World.setObj w b (.cells (lay c (n * ei.size) news.toList) el (0,0)),G.mv o q (b,c.size,ei.size) none,by rw [hrun];simp only [z477,Nat.zero_add];rw [hst];rfl,⟨mv_S,rfl⟩,mv_ι hW hq,⟨rfl,rfl,rfl,by simp [World.setObj]⟩,hW.inplace hq hoq hι h4 h5 (z345 _ _ _) hcf,?_⟩
          simp only [V]
          exact ⟨cap,hroom,.inr ⟨b,c.size,ei.size,by simp only [Ghost.mv,z36],by rw [Nat.zero_add];exact hsz,by rw [Nat.zero_mul]⟩⟩
        · omega
      · exact grow _ c rfl hf hnc hvt (by omega)
end Go.Gl
namespace Go.Gl
variable {P:Program} {T:Tab} {dst:Option Tmp} {type:TypeId} {pos:String} {after:Array Edge} {guard:Option (Nat×Bool)} {st:St} {K:OpK}
theorem append_nil {t e ty : TypeId} {i ei : TyI} (ht : TyOk P t i) (hd : i.desc = .slice e) (he : TyOk P e ei) {G : Ghost} {objs : Nat → AObj} {w : World} (hW : Wf G objs w) {q m : Nat} {es2 : List (List AC)} {x : Value} {news : Array Value}
    (hz:ei.zero.cells.size=ei.size) (hq:objs q=.fresh) (hx:z832 P G w ei.size x m news es2) (h1:m * ei.bytes≤2 ^ 47) (h2:m≤2 ^ 47) :
    ∃ v w' G',(Builtin.append_ #[t,t] ty #[.slice none 0 0,x]).run P w=.ok v w'∧G.Sub G'∧(∀ o t,G.ι o=some t→G'.ι o=some t)∧Le w w'∧Wf G' (upd objs q (.cells ei.size es2)) w'∧V G' (hp w') none (.sref q 0 m) v:=by
  obtain ⟨hx1,hx2,hx3,hx4,hx5,hx6⟩:=hx
  rcases z339 (n:=0) (a:=none) (cap:=0) (ty:=ty) ht hd he (hx1 w rfl) hx2 (fun w' _=>z91) (by simpa using h1) (by simpa using h2) with ⟨h,hrun⟩|⟨_,nc,rest,hnc,hrest,w',hrun,hh,e1,e2,e3⟩
  · have hm:m=0:=by omega
    subst hm
    have hes2:es2=[]:=y71 hx5
    subst hes2
    refine ⟨.slice none 0 0,w,G,by rw [hrun];rfl,Ghost.Sub.refl G,fun _ _ h=>h,Le.refl w,hW.phantom hq,?_⟩
    simp only [V];exact ⟨0,y49 _,.inl ⟨rfl,none,rfl⟩⟩
  · have hio:G.ι q=none:=by have:=hW.objs q;rw [hq] at this;exact this
    have hc:VLL G (hp w) none ei.size es2 (#[]++news++rest) 0:=by
      rw [z74] at hx4 ⊢
      intro i e hie
      obtain ⟨h3,h4⟩:=hx4 i e hie
      refine ⟨h3,z70.2 fun j y hy=>?_⟩
      obtain ⟨v,hv1,hv2⟩:=z70.1 h4 j y hy
      refine ⟨v,?_,hv2⟩
      have:=(Array.getElem?_eq_some_iff.1 hv1).1
      simp only [Array.empty_append]
      rw [Array.getElem?_append,if_pos this];exact hv1
    refine ⟨_,w',G.push q w.heap.size (#[]++news++rest).size ei.size,hrun,⟨y8,rfl⟩,y9 hio,z864 hh e1 e2 e3,hW.push hq hh hc,?_⟩
    simp only [V]
    refine ⟨nc,by omega,.inr ⟨w.heap.size,(#[]++news++rest).size,ei.size,by simp only [Ghost.push,z36],?_,by rw [Nat.zero_mul,Nat.zero_add]⟩⟩
    simp only [Array.size_append,hx3,hrest,hz,Nat.zero_add,Array.empty_append]
    rw [← Nat.add_mul]
    exact Nat.mul_le_mul_right _ (by omega)
def z1077 (st:St) (size:Nat) (x:AC) (K:Nat→List (List AC)→List Nat→Prop):Prop:=match x with
 |.list w n es=>z76 (Nat.beq w size) (Stor es∧K n es [])
 |.sref o off n=>match off with
  |0=>match st.objs o with
   |.cells w es=>z76 (Nat.beq w size) ((es.length=n∧Stor es)∧K n es [o])
   |_=>False
  |_+1=>False
 |.raw (.slice _ 0 _)=>K 0 [] []
 |_=>False
def z963 (st:St) (K:Nat→Prop):Prop:=match st.objs st.next with
 |.fresh=>z233 st.next K
 |_=>False
def z922 (i:TyI) (st:St) (s x:AC) (K:OpK):Prop :=
 z76 (Nat.beq (z94 i.zero).length i.size) (z76 (Nat.blt 0 i.size) (z1077 st i.size x fun m es2 os=>match s with
  |.sref o off n=>match off with
   |0=>match st.objs o with
    |.cells w es=>z76 (Nat.beq w i.size) (z76 (!inB os o) ((n≤es.length∧(n+m) * i.bytes≤2 ^ 47∧n+m≤2 ^ 47)∧z963 st fun q=>K (.sref q 0 (n+m)) (⟨o,.cells w es,.dead⟩::⟨q,.fresh,.cells w (es.take n++es2)⟩::os.map st.rd)))
    |_=>False
   |_+1=>False
  |.raw (.slice none 0 0)=>(m * i.bytes≤2 ^ 47∧m≤2 ^ 47)∧z963 st fun q=>K (.sref q 0 m) (⟨q,.fresh,.cells i.size es2⟩::os.map st.rd)
  |_=>False))
theorem z838 {size:Nat} {x:AC} {K:Nat→List (List AC)→List Nat→Prop} (h:z1077 st size x K):∃ m es os,K m es os∧(∀ o∈os,st.objs o≠.fresh)∧(∀ (G:Ghost) (objs:Nat→AObj) (w:World) (v:Value),Wf G objs w→0 < size→(∀ o∈os,objs o=st.objs o)→V G (hp w) none x v→∃ news,z832 P G w size v m news es):=by
 unfold z1077 at h
 split at h
 ·rename_i w n es
  obtain ⟨hw,hs,hk⟩:=z32 h
  have hw:=Nat.eq_of_beq_eq_true hw
  subst hw
  exact ⟨n,es,[],hk,by simp,fun G objs w v hW hp _ hv=>z1163 hp hW.hS hs hv⟩
 ·rename_i o off n
  split at h
  ·split at h
   ·rename_i w es hob
    obtain ⟨hw,⟨hn,hs⟩,hk⟩:=z32 h
    have hw:=Nat.eq_of_beq_eq_true hw
    subst hw
    exact ⟨n,es,[o],hk,by simp [hob],fun G objs w v hW hp hos hv=>z1162 hp hW (by rw [hos o (by simp),hob]) hn hs hv⟩
   ·exact h.elim
  ·exact h.elim
 ·exact ⟨0,[],[],h,by simp,fun G objs w v hW hp _ hv=>by
   rw [z103] at hv
   subst hv
   exact ⟨#[],fun w' _=>rfl,fun w' _=>z91,by simp,by simp [VLL],rfl,by simp⟩⟩
 ·exact h.elim
theorem z577 {s x : Operand} {t : TypeId} (ρ : Operand → Value) :
    execOp ρ ⟨dst,.call ⟨.builtin .append,#[s,x],#[t,t]⟩,type,pos,after,guard⟩=(do pure (.value (← Builtin.append_ #[t,t] type #[ρ s,ρ x]))):=by
  simp [execOp,resolve,invoke,Go.builtin]
theorem z576 {f:Nat→AObj} {st:St} {os:List Nat} (h:∀ o∈os,f o=st.objs o):z88 f (os.map st.rd)=f :=
 z148 f _ fun c hc=>by
  rw [y57] at hc
  obtain ⟨o,ho,rfl⟩:=hc
  exact ⟨h o ho,rfl⟩
theorem z741 {s x : Operand} {t e : TypeId} {i ei : TyI} (ht : TyOk P t i) (hd : i.desc = .slice e) (he : TyOk P e ei)
    (h:z922 ei st (st.ev s) (st.ev x) K):z108 P st ⟨dst,.call ⟨.builtin .append,#[s,x],#[t,t]⟩,type,pos,after,guard⟩ K:=by
  obtain ⟨hz,h⟩:=z32 h
  obtain ⟨hpos,h⟩:=z32 h
  have hz' : ei.zero.cells.size=ei.size:=by have:=Nat.eq_of_beq_eq_true hz;simpa [z94] using this
  have hpos:0 < ei.size:=by simpa [Nat.blt_eq] using hpos
  obtain ⟨m,es2,os,hk,hosf,hnews⟩:=z838 (P:=P) h
  have hops:∀ y,(y=s∨y=x)→y∈(Op.operands (.call ⟨.builtin .append,#[s,x],#[t,t]⟩)).toList:=by
    rintro y (rfl|rfl)<;>simp [Op.operands,Call.operands]
  split at hk
  · rename_i o off n hs
    split at hk
    · split at hk
      · rename_i wd es hob
        obtain ⟨hw,hk⟩:=z32 hk
        obtain ⟨hno,⟨hn,h1,h2⟩,hk⟩:=z32 hk
        have hw:=Nat.eq_of_beq_eq_true hw
        subst hw
        unfold z963 at hk
        split at hk
        · rename_i hfr
          rw [z116] at hk
          have hoos:o ∉ os:=fun hm=>by rw [z286.2 hm] at hno;simp at hno
          refine ⟨_,_,⟨fun Q K' G st' a w hR hrd hfp hd' hK=>?_⟩,fun c hc=>?_,hk⟩
          · have hsv:=hR.ev s
            rw [z119 (hops s (.inl rfl)) hrd,hs] at hsv
            have hxv:=hR.ev x
            rw [z119 (hops x (.inr rfl)) hrd] at hxv
            have hos:∀ o∈os,st'.objs o=st.objs o:=fun o ho=>hfp (st.rd o) (by simp;exact .inr (.inr ⟨o,ho,rfl⟩))
            obtain ⟨news,hnw⟩:=hnews G st'.objs w _ hR.wf hpos hos hxv
            have ho1:st'.objs o=.cells ei.size es:=hfp ⟨o,.cells ei.size es,.dead⟩ (by simp)
            have hq1:st'.objs st.next=.fresh:=hfp ⟨st.next,.fresh,.cells ei.size (es.take n++es2)⟩ (by simp)
            obtain ⟨v,w',G',hrun,hg1,hg2,hle,hW',hV⟩:=z1065 (ty:=type) ht hd he hz' hR.wf ho1 hq1 hsv hnw hn h1 h2
            refine wp_v (z577 a.eval) hrun (hK G' _ w' hg1 hg2 hle ⟨?_,?_,by rw [z203];exact hR.size,by rw [z146];exact hR.defers.mono hg1.S⟩)
            · show Wf G' (z88 (upd (upd st'.objs o .dead) st.next (.cells ei.size (es.take n++es2))) (os.map st.rd)) w'
              rw [z576]
              · exact hW'
              · intro o' ho'
                have h3:o'≠st.next:=by
                  rintro rfl
                  exact hosf _ ho' hfr
                rw [z52 _ _ h3,z52 _ _ (by rintro rfl;exact hoos ho')]
                exact hos o' ho'
            · exact z292 hd' hR.size (fun s=>z149 hg1.S hg2 (hR.env s)) hV
          · simp at hc
            rcases hc with rfl|rfl|⟨o',ho',rfl⟩
            · exact ⟨hob,fun h=>by cases h⟩
            · exact ⟨hfr,fun h=>by cases h⟩
            · exact ⟨rfl,fun h=>by cases h⟩
        · exact hk.elim
      · exact hk.elim
    · exact hk.elim
  · rename_i hs
    obtain ⟨⟨h1,h2⟩,hk⟩:=hk
    unfold z963 at hk
    split at hk
    · rename_i hfr
      rw [z116] at hk
      refine ⟨_,_,⟨fun Q K' G st' a w hR hrd hfp hd' hK=>?_⟩,fun c hc=>?_,hk⟩
      · have hsv:=hR.ev s
        rw [z119 (hops s (.inl rfl)) hrd,hs,z103] at hsv
        have hxv:=hR.ev x
        rw [z119 (hops x (.inr rfl)) hrd] at hxv
        have hos:∀ o∈os,st'.objs o=st.objs o:=fun o ho=>hfp (st.rd o) (by simp;exact .inr ⟨o,ho,rfl⟩)
        obtain ⟨news,hnw⟩:=hnews G st'.objs w _ hR.wf hpos hos hxv
        have hq1:st'.objs st.next=.fresh:=hfp ⟨st.next,.fresh,.cells ei.size es2⟩ (by simp)
        obtain ⟨v,w',G',hrun,hg1,hg2,hle,hW',hV⟩:=append_nil (ty:=type) ht hd he hR.wf hz' hq1 hnw h1 h2
        refine wp_v (z577 a.eval) (by rw [hsv];exact hrun) (hK G' _ w' hg1 hg2 hle ⟨?_,?_,by rw [z203];exact hR.size,by rw [z146];exact hR.defers.mono hg1.S⟩)
        · show Wf G' (z88 (upd st'.objs st.next (.cells ei.size es2)) (os.map st.rd)) w'
          rw [z576]
          · exact hW'
          · intro o' ho'
            have h3:o'≠st.next:=by
              rintro rfl
              exact hosf _ ho' hfr
            rw [z52 _ _ h3]
            exact hos o' ho'
        · exact z292 hd' hR.size (fun s=>z149 hg1.S hg2 (hR.env s)) hV
      · simp at hc
        rcases hc with rfl|⟨o',ho',rfl⟩
        · exact ⟨hfr,fun h=>by cases h⟩
        · exact ⟨rfl,fun h=>by cases h⟩
    · exact hk.elim
  · exact hk.elim
end Go.Gl
namespace Go.Gl
variable {P:Program} {T:Tab} {dst:Option Tmp} {type:TypeId} {pos:String} {after:Array Edge} {guard:Option (Nat×Bool)} {st:St} {K:OpK}
def z497:Option TyI→Bool
 |some i=>match i.desc with
  |.slice _=>true
  |_=>false
 |none=>false
theorem z464 {t:TypeId} (hT:z135 P T) (h:z497 (T t)=true):∃ e,P.underlying t=some (.slice e):=by
 unfold z497 at h
 split at h
 ·rename_i i hi
  split at h
  ·rename_i e he
   exact ⟨e,by rw [(hT _ _ hi).1,he]⟩
  ·cases h
 ·cases h
def z772 (op:BinOp) (b:Bool) (K:OpK):Prop:=match op with
 |.eql=>K (.bool b) []
 |.neq=>K (.bool (!b)) []
 |_=>False
def z1076 (t:Option TyI) (op:BinOp) (x:AC) (K:OpK):Prop:=z76 (z497 t) (match x with
 |.raw (.slice a _ _)=>z772 op a.isNone K
 |.list _ n _=>0 < n∧z772 op false K
 |.sref _ _ n=>0 < n∧z772 op false K
 |_=>False)
def z1084 (t:Option TyI) (op:BinOp) (x y:AC) (K:OpK):Prop:=match y with
 |.raw (.slice none 0 0)=>z1076 t op x K
 |y=>vcBin t op x y K
theorem z443 {w:World} (d:Nat) {t e:TypeId} {a:Option Addr} {n c:Nat} (h:P.underlying t=some (.slice e)):(Op.equalIn (d+1) t (.slice a n c) (.slice none 0 0)).run P w=.ok a.isNone w:=by
 cases a<;>simp [Op.equalIn,z59 h]
theorem z314 {w:World} {t e:TypeId} {a:Option Addr} {n c:Nat} (h:P.underlying t=some (.slice e)):(Op.equal t (.slice a n c) (.slice none 0 0)).run P w=.ok a.isNone w :=
 z443 9999 h
theorem z852 {op:BinOp} {t t2:TypeId} {x y:Operand} (hT:z135 P T) (hy:st.ev y=.raw (.slice none 0 0)) (h:z1076 (T t) op (st.ev x) K):z108 P st ⟨dst,.binOp op t x y t2,type,pos,after,guard⟩ K:=by
 obtain ⟨hs,h⟩:=z32 h
 obtain ⟨e,he⟩:=z464 hT hs
 have key:∀ b:Bool,(∀ (G:Ghost) (hh:Nat→Option Obj) (v:Value),V G hh none (st.ev x) v→∃ a n c,v=.slice a n c∧a.isNone=b)→z772 op b K→z108 P st ⟨dst,.binOp op t x y t2,type,pos,after,guard⟩ K:=by
  intro b hv hk
  have key2:∀ r:Bool,(op=.eql∧r=b∨op=.neq∧r=!b)→K (.raw (.bool r)) []→z108 P st ⟨dst,.binOp op t x y t2,type,pos,after,guard⟩ K:=by
   intro r ho hk
   refine z84 (fun ρ=>do eqGuard op t x y (ρ x) (ρ y);binOp op t (ρ x) (ρ y)) (fun ρ=>z245 ρ) hk fun G a w hxs=>?_
   have h1:=hxs x (by simp [Op.operands])
   have h2:=hxs y (by simp [Op.operands])
   rw [hy,z103] at h2
   obtain ⟨ad,n,c,h3,h4⟩:=hv _ _ _ h1
   refine ⟨_,?_,by rw [z103]⟩
   rw [h3,h2]
   have:(eqGuard op t x y (.slice ad n c) (.slice none 0 0)).run P w=.ok () w:=by
    unfold eqGuard
    split<;>rfl
   rw [Sem.run_bind,this]
   rcases ho with ⟨rfl,rfl⟩|⟨rfl,rfl⟩
   ·have e:binOp .eql t (.slice ad n c) (.slice none 0 0)=(do pure (.bool (← Op.equal t (.slice ad n c) (.slice none 0 0)))):=rfl
    rw [e]
    simp only [Result.andThen]
    rw [Sem.run_bind,z314 he,h4]
    rfl
   ·have e:binOp .neq t (.slice ad n c) (.slice none 0 0)=(do pure (.bool (!(← Op.equal t (.slice ad n c) (.slice none 0 0))))):=rfl
    rw [e]
    simp only [Result.andThen]
    rw [Sem.run_bind,z314 he,h4]
    rfl
  unfold z772 at hk
  split at hk
  ·exact key2 _ (.inl ⟨rfl,rfl⟩) hk
  ·exact key2 _ (.inr ⟨rfl,rfl⟩) hk
  ·exact hk.elim
 split at h
 ·rename_i a n c hx
  exact key _ (fun G hh v hv=>by rw [hx,z103] at hv;exact ⟨_,_,_,hv,rfl⟩) h
 ·rename_i w n es hx
  refine key _ (fun G hh v hv=>?_) h.2
  rw [hx] at hv
  simp only [V] at hv
  obtain ⟨a,cap,rfl,_,hl,hv⟩:=hv
  rcases hv with rfl|⟨b,off,c,el,fz,rfl,_⟩
  ·simp at hl;omega
  ·exact ⟨_,_,_,rfl,rfl⟩
 ·rename_i o off n hx
  refine key _ (fun G hh v hv=>?_) h.2
  rw [hx] at hv
  simp only [V] at hv
  obtain ⟨cap,hc,hv⟩:=hv
  rcases hv with ⟨h0,_⟩|⟨b,size,w,_,_,rfl⟩
  ·omega
  ·exact ⟨_,_,_,rfl,rfl⟩
 ·exact h.elim
theorem z1003 {op:BinOp} {t t2:TypeId} {x y:Operand} (hT:z135 P T) (h:z1084 (T t) op (st.ev x) (st.ev y) K):z108 P st ⟨dst,.binOp op t x y t2,type,pos,after,guard⟩ K:=by
 unfold z1084 at h
 split at h
 ·rename_i hy;exact z852 hT hy h
 ·exact z1109 hT h
end Go.Gl
namespace Go.Gl
variable {P:Program} {T:Tab} {dst:Option Tmp} {type:TypeId} {pos:String} {after:Array Edge} {guard:Option (Nat×Bool)} {st:St} {K:OpK}
theorem z861 {w : World} {t tI ty e : TypeId} {i ei : TyI} {ik : IntKind} (ht : TyOk P t i) (hd : i.desc = .slice e) (he : TyOk P e ei) (hI : P.underlying tI = some (.int ik))
    (hz:ei.zero.cells.size=ei.size) (hp:0 < ei.size) {n:Int} {k:IntKind} (h0:0 < n) (h1:n * ei.bytes≤2 ^ 47) (h2:n≤2 ^ 47) :
    ∃ nc rest,n.toNat≤nc∧rest.size=(nc - n.toNat) * ei.zero.cells.size∧∃ w',(Builtin.append_ #[t,tI] ty #[.slice none 0 0,.int k n]).run P w=.ok (.slice (some ⟨w.heap.size,0,none⟩) n.toNat nc) w' ∧
      w'.heap=w.heap.push (.cells (z243 n.toNat ei.zero.cells++rest) e)∧w'.os=w.os∧w'.tape=w.tape∧w'.output=w.output:=by
  have hn:IntKind.i64.wrap n=n:=IntWalk.i64_in _ (by omega)
  obtain ⟨hu,inf,hi1,hi2,hi3,hi4⟩:=he
  have hut:=ht.1
  rw [hd] at hut
  have hnn:((n.toNat:Nat):Int)=n:=Int.toNat_of_nonneg (by omega)
  have h47:n.toNat * ei.bytes≤2 ^ 47:=by
    have:((n.toNat * ei.bytes:Nat):Int)=n * ei.bytes:=by push_cast;rw [hnn]
    omega
  have h3:¬ (9223372036854775807 < n):=by omega
  have h5:¬ n < 0:=by omega
  have h6:¬ (281474976710656 < n * (ei.bytes:Int)):=by omega
  have hc:¬ n.toNat≤0:=by omega
  have h4:¬ (281474976710656 < Builtin.nextslicecap (n.toNat) 0 * ei.bytes):=by
    have:=growslice_fits (need:=n.toNat) (old:=0) (bytes:=ei.bytes) (by omega) (by omega)
    omega
  have h7:¬ n.toNat * ei.size=0:=by
    have:0 < n.toNat * ei.size:=Nat.mul_pos (by omega) hp
    omega
  have hcut:n.toNat≤(Question.appendCap n.toNat 0 e).cut (w.tape w.drawn (.appendCap n.toNat 0 e)):=by simp [Question.cut]
  refine ⟨(Question.appendCap n.toNat 0 e).cut (w.tape w.drawn (.appendCap n.toNat 0 e)),Builtin.zeroCells ei.zero.cells ((Question.appendCap n.toNat 0 e).cut (w.tape w.drawn (.appendCap n.toNat 0 e)) - n.toNat),hcut,by simp [Builtin.zeroCells],?_⟩
  refine ⟨{ w with heap:=w.heap.push (.cells (z243 n.toNat ei.zero.cells++Builtin.zeroCells ei.zero.cells ((Question.appendCap n.toNat 0 e).cut (w.tape w.drawn (.appendCap n.toNat 0 e)) - n.toNat)) e),drawn:=w.drawn+1 },?_,rfl,rfl,rfl,rfl⟩
  simp only [Builtin.append_]
  simp [z59 hut,z59 hI,z157 hi1,hi2,hn,hc,hi3,h3,h4,h5,h6,h7,hnn,asInt,asIntOf,z193 hi1,z166 hi1 hi4,newRow,Question.forced,z91]
  rw [if_neg (by omega),if_neg (by omega)]
  rfl
theorem OpT.fresh2 {o : Oper} {st : St} {q wd : Nat} {es : List (List AC)} {res : AC} (s : (Operand → Value) → Sem Value) (he : ∀ ρ, execOp ρ o = (do pure (.value (← s ρ))))
    (h:∀ (G:Ghost) (a:Act) (w:World),(∀ x∈o.op.operands.toList,V G (hp w) none (st.ev x) (a.eval x))→∃ v c el w',(s a.eval).run P w=.ok v w'∧w'.heap=w.heap.push (.cells c el)∧w'.os=w.os∧w'.tape=w.tape∧w'.output=w.output∧VLL G (hp w) none wd es c 0 ∧
      (∀ (G' : Ghost) (h' : Nat→Option Obj),G'.ι q=some (w.heap.size,c.size,wd)→V G' h' none res v)) :
    OpT P o (st.reads o.op.operands.toList) [⟨q,.fresh,.cells wd es⟩] res where
  run Q K G st' a w hR hrd hfp hd hK:=by
    obtain ⟨v,c,el,w',h1,hh,e1,e2,e3,h2,h3⟩:=h G a w (fun x hx=>by rw [← z119 hx hrd];exact hR.ev x)
    refine wp_v (he a.eval) h1 ?_
    have hq:st'.objs q=.fresh:=hfp _ (List.mem_singleton.2 rfl)
    exact hK (G.push q w.heap.size c.size wd) _ _ ⟨y8,rfl⟩ (y9 (by have:=hR.wf.objs q;rw [hq] at this;exact this)) (z864 hh e1 e2 e3) (hR.push hd hq hh h2 (h3 _ _ (by simp [Ghost.push,z36])))
def z1196:Option TyI→Bool
 |some i=>match i.desc with
  |.int _=>true
  |_=>false
 |none=>false
theorem z893 {t:TypeId} (hT:z135 P T) (h:z1196 (T t)=true):∃ k,P.underlying t=some (.int k):=by
 unfold z1196 at h
 split at h
 ·rename_i i hi
  split at h
  ·rename_i e he
   exact ⟨e,by rw [(hT _ _ hi).1,he]⟩
  ·cases h
 ·cases h
def z1086 (ti:Option TyI) (i:TyI) (st:St) (s x:AC) (K:OpK):Prop :=
 z76 (z1196 ti) (z76 (Nat.blt 0 i.size) (match s,x with
  |.raw (.slice none 0 0), .raw (.int _ n) => (0 < n ∧ n * i.bytes ≤ 2 ^ 47 ∧ n ≤ 2 ^ 47) ∧
    z76 (Nat.beq (z94 i.zero).length i.size) (z233 i.size fun sz=>litK (z94 i.zero) fun z=>z723 st sz (List.replicate n.toNat z) (fun q=>.sref q 0 n.toNat) K)
  |_,_=>False))
theorem z820 {s x : Operand} {t tI : TypeId} (ρ : Operand → Value) :
    execOp ρ ⟨dst,.call ⟨.builtin .append,#[s,x],#[t,tI]⟩,type,pos,after,guard⟩=(do pure (.value (← Builtin.append_ #[t,tI] type #[ρ s,ρ x]))):=by
  simp [execOp,resolve,invoke,Go.builtin]
theorem z664 {s x : Operand} {t tI e : TypeId} {i ei : TyI} (hT : z135 P T) (ht : TyOk P t i) (hd : i.desc = .slice e) (he : TyOk P e ei)
    (h:z1086 (T tI) ei st (st.ev s) (st.ev x) K):z108 P st ⟨dst,.call ⟨.builtin .append,#[s,x],#[t,tI]⟩,type,pos,after,guard⟩ K:=by
  unfold z1086 at h
  obtain ⟨hi,h⟩:=z32 h
  obtain ⟨hpos,h⟩:=z32 h
  have hpos:0 < ei.size:=by simpa [Nat.blt_eq] using hpos
  obtain ⟨ik,hI⟩:=z893 hT hi
  split at h
  · rename_i k n hs hx
    obtain ⟨⟨h0,h1,h2⟩,h⟩:=h
    obtain ⟨hz,h⟩:=z32 h
    rw [z116,z284] at h
    have hz' : ei.zero.cells.size=ei.size:=by have:=Nat.eq_of_beq_eq_true hz;simpa [z94] using this
    exact z311 rfl h (OpT.fresh2 (fun ρ=>Builtin.append_ #[t,tI] type #[ρ s,ρ x]) z820 fun G a w hxs=>by
      have h4:=hxs s (by simp [Op.operands,Call.operands])
      have h5:=hxs x (by simp [Op.operands,Call.operands])
      rw [hs,z103] at h4
      rw [hx,z103] at h5
      obtain ⟨nc,rest,hnc,hrest,w',hrun,hh,e1,e2,e3⟩:=z861 (w:=w) (ty:=type) (k:=k) ht hd he hI hz' hpos h0 h1 h2
      refine ⟨_,_,_,w',by rw [h4,h5];exact hrun,hh,e1,e2,e3,?_,fun G' h' hι=>?_⟩
      · have:=z462 (G:=G) (h:=hp w) (l:=none) (n:=n.toNat) (z:=ei.zero)
        rw [hz'] at this
        rw [z74] at this ⊢
        intro i e hie
        obtain ⟨h6,h7⟩:=this i e hie
        refine ⟨h6,z70.2 fun j y hy=>?_⟩
        obtain ⟨v,hv1,hv2⟩:=z70.1 h7 j y hy
        refine ⟨v,?_,hv2⟩
        have:=(Array.getElem?_eq_some_iff.1 hv1).1
        rw [Array.getElem?_append,if_pos this];exact hv1
      · simp only [V]
        refine ⟨nc,hnc,.inr ⟨_,_,_,hι,?_,by simp⟩⟩
        rw [Array.size_append,z294,hrest,hz',Nat.zero_add,← Nat.add_mul]
        exact Nat.mul_le_mul_right _ (by omega))
  · exact h.elim
def vcCap (ti:Option TyI) (x:AC) (K:OpK):Prop:=z76 (z497 ti) (match x with
 |.raw (.slice _ _ n)=>K (.int n) []
 |_=>False)
theorem z1107 {x:Operand} {t:TypeId} (hT:z135 P T) (h:vcCap (T t) (st.ev x) K):z108 P st ⟨dst,.call ⟨.builtin .cap,#[x],#[t]⟩,type,pos,after,guard⟩ K:=by
 unfold vcCap at h
 obtain ⟨hi,h⟩:=z32 h
 obtain ⟨e,he⟩:=z464 hT hi
 split at h
 ·rename_i a l n hx
  refine z84 (fun ρ=>Builtin.cap_ #[t] type #[ρ x]) (fun ρ=>by simp [execOp,resolve,invoke,Go.builtin,go_sem]) h fun G a w hxs=>?_
  have h1:=hxs x (by simp [Op.operands,Call.operands])
  rw [hx,z103] at h1
  exact ⟨_,by rw [h1];simp [Builtin.cap_,z59 he,goInt,go_sem];rfl,by simp [V]⟩
 ·exact h.elim
end Go.Gl
namespace Go.Gl
variable {P:Program} {T:Tab} {dst:Option Tmp} {type:TypeId} {pos:String} {after:Array Edge} {guard:Option (Nat×Bool)} {st:St} {K:OpK}
def z503 (t:Option TyI) (K:TyI→Prop):Prop:=match t with
 |some i=>K i
 |none=>False
theorem z145 {t:TypeId} {K:TyI→Prop} (hT:z135 P T) (h:z503 (T t) K):∃ i,TyOk P t i∧K i:=by
 unfold z503 at h
 split at h
 ·rename_i i hi;exact ⟨i,hT _ _ hi,h⟩
 ·exact h.elim
def mget:List (List Int×Int)→List Int→Option Int
 |[],_=>none
 |p::es,k=>if k=p.1 then some p.2 else mget es k
def mput:List (List Int×Int)→List Int→Int→List (List Int×Int)
 |[],k,n=>[(k,n)]
 |p::es,k,n=>if k=p.1 then (k,n)::es else p::mput es k n
def KeyT (P:Program) (k:TypeId):Nat→Prop
 |0=>P.underlying k=some (.int .i64)
 |n + 1 => P.underlying k = some (.struct (P.fieldsOf k)) ∧ (P.fieldsOf k).size = kLen (n + 1) ∧ (∀ (i : Nat) (f : Field), (P.fieldsOf k).toList[i]? = some f → f.name ≠ "_" ∧ f.offset = i ∧ P.underlying f.type = some (.int .i64)) ∧ P.stoodInHeld k = false
theorem z694 {l:List Int} (h:l.length=1):∃ a,l=[a]∧keyV 0 l=.int .i64 a:=by
 obtain ⟨a,rfl⟩:=List.length_eq_one_iff.1 h
 exact ⟨a,rfl,rfl⟩
theorem z313 {w:World} {e:TypeId} {xs:Array Value} {off:Nat} {v:Value} (h:P.underlying e=some (.int .i64)) (hx:xs[off]?=some v):(part e xs off).run P w=.ok v w:=by
 simp only [part,Sem.run_bind,z396 h,aggB,Result.andThen,hx]
 rfl
theorem z300 {w:World} {e:TypeId} {a:Int} {n:Nat} {em:Bool} (h:P.underlying e=some (.int .i64)):(Instr.checkKey em (n+1) e (.int .i64 a)).run P w=.ok () w:=by
 unfold Instr.checkKey
 simp only [Sem.run_bind,z59 h,Result.andThen]
 rfl
theorem z496 {l:List Int} {i:Nat} (h:i < l.length):(l.map (Value.int .i64)).toArray[i]?=some (.int .i64 l[i]):=by
 simp [h]
theorem z281 {w:World} {k:TypeId} {d:Nat} (hk:KeyT P k d) {l:List Int} (hl:l.length=kLen d) (em:Bool):(Instr.checkKey em 10000 k (keyV d l)).run P w=.ok () w:=by
 cases d with
 |zero =>
  obtain ⟨a,rfl,h⟩:=z694 hl
  rw [h];exact z300 hk
 |succ d =>
  obtain ⟨h1,h2,h3,_⟩:=hk
  show (Instr.checkKey em (9999+1) k (.agg (l.map (Value.int .i64)).toArray)).run P w=_
  unfold Instr.checkKey
  simp only [Sem.run_bind,z59 h1,Result.andThen]
  rw [← Array.forIn_toList]
  have key : ∀ (L : List Field) (j : Nat), (∀ (i : Nat) (f : Field), L[i]? = some f → f.name ≠ "_" ∧ f.offset = j + i ∧ P.underlying f.type = some (.int .i64)) → j + L.length = l.length →
    (forIn L PUnit.unit fun f _ => (if f.name ≠ "_" then do
     Instr.checkKey em 9999 f.type (← part f.type (l.map (Value.int .i64)).toArray f.offset)
     pure (ForInStep.yield PUnit.unit)
    else pure (ForInStep.yield PUnit.unit):Sem (ForInStep PUnit))).run P w=.ok PUnit.unit w:=by
   intro L
   induction L with
   |nil=>intro j _ _;rfl
   |cons f L ih =>
    intro j hL hj
    obtain ⟨g1,g2,g3⟩:=hL 0 f (by simp)
    simp only [y55] at hj
    have g4:(part f.type (l.map (Value.int .i64)).toArray f.offset).run P w=.ok (.int .i64 (l[j]'(by omega))) w:=by
     rw [g2];exact z313 g3 (z496 (by omega))
    rw [List.forIn_cons,if_pos g1]
    simp only [Sem.run_bind,g4,Result.andThen,z300 g3 (n:=9998),Sem.run_pure]
    exact ih (j+1) (fun i f' hf=>by
     have:=hL (i+1) f' (by simpa using hf)
     rwa [show j+(i+1)=j+1+i by omega] at this) (by omega)
  have h5:=key (P.fieldsOf k).toList 0 (fun i f hf=>by rw [Nat.zero_add];exact h3 i f hf) (by simp [h2,hl])
  simp only [Array.forIn_toList] at h5 ⊢
  simp at h5 ⊢
  rw [h5]
theorem z397 {w : World} {a b : List Int} (hab : a.length = b.length) : ∀ (L : List Field) (j : Nat), (∀ (i : Nat) (f : Field), L[i]? = some f → f.name ≠ "_" ∧ f.offset = j + i ∧ P.underlying f.type = some (.int .i64)) → j + L.length = a.length →
    (Op.eqFields 9999 (a.map (Value.int .i64)).toArray (b.map (Value.int .i64)).toArray L).run P w=.ok (decide (a.drop j=b.drop j)) w
  | [],j,_,hj=>by
    simp only [y56] at hj
    rw [y81 (by omega),y81 (by omega)]
    rfl
  | f::L,j,hL,hj=>by
    simp only [y55] at hj
    obtain ⟨g1,g2,g3⟩:=hL 0 f (by simp)
    have ih := z397 (w := w) hab L (j + 1) (fun i f' hf => by
          have:=hL (i+1) f' (by simpa using hf)
          rwa [show j+(i+1)=j+1+i by omega] at this) (by omega)
    have ha:j < a.length:=by omega
    have hb:j < b.length:=by omega
    have he:(Op.equalIn 9999 f.type (.int .i64 a[j]) (.int .i64 b[j])).run P w=.ok (a[j] == b[j]) w:=by
      show (Op.equalIn (9998+1) f.type (.int .i64 a[j]) (.int .i64 b[j])).run P w=_
      unfold Op.equalIn
      simp only [Sem.run_bind,z59 g3,Result.andThen]
      simp [go_sem]
    have hd:decide (a.drop j=b.drop j)=if (!(a[j] == b[j]))=true then false else decide (a.drop (j+1)=b.drop (j+1)):=by
      have e1:=y77 ha
      have e2:=y77 hb
      have e3:(a.drop j=b.drop j)↔(a[j]=b[j]∧a.drop (j+1)=b.drop (j+1)):=by rw [e1,e2,List.cons.injEq]
      by_cases h:a[j]=b[j]
      · by_cases h2:a.drop (j+1)=b.drop (j+1)
        · rw [y79 (e3.2 ⟨h,h2⟩),if_neg (by simp [h]),y79 h2]
        · rw [y80 (fun e=>h2 (e3.1 e).2),if_neg (by simp [h]),y80 h2]
      · rw [y80 (fun e=>h (e3.1 e).1),if_pos (by simp [h])]
    have p1:(part f.type (a.map (Value.int .i64)).toArray f.offset).run P w=.ok (.int .i64 a[j]) w:=by
      rw [g2];exact z313 g3 (z496 ha)
    have p2:(part f.type (b.map (Value.int .i64)).toArray f.offset).run P w=.ok (.int .i64 b[j]) w:=by
      rw [g2];exact z313 g3 (z496 hb)
    rw [hd]
    simp only [Op.eqFields,if_pos g1,Sem.run_bind,p1,p2,Result.andThen,he]
    split
    · rfl
    · exact ih
theorem z612 {w:World} {k:TypeId} {d:Nat} (hk:KeyT P k (d+1)) {a b:List Int} (ha:a.length=kLen (d+1)) (hb:b.length=kLen (d+1)):(Op.equal k (keyV (d+1) a) (keyV (d+1) b)).run P w=.ok (decide (a=b)) w:=by
 obtain ⟨h1,h2,h3,h4⟩:=hk
 show (Op.equalIn (9999+1) k (.agg (a.map (Value.int .i64)).toArray) (.agg (b.map (Value.int .i64)).toArray)).run P w=_
 rw [run_equalIn_struct w 9999 k _ _ h1 h4]
 have:=z397 (P:=P) (w:=w) (a:=a) (b:=b) (by omega) (P.fieldsOf k).toList 0 (fun i f hf=>by rw [Nat.zero_add];exact h3 i f hf) (by simp [h2,ha])
 simpa using this
def FindOk (d:Nat) (es:List (List Int×Int)) (key:List Int) (i:Nat) (r:Option (Nat×Value)):Prop :=
 (r=none∧mget es key=none∧∀ n,mput es key n=es++[(key,n)])∨∃ j v,r=some (i+j,valV d v)∧mget es key=some v∧es[j]?=some (key,v)∧∀ n,mput es key n=es.set j (key,n)
theorem FindOk.cons {d:Nat} {p:List Int×Int} {es:List (List Int×Int)} {key:List Int} {i:Nat} {r:Option (Nat×Value)} (hp:key≠p.1) (h:FindOk d es key (i+1) r):FindOk d (p::es) key i r:=by
 rcases h with ⟨h1,h2,h3⟩|⟨j,v,h1,h2,h3,h4⟩
 ·exact .inl ⟨h1,by rw [mget,if_neg hp];exact h2,fun n=>by rw [mput,if_neg hp,h3];rfl⟩
 ·exact .inr ⟨j+1,v,by rw [h1];congr 2;omega,by rw [mget,if_neg hp];exact h2,by simpa using h3,fun n=>by rw [mput,if_neg hp,h4];rfl⟩
theorem MapRel.cons {d:Nat} {es:List (List Int×Int)} {e:MapEntry} {c:List MapEntry} (h:MapRel d es (e::c)):∃ p es',es=p::es'∧e.key=keyV d p.1∧e.val=valV d p.2∧p.1.length=kLen d∧MapRel d es' c:=by
 obtain ⟨h1,h2⟩:=h
 cases es with
 |nil=>simp at h1
 |cons p es =>
  simp only [List.map_cons,List.cons.injEq,Prod.mk.injEq] at h1
  exact ⟨p,es,rfl,h1.1.1,h1.1.2,h2 p (by simp),h1.2,fun q hq=>h2 q (by simp [hq])⟩
theorem MapRel.nil' {d:Nat} {es:List (List Int×Int)} (h:MapRel d es []):es=[]:=by
 have:=h.1
 simpa using this.symm
theorem z562 {key:List Int} (hl:key.length=1):∀ (c:List MapEntry) (es:List (List Int×Int)) (i:Nat),MapRel 0 es c→∃ r,Instr.findNow (.int .i64) (keyV 0 key) c i=some r∧FindOk 0 es key i r
 |[],es,i,h=>by
  rw [h.nil']
  exact ⟨none,rfl,.inl ⟨rfl,rfl,fun n=>rfl⟩⟩
 |e::c,es,i,h=>by
  obtain ⟨p,es',rfl,h1,h2,h3,h4⟩:=h.cons
  obtain ⟨a,rfl,ha⟩:=z694 hl
  obtain ⟨b,hb,hb'⟩:=z694 (l:=p.1) h3
  have hs:Instr.sameNow (.int .i64) (keyV 0 [a]) e.key=some (a == b):=by
   rw [h1,ha,hb'];simp [Instr.sameNow]
  by_cases hab:a=b
  ·subst hab
   refine ⟨some (i,e.val),by simp [Instr.findNow,hs],.inr ⟨0,p.2,by rw [h2];rfl,by rw [mget,if_pos hb.symm],by rw [← hb];simp,fun n=>by rw [mput,if_pos hb.symm];rfl⟩⟩
  ·obtain ⟨r,hr,hf⟩:=z562 hl c es' (i+1) h4
   have hab' : (a == b)=false:=by simpa using hab
   rw [hab'] at hs
   refine ⟨r,by simp [Instr.findNow,hs,hr],FindOk.cons (by rw [hb];simpa using hab) hf⟩
theorem z614 {w : World} {k : TypeId} {d : Nat} (hk : KeyT P k (d + 1)) {key : List Int} (hl : key.length = kLen (d + 1)) : ∀ (c : List MapEntry) (es : List (List Int × Int)) (i : Nat), MapRel (d + 1) es c →
  ∃ r,(Instr.findAsking k (keyV (d+1) key) c i).run P w=.ok r w∧FindOk (d+1) es key i r
 |[],es,i,h=>by
  rw [h.nil']
  exact ⟨none,rfl,.inl ⟨rfl,rfl,fun n=>rfl⟩⟩
 |e::c,es,i,h=>by
  obtain ⟨p,es',rfl,h1,h2,h3,h4⟩:=h.cons
  have he:=z612 (w:=w) hk hl (b:=p.1) h3
  rw [← h1] at he
  by_cases hab:key=p.1
  ·rw [y79 hab] at he
   refine ⟨some (i,e.val),by simp [Instr.findAsking,he,Result.andThen],.inr ⟨0,p.2,by rw [h2];rfl,by rw [mget,if_pos hab],by rw [hab];simp,fun n=>by rw [mput,if_pos hab];rfl⟩⟩
  ·obtain ⟨r,hr,hf⟩:=z614 (w:=w) hk hl c es' (i+1) h4
   rw [y80 hab] at he
   exact ⟨r,by simp [Instr.findAsking,he,Result.andThen,hr],FindOk.cons hab hf⟩
theorem z747 {w : World} {k : TypeId} {d : Nat} (hk : KeyT P k d) {key : List Int} (hl : key.length = kLen d) {c : List MapEntry} {es : List (List Int × Int)} (h : MapRel d es c) :
    ∃ r,(Instr.findKey k (keyV d key) c).run P w=.ok r w∧FindOk d es key 0 r:=by
  cases d with
  | zero =>
    obtain ⟨r,hr,hf⟩:=z562 hl c es 0 h
    exact ⟨r,by simp only [Instr.findKey,Sem.run_bind,z59 (show P.underlying k=some (.int .i64) from hk),Result.andThen,hr];rfl,hf⟩
  | succ d =>
    obtain ⟨r,hr,hf⟩:=z614 (w:=w) hk hl c es 0 h
    refine ⟨r,?_,hf⟩
    simp only [Instr.findKey,Sem.run_bind,z59 hk.1,Result.andThen]
    cases c with
    | nil =>
      rw [← hr];rfl
    | cons e c =>
      have:Instr.findNow (.struct (P.fieldsOf k)) (keyV (d+1) key) (e::c) 0=none:=rfl
      rw [this];exact hr
theorem z1006 {w:World} {d:Nat} {l:List Int} : (Instr.keyThatStays (keyV d l) (keyV d l)).run P w=.ok (keyV d l) w:=by
 have:Instr.sameBits 10000 (keyV d l) (keyV d l)=true:=by
  cases d with
  |zero=>simp [keyV,Instr.sameBits]
  |succ d =>
   show Instr.sameBits (9999+1) (.agg (l.map (Value.int .i64)).toArray) (.agg (l.map (Value.int .i64)).toArray)=true
   simp only [Instr.sameBits,beq_self_eq_true,Bool.true_and,y76]
   intro p hp
   obtain ⟨i,hi,e⟩:=List.getElem_of_mem hp
   rw [List.getElem_zip] at e
   rw [← e]
   simp [Instr.sameBits]
 simp [Instr.keyThatStays,this]
theorem Wf.pushM {G : Ghost} {objs : Nat → AObj} {w w' : World} (h : Wf G objs w) {o d clock : Nat} (ho : objs o = .fresh)
    (hh:w'.heap=w.heap.push (.map #[] clock)):Wf (G.push o w.heap.size 0 0) (upd objs o (.mp d [])) w':=by
  have hio:G.ι o=none:=by have:=h.objs o;rw [ho] at this;exact this
  have hlt:∀ b x,w.heap[b]?=some x→b < w.heap.size:=fun b x e=>by
    rcases y67 b w.heap.size with hl|hl
    · exact hl
    · rw [Array.getElem?_eq_none hl] at e;cases e
  have hold:∀ b x,w.heap[b]?=some x→w'.heap[b]?=some x:=fun b x e=>by
    rw [z170 hh,if_neg (Nat.ne_of_lt (hlt b x e))];exact e
  have hι:=y9 (b:=w.heap.size) (size:=0) (wd:=0) hio
  have hκ:∀ b p,G.κ b=some p→(G.push o w.heap.size 0 0).κ b=some p∧hp w' b=hp w b:=fun b p e=>by
    have:=(h.sk b p e).2.2
    refine ⟨by simp only [Ghost.push,z52 _ _ (Nat.ne_of_lt this),e],?_⟩
    simp only [hp,z170 hh,if_neg (Nat.ne_of_lt this)]
  refine ⟨fun b x e=>hold b x (h.hS b x e),fun b x e=>hold b x (h.hU b x e),h.su,fun b p e=>?_,fun o'=>?_⟩
  · by_cases hb:b=w.heap.size
    · subst hb
      refine ⟨?_,?_,by rw [hh];simp⟩
      · cases hs:G.S w.heap.size with
        | none=>simpa [Ghost.push] using hs
        | some x=>exact absurd (hlt _ _ (h.hS _ _ hs)) (Nat.lt_irrefl _)
      · cases hs:G.U w.heap.size with
        | none=>simpa [Ghost.push] using hs
        | some x=>exact absurd (hlt _ _ (h.hU _ _ hs)) (Nat.lt_irrefl _)
    · simp only [Ghost.push,z52 _ _ hb] at e
      obtain ⟨h1,h2,h3⟩:=h.sk b p e
      exact ⟨h1,h2,by rw [hh];simp;omega⟩
  · by_cases hoo:o'=o
    · subst hoo
      rw [z36]
      exact ⟨w.heap.size,0,0,#[],clock,by simp [Ghost.push,z36],by simp [Ghost.push,z36],by simp [hp,z170 hh],rfl,by simp⟩
    · rw [z52 _ _ hoo]
      have:=h.objs o'
      cases hob:objs o' with
      | fresh=>rw [hob] at this;simpa [ObjRel,Ghost.push,z52 _ _ hoo] using this
      | dead=>trivial
      | mp d es' =>
        rw [hob] at this
        obtain ⟨b,size,wx,c',ck,h1,h2,h3,h4⟩:=this
        obtain ⟨hk1,hk2⟩:=hκ b _ h2
        exact ⟨b,size,wx,c',ck,hι _ _ h1,hk1,by rw [hk2];exact h3,h4⟩
      | cells wd' es' =>
        rw [hob] at this
        rcases this with ⟨h1,h2⟩|⟨b,size,c',el',h1,h2,h3,h4,h5⟩
        · exact .inl ⟨h1,by simpa [Ghost.push,z52 _ _ hoo] using h2⟩
        · obtain ⟨hk1,hk2⟩:=hκ b _ h2
          refine .inr ⟨b,size,c',el',hι _ _ h1,hk1,by rw [hk2];exact h3,h4,?_⟩
          have:=z190 es' G (G.push o w.heap.size 0 0) (hp w) (hp w') id (fun _=>True) y8 hι (fun _ _ _=>rfl) (fun _ _ _ h=>h) (fun b p _ e=>hκ b p e) _ wd' c' 0 (fun _ _ _=>trivial) h5
          simpa using this
theorem Wf.storeM {G : Ghost} {objs : Nat → AObj} {w : World} (h : Wf G objs w) {o b : Nat} {size wd d ck : Nat} {c : Array MapEntry} {es : List (List Int × Int)}
    (hι:G.ι o=some (b,size,wd)) (hκ:G.κ b=some (o,[])) (hc:MapRel d es c.toList):Wf G (upd objs o (.mp d es)) (World.setObj w b (.map c ck)):=by
  obtain ⟨hS,hU,hlt⟩:=h.sk b _ hκ
  have hother:∀ b',b'≠b→(World.setObj w b (.map c ck)).heap[b']?=w.heap[b']?:=fun b' hne=>by
    simp [World.setObj,Ne.symm hne]
  have hthis:(World.setObj w b (.map c ck)).heap[b]?=some (.map c ck):=by
    simp [World.setObj,hlt]
  have hmove:∀ b' p,p≠(o,[])→G.κ b'=some p→G.κ b'=some (id p)∧hp (World.setObj w b (.map c ck)) b'=hp w b':=fun b' p hp' e=>by
    refine ⟨e,hother b' ?_⟩
    rintro rfl
    rw [hκ] at e;cases e;exact hp' rfl
  refine ⟨fun b' x e=>?_,fun b' x e=>?_,h.su,fun b' p e=>?_,fun o'=>?_⟩
  · have:b'≠b:=by rintro rfl;rw [hS] at e;cases e
    rw [hother b' this];exact h.hS b' x e
  · have:b'≠b:=by rintro rfl;rw [hU] at e;cases e
    rw [hother b' this];exact h.hU b' x e
  · obtain ⟨h1,h2,h3⟩:=h.sk b' p e
    exact ⟨h1,h2,by simpa [World.setObj] using h3⟩
  · by_cases hoo:o'=o
    · subst hoo
      rw [z36]
      exact ⟨b,size,wd,c,ck,hι,hκ,hthis,hc⟩
    · rw [z52 _ _ hoo]
      have:=h.objs o'
      cases hob:objs o' with
      | fresh=>rw [hob] at this;exact this
      | dead=>trivial
      | mp d es'' =>
        rw [hob] at this
        obtain ⟨b2,size2,wx,c2,ck2,h1,h2,h3,h4⟩:=this
        have hne:b2≠b:=by rintro rfl;rw [hκ] at h2;cases h2;exact hoo rfl
        exact ⟨b2,size2,wx,c2,ck2,h1,h2,by simpa only [hp,hother b2 hne] using h3,h4⟩
      | cells wd' es'' =>
        rw [hob] at this
        rcases this with ⟨h1,h2⟩|⟨b2,size2,c2,el2,h1,h2,h3,h4,h5⟩
        · exact .inl ⟨h1,h2⟩
        · have hne:b2≠b:=by rintro rfl;rw [hκ] at h2;cases h2;exact hoo rfl
          refine .inr ⟨b2,size2,c2,el2,h1,h2,by simpa only [hp,hother b2 hne] using h3,h4,?_⟩
          have:=z190 es'' G G (hp w) (hp (World.setObj w b (.map c ck))) id (fun p=>p.1=o') (fun _ _ e=>e) (fun _ _ e=>e) (fun _ _ _=>rfl) (fun _ _ _ h=>h)
            (fun b' p hD e=>hmove b' p (by rintro rfl;exact hoo hD.symm) e) (some (o',[])) wd' c2 0 (fun p hp' _=>by cases hp';rfl) h5
          simpa using this
def z511 (d:Nat) (st:St) (K:OpK):Prop :=
 match st.objs st.next with
 |.fresh=>z233 st.next fun q=>K (.mref q) [⟨q,.fresh,.mp d []⟩]
 |_=>False
theorem z662 {t:TypeId} {d:Nat} (h:z511 d st K):z108 P st ⟨dst,.makeMap t none,type,pos,after,guard⟩ K:=by
 unfold z511 at h
 split at h
 ·rename_i hf
  rw [z116] at h
  refine ⟨_,_,⟨fun Q K' G st' a w hR hrd hfp hd hK=>?_⟩,by simp [hf,z132],h⟩
  have hq:st'.objs st.next=.fresh:=hfp _ (List.mem_singleton.2 rfl)
  have hio:G.ι st.next=none:=by have:=hR.wf.objs st.next;rw [hq] at this;exact this
  have hh:(w.alloc (.map #[] 0)).heap=w.heap.push (.map #[] 0):=rfl
  refine wp_v (s:=Instr.makeMap t none) (v:=.map (some w.heap.size)) (w':=w.alloc (.map #[] 0)) rfl (by simp [Instr.makeMap,Result.andThen]) ?_
  refine hK (G.push st.next w.heap.size 0 0) _ _ ⟨y8,rfl⟩ (y9 hio) ⟨rfl,rfl,rfl,by simp [hh]⟩ ⟨hR.wf.pushM hq hh,?_,by rw [z203];exact hR.size,by rw [z146];exact hR.defers.mono y8⟩
  refine z292 hd hR.size (fun s=>z149 y8 (y9 hio) (hR.env s)) ?_
  simp only [V]
  exact ⟨w.heap.size,0,0,by simp [Ghost.push,z36],rfl⟩
 ·exact h.elim
def intsK (cs:List AC) (K:List Int→Prop):Prop:=match cs with
 |[]=>K []
 |.raw (.int .i64 a)::cs=>intsK cs fun l=>K (a::l)
 |_=>False
theorem z1040 {cs:List AC} {K:List Int→Prop} (h:intsK cs K):∃ l,K l∧cs=l.map AC.int:=by
 induction cs generalizing K with
 |nil=>exact ⟨[],h,rfl⟩
 |cons c cs ih =>
  unfold intsK at h
  split at h
  ·rename_i heq;cases heq
  ·rename_i a cs' heq
   cases heq
   obtain ⟨l,h1,h2⟩:=ih h
   exact ⟨a::l,h1,by rw [h2];rfl⟩
  ·exact h.elim
def keyK (P:Program) (k:TypeId) (d:Nat) (x:AC) (K:List Int→Prop):Prop:=match d with
 |0=>match x with
  |.raw (.int .i64 a)=>K [a]
  |_=>False
 |n+1=>KeyT P k (n+1)∧match x with
  |.agg cs=>intsK cs fun l=>z76 (Nat.beq l.length (kLen (n+1))) (K l)
  |_=>False
theorem z264 {k:TypeId} {d:Nat} {x:AC} {K:List Int→Prop} (h0:d=0→KeyT P k 0) (h:keyK P k d x K):KeyT P k d∧∃ l,K l∧l.length=kLen d∧∀ (G:Ghost) (hh:Nat→Option Obj) (v:Value),V G hh none x v→v=keyV d l:=by
 unfold keyK at h
 split at h
 ·split at h
  ·rename_i a
   exact ⟨h0 rfl,[a],h,rfl,fun G hh v hv=>by rw [z103] at hv;exact hv⟩
  ·exact h.elim
 ·rename_i n
  obtain ⟨hk,h⟩:=h
  split at h
  ·obtain ⟨l,h1,rfl⟩:=z1040 h
   obtain ⟨h2,h3⟩:=z32 h1
   refine ⟨hk,l,h3,Nat.eq_of_beq_eq_true h2,fun G hh v hv=>?_⟩
   simp only [V] at hv
   obtain ⟨c,rfl,hc,hv⟩:=hv
   show _=Value.agg _
   congr 1
   apply Array.ext_getElem?
   intro j
   by_cases hj:j < l.length
   ·obtain ⟨v,h4,h5⟩:=z70.1 hv j (AC.int l[j]) (by simp [hj])
    rw [z103] at h5
    rw [Nat.zero_add] at h4
    rw [h4,h5,z496 hj]
   ·rw [Array.getElem?_eq_none (by simp at hc;omega),Array.getElem?_eq_none (by simp;omega)]
  ·exact h.elim
def boolE (t:Option TyI):Bool:=match t with
 |some i=>match i.desc with
  |.bool=>true
  |_=>false
 |none=>false
def z504 (T:Tab) (t:TypeId) (K:TypeId→TypeId→Nat→Prop):Prop:=match T t with
 |some i=>match i.desc with
  |.map k e=>match T k with
   |some ki=>match ki.desc with
    |.int .i64=>K k e 0
    |.struct fs=>match boolE (T e) with
     |true=>z76 (Nat.ble fs.size 900) (z233 (64+fs.size) (K k e))
     |false=>z76 (Nat.blt 0 fs.size) (z233 fs.size (K k e))
    |_=>False
   |none=>False
  |_=>False
 |none=>False
theorem z305 {t:TypeId} {K:TypeId→TypeId→Nat→Prop} (hT:z135 P T) (h:z504 T t K):∃ k e d,P.underlying t=some (.map k e)∧(d=0→KeyT P k 0)∧K k e d:=by
 unfold z504 at h
 split at h
 ·rename_i i hi
  split at h
  ·rename_i k e hd
   have h1:P.underlying t=some (.map k e):=by rw [(hT _ _ hi).1,hd]
   split at h
   ·rename_i ki hki
    split at h
    ·rename_i hkd
     exact ⟨k,e,0,h1,fun _=>by show P.underlying k=_;rw [(hT _ _ hki).1,hkd],h⟩
    ·rename_i fs hkd
     split at h
     ·obtain ⟨hp,h⟩:=z32 h
      rw [z116] at h
      exact ⟨k,e,64+fs.size,h1,fun h0=>(by omega),h⟩
     ·obtain ⟨hp,h⟩:=z32 h
      rw [z116] at h
      exact ⟨k,e,fs.size,h1,fun h0=>(by rw [h0] at hp;cases hp),h⟩
    ·exact h.elim
   ·exact h.elim
  ·exact h.elim
 ·exact h.elim
def z650 (T:Tab) (P:Program) (k e:TypeId) (d:Nat) (ok:Bool) (st:St) (x ix:AC) (K:OpK):Prop:=match x with
 |.mref o=>match st.objs o with
  |.mp d' es=>z76 (Nat.beq d d') (z503 (T e) fun ei=>match ei.zero with
   |.int .i64 z=>z76 (Nat.ble d 64) (keyK P k d ix fun key=>match ok with
    |true=>K (.tup [.int ((mget es key).getD z),.bool (mget es key).isSome]) [st.rd o]
    |false=>K (.int ((mget es key).getD z)) [st.rd o])
   |.bool b=>z76 (!b && Nat.blt 64 d) (keyK P k d ix fun key=>match ok with
    |true=>False
    |false=>K (.bool (decide ((mget es key).getD 0≠0))) [st.rd o])
   |_=>False)
  |_=>False
 |_=>False
theorem Wf.map {G : Ghost} {objs : Nat → AObj} {w : World} (h : Wf G objs w) {o d : Nat} {es : List (List Int × Int)} (ho : objs o = .mp d es) :
    ∃ b size wd c ck,G.ι o=some (b,size,wd)∧G.κ b=some (o,[])∧w.heap[b]?=some (.map c ck)∧MapRel d es c.toList:=by
  have:=h.objs o
  rw [ho] at this
  exact this
theorem z827 {G:Ghost} {h:Nat→Option Obj} {l:Loc} {o:Nat} {v:Value} {b s wd:Nat} (hv:V G h l (.mref o) v) (hι:G.ι o=some (b,s,wd)):v=.map (some b):=by
 simp only [V] at hv
 obtain ⟨b',s',w',h1,h2⟩:=hv
 rw [hι] at h1;cases h1;exact h2
theorem z280 {w:World} {r ck:Nat} {c:Array MapEntry} (hb:w.heap[r]?=some (.map c ck)):(getObj r).run P w=.ok (.map c ck) w:=by
 simp [getObj,Sem.run,hb]
theorem z527 {w : World} {t k e : TypeId} {d b ck : Nat} {c : Array MapEntry} {es : List (List Int × Int)} {ei : TyI} {z : Int} {key : List Int} {ok : Bool} (ht : P.underlying t = some (.map k e)) (hk : KeyT P k d) (he : TyOk P e ei) (hz : ei.zero = valV d z)
    (hb:w.heap[b]?=some (.map c ck)) (hc:MapRel d es c.toList) (hl:key.length=kLen d) :
    (Instr.lookup t (.map (some b)) (keyV d key) ok).run P w=.ok (if ok then .tuple #[valV d ((mget es key).getD z),.bool (mget es key).isSome] else valV d ((mget es key).getD z)) w:=by
  obtain ⟨r,hr,hf⟩:=z747 (w:=w) hk hl hc
  obtain ⟨j,hj1,_,_,hj2⟩:=he.2
  have hzv:(zeroValue e).run P w=.ok (valV d z) w:=z166 hj1 (by rw [hj2,hz])
  simp only [Instr.lookup,Sem.run_bind,z59 ht,Result.andThen,z280 hb,Sem.run_pure,z281 hk hl,hr]
  rcases hf with ⟨rfl,h2,_⟩|⟨j,v,rfl,h2,_,_⟩
  · simp only [Sem.run_bind,hzv,Result.andThen,Sem.run_pure,h2]
    rfl
  · simp only [Sem.run_pure,h2]
    rfl
theorem z739 (hT : z135 P T) {t k e : TypeId} {d : Nat} {x ix : Operand} {ok : Bool} (ht : P.underlying t = some (.map k e)) (h0 : d = 0 → KeyT P k 0) (h : z650 T P k e d ok st (st.ev x) (st.ev ix) K) :
    z108 P st ⟨dst,.lookup t x ix ok,type,pos,after,guard⟩ K:=by
  unfold z650 at h
  split at h
  · rename_i o hx
    split at h
    · rename_i d' es hob
      obtain ⟨hd,h'⟩:=z32 h
      clear h
      obtain rfl:=Nat.eq_of_beq_eq_true hd
      have h:=h'
      obtain ⟨ei,hei,h⟩:=z145 hT h
      split at h
      · rename_i z hz
        obtain ⟨hd64,h⟩:=z32 h
        have hd64:=Nat.le_of_ble_eq_true hd64
        obtain ⟨hk,key,h,hl,hv⟩:=z264 h0 h
        have hz:ei.zero=valV d z:=by rw [hz];unfold valV;rw [if_pos hd64]
        have run : ∀ (res : AC), (∀ (G : Ghost) (hh : Nat → Option Obj), V G hh none res (if ok then .tuple #[.int .i64 ((mget es key).getD z), .bool (mget es key).isSome] else .int .i64 ((mget es key).getD z))) → K res [st.rd o] →
            z108 P st ⟨dst,.lookup t x ix ok,type,pos,after,guard⟩ K:=by
          intro res hres hk'
          refine ⟨res,[st.rd o],OpT.val (fun ρ=>Instr.lookup t (ρ x) (ρ ix) ok) (fun _=>rfl) (by simp [St.rd]) (fun G objs a w hW hfp hxs=>?_),by simp [St.rd],hk'⟩
          have h1:=hxs x (by simp [Op.operands])
          have h2:=hxs ix (by simp [Op.operands])
          rw [hx] at h1
          obtain ⟨b,size,wd,c,ck,g1,g2,g3,g4⟩:=hW.map (o:=o) (d:=d) (es:=es) (by have:=hfp _ (List.mem_singleton.2 rfl);simpa [St.rd,hob] using this)
          refine ⟨_,?_,hres G _⟩
          rw [z827 h1 g1,hv _ _ _ h2]
          have:=z527 (ok:=ok) ht hk hei hz g3 g4 hl
          rw [this]
          unfold valV
          rw [if_pos hd64]
        cases ok with
        | true =>
          refine run _ (fun G hh=>?_) h
          simp only [V,if_true]
          exact ⟨_,rfl,by simp,by simp [VL,V]⟩
        | false=>exact run _ (fun G hh=>by simp [V]) h
      · rename_i zb hz
        obtain ⟨hg,hh⟩:=z32 h
        clear h
        rw [y68] at hg
        obtain ⟨hzb,hd64⟩:=hg
        have hd64:=Nat.le_of_ble_eq_true hd64
        obtain rfl:zb=false:=by simpa using hzb
        obtain ⟨hk,key,h,hl,hv⟩:=z264 h0 hh
        have hz:ei.zero=valV d 0:=by rw [hz];unfold valV;rw [if_neg (by omega)];rfl
        cases ok with
        | true=>exact h.elim
        | false =>
          refine ⟨_,[st.rd o],OpT.val (fun ρ=>Instr.lookup t (ρ x) (ρ ix) false) (fun _=>rfl) (by simp [St.rd]) (fun G objs a w hW hfp hxs=>?_),by simp [St.rd],h⟩
          have h1:=hxs x (by simp [Op.operands])
          have h2:=hxs ix (by simp [Op.operands])
          rw [hx] at h1
          obtain ⟨b,size,wd,c,ck,g1,g2,g3,g4⟩:=hW.map (o:=o) (d:=d) (es:=es) (by have:=hfp _ (List.mem_singleton.2 rfl);simpa [St.rd,hob] using this)
          refine ⟨.bool (decide ((mget es key).getD 0≠0)),?_,by rw [z103]⟩
          rw [z827 h1 g1,hv _ _ _ h2]
          have hvv:∀ n,valV d n=.bool (decide (n≠0)):=fun n=>by unfold valV;rw [if_neg (by omega)]
          have:=z527 (ok:=false) ht hk hei hz g3 g4 hl
          rw [this,hvv]
          rfl
      · exact h.elim
    · exact h.elim
  · exact h.elim
def z374 (P:Program) (k:TypeId) (d:Nat) (st:St) (x ix v:AC) (K:OpK):Prop:=match x with
 |.mref o=>match st.objs o with
  |.mp d' es=>z76 (Nat.beq d d') (match v with
   |.raw (.int .i64 n)=>z76 (Nat.ble d 64) (keyK P k d ix fun key=>K .any [⟨o,.mp d es,.mp d (mput es key n)⟩])
   |.raw (.bool b)=>z76 (b && Nat.blt 64 d) (keyK P k d ix fun key=>K .any [⟨o,.mp d es,.mp d (mput es key 1)⟩])
   |_=>False)
  |_=>False
 |_=>False
theorem MapRel.push {d : Nat} {es : List (List Int × Int)} {c : Array MapEntry} {key : List Int} {n : Int} {ck : Nat} (h : MapRel d es c.toList) (hl : key.length = kLen d) :
    MapRel d (es++[(key,n)]) (c.push ⟨keyV d key,valV d n,ck⟩).toList:=by
  obtain ⟨h1,h2⟩:=h
  refine ⟨by simp [h1],fun p hp=>?_⟩
  rcases List.mem_append.1 hp with hp|hp
  · exact h2 p hp
  · rw [List.mem_singleton.1 hp];exact hl
theorem MapRel.modify {d j : Nat} {es : List (List Int × Int)} {c : Array MapEntry} {key : List Int} {n v : Int} (h : MapRel d es c.toList) (hj : es[j]? = some (key, v)) :
    MapRel d (es.set j (key,n)) (c.modify j fun e=>{ e with key:=keyV d key,val:=valV d n }).toList:=by
  obtain ⟨h1,h2⟩:=h
  refine ⟨?_,fun p hp=>?_⟩
  · apply List.ext_getElem?
    intro i
    have hi:=congrArg (fun l=>l[i]?) h1
    have hj':=congrArg (fun l=>l[j]?) h1
    simp only [y48,Array.getElem?_toList] at hi hj'
    simp only [y48,Array.getElem?_toList,Array.getElem?_modify,List.getElem?_set]
    by_cases hij:j=i
    · subst hij
      rw [hj] at hj'
      simp only [Option.map_some,Option.map_eq_some_iff] at hj'
      obtain ⟨e,he,_⟩:=hj'
      rw [if_pos rfl,if_pos rfl,he,if_pos (List.getElem?_eq_some_iff.1 hj).1]
      rfl
    · rw [if_neg hij,if_neg hij];exact hi
  · rcases List.mem_or_eq_of_mem_set hp with hp|rfl
    · exact h2 p hp
    · exact h2 (key,v) (List.mem_of_getElem? hj)
theorem z363 {w : World} {t k e : TypeId} {d b ck : Nat} {c : Array MapEntry} {es : List (List Int × Int)} {key : List Int} {n : Int} (ht : P.underlying t = some (.map k e)) (hk : KeyT P k d)
    (hb:w.heap[b]?=some (.map c ck)) (hc:MapRel d es c.toList) (hl:key.length=kLen d) :
    ∃ c' ck',(Instr.mapUpdate t (.map (some b)) (keyV d key) (valV d n)).run P w=.ok () (World.setObj w b (.map c' ck'))∧MapRel d (mput es key n) c'.toList:=by
  obtain ⟨r,hr,hf⟩:=z747 (w:=w) hk hl hc
  have hset:∀ o,(setObj b o).run P w=.ok () (World.setObj w b o):=fun o=>by simp [setObj,Sem.run,hb,World.setObj]
  rcases hf with ⟨rfl,h2,h3⟩|⟨j,v,rfl,h2,h3,h4⟩
  · refine ⟨c.push ⟨keyV d key,valV d n,ck⟩,ck+1,?_,by rw [h3];exact hc.push hl⟩
    simp only [Instr.mapUpdate,Sem.run_bind,z59 ht,Result.andThen,z280 hb,z281 hk hl,hr,hset]
  · refine ⟨c.modify j fun e=>{ e with key:=keyV d key,val:=valV d n },ck,?_,by rw [h4];exact hc.modify h3⟩
    have hkey:((c[j]?).map (·.key)).getD (keyV d key)=keyV d key:=by
      have h5:=congrArg (fun l=>l[j]?) hc.1
      simp only [y48,Array.getElem?_toList,h3,Option.map_some,Option.map_eq_some_iff,Prod.mk.injEq] at h5
      obtain ⟨e,he,h5,_⟩:=h5
      rw [he];exact h5
    simp only [Instr.mapUpdate,Sem.run_bind,z59 ht,Result.andThen,z280 hb,z281 hk hl,hr,Nat.zero_add,hkey,z1006,hset]
theorem z518 {t k e : TypeId} {d : Nat} {x ix v : Operand} (ht : P.underlying t = some (.map k e)) (h0 : d = 0 → KeyT P k 0) (h : z374 P k d st (st.ev x) (st.ev ix) (st.ev v) K) :
    z108 P st ⟨dst,.mapUpdate t x ix v,type,pos,after,guard⟩ K:=by
  unfold z374 at h
  split at h
  · rename_i o hx
    split at h
    · rename_i d' es hob
      obtain ⟨hd,h'⟩:=z32 h
      clear h
      obtain rfl:=Nat.eq_of_beq_eq_true hd
      have h:=h'
      split at h
      · rename_i n hn
        obtain ⟨hd64,h⟩:=z32 h
        have hd64:=Nat.le_of_ble_eq_true hd64
        obtain ⟨hk,key,h,hl,hv⟩:=z264 h0 h
        refine ⟨_,_,⟨fun Q K' G st' a w hR hrd hfp hd hK=>?_⟩,by simp [hob,z132],h⟩
        have hob2:st'.objs o=.mp d es:=hfp _ (List.mem_singleton.2 rfl)
        obtain ⟨b,size,wd,c,ck,g1,g2,g3,g4⟩:=hR.wf.map hob2
        have h1:=hR.ev x
        rw [z119 (xs:=(Op.mapUpdate t x ix v).operands.toList) (by simp [Op.operands]) hrd,hx] at h1
        have h2:=hR.ev ix
        rw [z119 (xs:=(Op.mapUpdate t x ix v).operands.toList) (by simp [Op.operands]) hrd] at h2
        have h3:=hR.ev v
        rw [z119 (xs:=(Op.mapUpdate t x ix v).operands.toList) (by simp [Op.operands]) hrd,hn,z103] at h3
        obtain ⟨c',ck',hrun,hm⟩:=z363 (n:=n) ht hk g3 g4 hl
        rw [show valV d n=.int .i64 n by unfold valV;rw [if_pos hd64]] at hrun
        refine wp_u (s:=Instr.mapUpdate t (a.eval x) (a.eval ix) (a.eval v)) rfl (by rw [z827 h1 g1,hv _ _ _ h2,h3];exact hrun) ?_
        refine hK G _ _ (Ghost.Sub.refl G) (fun _ _ h=>h) ⟨rfl,rfl,rfl,by simp [World.setObj]⟩ ⟨hR.wf.storeM g1 g2 hm,?_,by rw [z203];exact hR.size,by rw [z146];exact hR.defers⟩
        exact z292 hd hR.size (fun s=>z149 (fun _ _ e=>e) (fun _ _ e=>e) (hR.env s)) (by simp [V])
      · rename_i vb hn
        obtain ⟨hg,hh⟩:=z32 h
        clear h
        rw [y68] at hg
        obtain ⟨rfl,hd64⟩:=hg
        have hd64:=Nat.le_of_ble_eq_true hd64
        obtain ⟨hk,key,h,hl,hv⟩:=z264 h0 hh
        refine ⟨_,_,⟨fun Q K' G st' a w hR hrd hfp hd hK=>?_⟩,by simp [hob,z132],h⟩
        have hob2:st'.objs o=.mp d es:=hfp _ (List.mem_singleton.2 rfl)
        obtain ⟨b,size,wd,c,ck,g1,g2,g3,g4⟩:=hR.wf.map hob2
        have h1:=hR.ev x
        rw [z119 (xs:=(Op.mapUpdate t x ix v).operands.toList) (by simp [Op.operands]) hrd,hx] at h1
        have h2:=hR.ev ix
        rw [z119 (xs:=(Op.mapUpdate t x ix v).operands.toList) (by simp [Op.operands]) hrd] at h2
        have h3:=hR.ev v
        rw [z119 (xs:=(Op.mapUpdate t x ix v).operands.toList) (by simp [Op.operands]) hrd,hn,z103] at h3
        obtain ⟨c',ck',hrun,hm⟩:=z363 (n:=1) ht hk g3 g4 hl
        rw [show valV d 1=.bool true by unfold valV;rw [if_neg (by omega)];rfl] at hrun
        refine wp_u (s:=Instr.mapUpdate t (a.eval x) (a.eval ix) (a.eval v)) rfl (by rw [z827 h1 g1,hv _ _ _ h2,h3];exact hrun) ?_
        refine hK G _ _ (Ghost.Sub.refl G) (fun _ _ h=>h) ⟨rfl,rfl,rfl,by simp [World.setObj]⟩ ⟨hR.wf.storeM g1 g2 hm,?_,by rw [z203];exact hR.size,by rw [z146];exact hR.defers⟩
        exact z292 hd hR.size (fun s=>z149 (fun _ _ e=>e) (fun _ _ e=>e) (hR.env s)) (by simp [V])
      · exact h.elim
    · exact h.elim
  · exact h.elim
def mapT:Option TyI→Bool
 |some i=>match i.desc with
  |.map _ _=>true
  |_=>false
 |none=>false
theorem z1170 {t:TypeId} (hT:z135 P T) (h:mapT (T t)=true):∃ k e,P.underlying t=some (.map k e):=by
 unfold mapT at h
 split at h
 ·rename_i i hi
  split at h
  ·rename_i k e he
   exact ⟨k,e,by rw [(hT _ _ hi).1,he]⟩
  ·simp at h
 ·simp at h
def z1080 (T:Tab) (t:TypeId) (st:St) (x:AC) (K:OpK):Prop:=match x with
 |.mref o=>match st.objs o with
  |.mp _ es=>z76 (mapT (T t)) (K (.int es.length) [st.rd o])
  |_=>False
 |x=>z1079 (T t) x K
theorem z999 {x:Operand} {t:TypeId} (hT:z135 P T) (h:z1080 T t st (st.ev x) K):z108 P st ⟨dst,.call ⟨.builtin .len,#[x],#[t]⟩,type,pos,after,guard⟩ K:=by
 unfold z1080 at h
 split at h
 ·rename_i o hx
  split at h
  ·rename_i d es hob
   obtain ⟨hm,h⟩:=z32 h
   obtain ⟨k,e,ht⟩:=z1170 hT hm
   refine ⟨_,[st.rd o],OpT.val (fun ρ=>Builtin.len_ #[t] type #[ρ x]) (fun ρ=>by rw [z409];simp) (by simp [St.rd]) (fun G objs a w hW hfp hxs=>?_),by simp [St.rd],h⟩
   have h1:=hxs x (by simp [Op.operands,Call.operands])
   rw [hx] at h1
   obtain ⟨b,size,wd,c,ck,g1,g2,g3,g4⟩:=hW.map (o:=o) (d:=d) (es:=es) (by have:=hfp _ (List.mem_singleton.2 rfl);simpa [St.rd,hob] using this)
   have hl:c.size=es.length:=by
    have:=congrArg List.length g4.1
    simpa using this
   refine ⟨.int .i64 es.length,?_,by simp [V]⟩
   rw [z827 h1 g1,← hl]
   simp [Builtin.len_,z59 ht,z280 g3,goInt,go_sem]
  ·exact h.elim
 ·exact z1106 hT h
end Go.Gl
namespace Go.Gl
variable {P:Program} {T:Tab} {dst:Option Tmp} {type:TypeId} {pos:String} {after:Array Edge} {guard:Option (Nat×Bool)} {st:St} {K:OpK}
def vcMin (st:St) (args:List Operand) (K:OpK):Prop:=match args with
 |[x,y]=>match st.ev x,st.ev y with
  |.raw (.int .i64 m),.raw (.int .i64 n)=>K (.int (min m n)) []
  |_,_=>False
 |_=>False
def vcMax (st:St) (args:List Operand) (K:OpK):Prop:=match args with
 |[x,y]=>match st.ev x,st.ev y with
  |.raw (.int .i64 m),.raw (.int .i64 n)=>K (.int (max m n)) []
  |_,_=>False
 |_=>False
theorem run_min2 {w:World} {ts:Array TypeId} {ty:TypeId} {m n:Int} : (Builtin.min_ ts ty #[.int .i64 m,.int .i64 n]).run P w=.ok (.int .i64 (min m n)) w:=by
 have e:(if n < m then n else m)=min m n:=by split<;>omega
 simp [Builtin.min_,Builtin.min2,e]
theorem run_max2 {w:World} {ts:Array TypeId} {ty:TypeId} {m n:Int} : (Builtin.max_ ts ty #[.int .i64 m,.int .i64 n]).run P w=.ok (.int .i64 (max m n)) w:=by
 have e:(if m < n then n else m)=max m n:=by split<;>omega
 simp [Builtin.max_,Builtin.max2,e]
theorem z1104 {args:Array Operand} {ts:Array TypeId} (h:vcMin st args.toList K):z108 P st ⟨dst,.call ⟨.builtin .min,args,ts⟩,type,pos,after,guard⟩ K:=by
 unfold vcMin at h
 split at h
 ·rename_i x y ha
  obtain rfl:args=#[x,y]:=Array.toList_inj.1 (by simpa using ha)
  split at h
  ·rename_i m n hx hy
   refine z84 (fun ρ=>Builtin.min_ ts type #[ρ x,ρ y]) (fun ρ=>by simp [execOp,resolve,invoke,Go.builtin,go_sem]) h fun G a w hxs=>?_
   have h1:=hxs x (by simp [Op.operands,Call.operands])
   have h2:=hxs y (by simp [Op.operands,Call.operands])
   rw [hx,z103] at h1
   rw [hy,z103] at h2
   exact ⟨_,by rw [h1,h2];exact run_min2,by simp [V]⟩
  ·exact h.elim
 ·exact h.elim
theorem z1105 {args:Array Operand} {ts:Array TypeId} (h:vcMax st args.toList K):z108 P st ⟨dst,.call ⟨.builtin .max,args,ts⟩,type,pos,after,guard⟩ K:=by
 unfold vcMax at h
 split at h
 ·rename_i x y ha
  obtain rfl:args=#[x,y]:=Array.toList_inj.1 (by simpa using ha)
  split at h
  ·rename_i m n hx hy
   refine z84 (fun ρ=>Builtin.max_ ts type #[ρ x,ρ y]) (fun ρ=>by simp [execOp,resolve,invoke,Go.builtin,go_sem]) h fun G a w hxs=>?_
   have h1:=hxs x (by simp [Op.operands,Call.operands])
   have h2:=hxs y (by simp [Op.operands,Call.operands])
   rw [hx,z103] at h1
   rw [hy,z103] at h2
   exact ⟨_,by rw [h1,h2];exact run_max2,by simp [V]⟩
  ·exact h.elim
 ·exact h.elim
def z1085 (T:Tab) (P:Program) (t:TypeId) (op:BinOp) (x y:AC) (K:OpK):Prop:=match x with
 |.agg cs=>match cs.length with
  |0=>False
  |n+1=>P.eqGuardType P.depth t=false∧keyK P t (n+1) (.agg cs) fun a=>keyK P t (n+1) y fun b=>match op with
   |.eql=>K (.bool (decide (a=b))) []
   |.neq=>K (.bool (!decide (a=b))) []
   |_=>False
 |x=>z1084 (T t) op x y K
theorem z748 {w:World} {op:BinOp} {t:TypeId} {x y:Operand} {a b:Array Value} (h:P.eqGuardType P.depth t=false):(eqGuard op t x y (.agg a) (.agg b)).run P w=.ok () w:=by
 unfold eqGuard
 split
 all_goals
  simp only [Bool.not_true,Bool.not_false,Bool.false_eq_true,if_false,if_true,Sem.run_bind,run_program,Result.andThen,h]
  try rfl
theorem z1004 {op:BinOp} {t t2:TypeId} {x y:Operand} (hT:z135 P T) (h:z1085 T P t op (st.ev x) (st.ev y) K):z108 P st ⟨dst,.binOp op t x y t2,type,pos,after,guard⟩ K:=by
 unfold z1085 at h
 split at h
 ·rename_i cs hx
  split at h
  ·exact h.elim
  ·rename_i n hn
   obtain ⟨hg,h⟩:=h
   obtain ⟨hk,a,h,hla,hva⟩:=z264 (by omega) h
   obtain ⟨_,b,h,hlb,hvb⟩:=z264 (by omega) h
   have key:∀ v,K (.raw v) []→(∀ w:World,(binOp op t (keyV (n+1) a) (keyV (n+1) b)).run P w=.ok v w)→z108 P st ⟨dst,.binOp op t x y t2,type,pos,after,guard⟩ K:=by
    intro v hk' hr
    refine z84 (fun ρ=>do eqGuard op t x y (ρ x) (ρ y);binOp op t (ρ x) (ρ y)) (fun ρ=>z245 ρ) hk' fun G w' w hxs=>?_
    have h1:=hxs x (by simp [Op.operands])
    have h2:=hxs y (by simp [Op.operands])
    rw [hx] at h1
    refine ⟨v,?_,by rw [z103]⟩
    rw [hva _ _ _ h1,hvb _ _ _ h2]
    have:(eqGuard op t x y (keyV (n+1) a) (keyV (n+1) b)).run P w=.ok () w:=z748 hg
    rw [Sem.run_bind,this]
    exact hr w
   have he:=fun w:World=>z612 (w:=w) hk hla hlb
   split at h
   ·refine key _ h fun w=>?_
    have e:binOp .eql t (keyV (n+1) a) (keyV (n+1) b)=(do pure (.bool (← Op.equal t (keyV (n+1) a) (keyV (n+1) b)))):=rfl
    rw [e,Sem.run_bind,he]
    rfl
   ·refine key _ h fun w=>?_
    have e:binOp .neq t (keyV (n+1) a) (keyV (n+1) b)=(do pure (.bool (!(← Op.equal t (keyV (n+1) a) (keyV (n+1) b))))):=rfl
    rw [e,Sem.run_bind,he]
    rfl
   ·exact h.elim
 ·exact z1003 hT h
end Go.Gl
namespace Go.Gl
variable {P:Program} {Q:Exit→Act→World→Prop} {a:Act} {w:World}
def z197 (o:Oper):Bool:=match o.op with
 |.defer _=>false
 |_=>true
def z310:Code→Bool
 |.skip=>true
 |.region _ ops _=>ops.toList.all z197
 |.seq x y=>z310 x && z310 y
 |.cond _ x y=>z310 x && z310 y
 |.block _ c=>z310 c
 |.loop c=>z310 c
 |.exit _=>true
 |.ret=>true
 |_=>false
abbrev wideR (ro:Option Nat):Fence:={ Fence.wide with round:=ro }
def wpR (P:Program) (c:Code) (Q:Exit→Act→World→Prop) (a:Act) (w:World):Prop:=∀ ro:Option Nat,(ro=none∨z310 c=true)→c.wpIn (wideR ro) 0 P Q a w
theorem z200 {c:Code} {Q' : Exit→Act→World→Prop} (h:wpR P c Q a w) (hq:∀ e a w,Q e a w→Q' e a w):wpR P c Q' a w:=fun ro hr=>wpIn_mono (h ro hr) hq
theorem wpR_skip (h:Q .normal a w):wpR P .skip Q a w:=fun _ _=>wpIn_skip h
theorem wpR_ret (h:Q .ret a w):wpR P .ret Q a w:=fun _ _=>wpIn_ret h
theorem wpR_exit {id:Nat} (h:Q (.exit id) a w):wpR P (.exit id) Q a w:=fun _ _=>wpIn_exit h
theorem wpR_seq {x y:Code} (h:wpR P x (Exit.then (wpR P y Q) Q) a w):wpR P (.seq x y) Q a w:=fun ro hr=>by
 have hx:ro=none∨z310 x=true:=hr.imp id fun e=>(Bool.and_eq_true_iff.1 (show (z310 x && z310 y)=true from e)).1
 have hy:ro=none∨z310 y=true:=hr.imp id fun e=>(Bool.and_eq_true_iff.1 (show (z310 x && z310 y)=true from e)).2
 refine wpIn_seq (wpIn_mono (h ro hx) fun e a w hq=>?_)
 cases e with
 |normal=>exact hq ro hy
 |_=>exact hq
theorem z1071 {id:Nat} {c:Code} (h:wpR P c (Exit.inBlock id Q) a w):wpR P (.block id c) Q a w:=fun ro hr=>wpIn_block (h ro hr)
theorem z645 {c:Operand} {x y:Code} (hc:a.eval c=.bool true) (h:wpR P x Q a w):wpR P (.cond c x y) Q a w:=fun ro hr =>
 wpIn_cond_true hc (h ro (hr.imp id fun e=>(Bool.and_eq_true_iff.1 (show (z310 x && z310 y)=true from e)).1))
theorem z582 {c:Operand} {x y:Code} (hc:a.eval c=.bool false) (h:wpR P y Q a w):wpR P (.cond c x y) Q a w:=fun ro hr =>
 wpIn_cond_false hc (h ro (hr.imp id fun e=>(Bool.and_eq_true_iff.1 (show (z310 x && z310 y)=true from e)).2))
theorem z919 {c : Code} (I : Act → World → Prop) (μ : Act → World → Nat) (h0 : I a w)
    (round:∀ a w,I a w→wpR P c (Exit.then (fun a' w'=>I a' w'∧μ a' w' < μ a w) Q) a w):wpR P (.loop c) Q a w:=fun ro hr=>wpIn_loop I μ h0 fun a w h=>round a w h ro hr
theorem z1144 {ro:Option Nat} {o:Oper} {K:Act→World→Prop} (hr:ro=none∨z197 o=true) (h:o.wp P a w K Q):o.wpIn (wideR ro) 0 P a w K Q:=by
 refine ⟨fun _ _=>trivial,?_⟩
 have e:o.semAt (wideR ro).round a.eval=execOp a.eval o:=by
  rcases hr with rfl|hr
  ·rfl
  ·refine Oper.semAt_eq _ _ _ fun c hc=>?_
   unfold z197 at hr
   rw [hc] at hr;cases hr
 rw [e]
 unfold Oper.wp at h
 generalize (execOp a.eval o).run P w=r at h ⊢
 have hd:(wideR ro).depth.isSome=true→1≤0:=fun h=>by cases h
 cases r with
 |ok x w' =>
  cases x<;>simp only [Oper.upon,Oper.uponIn] at h ⊢<;>first
   |exact h
   |exact ⟨hd,callsIn_wide.2 h⟩
   |exact ⟨hd, fun c cs _ => by
     obtain ⟨v,w'',h1,h2⟩:=h c cs
     exact ⟨v,w'',h1,stepsIn_wide.2 h2⟩⟩
 |halt x w'=>cases x<;>simp only [Oper.upon,Oper.uponIn] at h ⊢<;>exact h
def markOf (D:Nat):Deferred:={ target:=.collected D,args:=#[] }
def z515:List Nat→World→World
 |[],w=>w
 |D::Ds,w=>z515 Ds (w.putObj D (.deferred none))
theorem z991:∀ (Ds:List Nat) (w:World),(z515 Ds w).heap.size=w.heap.size:=by
 intro Ds
 induction Ds with
 |nil=>intro w;rfl
 |cons D Ds ih=>intro w;rw [z515,ih];simp [World.putObj]
theorem z278:∀ (Ds:List Nat) (w:World) (b:Nat),b ∉ Ds→(z515 Ds w).heap[b]?=w.heap[b]?:=by
 intro Ds
 induction Ds with
 |nil=>intro w b _;rfl
 |cons D Ds ih =>
  intro w b hb
  simp only [List.mem_cons,not_or] at hb
  rw [z515,ih _ _ hb.2,World.putObj_heap_other hb.1]
theorem z929:∀ (Ds:List Nat) (w:World),Le w (z515 Ds w):=by
 intro Ds
 induction Ds with
 |nil=>intro w;exact Le.refl w
 |cons D Ds ih=>intro w;exact Le.trans (b:=w.putObj D (.deferred none)) ⟨rfl,rfl,rfl,by simp [World.putObj]⟩ (ih _)
theorem z471 {fn : Func} {tmps : Array Value} {R : Ending → World → Prop} : ∀ (Ds : List Nat) (w : World), Ds.Nodup → (∀ D ∈ Ds, w.heap[D]? = some (.deferred (some []))) →
  (∃ v,(results fn tmps).run P (z515 Ds w)=.ok v (z515 Ds w)∧R (.returned v) (z515 Ds w))→LeavesInM Fence.wide 0 P fn tmps R (Ds.map markOf) .returning w:=by
 intro Ds
 induction Ds with
 |nil=>intro w _ _ h;exact h
 |cons D Ds ih =>
  intro w hn hD h
  obtain ⟨n1,n2⟩:=List.nodup_cons.1 hn
  refine ⟨by simp,.inl ⟨D,_,rfl,run_takeDeferred (hD D (by simp)),ih _ n2 (fun D' h'=>?_) h⟩⟩
  rw [World.putObj_heap_other (by rintro rfl;exact n1 h')]
  exact hD D' (by simp [h'])
theorem z473 {f : FuncId} {fn : Func} {c : Code} {args : Array Value} {R : Ending → World → Prop} (hf : P.funcs[f]? = some fn) (hb : fn.body = some c)
    (h:wpR P c (bodyPostM Fence.wide 0 P fn R) { tmps:=args++Array.replicate (fn.ntmps - args.size) undef,defers:=[] } w):Calls P f args w R :=
  callsIn_wide.1 (callsIn_of_wp_marks (n:=0) hf hb trivial (h none (.inl rfl)))
def Ghost.split (G:Ghost):Ghost:={ G with
 S:=fun b=>match G.S b with
  |some (.cells c el fz)=>some (.cells c el fz)
  |_=>none
 U:=fun b=>match G.U b with
  |some x=>some x
  |none=>match G.S b with
   |some (.cells _ _ _)=>none
   |x=>x }
def Ghost.join (G G' : Ghost) (Ds:List Nat):Ghost:={ G' with
 S:=fun b=>match G.S b with
  |some x=>some x
  |none=>if b∈Ds then none else G'.S b
 U:=G.U }
theorem z661 {G:Ghost} {b:Nat} {c el fz} (h:G.S b=some (.cells c el fz)):G.split.S b=some (.cells c el fz):=by simp [Ghost.split,h]
theorem z849 {G:Ghost} {b:Nat} {x:Obj} (h:G.split.S b=some x):G.S b=some x:=by
 simp only [Ghost.split] at h
 split at h
 ·rename_i h1;rw [h1];exact h
 ·cases h
theorem z660 {G:Ghost} {objs:Nat→AObj} {w:World} (hW:Wf G objs w) {b:Nat} {x:Obj} (h:G.S b=some x):G.split.S b=some x∨G.split.U b=some x:=by
 have hu:G.U b=none:=by
  cases hu:G.U b with
  |none=>rfl
  |some y=>have:=hW.su b y hu;rw [h] at this;cases this
 cases x with
 |cells c el fz=>exact .inl (z661 h)
 |_=>exact .inr (by simp [Ghost.split,hu,h])
theorem y12 {G G' : Ghost} {h h' : Nat→Option Obj} (hS:∀ b c el fz,G.S b=some (.cells c el fz)→G'.S b=some (.cells c el fz)) (hι:G'.ι=G.ι) (hκ:∀ b p,G.κ b=some p→G'.κ b=some p∧h' b=h b) {o:Nat} {x:AObj} (hr:ObjRel G h o x):ObjRel G' h' o x:=by
 cases x with
 |fresh=>simpa only [ObjRel,hι] using hr
 |dead=>trivial
 |mp d es =>
  obtain ⟨b,size,wx,c,ck,h1,h2,h3,h4⟩:=hr
  obtain ⟨k1,k2⟩:=hκ b _ h2
  exact ⟨b,size,wx,c,ck,by rw [hι];exact h1,k1,by rw [k2];exact h3,h4⟩
 |cells wd es =>
  rcases hr with ⟨h1,h2⟩|⟨b,size,c,el,h1,h2,h3,h4,h5⟩
  ·exact .inl ⟨h1,by rw [hι];exact h2⟩
  ·obtain ⟨k1,k2⟩:=hκ b _ h2
   refine .inr ⟨b,size,c,el,by rw [hι];exact h1,k1,by rw [k2];exact h3,h4,?_⟩
   have:=z335 es G G' h h' id (fun _=>True) hS (fun o t e=>by rw [hι];exact e) (fun _ _ _=>rfl) (fun _ _ _ h=>h) (fun b p _ e=>hκ b p e) (some (o,[])) wd c 0 (fun _ _ _=>trivial) h5
   simpa using this
theorem z915 {G G' : Ghost} {h h' : Nat → Option Obj} (hS : ∀ b c el fz, G.S b = some (.cells c el fz) → G'.S b = some (.cells c el fz)) (hι : ∀ o t, G.ι o = some t → G'.ι o = some t) {x : AC} {v : Value}
    (hv:V G h none x v):V G' h' none x v :=
  z916 x G G' h h' id (fun _=>False) hS hι (fun _ _ _=>rfl) (fun _ _ _ h=>h) (fun _ _ h=>h.elim) none v (by simp) hv
theorem Wf.split {G:Ghost} {objs:Nat→AObj} {w:World} (hW:Wf G objs w):Wf G.split objs w where
 hS b x h:=hW.hS b x (z849 h)
 hU b x h:=by
  simp only [Ghost.split] at h
  split at h
  ·rename_i y hy;cases h;exact hW.hU b _ hy
  ·split at h
   ·cases h
   ·exact hW.hS b x h
 su b x h:=by
  simp only [Ghost.split] at h ⊢
  split at h
  ·rename_i y hy;rw [hW.su b y hy]
  ·split at h
   ·cases h
   ·rename_i z _ h2
    first
     |rfl
     |split
      ·rename_i c el fz h3;exact absurd h3 (h2 c el fz)
      ·rfl
 sk b p h:=by
  obtain ⟨h1,h2,h3⟩:=hW.sk b p h
  exact ⟨by simp [Ghost.split,h1],by simp [Ghost.split,h1,h2],h3⟩
 objs o:=y12 (fun _ _ _ _ e=>z661 e) rfl (fun _ _ e=>⟨e,rfl⟩) (hW.objs o)
section join
variable {G G' : Ghost} {objs objs' : Nat→AObj} {w w' : World} {Ds:List Nat}
theorem z1190 (hW:Wf G objs w) (hs:G.split.Sub G') (hW' : Wf G' objs' w') (hD:∀ D∈Ds,G'.S D=some (.deferred (some []))) {D:Nat} (h:D∈Ds):G.S D=none:=by
 cases hx:G.S D with
 |none=>rfl
 |some x =>
  rcases z660 hW hx with h1|h1
  ·have h2:=hs.S _ _ h1
   rw [hD D h] at h2
   cases h2
   simp only [Ghost.split,hx] at h1
   cases h1
  ·have:=hW'.su D x (by rw [hs.U];exact h1)
   rw [hD D h] at this;cases this
theorem z627 (hW:Wf G objs w) (hs:G.split.Sub G') (hW' : Wf G' objs' w') (hD:∀ D∈Ds,G'.S D=some (.deferred (some []))) {b:Nat} {c el fz} (h:G'.S b=some (.cells c el fz)):(G.join G' Ds).S b=some (.cells c el fz):=by
 simp only [Ghost.join]
 cases hx:G.S b with
 |none =>
  have:b ∉ Ds:=fun hb=>by rw [hD b hb] at h;cases h
  simp only [if_neg this];exact h
 |some x =>
  rcases z660 hW hx with h1|h1
  ·have h2:=hs.S _ _ h1
   rw [h] at h2;exact h2.symm
  ·have:=hW'.su b x (by rw [hs.U];exact h1)
   rw [h] at this;cases this
theorem join_Sub:G.Sub (G.join G' Ds):=⟨fun b x h=>by simp [Ghost.join,h],rfl⟩
theorem Wf.join (hW:Wf G objs w) (hs:G.split.Sub G') (hW' : Wf G' objs' w') (hD:∀ D∈Ds,G'.S D=some (.deferred (some []))):Wf (G.join G' Ds) objs' (z515 Ds w'):=by
 have hn:=fun D (h:D∈Ds)=>z1190 hW hs hW' hD h
 have hU:∀ b x,G.U b=some x→G'.U b=some x:=fun b x h=>by rw [hs.U];simp [Ghost.split,h]
 have hk:∀ b p,G'.κ b=some p→b ∉ Ds:=fun b p h hb=>by have:=(hW'.sk b p h).1;rw [hD b hb] at this;cases this
 refine ⟨fun b x h=>?_,fun b x h=>?_,fun b x h=>?_,fun b p h=>?_,fun o=>?_⟩
 ·simp only [Ghost.join] at h
  split at h
  ·rename_i y hy
   cases h
   have hb:b ∉ Ds:=fun hb=>by rw [hn b hb] at hy;cases hy
   rw [z278 _ _ _ hb]
   rcases z660 hW hy with h1|h1
   ·exact hW'.hS b _ (hs.S _ _ h1)
   ·exact hW'.hU b _ (by rw [hs.U];exact h1)
  ·split at h
   ·cases h
   ·rename_i hb;rw [z278 _ _ _ hb];exact hW'.hS b x h
 ·have h1:=hU b x h
  have hb:b ∉ Ds:=fun hb=>by have:=hW'.su b x h1;rw [hD b hb] at this;cases this
  rw [z278 _ _ _ hb];exact hW'.hU b x h1
 ·have h1:=hW'.su b x (hU b x h)
  simp only [Ghost.join,hW.su b x h,h1,ite_self]
 ·obtain ⟨h1,h2,h3⟩:=hW'.sk b p h
  have hg:G.S b=none:=by
   cases hx:G.S b with
   |none=>rfl
   |some x =>
    rcases z660 hW hx with h4|h4
    ·have:=hs.S _ _ h4;rw [h1] at this;cases this
    ·rw [hs.U,h4] at h2;cases h2
  refine ⟨by simp only [Ghost.join,hg,h1,ite_self],?_,by rw [z991];exact h3⟩
  show G.U b=none
  cases hu:G.U b with
  |none=>rfl
  |some x=>rw [hU b x hu] at h2;cases h2
 ·exact y12 (fun _ _ _ _ e=>z627 hW hs hW' hD e) rfl (fun b p e=>⟨e,z278 _ _ _ (hk b p e)⟩) (hW'.objs o)
end join
theorem z776 {G G' : Ghost} {objs:Nat→AObj} {w w' : World} {st:St} {a:Act} (hW:Wf G objs w) (hs:G.split.Sub G') (hR:Rel G' st a w'):∃ Ds:List Nat,a.defers=Ds.map markOf∧Ds.Nodup∧(∀ D∈Ds,w'.heap[D]?=some (.deferred (some [])))∧G.Sub (G.join G' Ds)∧(G.join G' Ds).ι=G'.ι∧Rel (G.join G' Ds) st { a with defers:=[] } (z515 Ds w'):=by
 obtain ⟨Ds,h1,h2,h3⟩:=hR.defers
 exact ⟨Ds,h1,h2,fun D hD=>hR.wf.hS _ _ (h3 D hD),join_Sub,rfl,⟨hW.join hs hR.wf h3,fun s=>z915 (fun _ _ _ _ e=>z627 hW hs hR.wf h3 e) (fun _ _ e=>e) (hR.env s),hR.size,Marks.nil _⟩⟩
end Go.Gl
namespace Go.Gl
variable {P:Program} {T:Tab}
def z215 (T:Tab) (t:TypeId) (K:TyI→Prop):Prop:=match T t with
 |some i=>match i.desc with
  |.slice e=>z503 (T e) K
  |_=>False
 |none=>False
def z505 (T:Tab) (s f:Nat) (K:Nat→TyI→Prop):Prop:=match T s with
 |some i=>match i.desc with
  |.struct fs=>match fs[f]? with
   |some fd=>z503 (T fd.type) (K fd.offset)
   |none=>False
  |_=>False
 |none=>False
def z725 (T:Tab) (st:St) (args:List Operand) (ts:List TypeId) (K:OpK):Prop:=match args,ts with
 |[x],[t]=>z1080 T t st (st.ev x) K
 |_,_=>False
def z727 (T:Tab) (st:St) (args:List Operand) (ts:List TypeId) (K:OpK):Prop:=match args,ts with
 |[s,x],[t,t']=>match Nat.beq t t' with
  |true=>z215 T t fun i=>z922 i st (st.ev s) (st.ev x) K
  |false=>z215 T t fun i=>z1086 (T t') i st (st.ev s) (st.ev x) K
 |_,_=>False
def z726 (T:Tab) (st:St) (args:List Operand) (ts:List TypeId) (K:OpK):Prop:=match args,ts with
 |[x],[t]=>vcCap (T t) (st.ev x) K
 |_,_=>False
def isBit:BinOp→Bool
 |.shl | .shr | .and | .or | .xor | .andNot=>true
 |_=>false
def mapK (st:St) (xs:List Operand) (K:List AC→Prop):Prop:=match xs with
 |[]=>K []
 |x::xs=>z416 (st.ev x) fun v=>mapK st xs fun r=>K (v::r)
theorem z1171 {st:St} {xs:List Operand} {K:List AC→Prop} : mapK st xs K=K (xs.map st.ev):=by
 induction xs generalizing K with
 |nil=>rfl
 |cons x xs ih=>simp [mapK,z141,ih]
def vcIdx (T:Tab) (t:TypeId) (st:St) (x ix:AC) (K:OpK):Prop:=match T t with
 |some i=>match i.desc with
  |.slice e=>match T e with
   |some ei=>z839 ei.size st x ix K
   |none=>False
  |.array n e=>match T e with
   |some ei=>z1081 n ei.size x ix K
   |none=>False
  |_=>False
 |none=>False
def vcOp (T:Tab) (P:Program) (st:St) (op:Op) (K:OpK):Prop:=match op with
 |.move x=>K (st.ev x) []
 |.assign x=>K (st.ev x) []
 |.pick c a b=>z921 (st.ev c) (st.ev a) (st.ev b) K
 |.alloc t=>z503 (T t) fun i=>z842 i st K
 |.box _ x=>vcBox st (st.ev x) K
 |.load t x=>z503 (T t) fun i=>z724 i st (st.ev x) K
 |.store t x y=>z503 (T t) fun i=>z837 i st (st.ev x) (st.ev y) K
 |.fieldAddr s x f=>z505 T s f fun off i=>match i.size with
  |0=>False
  |_+1=>z840 off (st.ev x) K
 |.indexAddr t x ix=>vcIdx T t st (st.ev x) (st.ev ix) K
 |.makeSlice t x y=>z215 T t fun i=>z1078 i st (st.ev x) (st.ev y) K
 |.binOp op t x y _=>match isBit op with
  |true=>z1083 op (st.ev x) (st.ev y) K
  |false=>z1085 T P t op (st.ev x) (st.ev y) K
 |.build t parts=>z503 (T t) fun i=>z841 T i (parts.toList.map fun p=>(p.1,st.ev p.2)) K
 |.buildSlice t n parts=>z215 T t fun i=>z308 i n st (parts.toList.map fun p=>(p.1,st.ev p.2)) K
 |.slice t x lo hi mx=>z215 T t fun i=>z1075 i.size st (st.ev x) (lo.map st.ev) (hi.map st.ev) (mx.map st.ev) K
 |.convert s d x=>z503 (T s) fun _=>z1082 (T d) (st.ev x) K
 |.makeMap t r=>match r with
  |none=>z504 T t fun _ _ d=>z511 d st K
  |some _=>False
 |.lookup t x ix ok=>z504 T t fun k e d=>z650 T P k e d ok st (st.ev x) (st.ev ix) K
 |.mapUpdate t x ix v=>z504 T t fun k _ d=>z374 P k d st (st.ev x) (st.ev ix) (st.ev v) K
 |.makeFunc fn first caps=>mapK st first.toList fun a=>mapK st caps.toList fun b=>K (.fn fn a b) []
 |.nilCheck x=>vcNil (st.ev x) K
 |.unOp op _ x=>vcUn op (st.ev x) K
 |.extract x i=>vcTup (st.ev x) i K
 |.call c=>match c.callee with
  |.builtin .len=>z725 T st c.args.toList c.argTypes.toList K
  |.builtin .append=>z727 T st c.args.toList c.argTypes.toList K
  |.builtin .cap=>z726 T st c.args.toList c.argTypes.toList K
  |.builtin .min=>vcMin st c.args.toList K
  |.builtin .max=>vcMax st c.args.toList K
  |.value f=>z18 P st (st.ev f) (c.args.toList.map st.ev) K
  |_=>False
 |_=>False
theorem z151 {t:TypeId} {K:TyI→Prop} (hT:z135 P T) (h:z215 T t K):∃ i e ei,TyOk P t i∧i.desc=.slice e∧TyOk P e ei∧K ei:=by
 unfold z215 at h
 split at h
 ·rename_i i hi
  split at h
  ·rename_i e he
   obtain ⟨ei,h1,h2⟩:=z145 hT h
   exact ⟨i,e,ei,hT _ _ hi,he,h1,h2⟩
  ·exact h.elim
 ·exact h.elim
theorem z583 {s f:Nat} {K:Nat→TyI→Prop} (hT:z135 P T) (h:z505 T s f K):∃ i fs fd fi,TyOk P s i∧i.desc=.struct fs∧fs[f]?=some fd∧TyOk P fd.type fi∧K fd.offset fi:=by
 unfold z505 at h
 split at h
 ·rename_i i hi
  split at h
  ·rename_i fs hfs
   split at h
   ·rename_i fd hfd
    obtain ⟨fi,h1,h2⟩:=z145 hT h
    exact ⟨i,fs,fd,fi,hT _ _ hi,hfs,hfd,h1,h2⟩
   ·exact h.elim
  ·exact h.elim
 ·exact h.elim
theorem z935 (hT:z135 P T) {st:St} {o:Oper} {K:OpK} (h:vcOp T P st o.op K):z108 P st o K:=by
 obtain ⟨dst,op,type,pos,after,guard⟩:=o
 cases op<;>simp only [vcOp] at h
 case move=>exact z997 h
 case assign=>exact z740 h
 case pick=>exact z996 h
 case alloc=>obtain ⟨i,h1,h2⟩:=z145 hT h;exact z854 h1 h2
 case box=>exact z1108 h
 case load=>obtain ⟨i,h1,h2⟩:=z145 hT h;exact z998 h1 h2
 case store=>obtain ⟨i,h1,h2⟩:=z145 hT h;exact z850 h1 h2
 case fieldAddr =>
  obtain ⟨i,fs,fd,fi,h1,h2,h3,h4,h5⟩:=z583 hT h
  split at h5
  ·exact h5.elim
  ·rename_i hz;exact z521 h1 h2 h3 h4 (by rw [hz];simp) h5
 case indexAddr =>
  unfold vcIdx at h
  split at h
  ·rename_i i hi
   split at h
   ·rename_i e he
    split at h
    ·rename_i ei hei
     exact z520 (hT _ _ hi) he (hT _ _ hei) h
    ·exact h.elim
   ·rename_i n e he
    split at h
    ·rename_i ei hei
     exact z589 (hT _ _ hi) he (hT _ _ hei) h
    ·exact h.elim
   ·exact h.elim
  ·exact h.elim
 case makeSlice=>obtain ⟨i,e,ei,h1,h2,h3,h4⟩:=z151 hT h;exact z519 h1 h2 h3 h4
 case binOp =>
  split at h
  ·exact z1002 h
  ·exact z1004 hT h
 case build=>obtain ⟨i,h1,h2⟩:=z145 hT h;exact z853 hT h1 h2
 case buildSlice=>obtain ⟨i,e,ei,h1,h2,h3,h4⟩:=z151 hT h;exact z480 h1 h2 h3 h4
 case slice=>obtain ⟨i,e,ei,h1,h2,h3,h4⟩:=z151 hT h;exact z851 h1 h2 h3 h4
 case convert=>obtain ⟨i,h1,h2⟩:=z145 hT h;exact z1000 hT h1 h2
 case makeMap t r =>
  cases r with
  |none =>
   obtain ⟨_,_,d,_,_,h⟩:=z305 hT h
   exact z662 h
  |some _=>exact h.elim
 case lookup=>obtain ⟨k,e,d,h1,h2,h3⟩:=z305 hT h;exact z739 hT h1 h2 h3
 case mapUpdate=>obtain ⟨k,e,d,h1,h2,h3⟩:=z305 hT h;exact z518 h1 h2 h3
 case makeFunc=>rw [z1171,z1171] at h;exact z588 h
 case nilCheck=>exact z1103 h
 case unOp=>exact sound_un h
 case extract=>exact z663 h
 case call c =>
  obtain ⟨callee,args,ts⟩:=c
  split at h
  ·rename_i hc
   obtain rfl:callee=.builtin .len:=hc
   unfold z725 at h
   split at h
   ·rename_i x t hx ht
    obtain rfl:args=#[x]:=Array.toList_inj.1 (by simpa using hx)
    obtain rfl:ts=#[t]:=Array.toList_inj.1 (by simpa using ht)
    exact z999 hT h
   ·exact h.elim
  ·rename_i hc
   obtain rfl:callee=.builtin .append:=hc
   unfold z727 at h
   split at h
   ·rename_i s x t t' hx ht
    obtain rfl:args=#[s,x]:=Array.toList_inj.1 (by simpa using hx)
    obtain rfl:ts=#[t,t']:=Array.toList_inj.1 (by simpa using ht)
    split at h
    ·rename_i hb
     have he:=Nat.eq_of_beq_eq_true hb
     obtain ⟨i,e,ei,h1,h2,h3,h4⟩:=z151 hT h
     rw [← he]
     exact z741 h1 h2 h3 h4
    ·obtain ⟨i,e,ei,h1,h2,h3,h4⟩:=z151 hT h
     exact z664 hT h1 h2 h3 h4
   ·exact h.elim
  ·rename_i hc
   obtain rfl:callee=.builtin .cap:=hc
   unfold z726 at h
   split at h
   ·rename_i x t hx ht
    obtain rfl:args=#[x]:=Array.toList_inj.1 (by simpa using hx)
    obtain rfl:ts=#[t]:=Array.toList_inj.1 (by simpa using ht)
    exact z1107 hT h
   ·exact h.elim
  ·rename_i hc
   obtain rfl:callee=.builtin .min:=hc
   exact z1104 h
  ·rename_i hc
   obtain rfl:callee=.builtin .max:=hc
   exact z1105 h
  ·rename_i f hc
   obtain rfl:callee=.value f:=hc
   exact z1001 h
  ·exact h.elim
 all_goals exact h.elim
@[reducible] def AC.gone:AC:=.raw (.tuple #[])
def z512 (b want:Bool) (A B:Prop):Prop:=match b,want with
 |true,true=>A
 |false,false=>A
 |_,_=>B
def z1049 (o:Oper) (n:Nat):Bool:=match o.dst with
 |some d=>Nat.blt d n
 |none=>true
def z606 (ops:Array Oper) (j:Nat):Option Nat:=match ops[j]? with
 |some o=>o.dst
 |none=>none
def z113:List (Nat×AC)→Nat→AC
 |[],_=>.any
 |(k,x)::rest,s=>cond (Nat.beq s k) x (z113 rest s)
def mkSt (n:Nat) (env:List (Nat×AC)) (objs:List AObj):St:={ env:=z113 env,objs:=z47 objs,next:=objs.length,n:=n }
def forceO (x:AObj) (K:AObj→Prop):Prop:=match x with
 |.fresh=>K .fresh
 |.dead=>K .dead
 |.mp d es=>K (.mp d es)
 |.cells w es=>K (.cells w es)
theorem z1210 {x:AObj} {K:AObj→Prop} : forceO x K=K x:=by cases x<;>rfl
def setK (l:List AObj) (o:Nat) (x:AObj) (K:List AObj→Prop):Prop:=match l,o with
 |[],0=>K [x]
 |[],_+1=>False
 |_::l,0=>K (x::l)
 |y::l,o+1=>setK l o x fun r=>K (y::r)
theorem z1116 {l:List AObj} {o:Nat} {x:AObj} {K:List AObj→Prop} (h:setK l o x K):∃ l',K l'∧z47 l'=upd (z47 l) o x:=by
 induction l generalizing o K with
 |nil =>
  cases o with
  |zero =>
   refine ⟨_,h,funext fun j=>?_⟩
   cases j with
   |zero=>rw [z36];rfl
   |succ j=>rw [z52 _ _ (by omega)];rfl
  |succ o=>exact h.elim
 |cons y l ih =>
  cases o with
  |zero =>
   refine ⟨_,h,funext fun j=>?_⟩
   cases j with
   |zero=>rw [z36];rfl
   |succ j=>rw [z52 _ _ (by omega)];rfl
  |succ o =>
   obtain ⟨l',h1,h2⟩:=ih h
   refine ⟨_,h1,funext fun j=>?_⟩
   cases j with
   |zero=>rw [z52 _ _ (by omega)];rfl
   |succ j =>
    have:=congrFun h2 j
    show z47 l' j=_
    rw [this]
    by_cases hj:j=o
    ·subst hj;rw [z36,z36]
    ·rw [z52 _ _ hj,z52 _ _ (by omega)];rfl
def z333 (objs:List AObj) (fp:List Ch) (K:List AObj→Prop):Prop:=match fp with
 |[]=>K objs
 |c::rest=>match c with
  |⟨o,_,x⟩=>forceO x fun x'=>setK objs o x' fun objs'=>z333 objs' rest K
theorem z143 {objs:List AObj} {fp:List Ch} {K:List AObj→Prop} (h:z333 objs fp K):∃ l',K l'∧z47 l'=z88 (z47 objs) fp:=by
 induction fp generalizing objs with
 |nil=>exact ⟨objs,h,rfl⟩
 |cons c rest ih =>
  obtain ⟨o,pre,x⟩:=c
  simp only [z333,z1210] at h
  obtain ⟨l1,h1,h2⟩:=z1116 h
  obtain ⟨l2,h3,h4⟩:=ih h1
  exact ⟨l2,h3,by rw [h4,h2];rfl⟩
def z329 (dst:Option Nat) (x:AC) (env:List (Nat×AC)) (K:List (Nat×AC)→Prop):Prop:=match dst with
 |some d=>K ((d,x)::env)
 |none=>K env
abbrev LK:=List (Nat×AC)→List AObj→Prop
def z773 (dst:Option Nat) (env:List (Nat×AC)) (objs:List AObj) (res:AC) (fp:List Ch) (K:LK):Prop :=
 z416 res fun r=>z333 objs fp fun objs'=>z329 dst r env fun env'=>K env' objs'
theorem z350 (d:Nat) (x:AC) (env:List (Nat×AC)):z113 ((d,x)::env)=upd (z113 env) d x:=funext fun j=>rfl
theorem z622 {dst : Option Nat} {n : Nat} {env : List (Nat × AC)} {objs : List AObj} {res : AC} {fp : List Ch} {K : LK} (h : z773 dst env objs res fp K) :
    ∃ env' objs',K env' objs'∧(mkSt n env' objs').env=((mkSt n env objs).app dst res fp).env∧(mkSt n env' objs').objs=((mkSt n env objs).app dst res fp).objs:=by
  simp only [z773,z141] at h
  obtain ⟨objs',h1,h2⟩:=z143 h
  cases dst with
  | none=>exact ⟨env,objs',h1,rfl,h2⟩
  | some d=>exact ⟨_,objs',h1,z350 d res env,h2⟩
theorem Rel.same {G:Ghost} {st st' : St} {a:Act} {w:World} (hR:Rel G st a w) (h1:st'.env=st.env) (h2:st'.objs=st.objs) (h3:st'.n=st.n):Rel G st' a w :=
 ⟨by rw [h2];exact hR.wf,by rw [h1];exact hR.env,by rw [h3];exact hR.size,hR.defers⟩
def z584 (T:Tab) (P:Program) (ops:Array Oper) (n:Nat) (env:List (Nat×AC)) (objs:List AObj) (l:List Oper) (K:LK):Prop:=match l with
 |[]=>K env objs
 |o::rest=>z76 (z1049 o n) (match o.guard with
  |none=>vcOp T P (mkSt n env objs) o.op fun res fp=>z773 o.dst env objs res fp fun env objs=>z584 T P ops n env objs rest K
  |some (j,want)=>match z606 ops j with
   |some d=>z76 (Nat.blt d n) (match z113 env d with
    |.raw (.bool b) => vcG b fun b => z512 b want (vcOp T P (mkSt n ((d, .raw (.bool b)) :: env) objs) o.op fun res fp => z773 o.dst ((d, .raw (.bool b)) :: env) objs res fp fun env objs => z584 T P ops n env objs rest K)
      (z329 o.dst .gone ((d,.raw (.bool b))::env) fun env=>z584 T P ops n env objs rest K)
    |.raw (.tuple _)=>z329 o.dst .gone env fun env=>z584 T P ops n env objs rest K
    |_=>False)
   |none=>False)
theorem z385 {b want:Bool} {A B:Prop} (h:z512 b want A B):(b=want∧A)∨(b≠want∧B):=by
 cases b<;>cases want<;>simp_all [z512]
def SubM (m:Nat) (G G' : Ghost):Prop:=G.Sub G'∧∀ o t,o < m→G.ι o=some t→G'.ι o=some t
theorem SubM.refl (m:Nat) (G:Ghost):SubM m G G:=⟨Ghost.Sub.refl G,fun _ _ _ h=>h⟩
theorem SubM.trans {m:Nat} {a b c:Ghost} (h:SubM m a b) (k:SubM m b c):SubM m a c:=⟨h.1.trans k.1,fun o t ho e=>k.2 o t ho (h.2 o t ho e)⟩
def PostA (m:Nat) (G:Ghost) (w:World) (Q:Exit→St→Prop) (ex:Exit) (a' : Act) (w' : World):Prop :=
 ∃ G' st',SubM m G G'∧Le w w'∧Q ex st'∧Rel G' st' a' w'
def AWP (P:Program) (m:Nat) (c:Code) (Q:Exit→St→Prop) (st:St):Prop :=
 ∀ G a w,Rel G st a w→wpR P c (PostA m G w Q) a w
theorem PostA.trans {m:Nat} {G G1:Ghost} {w w1:World} {Q:Exit→St→Prop} (hs:SubM m G G1) (hl:Le w w1) {ex:Exit} {a' : Act} {w' : World} (h:PostA m G1 w1 Q ex a' w'):PostA m G w Q ex a' w':=by
 obtain ⟨G',st',h1,h2,h3,h4⟩:=h
 exact ⟨G',st',hs.trans h1,hl.trans h2,h3,h4⟩
theorem z720 {ops : Array Oper} {st : St} {G : Ghost} {a : Act} {w : World} (hR : Rel G st a w) {o : Oper} {j d : Nat} {want b : Bool} (hg : o.guard = some (j, want)) (hd : z606 ops j = some d) (hn : d < st.n)
    (hb:st.env d=.raw (.bool b)):Region.wanted o (yielded ops a.tmps)=(b == want):=by
  have h1:=hR.env d
  rw [hb,z103] at h1
  have h2:(ops[j]?).bind (·.dst)=some d:=by
    unfold z606 at hd
    split at hd
    · rename_i o' ho';rw [ho'];exact hd
    · cases hd
  have h3:a.tmps[d]?=some (.bool b):=by
    have hlt:d < a.tmps.size:=by rw [hR.size];exact hn
    rw [y78,Array.getElem?_eq_getElem hlt] at h1
    rw [Array.getElem?_eq_getElem hlt]
    exact congrArg some h1
  simp only [Region.wanted,hg,yielded,h2,Option.bind_some,h3]
  cases b<;>cases want<;>rfl
theorem z507 {ops : Array Oper} {st : St} {G : Ghost} {a : Act} {w : World} (hR : Rel G st a w) {o : Oper} {j d : Nat} {want : Bool} {t : Array Value} (hg : o.guard = some (j, want)) (hd : z606 ops j = some d) (hn : d < st.n)
    (hb:st.env d=.raw (.tuple t)):Region.wanted o (yielded ops a.tmps)=false:=by
  have h1:=hR.env d
  rw [hb,z103] at h1
  have h2:(ops[j]?).bind (·.dst)=some d:=by
    unfold z606 at hd
    split at hd
    · rename_i o' ho';rw [ho'];exact hd
    · cases hd
  have h3:a.tmps[d]?=some (.tuple t):=by
    have hlt:d < a.tmps.size:=by rw [hR.size];exact hn
    rw [y78,Array.getElem?_eq_getElem hlt] at h1
    rw [Array.getElem?_eq_getElem hlt]
    exact congrArg some h1
  simp only [Region.wanted,hg,yielded,h2,Option.bind_some,h3]
  rfl
theorem skip_rel {st:St} {G:Ghost} {a:Act} {w:World} (hR:Rel G st a w) {o:Oper} (hd:z1049 o st.n=true):Rel G (st.app o.dst .gone []) (a.put o.dst undef) w :=
 hR.pure (fun d h=>by simpa [z1049,h,Nat.blt_eq] using hd) (by simp [V,undef]) (by simp)
theorem z455 {o:Oper} {st:St} (hd:z1049 o st.n=true):∀ d,o.dst=some d→d < st.n:=fun d h=>by simpa [z1049,h,Nat.blt_eq] using hd
theorem z968 {env:List (Nat×AC)} {d:Nat} {x:AC} (h:z113 env d=x):z113 ((d,x)::env)=z113 env:=by
 rw [z350,← h,z923]
theorem z1102 {ro : Option Nat} (hT : z135 P T) {ops : Array Oper} {Q : Exit → Act → World → Prop} {n : Nat} : ∀ (l l2 : List Oper) (env : List (Nat × AC)) (objs : List AObj) (K : LK), (ro = none ∨ l.all z197 = true) → z584 T P ops n env objs l K → ∀ (m : Nat) (G : Ghost) (a : Act) (w : World), Rel G (mkSt n env objs) a w →
  (∀ G' env' objs' a' w',SubM m G G'→Le w w'→K env' objs'→Rel G' (mkSt n env' objs') a' w'→wpListIn (wideR ro) 0 P ops Q l2 a' w')→wpListIn (wideR ro) 0 P ops Q (l++l2) a w:=by
 intro l l2
 induction l with
 |nil=>intro env objs K _ h m G a w hR hQ;exact hQ G env objs a w (SubM.refl m G) (Le.refl w) h hR
 |cons o rest ih =>
  intro env objs K hr h m G a w hR hQ
  have hro:ro=none∨z197 o=true:=hr.imp id fun e=>(Bool.and_eq_true_iff.1 (show (z197 o && rest.all z197)=true from e)).1
  have hrr:ro=none∨rest.all z197=true:=hr.imp id fun e=>(Bool.and_eq_true_iff.1 (show (z197 o && rest.all z197)=true from e)).2
  simp only [z584] at h
  obtain ⟨hd,h⟩:=z32 h
  have run:∀ env,Rel G (mkSt n env objs) a w→(vcOp T P (mkSt n env objs) o.op fun res fp=>z773 o.dst env objs res fp fun env objs=>z584 T P ops n env objs rest K)→o.wpIn (wideR ro) 0 P a w (wpListIn (wideR ro) 0 P ops Q (rest++l2)) Q:=by
   intro env hR hv
   obtain ⟨res,fp,hO,hfp,hk⟩:=z935 hT hv
   obtain ⟨env',objs',h1,h2,h3⟩:=z622 (n:=n) hk
   refine z1144 hro (hO.run Q _ G (mkSt n env objs) a w hR (fun p hp=>?_) (fun c hc=>(hfp c hc).1) (z455 hd) fun G' a' w' hs hι hl hR'=>?_)
   ·simp only [St.reads,y57] at hp
    obtain ⟨t,_,rfl⟩:=hp;rfl
   ·exact ih _ _ K hrr h1 m G' a' w' (hR'.same h2 h3 rfl) fun G'' env'' objs'' a'' w'' hs' hl' hK hR''=>hQ G'' env'' objs'' a'' w'' (SubM.trans ⟨hs,fun o t _ e=>hι o t e⟩ hs') (hl.trans hl') hK hR''
  have skip:∀ env,Rel G (mkSt n env objs) a w→(z329 o.dst .gone env fun env=>z584 T P ops n env objs rest K)→wpListIn (wideR ro) 0 P ops Q (rest++l2) (a.put o.dst undef) w:=fun env hR hv=>by
   have hs:=skip_rel hR hd
   cases hdst:o.dst with
   |none=>rw [hdst] at hv hs;exact ih _ _ K hrr hv m G _ w (hs.same rfl rfl rfl) hQ
   |some d=>rw [hdst] at hv hs;exact ih _ _ K hrr hv m G _ w (hs.same (z350 d .gone env) rfl rfl) hQ
  rw [List.cons_append]
  unfold wpListIn
  split at h
  ·rename_i hg
   rw [if_pos (by simp [Region.wanted,hg])]
   exact run env hR h
  ·rename_i j want hg
   split at h
   ·rename_i d hdj
    obtain ⟨hn,h⟩:=z32 h
    split at h
    ·rename_i b hb
     have hw:=z720 hR hg hdj (by show d < n;simpa [Nat.blt_eq] using hn) hb
     have hR' : Rel G (mkSt n ((d,.raw (.bool b))::env) objs) a w:=hR.same (z968 hb) rfl rfl
     rw [hw]
     rcases z385 (z651 h) with ⟨rfl,hv⟩|⟨hne,hv⟩
     ·simp only [beq_self_eq_true,if_true];exact run _ hR' hv
     ·rw [if_neg (by simpa using hne)];exact ⟨fun _ _=>trivial,skip _ hR' hv⟩
    ·rename_i t hb
     have hw:=z507 hR hg hdj (by show d < n;simpa [Nat.blt_eq] using hn) hb
     rw [if_neg (by rw [hw];simp)]
     exact ⟨fun _ _=>trivial,skip _ hR h⟩
    ·exact h.elim
   ·exact h.elim
theorem z1061 (hT:z135 P T) {m id n:Nat} {ops:Array Oper} {Q:Exit→St→Prop} {env:List (Nat×AC)} {objs:List AObj} (h:z584 T P ops n env objs ops.toList fun env objs=>Q .normal (mkSt n env objs)):AWP P m (.region id ops false) Q (mkSt n env objs):=fun G a w hR ro hro =>
 wpIn_region_list (by
  have:=z1102 (Q:=PostA m G w Q) (ops:=ops) hT ops.toList [] env objs _ hro h m G a w hR fun G' env' objs' _ _ hs hl hK hR'=>⟨G',_,hs,hl,hK,hR'⟩
  rwa [y62] at this)
def z655 (Q1:St→Prop) (Q:Exit→St→Prop):Exit→St→Prop
 |.normal,st=>Q1 st
 |ex,st=>Q ex st
theorem z1258 {m:Nat} {x y:Code} {Q:Exit→St→Prop} {st:St} (h:AWP P m x (z655 (AWP P m y Q) Q) st):AWP P m (.seq x y) Q st:=fun G a w hR =>
 wpR_seq (z200 (h G a w hR) fun ex a' w' ⟨G',st',h1,h2,h3,h4⟩=>by
  cases ex with
  |normal=>exact z200 (h3 G' a' w' h4) fun ex' a'' w'' hq=>hq.trans h1 h2
  |_=>exact ⟨G',st',h1,h2,h3,h4⟩)
theorem awp_skip {m:Nat} {Q:Exit→St→Prop} {st:St} (h:Q .normal st):AWP P m .skip Q st:=fun G _ w hR=>wpR_skip ⟨G,st,SubM.refl m G,Le.refl w,h,hR⟩
theorem awp_ret {m:Nat} {Q:Exit→St→Prop} {st:St} (h:Q .ret st):AWP P m .ret Q st:=fun G _ w hR=>wpR_ret ⟨G,st,SubM.refl m G,Le.refl w,h,hR⟩
theorem awp_exit {m id:Nat} {Q:Exit→St→Prop} {st:St} (h:Q (.exit id) st):AWP P m (.exit id) Q st:=fun G _ w hR=>wpR_exit ⟨G,st,SubM.refl m G,Le.refl w,h,hR⟩
def z1249 (id:Nat) (Q:Exit→St→Prop):Exit→St→Prop
 |.exit i,st=>match Nat.beq i id with
  |true=>Q .normal st
  |false=>Q (.exit i) st
 |ex,st=>Q ex st
theorem z1260 {m id:Nat} {c:Code} {Q:Exit→St→Prop} {st:St} (h:AWP P m c (z1249 id Q) st):AWP P m (.block id c) Q st:=fun G a w hR =>
 z1071 (z200 (h G a w hR) fun ex a' w' ⟨G',st',h1,h2,h3,h4⟩=>by
  cases ex with
  |exit i =>
   simp only [z1249] at h3
   simp only [Exit.inBlock]
   split at h3
   ·rename_i hb;rw [if_pos (Nat.eq_of_beq_eq_true hb)];exact ⟨G',st',h1,h2,h3,h4⟩
   ·rename_i hb
    rw [if_neg (by rintro rfl;rw [Nat.beq_refl] at hb;cases hb)];exact ⟨G',st',h1,h2,h3,h4⟩
  |_=>exact ⟨G',st',h1,h2,h3,h4⟩)
def vcIf (b:Bool) (A B:Prop):Prop:=match b with
 |true=>A
 |false=>B
theorem z83 {b:Bool} {A B:Prop} (h1:b=true→A) (h2:b=false→B):vcIf b A B:=by
 cases b
 ·exact h2 rfl
 ·exact h1 rfl
theorem z7 {p:Prop} [Decidable p] {A B:Prop} (h1:p→A) (h2:¬ p→B):vcIf (decide p) A B:=by
 by_cases h:p
 ·rw [y79 h];exact h1 h
 ·rw [y80 h];exact h2 h
theorem awp_cond {m:Nat} {c:Operand} {x y:Code} {Q:Exit→St→Prop} {st:St} {b:Bool} (hc:st.ev c=.raw (.bool b)) (h:vcIf b (AWP P m x Q st) (AWP P m y Q st)):AWP P m (.cond c x y) Q st:=fun G a w hR=>by
 have h1:=hR.ev c
 rw [hc,z103] at h1
 cases b with
 |true=>exact z645 h1 (h G a w hR)
 |false=>exact z582 h1 (h G a w hR)
def vc1 (T:Tab) (P:Program) (m:Nat) (c:Code) (n:Nat) (env:List (Nat×AC)) (objs:List AObj) (Q:Exit→St→Prop):Prop:=match c with
 |.region _ ops false=>z584 T P ops n env objs ops.toList fun env objs=>Q .normal (mkSt n env objs)
 |.seq a b=>vc1 T P m a n env objs (z655 (AWP P m b Q) Q)
 |.cond c x y=>match (mkSt n env objs).ev c with
  |.raw (.bool b)=>vcIf b (AWP P m x Q (mkSt n env objs)) (AWP P m y Q (mkSt n env objs))
  |_=>False
 |.block id c=>AWP P m c (z1249 id Q) (mkSt n env objs)
 |.skip=>Q .normal (mkSt n env objs)
 |.ret=>Q .ret (mkSt n env objs)
 |.exit id=>Q (.exit id) (mkSt n env objs)
 |c=>AWP P m c Q (mkSt n env objs)
theorem AWP.step (hT:z135 P T) {m:Nat} (c:Code) (n:Nat) (env:List (Nat×AC)) (objs:List AObj) (Q:Exit→St→Prop) (h:vc1 T P m c n env objs Q):AWP P m c Q (mkSt n env objs):=by
 induction c generalizing Q with
 |region id ops draw=>cases draw with
  |true=>exact h
  |false=>exact z1061 hT h
 |seq a b iha _=>exact z1258 (iha _ h)
 |cond c x y =>
  simp only [vc1] at h
  split at h
  ·rename_i b hb;exact awp_cond hb h
  ·exact h.elim
 |block id c=>exact z1260 h
 |skip=>exact awp_skip h
 |ret=>exact awp_ret h
 |exit id=>exact awp_exit h
 |_=>exact h
end Go.Gl
namespace Go.Gl
variable {P:Program} {T:Tab}
def Ghost.pick (G:Ghost) (π:List Nat):Ghost where
 S:=G.S
 U:=G.U
 ι i:=match π[i]? with
  |some o=>G.ι o
  |none=>none
 κ b:=match G.κ b with
  |some (o,p)=>match idx π o with
   |some i=>some (i,p)
   |none=>none
  |none=>none
def z164 (M:Nat):AObj→Prop
 |.cells _ es=>∀ e∈es,z138 M e=true
 |.fresh=>True
 |.dead=>True
 |.mp _ _=>True
structure Picks (π:List Nat) (st st' : St):Prop where
 nodup:π.Nodup
 env:∀ s,st'.env s=.any∨((st'.env s).under π.length=true∧st.env s=(st'.env s).ren (z65 0 π))
 obj:∀ i o,π[i]?=some o→st.objs o=z126 (z65 0 π) (st'.objs i)∧z164 π.length (st'.objs i)
 other:∀ i,π.length≤i→st'.objs i=.fresh
 n:st'.n=st.n
theorem pick_V {G : Ghost} {π : List Nat} (hn : π.Nodup) {h : Nat → Option Obj} (x : AC) {l : Loc} {v : Value} {i o : Nat} (hio : π[i]? = some o) (hl : ∀ p, l = some p → p.1 = o) (hu : x.under π.length = true) (hv : V G h l (x.ren (z65 0 π)) v) :
    V (G.pick π) h (l.map fun p=>(i,p.2)) x v:=by
  have:=z914 x π.length (z65 0 π) G (G.pick π) h h (fun p=>(i,p.2)) (fun p=>p.1=o) (fun _ _ e=>e) (fun j t hj e=>by
    have hj' : π[j]?=some π[j]:=y42 hj
    rw [z72 hj'] at e
    simp only [Ghost.pick,hj',e]) (fun _ _ _=>rfl) (fun _ _ _ h=>h) (fun b p hp hk=>⟨by
      have hk' : G.κ b=some (o,p.2):=by rw [← hp];exact hk
      simp only [Ghost.pick,hk',z230 hn hio],rfl⟩) l v hl hu hv
  exact this
theorem z868 {G:Ghost} {π:List Nat} {h:Nat→Option Obj} (x:AC) {v:Value} (hu:x.under π.length=true) (hv:V G h none (x.ren (z65 0 π)) v):V (G.pick π) h none x v:=by
 have:=z914 x π.length (z65 0 π) G (G.pick π) h h id (fun _=>False) (fun _ _ e=>e) (fun j t hj e=>by
  have hj' : π[j]?=some π[j]:=y42 hj
  rw [z72 hj'] at e
  simp only [Ghost.pick,hj',e]) (fun _ _ _=>rfl) (fun _ _ _ h=>h) (fun b p hp hk=>hp.elim) none v (by simp) hu hv
 exact this
theorem Wf.pick {G : Ghost} {objs objs' : Nat → AObj} {w : World} {π : List Nat} (hW : Wf G objs w) (hn : π.Nodup)
    (obj:∀ i o,π[i]?=some o→objs o=z126 (z65 0 π) (objs' i)∧z164 π.length (objs' i)) (other:∀ i,π.length≤i→objs' i=.fresh):Wf (G.pick π) objs' w where
  hS:=hW.hS
  hU:=hW.hU
  su:=hW.su
  sk b p h:=by
    cases hk:G.κ b with
    | none=>simp [Ghost.pick,hk] at h
    | some q=>exact hW.sk b q hk
  objs i:=by
    by_cases hi:i < π.length
    · have hpi:π[i]?=some π[i]:=y42 hi
      obtain ⟨h1,h2⟩:=obj i _ hpi
      have ho:=hW.objs π[i]
      rw [h1] at ho
      have hιe:(G.pick π).ι i=G.ι π[i]:=by simp only [Ghost.pick,hpi]
      cases hob:objs' i with
      | fresh=>rw [hob] at ho;simp only [ObjRel,hιe];exact ho
      | dead=>trivial
      | mp d es =>
        rw [hob] at ho
        obtain ⟨b,size,wx,c,ck,h3,h4,h5,h6⟩:=ho
        exact ⟨b,size,wx,c,ck,by rw [hιe];exact h3,by simp only [Ghost.pick,h4,z230 hn hpi],h5,h6⟩
      | cells wd es =>
        rw [hob] at ho h2
        rcases ho with ⟨h3,h4⟩|⟨b,size,c,el,h3,h4,h5,h6,h7⟩
        · exact .inl ⟨by simpa using h3,by rw [hιe];exact h4⟩
        · refine .inr ⟨b,size,c,el,by rw [hιe];exact h3,by simp only [Ghost.pick,h4,z230 hn hpi],h5,h6,?_⟩
          rw [z74] at h7 ⊢
          intro k e he
          obtain ⟨h8,h9⟩:=h7 k (renL (z65 0 π) e) (by simp [he])
          refine ⟨by rw [z179] at h8;simpa using h8,?_⟩
          rw [z70] at h9 ⊢
          intro j x hx
          obtain ⟨v,hv1,hv2⟩:=h9 j (x.ren (z65 0 π)) (by rw [z179];simp [hx])
          refine ⟨v,hv1,?_⟩
          have:=pick_V hn x hpi (l:=Loc.cell (some (π[i],[])) (0+k * wd+j)) (by intro p hp;simp [Loc.cell] at hp;rw [← hp]) (z439.1 (h2 e (List.mem_of_getElem? he)) x (List.mem_of_getElem? hx)) hv2
          simpa [Loc.cell] using this
    · rw [other i (by omega)]
      have:π[i]?=none:=y66 (by omega)
      simp only [ObjRel,Ghost.pick,this]
theorem Rel.pick {G:Ghost} {st st' : St} {a:Act} {w:World} {π:List Nat} (hR:Rel G st a w) (hp:Picks π st st'):Rel (G.pick π) st' a w where
 wf:=hR.wf.pick hp.nodup hp.obj hp.other
 env s:=by
  rcases hp.env s with h|⟨h1,h2⟩
  ·rw [h];simp [V]
  ·have:=hR.env s
   rw [h2] at this
   exact z868 _ h1 this
 size:=by rw [hp.n];exact hR.size
 defers:=hR.defers.mono (fun _ _ e=>e)
theorem SubM.pick {G:Ghost} {m:Nat} {π:List Nat} (h:∀ i,i < m→π[i]?=some i):SubM m G (G.pick π) :=
 ⟨⟨fun _ _ e=>e,rfl⟩,fun o t ho e=>by simp only [Ghost.pick,h o ho,e]⟩
def PickOk (m:Nat) (st st' : St):Prop:=∃ π,(∀ i,i < m→π[i]?=some i)∧Picks π st st'
theorem AWP.pick {m:Nat} {c:Code} {Q:Exit→St→Prop} {st st' : St} (hp:PickOk m st st') (h:AWP P m c Q st'):AWP P m c Q st:=fun G a w hR=>by
 obtain ⟨π,h1,h2⟩:=hp
 exact z200 (h _ a w (hR.pick h2)) fun ex a' w' hq=>hq.trans (SubM.pick h1) (Le.refl w)
def z804 (p:Nat→AC→Prop):List (Nat×AC)→Prop
 |[]=>True
 |(k,x)::rest=>p k x∧z804 p rest
theorem z382 (env:List (Nat×AC)) (p:Nat→AC→Prop) (h:z804 p env) (s:Nat):z113 env s=.any∨p s (z113 env s):=by
 induction env with
 |nil=>exact .inl rfl
 |cons kx rest ih =>
  obtain ⟨k,x⟩:=kx
  simp only [z113]
  cases hb:Nat.beq s k with
  |true=>rw [Nat.eq_of_beq_eq_true hb];exact .inr h.1
  |false=>exact ih h.2
def z539 (p:Nat→AObj→Prop):Nat→List Nat→List AObj→Prop
 |_,[],[]=>True
 |i,o::os,x::xs=>p o x∧z539 p (i+1) os xs
 |_,_,_=>False
theorem z316 {p:Nat→AObj→Prop} : ∀ (j:Nat) (os:List Nat) (xs:List AObj),z539 p j os xs→os.length=xs.length∧∀ i o,os[i]?=some o→p o (z47 xs i):=by
 intro j os
 induction os generalizing j with
 |nil=>intro xs h;cases xs with
  |nil=>exact ⟨rfl,fun i o h=>by simp at h⟩
  |cons x xs=>exact h.elim
 |cons o os ih=>intro xs h;cases xs with
  |nil=>exact h.elim
  |cons x xs =>
   obtain ⟨h1,h2⟩:=ih (j+1) xs h.2
   refine ⟨by simp [h1],fun i o' ho=>?_⟩
   cases i with
   |zero=>simp at ho;subst ho;exact h.1
   |succ i=>exact h2 i o' (by simpa using ho)
def z267:Nat→Nat→List Nat→Bool
 |0,_,_=>true
 |m+1,i,o::os=>match Nat.beq o i with
  |true=>z267 m (i+1) os
  |false=>false
 |_+1,_,[]=>false
theorem z161:∀ (m i:Nat) (os:List Nat),z267 m i os=true→∀ j,j < m→os[j]?=some (i+j):=by
 intro m
 induction m with
 |zero=>intro i os _ j hj;omega
 |succ m ih =>
  intro i os h j hj
  cases os with
  |nil=>simp [z267] at h
  |cons o os =>
   simp only [z267] at h
   split at h
   ·rename_i hb
    cases j with
    |zero=>simp [Nat.eq_of_beq_eq_true hb]
    |succ j =>
     have:=ih (i+1) os h j (by omega)
     simp only [List.getElem?_cons_succ,this]
     congr 1;omega
   ·cases h
structure PickL (π:List Nat) (m n:Nat) (st:St) (env:List (Nat×AC)) (objs:List AObj):Prop where
 n:st.n=n
 nodup:π.Nodup
 fix:z267 m 0 π=true
 env:z804 (fun s x=>x.under π.length=true∧st.env s=x.ren (z65 0 π)) env
 obj:z539 (fun o x=>z164 π.length x∧st.objs o=z126 (z65 0 π) x) 0 π objs
theorem PickL.ok {π:List Nat} {m n:Nat} {st:St} {env:List (Nat×AC)} {objs:List AObj} (h:PickL π m n st env objs):PickOk m st (mkSt n env objs):=by
 obtain ⟨h1,h2⟩:=z316 0 π objs h.obj
 refine ⟨π,fun i hi=>by have:=z161 m 0 π h.fix i hi;simpa using this,h.nodup,fun s=>z382 env _ h.env s,fun i o hio=>⟨(h2 i o hio).2,(h2 i o hio).1⟩,fun i hi=>z78 (by omega),h.n.symm⟩
theorem least (p:Nat→Prop) (h:∃ n,p n):∃ n,p n∧∀ m,p m→n≤m:=by
 obtain ⟨n,hn⟩:=h
 induction n using Nat.strongRecOn with
 |_ n ih =>
  by_cases hm:∃ m,m < n∧p m
  ·obtain ⟨m,h1,h2⟩:=hm;exact ih m h1 h2
  ·exact ⟨n,hn,fun m hp=>Nat.le_of_not_lt fun hlt=>hm ⟨m,hlt,hp⟩⟩
open Classical in
noncomputable def z547 (p:Nat→Prop):Nat:=if h:∃ n,p n then Classical.choose (least p h) else 0
theorem z242 {p:Nat→Prop} {n:Nat} (h:p n):p (z547 p)∧z547 p≤n:=by
 have he:∃ n,p n:=⟨n,h⟩
 unfold z547
 rw [dif_pos he]
 have:=Classical.choose_spec (least p he)
 exact ⟨this.1,this.2 n h⟩
theorem awp_loop' {α : Type} {m : Nat} {body : Code} {Q : Exit → St → Prop} {st : St} (I : α → List (Nat × AC) × List AObj) (ok : α → Prop) (μ : α → Nat) (x0 : α) (h0 : ok x0) (hinit : ∃ π, PickL π m st.n st (I x0).1 (I x0).2)
    (round:∀ x,ok x→AWP P m body (z655 (fun st'=>∃ y π,ok y∧μ y < μ x∧PickL π m st.n st' (I y).1 (I y).2) Q) (mkSt st.n (I x).1 (I x).2)):AWP P m (.loop body) Q st:=fun G a w hR=>by
  let J:Act→World→Nat→Prop:=fun a' w' k=>∃ x,ok x∧μ x=k∧∃ G',SubM m G G'∧Le w w'∧Rel G' (mkSt st.n (I x).1 (I x).2) a' w'
  refine z919 (fun a' w'=>∃ k,J a' w' k) (fun a' w'=>z547 (J a' w')) ?_ ?_
  · obtain ⟨π,hp⟩:=hinit
    obtain ⟨π',h1,h2⟩:=hp.ok
    exact ⟨_,x0,h0,rfl,G.pick π',SubM.pick h1,Le.refl w,hR.pick h2⟩
  · rintro a' w' ⟨k,hk⟩
    obtain ⟨⟨x,hx,hμ,G',hs,hl,hR'⟩,_⟩:=z242 hk
    refine z200 (round x hx G' a' w' hR') fun ex a'' w'' hq=>?_
    cases ex with
    | normal =>
      obtain ⟨G'',st'',h1,h2,⟨y,π,hy,hlt,hp⟩,h4⟩:=hq
      obtain ⟨π',h5,h6⟩:=hp.ok
      have hR'':=h4.pick h6
      have hJ' : J a'' w'' (μ y):=⟨y,hy,rfl,_,(hs.trans h1).trans (SubM.pick h5),hl.trans h2,hR''⟩
      refine ⟨⟨_,hJ'⟩,?_⟩
      have:=(z242 hJ').2
      omega
    | _=>exact hq.trans hs hl
theorem z982 {α : Type} {m n : Nat} {env : List (Nat × AC)} {objs : List AObj} {body : Code} {Q : Exit → St → Prop} (I : α → List (Nat × AC) × List AObj) (ok : α → Prop) (μ : α → Nat) (x0 : α) (h0 : ok x0) (hinit : ∃ π, PickL π m n (mkSt n env objs) (I x0).1 (I x0).2)
    (round:∀ x,ok x→AWP P m body (z655 (fun st'=>∃ y π,ok y∧μ y < μ x∧PickL π m n st' (I y).1 (I y).2) Q) (mkSt n (I x).1 (I x).2)):AWP P m (.loop body) Q (mkSt n env objs) :=
  awp_loop' I ok μ x0 h0 hinit round
def AC.flat (x:AC):Bool:=match x with
 |.sref ..=>false
 |.ptr ..=>false
 |.mref _=>false
 |.fn ..=>false
 |.agg _=>false
 |.tup _=>false
 |_=>true
def z325:List AC→Bool
 |[]=>true
 |x::xs=>match x.flat with
  |true=>z325 xs
  |false=>false
theorem z266 {xs:List AC} : z325 xs=true↔∀ x∈xs,x.flat=true:=by
 induction xs with
 |nil=>simp [z325]
 |cons x xs ih =>
  simp only [z325]
  cases h:x.flat<;>simp [ih,h]
def Flat (es:List (List AC)):Prop:=∀ e∈es,z325 e=true
theorem z39:Flat []:=by simp [Flat]
theorem z235 {e:List AC} {es:List (List AC)} (h:z325 e=true) (k:Flat es):Flat (e::es):=by
 intro x hx
 rcases List.mem_cons.1 hx with rfl|hx
 ·exact h
 ·exact k x hx
theorem z90 {a b:List (List AC)} (h:Flat a) (k:Flat b):Flat (a++b):=by
 intro x hx
 rcases List.mem_append.1 hx with hx|hx
 ·exact h x hx
 ·exact k x hx
theorem z6 {α:Type} {f:α→List AC} {l:List α} (h:∀ a,z325 (f a)=true):Flat (l.map f):=by
 intro x hx
 obtain ⟨a,_,rfl⟩:=List.mem_map.1 hx
 exact h a
theorem z54 {n:Nat} {e:List AC} (h:z325 e=true):Flat (List.replicate n e):=by
 intro x hx
 rw [(List.mem_replicate.1 hx).2];exact h
theorem flat_ren {x:AC} (h:x.flat=true) (r:Nat→Nat):x.ren r=x:=by
 cases x<;>first|rfl|simp [AC.flat] at h
theorem z1043 {x:AC} (h:x.flat=true) (M:Nat):x.under M=true:=by
 cases x<;>first|rfl|simp [AC.flat] at h
theorem z1216 {xs:List AC} (h:z325 xs=true) (r:Nat→Nat):renL r xs=xs:=by
 rw [z179]
 conv=>rhs;rw [← List.map_id xs]
 exact List.map_congr_left fun x hx=>flat_ren (z266.1 h x hx) r
theorem z381 {xs:List AC} (h:z325 xs=true) (M:Nat):z138 M xs=true :=
 z439.2 fun x hx=>z1043 (z266.1 h x hx) M
theorem Flat.ren {w:Nat} {es:List (List AC)} (h:Flat es) (r:Nat→Nat):z126 r (.cells w es)=.cells w es:=by
 simp only [z126,AObj.cells.injEq,true_and]
 conv=>rhs;rw [← List.map_id es]
 exact List.map_congr_left fun x hx=>z1216 (h x hx) r
theorem z37 {M w:Nat} {r:Nat→Nat} {x:AObj} {es:List (List AC)} (h:x=.cells w es) (hf:Flat es):z164 M (.cells w es)∧x=z126 r (.cells w es) :=
 ⟨fun e he=>z381 (hf e he) M,by rw [hf.ren,h]⟩
theorem z45 {w:Nat} {a b:List (List AC)} (h:a=b):AObj.cells w a=.cells w b:=by rw [h]
def z448 (tmps:Array Value):ResultVar→Sem Value
 |.tmp t=>pure (tmps.getD t undef)
 |.cell a t=>do loadVar t (← asAddr (tmps.getD a undef))
theorem z616 (fn : Func) (tmps : Array Value) : results fn tmps = (do
  let vs ← fn.results.mapM (z448 tmps)
  pure (if h:vs.size=1 then vs[0] else .tuple vs)):=rfl
def z437 (T:Tab) (st:St) (rs:List ResultVar) (K:List AC→Prop):Prop:=match rs with
 |[]=>K []
 |.tmp t::rs=>z437 T st rs fun xs=>K (st.env t::xs)
 |.cell x t::rs=>z503 (T t) fun i=>z724 i st (st.env x) fun r _=>z437 T st rs fun xs=>K (r::xs)
theorem z754 {P:Program} {tmps:Array Value} {x t:Nat} {w:World} {u:Value} (h:(Instr.loadAt t (tmps.getD x undef)).run P w=.ok u w):(z448 tmps (.cell x t)).run P w=.ok u w:=by
 have e:z448 tmps (.cell x t)=(do loadVar t (← asAddr (tmps.getD x undef))):=rfl
 rw [e]
 unfold Instr.loadAt at h
 cases hv:tmps.getD x undef with
 |pointer o =>
  rw [hv] at h
  cases o with
  |some a=>exact h
  |none=>simp [Instr.sureAddr,stuck,Sem.run] at h
 |_=>rw [hv] at h;simp [Instr.sureAddr,stuck,Sem.run] at h
theorem z1127 (hT : z135 P T) {G : Ghost} {st : St} {a : Act} {w : World} (hR : Rel G st a w) : ∀ (rs : List ResultVar) (K : List AC → Prop), z437 T st rs K →
  ∃ (xs:List AC) (vs:List Value),(rs.mapM (z448 a.tmps)).run P w=.ok vs w∧vs.length=xs.length∧(∀ (j:Nat) (x:AC),xs[j]?=some x→∃ v,vs[j]?=some v∧V G (hp w) none x v)∧xs.length=rs.length∧K xs:=by
 intro rs
 induction rs with
 |nil=>intro K h;exact ⟨[],[],by simp,rfl,by simp,rfl,h⟩
 |cons r rs ih =>
  intro K h
  have key:∀ (x:AC) (u:Value),(z448 a.tmps r).run P w=.ok u w→V G (hp w) none x u→(z437 T st rs fun xs=>K (x::xs))→∃ (xs:List AC) (vs:List Value),((r::rs).mapM (z448 a.tmps)).run P w=.ok vs w∧vs.length=xs.length∧(∀ (j:Nat) (x:AC),xs[j]?=some x→∃ v,vs[j]?=some v∧V G (hp w) none x v)∧xs.length=(r::rs).length∧K xs:=by
   intro x u hu hx hk
   obtain ⟨xs,vs,h1,h2,h3,h4,h5⟩:=ih _ hk
   refine ⟨x::xs,u::vs,?_,by simp [h2],fun j y hy=>?_,by simp [h4],h5⟩
   ·rw [List.mapM_cons,Sem.run_bind,hu]
    simp only [Result.andThen,Sem.run_bind,h1]
    rfl
   ·cases j with
    |zero=>simp at hy;subst hy;exact ⟨u,by simp,hx⟩
    |succ j=>simpa using h3 j y (by simpa using hy)
  cases r with
  |tmp t=>exact key _ _ rfl (hR.env t) h
  |cell x t =>
   simp only [z437] at h
   obtain ⟨i,hi,h⟩:=z145 hT h
   obtain ⟨res,fp,h1,h2,h3⟩:=z955 hi h
   obtain ⟨u,hu,hv⟩:=h3 G st.objs w _ hR.wf (fun c hc=>(h1 c hc).2) (hR.env x)
   exact key _ _ (z754 hu) hv h2
def z358:List AC→AC
 |[x]=>x
 |xs=>.tup xs
def ACle (r r' : AC):Prop:=∀ (G:Ghost) (h:Nat→Option Obj) (v:Value),V G h none r v→V G h none r' v
theorem ACle.refl (r:AC):ACle r r:=fun _ _ _ h=>h
theorem y5 {r r' : AC} (h:r=r'):ACle r r':=h ▸ ACle.refl r
def z38 (m:Nat) (st:St) (res:AC) (objs' : List AObj) (r:AC):Prop :=
 ∃ π:List Nat,π.Nodup∧z267 m 0 π=true∧res.under π.length=true∧ACle r (res.ren (z65 0 π))∧z539 (fun o x=>z164 π.length x∧st.objs o=z126 (z65 0 π) x) 0 π objs'
def RetQ (T:Tab) (rs:List ResultVar) (m:Nat) (res:AC) (objs' : List AObj) (ex:Exit) (st:St):Prop:=match ex with
 |.normal=>z437 T st rs fun xs=>z38 m st res objs' (z358 xs)
 |.ret=>z437 T st rs fun xs=>z38 m st res objs' (z358 xs)
 |_=>False
theorem ret_ok (hT : z135 P T) {fn : Func} {m : Nat} {res : AC} {objs' : List AObj} {G : Ghost} {st : St} {a : Act} {w : World} (hR : Rel G st a w) (h : z437 T st fn.results.toList fun xs => z38 m st res objs' (z358 xs)) :
    ∃ v G',(results fn a.tmps).run P w=.ok v w∧SubM m G G'∧Wf G' (z47 objs') w∧V G' (hp w) none res v:=by
  obtain ⟨xs,vs,h1,h2,h3,h4,π,hn,hf,hu,hr,ho⟩:=z1127 hT hR _ _ h
  obtain ⟨ho1,ho2⟩:=z316 0 π objs' ho
  have hpick:Wf (G.pick π) (z47 objs') w:=hR.wf.pick hn (fun i o hio=>⟨(ho2 i o hio).2,(ho2 i o hio).1⟩) (fun i hi=>z78 (by omega))
  have hres:(results fn a.tmps).run P w=.ok (if h:vs.toArray.size=1 then vs.toArray[0] else .tuple vs.toArray) w:=by
    rw [z616,Array.mapM_eq_mapM_toList]
    simp [h1]
  have hV:V G (hp w) none (z358 xs) (if h:vs.toArray.size=1 then vs.toArray[0] else .tuple vs.toArray):=by
    by_cases hl:vs.length=1
    · obtain ⟨v,rfl⟩:=List.length_eq_one_iff.1 hl
      obtain ⟨x,rfl⟩:=List.length_eq_one_iff.1 (h2 ▸ hl)
      obtain ⟨v',hv1,hv2⟩:=h3 0 x (by simp)
      simp at hv1;subst hv1
      simpa [z358] using hv2
    · rw [dif_neg (by simpa using hl)]
      have:z358 xs=.tup xs:=by
        unfold z358
        split
        · simp at h2;exact absurd h2 hl
        · rfl
      rw [this]
      simp only [V]
      refine ⟨_,rfl,by simp [h2],z70.2 fun j x hx=>?_⟩
      obtain ⟨v,hv1,hv2⟩:=h3 j x hx
      exact ⟨v,by simpa using hv1,hv2⟩
  have hV:=hr _ _ _ hV
  exact ⟨_,G.pick π,hres,SubM.pick (fun i hi=>by have:=z161 m 0 π hf i hi;simpa using this),hpick,z868 _ hu hV⟩
def z204:Nat→List AC→List (Nat×AC)
 |_,[]=>[]
 |k,x::xs=>(k,x)::z204 (k+1) xs
theorem numbered_eq' (k:Nat) (xs:List AC) (s:Nat):z113 (z204 k xs) (k+s)=z65 .any xs s:=by
 induction xs generalizing k s with
 |nil=>rfl
 |cons x xs ih =>
  cases s with
  |zero=>simp [z204,z113,z65]
  |succ s =>
   have:Nat.beq (k+(s+1)) k=false:=by
    cases hb:Nat.beq (k+(s+1)) k with
    |false=>rfl
    |true=>have:=Nat.eq_of_beq_eq_true hb;omega
   simp only [z204,z113,this,z65]
   rw [show k+(s+1)=(k+1)+s by omega]
   exact ih (k+1) s
theorem z540 (xs:List AC) (s:Nat):z113 (z204 0 xs) s=z65 .any xs s:=by
 have:=numbered_eq' 0 xs s
 rwa [Nat.zero_add] at this
theorem z16 (hT : z135 P T) {f : FuncId} {fn : Func} {c : Code} (hf : P.funcs[f]? = some fn) (hb : fn.body = some c) (hn : (fn.name == "runtime.NumGoroutine") = false) {args : List AC} {objs : List AObj} {res : AC} {objs' : List AObj}
    (n:Nat) (hnt:fn.ntmps=n) (hl:args.length≤n) (h:AWP P objs.length c (RetQ T fn.results.toList objs.length res objs') (mkSt n (z204 0 args) objs)):CallsA P f args objs res objs':=by
  subst hnt
  refine ⟨⟨fn,c,hf,hn,hb⟩,fun G w vs hW hs hv=>?_⟩
  refine z473 hf hb (z200 (h G.split { tmps:=vs++Array.replicate (fn.ntmps - vs.size) undef,defers:=[] } w ⟨hW.split,fun s=>z915 (G:=G) (fun _ _ _ _ e=>z661 e) (fun _ _ e=>e) (h:=hp w) (h':=hp w) ?_,by show _=fn.ntmps;simp;omega,Marks.nil _⟩) fun ex a' w' hq=>?_)
  · show V G (hp w) none (z113 (z204 0 args) s) _
    rw [z540]
    by_cases hsl:s < args.length
    · have hx:args[s]?=some args[s]:=y42 hsl
      obtain ⟨v,hv1,hv2⟩:=z70.1 hv s _ hx
      rw [Nat.zero_add] at hv1
      rw [z72 hx]
      have:(vs++Array.replicate (fn.ntmps - vs.size) undef).getD s undef=v:=by
        rw [y78,Array.getElem?_append,if_pos (by omega),hv1];rfl
      rw [this];exact hv2
    · rw [z78 (by omega)];simp [V]
  · obtain ⟨G',st',h1,h2,h3,h4⟩:=hq
    obtain ⟨Ds,d1,d2,d3,d4,d5,d6⟩:=z776 hW h1.1 h4
    have h1' : SubM objs.length G (G.join G' Ds):=⟨d4,fun o t ho e=>by rw [d5];exact h1.2 o t ho e⟩
    have key:(z437 T st' fn.results.toList fun xs=>z38 objs.length st' res objs' (z358 xs))→LeavesInM Fence.wide 0 P fn a'.tmps (fun e w'=>∃ G'' v',e=.returned v'∧G.Sub G''∧(∀ o t,o < objs.length→G.ι o=some t→G''.ι o=some t)∧Le w w'∧Wf G'' (z47 objs') w'∧V G'' (hp w') none res v') a'.defers .returning w':=by
      intro hr
      obtain ⟨v,G'',h5,h6,h7,h8⟩:=ret_ok hT d6 hr
      have h9:=h1'.trans h6
      rw [d1]
      exact z471 Ds w' d2 d3 ⟨v,h5,G'',v,rfl,h9.1,h9.2,h2.trans (z929 Ds w'),h7,h8⟩
    cases ex with
    | normal=>exact key h3
    | ret=>exact key h3
    | _=>exact h3.elim
end Go.Gl
namespace Go.Gl
variable {P:Program}
def z732:List (Nat×TyI)→Nat→Option TyI
 |[],_=>none
 |(k,x)::rest,t=>match Nat.beq t k with
  |true=>some x
  |false=>z732 rest t
def tabAll (p:Nat→TyI→Prop):List (Nat×TyI)→Prop
 |[]=>True
 |(k,x)::rest=>p k x∧tabAll p rest
theorem tabOk_of {l:List (Nat×TyI)} (h:tabAll (TyOk P) l):z135 P (z732 l):=by
 intro t i ht
 induction l with
 |nil=>simp [z732] at ht
 |cons kx rest ih =>
  obtain ⟨k,x⟩:=kx
  simp only [z732] at ht
  split at ht
  ·rename_i hb;cases ht;rw [Nat.eq_of_beq_eq_true hb];exact h.1
  ·exact ih h.2 ht
theorem z66 {t:Nat} {i:TyI} (h1:P.underlying t=some i.desc) (h2:(P.info? t).map (fun j=>(j.zero,j.size,j.bytes))=some (some i.zero,i.size,i.bytes)):TyOk P t i:=by
 refine ⟨h1,?_⟩
 cases hi:P.info? t with
 |none=>rw [hi] at h2;cases h2
 |some j =>
  rw [hi] at h2
  simp only [Option.map_some,Option.some.injEq,Prod.mk.injEq] at h2
  exact ⟨j,rfl,h2.2.1,h2.2.2,h2.1⟩
end Go.Gl
namespace Go.Gl
section gen
variable {α:Type}
def apW (f:Nat→α):List (Nat×α)→Nat→α
 |[]=>f
 |p::ps=>apW (upd f p.1 p.2) ps
def keys (ws:List (Nat×α)):List Nat:=ws.map Prod.fst
theorem z144 (f:Nat→α) (ws:List (Nat×α)) (l:Nat) (h:l ∉ keys ws):apW f ws l=f l:=by
 induction ws generalizing f with
 |nil=>rfl
 |cons p ps ih =>
  simp only [keys,List.map_cons,List.mem_cons,not_or] at h
  rw [apW,ih _ h.2,z52 _ _ h.1]
theorem z1266 (f g:Nat→α) (ws:List (Nat×α)) (l:Nat) (h:l∈keys ws):apW f ws l=apW g ws l:=by
 induction ws generalizing f g with
 |nil=>simp [keys] at h
 |cons p ps ih =>
  by_cases hp:l∈keys ps
  ·exact ih _ _ hp
  ·rw [apW,apW,z144 _ _ _ hp,z144 _ _ _ hp]
   have:l=p.1:=by
    simp only [keys,List.map_cons,List.mem_cons] at h
    exact h.resolve_right hp
   subst this
   rw [z36,z36]
theorem apW_comm (f:Nat→α) (a b:List (Nat×α)) (h:∀ l,l∈keys a→l ∉ keys b):apW (apW f a) b=apW (apW f b) a:=by
 funext l
 by_cases ha:l∈keys a
 ·rw [z144 _ _ _ (h l ha),z1266 (apW f b) f a l ha]
 ·by_cases hb:l∈keys b
  ·rw [z144 (apW f b) _ _ ha,z1266 (apW f a) f b l hb]
  ·rw [z144 _ _ _ hb,z144 _ _ _ ha,z144 _ _ _ ha,z144 _ _ _ hb]
def runX (wr:Nat→List (Nat×α)) (f:Nat→α) (X:Nat→Bool):Nat→Nat→α
 |0=>f
 |k+1=>match X k with
  |true=>apW (runX wr f X k) (wr k)
  |false=>runX wr f X k
variable {wr:Nat→List (Nat×α)} {f:Nat→α} {X:Nat→Bool}
theorem z366 {k:Nat} (h:X k=true):runX wr f X (k+1)=apW (runX wr f X k) (wr k):=by rw [runX,h]
theorem z466 {k:Nat} (h:X k=false):runX wr f X (k+1)=runX wr f X k:=by rw [runX,h]
theorem runX_ge {l i:Nat} : ∀ n,i≤n→(∀ k,i≤k→k < n→l∈keys (wr k)→X k=false)→runX wr f X n l=runX wr f X i l:=by
  intro n
  induction n with
  | zero => intro h _; have : i = 0 := by omega
            rw [this]
  | succ n ih =>
    intro h hk
    by_cases hn:i=n+1
    · rw [hn]
    · have:=ih (by omega) (fun k h1 h2=>hk k h1 (by omega))
      cases hX:X n with
      | true =>
        rw [z366 hX,z144 _ _ _ (fun hl=>by have:=hk n (by omega) (by omega) hl;rw [this] at hX;cases hX)]
        exact this
      | false=>rw [z466 hX];exact this
theorem runX_all {l:Nat} : ∀ i,(∀ k,k < i→l∈keys (wr k)→X k=true)→runX wr f X i l=runX wr f (fun _=>true) i l:=by
 intro i
 induction i with
 |zero=>intro _;rfl
 |succ i ih =>
  intro hk
  have h1:=ih fun k h=>hk k (by omega)
  rw [z366 (X:=fun _=>true) rfl]
  by_cases hl:l∈keys (wr i)
  ·rw [z366 (hk i (by omega) hl)]
   exact z1266 _ _ _ _ hl
  ·rw [z144 _ _ _ hl]
   cases hX:X i with
   |true=>rw [z366 hX,z144 _ _ _ hl];exact h1
   |false=>rw [z466 hX];exact h1
theorem z750 {l i n:Nat} (hi:i≤n) (h:∀ k,k < n→l∈keys (wr k)→(k < i→X k=true)∧(i≤k→X k=false)):runX wr f X n l=runX wr f (fun _=>true) i l:=by
 rw [runX_ge n hi fun k h1 h2 hl=>(h k h2 hl).2 h1]
 exact runX_all i fun k h1 hl=>(h k (by omega) hl).1 h1
theorem z444 {X' : Nat→Bool} : ∀ i,(∀ k,k < i→X' k=X k)→runX wr f X' i=runX wr f X i:=by
 intro i
 induction i with
 |zero=>intro _;rfl
 |succ i ih =>
  intro h
  have h1:=ih fun k hk=>h k (by omega)
  cases hX:X i with
  |true=>rw [z366 hX,z366 (by rw [h i (by omega)];exact hX),h1]
  |false=>rw [z466 hX,z466 (by rw [h i (by omega)];exact hX),h1]
theorem z938 {i:Nat} {X' : Nat→Bool} (hX:X i=false) (hX' : X' i=true) (hne:∀ k,k≠i→X' k=X k):∀ n,i < n→(∀ l,l∈keys (wr i)→∀ k,i < k→k < n→X k=true→l ∉ keys (wr k))→runX wr f X' n=apW (runX wr f X n) (wr i):=by
 intro n
 induction n with
 |zero=>intro h;omega
 |succ n ih =>
  intro h hk
  by_cases hn:i=n
  ·subst hn
   rw [z466 hX,z366 hX',z444 i fun k hk=>hne k (by omega)]
  ·have h1:=ih (by omega) fun l hl k h1 h2=>hk l hl k h1 (by omega)
   have hne':=hne n (fun e=>hn e.symm)
   cases hXn:X n with
   |true =>
    rw [z366 hXn,z366 (by rw [hne'];exact hXn),h1]
    exact apW_comm _ _ _ fun l hl=>hk l hl n (by omega) (by omega) hXn
   |false=>rw [z466 hXn,z466 (by rw [hne'];exact hXn),h1]
end gen
end Go.Gl
namespace Go.Gl
variable {P:Program} {T:Tab}
structure StepR where
 skip:Bool
 rd:List (Nat×AC)
 fp:List Ch
 res:AC
 deriving Inhabited
def wrE (O:Nat→Oper) (R:Nat→StepR) (i:Nat):List (Nat×AC):=match (O i).dst with
 |some d=>[(d,match (R i).skip with
  |true=>.gone
  |false=>(R i).res)]
 |none=>[]
def wrO (O:Nat→Oper) (R:Nat→StepR) (i:Nat):List (Nat×AObj):=match (R i).skip,z132 (O i).op with
 |false,true=>(R i).fp.map fun c=>(c.o,c.post)
 |_,_=>[]
def z960 (ops:Array Oper) (o:Oper):List Nat:=match o.guard with
 |some (j,_)=>(z606 ops j).toList
 |none=>[]
def z537 (ops:Array Oper) (o:Oper):List Nat:=z766 o.op.operands.toList++z960 ops o
structure Apart (ops:Array Oper) (x y:Oper) (r s:StepR) (ord:Prop):Prop where
 wr:∀ d,x.dst=some d→d∈z537 ops y→ord
 ww:∀ d,x.dst=some d→y.dst=some d→ord
 rw:∀ d,d∈z537 ops x→y.dst=some d→ord
 obj:∀ c c',r.skip=false→s.skip=false→c∈r.fp→c'∈s.fp→c.o=c'.o→(z132 x.op=true∨z132 y.op=true)→ord
structure StepOk (P:Program) (ops:Array Oper) (nt:Nat) (env:Nat→AC) (objs:Nat→AObj) (o:Oper) (r:StepR):Prop where
 dst:∀ d,o.dst=some d→d < nt
 keysR:r.rd.map Prod.fst=z766 o.op.operands.toList
 exec:r.skip=false→OpT P o r.rd r.fp r.res∧(∀ p∈r.rd,env p.1=p.2)∧(∀ c∈r.fp,objs c.o=c.pre∧(z132 o.op=false→c.post=c.pre))
 guard:match o.guard with
  |none=>r.skip=false
  |some (j,want)=>∃ d,z606 ops j=some d∧d < nt∧((∃ b,env d=.raw (.bool b)∧r.skip=!(b == want))∨∃ t,env d=.raw (.tuple t)∧r.skip=true)
structure RegOk (P:Program) (ops:Array Oper) (nt:Nat) (env0:Nat→AC) (objs0:Nat→AObj) (O:Nat→Oper) (R:Nat→StepR) (ord:Nat→Nat→Prop):Prop where
 at_:∀ i,i < ops.size→ops[i]?=some (O i)
 step:∀ i,i < ops.size→StepOk P ops nt (runX (wrE O R) env0 (fun _=>true) i) (runX (wrO O R) objs0 (fun _=>true) i) (O i) (R i)
 apart:∀ i j,i < j→j < ops.size→Apart ops (O i) (O j) (R i) (R j) (ord i j)
 ordE:∀ i j,j < ops.size→ord i j→∃ e∈(O j).after,Region.binds .any e=true∧e.on < j∧(i=e.on∨ord i e.on)
 edges:∀ j,j < ops.size→∀ e∈(O j).after,Region.binds .any e=true→e.on < j
variable {ops:Array Oper} {nt:Nat} {env0:Nat→AC} {objs0:Nat→AObj} {O:Nat→Oper} {R:Nat→StepR} {ord:Nat→Nat→Prop}
def z478 (ops:Array Oper) (O:Nat→Oper) (X:Nat→Bool):Prop:=∀ j,j < ops.size→X j=true→∀ e∈(O j).after,Region.binds .any e=true→X e.on=true
theorem z262 (H:RegOk P ops nt env0 objs0 O R ord) {X:Nat→Bool} (hX:z478 ops O X):∀ j,j < ops.size→X j=true→∀ i,ord i j→X i=true:=by
 intro j
 induction j using Nat.strongRecOn with
 |_ j ih =>
  intro hj hXj i ho
  obtain ⟨e,he,hb,hlt,h⟩:=H.ordE i j hj ho
  have hXe:=hX j hj hXj e he hb
  rcases h with rfl|h
  ·exact hXe
  ·exact ih e.on hlt (by omega) hXe i h
theorem z764 (H:RegOk P ops nt env0 objs0 O R ord) {X:Nat→Bool} (hX:z478 ops O X) {j:Nat} (hj:j < ops.size) (hr:∀ e∈(O j).after,Region.binds .any e=true→X e.on=true):∀ i,ord i j→X i=true:=by
 intro i ho
 obtain ⟨e,he,hb,hlt,h⟩:=H.ordE i j hj ho
 have hXe:=hr e he hb
 rcases h with rfl|h
 ·exact hXe
 ·exact z262 H hX e.on (by omega) hXe i h
theorem z495 {i l:Nat} : l∈keys (wrE O R i)↔(O i).dst=some l:=by
 unfold wrE keys
 cases (O i).dst<;>simp [eq_comm]
theorem readT (H : RegOk P ops nt env0 objs0 O R ord) {X : Nat → Bool} (hX : z478 ops O X) {i : Nat} (hi : i < ops.size) (hXi : X i = false) (hr : ∀ e ∈ (O i).after, Region.binds .any e = true → X e.on = true) {l : Nat} (hl : l ∈ z537 ops (O i)) :
    runX (wrE O R) env0 X ops.size l=runX (wrE O R) env0 (fun _=>true) i l:=by
  refine z750 (by omega) fun k hk hkl=>⟨fun h=>?_,fun h=>?_⟩
  · exact z764 H hX hi hr k ((H.apart k i h hi).wr l (z495.1 hkl) hl)
  · by_cases hki:k=i
    · rw [hki];exact hXi
    · cases hXk:X k with
      | false=>rfl
      | true =>
        have:=z262 H hX k hk hXk i ((H.apart i k (by omega) hk).rw l hl (z495.1 hkl))
        rw [hXi] at this;cases this
theorem z693 {i l:Nat} (h:l∈keys (wrO O R i)):(R i).skip=false∧z132 (O i).op=true∧∃ c∈(R i).fp,c.o=l:=by
 unfold wrO keys at h
 split at h
 ·rename_i h1 h2
  simp at h
  obtain ⟨c,hc,rfl⟩:=h
  exact ⟨h1,h2,c,hc,rfl⟩
 ·simp at h
theorem readO (H : RegOk P ops nt env0 objs0 O R ord) {X : Nat → Bool} (hX : z478 ops O X) {i : Nat} (hi : i < ops.size) (hXi : X i = false) (hr : ∀ e ∈ (O i).after, Region.binds .any e = true → X e.on = true) (hs : (R i).skip = false) {c : Ch} (hc : c ∈ (R i).fp) :
    runX (wrO O R) objs0 X ops.size c.o=runX (wrO O R) objs0 (fun _=>true) i c.o:=by
  refine z750 (by omega) fun k hk hkl=>?_
  obtain ⟨h1,h2,c',hc',he⟩:=z693 hkl
  refine ⟨fun h=>?_,fun h=>?_⟩
  · exact z764 H hX hi hr k ((H.apart k i h hi).obj c' c h1 hs hc' hc he (.inl h2))
  · by_cases hki:k=i
    · rw [hki];exact hXi
    · cases hXk:X k with
      | false=>rfl
      | true =>
        have:=z262 H hX k hk hXk i ((H.apart i k (by omega) hk).obj c c' hs h1 hc hc' he.symm (.inr h2))
        rw [hXi] at this;cases this
theorem addE (H : RegOk P ops nt env0 objs0 O R ord) {X X' : Nat → Bool} (hX : z478 ops O X) {i : Nat} (hi : i < ops.size) (hXi : X i = false) (hX' : X' i = true) (hne : ∀ k, k ≠ i → X' k = X k) :
    runX (wrE O R) env0 X' ops.size=apW (runX (wrE O R) env0 X ops.size) (wrE O R i):=by
  refine z938 hXi hX' hne _ hi fun l hl k h1 h2 hXk hkl=>?_
  have:=z262 H hX k h2 hXk i ((H.apart i k h1 h2).ww l (z495.1 hl) (z495.1 hkl))
  rw [hXi] at this;cases this
theorem addO (H : RegOk P ops nt env0 objs0 O R ord) {X X' : Nat → Bool} (hX : z478 ops O X) {i : Nat} (hi : i < ops.size) (hXi : X i = false) (hX' : X' i = true) (hne : ∀ k, k ≠ i → X' k = X k) :
    runX (wrO O R) objs0 X' ops.size=apW (runX (wrO O R) objs0 X ops.size) (wrO O R i):=by
  refine z938 hXi hX' hne _ hi fun l hl k h1 h2 hXk hkl=>?_
  obtain ⟨h3,h4,c,hc,hcl⟩:=z693 hl
  obtain ⟨h5,h6,c',hc',hcl'⟩:=z693 hkl
  have:=z262 H hX k h2 hXk i ((H.apart i k h1 h2).obj c c' h3 h5 hc hc' (by rw [hcl,hcl']) (.inl h4))
  rw [hXi] at this;cases this
theorem apW_fp (f:Nat→AObj) (fp:List Ch):apW f (fp.map fun c=>(c.o,c.post))=z88 f fp:=by
 induction fp generalizing f with
 |nil=>rfl
 |cons c fp ih=>exact ih _
theorem z1267 {ro : Option Nat} (hro : ro = none ∨ ops.toList.all z197 = true) (H : RegOk P ops nt env0 objs0 O R ord) {Q : Exit → Act → World → Prop} {next m : Nat} {G0 : Ghost} {w0 : World}
    (hQ:∀ G a w,SubM m G0 G→Le w0 w→Rel G ⟨runX (wrE O R) env0 (fun _=>true) ops.size,runX (wrO O R) objs0 (fun _=>true) ops.size,next,nt⟩ a w→Q .normal a w) :
    ∀ (fuel:Nat) (listed:Array Bool) (G:Ghost) (a:Act) (w:World),listed.size=ops.size→((List.range ops.size).countP fun i=>!listed.getD i false)≤fuel→z478 ops O (fun i=>listed.getD i false)→SubM m G0 G→Le w0 w →
      Rel G ⟨runX (wrE O R) env0 (fun i=>listed.getD i false) ops.size,runX (wrO O R) objs0 (fun i=>listed.getD i false) ops.size,next,nt⟩ a w→wpAnyIn (wideR ro) 0 P .any ops Q fuel listed a w:=by
  have allDone : ∀ (listed : Array Bool) (G : Ghost) (a : Act) (w : World), (∀ i, i < ops.size → listed.getD i false = true) → SubM m G0 G → Le w0 w →
      Rel G ⟨runX (wrE O R) env0 (fun i=>listed.getD i false) ops.size,runX (wrO O R) objs0 (fun i=>listed.getD i false) ops.size,next,nt⟩ a w→Q .normal a w:=by
    intro listed G a w hall hs hl hR
    refine hQ G a w hs hl ?_
    rw [z444 (X:=fun i=>listed.getD i false) (X':=fun _=>true) ops.size fun k hk=>(hall k hk).symm,z444 (X:=fun i=>listed.getD i false) (X':=fun _=>true) ops.size fun k hk=>(hall k hk).symm]
    exact hR
  have noneReady:∀ (listed:Array Bool),listed.size=ops.size→Region.ready .any ops listed=[]→∀ i,i < ops.size→listed.getD i false=true:=by
    intro listed hsz hr i
    induction i using Nat.strongRecOn with
    | _ i ih =>
      intro hi
      cases hX:listed.getD i false with
      | true=>rfl
      | false =>
        exfalso
        have hmem:i∈Region.ready .any ops listed:=by
          unfold Region.ready
          simp only [List.mem_filter,y58]
          refine ⟨hi,?_⟩
          have h1:listed.getD i true=false:=by
            rw [y78,Array.getElem?_eq_getElem (by omega)] at hX ⊢;exact hX
          rw [h1,H.at_ i hi]
          simp only [Option.map_some,Option.getD_some,Bool.not_false,Bool.true_and,Array.all_eq_true']
          intro e he
          cases hb:Region.binds .any e with
          | false=>rfl
          | true =>
            have hlt:=H.edges i hi e he hb
            simp [ih e.on hlt (by omega)]
        rw [hr] at hmem;simp at hmem
  intro fuel
  induction fuel with
  | zero =>
    intro listed G a w hsz hcnt hcl hs hl hR
    have hall:∀ i,i < ops.size→listed.getD i false=true:=fun i hi=>by
      have h0:=List.countP_eq_zero.1 (Nat.le_zero.1 hcnt) i (List.mem_range.2 hi)
      simpa using h0
    refine ⟨?_,allDone listed G a w hall hs hl hR⟩
    unfold Region.ready
    rw [List.filter_eq_nil_iff]
    intro i hi
    simp only [y58] at hi
    have h1:listed.getD i true=true:=by
      have:=hall i hi
      rw [y78,Array.getElem?_eq_getElem (by omega)] at this ⊢;exact this
    simp [h1]
  | succ fuel ih =>
    intro listed G a w hsz hcnt hcl hs hl hR
    refine ⟨fun hr=>allDone listed G a w (noneReady listed hsz hr) hs hl hR,fun i hi=>?_⟩
    unfold Region.ready at hi
    simp only [List.mem_filter,y58] at hi
    obtain ⟨hi,hready⟩:=hi
    rw [H.at_ i hi] at hready
    simp only [Option.map_some,Option.getD_some,y68,Bool.not_eq_true',Array.all_eq_true'] at hready
    obtain ⟨hli,hedges⟩:=hready
    have hXi:listed.getD i false=false:=by
      rw [y78,Array.getElem?_eq_getElem (by omega)] at hli ⊢;exact hli
    have hed:∀ e∈(O i).after,Region.binds .any e=true→listed.getD e.on false=true:=by
      intro e he hb
      have:=hedges e he
      simpa [hb] using this
    -- behind the operation
    have hX' : (listed.setIfInBounds i true).getD i false=true:=by
      rw [y78,Array.getElem?_setIfInBounds]
      simp [hsz,hi]
    have hne:∀ k,k≠i→(listed.setIfInBounds i true).getD k false=listed.getD k false:=fun k hk=>by
      rw [y78,y78,Array.getElem?_setIfInBounds]
      simp [Ne.symm hk]
    have hcnt' : ((List.range ops.size).countP fun k=>!(listed.setIfInBounds i true).getD k false)≤fuel:=by
      have key:∀ (l:List Nat),l.Nodup→i∈l→(l.countP fun k=>!(listed.setIfInBounds i true).getD k false)+1≤l.countP fun k=>!listed.getD k false:=by
        intro l
        induction l with
        | nil=>intro _ h;simp at h
        | cons y ys ihl =>
          intro hnd hm
          obtain ⟨hn1,hn2⟩:=List.nodup_cons.1 hnd
          by_cases hy:y=i
          · subst hy
            rw [List.countP_cons_of_neg (by simp [hX']),List.countP_cons_of_pos (by simp [hXi])]
            have:∀ l' : List Nat,y ∉ l'→(l'.countP fun k=>!(listed.setIfInBounds y true).getD k false)=l'.countP fun k=>!listed.getD k false:=by
              intro l' hn
              refine List.countP_congr fun k hk=>?_
              rw [hne k (by rintro rfl;exact hn hk)]
            rw [this ys hn1]
            exact y49 _
          · have hm' : i∈ys:=by simpa [Ne.symm hy] using hm
            have:=ihl hn2 hm'
            rw [List.countP_cons,List.countP_cons,hne y hy]
            omega
      have:=key (List.range ops.size) List.nodup_range (List.mem_range.2 hi)
      omega
    have hcl' : z478 ops O (fun k=>(listed.setIfInBounds i true).getD k false):=by
      intro j hj hXj e he hb
      by_cases hji:j=i
      · subst hji
        have hlt:=H.edges j hj e he hb
        show (listed.setIfInBounds j true).getD e.on false=true
        rw [hne e.on (by omega)]
        exact hed e he hb
      · have hXj' : listed.getD j false=true:=by rw [← hne j hji];exact hXj
        have:=hcl j hj hXj' e he hb
        show (listed.setIfInBounds i true).getD e.on false=true
        by_cases hei:e.on=i
        · rw [hei];exact hX'
        · rw [hne e.on hei];exact this
    have hE:=addE (env0:=env0) H hcl hi hXi (X':=fun k=>(listed.setIfInBounds i true).getD k false) hX' hne
    have hO:=addO (objs0:=objs0) H hcl hi hXi (X':=fun k=>(listed.setIfInBounds i true).getD k false) hX' hne
    have hst:=H.step i hi
    have go:∀ G' a' w',SubM m G0 G'→Le w0 w'→Rel G' ⟨apW (runX (wrE O R) env0 (fun i=>listed.getD i false) ops.size) (wrE O R i),apW (runX (wrO O R) objs0 (fun i=>listed.getD i false) ops.size) (wrO O R i),next,nt⟩ a' w'→wpAnyIn (wideR ro) 0 P .any ops Q fuel (listed.setIfInBounds i true) a' w':=by
      intro G' a' w' hs' hl' hR'
      refine ih (listed.setIfInBounds i true) G' a' w' (by simpa using hsz) hcnt' hcl' hs' hl' ?_
      rw [hE,hO];exact hR'
    have hdE:∀ (v:AC),(match (R i).skip with|true=>AC.gone|false=>(R i).res)=v→∀ f:Nat→AC,z465 f (O i).dst v=apW f (wrE O R i):=by
      intro v hv f
      unfold wrE z465
      cases (O i).dst with
      | none=>rfl
      | some d=>subst hv;rfl
    have hnd:ro=none∨z197 (O i)=true:=hro.imp id fun e=>List.all_eq_true.1 e _ (by have:=H.at_ i hi;exact Array.mem_toList_iff.2 (Array.mem_of_getElem? this))
    unfold wpOpIn
    rw [H.at_ i hi]
    dsimp only
    have run:(R i).skip=false→(O i).wpIn (wideR ro) 0 P a w (wpAnyIn (wideR ro) 0 P .any ops Q fuel (listed.setIfInBounds i true)) Q:=by
      intro hsk
      obtain ⟨h1,h2,h3⟩:=hst.exec hsk
      refine z1144 hnd (h1.run Q _ G _ a w hR (fun p hp=>?_) (fun c hc=>?_) hst.dst fun G' a' w' hg hι hl' hR'=>?_)
      · have hk:p.1∈z766 (O i).op.operands.toList:=by rw [← hst.keysR];exact List.mem_map.2 ⟨p,hp,rfl⟩
        show runX (wrE O R) env0 _ ops.size p.1=p.2
        rw [readT H hcl hi hXi hed (List.mem_append.2 (.inl hk))]
        exact h2 p hp
      · show runX (wrO O R) objs0 _ ops.size c.o=c.pre
        rw [readO H hcl hi hXi hed hsk hc]
        exact (h3 c hc).1
      · refine go G' a' w' (hs.trans ⟨hg,fun o t _ e=>hι o t e⟩) (hl.trans hl') (hR'.same ?_ ?_ rfl)
        · exact (hdE (R i).res (by rw [hsk]) _).symm
        · show apW _ (wrO O R i)=z88 _ (R i).fp
          unfold wrO
          rw [hsk]
          cases hw:z132 (O i).op with
          | true=>exact apW_fp _ _
          | false =>
            show _=_
            refine (z148 _ _ fun c hc=>⟨?_,(h3 c hc).2 hw⟩).symm
            show runX (wrO O R) objs0 _ ops.size c.o=c.pre
            rw [readO H hcl hi hXi hed hsk hc]
            exact (h3 c hc).1
    have skip:(R i).skip=true→wpAnyIn (wideR ro) 0 P .any ops Q fuel (listed.setIfInBounds i true) (a.put (O i).dst undef) w:=by
      intro hsk
      refine go G _ w hs hl ?_
      have:=hR.pure (dst:=(O i).dst) (res:=.gone) (v:=undef) (fp:=[]) hst.dst (by simp [V,undef]) (by simp)
      refine this.same (hdE .gone (by rw [hsk]) _).symm ?_ rfl
      show apW _ (wrO O R i)=_
      unfold wrO
      rw [hsk];rfl
    have hg:=hst.guard
    cases hgd:(O i).guard with
    | none =>
      rw [hgd] at hg
      rw [if_pos (by simp [Region.wanted,hgd])]
      exact run hg
    | some jw =>
      obtain ⟨j,want⟩:=jw
      rw [hgd] at hg
      obtain ⟨d,hd1,hd2,hg⟩:=hg
      have hrd:d∈z537 ops (O i):=List.mem_append.2 (.inr (by simp [z960,hgd,hd1]))
      rcases hg with ⟨b,hd3,hd4⟩|⟨t,hd3,hd4⟩
      · have hb:runX (wrE O R) env0 (fun i=>listed.getD i false) ops.size d=.raw (.bool b):=by
          rw [readT H hcl hi hXi hed hrd];exact hd3
        have hw:=z720 hR hgd hd1 hd2 hb
        rw [hw]
        cases hbw:b == want with
        | true=>simp only [if_true];exact run (by rw [hd4,hbw];rfl)
        | false=>rw [if_neg (by simp)];exact ⟨fun _ _=>trivial,skip (by rw [hd4,hbw];rfl)⟩
      · have hb:runX (wrE O R) env0 (fun i=>listed.getD i false) ops.size d=.raw (.tuple t):=by
          rw [readT H hcl hi hXi hed hrd];exact hd3
        have hw:=z507 hR hgd hd1 hd2 hb
        rw [hw]
        rw [if_neg (by simp)];exact ⟨fun _ _=>trivial,skip hd4⟩
end Go.Gl
namespace Go.Gl
variable {P:Program} {T:Tab}
structure Acc where
 rt:List Nat
 wt:List Nat
 oa:List Nat
 ow:Bool
def z319:List Nat→List Nat→Bool
 |[],_=>false
 |x::xs,ys=>match inB ys x with
  |true=>true
  |false=>z319 xs ys
theorem z493 {xs ys:List Nat} {x:Nat} (h1:x∈xs) (h2:x∈ys):z319 xs ys=true:=by
 induction xs with
 |nil=>simp at h1
 |cons y xs ih =>
  simp only [z319]
  cases hb:inB ys y with
  |true=>rfl
  |false =>
   rcases List.mem_cons.1 h1 with rfl|h1
   ·rw [z286.2 h2] at hb;cases hb
   ·exact ih h1
def z486 (a b:Acc):Bool:=match z319 a.wt b.rt with
 |true=>true
 |false=>match z319 a.wt b.wt with
  |true=>true
  |false=>match z319 a.rt b.wt with
   |true=>true
   |false=>match a.ow || b.ow with
    |true=>z319 a.oa b.oa
    |false=>false
def z293 (bs:List Nat):List Edge→Nat
 |[]=>0
 |e::es=>(match Region.binds .any e with
  |true=>2 ^ e.on ||| bs.getD e.on 0
  |false=>0) ||| z293 bs es
def z213 (j:Nat):List Edge→Bool
 |[]=>true
 |e::es=>match Region.binds .any e with
  |true=>match Nat.blt e.on j with
   |true=>z213 j es
   |false=>false
  |false=>z213 j es
def z578:Nat→List Nat→List Oper→Option (List Nat)
 |_,bs,[]=>some bs
 |j,bs,o::os=>match z213 j o.after.toList with
  |true=>z578 (j+1) (bs++[z293 bs o.after.toList]) os
  |false=>none
def z460 (b:Nat) (y:Acc):Nat→List Acc→Bool
 |_,[]=>true
 |i,x::xs=>match z486 x y with
  |true=>match b.testBit i with
   |true=>z460 b y (i+1) xs
   |false=>false
  |false=>z460 b y (i+1) xs
def pairs (bs:List Nat):List Acc→Nat→List Acc→Bool
 |_,_,[]=>true
 |done,j,y::ys=>match z460 (bs.getD j 0) y 0 done with
  |true=>pairs bs (done++[y]) (j+1) ys
  |false=>false
def z40 (ops:Array Oper) (accs:List Acc):Bool:=match z578 0 [] ops.toList with
 |some bs=>pairs bs [] 0 accs
 |none=>false
theorem z824 {b:Nat} {y:Acc} : ∀ (xs:List Acc) (i:Nat),z460 b y i xs=true→∀ k x,xs[k]?=some x→z486 x y=true→b.testBit (i+k)=true:=by
 intro xs
 induction xs with
 |nil=>intro i _ k x h;simp at h
 |cons x0 xs ih =>
  intro i h k x hk hc
  simp only [z460] at h
  cases k with
  |zero =>
   simp at hk;subst hk
   rw [hc] at h
   dsimp only at h
   split at h
   ·rename_i hb;simpa using hb
   ·cases h
  |succ k =>
   have:z460 b y (i+1) xs=true:=by
    split at h
    ·split at h
     ·exact h
     ·cases h
    ·exact h
   have:=ih (i+1) this k x (by simpa using hk) hc
   rwa [show i+(k+1)=i+1+k by omega]
theorem z1014 {bs:List Nat} : ∀ (ys done:List Acc),pairs bs done done.length ys=true→∀ i j x y,i < j→done.length≤j→(done++ys)[i]?=some x→(done++ys)[j]?=some y→z486 x y=true→(bs.getD j 0).testBit i=true:=by
 intro ys
 induction ys with
 |nil =>
  intro done _ i j x y _ hj _ hy
  rw [y62,y66 hj] at hy;cases hy
 |cons y0 ys ih =>
  intro done h i j x y hij hj hx hy hc
  simp only [pairs] at h
  split at h
  ·rename_i hag
   by_cases hjd:j=done.length
   ·subst hjd
    rw [y64 (y49 _)] at hy
    simp at hy;subst hy
    rw [y63 hij] at hx
    have:=z824 done 0 hag i x hx hc
    rwa [Nat.zero_add] at this
   ·have h2:=ih (done++[y0]) (by simpa using h) i j x y hij (by simp;omega) (by simpa using hx) (by simpa using hy) hc
    exact h2
  ·cases h
theorem z705 {bs:List Nat} {i:Nat} : ∀ (es:List Edge),(z293 bs es).testBit i=true→∃ e∈es,Region.binds .any e=true∧(i=e.on∨(bs.getD e.on 0).testBit i=true):=by
 intro es
 induction es with
 |nil=>intro h;simp [z293] at h
 |cons e es ih =>
  intro h
  simp only [z293,Nat.testBit_or,Bool.or_eq_true] at h
  rcases h with h|h
  ·split at h
   ·rename_i hb
    rw [Nat.testBit_or,Bool.or_eq_true] at h
    refine ⟨e,by simp,hb,?_⟩
    rcases h with h|h
    ·left
     rw [Nat.testBit_two_pow] at h
     simpa [eq_comm] using h
    ·exact .inr h
   ·simp at h
  ·obtain ⟨e',h1,h2⟩:=ih h
   exact ⟨e',by simp [h1],h2⟩
theorem z327 {j:Nat} : ∀ (es:List Edge),z213 j es=true→∀ e∈es,Region.binds .any e=true→e.on < j:=by
 intro es
 induction es with
 |nil=>intro _ e h;simp at h
 |cons e0 es ih =>
  intro h e he hb
  simp only [z213] at h
  rcases List.mem_cons.1 he with rfl|he
  ·rw [hb] at h
   dsimp only at h
   split at h
   ·rename_i hl;simpa [Nat.blt_eq] using hl
   ·cases h
  ·refine ih ?_ e he hb
   split at h
   ·split at h
    ·exact h
    ·cases h
   ·exact h
theorem z823 : ∀ (os : List Oper) (bs : List Nat) (r : List Nat), z578 bs.length bs os = some r → (∀ k, k < bs.length → r[k]? = bs[k]?) ∧ r.length = bs.length + os.length ∧
  ∀ k o,os[k]?=some o→z213 (bs.length+k) o.after.toList=true∧∃ bs',r[bs.length+k]?=some (z293 bs' o.after.toList)∧∀ q,q < bs.length+k→bs'.getD q 0=r.getD q 0:=by
 intro os
 induction os with
 |nil=>intro bs r h;simp only [z578,Option.some.injEq] at h;subst h;exact ⟨fun _ _=>rfl,by simp,fun k o h=>by simp at h⟩
 |cons o0 os ih =>
  intro bs r h
  simp only [z578] at h
  split at h
  ·rename_i hb
   have hlen:(bs++[z293 bs o0.after.toList]).length=bs.length+1:=by simp
   rw [← hlen] at h
   obtain ⟨h1,h2,h3⟩:=ih _ r h
   rw [hlen] at h1 h2 h3
   refine ⟨fun k hk=>by rw [h1 k (by omega),y63 hk],by simp [h2];omega,fun k o ho=>?_⟩
   cases k with
   |zero =>
    simp at ho;subst ho
    refine ⟨by simpa using hb,bs,?_,fun q hq=>?_⟩
    ·rw [Nat.add_zero,h1 _ (by omega)];simp
    ·rw [y65,y65,h1 q (by omega),y63 (by omega)]
   |succ k =>
    have:=h3 k o (by simpa using ho)
    rw [show bs.length+(k+1)=bs.length+1+k by omega]
    exact this
  ·cases h
end Go.Gl
