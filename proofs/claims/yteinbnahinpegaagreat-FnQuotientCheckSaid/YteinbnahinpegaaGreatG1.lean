/- A part of the proofs over this program: GlH5, GlH6, GlH7, GlH8, GlH9, GlN1, GlN2, GlN3, GlN4, GlKR, GlL, GlM, GlN, GlO, GlP. -/
import Derived.Test.YteinbnahinpegaaGreatG0
import Derived.Laws.StructEq
import Derived.Laws.Entries
import Derived.TacticsIn
import Derived.OrdersIn
import Derived.RangeFuncLeaves
import Derived.RangeFuncRecord
set_option linter.all false
namespace Go.Gl
variable {P:Program} {T:Tab} {dst:Option Tmp} {type:TypeId} {pos:String} {after:Array Edge} {guard:Option (Nat×Bool)} {st:St} {K:OpK}
def z252 (d:Int) (x:Option Value) (n:Int):Prop:=match x with
 |none=>n=d
 |some v=>∃ k,v=.int k n
theorem z502 {len cap : Nat} {lo hi mx : Option Value} {l h m : Int} {w : World} (hl : z252 0 lo l) (hh : z252 len hi h) (hm : z252 cap mx m) (hx : hi = none → mx = none) (h0 : 0 ≤ l) (h1 : l ≤ h) (h2 : h ≤ m) (h3 : m ≤ cap) :
    (Instr.sliceBounds true len cap lo hi mx).run P w=.ok (l.toNat,h.toNat,m.toNat) w:=by
  have hm0:((m.toNat:Nat):Int)=m:=Int.toNat_of_nonneg (by omega)
  have hh0:((h.toNat:Nat):Int)=h:=Int.toNat_of_nonneg (by omega)
  cases hi with
  | none =>
    have:=hx rfl
    subst this
    simp only [z252] at hh hm
    subst hh;subst hm
    cases lo with
    | none=>simp only [z252] at hl;subst hl;simp [Instr.sliceBounds]
    | some v =>
      obtain ⟨k,rfl⟩:=hl
      have hb:=z241 (P:=P) (k:=k) (n:=l) (y:=len) (code:=.sliceB) (w:=w) h0 (by omega)
      simp [Instr.sliceBounds,hb]
  | some v =>
    obtain ⟨k,rfl⟩:=hh
    cases mx with
    | none =>
      simp only [z252] at hm;subst hm
      have hb:=z241 (P:=P) (k:=k) (n:=h) (y:=cap) (code:=.sliceAcap) (w:=w) (by omega) (by omega)
      cases lo with
      | none=>simp only [z252] at hl;subst hl;simp [Instr.sliceBounds,hb]
      | some v =>
        obtain ⟨k',rfl⟩:=hl
        have hb':=z241 (P:=P) (k:=k') (n:=l) (y:=h.toNat) (code:=.sliceB) (w:=w) h0 (by omega)
        simp [Instr.sliceBounds,hb,hb']
    | some v =>
      obtain ⟨k2,rfl⟩:=hm
      have hb2:=z241 (P:=P) (k:=k2) (n:=m) (y:=cap) (code:=.slice3Acap) (w:=w) (by omega) (by omega)
      have hb:=z241 (P:=P) (k:=k) (n:=h) (y:=m.toNat) (code:=.slice3B) (w:=w) (by omega) (by omega)
      cases lo with
      | none=>simp only [z252] at hl;subst hl;simp [Instr.sliceBounds,hb,hb2]
      | some v =>
        obtain ⟨k',rfl⟩:=hl
        have hb':=z241 (P:=P) (k:=k') (n:=l) (y:=h.toNat) (code:=.slice3C) (w:=w) h0 (by omega)
        simp [Instr.sliceBounds,hb,hb',hb2]
theorem z149 {t e : TypeId} {i ei : TyI} {a : Option Addr} {len cap : Nat} {lo hi mx : Option Value} {l h m : Int} {w : World} (ht : TyOk P t i) (hd : i.desc = .slice e) (he : TyOk P e ei) (hl : z252 0 lo l) (hh : z252 len hi h) (hm : z252 cap mx m) (hx : hi = none → mx = none)
    (h0:0≤l) (h1:l≤h) (h2:h≤m) (h3:m≤cap) :
    (Instr.sliceAt t (.slice a len cap) lo hi mx).run P w=.ok (.slice (if m.toNat=l.toNat then a else a.map (·.add (l.toNat * ei.size))) (h.toNat - l.toNat) (m.toNat - l.toNat)) w:=by
  simp only [Instr.sliceAt,Sem.run_bind,ht.und,hd,Result.andThen]
  simp only [Instr.slice,Sem.run_bind,ht.und,hd,Result.andThen]
  rw [z502 hl hh hm hx h0 h1 h2 h3]
  simp only [Result.andThen,Sem.run_bind,he.size,Sem.run_pure]
def z270 (d:Int):Option AC→Option Int
 |none=>some d
 |some (.raw (.int _ n))=>some n
 |_=>none
def z1132 (hi mx:Option AC):Bool:=match hi,mx with
 |none,some _=>false
 |_,_=>true
def z1034 (wd:Nat) (st:St) (x:AC) (lo hi mx:Option AC) (K:OpK):Prop:=z67 (z1132 hi mx) (match x with
 |.list w n es=>z67 (Nat.beq w wd) (match z270 0 lo,z270 n hi with
  |some l,some h=>(match mx with
   |none=>(0≤l∧l≤h∧h≤n)∧K (.list w (h.toNat - l.toNat) ((es.drop l.toNat).take (h.toNat - l.toNat))) []
   |some m=>match z270 0 (some m) with
    |some m=>(0≤l∧l≤h∧h≤m∧m≤n)∧K (.list w (h.toNat - l.toNat) ((es.drop l.toNat).take (h.toNat - l.toNat))) []
    |none=>False)
  |_,_=>False)
 |.sref o off n=>match st.objs o with
  |.cells w _=>z67 (Nat.beq w wd) (match z270 0 lo,z270 n hi with
   |some l,some h=>(match mx with
    |none=>(0≤l∧l≤h∧h≤n)∧K (.sref o (l.toNat+off) (h.toNat - l.toNat)) [st.rd o]
    |some m=>match z270 0 (some m) with
     |some m=>(0≤l∧l≤h∧h≤m∧m≤n)∧K (.sref o (l.toNat+off) (h.toNat - l.toNat)) [st.rd o]
     |none=>False)
   |_,_=>False)
  |_=>False
 |.raw (.slice none 0 0)=>match z270 0 lo,z270 0 hi,z270 0 mx with
  |some l,some h,some m=>(l=0∧h=0∧m=0)∧K .nils []
  |_,_,_=>False
 |_=>False)
def OptV (G:Ghost) (h:Nat→Option Obj) (x:Option AC) (v:Option Value):Prop:=match x,v with
 |none,none=>True
 |some c,some u=>V G h none c u
 |_,_=>False
theorem z304 {G:Ghost} {h:Nat→Option Obj} {d:Int} {x:Option AC} {v:Option Value} {n:Int} (hb:z270 d x=some n) (hv:OptV G h x v):z252 d v n:=by
 cases x with
 |none=>cases v with
  |none=>simp [z270] at hb;exact hb.symm
  |some _=>exact hv.elim
 |some c=>cases v with
  |none=>exact hv.elim
  |some u =>
   cases c<;>simp only [z270] at hb<;>try cases hb
   rename_i r
   cases r<;>simp at hb
   subst hb
   simp only [OptV] at hv
   rw [z98] at hv
   exact ⟨_,hv⟩
theorem z811 {t e : TypeId} {i ei : TyI} {x : Operand} {lo hi mx : Option Operand} (ht : TyOk P t i) (hd : i.desc = .slice e) (he : TyOk P e ei)
    (h:z1034 ei.size st (st.ev x) (lo.map st.ev) (hi.map st.ev) (mx.map st.ev) K):z102 P st ⟨dst,.slice t x lo hi mx,type,pos,after,guard⟩ K:=by
  obtain ⟨hboth,h⟩:=z26 h
  have hno:∀ a:Act,hi.map a.eval=none→mx.map a.eval=none:=by
    intro a hn
    cases hi with
    | none=>cases mx with
      | none=>rfl
      | some _=>simp [z1132] at hboth
    | some _=>simp at hn
  have hops:∀ y,(lo=some y∨hi=some y∨mx=some y∨x=y)→y∈(Op.operands (.slice t x lo hi mx)).toList:=by
    intro y hy
    rcases hy with rfl|rfl|rfl|rfl<;>simp [Op.operands]
  have hopt : ∀ (G : Ghost) (a : Act) (w : World) (z : Option Operand), (∀ y, z = some y → y ∈ (Op.operands (.slice t x lo hi mx)).toList) → (∀ y ∈ (Op.operands (.slice t x lo hi mx)).toList, V G (hp w) none (st.ev y) (a.eval y)) →
      OptV G (hp w) (z.map st.ev) (z.map a.eval):=by
    intro G a w z hz hV
    cases z with
    | none=>trivial
    | some y=>exact hV y (hz y rfl)
  have step:∀ ρ,execOp ρ ⟨dst,.slice t x lo hi mx,type,pos,after,guard⟩=(do pure (.value (← Instr.sliceAt t (ρ x) (lo.map ρ) (hi.map ρ) (mx.map ρ)))):=fun ρ=>rfl
  have hmx : ∀ (G : Ghost) (a : Act) (w : World) (cap : Nat) (n hh m : Int), (∀ y ∈ (Op.operands (.slice t x lo hi mx)).toList, V G (hp w) none (st.ev y) (a.eval y)) → hh ≤ n → n ≤ cap → (mx = none ∨ (z270 0 (mx.map st.ev) = some m ∧ mx ≠ none ∧ hh ≤ m ∧ m ≤ n)) →
      ∃ m' : Int,z252 cap (mx.map a.eval) m'∧hh≤m'∧m'≤cap:=by
    intro G a w cap n hh m hxs h1 h2 hm
    rcases hm with hm|⟨hm1,hm2,hm3,hm4⟩
    · subst hm;exact ⟨cap,rfl,by omega,by omega⟩
    · have:=z304 hm1 (hopt G a w mx (fun y hy=>hops y (.inr (.inr (.inl hy)))) hxs)
      refine ⟨m,?_,hm3,by omega⟩
      cases mx with
      | none=>exact absurd rfl hm2
      | some y=>exact this
  split at h
  · rename_i wd n es hx
    obtain ⟨hw,h⟩:=z26 h
    have hw:=Nat.eq_of_beq_eq_true hw
    have key : ∀ (l hh m : Int), z270 0 (lo.map st.ev) = some l → z270 n (hi.map st.ev) = some hh → 0 ≤ l → l ≤ hh → hh ≤ n → (mx = none ∨ (z270 0 (mx.map st.ev) = some m ∧ mx ≠ none ∧ hh ≤ m ∧ m ≤ n)) → K (.list wd (hh.toNat - l.toNat) ((es.drop l.toNat).take (hh.toNat - l.toNat))) [] →
        z102 P st ⟨dst,.slice t x lo hi mx,type,pos,after,guard⟩ K:=by
      intro l hh m hl hhh h0 h1 h2 hm hk
      refine z77 _ step hk fun G a w hxs=>?_
      have hv:=hxs x (hops x (.inr (.inr (.inr rfl))))
      rw [hx] at hv;simp only [V] at hv
      obtain ⟨ad,cap,hv,hcap,hn,hes⟩:=hv
      have hbl:=z304 hl (hopt G a w lo (fun y hy=>hops y (.inl hy)) hxs)
      have hbh:=z304 hhh (hopt G a w hi (fun y hy=>hops y (.inr (.inl hy))) hxs)
      obtain ⟨m',hm1,hm2,hm3⟩:=hmx G a w cap n hh m hxs h2 (by omega) hm
      refine ⟨_,by rw [hv];exact z149 ht hd he hbl hbh hm1 (hno a) h0 h1 hm2 hm3,?_⟩
      simp only [V]
      refine ⟨_,_,rfl,by omega,by simp;omega,?_⟩
      rcases hes with hes|⟨b,off,c,el,fz,h6,h7,h8⟩
      · subst hes;exact .inl (by simp)
      · by_cases hz:hh.toNat - l.toNat=0
        · exact .inl (by rw [hz];simp)
        · refine .inr ⟨b,off+l.toNat * ei.size,c,el,fz,?_,h7,?_⟩
          · rw [if_neg (by omega),h6];simp [z447]
          · rw [z66] at h8 ⊢
            intro i e he'
            rw [List.getElem?_take] at he'
            split at he'
            · rw [List.getElem?_drop] at he'
              have:=h8 _ e he'
              rw [Nat.add_mul,← Nat.add_assoc,hw] at this
              rw [hw];exact this
            · cases he'
    split at h
    · rename_i l hh hl hhh
      split at h
      · rename_i hmn
        obtain ⟨⟨h0,h1,h2⟩,hk⟩:=h
        exact key l hh 0 hl hhh h0 h1 h2 (.inl (by cases mx<;>simp_all)) hk
      · rename_i m hms
        split at h
        · rename_i m' hm'
          obtain ⟨⟨h0,h1,h2,h3⟩,hk⟩:=h
          exact key l hh m' hl hhh h0 h1 (by omega) (.inr ⟨by rw [hms];exact hm',by rintro rfl;simp at hms,h2,h3⟩) hk
        · exact h.elim
    · exact h.elim
  · rename_i o off n hx
    split at h
    rotate_left
    · exact h.elim
    rename_i wd es hob
    obtain ⟨hw,h⟩:=z26 h
    have hw:=Nat.eq_of_beq_eq_true hw
    have key : ∀ (l hh m : Int), z270 0 (lo.map st.ev) = some l → z270 n (hi.map st.ev) = some hh → 0 ≤ l → l ≤ hh → hh ≤ n → (mx = none ∨ (z270 0 (mx.map st.ev) = some m ∧ mx ≠ none ∧ hh ≤ m ∧ m ≤ n)) → K (.sref o (l.toNat + off) (hh.toNat - l.toNat)) [st.rd o] →
        z102 P st ⟨dst,.slice t x lo hi mx,type,pos,after,guard⟩ K:=by
      intro l hh m hl hhh h0 h1 h2 hm hk
      refine ⟨_,[st.rd o],OpT.val _ step (by simp [St.rd]) (fun G objs a w hwf hob' hxs=>?_),by simp [St.rd],hk⟩
      have hob2:objs o=.cells wd es:=by have:=hob' (st.rd o) (by simp);simp only [St.rd] at this;rw [this,hob]
      have hv:=hxs x (hops x (.inr (.inr (.inr rfl))))
      rw [hx] at hv;simp only [V] at hv
      obtain ⟨cap,hcap,hv⟩:=hv
      have hbl:=z304 hl (hopt G a w lo (fun y hy=>hops y (.inl hy)) hxs)
      have hbh:=z304 hhh (hopt G a w hi (fun y hy=>hops y (.inr (.inl hy))) hxs)
      obtain ⟨m',hm1,hm2,hm3⟩:=hmx G a w cap n hh m hxs h2 (by omega) hm
      rcases hv with ⟨hc0,ad,hv⟩|⟨b,size,w',hι,hsz,hv⟩
      · subst hc0
        have hn0:n=0:=by omega
        subst hn0
        refine ⟨_,by rw [hv];exact z149 ht hd he hbl hbh hm1 (hno a) h0 h1 hm2 hm3,?_⟩
        simp only [V]
        exact ⟨m'.toNat - l.toNat,by omega,.inl ⟨by omega,if m'.toNat=l.toNat then ad else ad.map (·.add (l.toNat * ei.size)),by
          rw [show hh.toNat - l.toNat=0 by omega,show m'.toNat - l.toNat=0 by omega]⟩⟩
      · have hwd:w'=wd:=by
          have:=hwf.objs o
          rw [hob2] at this
          rcases this with ⟨_,h7⟩|⟨b',s',c',el',h7,_⟩
          · rw [hι] at h7;cases h7
          · rw [hι] at h7;cases h7;rfl
        subst hwd
        refine ⟨_,by rw [hv];exact z149 ht hd he hbl hbh hm1 (hno a) h0 h1 hm2 hm3,?_⟩
        simp only [V]
        refine ⟨m'.toNat - l.toNat,by omega,?_⟩
        by_cases hml:m'.toNat=l.toNat
        · exact .inl ⟨by omega,some ⟨b,off * w',none⟩,by rw [if_pos hml,show hh.toNat - l.toNat=0 by omega,show m'.toNat - l.toNat=0 by omega]⟩
        · refine .inr ⟨b,size,w',hι,?_,?_⟩
          · refine Nat.le_trans (Nat.mul_le_mul_right _ ?_) hsz
            omega
          · rw [if_neg hml,← hw]
            simp only [Option.map_some,z447,Nat.add_mul,Nat.add_comm]
    split at h
    · rename_i l hh hl hhh
      split at h
      · rename_i hmn
        obtain ⟨⟨h0,h1,h2⟩,hk⟩:=h
        exact key l hh 0 hl hhh h0 h1 h2 (.inl (by cases mx<;>simp_all)) hk
      · rename_i m hms
        split at h
        · rename_i m' hm'
          obtain ⟨⟨h0,h1,h2,h3⟩,hk⟩:=h
          exact key l hh m' hl hhh h0 h1 (by omega) (.inr ⟨by rw [hms];exact hm',by rintro rfl;simp at hms,h2,h3⟩) hk
        · exact h.elim
    · exact h.elim
  · rename_i hx
    split at h
    · rename_i l hh m hl hhh hm
      obtain ⟨⟨rfl,rfl,rfl⟩,hk⟩:=h
      refine z77 _ step hk fun G a w hxs=>?_
      have hv:=hxs x (hops x (.inr (.inr (.inr rfl))))
      rw [hx,z98] at hv
      have hbl:=z304 hl (hopt G a w lo (fun y hy=>hops y (.inl hy)) hxs)
      have hbh:=z304 hhh (hopt G a w hi (fun y hy=>hops y (.inr (.inl hy))) hxs)
      have hbm:=z304 hm (hopt G a w mx (fun y hy=>hops y (.inr (.inr (.inl hy)))) hxs)
      refine ⟨_,by rw [hv];exact z149 ht hd he hbl hbh hbm (hno a) (by omega) (by omega) (by omega) (by omega),?_⟩
      rw [z98];simp
    · exact h.elim
  · exact h.elim
end Go.Gl
namespace Go.Gl
variable {P:Program} {T:Tab} {dst:Option Tmp} {type:TypeId} {pos:String} {after:Array Edge} {guard:Option (Nat×Bool)} {st:St} {K:OpK}
def Stor (es:List (List AC)):Prop:=∀ e∈es,z91 e=true
theorem z32:Stor []:=by simp [Stor]
theorem z25 {e:List AC} {es:List (List AC)} (h:z91 e=true) (k:Stor es):Stor (e::es):=by
 intro x hx
 rcases List.mem_cons.1 hx with rfl|hx
 ·exact h
 ·exact k x hx
theorem z106 {α:Type} {f:α→List AC} {l:List α} (h:∀ a,z91 (f a)=true):Stor (l.map f):=by
 intro x hx
 obtain ⟨a,_,rfl⟩:=List.mem_map.1 hx
 exact h a
def z788 (P:Program) (G:Ghost) (w:World) (size:Nat) (x:Value) (m:Nat) (news:Array Value) (es:List (List AC)):Prop :=
 (∀ w' : World,w'.heap=w.heap→(Builtin.lenOf x).run P w'=.ok m w')∧(∀ w' : World,w'.heap=w.heap→(Builtin.firstCells size m x).run P w'=.ok news w') ∧
 news.size=m * size∧VLL G (hp w) none size es news 0∧es.length=m∧∀ u∈news.toList,u.oneCell=true
theorem z353 {G:Ghost} {h:Nat→Option Obj} {l:Loc} {w:Nat} {es:List (List AC)} {c:Array Value} {off:Nat} (hc:VLL G h none w es c off):VLL G h none w es (c.extract off (off+es.length * w)) 0:=by
 rw [z66] at hc ⊢
 intro i e he
 obtain ⟨h1,h2⟩:=hc i e he
 have hi:i < es.length:=by
  rcases y66 i es.length with h|h
  ·exact h
  ·rw [y65 h] at he;cases he
 refine ⟨h1,z63.2 fun j x hx=>?_⟩
 obtain ⟨v,hv1,hv2⟩:=z63.1 h2 j x hx
 have hj:j < w:=by
  rw [← h1]
  rcases y66 j e.length with h|h
  ·exact h
  ·rw [y65 h] at hx;cases hx
 refine ⟨v,?_,hv2⟩
 have hb:(i+1) * w≤es.length * w:=Nat.mul_le_mul_right _ hi
 rw [Nat.add_mul] at hb
 have hsz:=(Array.getElem?_eq_some_iff.1 hv1).1
 rw [Array.getElem?_extract,if_pos (by omega)]
 rw [show off+(0+i * w+j)=off+i * w+j by omega];exact hv1
theorem z1191 {G:Ghost} {h:Nat→Option Obj} {w:Nat} {es:List (List AC)} {c:Array Value} (hs:Stor es) (hc:VLL G h none w es c 0) (hsz:c.size=es.length * w):∀ u∈c.toList,u.oneCell=true:=by
 intro u hu
 obtain ⟨k,hk,rfl⟩:=List.getElem_of_mem hu
 simp at hk
 rw [hsz] at hk
 have hw:0 < w:=by
  rcases Nat.eq_zero_or_pos w with h|h
  ·subst h;simp at hk
  ·exact h
 have hi:k / w < es.length:=by
  rw [Nat.div_lt_iff_lt_mul hw];exact hk
 obtain ⟨h1,h2⟩:=z66.1 hc (k / w) es[k / w] (y41 hi)
 have hj:k % w < es[k / w].length:=by rw [h1];exact Nat.mod_lt _ hw
 obtain ⟨v,hv1,hv2⟩:=z63.1 h2 (k % w) es[k / w][k % w] (y41 hj)
 rw [show 0+k / w * w+k % w=k by rw [Nat.zero_add];exact Nat.div_add_mod' k w] at hv1
 have:c.toList[k]'(by simpa [hsz] using hk)=v:=by
  have:=(Array.getElem?_eq_some_iff.1 hv1).2
  simpa using this
 rw [this]
 exact z282 (z159.1 (hs _ (y40 hi)) _ (y40 hj)) hv2
theorem z943 {G:Ghost} {h:Nat→Option Obj} {l:Loc} {w:Nat} {es:List (List AC)} {c:Array Value} {off:Nat} (hw:0 < w) (hc:VLL G h l w es c off) (hne:es≠[]):off+es.length * w≤c.size:=by
 have hl:0 < es.length:=List.length_pos_iff.2 hne
 obtain ⟨h1,h2⟩:=z66.1 hc (es.length - 1) es[es.length - 1] (y41 (by omega))
 have:=z481 h2 (by intro e;rw [e] at h1;simp at h1;omega)
 rw [h1] at this
 have e:es.length * w=(es.length - 1) * w+w:=by
  rw [← Nat.succ_mul];congr 1;omega
 omega
theorem z1105 {G:Ghost} {w:World} {size n:Nat} {es:List (List AC)} {v:Value} (hw:0 < size) (hS:∀ b x,G.S b=some x→w.heap[b]?=some x) (hs:Stor es) (hv:V G (hp w) none (.list size n es) v):∃ news,z788 P G w size v n news es:=by
 simp only [V] at hv
 obtain ⟨a,cap,rfl,hcap,hn,hes⟩:=hv
 by_cases he:es=[]
 ·subst he
  have hn:n=0:=by simpa using hn.symm
  subst hn
  exact ⟨#[],fun w' _=>rfl,fun w' _=>z82,by simp,by simp [VLL],rfl,by simp⟩
 ·rcases hes with hes|⟨b,off,c,el,fz,rfl,hb,hc⟩
  ·exact absurd hes he
  ·have hbd:=z943 hw hc he
   have hc':=VLL_none' hc
   refine ⟨c.extract off (off+es.length * size),fun w' _=>rfl,fun w' hh=>?_,by simp;rw [← hn];omega,z353 (l:=none) hc',hn,z1191 hs (z353 (l:=none) hc') (by simp;omega)⟩
   rw [← hn]
   exact z231 (by rw [hh];exact hS b _ hb) (by omega)
where
 VLL_none' {G:Ghost} {h:Nat→Option Obj} {w:Nat} {es:List (List AC)} {c:Array Value} {off:Nat} (hc:VLL G.bare h none w es c off):VLL G h none w es c off:=by
  have:=z172 es G.bare G h h id (fun _=>False) (fun _ _ e=>e) (fun _ _ e=>by cases e) (fun _ _ _=>rfl) (fun _ _ _ h=>h) (fun _ _ h=>h.elim) none w c off (by simp) hc
  exact this
theorem z952 {es:List (List AC)} (hs:Stor es) {e:List AC} (he:e∈es) {x:AC} (hx:x∈e):x.isOwn=false:=by
 have:=z159.1 (hs e he) x hx
 cases x<;>simp_all [z310,AC.isOwn]
theorem z1104 {G:Ghost} {objs:Nat→AObj} {w:World} {size n o:Nat} {es:List (List AC)} {v:Value} (hw:0 < size) (hW:Wf G objs w) (ho:objs o=.cells size es) (hn:es.length=n) (hs:Stor es) (hv:V G (hp w) none (.sref o 0 n) v):∃ news,z788 P G w size v n news es:=by
 by_cases he:es=[]
 ·subst he
  have hn:n=0:=by simpa using hn.symm
  subst hn
  simp only [V] at hv
  obtain ⟨cap,_,hv⟩:=hv
  have:∃ a k,v=.slice a 0 k:=by
   rcases hv with ⟨_,a,rfl⟩|⟨_,_,_,_,_,rfl⟩
   ·exact ⟨_,_,rfl⟩
   ·exact ⟨_,_,rfl⟩
  obtain ⟨a,k,rfl⟩:=this
  exact ⟨#[],fun w' _=>rfl,fun w' _=>z82,by simp,by simp [VLL],rfl,by simp⟩
 ·have hob:=hW.objs o
  rw [ho] at hob
  rcases hob with ⟨h1,_⟩|⟨b,sz,c,el,h1,h2,h3,h4,h5⟩
  ·exact absurd h1 he
  ·have hbd:=z943 hw h5 he
   have h5' : VLL G (hp w) none size es c 0:=by
    rw [z66] at h5 ⊢
    intro i e hie
    obtain ⟨h6,h7⟩:=h5 i e hie
    refine ⟨h6,z63.2 fun j x hx=>?_⟩
    obtain ⟨u,hu1,hu2⟩:=z63.1 h7 j x hx
    exact ⟨u,hu1,z1189 (z952 hs (List.mem_of_getElem? hie) (List.mem_of_getElem? hx)) hu2⟩
   simp only [V] at hv
   obtain ⟨cap,hcap,hv⟩:=hv
   have hnp:0 < n:=by rw [← hn];exact List.length_pos_iff.2 he
   rcases hv with ⟨h0,_⟩|⟨b',sz',w',h6,h7,rfl⟩
   ·omega
   ·rw [h1] at h6;cases h6
    rw [Nat.zero_mul]
    have hx:=z353 (l:=none) h5'
    rw [Nat.zero_add] at hx hbd
    refine ⟨c.extract 0 (es.length * size),fun w' _=>rfl,fun w' hh=>?_,by simp;rw [← hn];omega,hx,hn,z1191 hs hx (by simp;omega)⟩
    have:=z231 (P:=P) (w:=w') (size:=size) (n:=n) (l:=n) (k:=cap) (off:=0) (by rw [hh];exact h3) (by rw [← hn];omega)
    rw [Nat.zero_add] at this
    rw [hn];exact this
end Go.Gl
namespace Go.Gl
variable {P:Program} {T:Tab} {dst:Option Tmp} {type:TypeId} {pos:String} {after:Array Edge} {guard:Option (Nat×Bool)} {st:St} {K:OpK}
def CellsFrom (G:Ghost) (h:Nat→Option Obj) (o wd:Nat) (es:List (List AC)) (c:Array Value):Prop :=
 ∀ i e,es[i]?=some e→e.length=wd∧∀ j x,e[j]?=some x→∃ v,c[i * wd+j]?=some v∧(V G h (some (o,[i * wd+j])) x v∨V G h none x v)
open Classical in
noncomputable def Ghost.mv (G:Ghost) (o q:Nat) (t:Nat×Nat×Nat) (nb:Option Nat):Ghost where
 S:=G.S
 U:=G.U
 ι:=upd G.ι q (some t)
 κ b:=if some b=nb then some (q,[]) else match G.κ b with
  |some (o',p)=>if o'=o then some (q,p) else some (o',p)
  |none=>none
theorem mv_S {G:Ghost} {o q:Nat} {t:Nat×Nat×Nat} {nb:Option Nat} : ∀ b x,G.S b=some x→(G.mv o q t nb).S b=some x:=fun _ _ e=>e
theorem mv_κ {G:Ghost} {o q:Nat} {t:Nat×Nat×Nat} {nb:Option Nat} {b:Nat} {p:Nat×List Nat} (hb:some b≠nb) (hk:G.κ b=some p):(G.mv o q t nb).κ b=some (if p.1=o then (q,p.2) else p):=by
 obtain ⟨o',p⟩:=p
 simp only [Ghost.mv,if_neg hb,hk]
 by_cases h:o'=o<;>simp [h]
theorem mv_ι {G:Ghost} {objs:Nat→AObj} {w:World} (hW:Wf G objs w) {o q:Nat} {t:Nat×Nat×Nat} {nb:Option Nat} (hq:objs q=.fresh):∀ o' t',G.ι o'=some t'→(G.mv o q t nb).ι o'=some t':=by
 intro o' t' h
 have hne:o'≠q:=by
  rintro rfl
  have:=hW.objs o'
  rw [hq] at this
  rw [show G.ι o'=none from this] at h;cases h
 simp only [Ghost.mv,z56 _ _ hne,h]
theorem CellsFrom.move {G G' : Ghost} {h h' : Nat → Option Obj} {o q wd : Nat} {es : List (List AC)} {c : Array Value} (hS : ∀ b x, G.S b = some x → G'.S b = some x) (hι : ∀ o t, G.ι o = some t → G'.ι o = some t)
    (hκ:∀ b p,p.1=o∧p.2≠[]→G.κ b=some p→G'.κ b=some (q,p.2)∧h' b=h b) (hc:CellsFrom G h o wd es c):VLL G' h' (some (q,[])) wd es c 0:=by
  refine z66.2 fun i e he=>?_
  obtain ⟨h1,h2⟩:=hc i e he
  refine ⟨h1,z63.2 fun j x hx=>?_⟩
  obtain ⟨v,hv1,hv2⟩:=h2 j x hx
  refine ⟨v,by rw [show 0+i * wd+j=i * wd+j by omega];exact hv1,?_⟩
  rcases hv2 with hv2|hv2
  · have:=z276 x G G' h h' (fun p=>(q,p.2)) (fun p=>p.1=o∧p.2≠[]) hS hι (fun _ _ _=>rfl) (fun _ _ _ h=>⟨h.1,by simp⟩) hκ (some (o,[i * wd+j])) v (by rintro p hp;cases hp;exact ⟨rfl,by simp⟩) hv2
    simpa [Loc.cell,Nat.zero_add] using this
  · exact V_at (z134 hS hι hv2)
theorem z206 {G G' : Ghost} {h h' : Nat → Option Obj} {o' : Nat} {x : AObj} (hS : ∀ b x, G.S b = some x → G'.S b = some x) (hι : ∀ o t, G.ι o = some t → G'.ι o = some t) (hιo : G'.ι o' = G.ι o')
    (hκ:∀ b p,p.1=o'→G.κ b=some p→G'.κ b=some p∧h' b=h b) (hx:ObjRel G h o' x):ObjRel G' h' o' x:=by
  cases x with
  | fresh=>simp only [ObjRel,hιo];exact hx
  | dead=>trivial
  | mp d es =>
    obtain ⟨b,size,wx,c,ck,h1,h2,h3,h4⟩:=hx
    obtain ⟨h6,h7⟩:=hκ b _ rfl h2
    exact ⟨b,size,wx,c,ck,by rw [hιo];exact h1,h6,by rw [h7];exact h3,h4⟩
  | cells wd es =>
    rcases hx with ⟨h1,h2⟩|⟨b,size,c,el,h1,h2,h3,h4,h5⟩
    · exact .inl ⟨h1,by rw [hιo];exact h2⟩
    · obtain ⟨h6,h7⟩:=hκ b _ rfl h2
      refine .inr ⟨b,size,c,el,by rw [hιo];exact h1,h6,by rw [h7];exact h3,h4,?_⟩
      have:=z172 es G G' h h' id (fun p=>p.1=o') hS hι (fun _ _ _=>rfl) (fun _ _ _ h=>h) hκ (some (o',[])) wd c 0 (fun p hp _=>by cases hp;rfl) h5
      simpa using this
theorem Wf.grow {G : Ghost} {objs : Nat → AObj} {w w' : World} (hW : Wf G objs w) {o q wd : Nat} {es : List (List AC)} {c : Array Value} {el : TypeId} (hq : objs q = .fresh) (hoq : o ≠ q)
    (hh:w'.heap=w.heap.push (.cells c el (0,0))) (hc:CellsFrom G (hp w) o wd es c):Wf (G.mv o q (w.heap.size,c.size,wd) (some w.heap.size)) (upd (upd objs o .dead) q (.cells wd es)) w':=by
  have hlt:∀ b x,w.heap[b]?=some x→b < w.heap.size:=fun b x e=>by
    rcases y66 b w.heap.size with hl|hl
    · exact hl
    · rw [Array.getElem?_eq_none hl] at e;cases e
  have hold:∀ b x,w.heap[b]?=some x→w'.heap[b]?=some x:=fun b x e=>by
    rw [z153 hh,if_neg (Nat.ne_of_lt (hlt b x e))];exact e
  have hsame:∀ b p,G.κ b=some p→hp w' b=hp w b:=fun b p e=>by
    simp only [hp,z153 hh,if_neg (Nat.ne_of_lt (hW.sk b p e).2.2)]
  have hnb:∀ b p,G.κ b=some p→some b≠some w.heap.size:=fun b p e h=>by
    have:=(hW.sk b p e).2.2;cases h;exact Nat.lt_irrefl _ this
  have hι:=mv_ι hW (o:=o) (t:=(w.heap.size,c.size,wd)) (nb:=some w.heap.size) hq
  refine ⟨fun b x e=>hold b x (hW.hS b x e),fun b x e=>hold b x (hW.hU b x e),hW.su,fun b p e=>?_,fun o'=>?_⟩
  · by_cases hb:b=w.heap.size
    · subst hb
      refine ⟨?_,?_,by rw [hh];simp⟩
      · cases hs:G.S w.heap.size with
        | none=>exact hs
        | some x=>exact absurd (hlt _ _ (hW.hS _ _ hs)) (Nat.lt_irrefl _)
      · cases hs:G.U w.heap.size with
        | none=>exact hs
        | some x=>exact absurd (hlt _ _ (hW.hU _ _ hs)) (Nat.lt_irrefl _)
    · have hb' : some b≠some w.heap.size:=fun h=>hb (by cases h;rfl)
      cases hk:G.κ b with
      | none=>simp [Ghost.mv,hb,hk] at e
      | some p' =>
        obtain ⟨h1,h2,h3⟩:=hW.sk b p' hk
        exact ⟨h1,h2,by rw [hh];simp;omega⟩
  · by_cases h1:o'=q
    · subst h1
      rw [z31]
      refine .inr ⟨w.heap.size,c.size,c,el,by simp [Ghost.mv,z31],by simp [Ghost.mv],by simp [hp,z153 hh],rfl,?_⟩
      refine hc.move mv_S hι (fun b p hp' hk=>⟨?_,hsame b p hk⟩)
      rw [mv_κ (hnb b p hk) hk,if_pos hp'.1]
    · rw [z56 _ _ h1]
      by_cases h2:o'=o
      · subst h2;rw [z31];trivial
      · rw [z56 _ _ h2]
        refine z206 mv_S hι (by simp [Ghost.mv,z56 _ _ h1]) (fun b p hp' hk=>⟨?_,hsame b p hk⟩) (hW.objs o')
        rw [mv_κ (hnb b p hk) hk,if_neg (by rw [hp'];exact h2)]
theorem Wf.inplace {G : Ghost} {objs : Nat → AObj} {w : World} (hW : Wf G objs w) {o q b wd : Nat} {es : List (List AC)} {c c' : Array Value} {el : TypeId} (hq : objs q = .fresh) (hoq : o ≠ q)
    (hι0:G.ι o=some (b,c.size,wd)) (hκ0:G.κ b=some (o,[])) (hb:w.heap[b]?=some (.cells c el (0,0))) (hs:c'.size=c.size) (hc:CellsFrom G (hp w) o wd es c') :
    Wf (G.mv o q (b,c.size,wd) none) (upd (upd objs o .dead) q (.cells wd es)) (World.setObj w b (.cells c' el (0,0))):=by
  obtain ⟨hS,hU,hlt⟩:=hW.sk b _ hκ0
  have hother:∀ b',b'≠b→(World.setObj w b (.cells c' el (0,0))).heap[b']?=w.heap[b']?:=fun b' hne=>by
    simp [World.setObj,Ne.symm hne]
  have hthis:(World.setObj w b (.cells c' el (0,0))).heap[b]?=some (.cells c' el (0,0)):=by
    simp [World.setObj,hlt]
  have hι:=mv_ι hW (o:=o) (t:=(b,c.size,wd)) (nb:=none) hq
  refine ⟨fun b' x e=>?_,fun b' x e=>?_,hW.su,fun b' p e=>?_,fun o'=>?_⟩
  · have:b'≠b:=by rintro rfl;rw [show G.S b'=some x from e] at hS;cases hS
    rw [hother b' this];exact hW.hS b' x e
  · have:b'≠b:=by rintro rfl;rw [show G.U b'=some x from e] at hU;cases hU
    rw [hother b' this];exact hW.hU b' x e
  · cases hk:G.κ b' with
    | none=>simp [Ghost.mv,hk] at e
    | some p' =>
      obtain ⟨h1,h2,h3⟩:=hW.sk b' p' hk
      exact ⟨h1,h2,by simpa [World.setObj] using h3⟩
  · by_cases h1:o'=q
    · subst h1
      rw [z31]
      refine .inr ⟨b,c.size,c',el,by simp [Ghost.mv,z31],by rw [mv_κ (by simp) hκ0];simp,hthis,hs,?_⟩
      refine hc.move mv_S hι (fun b' p hp' hk=>⟨by rw [mv_κ (by simp) hk,if_pos hp'.1],hother b' ?_⟩)
      rintro rfl
      rw [hκ0] at hk;cases hk;exact hp'.2 rfl
    · rw [z56 _ _ h1]
      by_cases h2:o'=o
      · subst h2;rw [z31];trivial
      · rw [z56 _ _ h2]
        refine z206 mv_S hι (by simp [Ghost.mv,z56 _ _ h1]) (fun b' p hp' hk=>⟨by rw [mv_κ (by simp) hk,if_neg (by rw [hp'];exact h2)],hother b' ?_⟩) (hW.objs o')
        rintro rfl
        rw [hκ0] at hk;cases hk;exact h2 hp'.symm
end Go.Gl
namespace Go.Gl
variable {P:Program} {T:Tab} {dst:Option Tmp} {type:TypeId} {pos:String} {after:Array Edge} {guard:Option (Nat×Bool)} {st:St} {K:OpK}
theorem Wf.phantom {G:Ghost} {objs:Nat→AObj} {w:World} (hW:Wf G objs w) {q wd:Nat} (hq:objs q=.fresh):Wf G (upd objs q (.cells wd [])) w :=
 ⟨hW.hS,hW.hU,hW.su,hW.sk,fun o'=>by
  by_cases h:o'=q
  ·subst h;rw [z31]
   have:=hW.objs o'
   rw [hq] at this
   exact .inl ⟨rfl,this⟩
  ·rw [z56 _ _ h];exact hW.objs o'⟩
theorem Wf.drop {G:Ghost} {objs:Nat→AObj} {w:World} (hW:Wf G objs w) (o:Nat):Wf G (upd objs o .dead) w :=
 ⟨hW.hS,hW.hU,hW.su,hW.sk,fun o'=>by
  by_cases h:o'=o
  ·subst h;rw [z31];trivial
  ·rw [z56 _ _ h];exact hW.objs o'⟩
theorem z1010 {G : Ghost} {h : Nat → Option Obj} {o wd n : Nat} {es es2 : List (List AC)} {c0 news rest : Array Value} (hn : n ≤ es.length) (h0 : VLL G h (some (o, [])) wd es c0 0) (h2 : VLL G h none wd es2 news 0) (hs : n * wd ≤ c0.size) (hns : news.size = es2.length * wd) :
    CellsFrom G h o wd (es.take n++es2) (c0.extract 0 (n * wd)++news++rest):=by
  have hsz:(c0.extract 0 (n * wd)).size=n * wd:=by simp;omega
  have hl:(es.take n).length=n:=by simp;omega
  intro i e he
  rw [List.getElem?_append] at he
  split at he
  · rename_i hi
    rw [hl] at hi
    rw [List.getElem?_take,if_pos hi] at he
    obtain ⟨h3,h4⟩:=z66.1 h0 i e he
    refine ⟨h3,fun j x hx=>?_⟩
    obtain ⟨v,hv1,hv2⟩:=z63.1 h4 j x hx
    have hj:j < wd:=by
      rw [← h3]
      rcases y66 j e.length with h|h
      · exact h
      · rw [y65 h] at hx;cases hx
    have hb:(i+1) * wd≤n * wd:=Nat.mul_le_mul_right _ hi
    rw [Nat.add_mul] at hb
    rw [Nat.zero_add] at hv1 hv2
    refine ⟨v,?_,.inl hv2⟩
    rw [Array.append_assoc,Array.getElem?_append,if_pos (by omega),Array.getElem?_extract,if_pos (by omega),Nat.zero_add]
    exact hv1
  · rename_i hi
    rw [hl] at hi he
    obtain ⟨h3,h4⟩:=z66.1 h2 (i - n) e he
    have hi2:i - n < es2.length:=by
      rcases y66 (i - n) es2.length with h|h
      · exact h
      · rw [y65 h] at he;cases he
    refine ⟨h3,fun j x hx=>?_⟩
    obtain ⟨v,hv1,hv2⟩:=z63.1 h4 j x hx
    have hj:j < wd:=by
      rw [← h3]
      rcases y66 j e.length with h|h
      · exact h
      · rw [y65 h] at hx;cases hx
    rw [Nat.zero_add] at hv1 hv2
    refine ⟨v,?_,.inr hv2⟩
    have hin:i * wd=n * wd+(i - n) * wd:=by rw [← Nat.add_mul];congr 1;omega
    have hb:(i - n+1) * wd≤es2.length * wd:=Nat.mul_le_mul_right _ hi2
    rw [Nat.add_mul] at hb
    rw [Array.getElem?_append,if_pos (by simp [hsz];omega),Array.getElem?_append,if_neg (by omega),hsz]
    rw [show i * wd+j - n * wd=(i - n) * wd+j by omega]
    exact hv1
theorem z863 {G : Ghost} {h : Nat → Option Obj} {o wd n : Nat} {es es2 : List (List AC)} {c0 news : Array Value} (hn : n ≤ es.length) (h0 : VLL G h (some (o, [])) wd es c0 0) (h2 : VLL G h none wd es2 news 0) (hs : n * wd + news.size ≤ c0.size) (hns : news.size = es2.length * wd) :
    CellsFrom G h o wd (es.take n++es2) (lay c0 (n * wd) news.toList):=by
  have hl:(es.take n).length=n:=by simp;omega
  intro i e he
  rw [List.getElem?_append] at he
  split at he
  · rename_i hi
    rw [hl] at hi
    rw [List.getElem?_take,if_pos hi] at he
    obtain ⟨h3,h4⟩:=z66.1 h0 i e he
    refine ⟨h3,fun j x hx=>?_⟩
    obtain ⟨v,hv1,hv2⟩:=z63.1 h4 j x hx
    have hj:j < wd:=by
      rw [← h3]
      rcases y66 j e.length with h|h
      · exact h
      · rw [y65 h] at hx;cases hx
    have hb:(i+1) * wd≤n * wd:=Nat.mul_le_mul_right _ hi
    rw [Nat.add_mul] at hb
    rw [Nat.zero_add] at hv1 hv2
    refine ⟨v,?_,.inl hv2⟩
    rw [z422 _ _ _ _ (by simpa using hs),if_neg (by omega)]
    exact hv1
  · rename_i hi
    rw [hl] at hi he
    obtain ⟨h3,h4⟩:=z66.1 h2 (i - n) e he
    have hi2:i - n < es2.length:=by
      rcases y66 (i - n) es2.length with h|h
      · exact h
      · rw [y65 h] at he;cases he
    refine ⟨h3,fun j x hx=>?_⟩
    obtain ⟨v,hv1,hv2⟩:=z63.1 h4 j x hx
    have hj:j < wd:=by
      rw [← h3]
      rcases y66 j e.length with h|h
      · exact h
      · rw [y65 h] at hx;cases hx
    rw [Nat.zero_add] at hv1 hv2
    refine ⟨v,?_,.inr hv2⟩
    have hin:i * wd=n * wd+(i - n) * wd:=by rw [← Nat.add_mul];congr 1;omega
    have hb:(i - n+1) * wd≤es2.length * wd:=Nat.mul_le_mul_right _ hi2
    rw [Nat.add_mul] at hb
    rw [z422 _ _ _ _ (by simpa using hs),if_pos (by simp;omega)]
    rw [show i * wd+j - n * wd=(i - n) * wd+j by omega]
    simpa using hv1
theorem z1021 {t e ty : TypeId} {i ei : TyI} (ht : TyOk P t i) (hd : i.desc = .slice e) (he : TyOk P e ei) (hz : ei.zero.cells.size = ei.size) {G : Ghost} {objs : Nat → AObj} {w : World} (hW : Wf G objs w) {o q n m : Nat} {es es2 : List (List AC)} {s x : Value} {news : Array Value}
    (ho:objs o=.cells ei.size es) (hq:objs q=.fresh) (hs:V G (hp w) none (.sref o 0 n) s) (hx:z788 P G w ei.size x m news es2) (hn:n≤es.length) (h1:(n+m) * ei.bytes≤2 ^ 47) (h2:n+m≤2 ^ 47) :
    ∃ v w' G',(Builtin.append_ #[t,t] ty #[s,x]).run P w=.ok v w'∧G.Sub G'∧(∀ o t,G.ι o=some t→G'.ι o=some t)∧Le w w'∧Wf G' (upd (upd objs o .dead) q (.cells ei.size (es.take n++es2))) w'∧V G' (hp w') none (.sref q 0 (n+m)) v:=by
  have hoq:o≠q:=by rintro rfl;rw [ho] at hq;cases hq
  obtain ⟨hx1,hx2,hx3,hx4,hx5,hx6⟩:=hx
  have hob:=hW.objs o
  rw [ho] at hob
  simp only [V] at hs
  obtain ⟨cap,hcap,hs⟩:=hs
  -- growing,once the old cells are known
  have grow : ∀ (a : Option Addr) (c0 : Array Value), s = .slice a n cap → (∀ w' : World, w'.heap = w.heap → (Builtin.firstCells ei.size n s).run P w' = .ok (c0.extract 0 (n * ei.size)) w') → n * ei.size ≤ c0.size → VLL G (hp w) (some (o, [])) ei.size (es.take n) c0 0 → cap < n + m →
      ∃ v w' G',(Builtin.append_ #[t,t] ty #[s,x]).run P w=.ok v w'∧G.Sub G'∧(∀ o t,G.ι o=some t→G'.ι o=some t)∧Le w w'∧Wf G' (upd (upd objs o .dead) q (.cells ei.size (es.take n++es2))) w'∧V G' (hp w') none (.sref q 0 (n+m)) v:=by
    rintro a c0 rfl hf hc0 hv hlt
    rcases z311 (ty:=ty) ht hd he (hx1 w rfl) hx2 hf h1 h2 with ⟨h,_⟩|⟨_,nc,rest,hnc,hrest,w',hrun,hh,e1,e2,e3⟩
    · omega
    · have hcf:=z1010 (rest:=rest) (n:=n) (by simp;omega) hv hx4 hc0 (by rw [hx3,hx5])
      rw [List.take_take,Nat.min_self] at hcf
      refine ⟨_,w',_,hrun,⟨mv_S,rfl⟩,mv_ι hW hq,z824 hh e1 e2 e3,hW.grow hq hoq hh hcf,?_⟩
      simp only [V]
      refine ⟨nc,hnc,.inr ⟨w.heap.size,(c0.extract 0 (n * ei.size)++news++rest).size,ei.size,by simp only [Ghost.mv,z31],?_,by rw [Nat.zero_mul]⟩⟩
      simp only [Array.size_append,hx3,hrest,hz,Nat.zero_add]
      have:(c0.extract 0 (n * ei.size)).size=n * ei.size:=by simp;omega
      rw [this,← Nat.add_mul,← Nat.add_mul]
      exact Nat.mul_le_mul_right _ (by omega)
  rcases hs with ⟨hc0,a,rfl⟩|⟨b,size,w',hι,hsz,rfl⟩
  · subst hc0
    have hn0:n=0:=by omega
    subst hn0
    by_cases hm:m=0
    · subst hm
      have hes2:es2=[]:=y70 hx5
      have hnews:news=#[]:=by apply Array.eq_empty_of_size_eq_zero;rw [hx3];simp
      subst hes2;subst hnews
      rcases z311 (ty:=ty) ht hd he (hx1 w rfl) hx2 (fun w' _=>z82) h1 h2 with ⟨_,hrun⟩|⟨h,_⟩
      · refine ⟨.slice a 0 0,w,G,?_,Ghost.Sub.refl G,fun _ _ h=>h,Le.refl w,?_,?_⟩
        · rw [hrun];cases a<;>simp [storeCells,go_sem]
        · simpa using (hW.drop o).phantom (wd:=ei.size) (by rw [z56 _ _ (Ne.symm hoq)];exact hq)
        · simp only [V];exact ⟨0,y48 _,.inl ⟨rfl,a,rfl⟩⟩
      · omega
    · have:=grow a #[] rfl (fun w' _=>by simpa using z82) (by simp) (by simp [VLL]) (by omega)
      exact this
  · rcases hob with ⟨h3,h4⟩|⟨b',size',c,el,h3,h4,h5,h6,h7⟩
    · rw [hι] at h4;cases h4
    · rw [hι] at h3;cases h3
      subst h6
      rw [Nat.zero_mul] at *
      rw [Nat.zero_add] at hsz
      have hnc:n * ei.size≤c.size:=Nat.le_trans (Nat.mul_le_mul_right _ hcap) hsz
      have hf:∀ w' : World,w'.heap=w.heap→(Builtin.firstCells ei.size n (.slice (some ⟨b,0,none⟩) n cap)).run P w'=.ok (c.extract 0 (n * ei.size)) w':=fun w' hh=>by
        have:=z231 (P:=P) (w:=w') (size:=ei.size) (n:=n) (l:=n) (k:=cap) (off:=0) (by rw [hh];exact h5) (by omega)
        rw [Nat.zero_add] at this;exact this
      have hvt:VLL G (hp w) (some (o,[])) ei.size (es.take n) c 0:=by
        rw [z66] at h7 ⊢
        intro i e hie
        rw [List.getElem?_take] at hie
        split at hie
        · exact h7 i e hie
        · cases hie
      by_cases hroom:n+m≤cap
      · rcases z311 (ty:=ty) ht hd he (hx1 w rfl) hx2 hf h1 h2 with ⟨_,hrun⟩|⟨h,_⟩
        · have hfit:n * ei.size+news.size≤c.size:=by
            rw [hx3,← Nat.add_mul]
            exact Nat.le_trans (Nat.mul_le_mul_right _ hroom) hsz
          have hst:=z326 (P:=P) (off:=n * ei.size) (el:=el) news.toList w c 0 h5 (by simpa using hfit) hx6
          rw [Nat.add_zero] at hst
          have hcf:=z863 hn h7 hx4 hfit (by rw [hx3,hx5])
          refine ⟨.slice (some ⟨b,0,none⟩) (n+m) cap,World.setObj w b (.cells (lay c (n * ei.size) news.toList) el (0,0)),G.mv o q (b,c.size,ei.size) none,by rw [hrun];simp only [z447,Nat.zero_add];rw [hst];rfl,⟨mv_S,rfl⟩,mv_ι hW hq,⟨rfl,rfl,rfl,by simp [World.setObj]⟩,hW.inplace hq hoq hι h4 h5 (z314 _ _ _) hcf,?_⟩
          simp only [V]
          exact ⟨cap,hroom,.inr ⟨b,c.size,ei.size,by simp only [Ghost.mv,z31],by rw [Nat.zero_add];exact hsz,by rw [Nat.zero_mul]⟩⟩
        · omega
      · exact grow _ c rfl hf hnc hvt (by omega)
end Go.Gl
namespace Go.Gl
variable {P:Program} {T:Tab} {dst:Option Tmp} {type:TypeId} {pos:String} {after:Array Edge} {guard:Option (Nat×Bool)} {st:St} {K:OpK}
theorem append_nil {t e ty : TypeId} {i ei : TyI} (ht : TyOk P t i) (hd : i.desc = .slice e) (he : TyOk P e ei) {G : Ghost} {objs : Nat → AObj} {w : World} (hW : Wf G objs w) {q m : Nat} {es2 : List (List AC)} {x : Value} {news : Array Value}
    (hz:ei.zero.cells.size=ei.size) (hq:objs q=.fresh) (hx:z788 P G w ei.size x m news es2) (h1:m * ei.bytes≤2 ^ 47) (h2:m≤2 ^ 47) :
    ∃ v w' G',(Builtin.append_ #[t,t] ty #[.slice none 0 0,x]).run P w=.ok v w'∧G.Sub G'∧(∀ o t,G.ι o=some t→G'.ι o=some t)∧Le w w'∧Wf G' (upd objs q (.cells ei.size es2)) w'∧V G' (hp w') none (.sref q 0 m) v:=by
  obtain ⟨hx1,hx2,hx3,hx4,hx5,hx6⟩:=hx
  rcases z311 (n:=0) (a:=none) (cap:=0) (ty:=ty) ht hd he (hx1 w rfl) hx2 (fun w' _=>z82) (by simpa using h1) (by simpa using h2) with ⟨h,hrun⟩|⟨_,nc,rest,hnc,hrest,w',hrun,hh,e1,e2,e3⟩
  · have hm:m=0:=by omega
    subst hm
    have hes2:es2=[]:=y70 hx5
    subst hes2
    refine ⟨.slice none 0 0,w,G,by rw [hrun];rfl,Ghost.Sub.refl G,fun _ _ h=>h,Le.refl w,hW.phantom hq,?_⟩
    simp only [V];exact ⟨0,y48 _,.inl ⟨rfl,none,rfl⟩⟩
  · have hio:G.ι q=none:=by have:=hW.objs q;rw [hq] at this;exact this
    have hc:VLL G (hp w) none ei.size es2 (#[]++news++rest) 0:=by
      rw [z66] at hx4 ⊢
      intro i e hie
      obtain ⟨h3,h4⟩:=hx4 i e hie
      refine ⟨h3,z63.2 fun j y hy=>?_⟩
      obtain ⟨v,hv1,hv2⟩:=z63.1 h4 j y hy
      refine ⟨v,?_,hv2⟩
      have:=(Array.getElem?_eq_some_iff.1 hv1).1
      simp only [Array.empty_append]
      rw [Array.getElem?_append,if_pos this];exact hv1
    refine ⟨_,w',G.push q w.heap.size (#[]++news++rest).size ei.size,hrun,⟨y6,rfl⟩,y7 hio,z824 hh e1 e2 e3,hW.push hq hh hc,?_⟩
    simp only [V]
    refine ⟨nc,by omega,.inr ⟨w.heap.size,(#[]++news++rest).size,ei.size,by simp only [Ghost.push,z31],?_,by rw [Nat.zero_mul,Nat.zero_add]⟩⟩
    simp only [Array.size_append,hx3,hrest,hz,Nat.zero_add,Array.empty_append]
    rw [← Nat.add_mul]
    exact Nat.mul_le_mul_right _ (by omega)
def z1036 (st:St) (size:Nat) (x:AC) (K:Nat→List (List AC)→List Nat→Prop):Prop:=match x with
 |.list w n es=>z67 (Nat.beq w size) (Stor es∧K n es [])
 |.sref o off n=>match off with
  |0=>match st.objs o with
   |.cells w es=>z67 (Nat.beq w size) ((es.length=n∧Stor es)∧K n es [o])
   |_=>False
  |_+1=>False
 |.raw (.slice _ 0 _)=>K 0 [] []
 |_=>False
def z919 (st:St) (K:Nat→Prop):Prop:=match st.objs st.next with
 |.fresh=>z210 st.next K
 |_=>False
def z882 (i:TyI) (st:St) (s x:AC) (K:OpK):Prop :=
 z67 (Nat.beq (z87 i.zero).length i.size) (z67 (Nat.blt 0 i.size) (z1036 st i.size x fun m es2 os=>match s with
  |.sref o off n=>match off with
   |0=>match st.objs o with
    |.cells w es=>z67 (Nat.beq w i.size) (z67 (!inB os o) ((n≤es.length∧(n+m) * i.bytes≤2 ^ 47∧n+m≤2 ^ 47)∧z919 st fun q=>K (.sref q 0 (n+m)) (⟨o,.cells w es,.dead⟩::⟨q,.fresh,.cells w (es.take n++es2)⟩::os.map st.rd)))
    |_=>False
   |_+1=>False
  |.raw (.slice none 0 0)=>(m * i.bytes≤2 ^ 47∧m≤2 ^ 47)∧z919 st fun q=>K (.sref q 0 m) (⟨q,.fresh,.cells i.size es2⟩::os.map st.rd)
  |_=>False))
theorem z795 {size:Nat} {x:AC} {K:Nat→List (List AC)→List Nat→Prop} (h:z1036 st size x K):∃ m es os,K m es os∧(∀ o∈os,st.objs o≠.fresh)∧(∀ (G:Ghost) (objs:Nat→AObj) (w:World) (v:Value),Wf G objs w→0 < size→(∀ o∈os,objs o=st.objs o)→V G (hp w) none x v→∃ news,z788 P G w size v m news es):=by
 unfold z1036 at h
 split at h
 ·rename_i w n es
  obtain ⟨hw,hs,hk⟩:=z26 h
  have hw:=Nat.eq_of_beq_eq_true hw
  subst hw
  exact ⟨n,es,[],hk,by simp,fun G objs w v hW hp _ hv=>z1105 hp hW.hS hs hv⟩
 ·rename_i o off n
  split at h
  ·split at h
   ·rename_i w es hob
    obtain ⟨hw,⟨hn,hs⟩,hk⟩:=z26 h
    have hw:=Nat.eq_of_beq_eq_true hw
    subst hw
    exact ⟨n,es,[o],hk,by simp [hob],fun G objs w v hW hp hos hv=>z1104 hp hW (by rw [hos o (by simp),hob]) hn hs hv⟩
   ·exact h.elim
  ·exact h.elim
 ·exact ⟨0,[],[],h,by simp,fun G objs w v hW hp _ hv=>by
   rw [z98] at hv
   subst hv
   exact ⟨#[],fun w' _=>rfl,fun w' _=>z82,by simp,by simp [VLL],rfl,by simp⟩⟩
 ·exact h.elim
theorem z542 {s x : Operand} {t : TypeId} (ρ : Operand → Value) :
    execOp ρ ⟨dst,.call ⟨.builtin .append,#[s,x],#[t,t]⟩,type,pos,after,guard⟩=(do pure (.value (← Builtin.append_ #[t,t] type #[ρ s,ρ x]))):=by
  simp [execOp,resolve,invoke,Go.builtin]
theorem z541 {f:Nat→AObj} {st:St} {os:List Nat} (h:∀ o∈os,f o=st.objs o):z76 f (os.map st.rd)=f :=
 z133 f _ fun c hc=>by
  rw [y56] at hc
  obtain ⟨o,ho,rfl⟩:=hc
  exact ⟨h o ho,rfl⟩
theorem z705 {s x : Operand} {t e : TypeId} {i ei : TyI} (ht : TyOk P t i) (hd : i.desc = .slice e) (he : TyOk P e ei)
    (h:z882 ei st (st.ev s) (st.ev x) K):z102 P st ⟨dst,.call ⟨.builtin .append,#[s,x],#[t,t]⟩,type,pos,after,guard⟩ K:=by
  obtain ⟨hz,h⟩:=z26 h
  obtain ⟨hpos,h⟩:=z26 h
  have hz' : ei.zero.cells.size=ei.size:=by have:=Nat.eq_of_beq_eq_true hz;simpa [z87] using this
  have hpos:0 < ei.size:=by simpa [Nat.blt_eq] using hpos
  obtain ⟨m,es2,os,hk,hosf,hnews⟩:=z795 (P:=P) h
  have hops:∀ y,(y=s∨y=x)→y∈(Op.operands (.call ⟨.builtin .append,#[s,x],#[t,t]⟩)).toList:=by
    rintro y (rfl|rfl)<;>simp [Op.operands,Call.operands]
  split at hk
  · rename_i o off n hs
    split at hk
    · split at hk
      · rename_i wd es hob
        obtain ⟨hw,hk⟩:=z26 hk
        obtain ⟨hno,⟨hn,h1,h2⟩,hk⟩:=z26 hk
        have hw:=Nat.eq_of_beq_eq_true hw
        subst hw
        unfold z919 at hk
        split at hk
        · rename_i hfr
          rw [z104] at hk
          have hoos:o ∉ os:=fun hm=>by rw [z260.2 hm] at hno;simp at hno
          refine ⟨_,_,⟨fun Q K' G st' a w hR hrd hfp hd' hK=>?_⟩,fun c hc=>?_,hk⟩
          · have hsv:=hR.ev s
            rw [z105 (hops s (.inl rfl)) hrd,hs] at hsv
            have hxv:=hR.ev x
            rw [z105 (hops x (.inr rfl)) hrd] at hxv
            have hos:∀ o∈os,st'.objs o=st.objs o:=fun o ho=>hfp (st.rd o) (by simp;exact .inr (.inr ⟨o,ho,rfl⟩))
            obtain ⟨news,hnw⟩:=hnews G st'.objs w _ hR.wf hpos hos hxv
            have ho1:st'.objs o=.cells ei.size es:=hfp ⟨o,.cells ei.size es,.dead⟩ (by simp)
            have hq1:st'.objs st.next=.fresh:=hfp ⟨st.next,.fresh,.cells ei.size (es.take n++es2)⟩ (by simp)
            obtain ⟨v,w',G',hrun,hg1,hg2,hle,hW',hV⟩:=z1021 (ty:=type) ht hd he hz' hR.wf ho1 hq1 hsv hnw hn h1 h2
            refine wp_v (z542 a.eval) hrun (hK G' _ w' hg1 hg2 hle ⟨?_,?_,by rw [z189];exact hR.size,by rw [z130];exact hR.defers.mono hg1.S⟩)
            · show Wf G' (z76 (upd (upd st'.objs o .dead) st.next (.cells ei.size (es.take n++es2))) (os.map st.rd)) w'
              rw [z541]
              · exact hW'
              · intro o' ho'
                have h3:o'≠st.next:=by
                  rintro rfl
                  exact hosf _ ho' hfr
                rw [z56 _ _ h3,z56 _ _ (by rintro rfl;exact hoos ho')]
                exact hos o' ho'
            · exact z267 hd' hR.size (fun s=>z134 hg1.S hg2 (hR.env s)) hV
          · simp at hc
            rcases hc with rfl|rfl|⟨o',ho',rfl⟩
            · exact ⟨hob,fun h=>by cases h⟩
            · exact ⟨hfr,fun h=>by cases h⟩
            · exact ⟨rfl,fun h=>by cases h⟩
        · exact hk.elim
      · exact hk.elim
    · exact hk.elim
  · rename_i hs
    obtain ⟨⟨h1,h2⟩,hk⟩:=hk
    unfold z919 at hk
    split at hk
    · rename_i hfr
      rw [z104] at hk
      refine ⟨_,_,⟨fun Q K' G st' a w hR hrd hfp hd' hK=>?_⟩,fun c hc=>?_,hk⟩
      · have hsv:=hR.ev s
        rw [z105 (hops s (.inl rfl)) hrd,hs,z98] at hsv
        have hxv:=hR.ev x
        rw [z105 (hops x (.inr rfl)) hrd] at hxv
        have hos:∀ o∈os,st'.objs o=st.objs o:=fun o ho=>hfp (st.rd o) (by simp;exact .inr ⟨o,ho,rfl⟩)
        obtain ⟨news,hnw⟩:=hnews G st'.objs w _ hR.wf hpos hos hxv
        have hq1:st'.objs st.next=.fresh:=hfp ⟨st.next,.fresh,.cells ei.size es2⟩ (by simp)
        obtain ⟨v,w',G',hrun,hg1,hg2,hle,hW',hV⟩:=append_nil (ty:=type) ht hd he hR.wf hz' hq1 hnw h1 h2
        refine wp_v (z542 a.eval) (by rw [hsv];exact hrun) (hK G' _ w' hg1 hg2 hle ⟨?_,?_,by rw [z189];exact hR.size,by rw [z130];exact hR.defers.mono hg1.S⟩)
        · show Wf G' (z76 (upd st'.objs st.next (.cells ei.size es2)) (os.map st.rd)) w'
          rw [z541]
          · exact hW'
          · intro o' ho'
            have h3:o'≠st.next:=by
              rintro rfl
              exact hosf _ ho' hfr
            rw [z56 _ _ h3]
            exact hos o' ho'
        · exact z267 hd' hR.size (fun s=>z134 hg1.S hg2 (hR.env s)) hV
      · simp at hc
        rcases hc with rfl|⟨o',ho',rfl⟩
        · exact ⟨hfr,fun h=>by cases h⟩
        · exact ⟨rfl,fun h=>by cases h⟩
    · exact hk.elim
  · exact hk.elim
end Go.Gl
namespace Go.Gl
variable {P:Program} {T:Tab} {dst:Option Tmp} {type:TypeId} {pos:String} {after:Array Edge} {guard:Option (Nat×Bool)} {st:St} {K:OpK}
def z474:Option TyI→Bool
 |some i=>match i.desc with
  |.slice _=>true
  |_=>false
 |none=>false
theorem z434 {t:TypeId} (hT:z118 P T) (h:z474 (T t)=true):∃ e,P.underlying t=some (.slice e):=by
 unfold z474 at h
 split at h
 ·rename_i i hi
  split at h
  ·rename_i e he
   exact ⟨e,by rw [(hT _ _ hi).1,he]⟩
  ·cases h
 ·cases h
def z727 (op:BinOp) (b:Bool) (K:OpK):Prop:=match op with
 |.eql=>K (.bool b) []
 |.neq=>K (.bool (!b)) []
 |_=>False
def z1035 (t:Option TyI) (op:BinOp) (x:AC) (K:OpK):Prop:=z67 (z474 t) (match x with
 |.raw (.slice a _ _)=>z727 op a.isNone K
 |.list _ n _=>0 < n∧z727 op false K
 |.sref _ _ n=>0 < n∧z727 op false K
 |_=>False)
def z1043 (t:Option TyI) (op:BinOp) (x y:AC) (K:OpK):Prop:=match y with
 |.raw (.slice none 0 0)=>z1035 t op x K
 |y=>vcBin t op x y K
theorem z416 {w:World} (d:Nat) {t e:TypeId} {a:Option Addr} {n c:Nat} (h:P.underlying t=some (.slice e)):(Op.equalIn (d+1) t (.slice a n c) (.slice none 0 0)).run P w=.ok a.isNone w:=by
 cases a<;>simp [Op.equalIn,z54 h]
theorem z287 {w:World} {t e:TypeId} {a:Option Addr} {n c:Nat} (h:P.underlying t=some (.slice e)):(Op.equal t (.slice a n c) (.slice none 0 0)).run P w=.ok a.isNone w :=
 z416 9999 h
theorem z812 {op:BinOp} {t t2:TypeId} {x y:Operand} (hT:z118 P T) (hy:st.ev y=.raw (.slice none 0 0)) (h:z1035 (T t) op (st.ev x) K):z102 P st ⟨dst,.binOp op t x y t2,type,pos,after,guard⟩ K:=by
 obtain ⟨hs,h⟩:=z26 h
 obtain ⟨e,he⟩:=z434 hT hs
 have key:∀ b:Bool,(∀ (G:Ghost) (hh:Nat→Option Obj) (v:Value),V G hh none (st.ev x) v→∃ a n c,v=.slice a n c∧a.isNone=b)→z727 op b K→z102 P st ⟨dst,.binOp op t x y t2,type,pos,after,guard⟩ K:=by
  intro b hv hk
  have key2:∀ r:Bool,(op=.eql∧r=b∨op=.neq∧r=!b)→K (.raw (.bool r)) []→z102 P st ⟨dst,.binOp op t x y t2,type,pos,after,guard⟩ K:=by
   intro r ho hk
   refine z77 (fun ρ=>do eqGuard op t x y (ρ x) (ρ y);binOp op t (ρ x) (ρ y)) (fun ρ=>z271 ρ) hk fun G a w hxs=>?_
   have h1:=hxs x (by simp [Op.operands])
   have h2:=hxs y (by simp [Op.operands])
   rw [hy,z98] at h2
   obtain ⟨ad,n,c,h3,h4⟩:=hv _ _ _ h1
   refine ⟨_,?_,by rw [z98]⟩
   rw [h3,h2]
   have:(eqGuard op t x y (.slice ad n c) (.slice none 0 0)).run P w=.ok () w:=by
    unfold eqGuard
    split<;>rfl
   rw [Sem.run_bind,this]
   rcases ho with ⟨rfl,rfl⟩|⟨rfl,rfl⟩
   ·have e:binOp .eql t (.slice ad n c) (.slice none 0 0)=(do pure (.bool (← Op.equal t (.slice ad n c) (.slice none 0 0)))):=rfl
    rw [e]
    simp only [Result.andThen]
    rw [Sem.run_bind,z287 he,h4]
    rfl
   ·have e:binOp .neq t (.slice ad n c) (.slice none 0 0)=(do pure (.bool (!(← Op.equal t (.slice ad n c) (.slice none 0 0))))):=rfl
    rw [e]
    simp only [Result.andThen]
    rw [Sem.run_bind,z287 he,h4]
    rfl
  unfold z727 at hk
  split at hk
  ·exact key2 _ (.inl ⟨rfl,rfl⟩) hk
  ·exact key2 _ (.inr ⟨rfl,rfl⟩) hk
  ·exact hk.elim
 split at h
 ·rename_i a n c hx
  exact key _ (fun G hh v hv=>by rw [hx,z98] at hv;exact ⟨_,_,_,hv,rfl⟩) h
 ·rename_i w n es hx
  refine key _ (fun G hh v hv=>?_) h.2
  rw [hx] at hv
  simp only [V] at hv
  obtain ⟨a,cap,rfl,_,hl,hv⟩:=hv
  rcases hv with rfl|⟨b,off,c,el,fz,rfl,_⟩
  ·simp at hl;omega
  ·exact ⟨_,_,_,rfl,rfl⟩
 ·rename_i o off n hx
  refine key _ (fun G hh v hv=>?_) h.2
  rw [hx] at hv
  simp only [V] at hv
  obtain ⟨cap,hc,hv⟩:=hv
  rcases hv with ⟨h0,_⟩|⟨b,size,w,_,_,rfl⟩
  ·omega
  ·exact ⟨_,_,_,rfl,rfl⟩
 ·exact h.elim
theorem z960 {op:BinOp} {t t2:TypeId} {x y:Operand} (hT:z118 P T) (h:z1043 (T t) op (st.ev x) (st.ev y) K):z102 P st ⟨dst,.binOp op t x y t2,type,pos,after,guard⟩ K:=by
 unfold z1043 at h
 split at h
 ·rename_i hy;exact z812 hT hy h
 ·exact z1065 hT h
end Go.Gl
namespace Go.Gl
variable {P:Program} {T:Tab} {dst:Option Tmp} {type:TypeId} {pos:String} {after:Array Edge} {guard:Option (Nat×Bool)} {st:St} {K:OpK}
theorem z821 {w : World} {t tI ty e : TypeId} {i ei : TyI} {ik : IntKind} (ht : TyOk P t i) (hd : i.desc = .slice e) (he : TyOk P e ei) (hI : P.underlying tI = some (.int ik))
    (hz:ei.zero.cells.size=ei.size) (hp:0 < ei.size) {n:Int} {k:IntKind} (h0:0 < n) (h1:n * ei.bytes≤2 ^ 47) (h2:n≤2 ^ 47) :
    ∃ nc rest,n.toNat≤nc∧rest.size=(nc - n.toNat) * ei.zero.cells.size∧∃ w',(Builtin.append_ #[t,tI] ty #[.slice none 0 0,.int k n]).run P w=.ok (.slice (some ⟨w.heap.size,0,none⟩) n.toNat nc) w' ∧
      w'.heap=w.heap.push (.cells (z226 n.toNat ei.zero.cells++rest) e)∧w'.os=w.os∧w'.tape=w.tape∧w'.output=w.output:=by
  have hn:IntKind.i64.wrap n=n:=IntWalk.i64_in _ (by omega)
  obtain ⟨hu,inf,hi1,hi2,hi3,hi4⟩:=he
  have hut:=ht.1
  rw [hd] at hut
  have hnn:((n.toNat:Nat):Int)=n:=Int.toNat_of_nonneg (by omega)
  have h47:n.toNat * ei.bytes≤2 ^ 47:=by
    have:((n.toNat * ei.bytes:Nat):Int)=n * ei.bytes:=by push_cast;rw [hnn]
    omega
  have h3:¬ (9223372036854775807 < n):=by omega
  have h5:¬ n < 0:=by omega
  have h6:¬ (281474976710656 < n * (ei.bytes:Int)):=by omega
  have hc:¬ n.toNat≤0:=by omega
  have h4:¬ (281474976710656 < Builtin.nextslicecap (n.toNat) 0 * ei.bytes):=by
    have:=growslice_fits (need:=n.toNat) (old:=0) (bytes:=ei.bytes) (by omega) (by omega)
    omega
  have h7:¬ n.toNat * ei.size=0:=by
    have:0 < n.toNat * ei.size:=Nat.mul_pos (by omega) hp
    omega
  have hcut:n.toNat≤(Question.appendCap n.toNat 0 e).cut (w.tape w.drawn (.appendCap n.toNat 0 e)):=by simp [Question.cut]
  refine ⟨(Question.appendCap n.toNat 0 e).cut (w.tape w.drawn (.appendCap n.toNat 0 e)),Builtin.zeroCells ei.zero.cells ((Question.appendCap n.toNat 0 e).cut (w.tape w.drawn (.appendCap n.toNat 0 e)) - n.toNat),hcut,by simp [Builtin.zeroCells],?_⟩
  refine ⟨{ w with heap:=w.heap.push (.cells (z226 n.toNat ei.zero.cells++Builtin.zeroCells ei.zero.cells ((Question.appendCap n.toNat 0 e).cut (w.tape w.drawn (.appendCap n.toNat 0 e)) - n.toNat)) e),drawn:=w.drawn+1 },?_,rfl,rfl,rfl,rfl⟩
  simp only [Builtin.append_]
  simp [z54 hut,z54 hI,z142 hi1,hi2,hn,hc,hi3,h3,h4,h5,h6,h7,hnn,asInt,asIntOf,z175 hi1,z148 hi1 hi4,newRow,Question.forced,z82]
  rw [if_neg (by omega),if_neg (by omega)]
  rfl
theorem OpT.fresh2 {o : Oper} {st : St} {q wd : Nat} {es : List (List AC)} {res : AC} (s : (Operand → Value) → Sem Value) (he : ∀ ρ, execOp ρ o = (do pure (.value (← s ρ))))
    (h:∀ (G:Ghost) (a:Act) (w:World),(∀ x∈o.op.operands.toList,V G (hp w) none (st.ev x) (a.eval x))→∃ v c el w',(s a.eval).run P w=.ok v w'∧w'.heap=w.heap.push (.cells c el)∧w'.os=w.os∧w'.tape=w.tape∧w'.output=w.output∧VLL G (hp w) none wd es c 0 ∧
      (∀ (G' : Ghost) (h' : Nat→Option Obj),G'.ι q=some (w.heap.size,c.size,wd)→V G' h' none res v)) :
    OpT P o (st.reads o.op.operands.toList) [⟨q,.fresh,.cells wd es⟩] res where
  run Q K G st' a w hR hrd hfp hd hK:=by
    obtain ⟨v,c,el,w',h1,hh,e1,e2,e3,h2,h3⟩:=h G a w (fun x hx=>by rw [← z105 hx hrd];exact hR.ev x)
    refine wp_v (he a.eval) h1 ?_
    have hq:st'.objs q=.fresh:=hfp _ (List.mem_singleton.2 rfl)
    exact hK (G.push q w.heap.size c.size wd) _ _ ⟨y6,rfl⟩ (y7 (by have:=hR.wf.objs q;rw [hq] at this;exact this)) (z824 hh e1 e2 e3) (hR.push hd hq hh h2 (h3 _ _ (by simp [Ghost.push,z31])))
def z1126:Option TyI→Bool
 |some i=>match i.desc with
  |.int _=>true
  |_=>false
 |none=>false
theorem z843 {t:TypeId} (hT:z118 P T) (h:z1126 (T t)=true):∃ k,P.underlying t=some (.int k):=by
 unfold z1126 at h
 split at h
 ·rename_i i hi
  split at h
  ·rename_i e he
   exact ⟨e,by rw [(hT _ _ hi).1,he]⟩
  ·cases h
 ·cases h
def z1044 (ti:Option TyI) (i:TyI) (st:St) (s x:AC) (K:OpK):Prop :=
 z67 (z1126 ti) (z67 (Nat.blt 0 i.size) (match s,x with
  |.raw (.slice none 0 0), .raw (.int _ n) => (0 < n ∧ n * i.bytes ≤ 2 ^ 47 ∧ n ≤ 2 ^ 47) ∧
    z67 (Nat.beq (z87 i.zero).length i.size) (z210 i.size fun sz=>litK (z87 i.zero) fun z=>z688 st sz (List.replicate n.toNat z) (fun q=>.sref q 0 n.toNat) K)
  |_,_=>False))
theorem z779 {s x : Operand} {t tI : TypeId} (ρ : Operand → Value) :
    execOp ρ ⟨dst,.call ⟨.builtin .append,#[s,x],#[t,tI]⟩,type,pos,after,guard⟩=(do pure (.value (← Builtin.append_ #[t,tI] type #[ρ s,ρ x]))):=by
  simp [execOp,resolve,invoke,Go.builtin]
theorem z630 {s x : Operand} {t tI e : TypeId} {i ei : TyI} (hT : z118 P T) (ht : TyOk P t i) (hd : i.desc = .slice e) (he : TyOk P e ei)
    (h:z1044 (T tI) ei st (st.ev s) (st.ev x) K):z102 P st ⟨dst,.call ⟨.builtin .append,#[s,x],#[t,tI]⟩,type,pos,after,guard⟩ K:=by
  unfold z1044 at h
  obtain ⟨hi,h⟩:=z26 h
  obtain ⟨hpos,h⟩:=z26 h
  have hpos:0 < ei.size:=by simpa [Nat.blt_eq] using hpos
  obtain ⟨ik,hI⟩:=z843 hT hi
  split at h
  · rename_i k n hs hx
    obtain ⟨⟨h0,h1,h2⟩,h⟩:=h
    obtain ⟨hz,h⟩:=z26 h
    rw [z104,z258] at h
    have hz' : ei.zero.cells.size=ei.size:=by have:=Nat.eq_of_beq_eq_true hz;simpa [z87] using this
    exact z284 rfl h (OpT.fresh2 (fun ρ=>Builtin.append_ #[t,tI] type #[ρ s,ρ x]) z779 fun G a w hxs=>by
      have h4:=hxs s (by simp [Op.operands,Call.operands])
      have h5:=hxs x (by simp [Op.operands,Call.operands])
      rw [hs,z98] at h4
      rw [hx,z98] at h5
      obtain ⟨nc,rest,hnc,hrest,w',hrun,hh,e1,e2,e3⟩:=z821 (w:=w) (ty:=type) (k:=k) ht hd he hI hz' hpos h0 h1 h2
      refine ⟨_,_,_,w',by rw [h4,h5];exact hrun,hh,e1,e2,e3,?_,fun G' h' hι=>?_⟩
      · have:=z432 (G:=G) (h:=hp w) (l:=none) (n:=n.toNat) (z:=ei.zero)
        rw [hz'] at this
        rw [z66] at this ⊢
        intro i e hie
        obtain ⟨h6,h7⟩:=this i e hie
        refine ⟨h6,z63.2 fun j y hy=>?_⟩
        obtain ⟨v,hv1,hv2⟩:=z63.1 h7 j y hy
        refine ⟨v,?_,hv2⟩
        have:=(Array.getElem?_eq_some_iff.1 hv1).1
        rw [Array.getElem?_append,if_pos this];exact hv1
      · simp only [V]
        refine ⟨nc,hnc,.inr ⟨_,_,_,hι,?_,by simp⟩⟩
        rw [Array.size_append,z269,hrest,hz',Nat.zero_add,← Nat.add_mul]
        exact Nat.mul_le_mul_right _ (by omega))
  · exact h.elim
def vcCap (ti:Option TyI) (x:AC) (K:OpK):Prop:=z67 (z474 ti) (match x with
 |.raw (.slice _ _ n)=>K (.int n) []
 |_=>False)
theorem z1063 {x:Operand} {t:TypeId} (hT:z118 P T) (h:vcCap (T t) (st.ev x) K):z102 P st ⟨dst,.call ⟨.builtin .cap,#[x],#[t]⟩,type,pos,after,guard⟩ K:=by
 unfold vcCap at h
 obtain ⟨hi,h⟩:=z26 h
 obtain ⟨e,he⟩:=z434 hT hi
 split at h
 ·rename_i a l n hx
  refine z77 (fun ρ=>Builtin.cap_ #[t] type #[ρ x]) (fun ρ=>by simp [execOp,resolve,invoke,Go.builtin,go_sem]) h fun G a w hxs=>?_
  have h1:=hxs x (by simp [Op.operands,Call.operands])
  rw [hx,z98] at h1
  exact ⟨_,by rw [h1];simp [Builtin.cap_,z54 he,goInt,go_sem];rfl,by simp [V]⟩
 ·exact h.elim
end Go.Gl
namespace Go.Gl
variable {P:Program} {T:Tab} {dst:Option Tmp} {type:TypeId} {pos:String} {after:Array Edge} {guard:Option (Nat×Bool)} {st:St} {K:OpK}
def z482 (t:Option TyI) (K:TyI→Prop):Prop:=match t with
 |some i=>K i
 |none=>False
theorem z129 {t:TypeId} {K:TyI→Prop} (hT:z118 P T) (h:z482 (T t) K):∃ i,TyOk P t i∧K i:=by
 unfold z482 at h
 split at h
 ·rename_i i hi;exact ⟨i,hT _ _ hi,h⟩
 ·exact h.elim
def mget:List (List Int×Int)→List Int→Option Int
 |[],_=>none
 |p::es,k=>if k=p.1 then some p.2 else mget es k
def mput:List (List Int×Int)→List Int→Int→List (List Int×Int)
 |[],k,n=>[(k,n)]
 |p::es,k,n=>if k=p.1 then (k,n)::es else p::mput es k n
def KeyT (P:Program) (k:TypeId):Nat→Prop
 |0=>P.underlying k=some (.int .i64)
 |n + 1 => P.underlying k = some (.struct (P.fieldsOf k)) ∧ (P.fieldsOf k).size = kLen (n + 1) ∧ (∀ (i : Nat) (f : Field), (P.fieldsOf k).toList[i]? = some f → f.name ≠ "_" ∧ f.offset = i ∧ P.underlying f.type = some (.int .i64)) ∧ P.stoodInHeld k = false
theorem z657 {l:List Int} (h:l.length=1):∃ a,l=[a]∧keyV 0 l=.int .i64 a:=by
 obtain ⟨a,rfl⟩:=List.length_eq_one_iff.1 h
 exact ⟨a,rfl,rfl⟩
theorem z286 {w:World} {e:TypeId} {xs:Array Value} {off:Nat} {v:Value} (h:P.underlying e=some (.int .i64)) (hx:xs[off]?=some v):(part e xs off).run P w=.ok v w:=by
 simp only [part,Sem.run_bind,z374 h,aggB,Result.andThen,hx]
 rfl
theorem z274 {w:World} {e:TypeId} {a:Int} {n:Nat} {em:Bool} (h:P.underlying e=some (.int .i64)):(Instr.checkKey em (n+1) e (.int .i64 a)).run P w=.ok () w:=by
 unfold Instr.checkKey
 simp only [Sem.run_bind,z54 h,Result.andThen]
 rfl
theorem z473 {l:List Int} {i:Nat} (h:i < l.length):(l.map (Value.int .i64)).toArray[i]?=some (.int .i64 l[i]):=by
 simp [h]
theorem z256 {w:World} {k:TypeId} {d:Nat} (hk:KeyT P k d) {l:List Int} (hl:l.length=kLen d) (em:Bool):(Instr.checkKey em 10000 k (keyV d l)).run P w=.ok () w:=by
 cases d with
 |zero =>
  obtain ⟨a,rfl,h⟩:=z657 hl
  rw [h];exact z274 hk
 |succ d =>
  obtain ⟨h1,h2,h3,_⟩:=hk
  show (Instr.checkKey em (9999+1) k (.agg (l.map (Value.int .i64)).toArray)).run P w=_
  unfold Instr.checkKey
  simp only [Sem.run_bind,z54 h1,Result.andThen]
  rw [← Array.forIn_toList]
  have key : ∀ (L : List Field) (j : Nat), (∀ (i : Nat) (f : Field), L[i]? = some f → f.name ≠ "_" ∧ f.offset = j + i ∧ P.underlying f.type = some (.int .i64)) → j + L.length = l.length →
    (forIn L PUnit.unit fun f _ => (if f.name ≠ "_" then do
     Instr.checkKey em 9999 f.type (← part f.type (l.map (Value.int .i64)).toArray f.offset)
     pure (ForInStep.yield PUnit.unit)
    else pure (ForInStep.yield PUnit.unit):Sem (ForInStep PUnit))).run P w=.ok PUnit.unit w:=by
   intro L
   induction L with
   |nil=>intro j _ _;rfl
   |cons f L ih =>
    intro j hL hj
    obtain ⟨g1,g2,g3⟩:=hL 0 f (by simp)
    simp only [y54] at hj
    have g4:(part f.type (l.map (Value.int .i64)).toArray f.offset).run P w=.ok (.int .i64 (l[j]'(by omega))) w:=by
     rw [g2];exact z286 g3 (z473 (by omega))
    rw [List.forIn_cons,if_pos g1]
    simp only [Sem.run_bind,g4,Result.andThen,z274 g3 (n:=9998),Sem.run_pure]
    exact ih (j+1) (fun i f' hf=>by
     have:=hL (i+1) f' (by simpa using hf)
     rwa [show j+(i+1)=j+1+i by omega] at this) (by omega)
  have h5:=key (P.fieldsOf k).toList 0 (fun i f hf=>by rw [Nat.zero_add];exact h3 i f hf) (by simp [h2,hl])
  simp only [Array.forIn_toList] at h5 ⊢
  simp at h5 ⊢
  rw [h5]
theorem z375 {w : World} {a b : List Int} (hab : a.length = b.length) : ∀ (L : List Field) (j : Nat), (∀ (i : Nat) (f : Field), L[i]? = some f → f.name ≠ "_" ∧ f.offset = j + i ∧ P.underlying f.type = some (.int .i64)) → j + L.length = a.length →
    (Op.eqFields 9999 (a.map (Value.int .i64)).toArray (b.map (Value.int .i64)).toArray L).run P w=.ok (decide (a.drop j=b.drop j)) w
  | [],j,_,hj=>by
    simp only [y55] at hj
    rw [y80 (by omega),y80 (by omega)]
    rfl
  | f::L,j,hL,hj=>by
    simp only [y54] at hj
    obtain ⟨g1,g2,g3⟩:=hL 0 f (by simp)
    have ih := z375 (w := w) hab L (j + 1) (fun i f' hf => by
          have:=hL (i+1) f' (by simpa using hf)
          rwa [show j+(i+1)=j+1+i by omega] at this) (by omega)
    have ha:j < a.length:=by omega
    have hb:j < b.length:=by omega
    have he:(Op.equalIn 9999 f.type (.int .i64 a[j]) (.int .i64 b[j])).run P w=.ok (a[j] == b[j]) w:=by
      show (Op.equalIn (9998+1) f.type (.int .i64 a[j]) (.int .i64 b[j])).run P w=_
      unfold Op.equalIn
      simp only [Sem.run_bind,z54 g3,Result.andThen]
      simp [go_sem]
    have hd:decide (a.drop j=b.drop j)=if (!(a[j] == b[j]))=true then false else decide (a.drop (j+1)=b.drop (j+1)):=by
      have e1:=y76 ha
      have e2:=y76 hb
      have e3:(a.drop j=b.drop j)↔(a[j]=b[j]∧a.drop (j+1)=b.drop (j+1)):=by rw [e1,e2,List.cons.injEq]
      by_cases h:a[j]=b[j]
      · by_cases h2:a.drop (j+1)=b.drop (j+1)
        · rw [y78 (e3.2 ⟨h,h2⟩),if_neg (by simp [h]),y78 h2]
        · rw [y79 (fun e=>h2 (e3.1 e).2),if_neg (by simp [h]),y79 h2]
      · rw [y79 (fun e=>h (e3.1 e).1),if_pos (by simp [h])]
    have p1:(part f.type (a.map (Value.int .i64)).toArray f.offset).run P w=.ok (.int .i64 a[j]) w:=by
      rw [g2];exact z286 g3 (z473 ha)
    have p2:(part f.type (b.map (Value.int .i64)).toArray f.offset).run P w=.ok (.int .i64 b[j]) w:=by
      rw [g2];exact z286 g3 (z473 hb)
    rw [hd]
    simp only [Op.eqFields,if_pos g1,Sem.run_bind,p1,p2,Result.andThen,he]
    split
    · rfl
    · exact ih
theorem z964 {w:World} {k:TypeId} {d:Nat} (hk:KeyT P k (d+1)) {a b:List Int} (ha:a.length=kLen (d+1)) (hb:b.length=kLen (d+1)):(Op.equal k (keyV (d+1) a) (keyV (d+1) b)).run P w=.ok (decide (a=b)) w:=by
 obtain ⟨h1,h2,h3,h4⟩:=hk
 show (Op.equalIn (9999+1) k (.agg (a.map (Value.int .i64)).toArray) (.agg (b.map (Value.int .i64)).toArray)).run P w=_
 rw [run_equalIn_struct w 9999 k _ _ h1 h4]
 have:=z375 (P:=P) (w:=w) (a:=a) (b:=b) (by omega) (P.fieldsOf k).toList 0 (fun i f hf=>by rw [Nat.zero_add];exact h3 i f hf) (by simp [h2,ha])
 simpa using this
def FindOk (d:Nat) (es:List (List Int×Int)) (key:List Int) (i:Nat) (r:Option (Nat×Value)):Prop :=
 (r=none∧mget es key=none∧∀ n,mput es key n=es++[(key,n)])∨∃ j v,r=some (i+j,valV d v)∧mget es key=some v∧es[j]?=some (key,v)∧∀ n,mput es key n=es.set j (key,n)
theorem FindOk.cons {d:Nat} {p:List Int×Int} {es:List (List Int×Int)} {key:List Int} {i:Nat} {r:Option (Nat×Value)} (hp:key≠p.1) (h:FindOk d es key (i+1) r):FindOk d (p::es) key i r:=by
 rcases h with ⟨h1,h2,h3⟩|⟨j,v,h1,h2,h3,h4⟩
 ·exact .inl ⟨h1,by rw [mget,if_neg hp];exact h2,fun n=>by rw [mput,if_neg hp,h3];rfl⟩
 ·exact .inr ⟨j+1,v,by rw [h1];congr 2;omega,by rw [mget,if_neg hp];exact h2,by simpa using h3,fun n=>by rw [mput,if_neg hp,h4];rfl⟩
theorem MapRel.cons {d:Nat} {es:List (List Int×Int)} {e:MapEntry} {c:List MapEntry} (h:MapRel d es (e::c)):∃ p es',es=p::es'∧e.key=keyV d p.1∧e.val=valV d p.2∧p.1.length=kLen d∧MapRel d es' c:=by
 obtain ⟨h1,h2⟩:=h
 cases es with
 |nil=>simp at h1
 |cons p es =>
  simp only [List.map_cons,List.cons.injEq,Prod.mk.injEq] at h1
  exact ⟨p,es,rfl,h1.1.1,h1.1.2,h2 p (by simp),h1.2,fun q hq=>h2 q (by simp [hq])⟩
theorem MapRel.nil' {d:Nat} {es:List (List Int×Int)} (h:MapRel d es []):es=[]:=by
 have:=h.1
 simpa using this.symm
theorem z532 {key:List Int} (hl:key.length=1):∀ (c:List MapEntry) (es:List (List Int×Int)) (i:Nat),MapRel 0 es c→∃ r,Instr.findNow (.int .i64) (keyV 0 key) c i=some r∧FindOk 0 es key i r
 |[],es,i,h=>by
  rw [h.nil']
  exact ⟨none,rfl,.inl ⟨rfl,rfl,fun n=>rfl⟩⟩
 |e::c,es,i,h=>by
  obtain ⟨p,es',rfl,h1,h2,h3,h4⟩:=h.cons
  obtain ⟨a,rfl,ha⟩:=z657 hl
  obtain ⟨b,hb,hb'⟩:=z657 (l:=p.1) h3
  have hs:Instr.sameNow (.int .i64) (keyV 0 [a]) e.key=some (a == b):=by
   rw [h1,ha,hb'];simp [Instr.sameNow]
  by_cases hab:a=b
  ·subst hab
   refine ⟨some (i,e.val),by simp [Instr.findNow,hs],.inr ⟨0,p.2,by rw [h2];rfl,by rw [mget,if_pos hb.symm],by rw [← hb];simp,fun n=>by rw [mput,if_pos hb.symm];rfl⟩⟩
  ·obtain ⟨r,hr,hf⟩:=z532 hl c es' (i+1) h4
   have hab' : (a == b)=false:=by simpa using hab
   rw [hab'] at hs
   refine ⟨r,by simp [Instr.findNow,hs,hr],FindOk.cons (by rw [hb];simpa using hab) hf⟩
theorem z576 {w : World} {k : TypeId} {d : Nat} (hk : KeyT P k (d + 1)) {key : List Int} (hl : key.length = kLen (d + 1)) : ∀ (c : List MapEntry) (es : List (List Int × Int)) (i : Nat), MapRel (d + 1) es c →
  ∃ r,(Instr.findAsking k (keyV (d+1) key) c i).run P w=.ok r w∧FindOk (d+1) es key i r
 |[],es,i,h=>by
  rw [h.nil']
  exact ⟨none,rfl,.inl ⟨rfl,rfl,fun n=>rfl⟩⟩
 |e::c,es,i,h=>by
  obtain ⟨p,es',rfl,h1,h2,h3,h4⟩:=h.cons
  have he:=z964 (w:=w) hk hl (b:=p.1) h3
  rw [← h1] at he
  by_cases hab:key=p.1
  ·rw [y78 hab] at he
   refine ⟨some (i,e.val),by simp [Instr.findAsking,he,Result.andThen],.inr ⟨0,p.2,by rw [h2];rfl,by rw [mget,if_pos hab],by rw [hab];simp,fun n=>by rw [mput,if_pos hab];rfl⟩⟩
  ·obtain ⟨r,hr,hf⟩:=z576 (w:=w) hk hl c es' (i+1) h4
   rw [y79 hab] at he
   exact ⟨r,by simp [Instr.findAsking,he,Result.andThen,hr],FindOk.cons hab hf⟩
theorem z711 {w : World} {k : TypeId} {d : Nat} (hk : KeyT P k d) {key : List Int} (hl : key.length = kLen d) {c : List MapEntry} {es : List (List Int × Int)} (h : MapRel d es c) :
    ∃ r,(Instr.findKey k (keyV d key) c).run P w=.ok r w∧FindOk d es key 0 r:=by
  cases d with
  | zero =>
    obtain ⟨r,hr,hf⟩:=z532 hl c es 0 h
    exact ⟨r,by simp only [Instr.findKey,Sem.run_bind,z54 (show P.underlying k=some (.int .i64) from hk),Result.andThen,hr];rfl,hf⟩
  | succ d =>
    obtain ⟨r,hr,hf⟩:=z576 (w:=w) hk hl c es 0 h
    refine ⟨r,?_,hf⟩
    simp only [Instr.findKey,Sem.run_bind,z54 hk.1,Result.andThen]
    cases c with
    | nil =>
      rw [← hr];rfl
    | cons e c =>
      have:Instr.findNow (.struct (P.fieldsOf k)) (keyV (d+1) key) (e::c) 0=none:=rfl
      rw [this];exact hr
theorem z963 {w:World} {d:Nat} {l:List Int} : (Instr.keyThatStays (keyV d l) (keyV d l)).run P w=.ok (keyV d l) w:=by
 have:Instr.sameBits 10000 (keyV d l) (keyV d l)=true:=by
  cases d with
  |zero=>simp [keyV,Instr.sameBits]
  |succ d =>
   show Instr.sameBits (9999+1) (.agg (l.map (Value.int .i64)).toArray) (.agg (l.map (Value.int .i64)).toArray)=true
   simp only [Instr.sameBits,beq_self_eq_true,Bool.true_and,y75]
   intro p hp
   obtain ⟨i,hi,e⟩:=List.getElem_of_mem hp
   rw [List.getElem_zip] at e
   rw [← e]
   simp [Instr.sameBits]
 simp [Instr.keyThatStays,this]
theorem Wf.pushM {G : Ghost} {objs : Nat → AObj} {w w' : World} (h : Wf G objs w) {o d clock : Nat} (ho : objs o = .fresh)
    (hh:w'.heap=w.heap.push (.map #[] clock)):Wf (G.push o w.heap.size 0 0) (upd objs o (.mp d [])) w':=by
  have hio:G.ι o=none:=by have:=h.objs o;rw [ho] at this;exact this
  have hlt:∀ b x,w.heap[b]?=some x→b < w.heap.size:=fun b x e=>by
    rcases y66 b w.heap.size with hl|hl
    · exact hl
    · rw [Array.getElem?_eq_none hl] at e;cases e
  have hold:∀ b x,w.heap[b]?=some x→w'.heap[b]?=some x:=fun b x e=>by
    rw [z153 hh,if_neg (Nat.ne_of_lt (hlt b x e))];exact e
  have hι:=y7 (b:=w.heap.size) (size:=0) (wd:=0) hio
  have hκ:∀ b p,G.κ b=some p→(G.push o w.heap.size 0 0).κ b=some p∧hp w' b=hp w b:=fun b p e=>by
    have:=(h.sk b p e).2.2
    refine ⟨by simp only [Ghost.push,z56 _ _ (Nat.ne_of_lt this),e],?_⟩
    simp only [hp,z153 hh,if_neg (Nat.ne_of_lt this)]
  refine ⟨fun b x e=>hold b x (h.hS b x e),fun b x e=>hold b x (h.hU b x e),h.su,fun b p e=>?_,fun o'=>?_⟩
  · by_cases hb:b=w.heap.size
    · subst hb
      refine ⟨?_,?_,by rw [hh];simp⟩
      · cases hs:G.S w.heap.size with
        | none=>simpa [Ghost.push] using hs
        | some x=>exact absurd (hlt _ _ (h.hS _ _ hs)) (Nat.lt_irrefl _)
      · cases hs:G.U w.heap.size with
        | none=>simpa [Ghost.push] using hs
        | some x=>exact absurd (hlt _ _ (h.hU _ _ hs)) (Nat.lt_irrefl _)
    · simp only [Ghost.push,z56 _ _ hb] at e
      obtain ⟨h1,h2,h3⟩:=h.sk b p e
      exact ⟨h1,h2,by rw [hh];simp;omega⟩
  · by_cases hoo:o'=o
    · subst hoo
      rw [z31]
      exact ⟨w.heap.size,0,0,#[],clock,by simp [Ghost.push,z31],by simp [Ghost.push,z31],by simp [hp,z153 hh],rfl,by simp⟩
    · rw [z56 _ _ hoo]
      have:=h.objs o'
      cases hob:objs o' with
      | fresh=>rw [hob] at this;simpa [ObjRel,Ghost.push,z56 _ _ hoo] using this
      | dead=>trivial
      | mp d es' =>
        rw [hob] at this
        obtain ⟨b,size,wx,c',ck,h1,h2,h3,h4⟩:=this
        obtain ⟨hk1,hk2⟩:=hκ b _ h2
        exact ⟨b,size,wx,c',ck,hι _ _ h1,hk1,by rw [hk2];exact h3,h4⟩
      | cells wd' es' =>
        rw [hob] at this
        rcases this with ⟨h1,h2⟩|⟨b,size,c',el',h1,h2,h3,h4,h5⟩
        · exact .inl ⟨h1,by simpa [Ghost.push,z56 _ _ hoo] using h2⟩
        · obtain ⟨hk1,hk2⟩:=hκ b _ h2
          refine .inr ⟨b,size,c',el',hι _ _ h1,hk1,by rw [hk2];exact h3,h4,?_⟩
          have:=z172 es' G (G.push o w.heap.size 0 0) (hp w) (hp w') id (fun _=>True) y6 hι (fun _ _ _=>rfl) (fun _ _ _ h=>h) (fun b p _ e=>hκ b p e) _ wd' c' 0 (fun _ _ _=>trivial) h5
          simpa using this
theorem Wf.storeM {G : Ghost} {objs : Nat → AObj} {w : World} (h : Wf G objs w) {o b : Nat} {size wd d ck : Nat} {c : Array MapEntry} {es : List (List Int × Int)}
    (hι:G.ι o=some (b,size,wd)) (hκ:G.κ b=some (o,[])) (hc:MapRel d es c.toList):Wf G (upd objs o (.mp d es)) (World.setObj w b (.map c ck)):=by
  obtain ⟨hS,hU,hlt⟩:=h.sk b _ hκ
  have hother:∀ b',b'≠b→(World.setObj w b (.map c ck)).heap[b']?=w.heap[b']?:=fun b' hne=>by
    simp [World.setObj,Ne.symm hne]
  have hthis:(World.setObj w b (.map c ck)).heap[b]?=some (.map c ck):=by
    simp [World.setObj,hlt]
  have hmove:∀ b' p,p≠(o,[])→G.κ b'=some p→G.κ b'=some (id p)∧hp (World.setObj w b (.map c ck)) b'=hp w b':=fun b' p hp' e=>by
    refine ⟨e,hother b' ?_⟩
    rintro rfl
    rw [hκ] at e;cases e;exact hp' rfl
  refine ⟨fun b' x e=>?_,fun b' x e=>?_,h.su,fun b' p e=>?_,fun o'=>?_⟩
  · have:b'≠b:=by rintro rfl;rw [hS] at e;cases e
    rw [hother b' this];exact h.hS b' x e
  · have:b'≠b:=by rintro rfl;rw [hU] at e;cases e
    rw [hother b' this];exact h.hU b' x e
  · obtain ⟨h1,h2,h3⟩:=h.sk b' p e
    exact ⟨h1,h2,by simpa [World.setObj] using h3⟩
  · by_cases hoo:o'=o
    · subst hoo
      rw [z31]
      exact ⟨b,size,wd,c,ck,hι,hκ,hthis,hc⟩
    · rw [z56 _ _ hoo]
      have:=h.objs o'
      cases hob:objs o' with
      | fresh=>rw [hob] at this;exact this
      | dead=>trivial
      | mp d es'' =>
        rw [hob] at this
        obtain ⟨b2,size2,wx,c2,ck2,h1,h2,h3,h4⟩:=this
        have hne:b2≠b:=by rintro rfl;rw [hκ] at h2;cases h2;exact hoo rfl
        exact ⟨b2,size2,wx,c2,ck2,h1,h2,by simpa only [hp,hother b2 hne] using h3,h4⟩
      | cells wd' es'' =>
        rw [hob] at this
        rcases this with ⟨h1,h2⟩|⟨b2,size2,c2,el2,h1,h2,h3,h4,h5⟩
        · exact .inl ⟨h1,h2⟩
        · have hne:b2≠b:=by rintro rfl;rw [hκ] at h2;cases h2;exact hoo rfl
          refine .inr ⟨b2,size2,c2,el2,h1,h2,by simpa only [hp,hother b2 hne] using h3,h4,?_⟩
          have:=z172 es'' G G (hp w) (hp (World.setObj w b (.map c ck))) id (fun p=>p.1=o') (fun _ _ e=>e) (fun _ _ e=>e) (fun _ _ _=>rfl) (fun _ _ _ h=>h)
            (fun b' p hD e=>hmove b' p (by rintro rfl;exact hoo hD.symm) e) (some (o',[])) wd' c2 0 (fun p hp' _=>by cases hp';rfl) h5
          simpa using this
def z488 (d:Nat) (st:St) (K:OpK):Prop :=
 match st.objs st.next with
 |.fresh=>z210 st.next fun q=>K (.mref q) [⟨q,.fresh,.mp d []⟩]
 |_=>False
theorem z628 {t:TypeId} {d:Nat} (h:z488 d st K):z102 P st ⟨dst,.makeMap t none,type,pos,after,guard⟩ K:=by
 unfold z488 at h
 split at h
 ·rename_i hf
  rw [z104] at h
  refine ⟨_,_,⟨fun Q K' G st' a w hR hrd hfp hd hK=>?_⟩,by simp [hf,z116],h⟩
  have hq:st'.objs st.next=.fresh:=hfp _ (List.mem_singleton.2 rfl)
  have hio:G.ι st.next=none:=by have:=hR.wf.objs st.next;rw [hq] at this;exact this
  have hh:(w.alloc (.map #[] 0)).heap=w.heap.push (.map #[] 0):=rfl
  refine wp_v (s:=Instr.makeMap t none) (v:=.map (some w.heap.size)) (w':=w.alloc (.map #[] 0)) rfl (by simp [Instr.makeMap,Result.andThen]) ?_
  refine hK (G.push st.next w.heap.size 0 0) _ _ ⟨y6,rfl⟩ (y7 hio) ⟨rfl,rfl,rfl,by simp [hh]⟩ ⟨hR.wf.pushM hq hh,?_,by rw [z189];exact hR.size,by rw [z130];exact hR.defers.mono y6⟩
  refine z267 hd hR.size (fun s=>z134 y6 (y7 hio) (hR.env s)) ?_
  simp only [V]
  exact ⟨w.heap.size,0,0,by simp [Ghost.push,z31],rfl⟩
 ·exact h.elim
def intsK (cs:List AC) (K:List Int→Prop):Prop:=match cs with
 |[]=>K []
 |.raw (.int .i64 a)::cs=>intsK cs fun l=>K (a::l)
 |_=>False
theorem z993 {cs:List AC} {K:List Int→Prop} (h:intsK cs K):∃ l,K l∧cs=l.map AC.int:=by
 induction cs generalizing K with
 |nil=>exact ⟨[],h,rfl⟩
 |cons c cs ih =>
  unfold intsK at h
  split at h
  ·rename_i heq;cases heq
  ·rename_i a cs' heq
   cases heq
   obtain ⟨l,h1,h2⟩:=ih h
   exact ⟨a::l,h1,by rw [h2];rfl⟩
  ·exact h.elim
def keyK (P:Program) (k:TypeId) (d:Nat) (x:AC) (K:List Int→Prop):Prop:=match d with
 |0=>match x with
  |.raw (.int .i64 a)=>K [a]
  |_=>False
 |n+1=>KeyT P k (n+1)∧match x with
  |.agg cs=>intsK cs fun l=>z67 (Nat.beq l.length (kLen (n+1))) (K l)
  |_=>False
theorem z389 {k:TypeId} {d:Nat} {x:AC} {K:List Int→Prop} (h0:d=0→KeyT P k 0) (h:keyK P k d x K):KeyT P k d∧∃ l,K l∧l.length=kLen d∧∀ (G:Ghost) (hh:Nat→Option Obj) (v:Value),V G hh none x v→v=keyV d l:=by
 unfold keyK at h
 split at h
 ·split at h
  ·rename_i a
   exact ⟨h0 rfl,[a],h,rfl,fun G hh v hv=>by rw [z98] at hv;exact hv⟩
  ·exact h.elim
 ·rename_i n
  obtain ⟨hk,h⟩:=h
  split at h
  ·obtain ⟨l,h1,rfl⟩:=z993 h
   obtain ⟨h2,h3⟩:=z26 h1
   refine ⟨hk,l,h3,Nat.eq_of_beq_eq_true h2,fun G hh v hv=>?_⟩
   simp only [V] at hv
   obtain ⟨c,rfl,hc,hv⟩:=hv
   show _=Value.agg _
   congr 1
   apply Array.ext_getElem?
   intro j
   by_cases hj:j < l.length
   ·obtain ⟨v,h4,h5⟩:=z63.1 hv j (AC.int l[j]) (by simp [hj])
    rw [z98] at h5
    rw [Nat.zero_add] at h4
    rw [h4,h5,z473 hj]
   ·rw [Array.getElem?_eq_none (by simp at hc;omega),Array.getElem?_eq_none (by simp;omega)]
  ·exact h.elim
def boolE (t:Option TyI):Bool:=match t with
 |some i=>match i.desc with
  |.bool=>true
  |_=>false
 |none=>false
def z483 (T:Tab) (t:TypeId) (K:TypeId→TypeId→Nat→Prop):Prop:=match T t with
 |some i=>match i.desc with
  |.map k e=>match T k with
   |some ki=>match ki.desc with
    |.int .i64=>K k e 0
    |.struct fs=>match boolE (T e) with
     |true=>z67 (Nat.ble fs.size 900) (z210 (64+fs.size) (K k e))
     |false=>z67 (Nat.blt 0 fs.size) (z210 fs.size (K k e))
    |_=>False
   |none=>False
  |_=>False
 |none=>False
theorem z278 {t:TypeId} {K:TypeId→TypeId→Nat→Prop} (hT:z118 P T) (h:z483 T t K):∃ k e d,P.underlying t=some (.map k e)∧(d=0→KeyT P k 0)∧K k e d:=by
 unfold z483 at h
 split at h
 ·rename_i i hi
  split at h
  ·rename_i k e hd
   have h1:P.underlying t=some (.map k e):=by rw [(hT _ _ hi).1,hd]
   split at h
   ·rename_i ki hki
    split at h
    ·rename_i hkd
     exact ⟨k,e,0,h1,fun _=>by show P.underlying k=_;rw [(hT _ _ hki).1,hkd],h⟩
    ·rename_i fs hkd
     split at h
     ·obtain ⟨hp,h⟩:=z26 h
      rw [z104] at h
      exact ⟨k,e,64+fs.size,h1,fun h0=>(by omega),h⟩
     ·obtain ⟨hp,h⟩:=z26 h
      rw [z104] at h
      exact ⟨k,e,fs.size,h1,fun h0=>(by rw [h0] at hp;cases hp),h⟩
    ·exact h.elim
   ·exact h.elim
  ·exact h.elim
 ·exact h.elim
def z617 (T:Tab) (P:Program) (k e:TypeId) (d:Nat) (ok:Bool) (st:St) (x ix:AC) (K:OpK):Prop:=match x with
 |.mref o=>match st.objs o with
  |.mp d' es=>z67 (Nat.beq d d') (z482 (T e) fun ei=>match ei.zero with
   |.int .i64 z=>z67 (Nat.ble d 64) (keyK P k d ix fun key=>match ok with
    |true=>K (.tup [.int ((mget es key).getD z),.bool (mget es key).isSome]) [st.rd o]
    |false=>K (.int ((mget es key).getD z)) [st.rd o])
   |.bool b=>z67 (!b && Nat.blt 64 d) (keyK P k d ix fun key=>match ok with
    |true=>False
    |false=>K (.bool (decide ((mget es key).getD 0≠0))) [st.rd o])
   |_=>False)
  |_=>False
 |_=>False
theorem Wf.map {G : Ghost} {objs : Nat → AObj} {w : World} (h : Wf G objs w) {o d : Nat} {es : List (List Int × Int)} (ho : objs o = .mp d es) :
    ∃ b size wd c ck,G.ι o=some (b,size,wd)∧G.κ b=some (o,[])∧w.heap[b]?=some (.map c ck)∧MapRel d es c.toList:=by
  have:=h.objs o
  rw [ho] at this
  exact this
theorem z783 {G:Ghost} {h:Nat→Option Obj} {l:Loc} {o:Nat} {v:Value} {b s wd:Nat} (hv:V G h l (.mref o) v) (hι:G.ι o=some (b,s,wd)):v=.map (some b):=by
 simp only [V] at hv
 obtain ⟨b',s',w',h1,h2⟩:=hv
 rw [hι] at h1;cases h1;exact h2
theorem z255 {w:World} {r ck:Nat} {c:Array MapEntry} (hb:w.heap[r]?=some (.map c ck)):(getObj r).run P w=.ok (.map c ck) w:=by
 simp [getObj,Sem.run,hb]
theorem z503 {w : World} {t k e : TypeId} {d b ck : Nat} {c : Array MapEntry} {es : List (List Int × Int)} {ei : TyI} {z : Int} {key : List Int} {ok : Bool} (ht : P.underlying t = some (.map k e)) (hk : KeyT P k d) (he : TyOk P e ei) (hz : ei.zero = valV d z)
    (hb:w.heap[b]?=some (.map c ck)) (hc:MapRel d es c.toList) (hl:key.length=kLen d) :
    (Instr.lookup t (.map (some b)) (keyV d key) ok).run P w=.ok (if ok then .tuple #[valV d ((mget es key).getD z),.bool (mget es key).isSome] else valV d ((mget es key).getD z)) w:=by
  obtain ⟨r,hr,hf⟩:=z711 (w:=w) hk hl hc
  obtain ⟨j,hj1,_,_,hj2⟩:=he.2
  have hzv:(zeroValue e).run P w=.ok (valV d z) w:=z148 hj1 (by rw [hj2,hz])
  simp only [Instr.lookup,Sem.run_bind,z54 ht,Result.andThen,z255 hb,Sem.run_pure,z256 hk hl,hr]
  rcases hf with ⟨rfl,h2,_⟩|⟨j,v,rfl,h2,_,_⟩
  · simp only [Sem.run_bind,hzv,Result.andThen,Sem.run_pure,h2]
    rfl
  · simp only [Sem.run_pure,h2]
    rfl
theorem z703 (hT : z118 P T) {t k e : TypeId} {d : Nat} {x ix : Operand} {ok : Bool} (ht : P.underlying t = some (.map k e)) (h0 : d = 0 → KeyT P k 0) (h : z617 T P k e d ok st (st.ev x) (st.ev ix) K) :
    z102 P st ⟨dst,.lookup t x ix ok,type,pos,after,guard⟩ K:=by
  unfold z617 at h
  split at h
  · rename_i o hx
    split at h
    · rename_i d' es hob
      obtain ⟨hd,h'⟩:=z26 h
      clear h
      obtain rfl:=Nat.eq_of_beq_eq_true hd
      have h:=h'
      obtain ⟨ei,hei,h⟩:=z129 hT h
      split at h
      · rename_i z hz
        obtain ⟨hd64,h⟩:=z26 h
        have hd64:=Nat.le_of_ble_eq_true hd64
        obtain ⟨hk,key,h,hl,hv⟩:=z389 h0 h
        have hz:ei.zero=valV d z:=by rw [hz];unfold valV;rw [if_pos hd64]
        have run : ∀ (res : AC), (∀ (G : Ghost) (hh : Nat → Option Obj), V G hh none res (if ok then .tuple #[.int .i64 ((mget es key).getD z), .bool (mget es key).isSome] else .int .i64 ((mget es key).getD z))) → K res [st.rd o] →
            z102 P st ⟨dst,.lookup t x ix ok,type,pos,after,guard⟩ K:=by
          intro res hres hk'
          refine ⟨res,[st.rd o],OpT.val (fun ρ=>Instr.lookup t (ρ x) (ρ ix) ok) (fun _=>rfl) (by simp [St.rd]) (fun G objs a w hW hfp hxs=>?_),by simp [St.rd],hk'⟩
          have h1:=hxs x (by simp [Op.operands])
          have h2:=hxs ix (by simp [Op.operands])
          rw [hx] at h1
          obtain ⟨b,size,wd,c,ck,g1,g2,g3,g4⟩:=hW.map (o:=o) (d:=d) (es:=es) (by have:=hfp _ (List.mem_singleton.2 rfl);simpa [St.rd,hob] using this)
          refine ⟨_,?_,hres G _⟩
          rw [z783 h1 g1,hv _ _ _ h2]
          have:=z503 (ok:=ok) ht hk hei hz g3 g4 hl
          rw [this]
          unfold valV
          rw [if_pos hd64]
        cases ok with
        | true =>
          refine run _ (fun G hh=>?_) h
          simp only [V,if_true]
          exact ⟨_,rfl,by simp,by simp [VL,V]⟩
        | false=>exact run _ (fun G hh=>by simp [V]) h
      · rename_i zb hz
        obtain ⟨hg,hh⟩:=z26 h
        clear h
        rw [y67] at hg
        obtain ⟨hzb,hd64⟩:=hg
        have hd64:=Nat.le_of_ble_eq_true hd64
        obtain rfl:zb=false:=by simpa using hzb
        obtain ⟨hk,key,h,hl,hv⟩:=z389 h0 hh
        have hz:ei.zero=valV d 0:=by rw [hz];unfold valV;rw [if_neg (by omega)];rfl
        cases ok with
        | true=>exact h.elim
        | false =>
          refine ⟨_,[st.rd o],OpT.val (fun ρ=>Instr.lookup t (ρ x) (ρ ix) false) (fun _=>rfl) (by simp [St.rd]) (fun G objs a w hW hfp hxs=>?_),by simp [St.rd],h⟩
          have h1:=hxs x (by simp [Op.operands])
          have h2:=hxs ix (by simp [Op.operands])
          rw [hx] at h1
          obtain ⟨b,size,wd,c,ck,g1,g2,g3,g4⟩:=hW.map (o:=o) (d:=d) (es:=es) (by have:=hfp _ (List.mem_singleton.2 rfl);simpa [St.rd,hob] using this)
          refine ⟨.bool (decide ((mget es key).getD 0≠0)),?_,by rw [z98]⟩
          rw [z783 h1 g1,hv _ _ _ h2]
          have hvv:∀ n,valV d n=.bool (decide (n≠0)):=fun n=>by unfold valV;rw [if_neg (by omega)]
          have:=z503 (ok:=false) ht hk hei hz g3 g4 hl
          rw [this,hvv]
          rfl
      · exact h.elim
    · exact h.elim
  · exact h.elim
def z338 (P:Program) (k:TypeId) (d:Nat) (st:St) (x ix v:AC) (K:OpK):Prop:=match x with
 |.mref o=>match st.objs o with
  |.mp d' es=>z67 (Nat.beq d d') (match v with
   |.raw (.int .i64 n)=>z67 (Nat.ble d 64) (keyK P k d ix fun key=>K .any [⟨o,.mp d es,.mp d (mput es key n)⟩])
   |.raw (.bool b)=>z67 (b && Nat.blt 64 d) (keyK P k d ix fun key=>K .any [⟨o,.mp d es,.mp d (mput es key 1)⟩])
   |_=>False)
  |_=>False
 |_=>False
theorem MapRel.push {d : Nat} {es : List (List Int × Int)} {c : Array MapEntry} {key : List Int} {n : Int} {ck : Nat} (h : MapRel d es c.toList) (hl : key.length = kLen d) :
    MapRel d (es++[(key,n)]) (c.push ⟨keyV d key,valV d n,ck⟩).toList:=by
  obtain ⟨h1,h2⟩:=h
  refine ⟨by simp [h1],fun p hp=>?_⟩
  rcases List.mem_append.1 hp with hp|hp
  · exact h2 p hp
  · rw [List.mem_singleton.1 hp];exact hl
theorem MapRel.modify {d j : Nat} {es : List (List Int × Int)} {c : Array MapEntry} {key : List Int} {n v : Int} (h : MapRel d es c.toList) (hj : es[j]? = some (key, v)) :
    MapRel d (es.set j (key,n)) (c.modify j fun e=>{ e with key:=keyV d key,val:=valV d n }).toList:=by
  obtain ⟨h1,h2⟩:=h
  refine ⟨?_,fun p hp=>?_⟩
  · apply List.ext_getElem?
    intro i
    have hi:=congrArg (fun l=>l[i]?) h1
    have hj':=congrArg (fun l=>l[j]?) h1
    simp only [y47,Array.getElem?_toList] at hi hj'
    simp only [y47,Array.getElem?_toList,Array.getElem?_modify,List.getElem?_set]
    by_cases hij:j=i
    · subst hij
      rw [hj] at hj'
      simp only [Option.map_some,Option.map_eq_some_iff] at hj'
      obtain ⟨e,he,_⟩:=hj'
      rw [if_pos rfl,if_pos rfl,he,if_pos (List.getElem?_eq_some_iff.1 hj).1]
      rfl
    · rw [if_neg hij,if_neg hij];exact hi
  · rcases List.mem_or_eq_of_mem_set hp with hp|rfl
    · exact h2 p hp
    · exact h2 (key,v) (List.mem_of_getElem? hj)
theorem z327 {w : World} {t k e : TypeId} {d b ck : Nat} {c : Array MapEntry} {es : List (List Int × Int)} {key : List Int} {n : Int} (ht : P.underlying t = some (.map k e)) (hk : KeyT P k d)
    (hb:w.heap[b]?=some (.map c ck)) (hc:MapRel d es c.toList) (hl:key.length=kLen d) :
    ∃ c' ck',(Instr.mapUpdate t (.map (some b)) (keyV d key) (valV d n)).run P w=.ok () (World.setObj w b (.map c' ck'))∧MapRel d (mput es key n) c'.toList:=by
  obtain ⟨r,hr,hf⟩:=z711 (w:=w) hk hl hc
  have hset:∀ o,(setObj b o).run P w=.ok () (World.setObj w b o):=fun o=>by simp [setObj,Sem.run,hb,World.setObj]
  rcases hf with ⟨rfl,h2,h3⟩|⟨j,v,rfl,h2,h3,h4⟩
  · refine ⟨c.push ⟨keyV d key,valV d n,ck⟩,ck+1,?_,by rw [h3];exact hc.push hl⟩
    simp only [Instr.mapUpdate,Sem.run_bind,z54 ht,Result.andThen,z255 hb,z256 hk hl,hr,hset]
  · refine ⟨c.modify j fun e=>{ e with key:=keyV d key,val:=valV d n },ck,?_,by rw [h4];exact hc.modify h3⟩
    have hkey:((c[j]?).map (·.key)).getD (keyV d key)=keyV d key:=by
      have h5:=congrArg (fun l=>l[j]?) hc.1
      simp only [y47,Array.getElem?_toList,h3,Option.map_some,Option.map_eq_some_iff,Prod.mk.injEq] at h5
      obtain ⟨e,he,h5,_⟩:=h5
      rw [he];exact h5
    simp only [Instr.mapUpdate,Sem.run_bind,z54 ht,Result.andThen,z255 hb,z256 hk hl,hr,Nat.zero_add,hkey,z963,hset]
theorem z495 {t k e : TypeId} {d : Nat} {x ix v : Operand} (ht : P.underlying t = some (.map k e)) (h0 : d = 0 → KeyT P k 0) (h : z338 P k d st (st.ev x) (st.ev ix) (st.ev v) K) :
    z102 P st ⟨dst,.mapUpdate t x ix v,type,pos,after,guard⟩ K:=by
  unfold z338 at h
  split at h
  · rename_i o hx
    split at h
    · rename_i d' es hob
      obtain ⟨hd,h'⟩:=z26 h
      clear h
      obtain rfl:=Nat.eq_of_beq_eq_true hd
      have h:=h'
      split at h
      · rename_i n hn
        obtain ⟨hd64,h⟩:=z26 h
        have hd64:=Nat.le_of_ble_eq_true hd64
        obtain ⟨hk,key,h,hl,hv⟩:=z389 h0 h
        refine ⟨_,_,⟨fun Q K' G st' a w hR hrd hfp hd hK=>?_⟩,by simp [hob,z116],h⟩
        have hob2:st'.objs o=.mp d es:=hfp _ (List.mem_singleton.2 rfl)
        obtain ⟨b,size,wd,c,ck,g1,g2,g3,g4⟩:=hR.wf.map hob2
        have h1:=hR.ev x
        rw [z105 (xs:=(Op.mapUpdate t x ix v).operands.toList) (by simp [Op.operands]) hrd,hx] at h1
        have h2:=hR.ev ix
        rw [z105 (xs:=(Op.mapUpdate t x ix v).operands.toList) (by simp [Op.operands]) hrd] at h2
        have h3:=hR.ev v
        rw [z105 (xs:=(Op.mapUpdate t x ix v).operands.toList) (by simp [Op.operands]) hrd,hn,z98] at h3
        obtain ⟨c',ck',hrun,hm⟩:=z327 (n:=n) ht hk g3 g4 hl
        rw [show valV d n=.int .i64 n by unfold valV;rw [if_pos hd64]] at hrun
        refine wp_u (s:=Instr.mapUpdate t (a.eval x) (a.eval ix) (a.eval v)) rfl (by rw [z783 h1 g1,hv _ _ _ h2,h3];exact hrun) ?_
        refine hK G _ _ (Ghost.Sub.refl G) (fun _ _ h=>h) ⟨rfl,rfl,rfl,by simp [World.setObj]⟩ ⟨hR.wf.storeM g1 g2 hm,?_,by rw [z189];exact hR.size,by rw [z130];exact hR.defers⟩
        exact z267 hd hR.size (fun s=>z134 (fun _ _ e=>e) (fun _ _ e=>e) (hR.env s)) (by simp [V])
      · rename_i vb hn
        obtain ⟨hg,hh⟩:=z26 h
        clear h
        rw [y67] at hg
        obtain ⟨rfl,hd64⟩:=hg
        have hd64:=Nat.le_of_ble_eq_true hd64
        obtain ⟨hk,key,h,hl,hv⟩:=z389 h0 hh
        refine ⟨_,_,⟨fun Q K' G st' a w hR hrd hfp hd hK=>?_⟩,by simp [hob,z116],h⟩
        have hob2:st'.objs o=.mp d es:=hfp _ (List.mem_singleton.2 rfl)
        obtain ⟨b,size,wd,c,ck,g1,g2,g3,g4⟩:=hR.wf.map hob2
        have h1:=hR.ev x
        rw [z105 (xs:=(Op.mapUpdate t x ix v).operands.toList) (by simp [Op.operands]) hrd,hx] at h1
        have h2:=hR.ev ix
        rw [z105 (xs:=(Op.mapUpdate t x ix v).operands.toList) (by simp [Op.operands]) hrd] at h2
        have h3:=hR.ev v
        rw [z105 (xs:=(Op.mapUpdate t x ix v).operands.toList) (by simp [Op.operands]) hrd,hn,z98] at h3
        obtain ⟨c',ck',hrun,hm⟩:=z327 (n:=1) ht hk g3 g4 hl
        rw [show valV d 1=.bool true by unfold valV;rw [if_neg (by omega)];rfl] at hrun
        refine wp_u (s:=Instr.mapUpdate t (a.eval x) (a.eval ix) (a.eval v)) rfl (by rw [z783 h1 g1,hv _ _ _ h2,h3];exact hrun) ?_
        refine hK G _ _ (Ghost.Sub.refl G) (fun _ _ h=>h) ⟨rfl,rfl,rfl,by simp [World.setObj]⟩ ⟨hR.wf.storeM g1 g2 hm,?_,by rw [z189];exact hR.size,by rw [z130];exact hR.defers⟩
        exact z267 hd hR.size (fun s=>z134 (fun _ _ e=>e) (fun _ _ e=>e) (hR.env s)) (by simp [V])
      · exact h.elim
    · exact h.elim
  · exact h.elim
def mapT:Option TyI→Bool
 |some i=>match i.desc with
  |.map _ _=>true
  |_=>false
 |none=>false
theorem z1110 {t:TypeId} (hT:z118 P T) (h:mapT (T t)=true):∃ k e,P.underlying t=some (.map k e):=by
 unfold mapT at h
 split at h
 ·rename_i i hi
  split at h
  ·rename_i k e he
   exact ⟨k,e,by rw [(hT _ _ hi).1,he]⟩
  ·simp at h
 ·simp at h
def z1039 (T:Tab) (t:TypeId) (st:St) (x:AC) (K:OpK):Prop:=match x with
 |.mref o=>match st.objs o with
  |.mp _ es=>z67 (mapT (T t)) (K (.int es.length) [st.rd o])
  |_=>False
 |x=>z1038 (T t) x K
theorem z956 {x:Operand} {t:TypeId} (hT:z118 P T) (h:z1039 T t st (st.ev x) K):z102 P st ⟨dst,.call ⟨.builtin .len,#[x],#[t]⟩,type,pos,after,guard⟩ K:=by
 unfold z1039 at h
 split at h
 ·rename_i o hx
  split at h
  ·rename_i d es hob
   obtain ⟨hm,h⟩:=z26 h
   obtain ⟨k,e,ht⟩:=z1110 hT hm
   refine ⟨_,[st.rd o],OpT.val (fun ρ=>Builtin.len_ #[t] type #[ρ x]) (fun ρ=>by rw [z384];simp) (by simp [St.rd]) (fun G objs a w hW hfp hxs=>?_),by simp [St.rd],h⟩
   have h1:=hxs x (by simp [Op.operands,Call.operands])
   rw [hx] at h1
   obtain ⟨b,size,wd,c,ck,g1,g2,g3,g4⟩:=hW.map (o:=o) (d:=d) (es:=es) (by have:=hfp _ (List.mem_singleton.2 rfl);simpa [St.rd,hob] using this)
   have hl:c.size=es.length:=by
    have:=congrArg List.length g4.1
    simpa using this
   refine ⟨.int .i64 es.length,?_,by simp [V]⟩
   rw [z783 h1 g1,← hl]
   simp [Builtin.len_,z54 ht,z255 g3,goInt,go_sem]
  ·exact h.elim
 ·exact z1062 hT h
end Go.Gl
namespace Go.Gl
variable {P:Program} {T:Tab} {dst:Option Tmp} {type:TypeId} {pos:String} {after:Array Edge} {guard:Option (Nat×Bool)} {st:St} {K:OpK}
def vcMin (st:St) (args:List Operand) (K:OpK):Prop:=match args with
 |[x,y]=>match st.ev x,st.ev y with
  |.raw (.int .i64 m),.raw (.int .i64 n)=>K (.int (min m n)) []
  |_,_=>False
 |_=>False
def vcMax (st:St) (args:List Operand) (K:OpK):Prop:=match args with
 |[x,y]=>match st.ev x,st.ev y with
  |.raw (.int .i64 m),.raw (.int .i64 n)=>K (.int (max m n)) []
  |_,_=>False
 |_=>False
theorem run_min2 {w:World} {ts:Array TypeId} {ty:TypeId} {m n:Int} : (Builtin.min_ ts ty #[.int .i64 m,.int .i64 n]).run P w=.ok (.int .i64 (min m n)) w:=by
 have e:(if n < m then n else m)=min m n:=by split<;>omega
 simp [Builtin.min_,Builtin.min2,e]
theorem run_max2 {w:World} {ts:Array TypeId} {ty:TypeId} {m n:Int} : (Builtin.max_ ts ty #[.int .i64 m,.int .i64 n]).run P w=.ok (.int .i64 (max m n)) w:=by
 have e:(if m < n then n else m)=max m n:=by split<;>omega
 simp [Builtin.max_,Builtin.max2,e]
theorem z1060 {args:Array Operand} {ts:Array TypeId} (h:vcMin st args.toList K):z102 P st ⟨dst,.call ⟨.builtin .min,args,ts⟩,type,pos,after,guard⟩ K:=by
 unfold vcMin at h
 split at h
 ·rename_i x y ha
  obtain rfl:args=#[x,y]:=Array.toList_inj.1 (by simpa using ha)
  split at h
  ·rename_i m n hx hy
   refine z77 (fun ρ=>Builtin.min_ ts type #[ρ x,ρ y]) (fun ρ=>by simp [execOp,resolve,invoke,Go.builtin,go_sem]) h fun G a w hxs=>?_
   have h1:=hxs x (by simp [Op.operands,Call.operands])
   have h2:=hxs y (by simp [Op.operands,Call.operands])
   rw [hx,z98] at h1
   rw [hy,z98] at h2
   exact ⟨_,by rw [h1,h2];exact run_min2,by simp [V]⟩
  ·exact h.elim
 ·exact h.elim
theorem z1061 {args:Array Operand} {ts:Array TypeId} (h:vcMax st args.toList K):z102 P st ⟨dst,.call ⟨.builtin .max,args,ts⟩,type,pos,after,guard⟩ K:=by
 unfold vcMax at h
 split at h
 ·rename_i x y ha
  obtain rfl:args=#[x,y]:=Array.toList_inj.1 (by simpa using ha)
  split at h
  ·rename_i m n hx hy
   refine z77 (fun ρ=>Builtin.max_ ts type #[ρ x,ρ y]) (fun ρ=>by simp [execOp,resolve,invoke,Go.builtin,go_sem]) h fun G a w hxs=>?_
   have h1:=hxs x (by simp [Op.operands,Call.operands])
   have h2:=hxs y (by simp [Op.operands,Call.operands])
   rw [hx,z98] at h1
   rw [hy,z98] at h2
   exact ⟨_,by rw [h1,h2];exact run_max2,by simp [V]⟩
  ·exact h.elim
 ·exact h.elim
end Go.Gl
namespace Go.Gl
variable {P:Program} {Q:Exit→Act→World→Prop} {a:Act} {w:World}
def z180 (o:Oper):Bool:=match o.op with
 |.defer _=>false
 |_=>true
def z283:Code→Bool
 |.skip=>true
 |.region _ ops _=>ops.toList.all z180
 |.seq x y=>z283 x && z283 y
 |.cond _ x y=>z283 x && z283 y
 |.block _ c=>z283 c
 |.loop c=>z283 c
 |.exit _=>true
 |.ret=>true
 |_=>false
abbrev wideR (ro:Option Nat):Fence:={ Fence.wide with round:=ro }
def wpR (P:Program) (c:Code) (Q:Exit→Act→World→Prop) (a:Act) (w:World):Prop:=∀ ro:Option Nat,(ro=none∨z283 c=true)→c.wpIn (wideR ro) 0 P Q a w
theorem z186 {c:Code} {Q' : Exit→Act→World→Prop} (h:wpR P c Q a w) (hq:∀ e a w,Q e a w→Q' e a w):wpR P c Q' a w:=fun ro hr=>wpIn_mono (h ro hr) hq
theorem wpR_skip (h:Q .normal a w):wpR P .skip Q a w:=fun _ _=>wpIn_skip h
theorem wpR_ret (h:Q .ret a w):wpR P .ret Q a w:=fun _ _=>wpIn_ret h
theorem wpR_exit {id:Nat} (h:Q (.exit id) a w):wpR P (.exit id) Q a w:=fun _ _=>wpIn_exit h
theorem wpR_seq {x y:Code} (h:wpR P x (Exit.then (wpR P y Q) Q) a w):wpR P (.seq x y) Q a w:=fun ro hr=>by
 have hx:ro=none∨z283 x=true:=hr.imp id fun e=>(Bool.and_eq_true_iff.1 (show (z283 x && z283 y)=true from e)).1
 have hy:ro=none∨z283 y=true:=hr.imp id fun e=>(Bool.and_eq_true_iff.1 (show (z283 x && z283 y)=true from e)).2
 refine wpIn_seq (wpIn_mono (h ro hx) fun e a w hq=>?_)
 cases e with
 |normal=>exact hq ro hy
 |_=>exact hq
theorem z1027 {id:Nat} {c:Code} (h:wpR P c (Exit.inBlock id Q) a w):wpR P (.block id c) Q a w:=fun ro hr=>wpIn_block (h ro hr)
theorem z610 {c:Operand} {x y:Code} (hc:a.eval c=.bool true) (h:wpR P x Q a w):wpR P (.cond c x y) Q a w:=fun ro hr =>
 wpIn_cond_true hc (h ro (hr.imp id fun e=>(Bool.and_eq_true_iff.1 (show (z283 x && z283 y)=true from e)).1))
theorem z547 {c:Operand} {x y:Code} (hc:a.eval c=.bool false) (h:wpR P y Q a w):wpR P (.cond c x y) Q a w:=fun ro hr =>
 wpIn_cond_false hc (h ro (hr.imp id fun e=>(Bool.and_eq_true_iff.1 (show (z283 x && z283 y)=true from e)).2))
theorem z879 {c : Code} (I : Act → World → Prop) (μ : Act → World → Nat) (h0 : I a w)
    (round:∀ a w,I a w→wpR P c (Exit.then (fun a' w'=>I a' w'∧μ a' w' < μ a w) Q) a w):wpR P (.loop c) Q a w:=fun ro hr=>wpIn_loop I μ h0 fun a w h=>round a w h ro hr
theorem z1094 {ro:Option Nat} {o:Oper} {K:Act→World→Prop} (hr:ro=none∨z180 o=true) (h:o.wp P a w K Q):o.wpIn (wideR ro) 0 P a w K Q:=by
 refine ⟨fun _ _=>trivial,?_⟩
 have e:o.semAt (wideR ro).round a.eval=execOp a.eval o:=by
  rcases hr with rfl|hr
  ·rfl
  ·refine Oper.semAt_eq _ _ _ fun c hc=>?_
   unfold z180 at hr
   rw [hc] at hr;cases hr
 rw [e]
 unfold Oper.wp at h
 generalize (execOp a.eval o).run P w=r at h ⊢
 have hd:(wideR ro).depth.isSome=true→1≤0:=fun h=>by cases h
 cases r with
 |ok x w' =>
  cases x<;>simp only [Oper.upon,Oper.uponIn] at h ⊢<;>first
   |exact h
   |exact ⟨hd,callsIn_wide.2 h⟩
   |exact ⟨hd, fun c cs _ => by
     obtain ⟨v,w'',h1,h2⟩:=h c cs
     exact ⟨v,w'',h1,stepsIn_wide.2 h2⟩⟩
 |halt x w'=>cases x<;>simp only [Oper.upon,Oper.uponIn] at h ⊢<;>exact h
def markOf (D:Nat):Deferred:={ target:=.collected D,args:=#[] }
def z491:List Nat→World→World
 |[],w=>w
 |D::Ds,w=>z491 Ds (w.putObj D (.deferred none))
theorem z950:∀ (Ds:List Nat) (w:World),(z491 Ds w).heap.size=w.heap.size:=by
 intro Ds
 induction Ds with
 |nil=>intro w;rfl
 |cons D Ds ih=>intro w;rw [z491,ih];simp [World.putObj]
theorem z254:∀ (Ds:List Nat) (w:World) (b:Nat),b ∉ Ds→(z491 Ds w).heap[b]?=w.heap[b]?:=by
 intro Ds
 induction Ds with
 |nil=>intro w b _;rfl
 |cons D Ds ih =>
  intro w b hb
  simp only [List.mem_cons,not_or] at hb
  rw [z491,ih _ _ hb.2,World.putObj_heap_other hb.1]
theorem z888:∀ (Ds:List Nat) (w:World),Le w (z491 Ds w):=by
 intro Ds
 induction Ds with
 |nil=>intro w;exact Le.refl w
 |cons D Ds ih=>intro w;exact Le.trans (b:=w.putObj D (.deferred none)) ⟨rfl,rfl,rfl,by simp [World.putObj]⟩ (ih _)
theorem z441 {fn : Func} {tmps : Array Value} {R : Ending → World → Prop} : ∀ (Ds : List Nat) (w : World), Ds.Nodup → (∀ D ∈ Ds, w.heap[D]? = some (.deferred (some []))) →
  (∃ v,(results fn tmps).run P (z491 Ds w)=.ok v (z491 Ds w)∧R (.returned v) (z491 Ds w))→LeavesInM Fence.wide 0 P fn tmps R (Ds.map markOf) .returning w:=by
 intro Ds
 induction Ds with
 |nil=>intro w _ _ h;exact h
 |cons D Ds ih =>
  intro w hn hD h
  obtain ⟨n1,n2⟩:=List.nodup_cons.1 hn
  refine ⟨by simp,.inl ⟨D,_,rfl,run_takeDeferred (hD D (by simp)),ih _ n2 (fun D' h'=>?_) h⟩⟩
  rw [World.putObj_heap_other (by rintro rfl;exact n1 h')]
  exact hD D' (by simp [h'])
theorem z444 {f : FuncId} {fn : Func} {c : Code} {args : Array Value} {R : Ending → World → Prop} (hf : P.funcs[f]? = some fn) (hb : fn.body = some c)
    (h:wpR P c (bodyPostM Fence.wide 0 P fn R) { tmps:=args++Array.replicate (fn.ntmps - args.size) undef,defers:=[] } w):Calls P f args w R :=
  callsIn_wide.1 (callsIn_of_wp_marks (n:=0) hf hb trivial (h none (.inl rfl)))
def Ghost.split (G:Ghost):Ghost:={ G with
 S:=fun b=>match G.S b with
  |some (.cells c el fz)=>some (.cells c el fz)
  |_=>none
 U:=fun b=>match G.U b with
  |some x=>some x
  |none=>match G.S b with
   |some (.cells _ _ _)=>none
   |x=>x }
def Ghost.join (G G' : Ghost) (Ds:List Nat):Ghost:={ G' with
 S:=fun b=>match G.S b with
  |some x=>some x
  |none=>if b∈Ds then none else G'.S b
 U:=G.U }
theorem z627 {G:Ghost} {b:Nat} {c el fz} (h:G.S b=some (.cells c el fz)):G.split.S b=some (.cells c el fz):=by simp [Ghost.split,h]
theorem z809 {G:Ghost} {b:Nat} {x:Obj} (h:G.split.S b=some x):G.S b=some x:=by
 simp only [Ghost.split] at h
 split at h
 ·rename_i h1;rw [h1];exact h
 ·cases h
theorem z626 {G:Ghost} {objs:Nat→AObj} {w:World} (hW:Wf G objs w) {b:Nat} {x:Obj} (h:G.S b=some x):G.split.S b=some x∨G.split.U b=some x:=by
 have hu:G.U b=none:=by
  cases hu:G.U b with
  |none=>rfl
  |some y=>have:=hW.su b y hu;rw [h] at this;cases this
 cases x with
 |cells c el fz=>exact .inl (z627 h)
 |_=>exact .inr (by simp [Ghost.split,hu,h])
theorem y10 {G G' : Ghost} {h h' : Nat→Option Obj} (hS:∀ b c el fz,G.S b=some (.cells c el fz)→G'.S b=some (.cells c el fz)) (hι:G'.ι=G.ι) (hκ:∀ b p,G.κ b=some p→G'.κ b=some p∧h' b=h b) {o:Nat} {x:AObj} (hr:ObjRel G h o x):ObjRel G' h' o x:=by
 cases x with
 |fresh=>simpa only [ObjRel,hι] using hr
 |dead=>trivial
 |mp d es =>
  obtain ⟨b,size,wx,c,ck,h1,h2,h3,h4⟩:=hr
  obtain ⟨k1,k2⟩:=hκ b _ h2
  exact ⟨b,size,wx,c,ck,by rw [hι];exact h1,k1,by rw [k2];exact h3,h4⟩
 |cells wd es =>
  rcases hr with ⟨h1,h2⟩|⟨b,size,c,el,h1,h2,h3,h4,h5⟩
  ·exact .inl ⟨h1,by rw [hι];exact h2⟩
  ·obtain ⟨k1,k2⟩:=hκ b _ h2
   refine .inr ⟨b,size,c,el,by rw [hι];exact h1,k1,by rw [k2];exact h3,h4,?_⟩
   have:=z307 es G G' h h' id (fun _=>True) hS (fun o t e=>by rw [hι];exact e) (fun _ _ _=>rfl) (fun _ _ _ h=>h) (fun b p _ e=>hκ b p e) (some (o,[])) wd c 0 (fun _ _ _=>trivial) h5
   simpa using this
theorem z875 {G G' : Ghost} {h h' : Nat → Option Obj} (hS : ∀ b c el fz, G.S b = some (.cells c el fz) → G'.S b = some (.cells c el fz)) (hι : ∀ o t, G.ι o = some t → G'.ι o = some t) {x : AC} {v : Value}
    (hv:V G h none x v):V G' h' none x v :=
  z876 x G G' h h' id (fun _=>False) hS hι (fun _ _ _=>rfl) (fun _ _ _ h=>h) (fun _ _ h=>h.elim) none v (by simp) hv
theorem Wf.split {G:Ghost} {objs:Nat→AObj} {w:World} (hW:Wf G objs w):Wf G.split objs w where
 hS b x h:=hW.hS b x (z809 h)
 hU b x h:=by
  simp only [Ghost.split] at h
  split at h
  ·rename_i y hy;cases h;exact hW.hU b _ hy
  ·split at h
   ·cases h
   ·exact hW.hS b x h
 su b x h:=by
  simp only [Ghost.split] at h ⊢
  split at h
  ·rename_i y hy;rw [hW.su b y hy]
  ·split at h
   ·cases h
   ·rename_i z _ h2
    first
     |rfl
     |split
      ·rename_i c el fz h3;exact absurd h3 (h2 c el fz)
      ·rfl
 sk b p h:=by
  obtain ⟨h1,h2,h3⟩:=hW.sk b p h
  exact ⟨by simp [Ghost.split,h1],by simp [Ghost.split,h1,h2],h3⟩
 objs o:=y10 (fun _ _ _ _ e=>z627 e) rfl (fun _ _ e=>⟨e,rfl⟩) (hW.objs o)
section join
variable {G G' : Ghost} {objs objs' : Nat→AObj} {w w' : World} {Ds:List Nat}
theorem z1125 (hW:Wf G objs w) (hs:G.split.Sub G') (hW' : Wf G' objs' w') (hD:∀ D∈Ds,G'.S D=some (.deferred (some []))) {D:Nat} (h:D∈Ds):G.S D=none:=by
 cases hx:G.S D with
 |none=>rfl
 |some x =>
  rcases z626 hW hx with h1|h1
  ·have h2:=hs.S _ _ h1
   rw [hD D h] at h2
   cases h2
   simp only [Ghost.split,hx] at h1
   cases h1
  ·have:=hW'.su D x (by rw [hs.U];exact h1)
   rw [hD D h] at this;cases this
theorem z593 (hW:Wf G objs w) (hs:G.split.Sub G') (hW' : Wf G' objs' w') (hD:∀ D∈Ds,G'.S D=some (.deferred (some []))) {b:Nat} {c el fz} (h:G'.S b=some (.cells c el fz)):(G.join G' Ds).S b=some (.cells c el fz):=by
 simp only [Ghost.join]
 cases hx:G.S b with
 |none =>
  have:b ∉ Ds:=fun hb=>by rw [hD b hb] at h;cases h
  simp only [if_neg this];exact h
 |some x =>
  rcases z626 hW hx with h1|h1
  ·have h2:=hs.S _ _ h1
   rw [h] at h2;exact h2.symm
  ·have:=hW'.su b x (by rw [hs.U];exact h1)
   rw [h] at this;cases this
theorem join_Sub:G.Sub (G.join G' Ds):=⟨fun b x h=>by simp [Ghost.join,h],rfl⟩
theorem Wf.join (hW:Wf G objs w) (hs:G.split.Sub G') (hW' : Wf G' objs' w') (hD:∀ D∈Ds,G'.S D=some (.deferred (some []))):Wf (G.join G' Ds) objs' (z491 Ds w'):=by
 have hn:=fun D (h:D∈Ds)=>z1125 hW hs hW' hD h
 have hU:∀ b x,G.U b=some x→G'.U b=some x:=fun b x h=>by rw [hs.U];simp [Ghost.split,h]
 have hk:∀ b p,G'.κ b=some p→b ∉ Ds:=fun b p h hb=>by have:=(hW'.sk b p h).1;rw [hD b hb] at this;cases this
 refine ⟨fun b x h=>?_,fun b x h=>?_,fun b x h=>?_,fun b p h=>?_,fun o=>?_⟩
 ·simp only [Ghost.join] at h
  split at h
  ·rename_i y hy
   cases h
   have hb:b ∉ Ds:=fun hb=>by rw [hn b hb] at hy;cases hy
   rw [z254 _ _ _ hb]
   rcases z626 hW hy with h1|h1
   ·exact hW'.hS b _ (hs.S _ _ h1)
   ·exact hW'.hU b _ (by rw [hs.U];exact h1)
  ·split at h
   ·cases h
   ·rename_i hb;rw [z254 _ _ _ hb];exact hW'.hS b x h
 ·have h1:=hU b x h
  have hb:b ∉ Ds:=fun hb=>by have:=hW'.su b x h1;rw [hD b hb] at this;cases this
  rw [z254 _ _ _ hb];exact hW'.hU b x h1
 ·have h1:=hW'.su b x (hU b x h)
  simp only [Ghost.join,hW.su b x h,h1,ite_self]
 ·obtain ⟨h1,h2,h3⟩:=hW'.sk b p h
  have hg:G.S b=none:=by
   cases hx:G.S b with
   |none=>rfl
   |some x =>
    rcases z626 hW hx with h4|h4
    ·have:=hs.S _ _ h4;rw [h1] at this;cases this
    ·rw [hs.U,h4] at h2;cases h2
  refine ⟨by simp only [Ghost.join,hg,h1,ite_self],?_,by rw [z950];exact h3⟩
  show G.U b=none
  cases hu:G.U b with
  |none=>rfl
  |some x=>rw [hU b x hu] at h2;cases h2
 ·exact y10 (fun _ _ _ _ e=>z593 hW hs hW' hD e) rfl (fun b p e=>⟨e,z254 _ _ _ (hk b p e)⟩) (hW'.objs o)
end join
theorem z731 {G G' : Ghost} {objs:Nat→AObj} {w w' : World} {st:St} {a:Act} (hW:Wf G objs w) (hs:G.split.Sub G') (hR:Rel G' st a w'):∃ Ds:List Nat,a.defers=Ds.map markOf∧Ds.Nodup∧(∀ D∈Ds,w'.heap[D]?=some (.deferred (some [])))∧G.Sub (G.join G' Ds)∧(G.join G' Ds).ι=G'.ι∧Rel (G.join G' Ds) st { a with defers:=[] } (z491 Ds w'):=by
 obtain ⟨Ds,h1,h2,h3⟩:=hR.defers
 exact ⟨Ds,h1,h2,fun D hD=>hR.wf.hS _ _ (h3 D hD),join_Sub,rfl,⟨hW.join hs hR.wf h3,fun s=>z875 (fun _ _ _ _ e=>z593 hW hs hR.wf h3 e) (fun _ _ e=>e) (hR.env s),hR.size,Marks.nil _⟩⟩
end Go.Gl
namespace Go.Gl
variable {P:Program} {T:Tab}
def z202 (T:Tab) (t:TypeId) (K:TyI→Prop):Prop:=match T t with
 |some i=>match i.desc with
  |.slice e=>z482 (T e) K
  |_=>False
 |none=>False
def z484 (T:Tab) (s f:Nat) (K:Nat→TyI→Prop):Prop:=match T s with
 |some i=>match i.desc with
  |.struct fs=>match fs[f]? with
   |some fd=>z482 (T fd.type) (K fd.offset)
   |none=>False
  |_=>False
 |none=>False
def z690 (T:Tab) (st:St) (args:List Operand) (ts:List TypeId) (K:OpK):Prop:=match args,ts with
 |[x],[t]=>z1039 T t st (st.ev x) K
 |_,_=>False
def z692 (T:Tab) (st:St) (args:List Operand) (ts:List TypeId) (K:OpK):Prop:=match args,ts with
 |[s,x],[t,t']=>match Nat.beq t t' with
  |true=>z202 T t fun i=>z882 i st (st.ev s) (st.ev x) K
  |false=>z202 T t fun i=>z1044 (T t') i st (st.ev s) (st.ev x) K
 |_,_=>False
def z691 (T:Tab) (st:St) (args:List Operand) (ts:List TypeId) (K:OpK):Prop:=match args,ts with
 |[x],[t]=>vcCap (T t) (st.ev x) K
 |_,_=>False
def isBit:BinOp→Bool
 |.shl | .shr | .and | .or | .xor | .andNot=>true
 |_=>false
def mapK (st:St) (xs:List Operand) (K:List AC→Prop):Prop:=match xs with
 |[]=>K []
 |x::xs=>z394 (st.ev x) fun v=>mapK st xs fun r=>K (v::r)
theorem z1111 {st:St} {xs:List Operand} {K:List AC→Prop} : mapK st xs K=K (xs.map st.ev):=by
 induction xs generalizing K with
 |nil=>rfl
 |cons x xs ih=>simp [mapK,z124,ih]
def vcIdx (T:Tab) (t:TypeId) (st:St) (x ix:AC) (K:OpK):Prop:=match T t with
 |some i=>match i.desc with
  |.slice e=>match T e with
   |some ei=>z796 ei.size st x ix K
   |none=>False
  |.array n e=>match T e with
   |some ei=>z1040 n ei.size x ix K
   |none=>False
  |_=>False
 |none=>False
def vcOp (T:Tab) (P:Program) (st:St) (op:Op) (K:OpK):Prop:=match op with
 |.move x=>K (st.ev x) []
 |.assign x=>K (st.ev x) []
 |.pick c a b=>z881 (st.ev c) (st.ev a) (st.ev b) K
 |.alloc t=>z482 (T t) fun i=>z799 i st K
 |.box _ x=>vcBox st (st.ev x) K
 |.load t x=>z482 (T t) fun i=>z689 i st (st.ev x) K
 |.store t x y=>z482 (T t) fun i=>z794 i st (st.ev x) (st.ev y) K
 |.fieldAddr s x f=>z484 T s f fun off i=>match i.size with
  |0=>False
  |_+1=>z797 off (st.ev x) K
 |.indexAddr t x ix=>vcIdx T t st (st.ev x) (st.ev ix) K
 |.makeSlice t x y=>z202 T t fun i=>z1037 i st (st.ev x) (st.ev y) K
 |.binOp op t x y _=>match isBit op with
  |true=>z1042 op (st.ev x) (st.ev y) K
  |false=>z1043 (T t) op (st.ev x) (st.ev y) K
 |.build t parts=>z482 (T t) fun i=>z798 T i (parts.toList.map fun p=>(p.1,st.ev p.2)) K
 |.buildSlice t n parts=>z202 T t fun i=>z280 i n st (parts.toList.map fun p=>(p.1,st.ev p.2)) K
 |.slice t x lo hi mx=>z202 T t fun i=>z1034 i.size st (st.ev x) (lo.map st.ev) (hi.map st.ev) (mx.map st.ev) K
 |.convert s d x=>z482 (T s) fun _=>z1041 (T d) (st.ev x) K
 |.makeMap t r=>match r with
  |none=>z483 T t fun _ _ d=>z488 d st K
  |some _=>False
 |.lookup t x ix ok=>z483 T t fun k e d=>z617 T P k e d ok st (st.ev x) (st.ev ix) K
 |.mapUpdate t x ix v=>z483 T t fun k _ d=>z338 P k d st (st.ev x) (st.ev ix) (st.ev v) K
 |.makeFunc fn first caps=>mapK st first.toList fun a=>mapK st caps.toList fun b=>K (.fn fn a b) []
 |.nilCheck x=>vcNil (st.ev x) K
 |.unOp op _ x=>vcUn op (st.ev x) K
 |.extract x i=>vcTup (st.ev x) i K
 |.call c=>match c.callee with
  |.builtin .len=>z690 T st c.args.toList c.argTypes.toList K
  |.builtin .append=>z692 T st c.args.toList c.argTypes.toList K
  |.builtin .cap=>z691 T st c.args.toList c.argTypes.toList K
  |.builtin .min=>vcMin st c.args.toList K
  |.builtin .max=>vcMax st c.args.toList K
  |.value f=>z20 P st (st.ev f) (c.args.toList.map st.ev) K
  |_=>False
 |_=>False
theorem z136 {t:TypeId} {K:TyI→Prop} (hT:z118 P T) (h:z202 T t K):∃ i e ei,TyOk P t i∧i.desc=.slice e∧TyOk P e ei∧K ei:=by
 unfold z202 at h
 split at h
 ·rename_i i hi
  split at h
  ·rename_i e he
   obtain ⟨ei,h1,h2⟩:=z129 hT h
   exact ⟨i,e,ei,hT _ _ hi,he,h1,h2⟩
  ·exact h.elim
 ·exact h.elim
theorem z548 {s f:Nat} {K:Nat→TyI→Prop} (hT:z118 P T) (h:z484 T s f K):∃ i fs fd fi,TyOk P s i∧i.desc=.struct fs∧fs[f]?=some fd∧TyOk P fd.type fi∧K fd.offset fi:=by
 unfold z484 at h
 split at h
 ·rename_i i hi
  split at h
  ·rename_i fs hfs
   split at h
   ·rename_i fd hfd
    obtain ⟨fi,h1,h2⟩:=z129 hT h
    exact ⟨i,fs,fd,fi,hT _ _ hi,hfs,hfd,h1,h2⟩
   ·exact h.elim
  ·exact h.elim
 ·exact h.elim
theorem z893 (hT:z118 P T) {st:St} {o:Oper} {K:OpK} (h:vcOp T P st o.op K):z102 P st o K:=by
 obtain ⟨dst,op,type,pos,after,guard⟩:=o
 cases op<;>simp only [vcOp] at h
 case move=>exact z954 h
 case assign=>exact z704 h
 case pick=>exact z953 h
 case alloc=>obtain ⟨i,h1,h2⟩:=z129 hT h;exact z814 h1 h2
 case box=>exact z1064 h
 case load=>obtain ⟨i,h1,h2⟩:=z129 hT h;exact z955 h1 h2
 case store=>obtain ⟨i,h1,h2⟩:=z129 hT h;exact z810 h1 h2
 case fieldAddr =>
  obtain ⟨i,fs,fd,fi,h1,h2,h3,h4,h5⟩:=z548 hT h
  split at h5
  ·exact h5.elim
  ·rename_i hz;exact z498 h1 h2 h3 h4 (by rw [hz];simp) h5
 case indexAddr =>
  unfold vcIdx at h
  split at h
  ·rename_i i hi
   split at h
   ·rename_i e he
    split at h
    ·rename_i ei hei
     exact z497 (hT _ _ hi) he (hT _ _ hei) h
    ·exact h.elim
   ·rename_i n e he
    split at h
    ·rename_i ei hei
     exact z555 (hT _ _ hi) he (hT _ _ hei) h
    ·exact h.elim
   ·exact h.elim
  ·exact h.elim
 case makeSlice=>obtain ⟨i,e,ei,h1,h2,h3,h4⟩:=z136 hT h;exact z496 h1 h2 h3 h4
 case binOp =>
  split at h
  ·exact z959 h
  ·exact z960 hT h
 case build=>obtain ⟨i,h1,h2⟩:=z129 hT h;exact z813 hT h1 h2
 case buildSlice=>obtain ⟨i,e,ei,h1,h2,h3,h4⟩:=z136 hT h;exact z450 h1 h2 h3 h4
 case slice=>obtain ⟨i,e,ei,h1,h2,h3,h4⟩:=z136 hT h;exact z811 h1 h2 h3 h4
 case convert=>obtain ⟨i,h1,h2⟩:=z129 hT h;exact z957 hT h1 h2
 case makeMap t r =>
  cases r with
  |none =>
   obtain ⟨_,_,d,_,_,h⟩:=z278 hT h
   exact z628 h
  |some _=>exact h.elim
 case lookup=>obtain ⟨k,e,d,h1,h2,h3⟩:=z278 hT h;exact z703 hT h1 h2 h3
 case mapUpdate=>obtain ⟨k,e,d,h1,h2,h3⟩:=z278 hT h;exact z495 h1 h2 h3
 case makeFunc=>rw [z1111,z1111] at h;exact z554 h
 case nilCheck=>exact z1059 h
 case unOp=>exact sound_un h
 case extract=>exact z629 h
 case call c =>
  obtain ⟨callee,args,ts⟩:=c
  split at h
  ·rename_i hc
   obtain rfl:callee=.builtin .len:=hc
   unfold z690 at h
   split at h
   ·rename_i x t hx ht
    obtain rfl:args=#[x]:=Array.toList_inj.1 (by simpa using hx)
    obtain rfl:ts=#[t]:=Array.toList_inj.1 (by simpa using ht)
    exact z956 hT h
   ·exact h.elim
  ·rename_i hc
   obtain rfl:callee=.builtin .append:=hc
   unfold z692 at h
   split at h
   ·rename_i s x t t' hx ht
    obtain rfl:args=#[s,x]:=Array.toList_inj.1 (by simpa using hx)
    obtain rfl:ts=#[t,t']:=Array.toList_inj.1 (by simpa using ht)
    split at h
    ·rename_i hb
     have he:=Nat.eq_of_beq_eq_true hb
     obtain ⟨i,e,ei,h1,h2,h3,h4⟩:=z136 hT h
     rw [← he]
     exact z705 h1 h2 h3 h4
    ·obtain ⟨i,e,ei,h1,h2,h3,h4⟩:=z136 hT h
     exact z630 hT h1 h2 h3 h4
   ·exact h.elim
  ·rename_i hc
   obtain rfl:callee=.builtin .cap:=hc
   unfold z691 at h
   split at h
   ·rename_i x t hx ht
    obtain rfl:args=#[x]:=Array.toList_inj.1 (by simpa using hx)
    obtain rfl:ts=#[t]:=Array.toList_inj.1 (by simpa using ht)
    exact z1063 hT h
   ·exact h.elim
  ·rename_i hc
   obtain rfl:callee=.builtin .min:=hc
   exact z1060 h
  ·rename_i hc
   obtain rfl:callee=.builtin .max:=hc
   exact z1061 h
  ·rename_i f hc
   obtain rfl:callee=.value f:=hc
   exact z958 h
  ·exact h.elim
 all_goals exact h.elim
@[reducible] def AC.gone:AC:=.raw (.tuple #[])
def z489 (b want:Bool) (A B:Prop):Prop:=match b,want with
 |true,true=>A
 |false,false=>A
 |_,_=>B
def z1004 (o:Oper) (n:Nat):Bool:=match o.dst with
 |some d=>Nat.blt d n
 |none=>true
def z568 (ops:Array Oper) (j:Nat):Option Nat:=match ops[j]? with
 |some o=>o.dst
 |none=>none
def z101:List (Nat×AC)→Nat→AC
 |[],_=>.any
 |(k,x)::rest,s=>cond (Nat.beq s k) x (z101 rest s)
def mkSt (n:Nat) (env:List (Nat×AC)) (objs:List AObj):St:={ env:=z101 env,objs:=z39 objs,next:=objs.length,n:=n }
def forceO (x:AObj) (K:AObj→Prop):Prop:=match x with
 |.fresh=>K .fresh
 |.dead=>K .dead
 |.mp d es=>K (.mp d es)
 |.cells w es=>K (.cells w es)
theorem z1140 {x:AObj} {K:AObj→Prop} : forceO x K=K x:=by cases x<;>rfl
def setK (l:List AObj) (o:Nat) (x:AObj) (K:List AObj→Prop):Prop:=match l,o with
 |[],0=>K [x]
 |[],_+1=>False
 |_::l,0=>K (x::l)
 |y::l,o+1=>setK l o x fun r=>K (y::r)
theorem z1071 {l:List AObj} {o:Nat} {x:AObj} {K:List AObj→Prop} (h:setK l o x K):∃ l',K l'∧z39 l'=upd (z39 l) o x:=by
 induction l generalizing o K with
 |nil =>
  cases o with
  |zero =>
   refine ⟨_,h,funext fun j=>?_⟩
   cases j with
   |zero=>rw [z31];rfl
   |succ j=>rw [z56 _ _ (by omega)];rfl
  |succ o=>exact h.elim
 |cons y l ih =>
  cases o with
  |zero =>
   refine ⟨_,h,funext fun j=>?_⟩
   cases j with
   |zero=>rw [z31];rfl
   |succ j=>rw [z56 _ _ (by omega)];rfl
  |succ o =>
   obtain ⟨l',h1,h2⟩:=ih h
   refine ⟨_,h1,funext fun j=>?_⟩
   cases j with
   |zero=>rw [z56 _ _ (by omega)];rfl
   |succ j =>
    have:=congrFun h2 j
    show z39 l' j=_
    rw [this]
    by_cases hj:j=o
    ·subst hj;rw [z31,z31]
    ·rw [z56 _ _ hj,z56 _ _ (by omega)];rfl
def z305 (objs:List AObj) (fp:List Ch) (K:List AObj→Prop):Prop:=match fp with
 |[]=>K objs
 |c::rest=>match c with
  |⟨o,_,x⟩=>forceO x fun x'=>setK objs o x' fun objs'=>z305 objs' rest K
theorem z126 {objs:List AObj} {fp:List Ch} {K:List AObj→Prop} (h:z305 objs fp K):∃ l',K l'∧z39 l'=z76 (z39 objs) fp:=by
 induction fp generalizing objs with
 |nil=>exact ⟨objs,h,rfl⟩
 |cons c rest ih =>
  obtain ⟨o,pre,x⟩:=c
  simp only [z305,z1140] at h
  obtain ⟨l1,h1,h2⟩:=z1071 h
  obtain ⟨l2,h3,h4⟩:=ih h1
  exact ⟨l2,h3,by rw [h4,h2];rfl⟩
def z301 (dst:Option Nat) (x:AC) (env:List (Nat×AC)) (K:List (Nat×AC)→Prop):Prop:=match dst with
 |some d=>K ((d,x)::env)
 |none=>K env
abbrev LK:=List (Nat×AC)→List AObj→Prop
def z728 (dst:Option Nat) (env:List (Nat×AC)) (objs:List AObj) (res:AC) (fp:List Ch) (K:LK):Prop :=
 z394 res fun r=>z305 objs fp fun objs'=>z301 dst r env fun env'=>K env' objs'
theorem z315 (d:Nat) (x:AC) (env:List (Nat×AC)):z101 ((d,x)::env)=upd (z101 env) d x:=funext fun j=>rfl
theorem z584 {dst : Option Nat} {n : Nat} {env : List (Nat × AC)} {objs : List AObj} {res : AC} {fp : List Ch} {K : LK} (h : z728 dst env objs res fp K) :
    ∃ env' objs',K env' objs'∧(mkSt n env' objs').env=((mkSt n env objs).app dst res fp).env∧(mkSt n env' objs').objs=((mkSt n env objs).app dst res fp).objs:=by
  simp only [z728,z124] at h
  obtain ⟨objs',h1,h2⟩:=z126 h
  cases dst with
  | none=>exact ⟨env,objs',h1,rfl,h2⟩
  | some d=>exact ⟨_,objs',h1,z315 d res env,h2⟩
theorem Rel.same {G:Ghost} {st st' : St} {a:Act} {w:World} (hR:Rel G st a w) (h1:st'.env=st.env) (h2:st'.objs=st.objs) (h3:st'.n=st.n):Rel G st' a w :=
 ⟨by rw [h2];exact hR.wf,by rw [h1];exact hR.env,by rw [h3];exact hR.size,hR.defers⟩
def z550 (T:Tab) (P:Program) (ops:Array Oper) (n:Nat) (env:List (Nat×AC)) (objs:List AObj) (l:List Oper) (K:LK):Prop:=match l with
 |[]=>K env objs
 |o::rest=>z67 (z1004 o n) (match o.guard with
  |none=>vcOp T P (mkSt n env objs) o.op fun res fp=>z728 o.dst env objs res fp fun env objs=>z550 T P ops n env objs rest K
  |some (j,want)=>match z568 ops j with
   |some d=>z67 (Nat.blt d n) (match z101 env d with
    |.raw (.bool b) => vcG b fun b => z489 b want (vcOp T P (mkSt n ((d, .raw (.bool b)) :: env) objs) o.op fun res fp => z728 o.dst ((d, .raw (.bool b)) :: env) objs res fp fun env objs => z550 T P ops n env objs rest K)
      (z301 o.dst .gone ((d,.raw (.bool b))::env) fun env=>z550 T P ops n env objs rest K)
    |.raw (.tuple _)=>z301 o.dst .gone env fun env=>z550 T P ops n env objs rest K
    |_=>False)
   |none=>False)
theorem z355 {b want:Bool} {A B:Prop} (h:z489 b want A B):(b=want∧A)∨(b≠want∧B):=by
 cases b<;>cases want<;>simp_all [z489]
def SubM (m:Nat) (G G' : Ghost):Prop:=G.Sub G'∧∀ o t,o < m→G.ι o=some t→G'.ι o=some t
theorem SubM.refl (m:Nat) (G:Ghost):SubM m G G:=⟨Ghost.Sub.refl G,fun _ _ _ h=>h⟩
theorem SubM.trans {m:Nat} {a b c:Ghost} (h:SubM m a b) (k:SubM m b c):SubM m a c:=⟨h.1.trans k.1,fun o t ho e=>k.2 o t ho (h.2 o t ho e)⟩
def PostA (m:Nat) (G:Ghost) (w:World) (Q:Exit→St→Prop) (ex:Exit) (a' : Act) (w' : World):Prop :=
 ∃ G' st',SubM m G G'∧Le w w'∧Q ex st'∧Rel G' st' a' w'
def AWP (P:Program) (m:Nat) (c:Code) (Q:Exit→St→Prop) (st:St):Prop :=
 ∀ G a w,Rel G st a w→wpR P c (PostA m G w Q) a w
theorem PostA.trans {m:Nat} {G G1:Ghost} {w w1:World} {Q:Exit→St→Prop} (hs:SubM m G G1) (hl:Le w w1) {ex:Exit} {a' : Act} {w' : World} (h:PostA m G1 w1 Q ex a' w'):PostA m G w Q ex a' w':=by
 obtain ⟨G',st',h1,h2,h3,h4⟩:=h
 exact ⟨G',st',hs.trans h1,hl.trans h2,h3,h4⟩
theorem z685 {ops : Array Oper} {st : St} {G : Ghost} {a : Act} {w : World} (hR : Rel G st a w) {o : Oper} {j d : Nat} {want b : Bool} (hg : o.guard = some (j, want)) (hd : z568 ops j = some d) (hn : d < st.n)
    (hb:st.env d=.raw (.bool b)):Region.wanted o (yielded ops a.tmps)=(b == want):=by
  have h1:=hR.env d
  rw [hb,z98] at h1
  have h2:(ops[j]?).bind (·.dst)=some d:=by
    unfold z568 at hd
    split at hd
    · rename_i o' ho';rw [ho'];exact hd
    · cases hd
  have h3:a.tmps[d]?=some (.bool b):=by
    have hlt:d < a.tmps.size:=by rw [hR.size];exact hn
    rw [y77,Array.getElem?_eq_getElem hlt] at h1
    rw [Array.getElem?_eq_getElem hlt]
    exact congrArg some h1
  simp only [Region.wanted,hg,yielded,h2,Option.bind_some,h3]
  cases b<;>cases want<;>rfl
theorem z485 {ops : Array Oper} {st : St} {G : Ghost} {a : Act} {w : World} (hR : Rel G st a w) {o : Oper} {j d : Nat} {want : Bool} {t : Array Value} (hg : o.guard = some (j, want)) (hd : z568 ops j = some d) (hn : d < st.n)
    (hb:st.env d=.raw (.tuple t)):Region.wanted o (yielded ops a.tmps)=false:=by
  have h1:=hR.env d
  rw [hb,z98] at h1
  have h2:(ops[j]?).bind (·.dst)=some d:=by
    unfold z568 at hd
    split at hd
    · rename_i o' ho';rw [ho'];exact hd
    · cases hd
  have h3:a.tmps[d]?=some (.tuple t):=by
    have hlt:d < a.tmps.size:=by rw [hR.size];exact hn
    rw [y77,Array.getElem?_eq_getElem hlt] at h1
    rw [Array.getElem?_eq_getElem hlt]
    exact congrArg some h1
  simp only [Region.wanted,hg,yielded,h2,Option.bind_some,h3]
  rfl
theorem skip_rel {st:St} {G:Ghost} {a:Act} {w:World} (hR:Rel G st a w) {o:Oper} (hd:z1004 o st.n=true):Rel G (st.app o.dst .gone []) (a.put o.dst undef) w :=
 hR.pure (fun d h=>by simpa [z1004,h,Nat.blt_eq] using hd) (by simp [V,undef]) (by simp)
theorem z426 {o:Oper} {st:St} (hd:z1004 o st.n=true):∀ d,o.dst=some d→d < st.n:=fun d h=>by simpa [z1004,h,Nat.blt_eq] using hd
theorem z927 {env:List (Nat×AC)} {d:Nat} {x:AC} (h:z101 env d=x):z101 ((d,x)::env)=z101 env:=by
 rw [z315,← h,z883]
theorem z1058 {ro : Option Nat} (hT : z118 P T) {ops : Array Oper} {Q : Exit → Act → World → Prop} {n : Nat} : ∀ (l l2 : List Oper) (env : List (Nat × AC)) (objs : List AObj) (K : LK), (ro = none ∨ l.all z180 = true) → z550 T P ops n env objs l K → ∀ (m : Nat) (G : Ghost) (a : Act) (w : World), Rel G (mkSt n env objs) a w →
  (∀ G' env' objs' a' w',SubM m G G'→Le w w'→K env' objs'→Rel G' (mkSt n env' objs') a' w'→wpListIn (wideR ro) 0 P ops Q l2 a' w')→wpListIn (wideR ro) 0 P ops Q (l++l2) a w:=by
 intro l l2
 induction l with
 |nil=>intro env objs K _ h m G a w hR hQ;exact hQ G env objs a w (SubM.refl m G) (Le.refl w) h hR
 |cons o rest ih =>
  intro env objs K hr h m G a w hR hQ
  have hro:ro=none∨z180 o=true:=hr.imp id fun e=>(Bool.and_eq_true_iff.1 (show (z180 o && rest.all z180)=true from e)).1
  have hrr:ro=none∨rest.all z180=true:=hr.imp id fun e=>(Bool.and_eq_true_iff.1 (show (z180 o && rest.all z180)=true from e)).2
  simp only [z550] at h
  obtain ⟨hd,h⟩:=z26 h
  have run:∀ env,Rel G (mkSt n env objs) a w→(vcOp T P (mkSt n env objs) o.op fun res fp=>z728 o.dst env objs res fp fun env objs=>z550 T P ops n env objs rest K)→o.wpIn (wideR ro) 0 P a w (wpListIn (wideR ro) 0 P ops Q (rest++l2)) Q:=by
   intro env hR hv
   obtain ⟨res,fp,hO,hfp,hk⟩:=z893 hT hv
   obtain ⟨env',objs',h1,h2,h3⟩:=z584 (n:=n) hk
   refine z1094 hro (hO.run Q _ G (mkSt n env objs) a w hR (fun p hp=>?_) (fun c hc=>(hfp c hc).1) (z426 hd) fun G' a' w' hs hι hl hR'=>?_)
   ·simp only [St.reads,y56] at hp
    obtain ⟨t,_,rfl⟩:=hp;rfl
   ·exact ih _ _ K hrr h1 m G' a' w' (hR'.same h2 h3 rfl) fun G'' env'' objs'' a'' w'' hs' hl' hK hR''=>hQ G'' env'' objs'' a'' w'' (SubM.trans ⟨hs,fun o t _ e=>hι o t e⟩ hs') (hl.trans hl') hK hR''
  have skip:∀ env,Rel G (mkSt n env objs) a w→(z301 o.dst .gone env fun env=>z550 T P ops n env objs rest K)→wpListIn (wideR ro) 0 P ops Q (rest++l2) (a.put o.dst undef) w:=fun env hR hv=>by
   have hs:=skip_rel hR hd
   cases hdst:o.dst with
   |none=>rw [hdst] at hv hs;exact ih _ _ K hrr hv m G _ w (hs.same rfl rfl rfl) hQ
   |some d=>rw [hdst] at hv hs;exact ih _ _ K hrr hv m G _ w (hs.same (z315 d .gone env) rfl rfl) hQ
  rw [List.cons_append]
  unfold wpListIn
  split at h
  ·rename_i hg
   rw [if_pos (by simp [Region.wanted,hg])]
   exact run env hR h
  ·rename_i j want hg
   split at h
   ·rename_i d hdj
    obtain ⟨hn,h⟩:=z26 h
    split at h
    ·rename_i b hb
     have hw:=z685 hR hg hdj (by show d < n;simpa [Nat.blt_eq] using hn) hb
     have hR' : Rel G (mkSt n ((d,.raw (.bool b))::env) objs) a w:=hR.same (z927 hb) rfl rfl
     rw [hw]
     rcases z355 (z618 h) with ⟨rfl,hv⟩|⟨hne,hv⟩
     ·simp only [beq_self_eq_true,if_true];exact run _ hR' hv
     ·rw [if_neg (by simpa using hne)];exact ⟨fun _ _=>trivial,skip _ hR' hv⟩
    ·rename_i t hb
     have hw:=z485 hR hg hdj (by show d < n;simpa [Nat.blt_eq] using hn) hb
     rw [if_neg (by rw [hw];simp)]
     exact ⟨fun _ _=>trivial,skip _ hR h⟩
    ·exact h.elim
   ·exact h.elim
theorem z1017 (hT:z118 P T) {m id n:Nat} {ops:Array Oper} {Q:Exit→St→Prop} {env:List (Nat×AC)} {objs:List AObj} (h:z550 T P ops n env objs ops.toList fun env objs=>Q .normal (mkSt n env objs)):AWP P m (.region id ops false) Q (mkSt n env objs):=fun G a w hR ro hro =>
 wpIn_region_list (by
  have:=z1058 (Q:=PostA m G w Q) (ops:=ops) hT ops.toList [] env objs _ hro h m G a w hR fun G' env' objs' _ _ hs hl hK hR'=>⟨G',_,hs,hl,hK,hR'⟩
  rwa [y61] at this)
def z621 (Q1:St→Prop) (Q:Exit→St→Prop):Exit→St→Prop
 |.normal,st=>Q1 st
 |ex,st=>Q ex st
theorem z1178 {m:Nat} {x y:Code} {Q:Exit→St→Prop} {st:St} (h:AWP P m x (z621 (AWP P m y Q) Q) st):AWP P m (.seq x y) Q st:=fun G a w hR =>
 wpR_seq (z186 (h G a w hR) fun ex a' w' ⟨G',st',h1,h2,h3,h4⟩=>by
  cases ex with
  |normal=>exact z186 (h3 G' a' w' h4) fun ex' a'' w'' hq=>hq.trans h1 h2
  |_=>exact ⟨G',st',h1,h2,h3,h4⟩)
theorem awp_skip {m:Nat} {Q:Exit→St→Prop} {st:St} (h:Q .normal st):AWP P m .skip Q st:=fun G _ w hR=>wpR_skip ⟨G,st,SubM.refl m G,Le.refl w,h,hR⟩
theorem awp_ret {m:Nat} {Q:Exit→St→Prop} {st:St} (h:Q .ret st):AWP P m .ret Q st:=fun G _ w hR=>wpR_ret ⟨G,st,SubM.refl m G,Le.refl w,h,hR⟩
theorem awp_exit {m id:Nat} {Q:Exit→St→Prop} {st:St} (h:Q (.exit id) st):AWP P m (.exit id) Q st:=fun G _ w hR=>wpR_exit ⟨G,st,SubM.refl m G,Le.refl w,h,hR⟩
def z1171 (id:Nat) (Q:Exit→St→Prop):Exit→St→Prop
 |.exit i,st=>match Nat.beq i id with
  |true=>Q .normal st
  |false=>Q (.exit i) st
 |ex,st=>Q ex st
theorem z1180 {m id:Nat} {c:Code} {Q:Exit→St→Prop} {st:St} (h:AWP P m c (z1171 id Q) st):AWP P m (.block id c) Q st:=fun G a w hR =>
 z1027 (z186 (h G a w hR) fun ex a' w' ⟨G',st',h1,h2,h3,h4⟩=>by
  cases ex with
  |exit i =>
   simp only [z1171] at h3
   simp only [Exit.inBlock]
   split at h3
   ·rename_i hb;rw [if_pos (Nat.eq_of_beq_eq_true hb)];exact ⟨G',st',h1,h2,h3,h4⟩
   ·rename_i hb
    rw [if_neg (by rintro rfl;rw [Nat.beq_refl] at hb;cases hb)];exact ⟨G',st',h1,h2,h3,h4⟩
  |_=>exact ⟨G',st',h1,h2,h3,h4⟩)
def vcIf (b:Bool) (A B:Prop):Prop:=match b with
 |true=>A
 |false=>B
theorem z110 {b:Bool} {A B:Prop} (h1:b=true→A) (h2:b=false→B):vcIf b A B:=by
 cases b
 ·exact h2 rfl
 ·exact h1 rfl
theorem z8 {p:Prop} [Decidable p] {A B:Prop} (h1:p→A) (h2:¬ p→B):vcIf (decide p) A B:=by
 by_cases h:p
 ·rw [y78 h];exact h1 h
 ·rw [y79 h];exact h2 h
theorem awp_cond {m:Nat} {c:Operand} {x y:Code} {Q:Exit→St→Prop} {st:St} {b:Bool} (hc:st.ev c=.raw (.bool b)) (h:vcIf b (AWP P m x Q st) (AWP P m y Q st)):AWP P m (.cond c x y) Q st:=fun G a w hR=>by
 have h1:=hR.ev c
 rw [hc,z98] at h1
 cases b with
 |true=>exact z610 h1 (h G a w hR)
 |false=>exact z547 h1 (h G a w hR)
def vc1 (T:Tab) (P:Program) (m:Nat) (c:Code) (n:Nat) (env:List (Nat×AC)) (objs:List AObj) (Q:Exit→St→Prop):Prop:=match c with
 |.region _ ops false=>z550 T P ops n env objs ops.toList fun env objs=>Q .normal (mkSt n env objs)
 |.seq a b=>vc1 T P m a n env objs (z621 (AWP P m b Q) Q)
 |.cond c x y=>match (mkSt n env objs).ev c with
  |.raw (.bool b)=>vcIf b (AWP P m x Q (mkSt n env objs)) (AWP P m y Q (mkSt n env objs))
  |_=>False
 |.block id c=>AWP P m c (z1171 id Q) (mkSt n env objs)
 |.skip=>Q .normal (mkSt n env objs)
 |.ret=>Q .ret (mkSt n env objs)
 |.exit id=>Q (.exit id) (mkSt n env objs)
 |c=>AWP P m c Q (mkSt n env objs)
theorem AWP.step (hT:z118 P T) {m:Nat} (c:Code) (n:Nat) (env:List (Nat×AC)) (objs:List AObj) (Q:Exit→St→Prop) (h:vc1 T P m c n env objs Q):AWP P m c Q (mkSt n env objs):=by
 induction c generalizing Q with
 |region id ops draw=>cases draw with
  |true=>exact h
  |false=>exact z1017 hT h
 |seq a b iha _=>exact z1178 (iha _ h)
 |cond c x y =>
  simp only [vc1] at h
  split at h
  ·rename_i b hb;exact awp_cond hb h
  ·exact h.elim
 |block id c=>exact z1180 h
 |skip=>exact awp_skip h
 |ret=>exact awp_ret h
 |exit id=>exact awp_exit h
 |_=>exact h
end Go.Gl
namespace Go.Gl
variable {P:Program} {T:Tab}
def Ghost.pick (G:Ghost) (π:List Nat):Ghost where
 S:=G.S
 U:=G.U
 ι i:=match π[i]? with
  |some o=>G.ι o
  |none=>none
 κ b:=match G.κ b with
  |some (o,p)=>match idx π o with
   |some i=>some (i,p)
   |none=>none
  |none=>none
def z147 (M:Nat):AObj→Prop
 |.cells _ es=>∀ e∈es,z120 M e=true
 |.fresh=>True
 |.dead=>True
 |.mp _ _=>True
structure Picks (π:List Nat) (st st' : St):Prop where
 nodup:π.Nodup
 env:∀ s,st'.env s=.any∨((st'.env s).under π.length=true∧st.env s=(st'.env s).ren (z61 0 π))
 obj:∀ i o,π[i]?=some o→st.objs o=z111 (z61 0 π) (st'.objs i)∧z147 π.length (st'.objs i)
 other:∀ i,π.length≤i→st'.objs i=.fresh
 n:st'.n=st.n
theorem pick_V {G : Ghost} {π : List Nat} (hn : π.Nodup) {h : Nat → Option Obj} (x : AC) {l : Loc} {v : Value} {i o : Nat} (hio : π[i]? = some o) (hl : ∀ p, l = some p → p.1 = o) (hu : x.under π.length = true) (hv : V G h l (x.ren (z61 0 π)) v) :
    V (G.pick π) h (l.map fun p=>(i,p.2)) x v:=by
  have:=z874 x π.length (z61 0 π) G (G.pick π) h h (fun p=>(i,p.2)) (fun p=>p.1=o) (fun _ _ e=>e) (fun j t hj e=>by
    have hj' : π[j]?=some π[j]:=y41 hj
    rw [z65 hj'] at e
    simp only [Ghost.pick,hj',e]) (fun _ _ _=>rfl) (fun _ _ _ h=>h) (fun b p hp hk=>⟨by
      have hk' : G.κ b=some (o,p.2):=by rw [← hp];exact hk
      simp only [Ghost.pick,hk',z209 hn hio],rfl⟩) l v hl hu hv
  exact this
theorem z828 {G:Ghost} {π:List Nat} {h:Nat→Option Obj} (x:AC) {v:Value} (hu:x.under π.length=true) (hv:V G h none (x.ren (z61 0 π)) v):V (G.pick π) h none x v:=by
 have:=z874 x π.length (z61 0 π) G (G.pick π) h h id (fun _=>False) (fun _ _ e=>e) (fun j t hj e=>by
  have hj' : π[j]?=some π[j]:=y41 hj
  rw [z65 hj'] at e
  simp only [Ghost.pick,hj',e]) (fun _ _ _=>rfl) (fun _ _ _ h=>h) (fun b p hp hk=>hp.elim) none v (by simp) hu hv
 exact this
theorem Wf.pick {G : Ghost} {objs objs' : Nat → AObj} {w : World} {π : List Nat} (hW : Wf G objs w) (hn : π.Nodup)
    (obj:∀ i o,π[i]?=some o→objs o=z111 (z61 0 π) (objs' i)∧z147 π.length (objs' i)) (other:∀ i,π.length≤i→objs' i=.fresh):Wf (G.pick π) objs' w where
  hS:=hW.hS
  hU:=hW.hU
  su:=hW.su
  sk b p h:=by
    cases hk:G.κ b with
    | none=>simp [Ghost.pick,hk] at h
    | some q=>exact hW.sk b q hk
  objs i:=by
    by_cases hi:i < π.length
    · have hpi:π[i]?=some π[i]:=y41 hi
      obtain ⟨h1,h2⟩:=obj i _ hpi
      have ho:=hW.objs π[i]
      rw [h1] at ho
      have hιe:(G.pick π).ι i=G.ι π[i]:=by simp only [Ghost.pick,hpi]
      cases hob:objs' i with
      | fresh=>rw [hob] at ho;simp only [ObjRel,hιe];exact ho
      | dead=>trivial
      | mp d es =>
        rw [hob] at ho
        obtain ⟨b,size,wx,c,ck,h3,h4,h5,h6⟩:=ho
        exact ⟨b,size,wx,c,ck,by rw [hιe];exact h3,by simp only [Ghost.pick,h4,z209 hn hpi],h5,h6⟩
      | cells wd es =>
        rw [hob] at ho h2
        rcases ho with ⟨h3,h4⟩|⟨b,size,c,el,h3,h4,h5,h6,h7⟩
        · exact .inl ⟨by simpa using h3,by rw [hιe];exact h4⟩
        · refine .inr ⟨b,size,c,el,by rw [hιe];exact h3,by simp only [Ghost.pick,h4,z209 hn hpi],h5,h6,?_⟩
          rw [z66] at h7 ⊢
          intro k e he
          obtain ⟨h8,h9⟩:=h7 k (renL (z61 0 π) e) (by simp [he])
          refine ⟨by rw [z163] at h8;simpa using h8,?_⟩
          rw [z63] at h9 ⊢
          intro j x hx
          obtain ⟨v,hv1,hv2⟩:=h9 j (x.ren (z61 0 π)) (by rw [z163];simp [hx])
          refine ⟨v,hv1,?_⟩
          have:=pick_V hn x hpi (l:=Loc.cell (some (π[i],[])) (0+k * wd+j)) (by intro p hp;simp [Loc.cell] at hp;rw [← hp]) (z412.1 (h2 e (List.mem_of_getElem? he)) x (List.mem_of_getElem? hx)) hv2
          simpa [Loc.cell] using this
    · rw [other i (by omega)]
      have:π[i]?=none:=y65 (by omega)
      simp only [ObjRel,Ghost.pick,this]
theorem Rel.pick {G:Ghost} {st st' : St} {a:Act} {w:World} {π:List Nat} (hR:Rel G st a w) (hp:Picks π st st'):Rel (G.pick π) st' a w where
 wf:=hR.wf.pick hp.nodup hp.obj hp.other
 env s:=by
  rcases hp.env s with h|⟨h1,h2⟩
  ·rw [h];simp [V]
  ·have:=hR.env s
   rw [h2] at this
   exact z828 _ h1 this
 size:=by rw [hp.n];exact hR.size
 defers:=hR.defers.mono (fun _ _ e=>e)
theorem SubM.pick {G:Ghost} {m:Nat} {π:List Nat} (h:∀ i,i < m→π[i]?=some i):SubM m G (G.pick π) :=
 ⟨⟨fun _ _ e=>e,rfl⟩,fun o t ho e=>by simp only [Ghost.pick,h o ho,e]⟩
def PickOk (m:Nat) (st st' : St):Prop:=∃ π,(∀ i,i < m→π[i]?=some i)∧Picks π st st'
theorem AWP.pick {m:Nat} {c:Code} {Q:Exit→St→Prop} {st st' : St} (hp:PickOk m st st') (h:AWP P m c Q st'):AWP P m c Q st:=fun G a w hR=>by
 obtain ⟨π,h1,h2⟩:=hp
 exact z186 (h _ a w (hR.pick h2)) fun ex a' w' hq=>hq.trans (SubM.pick h1) (Le.refl w)
def z756 (p:Nat→AC→Prop):List (Nat×AC)→Prop
 |[]=>True
 |(k,x)::rest=>p k x∧z756 p rest
theorem z351 (env:List (Nat×AC)) (p:Nat→AC→Prop) (h:z756 p env) (s:Nat):z101 env s=.any∨p s (z101 env s):=by
 induction env with
 |nil=>exact .inl rfl
 |cons kx rest ih =>
  obtain ⟨k,x⟩:=kx
  simp only [z101]
  cases hb:Nat.beq s k with
  |true=>rw [Nat.eq_of_beq_eq_true hb];exact .inr h.1
  |false=>exact ih h.2
def z513 (p:Nat→AObj→Prop):Nat→List Nat→List AObj→Prop
 |_,[],[]=>True
 |i,o::os,x::xs=>p o x∧z513 p (i+1) os xs
 |_,_,_=>False
theorem z289 {p:Nat→AObj→Prop} : ∀ (j:Nat) (os:List Nat) (xs:List AObj),z513 p j os xs→os.length=xs.length∧∀ i o,os[i]?=some o→p o (z39 xs i):=by
 intro j os
 induction os generalizing j with
 |nil=>intro xs h;cases xs with
  |nil=>exact ⟨rfl,fun i o h=>by simp at h⟩
  |cons x xs=>exact h.elim
 |cons o os ih=>intro xs h;cases xs with
  |nil=>exact h.elim
  |cons x xs =>
   obtain ⟨h1,h2⟩:=ih (j+1) xs h.2
   refine ⟨by simp [h1],fun i o' ho=>?_⟩
   cases i with
   |zero=>simp at ho;subst ho;exact h.1
   |succ i=>exact h2 i o' (by simpa using ho)
def z246:Nat→Nat→List Nat→Bool
 |0,_,_=>true
 |m+1,i,o::os=>match Nat.beq o i with
  |true=>z246 m (i+1) os
  |false=>false
 |_+1,_,[]=>false
theorem z144:∀ (m i:Nat) (os:List Nat),z246 m i os=true→∀ j,j < m→os[j]?=some (i+j):=by
 intro m
 induction m with
 |zero=>intro i os _ j hj;omega
 |succ m ih =>
  intro i os h j hj
  cases os with
  |nil=>simp [z246] at h
  |cons o os =>
   simp only [z246] at h
   split at h
   ·rename_i hb
    cases j with
    |zero=>simp [Nat.eq_of_beq_eq_true hb]
    |succ j =>
     have:=ih (i+1) os h j (by omega)
     simp only [List.getElem?_cons_succ,this]
     congr 1;omega
   ·cases h
structure PickL (π:List Nat) (m n:Nat) (st:St) (env:List (Nat×AC)) (objs:List AObj):Prop where
 n:st.n=n
 nodup:π.Nodup
 fix:z246 m 0 π=true
 env:z756 (fun s x=>x.under π.length=true∧st.env s=x.ren (z61 0 π)) env
 obj:z513 (fun o x=>z147 π.length x∧st.objs o=z111 (z61 0 π) x) 0 π objs
theorem PickL.ok {π:List Nat} {m n:Nat} {st:St} {env:List (Nat×AC)} {objs:List AObj} (h:PickL π m n st env objs):PickOk m st (mkSt n env objs):=by
 obtain ⟨h1,h2⟩:=z289 0 π objs h.obj
 refine ⟨π,fun i hi=>by have:=z144 m 0 π h.fix i hi;simpa using this,h.nodup,fun s=>z351 env _ h.env s,fun i o hio=>⟨(h2 i o hio).2,(h2 i o hio).1⟩,fun i hi=>z71 (by omega),h.n.symm⟩
theorem least (p:Nat→Prop) (h:∃ n,p n):∃ n,p n∧∀ m,p m→n≤m:=by
 obtain ⟨n,hn⟩:=h
 induction n using Nat.strongRecOn with
 |_ n ih =>
  by_cases hm:∃ m,m < n∧p m
  ·obtain ⟨m,h1,h2⟩:=hm;exact ih m h1 h2
  ·exact ⟨n,hn,fun m hp=>Nat.le_of_not_lt fun hlt=>hm ⟨m,hlt,hp⟩⟩
open Classical in
noncomputable def z519 (p:Nat→Prop):Nat:=if h:∃ n,p n then Classical.choose (least p h) else 0
theorem z220 {p:Nat→Prop} {n:Nat} (h:p n):p (z519 p)∧z519 p≤n:=by
 have he:∃ n,p n:=⟨n,h⟩
 unfold z519
 rw [dif_pos he]
 have:=Classical.choose_spec (least p he)
 exact ⟨this.1,this.2 n h⟩
theorem awp_loop' {α : Type} {m : Nat} {body : Code} {Q : Exit → St → Prop} {st : St} (I : α → List (Nat × AC) × List AObj) (ok : α → Prop) (μ : α → Nat) (x0 : α) (h0 : ok x0) (hinit : ∃ π, PickL π m st.n st (I x0).1 (I x0).2)
    (round:∀ x,ok x→AWP P m body (z621 (fun st'=>∃ y π,ok y∧μ y < μ x∧PickL π m st.n st' (I y).1 (I y).2) Q) (mkSt st.n (I x).1 (I x).2)):AWP P m (.loop body) Q st:=fun G a w hR=>by
  let J:Act→World→Nat→Prop:=fun a' w' k=>∃ x,ok x∧μ x=k∧∃ G',SubM m G G'∧Le w w'∧Rel G' (mkSt st.n (I x).1 (I x).2) a' w'
  refine z879 (fun a' w'=>∃ k,J a' w' k) (fun a' w'=>z519 (J a' w')) ?_ ?_
  · obtain ⟨π,hp⟩:=hinit
    obtain ⟨π',h1,h2⟩:=hp.ok
    exact ⟨_,x0,h0,rfl,G.pick π',SubM.pick h1,Le.refl w,hR.pick h2⟩
  · rintro a' w' ⟨k,hk⟩
    obtain ⟨⟨x,hx,hμ,G',hs,hl,hR'⟩,_⟩:=z220 hk
    refine z186 (round x hx G' a' w' hR') fun ex a'' w'' hq=>?_
    cases ex with
    | normal =>
      obtain ⟨G'',st'',h1,h2,⟨y,π,hy,hlt,hp⟩,h4⟩:=hq
      obtain ⟨π',h5,h6⟩:=hp.ok
      have hR'':=h4.pick h6
      have hJ' : J a'' w'' (μ y):=⟨y,hy,rfl,_,(hs.trans h1).trans (SubM.pick h5),hl.trans h2,hR''⟩
      refine ⟨⟨_,hJ'⟩,?_⟩
      have:=(z220 hJ').2
      omega
    | _=>exact hq.trans hs hl
theorem z940 {α : Type} {m n : Nat} {env : List (Nat × AC)} {objs : List AObj} {body : Code} {Q : Exit → St → Prop} (I : α → List (Nat × AC) × List AObj) (ok : α → Prop) (μ : α → Nat) (x0 : α) (h0 : ok x0) (hinit : ∃ π, PickL π m n (mkSt n env objs) (I x0).1 (I x0).2)
    (round:∀ x,ok x→AWP P m body (z621 (fun st'=>∃ y π,ok y∧μ y < μ x∧PickL π m n st' (I y).1 (I y).2) Q) (mkSt n (I x).1 (I x).2)):AWP P m (.loop body) Q (mkSt n env objs) :=
  awp_loop' I ok μ x0 h0 hinit round
def AC.flat (x:AC):Bool:=match x with
 |.sref ..=>false
 |.ptr ..=>false
 |.mref _=>false
 |.fn ..=>false
 |.agg _=>false
 |.tup _=>false
 |_=>true
def z321:List AC→Bool
 |[]=>true
 |x::xs=>match x.flat with
  |true=>z321 xs
  |false=>false
theorem z245 {xs:List AC} : z321 xs=true↔∀ x∈xs,x.flat=true:=by
 induction xs with
 |nil=>simp [z321]
 |cons x xs ih =>
  simp only [z321]
  cases h:x.flat<;>simp [ih,h]
def Flat (es:List (List AC)):Prop:=∀ e∈es,z321 e=true
theorem z36:Flat []:=by simp [Flat]
theorem z212 {e:List AC} {es:List (List AC)} (h:z321 e=true) (k:Flat es):Flat (e::es):=by
 intro x hx
 rcases List.mem_cons.1 hx with rfl|hx
 ·exact h
 ·exact k x hx
theorem z90 {a b:List (List AC)} (h:Flat a) (k:Flat b):Flat (a++b):=by
 intro x hx
 rcases List.mem_append.1 hx with hx|hx
 ·exact h x hx
 ·exact k x hx
theorem z7 {α:Type} {f:α→List AC} {l:List α} (h:∀ a,z321 (f a)=true):Flat (l.map f):=by
 intro x hx
 obtain ⟨a,_,rfl⟩:=List.mem_map.1 hx
 exact h a
theorem z75 {n:Nat} {e:List AC} (h:z321 e=true):Flat (List.replicate n e):=by
 intro x hx
 rw [(List.mem_replicate.1 hx).2];exact h
theorem flat_ren {x:AC} (h:x.flat=true) (r:Nat→Nat):x.ren r=x:=by
 cases x<;>first|rfl|simp [AC.flat] at h
theorem z999 {x:AC} (h:x.flat=true) (M:Nat):x.under M=true:=by
 cases x<;>first|rfl|simp [AC.flat] at h
theorem z1146 {xs:List AC} (h:z321 xs=true) (r:Nat→Nat):renL r xs=xs:=by
 rw [z163]
 conv=>rhs;rw [← List.map_id xs]
 exact List.map_congr_left fun x hx=>flat_ren (z245.1 h x hx) r
theorem z350 {xs:List AC} (h:z321 xs=true) (M:Nat):z120 M xs=true :=
 z412.2 fun x hx=>z999 (z245.1 h x hx) M
theorem Flat.ren {w:Nat} {es:List (List AC)} (h:Flat es) (r:Nat→Nat):z111 r (.cells w es)=.cells w es:=by
 simp only [z111,AObj.cells.injEq,true_and]
 conv=>rhs;rw [← List.map_id es]
 exact List.map_congr_left fun x hx=>z1146 (h x hx) r
theorem z59 {M w:Nat} {r:Nat→Nat} {x:AObj} {es:List (List AC)} (h:x=.cells w es) (hf:Flat es):z147 M (.cells w es)∧x=z111 r (.cells w es) :=
 ⟨fun e he=>z350 (hf e he) M,by rw [hf.ren,h]⟩
theorem z83 {w:Nat} {a b:List (List AC)} (h:a=b):AObj.cells w a=.cells w b:=by rw [h]
def z419 (tmps:Array Value):ResultVar→Sem Value
 |.tmp t=>pure (tmps.getD t undef)
 |.cell a t=>do loadVar t (← asAddr (tmps.getD a undef))
theorem z580 (fn : Func) (tmps : Array Value) : results fn tmps = (do
  let vs ← fn.results.mapM (z419 tmps)
  pure (if h:vs.size=1 then vs[0] else .tuple vs)):=rfl
def z411 (T:Tab) (st:St) (rs:List ResultVar) (K:List AC→Prop):Prop:=match rs with
 |[]=>K []
 |.tmp t::rs=>z411 T st rs fun xs=>K (st.env t::xs)
 |.cell x t::rs=>z482 (T t) fun i=>z689 i st (st.env x) fun r _=>z411 T st rs fun xs=>K (r::xs)
theorem z715 {P:Program} {tmps:Array Value} {x t:Nat} {w:World} {u:Value} (h:(Instr.loadAt t (tmps.getD x undef)).run P w=.ok u w):(z419 tmps (.cell x t)).run P w=.ok u w:=by
 have e:z419 tmps (.cell x t)=(do loadVar t (← asAddr (tmps.getD x undef))):=rfl
 rw [e]
 unfold Instr.loadAt at h
 cases hv:tmps.getD x undef with
 |pointer o =>
  rw [hv] at h
  cases o with
  |some a=>exact h
  |none=>simp [Instr.sureAddr,stuck,Sem.run] at h
 |_=>rw [hv] at h;simp [Instr.sureAddr,stuck,Sem.run] at h
theorem z1083 (hT : z118 P T) {G : Ghost} {st : St} {a : Act} {w : World} (hR : Rel G st a w) : ∀ (rs : List ResultVar) (K : List AC → Prop), z411 T st rs K →
  ∃ (xs:List AC) (vs:List Value),(rs.mapM (z419 a.tmps)).run P w=.ok vs w∧vs.length=xs.length∧(∀ (j:Nat) (x:AC),xs[j]?=some x→∃ v,vs[j]?=some v∧V G (hp w) none x v)∧xs.length=rs.length∧K xs:=by
 intro rs
 induction rs with
 |nil=>intro K h;exact ⟨[],[],by simp,rfl,by simp,rfl,h⟩
 |cons r rs ih =>
  intro K h
  have key:∀ (x:AC) (u:Value),(z419 a.tmps r).run P w=.ok u w→V G (hp w) none x u→(z411 T st rs fun xs=>K (x::xs))→∃ (xs:List AC) (vs:List Value),((r::rs).mapM (z419 a.tmps)).run P w=.ok vs w∧vs.length=xs.length∧(∀ (j:Nat) (x:AC),xs[j]?=some x→∃ v,vs[j]?=some v∧V G (hp w) none x v)∧xs.length=(r::rs).length∧K xs:=by
   intro x u hu hx hk
   obtain ⟨xs,vs,h1,h2,h3,h4,h5⟩:=ih _ hk
   refine ⟨x::xs,u::vs,?_,by simp [h2],fun j y hy=>?_,by simp [h4],h5⟩
   ·rw [List.mapM_cons,Sem.run_bind,hu]
    simp only [Result.andThen,Sem.run_bind,h1]
    rfl
   ·cases j with
    |zero=>simp at hy;subst hy;exact ⟨u,by simp,hx⟩
    |succ j=>simpa using h3 j y (by simpa using hy)
  cases r with
  |tmp t=>exact key _ _ rfl (hR.env t) h
  |cell x t =>
   simp only [z411] at h
   obtain ⟨i,hi,h⟩:=z129 hT h
   obtain ⟨res,fp,h1,h2,h3⟩:=z910 hi h
   obtain ⟨u,hu,hv⟩:=h3 G st.objs w _ hR.wf (fun c hc=>(h1 c hc).2) (hR.env x)
   exact key _ _ (z715 hu) hv h2
def z320:List AC→AC
 |[x]=>x
 |xs=>.tup xs
def ACle (r r' : AC):Prop:=∀ (G:Ghost) (h:Nat→Option Obj) (v:Value),V G h none r v→V G h none r' v
theorem ACle.refl (r:AC):ACle r r:=fun _ _ _ h=>h
theorem y3 {r r' : AC} (h:r=r'):ACle r r':=h ▸ ACle.refl r
def z30 (m:Nat) (st:St) (res:AC) (objs' : List AObj) (r:AC):Prop :=
 ∃ π:List Nat,π.Nodup∧z246 m 0 π=true∧res.under π.length=true∧ACle r (res.ren (z61 0 π))∧z513 (fun o x=>z147 π.length x∧st.objs o=z111 (z61 0 π) x) 0 π objs'
def RetQ (T:Tab) (rs:List ResultVar) (m:Nat) (res:AC) (objs' : List AObj) (ex:Exit) (st:St):Prop:=match ex with
 |.normal=>z411 T st rs fun xs=>z30 m st res objs' (z320 xs)
 |.ret=>z411 T st rs fun xs=>z30 m st res objs' (z320 xs)
 |_=>False
theorem ret_ok (hT : z118 P T) {fn : Func} {m : Nat} {res : AC} {objs' : List AObj} {G : Ghost} {st : St} {a : Act} {w : World} (hR : Rel G st a w) (h : z411 T st fn.results.toList fun xs => z30 m st res objs' (z320 xs)) :
    ∃ v G',(results fn a.tmps).run P w=.ok v w∧SubM m G G'∧Wf G' (z39 objs') w∧V G' (hp w) none res v:=by
  obtain ⟨xs,vs,h1,h2,h3,h4,π,hn,hf,hu,hr,ho⟩:=z1083 hT hR _ _ h
  obtain ⟨ho1,ho2⟩:=z289 0 π objs' ho
  have hpick:Wf (G.pick π) (z39 objs') w:=hR.wf.pick hn (fun i o hio=>⟨(ho2 i o hio).2,(ho2 i o hio).1⟩) (fun i hi=>z71 (by omega))
  have hres:(results fn a.tmps).run P w=.ok (if h:vs.toArray.size=1 then vs.toArray[0] else .tuple vs.toArray) w:=by
    rw [z580,Array.mapM_eq_mapM_toList]
    simp [h1]
  have hV:V G (hp w) none (z320 xs) (if h:vs.toArray.size=1 then vs.toArray[0] else .tuple vs.toArray):=by
    by_cases hl:vs.length=1
    · obtain ⟨v,rfl⟩:=List.length_eq_one_iff.1 hl
      obtain ⟨x,rfl⟩:=List.length_eq_one_iff.1 (h2 ▸ hl)
      obtain ⟨v',hv1,hv2⟩:=h3 0 x (by simp)
      simp at hv1;subst hv1
      simpa [z320] using hv2
    · rw [dif_neg (by simpa using hl)]
      have:z320 xs=.tup xs:=by
        unfold z320
        split
        · simp at h2;exact absurd h2 hl
        · rfl
      rw [this]
      simp only [V]
      refine ⟨_,rfl,by simp [h2],z63.2 fun j x hx=>?_⟩
      obtain ⟨v,hv1,hv2⟩:=h3 j x hx
      exact ⟨v,by simpa using hv1,hv2⟩
  have hV:=hr _ _ _ hV
  exact ⟨_,G.pick π,hres,SubM.pick (fun i hi=>by have:=z144 m 0 π hf i hi;simpa using this),hpick,z828 _ hu hV⟩
def z191:Nat→List AC→List (Nat×AC)
 |_,[]=>[]
 |k,x::xs=>(k,x)::z191 (k+1) xs
theorem numbered_eq' (k:Nat) (xs:List AC) (s:Nat):z101 (z191 k xs) (k+s)=z61 .any xs s:=by
 induction xs generalizing k s with
 |nil=>rfl
 |cons x xs ih =>
  cases s with
  |zero=>simp [z191,z101,z61]
  |succ s =>
   have:Nat.beq (k+(s+1)) k=false:=by
    cases hb:Nat.beq (k+(s+1)) k with
    |false=>rfl
    |true=>have:=Nat.eq_of_beq_eq_true hb;omega
   simp only [z191,z101,this,z61]
   rw [show k+(s+1)=(k+1)+s by omega]
   exact ih (k+1) s
theorem z514 (xs:List AC) (s:Nat):z101 (z191 0 xs) s=z61 .any xs s:=by
 have:=numbered_eq' 0 xs s
 rwa [Nat.zero_add] at this
theorem z12 (hT : z118 P T) {f : FuncId} {fn : Func} {c : Code} (hf : P.funcs[f]? = some fn) (hb : fn.body = some c) (hn : (fn.name == "runtime.NumGoroutine") = false) {args : List AC} {objs : List AObj} {res : AC} {objs' : List AObj}
    (n:Nat) (hnt:fn.ntmps=n) (hl:args.length≤n) (h:AWP P objs.length c (RetQ T fn.results.toList objs.length res objs') (mkSt n (z191 0 args) objs)):CallsA P f args objs res objs':=by
  subst hnt
  refine ⟨⟨fn,c,hf,hn,hb⟩,fun G w vs hW hs hv=>?_⟩
  refine z444 hf hb (z186 (h G.split { tmps:=vs++Array.replicate (fn.ntmps - vs.size) undef,defers:=[] } w ⟨hW.split,fun s=>z875 (G:=G) (fun _ _ _ _ e=>z627 e) (fun _ _ e=>e) (h:=hp w) (h':=hp w) ?_,by show _=fn.ntmps;simp;omega,Marks.nil _⟩) fun ex a' w' hq=>?_)
  · show V G (hp w) none (z101 (z191 0 args) s) _
    rw [z514]
    by_cases hsl:s < args.length
    · have hx:args[s]?=some args[s]:=y41 hsl
      obtain ⟨v,hv1,hv2⟩:=z63.1 hv s _ hx
      rw [Nat.zero_add] at hv1
      rw [z65 hx]
      have:(vs++Array.replicate (fn.ntmps - vs.size) undef).getD s undef=v:=by
        rw [y77,Array.getElem?_append,if_pos (by omega),hv1];rfl
      rw [this];exact hv2
    · rw [z71 (by omega)];simp [V]
  · obtain ⟨G',st',h1,h2,h3,h4⟩:=hq
    obtain ⟨Ds,d1,d2,d3,d4,d5,d6⟩:=z731 hW h1.1 h4
    have h1' : SubM objs.length G (G.join G' Ds):=⟨d4,fun o t ho e=>by rw [d5];exact h1.2 o t ho e⟩
    have key:(z411 T st' fn.results.toList fun xs=>z30 objs.length st' res objs' (z320 xs))→LeavesInM Fence.wide 0 P fn a'.tmps (fun e w'=>∃ G'' v',e=.returned v'∧G.Sub G''∧(∀ o t,o < objs.length→G.ι o=some t→G''.ι o=some t)∧Le w w'∧Wf G'' (z39 objs') w'∧V G'' (hp w') none res v') a'.defers .returning w':=by
      intro hr
      obtain ⟨v,G'',h5,h6,h7,h8⟩:=ret_ok hT d6 hr
      have h9:=h1'.trans h6
      rw [d1]
      exact z441 Ds w' d2 d3 ⟨v,h5,G'',v,rfl,h9.1,h9.2,h2.trans (z888 Ds w'),h7,h8⟩
    cases ex with
    | normal=>exact key h3
    | ret=>exact key h3
    | _=>exact h3.elim
end Go.Gl
namespace Go.Gl
variable {P:Program}
def z697:List (Nat×TyI)→Nat→Option TyI
 |[],_=>none
 |(k,x)::rest,t=>match Nat.beq t k with
  |true=>some x
  |false=>z697 rest t
def tabAll (p:Nat→TyI→Prop):List (Nat×TyI)→Prop
 |[]=>True
 |(k,x)::rest=>p k x∧tabAll p rest
theorem tabOk_of {l:List (Nat×TyI)} (h:tabAll (TyOk P) l):z118 P (z697 l):=by
 intro t i ht
 induction l with
 |nil=>simp [z697] at ht
 |cons kx rest ih =>
  obtain ⟨k,x⟩:=kx
  simp only [z697] at ht
  split at ht
  ·rename_i hb;cases ht;rw [Nat.eq_of_beq_eq_true hb];exact h.1
  ·exact ih h.2 ht
theorem z62 {t:Nat} {i:TyI} (h1:P.underlying t=some i.desc) (h2:(P.info? t).map (fun j=>(j.zero,j.size,j.bytes))=some (some i.zero,i.size,i.bytes)):TyOk P t i:=by
 refine ⟨h1,?_⟩
 cases hi:P.info? t with
 |none=>rw [hi] at h2;cases h2
 |some j =>
  rw [hi] at h2
  simp only [Option.map_some,Option.some.injEq,Prod.mk.injEq] at h2
  exact ⟨j,rfl,h2.2.1,h2.2.2,h2.1⟩
end Go.Gl
namespace Go.Gl
section gen
variable {α:Type}
def apW (f:Nat→α):List (Nat×α)→Nat→α
 |[]=>f
 |p::ps=>apW (upd f p.1 p.2) ps
def keys (ws:List (Nat×α)):List Nat:=ws.map Prod.fst
theorem z128 (f:Nat→α) (ws:List (Nat×α)) (l:Nat) (h:l ∉ keys ws):apW f ws l=f l:=by
 induction ws generalizing f with
 |nil=>rfl
 |cons p ps ih =>
  simp only [keys,List.map_cons,List.mem_cons,not_or] at h
  rw [apW,ih _ h.2,z56 _ _ h.1]
theorem z1184 (f g:Nat→α) (ws:List (Nat×α)) (l:Nat) (h:l∈keys ws):apW f ws l=apW g ws l:=by
 induction ws generalizing f g with
 |nil=>simp [keys] at h
 |cons p ps ih =>
  by_cases hp:l∈keys ps
  ·exact ih _ _ hp
  ·rw [apW,apW,z128 _ _ _ hp,z128 _ _ _ hp]
   have:l=p.1:=by
    simp only [keys,List.map_cons,List.mem_cons] at h
    exact h.resolve_right hp
   subst this
   rw [z31,z31]
theorem apW_comm (f:Nat→α) (a b:List (Nat×α)) (h:∀ l,l∈keys a→l ∉ keys b):apW (apW f a) b=apW (apW f b) a:=by
 funext l
 by_cases ha:l∈keys a
 ·rw [z128 _ _ _ (h l ha),z1184 (apW f b) f a l ha]
 ·by_cases hb:l∈keys b
  ·rw [z128 (apW f b) _ _ ha,z1184 (apW f a) f b l hb]
  ·rw [z128 _ _ _ hb,z128 _ _ _ ha,z128 _ _ _ ha,z128 _ _ _ hb]
def runX (wr:Nat→List (Nat×α)) (f:Nat→α) (X:Nat→Bool):Nat→Nat→α
 |0=>f
 |k+1=>match X k with
  |true=>apW (runX wr f X k) (wr k)
  |false=>runX wr f X k
variable {wr:Nat→List (Nat×α)} {f:Nat→α} {X:Nat→Bool}
theorem z330 {k:Nat} (h:X k=true):runX wr f X (k+1)=apW (runX wr f X k) (wr k):=by rw [runX,h]
theorem z436 {k:Nat} (h:X k=false):runX wr f X (k+1)=runX wr f X k:=by rw [runX,h]
theorem runX_ge {l i:Nat} : ∀ n,i≤n→(∀ k,i≤k→k < n→l∈keys (wr k)→X k=false)→runX wr f X n l=runX wr f X i l:=by
  intro n
  induction n with
  | zero => intro h _; have : i = 0 := by omega
            rw [this]
  | succ n ih =>
    intro h hk
    by_cases hn:i=n+1
    · rw [hn]
    · have:=ih (by omega) (fun k h1 h2=>hk k h1 (by omega))
      cases hX:X n with
      | true =>
        rw [z330 hX,z128 _ _ _ (fun hl=>by have:=hk n (by omega) (by omega) hl;rw [this] at hX;cases hX)]
        exact this
      | false=>rw [z436 hX];exact this
theorem runX_all {l:Nat} : ∀ i,(∀ k,k < i→l∈keys (wr k)→X k=true)→runX wr f X i l=runX wr f (fun _=>true) i l:=by
 intro i
 induction i with
 |zero=>intro _;rfl
 |succ i ih =>
  intro hk
  have h1:=ih fun k h=>hk k (by omega)
  rw [z330 (X:=fun _=>true) rfl]
  by_cases hl:l∈keys (wr i)
  ·rw [z330 (hk i (by omega) hl)]
   exact z1184 _ _ _ _ hl
  ·rw [z128 _ _ _ hl]
   cases hX:X i with
   |true=>rw [z330 hX,z128 _ _ _ hl];exact h1
   |false=>rw [z436 hX];exact h1
theorem z713 {l i n:Nat} (hi:i≤n) (h:∀ k,k < n→l∈keys (wr k)→(k < i→X k=true)∧(i≤k→X k=false)):runX wr f X n l=runX wr f (fun _=>true) i l:=by
 rw [runX_ge n hi fun k h1 h2 hl=>(h k h2 hl).2 h1]
 exact runX_all i fun k h1 hl=>(h k (by omega) hl).1 h1
theorem z417 {X' : Nat→Bool} : ∀ i,(∀ k,k < i→X' k=X k)→runX wr f X' i=runX wr f X i:=by
 intro i
 induction i with
 |zero=>intro _;rfl
 |succ i ih =>
  intro h
  have h1:=ih fun k hk=>h k (by omega)
  cases hX:X i with
  |true=>rw [z330 hX,z330 (by rw [h i (by omega)];exact hX),h1]
  |false=>rw [z436 hX,z436 (by rw [h i (by omega)];exact hX),h1]
theorem z896 {i:Nat} {X' : Nat→Bool} (hX:X i=false) (hX' : X' i=true) (hne:∀ k,k≠i→X' k=X k):∀ n,i < n→(∀ l,l∈keys (wr i)→∀ k,i < k→k < n→X k=true→l ∉ keys (wr k))→runX wr f X' n=apW (runX wr f X n) (wr i):=by
 intro n
 induction n with
 |zero=>intro h;omega
 |succ n ih =>
  intro h hk
  by_cases hn:i=n
  ·subst hn
   rw [z436 hX,z330 hX',z417 i fun k hk=>hne k (by omega)]
  ·have h1:=ih (by omega) fun l hl k h1 h2=>hk l hl k h1 (by omega)
   have hne':=hne n (fun e=>hn e.symm)
   cases hXn:X n with
   |true =>
    rw [z330 hXn,z330 (by rw [hne'];exact hXn),h1]
    exact apW_comm _ _ _ fun l hl=>hk l hl n (by omega) (by omega) hXn
   |false=>rw [z436 hXn,z436 (by rw [hne'];exact hXn),h1]
end gen
end Go.Gl
namespace Go.Gl
variable {P:Program} {T:Tab}
structure StepR where
 skip:Bool
 rd:List (Nat×AC)
 fp:List Ch
 res:AC
 deriving Inhabited
def wrE (O:Nat→Oper) (R:Nat→StepR) (i:Nat):List (Nat×AC):=match (O i).dst with
 |some d=>[(d,match (R i).skip with
  |true=>.gone
  |false=>(R i).res)]
 |none=>[]
def wrO (O:Nat→Oper) (R:Nat→StepR) (i:Nat):List (Nat×AObj):=match (R i).skip,z116 (O i).op with
 |false,true=>(R i).fp.map fun c=>(c.o,c.post)
 |_,_=>[]
def z916 (ops:Array Oper) (o:Oper):List Nat:=match o.guard with
 |some (j,_)=>(z568 ops j).toList
 |none=>[]
def z510 (ops:Array Oper) (o:Oper):List Nat:=z725 o.op.operands.toList++z916 ops o
structure Apart (ops:Array Oper) (x y:Oper) (r s:StepR) (ord:Prop):Prop where
 wr:∀ d,x.dst=some d→d∈z510 ops y→ord
 ww:∀ d,x.dst=some d→y.dst=some d→ord
 rw:∀ d,d∈z510 ops x→y.dst=some d→ord
 obj:∀ c c',r.skip=false→s.skip=false→c∈r.fp→c'∈s.fp→c.o=c'.o→(z116 x.op=true∨z116 y.op=true)→ord
structure StepOk (P:Program) (ops:Array Oper) (nt:Nat) (env:Nat→AC) (objs:Nat→AObj) (o:Oper) (r:StepR):Prop where
 dst:∀ d,o.dst=some d→d < nt
 keysR:r.rd.map Prod.fst=z725 o.op.operands.toList
 exec:r.skip=false→OpT P o r.rd r.fp r.res∧(∀ p∈r.rd,env p.1=p.2)∧(∀ c∈r.fp,objs c.o=c.pre∧(z116 o.op=false→c.post=c.pre))
 guard:match o.guard with
  |none=>r.skip=false
  |some (j,want)=>∃ d,z568 ops j=some d∧d < nt∧((∃ b,env d=.raw (.bool b)∧r.skip=!(b == want))∨∃ t,env d=.raw (.tuple t)∧r.skip=true)
structure RegOk (P:Program) (ops:Array Oper) (nt:Nat) (env0:Nat→AC) (objs0:Nat→AObj) (O:Nat→Oper) (R:Nat→StepR) (ord:Nat→Nat→Prop):Prop where
 at_:∀ i,i < ops.size→ops[i]?=some (O i)
 step:∀ i,i < ops.size→StepOk P ops nt (runX (wrE O R) env0 (fun _=>true) i) (runX (wrO O R) objs0 (fun _=>true) i) (O i) (R i)
 apart:∀ i j,i < j→j < ops.size→Apart ops (O i) (O j) (R i) (R j) (ord i j)
 ordE:∀ i j,j < ops.size→ord i j→∃ e∈(O j).after,Region.binds .any e=true∧e.on < j∧(i=e.on∨ord i e.on)
 edges:∀ j,j < ops.size→∀ e∈(O j).after,Region.binds .any e=true→e.on < j
variable {ops:Array Oper} {nt:Nat} {env0:Nat→AC} {objs0:Nat→AObj} {O:Nat→Oper} {R:Nat→StepR} {ord:Nat→Nat→Prop}
def z448 (ops:Array Oper) (O:Nat→Oper) (X:Nat→Bool):Prop:=∀ j,j < ops.size→X j=true→∀ e∈(O j).after,Region.binds .any e=true→X e.on=true
theorem z243 (H:RegOk P ops nt env0 objs0 O R ord) {X:Nat→Bool} (hX:z448 ops O X):∀ j,j < ops.size→X j=true→∀ i,ord i j→X i=true:=by
 intro j
 induction j using Nat.strongRecOn with
 |_ j ih =>
  intro hj hXj i ho
  obtain ⟨e,he,hb,hlt,h⟩:=H.ordE i j hj ho
  have hXe:=hX j hj hXj e he hb
  rcases h with rfl|h
  ·exact hXe
  ·exact ih e.on hlt (by omega) hXe i h
theorem z723 (H:RegOk P ops nt env0 objs0 O R ord) {X:Nat→Bool} (hX:z448 ops O X) {j:Nat} (hj:j < ops.size) (hr:∀ e∈(O j).after,Region.binds .any e=true→X e.on=true):∀ i,ord i j→X i=true:=by
 intro i ho
 obtain ⟨e,he,hb,hlt,h⟩:=H.ordE i j hj ho
 have hXe:=hr e he hb
 rcases h with rfl|h
 ·exact hXe
 ·exact z243 H hX e.on (by omega) hXe i h
theorem z472 {i l:Nat} : l∈keys (wrE O R i)↔(O i).dst=some l:=by
 unfold wrE keys
 cases (O i).dst<;>simp [eq_comm]
theorem readT (H : RegOk P ops nt env0 objs0 O R ord) {X : Nat → Bool} (hX : z448 ops O X) {i : Nat} (hi : i < ops.size) (hXi : X i = false) (hr : ∀ e ∈ (O i).after, Region.binds .any e = true → X e.on = true) {l : Nat} (hl : l ∈ z510 ops (O i)) :
    runX (wrE O R) env0 X ops.size l=runX (wrE O R) env0 (fun _=>true) i l:=by
  refine z713 (by omega) fun k hk hkl=>⟨fun h=>?_,fun h=>?_⟩
  · exact z723 H hX hi hr k ((H.apart k i h hi).wr l (z472.1 hkl) hl)
  · by_cases hki:k=i
    · rw [hki];exact hXi
    · cases hXk:X k with
      | false=>rfl
      | true =>
        have:=z243 H hX k hk hXk i ((H.apart i k (by omega) hk).rw l hl (z472.1 hkl))
        rw [hXi] at this;cases this
theorem z656 {i l:Nat} (h:l∈keys (wrO O R i)):(R i).skip=false∧z116 (O i).op=true∧∃ c∈(R i).fp,c.o=l:=by
 unfold wrO keys at h
 split at h
 ·rename_i h1 h2
  simp at h
  obtain ⟨c,hc,rfl⟩:=h
  exact ⟨h1,h2,c,hc,rfl⟩
 ·simp at h
theorem readO (H : RegOk P ops nt env0 objs0 O R ord) {X : Nat → Bool} (hX : z448 ops O X) {i : Nat} (hi : i < ops.size) (hXi : X i = false) (hr : ∀ e ∈ (O i).after, Region.binds .any e = true → X e.on = true) (hs : (R i).skip = false) {c : Ch} (hc : c ∈ (R i).fp) :
    runX (wrO O R) objs0 X ops.size c.o=runX (wrO O R) objs0 (fun _=>true) i c.o:=by
  refine z713 (by omega) fun k hk hkl=>?_
  obtain ⟨h1,h2,c',hc',he⟩:=z656 hkl
  refine ⟨fun h=>?_,fun h=>?_⟩
  · exact z723 H hX hi hr k ((H.apart k i h hi).obj c' c h1 hs hc' hc he (.inl h2))
  · by_cases hki:k=i
    · rw [hki];exact hXi
    · cases hXk:X k with
      | false=>rfl
      | true =>
        have:=z243 H hX k hk hXk i ((H.apart i k (by omega) hk).obj c c' hs h1 hc hc' he.symm (.inr h2))
        rw [hXi] at this;cases this
theorem addE (H : RegOk P ops nt env0 objs0 O R ord) {X X' : Nat → Bool} (hX : z448 ops O X) {i : Nat} (hi : i < ops.size) (hXi : X i = false) (hX' : X' i = true) (hne : ∀ k, k ≠ i → X' k = X k) :
    runX (wrE O R) env0 X' ops.size=apW (runX (wrE O R) env0 X ops.size) (wrE O R i):=by
  refine z896 hXi hX' hne _ hi fun l hl k h1 h2 hXk hkl=>?_
  have:=z243 H hX k h2 hXk i ((H.apart i k h1 h2).ww l (z472.1 hl) (z472.1 hkl))
  rw [hXi] at this;cases this
theorem addO (H : RegOk P ops nt env0 objs0 O R ord) {X X' : Nat → Bool} (hX : z448 ops O X) {i : Nat} (hi : i < ops.size) (hXi : X i = false) (hX' : X' i = true) (hne : ∀ k, k ≠ i → X' k = X k) :
    runX (wrO O R) objs0 X' ops.size=apW (runX (wrO O R) objs0 X ops.size) (wrO O R i):=by
  refine z896 hXi hX' hne _ hi fun l hl k h1 h2 hXk hkl=>?_
  obtain ⟨h3,h4,c,hc,hcl⟩:=z656 hl
  obtain ⟨h5,h6,c',hc',hcl'⟩:=z656 hkl
  have:=z243 H hX k h2 hXk i ((H.apart i k h1 h2).obj c c' h3 h5 hc hc' (by rw [hcl,hcl']) (.inl h4))
  rw [hXi] at this;cases this
theorem apW_fp (f:Nat→AObj) (fp:List Ch):apW f (fp.map fun c=>(c.o,c.post))=z76 f fp:=by
 induction fp generalizing f with
 |nil=>rfl
 |cons c fp ih=>exact ih _
theorem z1185 {ro : Option Nat} (hro : ro = none ∨ ops.toList.all z180 = true) (H : RegOk P ops nt env0 objs0 O R ord) {Q : Exit → Act → World → Prop} {next m : Nat} {G0 : Ghost} {w0 : World}
    (hQ:∀ G a w,SubM m G0 G→Le w0 w→Rel G ⟨runX (wrE O R) env0 (fun _=>true) ops.size,runX (wrO O R) objs0 (fun _=>true) ops.size,next,nt⟩ a w→Q .normal a w) :
    ∀ (fuel:Nat) (listed:Array Bool) (G:Ghost) (a:Act) (w:World),listed.size=ops.size→((List.range ops.size).countP fun i=>!listed.getD i false)≤fuel→z448 ops O (fun i=>listed.getD i false)→SubM m G0 G→Le w0 w →
      Rel G ⟨runX (wrE O R) env0 (fun i=>listed.getD i false) ops.size,runX (wrO O R) objs0 (fun i=>listed.getD i false) ops.size,next,nt⟩ a w→wpAnyIn (wideR ro) 0 P .any ops Q fuel listed a w:=by
  have allDone : ∀ (listed : Array Bool) (G : Ghost) (a : Act) (w : World), (∀ i, i < ops.size → listed.getD i false = true) → SubM m G0 G → Le w0 w →
      Rel G ⟨runX (wrE O R) env0 (fun i=>listed.getD i false) ops.size,runX (wrO O R) objs0 (fun i=>listed.getD i false) ops.size,next,nt⟩ a w→Q .normal a w:=by
    intro listed G a w hall hs hl hR
    refine hQ G a w hs hl ?_
    rw [z417 (X:=fun i=>listed.getD i false) (X':=fun _=>true) ops.size fun k hk=>(hall k hk).symm,z417 (X:=fun i=>listed.getD i false) (X':=fun _=>true) ops.size fun k hk=>(hall k hk).symm]
    exact hR
  have noneReady:∀ (listed:Array Bool),listed.size=ops.size→Region.ready .any ops listed=[]→∀ i,i < ops.size→listed.getD i false=true:=by
    intro listed hsz hr i
    induction i using Nat.strongRecOn with
    | _ i ih =>
      intro hi
      cases hX:listed.getD i false with
      | true=>rfl
      | false =>
        exfalso
        have hmem:i∈Region.ready .any ops listed:=by
          unfold Region.ready
          simp only [List.mem_filter,y57]
          refine ⟨hi,?_⟩
          have h1:listed.getD i true=false:=by
            rw [y77,Array.getElem?_eq_getElem (by omega)] at hX ⊢;exact hX
          rw [h1,H.at_ i hi]
          simp only [Option.map_some,Option.getD_some,Bool.not_false,Bool.true_and,Array.all_eq_true']
          intro e he
          cases hb:Region.binds .any e with
          | false=>rfl
          | true =>
            have hlt:=H.edges i hi e he hb
            simp [ih e.on hlt (by omega)]
        rw [hr] at hmem;simp at hmem
  intro fuel
  induction fuel with
  | zero =>
    intro listed G a w hsz hcnt hcl hs hl hR
    have hall:∀ i,i < ops.size→listed.getD i false=true:=fun i hi=>by
      have h0:=List.countP_eq_zero.1 (Nat.le_zero.1 hcnt) i (List.mem_range.2 hi)
      simpa using h0
    refine ⟨?_,allDone listed G a w hall hs hl hR⟩
    unfold Region.ready
    rw [List.filter_eq_nil_iff]
    intro i hi
    simp only [y57] at hi
    have h1:listed.getD i true=true:=by
      have:=hall i hi
      rw [y77,Array.getElem?_eq_getElem (by omega)] at this ⊢;exact this
    simp [h1]
  | succ fuel ih =>
    intro listed G a w hsz hcnt hcl hs hl hR
    refine ⟨fun hr=>allDone listed G a w (noneReady listed hsz hr) hs hl hR,fun i hi=>?_⟩
    unfold Region.ready at hi
    simp only [List.mem_filter,y57] at hi
    obtain ⟨hi,hready⟩:=hi
    rw [H.at_ i hi] at hready
    simp only [Option.map_some,Option.getD_some,y67,Bool.not_eq_true',Array.all_eq_true'] at hready
    obtain ⟨hli,hedges⟩:=hready
    have hXi:listed.getD i false=false:=by
      rw [y77,Array.getElem?_eq_getElem (by omega)] at hli ⊢;exact hli
    have hed:∀ e∈(O i).after,Region.binds .any e=true→listed.getD e.on false=true:=by
      intro e he hb
      have:=hedges e he
      simpa [hb] using this
    -- behind the operation
    have hX' : (listed.setIfInBounds i true).getD i false=true:=by
      rw [y77,Array.getElem?_setIfInBounds]
      simp [hsz,hi]
    have hne:∀ k,k≠i→(listed.setIfInBounds i true).getD k false=listed.getD k false:=fun k hk=>by
      rw [y77,y77,Array.getElem?_setIfInBounds]
      simp [Ne.symm hk]
    have hcnt' : ((List.range ops.size).countP fun k=>!(listed.setIfInBounds i true).getD k false)≤fuel:=by
      have key:∀ (l:List Nat),l.Nodup→i∈l→(l.countP fun k=>!(listed.setIfInBounds i true).getD k false)+1≤l.countP fun k=>!listed.getD k false:=by
        intro l
        induction l with
        | nil=>intro _ h;simp at h
        | cons y ys ihl =>
          intro hnd hm
          obtain ⟨hn1,hn2⟩:=List.nodup_cons.1 hnd
          by_cases hy:y=i
          · subst hy
            rw [List.countP_cons_of_neg (by simp [hX']),List.countP_cons_of_pos (by simp [hXi])]
            have:∀ l' : List Nat,y ∉ l'→(l'.countP fun k=>!(listed.setIfInBounds y true).getD k false)=l'.countP fun k=>!listed.getD k false:=by
              intro l' hn
              refine List.countP_congr fun k hk=>?_
              rw [hne k (by rintro rfl;exact hn hk)]
            rw [this ys hn1]
            exact y48 _
          · have hm' : i∈ys:=by simpa [Ne.symm hy] using hm
            have:=ihl hn2 hm'
            rw [List.countP_cons,List.countP_cons,hne y hy]
            omega
      have:=key (List.range ops.size) List.nodup_range (List.mem_range.2 hi)
      omega
    have hcl' : z448 ops O (fun k=>(listed.setIfInBounds i true).getD k false):=by
      intro j hj hXj e he hb
      by_cases hji:j=i
      · subst hji
        have hlt:=H.edges j hj e he hb
        show (listed.setIfInBounds j true).getD e.on false=true
        rw [hne e.on (by omega)]
        exact hed e he hb
      · have hXj' : listed.getD j false=true:=by rw [← hne j hji];exact hXj
        have:=hcl j hj hXj' e he hb
        show (listed.setIfInBounds i true).getD e.on false=true
        by_cases hei:e.on=i
        · rw [hei];exact hX'
        · rw [hne e.on hei];exact this
    have hE:=addE (env0:=env0) H hcl hi hXi (X':=fun k=>(listed.setIfInBounds i true).getD k false) hX' hne
    have hO:=addO (objs0:=objs0) H hcl hi hXi (X':=fun k=>(listed.setIfInBounds i true).getD k false) hX' hne
    have hst:=H.step i hi
    have go:∀ G' a' w',SubM m G0 G'→Le w0 w'→Rel G' ⟨apW (runX (wrE O R) env0 (fun i=>listed.getD i false) ops.size) (wrE O R i),apW (runX (wrO O R) objs0 (fun i=>listed.getD i false) ops.size) (wrO O R i),next,nt⟩ a' w'→wpAnyIn (wideR ro) 0 P .any ops Q fuel (listed.setIfInBounds i true) a' w':=by
      intro G' a' w' hs' hl' hR'
      refine ih (listed.setIfInBounds i true) G' a' w' (by simpa using hsz) hcnt' hcl' hs' hl' ?_
      rw [hE,hO];exact hR'
    have hdE:∀ (v:AC),(match (R i).skip with|true=>AC.gone|false=>(R i).res)=v→∀ f:Nat→AC,z435 f (O i).dst v=apW f (wrE O R i):=by
      intro v hv f
      unfold wrE z435
      cases (O i).dst with
      | none=>rfl
      | some d=>subst hv;rfl
    have hnd:ro=none∨z180 (O i)=true:=hro.imp id fun e=>List.all_eq_true.1 e _ (by have:=H.at_ i hi;exact Array.mem_toList_iff.2 (Array.mem_of_getElem? this))
    unfold wpOpIn
    rw [H.at_ i hi]
    dsimp only
    have run:(R i).skip=false→(O i).wpIn (wideR ro) 0 P a w (wpAnyIn (wideR ro) 0 P .any ops Q fuel (listed.setIfInBounds i true)) Q:=by
      intro hsk
      obtain ⟨h1,h2,h3⟩:=hst.exec hsk
      refine z1094 hnd (h1.run Q _ G _ a w hR (fun p hp=>?_) (fun c hc=>?_) hst.dst fun G' a' w' hg hι hl' hR'=>?_)
      · have hk:p.1∈z725 (O i).op.operands.toList:=by rw [← hst.keysR];exact List.mem_map.2 ⟨p,hp,rfl⟩
        show runX (wrE O R) env0 _ ops.size p.1=p.2
        rw [readT H hcl hi hXi hed (List.mem_append.2 (.inl hk))]
        exact h2 p hp
      · show runX (wrO O R) objs0 _ ops.size c.o=c.pre
        rw [readO H hcl hi hXi hed hsk hc]
        exact (h3 c hc).1
      · refine go G' a' w' (hs.trans ⟨hg,fun o t _ e=>hι o t e⟩) (hl.trans hl') (hR'.same ?_ ?_ rfl)
        · exact (hdE (R i).res (by rw [hsk]) _).symm
        · show apW _ (wrO O R i)=z76 _ (R i).fp
          unfold wrO
          rw [hsk]
          cases hw:z116 (O i).op with
          | true=>exact apW_fp _ _
          | false =>
            show _=_
            refine (z133 _ _ fun c hc=>⟨?_,(h3 c hc).2 hw⟩).symm
            show runX (wrO O R) objs0 _ ops.size c.o=c.pre
            rw [readO H hcl hi hXi hed hsk hc]
            exact (h3 c hc).1
    have skip:(R i).skip=true→wpAnyIn (wideR ro) 0 P .any ops Q fuel (listed.setIfInBounds i true) (a.put (O i).dst undef) w:=by
      intro hsk
      refine go G _ w hs hl ?_
      have:=hR.pure (dst:=(O i).dst) (res:=.gone) (v:=undef) (fp:=[]) hst.dst (by simp [V,undef]) (by simp)
      refine this.same (hdE .gone (by rw [hsk]) _).symm ?_ rfl
      show apW _ (wrO O R i)=_
      unfold wrO
      rw [hsk];rfl
    have hg:=hst.guard
    cases hgd:(O i).guard with
    | none =>
      rw [hgd] at hg
      rw [if_pos (by simp [Region.wanted,hgd])]
      exact run hg
    | some jw =>
      obtain ⟨j,want⟩:=jw
      rw [hgd] at hg
      obtain ⟨d,hd1,hd2,hg⟩:=hg
      have hrd:d∈z510 ops (O i):=List.mem_append.2 (.inr (by simp [z916,hgd,hd1]))
      rcases hg with ⟨b,hd3,hd4⟩|⟨t,hd3,hd4⟩
      · have hb:runX (wrE O R) env0 (fun i=>listed.getD i false) ops.size d=.raw (.bool b):=by
          rw [readT H hcl hi hXi hed hrd];exact hd3
        have hw:=z685 hR hgd hd1 hd2 hb
        rw [hw]
        cases hbw:b == want with
        | true=>simp only [if_true];exact run (by rw [hd4,hbw];rfl)
        | false=>rw [if_neg (by simp)];exact ⟨fun _ _=>trivial,skip (by rw [hd4,hbw];rfl)⟩
      · have hb:runX (wrE O R) env0 (fun i=>listed.getD i false) ops.size d=.raw (.tuple t):=by
          rw [readT H hcl hi hXi hed hrd];exact hd3
        have hw:=z485 hR hgd hd1 hd2 hb
        rw [hw]
        rw [if_neg (by simp)];exact ⟨fun _ _=>trivial,skip hd4⟩
end Go.Gl
namespace Go.Gl
variable {P:Program} {T:Tab}
structure Acc where
 rt:List Nat
 wt:List Nat
 oa:List Nat
 ow:Bool
def z292:List Nat→List Nat→Bool
 |[],_=>false
 |x::xs,ys=>match inB ys x with
  |true=>true
  |false=>z292 xs ys
theorem z469 {xs ys:List Nat} {x:Nat} (h1:x∈xs) (h2:x∈ys):z292 xs ys=true:=by
 induction xs with
 |nil=>simp at h1
 |cons y xs ih =>
  simp only [z292]
  cases hb:inB ys y with
  |true=>rfl
  |false =>
   rcases List.mem_cons.1 h1 with rfl|h1
   ·rw [z260.2 h2] at hb;cases hb
   ·exact ih h1
def z457 (a b:Acc):Bool:=match z292 a.wt b.rt with
 |true=>true
 |false=>match z292 a.wt b.wt with
  |true=>true
  |false=>match z292 a.rt b.wt with
   |true=>true
   |false=>match a.ow || b.ow with
    |true=>z292 a.oa b.oa
    |false=>false
def z268 (bs:List Nat):List Edge→Nat
 |[]=>0
 |e::es=>(match Region.binds .any e with
  |true=>2 ^ e.on ||| bs.getD e.on 0
  |false=>0) ||| z268 bs es
def z200 (j:Nat):List Edge→Bool
 |[]=>true
 |e::es=>match Region.binds .any e with
  |true=>match Nat.blt e.on j with
   |true=>z200 j es
   |false=>false
  |false=>z200 j es
def z543:Nat→List Nat→List Oper→Option (List Nat)
 |_,bs,[]=>some bs
 |j,bs,o::os=>match z200 j o.after.toList with
  |true=>z543 (j+1) (bs++[z268 bs o.after.toList]) os
  |false=>none
def z430 (b:Nat) (y:Acc):Nat→List Acc→Bool
 |_,[]=>true
 |i,x::xs=>match z457 x y with
  |true=>match b.testBit i with
   |true=>z430 b y (i+1) xs
   |false=>false
  |false=>z430 b y (i+1) xs
def pairs (bs:List Nat):List Acc→Nat→List Acc→Bool
 |_,_,[]=>true
 |done,j,y::ys=>match z430 (bs.getD j 0) y 0 done with
  |true=>pairs bs (done++[y]) (j+1) ys
  |false=>false
def z34 (ops:Array Oper) (accs:List Acc):Bool:=match z543 0 [] ops.toList with
 |some bs=>pairs bs [] 0 accs
 |none=>false
theorem z781 {b:Nat} {y:Acc} : ∀ (xs:List Acc) (i:Nat),z430 b y i xs=true→∀ k x,xs[k]?=some x→z457 x y=true→b.testBit (i+k)=true:=by
 intro xs
 induction xs with
 |nil=>intro i _ k x h;simp at h
 |cons x0 xs ih =>
  intro i h k x hk hc
  simp only [z430] at h
  cases k with
  |zero =>
   simp at hk;subst hk
   rw [hc] at h
   dsimp only at h
   split at h
   ·rename_i hb;simpa using hb
   ·cases h
  |succ k =>
   have:z430 b y (i+1) xs=true:=by
    split at h
    ·split at h
     ·exact h
     ·cases h
    ·exact h
   have:=ih (i+1) this k x (by simpa using hk) hc
   rwa [show i+(k+1)=i+1+k by omega]
theorem z973 {bs:List Nat} : ∀ (ys done:List Acc),pairs bs done done.length ys=true→∀ i j x y,i < j→done.length≤j→(done++ys)[i]?=some x→(done++ys)[j]?=some y→z457 x y=true→(bs.getD j 0).testBit i=true:=by
 intro ys
 induction ys with
 |nil =>
  intro done _ i j x y _ hj _ hy
  rw [y61,y65 hj] at hy;cases hy
 |cons y0 ys ih =>
  intro done h i j x y hij hj hx hy hc
  simp only [pairs] at h
  split at h
  ·rename_i hag
   by_cases hjd:j=done.length
   ·subst hjd
    rw [y63 (y48 _)] at hy
    simp at hy;subst hy
    rw [y62 hij] at hx
    have:=z781 done 0 hag i x hx hc
    rwa [Nat.zero_add] at this
   ·have h2:=ih (done++[y0]) (by simpa using h) i j x y hij (by simp;omega) (by simpa using hx) (by simpa using hy) hc
    exact h2
  ·cases h
theorem z671 {bs:List Nat} {i:Nat} : ∀ (es:List Edge),(z268 bs es).testBit i=true→∃ e∈es,Region.binds .any e=true∧(i=e.on∨(bs.getD e.on 0).testBit i=true):=by
 intro es
 induction es with
 |nil=>intro h;simp [z268] at h
 |cons e es ih =>
  intro h
  simp only [z268,Nat.testBit_or,Bool.or_eq_true] at h
  rcases h with h|h
  ·split at h
   ·rename_i hb
    rw [Nat.testBit_or,Bool.or_eq_true] at h
    refine ⟨e,by simp,hb,?_⟩
    rcases h with h|h
    ·left
     rw [Nat.testBit_two_pow] at h
     simpa [eq_comm] using h
    ·exact .inr h
   ·simp at h
  ·obtain ⟨e',h1,h2⟩:=ih h
   exact ⟨e',by simp [h1],h2⟩
theorem z300 {j:Nat} : ∀ (es:List Edge),z200 j es=true→∀ e∈es,Region.binds .any e=true→e.on < j:=by
 intro es
 induction es with
 |nil=>intro _ e h;simp at h
 |cons e0 es ih =>
  intro h e he hb
  simp only [z200] at h
  rcases List.mem_cons.1 he with rfl|he
  ·rw [hb] at h
   dsimp only at h
   split at h
   ·rename_i hl;simpa [Nat.blt_eq] using hl
   ·cases h
  ·refine ih ?_ e he hb
   split at h
   ·split at h
    ·exact h
    ·cases h
   ·exact h
theorem z780 : ∀ (os : List Oper) (bs : List Nat) (r : List Nat), z543 bs.length bs os = some r → (∀ k, k < bs.length → r[k]? = bs[k]?) ∧ r.length = bs.length + os.length ∧
  ∀ k o,os[k]?=some o→z200 (bs.length+k) o.after.toList=true∧∃ bs',r[bs.length+k]?=some (z268 bs' o.after.toList)∧∀ q,q < bs.length+k→bs'.getD q 0=r.getD q 0:=by
 intro os
 induction os with
 |nil=>intro bs r h;simp only [z543,Option.some.injEq] at h;subst h;exact ⟨fun _ _=>rfl,by simp,fun k o h=>by simp at h⟩
 |cons o0 os ih =>
  intro bs r h
  simp only [z543] at h
  split at h
  ·rename_i hb
   have hlen:(bs++[z268 bs o0.after.toList]).length=bs.length+1:=by simp
   rw [← hlen] at h
   obtain ⟨h1,h2,h3⟩:=ih _ r h
   rw [hlen] at h1 h2 h3
   refine ⟨fun k hk=>by rw [h1 k (by omega),y62 hk],by simp [h2];omega,fun k o ho=>?_⟩
   cases k with
   |zero =>
    simp at ho;subst ho
    refine ⟨by simpa using hb,bs,?_,fun q hq=>?_⟩
    ·rw [Nat.add_zero,h1 _ (by omega)];simp
    ·rw [y64,y64,h1 q (by omega),y62 (by omega)]
   |succ k =>
    have:=h3 k o (by simpa using ho)
    rw [show bs.length+(k+1)=bs.length+1+k by omega]
    exact this
  ·cases h
end Go.Gl
