/- A part of the proofs over this program: GlRX, D14, D17, D18, D19, D20, D21, D22, D23, D24, D25, D26, D28, D29, D30, D32, D27, D31, D33, D13, GlV, D34, D35. -/
import Derived.Test.YtknlmbniicacmaaGreatG0
import Derived.Test.YtknlmbniicacmaaGreatG1
import Derived.Test.YtknlmbniicacmaaGreatG2
set_option linter.all false
namespace Go.Gl
variable {P:Program} {T:Tab}
def z319 (l:List Int):AC:=.list 1 l.length (l.map fun x=>[AC.int x])
theorem z202 (w:World) (x:Obj) (b:Nat) (hb:b < w.heap.size):(w.alloc x).heap[b]?=w.heap[b]?:=by
  show (w.heap.push x)[b]?=_
  rw [Array.getElem?_push,if_neg (by omega)]
theorem upd_upd {α:Type} (f:Nat→α) (l:Nat) (x y:α):upd (upd f l x) l y=upd f l y:=by
  funext b
  by_cases h:b=l
  · subst h;rw [z28,z28]
  · rw [z43 _ _ h,z43 _ _ h,z43 _ _ h]
theorem Wf.fresh_ι {G:Ghost} {objs:List AObj} {w:World} (h:Wf G (z36 objs) w) {o:Nat} (ho:objs.length≤o):G.ι o=none:=by
  have:=h.objs o
  rw [show z36 objs o=.fresh from z61 ho] at this
  exact this
theorem SubM.all_ι {M:Nat} {G G' : Ghost} {objs:List AObj} {w:World} (hW:Wf G (z36 objs) w) (hM:objs.length≤M) (h:SubM M G G'):∀ o t,G.ι o=some t→G'.ι o=some t:=fun o t e=>by
  rcases Nat.lt_or_ge o M with ho|ho
  · exact h.2 o t ho e
  · rw [hW.fresh_ι (by omega)] at e;cases e
def Ghost.turn (G:Ghost) (l:Nat) (x:Option Obj):Ghost:={ G with U:=upd G.U l x }
theorem Wf.turn {G:Ghost} {objs:Nat→AObj} {w:World} (h:Wf G objs w) {l:Nat} {x y:Obj} (hl:G.U l=some x):Wf (G.turn l (some y)) objs (w.putObj l y):=by
  have hlt:l < w.heap.size:=(Array.getElem?_eq_some_iff.1 (h.hU l x hl)).1
  have hs:=h.su l x hl
  refine ⟨fun b z e=>?_,fun b z e=>?_,fun b z e=>?_,fun b p e=>?_,fun o=>?_⟩
  · have:b≠l:=by rintro rfl;rw [show G.S b=some z from e] at hs;cases hs
    rw [World.putObj_heap_other this];exact h.hS b z e
  · by_cases hb:b=l
    · subst hb
      simp only [Ghost.turn,z28] at e
      cases e
      exact World.putObj_heap_same hlt
    · simp only [Ghost.turn,z43 _ _ hb] at e
      rw [World.putObj_heap_other hb];exact h.hU b z e
  · by_cases hb:b=l
    · subst hb;exact hs
    · simp only [Ghost.turn,z43 _ _ hb] at e
      exact h.su b z e
  · obtain ⟨h1,h2,h3⟩:=h.sk b p e
    have hb:b≠l:=by rintro rfl;rw [hl] at h2;cases h2
    refine ⟨h1,?_,by simpa [World.putObj] using h3⟩
    show upd G.U l (some y) b=none
    rw [z43 _ _ hb];exact h2
  · refine ObjRel.moveC (G:=G) (G':=G.turn l (some y)) (h:=hp w) (fun _ _ _ _ e=>e) rfl (fun b p e=>⟨e,?_⟩) (h.objs o)
    have hb:b≠l:=by rintro rfl;have:=(h.sk b p e).2.1;rw [hl] at this;cases this
    exact World.putObj_heap_other hb
theorem Le.putObj (w:World) (l:Nat) (x:Obj):Le w (w.putObj l x):=⟨rfl,rfl,rfl,by simp [World.putObj]⟩
theorem Rel.turn {G:Ghost} {st:St} {a:Act} {w:World} (h:Rel G st a w) {l:Nat} {x y:Obj} (hl:G.U l=some x):Rel (G.turn l (some y)) st a (w.putObj l y) :=
  ⟨h.wf.turn hl,fun s=>z399 (G:=G) (G':=G.turn l (some y)) (fun _ _ _ _ e=>e) (fun _ _ e=>e) (h.env s),h.size,h.defers⟩
def z871 (P:Program) (fb:FuncId):Prop:=∀ {α:Type} (M:Nat) (rest:α→List AObj) (ok:Nat→α→Prop) (L:List Int) (l:Nat) (Gc:Ghost) (wc:World) (lb:Array Value) (x0:α),
  L.length≤maxLen→(∀ x,(rest x).length+1=M) →
  (∀ k x G w,(hk:k < L.length)→ok (k+1) x→SubM M Gc.split G→Le wc w→Wf G (z36 (AObj.cells 1 [[z319 L]]::rest x)) w→∃ f tmps assign body,
    (Instr.yield l #[.int .i64 k,.int .i64 L[k]]).run P w=.ok (.round l f tmps assign body) w ∧
    RoundIn Fence.wide 0 P l f tmps assign body w (fun e w'=>e=.returned (.bool true)∧∃ G' y,ok k y∧SubM M G G'∧Le w w'∧Wf G' (z36 (AObj.cells 1 [[z319 L]]::rest y)) w')) →
  ok L.length x0→Wf Gc (z36 (AObj.cells 1 [[z319 L]]::rest x0)) wc→lb.size=1→VL Gc (hp wc) none [.ptr 0 none 0] lb 0 →
  CallsIn Fence.wide 0 P fb (#[.func (.yield l) #[] #[]]++lb) wc (fun e w'=>∃ v G y,e=.returned v∧ok 0 y∧SubM M Gc G∧Le wc w'∧Wf G (z36 (AObj.cells 1 [[z319 L]]::rest y)) w')
theorem Wf.enter {G:Ghost} {objs:Nat→AObj} {w:World} (h:Wf G objs w) (x y:Obj):Wf { G with S:=upd G.S w.heap.size (some x),U:=upd G.U (w.heap.size+1) (some y) } objs ((w.alloc x).alloc y):=by
  have hlt:∀ b z,w.heap[b]?=some z→b < w.heap.size:=fun b z e=>(Array.getElem?_eq_some_iff.1 e).1
  have hx:((w.alloc x).alloc y).heap[w.heap.size]?=some x:=by
    rw [z202 _ _ _ (by simp)];exact World.alloc_heap_new w x
  have hy:((w.alloc x).alloc y).heap[w.heap.size+1]?=some y:=by
    have:=World.alloc_heap_new (w.alloc x) y;rwa [World.size_alloc] at this
  have hold:∀ b,b < w.heap.size→((w.alloc x).alloc y).heap[b]?=w.heap[b]?:=fun b hb=>by
    rw [z202 _ _ _ (by simp;omega),z202 _ _ _ hb]
  have hsn:∀ b,w.heap.size≤b→G.S b=none∧G.U b=none:=fun b hb=>by
    constructor
    · cases e:G.S b with
      | none=>rfl
      | some z=>have:=hlt _ _ (h.hS b z e);omega
    · cases e:G.U b with
      | none=>rfl
      | some z=>have:=hlt _ _ (h.hU b z e);omega
  refine ⟨fun b z e=>?_,fun b z e=>?_,fun b z e=>?_,fun b p e=>?_,fun o=>?_⟩
  · by_cases hb:b=w.heap.size
    · subst hb
      simp only [z28] at e
      cases e;exact hx
    · simp only [z43 _ _ hb] at e
      have:=h.hS b z e
      rw [hold b (hlt _ _ this)];exact this
  · by_cases hb:b=w.heap.size+1
    · subst hb
      simp only [z28] at e
      cases e;exact hy
    · simp only [z43 _ _ hb] at e
      have:=h.hU b z e
      rw [hold b (hlt _ _ this)];exact this
  · by_cases hb:b=w.heap.size+1
    · subst hb
      show upd G.S w.heap.size (some x) (w.heap.size+1)=none
      rw [z43 _ _ (by omega)];exact (hsn _ (by omega)).1
    · simp only [z43 _ _ hb] at e
      have:=hlt _ _ (h.hU b z e)
      show upd G.S w.heap.size (some x) b=none
      rw [z43 _ _ (by omega)];exact h.su b z e
  · obtain ⟨h1,h2,h3⟩:=h.sk b p e
    refine ⟨?_,?_,by simp;omega⟩
    · show upd G.S w.heap.size (some x) b=none
      rw [z43 _ _ (by omega)];exact h1
    · show upd G.U (w.heap.size+1) (some y) b=none
      rw [z43 _ _ (by omega)];exact h2
  · refine ObjRel.moveC (G:=G) (G':={ G with S:=upd G.S w.heap.size (some x),U:=upd G.U (w.heap.size+1) (some y) }) (h:=hp w) (fun b c el fz e=>?_) rfl (fun b p e=>⟨e,?_⟩) (h.objs o)
    · have:=hlt _ _ (h.hS b _ e)
      show upd G.S w.heap.size (some x) b=_
      rw [z43 _ _ (by omega)];exact e
    · exact hold b (h.sk b p e).2.2
theorem z624 {G : Ghost} {h : Nat → Option Obj} {env : List (Nat × AC)} {tmps : Array Value} {n p : Nat} {x : AC} {v : Value} (hp : p < n) (hs : tmps.size = n) (he : ∀ s, V G h none (z81 env s) (tmps.getD s undef)) (hv : V G h none x v) :
    ∀ s,V G h none (z81 ((p,x)::env) s) ((tmps.setIfInBounds p v).getD s undef):=fun s=>by
  rw [z219]
  by_cases h:s=p
  · subst h
    rw [z28,Array.getD_eq_getD_getElem?,Array.getElem?_setIfInBounds]
    simpa [hs,hp] using hv
  · rw [z43 _ _ h,Array.getD_eq_getD_getElem?,Array.getElem?_setIfInBounds,if_neg (fun e=>h e.symm),← Array.getD_eq_getD_getElem?]
    exact he s
def EndR {α:Type} (M:Nat) (L:List Int) (rest:α→List AObj) (ok:Nat→α→Prop) (k:Nat) (st' : St):Prop:=∃ y,ok k y∧Reach M st' (mkSt st'.n [] (AObj.cells 1 [[z319 L]]::rest y))
theorem EndR.mk {α:Type} {M:Nat} {L:List Int} {rest:α→List AObj} {ok:Nat→α→Prop} {k n:Nat} {env:List (Nat×AC)} {objs:List AObj} (y:α) (h:ok k y) (hr:Reach M (mkSt n env objs) (mkSt n [] (AObj.cells 1 [[z319 L]]::rest y))):EndR M L rest ok k (mkSt n env objs):=⟨y,h,hr⟩
theorem z633 {α : Type} {m n M : Nat} {env : List (Nat × AC)} {objs : List AObj} {g : Operand} {p0 p1 : Nat} {assign body : Code} {Q : Exit → St → Prop} {fb : Nat} {L : List Int}
    (hI:z871 P fb) (hfb:z736 P fb) (hg:(mkSt n env objs).ev g=.fn (.func fb) [] [.ptr 0 none 0]) (hp0:p0 < n) (hp1:p1 < n) (hL:L.length≤maxLen) (hst:(z207 assign && z207 body)=true) (hmM:m≤M)
    (rest:α→List AObj) (ok:Nat→α→Prop) (x0:α) (hx0:(AObj.cells 1 [[z319 L]]::rest x0)=objs) (hlen:∀ x,(rest x).length+1=M) (h0:ok L.length x0)
    (hround:∀ k x,(hk:k < L.length)→ok (k+1) x→AWP P M assign (z452 (AWP P M body (z452 (EndR M L rest ok k) (fun _ _=>False))) (fun _ _=>False)) (mkSt n ((p1,.int L[k])::(p0,.int k)::env) (AObj.cells 1 [[z319 L]]::rest x)))
    (hq:∀ x,ok 0 x→Q .normal (mkSt n env (AObj.cells 1 [[z319 L]]::rest x))):AWP P m (.rangeFunc g #[p0,p1] assign body) Q (mkSt n env objs):=fun G a w hR ro hro=>by
  obtain ⟨hs1,hs2⟩:=Bool.and_eq_true_iff.1 hst
  have hro:ro=none:=hro.resolve_right (by simp [z207])
  subst hro
  have hobl:objs.length=M:=by rw [← hx0];exact hlen x0
  have hge:=hR.ev g
  rw [hg] at hge
  simp only [V] at hge
  obtain ⟨xs,lb,hgv,hxs,hlb,_,hlbv⟩:=hge
  obtain rfl:xs=#[]:=by simpa using hxs
  refine wpIn_rangeFunc (F:=wideR none) fun fn _=>?_
  obtain ⟨rec,hrec⟩:∃ rec:LoopState→Loop,rec=fun st=>{ state:=st,pending:=none,fn,tmps:=a.tmps,params:=#[p0,p1],assign,body,defers:=w.heap.size }:=⟨_,rfl⟩
  have hW0:=hR.wf.enter (.deferred (some [])) (.loop (rec .ready))
  obtain ⟨Gc,hGc⟩:∃ Gc:Ghost,Gc={ G with S:=upd G.S w.heap.size (some (.deferred (some []))),U:=upd G.U (w.heap.size+1) (some (.loop (rec .ready))) }:=⟨_,rfl⟩
  rw [← hGc] at hW0
  obtain ⟨l,hl⟩:∃ l,l=w.heap.size+1:=⟨_,rfl⟩
  have hUl:Gc.U l=some (.loop (rec .ready)):=by rw [hGc,hl];exact z28 _ _ _
  have hSD:Gc.S w.heap.size=some (.deferred (some [])):=by rw [hGc];exact z28 _ _ _
  have hSold:∀ b x,G.S b=some x→Gc.S b=some x:=fun b x e=>by
    have:=(Array.getElem?_eq_some_iff.1 (hR.wf.hS b x e)).1
    rw [hGc]
    show upd G.S w.heap.size _ b=_
    rw [z43 _ _ (by omega)];exact e
  have hιc:Gc.ι=G.ι:=by rw [hGc]
  obtain ⟨W1,hW1⟩:∃ W1,(w.alloc (.deferred (some []))).alloc (.loop (rec .ready))=W1:=⟨_,rfl⟩
  rw [hW1] at hW0
  have hle1:Le w W1:=by rw [← hW1];exact ⟨rfl,rfl,rfl,by simp;omega⟩
  have henv:∀ s,V Gc (hp W1) none (z81 env s) (a.tmps.getD s undef):=fun s=>z109 hSold (fun o t e=>by rw [hιc];exact e) (hR.env s)
  have hWc:Wf Gc (z36 (AObj.cells 1 [[z319 L]]::rest x0)) W1:=by rw [hx0];exact hW0
  -- one round
  have hy : ∀ k x G1 w1, (hk : k < L.length) → ok (k + 1) x → SubM M Gc.split G1 → Le W1 w1 → Wf G1 (z36 (AObj.cells 1 [[z319 L]] :: rest x)) w1 → ∃ f tmps assign body,
      (Instr.yield l #[.int .i64 k,.int .i64 L[k]]).run P w1=.ok (.round l f tmps assign body) w1 ∧
      RoundIn Fence.wide 0 P l f tmps assign body w1 (fun e w'=>e=.returned (.bool true)∧∃ G' y,ok k y∧SubM M G1 G'∧Le w1 w'∧Wf G' (z36 (AObj.cells 1 [[z319 L]]::rest y)) w'):=by
    intro k x G1 w1 hk hok hs hle hW
    have hU1:G1.U l=some (.loop (rec .ready)):=by rw [hs.1.U];simp [Ghost.split,hUl]
    have hrun:=run_yield (P:=P) (args:=#[.int .i64 k,.int .i64 L[k]]) (hW.hU l _ hU1) (by rw [hrec];rfl)
    rw [hrec] at hrun
    refine ⟨_,_,_,_,hrun,roundIn_of_wpIn trivial ?_⟩
    have hall:=SubM.all_ι hWc.split (by exact Nat.le_of_eq (hlen _)) hs
    have he1:∀ s,V G1 (hp w1) none (z81 env s) (a.tmps.getD s undef):=fun s=>z109 hs.1.S hall (z399 (h':=hp W1) (fun _ _ _ _ e=>z374 e) (fun _ _ e=>e) (henv s))
    have he2:=z624 (p:=p0) (x:=.int k) (v:=.int .i64 k) hp0 hR.size he1 (by simp [V])
    have he3:=z624 (p:=p1) (x:=.int L[k]) (v:=.int .i64 L[k]) (n:=n) hp1 (by rw [Array.size_setIfInBounds];exact hR.size) he2 (by simp [V])
    have hR1:Rel G1 (mkSt n ((p1,.int L[k])::(p0,.int k)::env) (AObj.cells 1 [[z319 L]]::rest x)) { tmps:=(a.tmps.setIfInBounds p0 (.int .i64 k)).setIfInBounds p1 (.int .i64 L[k]),defers:=[] } w1 :=
      ⟨hW,he3,by show ((a.tmps.setIfInBounds p0 _).setIfInBounds p1 _).size=n;rw [Array.size_setIfInBounds,Array.size_setIfInBounds];exact hR.size,Marks.nil _⟩
    have hz:∀ (t:Array Value) (v0 v1:Value),((#[p0,p1]:Array Tmp).zip #[v0,v1]).foldl (fun tmps (t,a)=>tmps.setIfInBounds t a) t=(t.setIfInBounds p0 v0).setIfInBounds p1 v1:=by intro t v0 v1;simp
    dsimp only
    rw [hz]
    show Code.wpIn (wideR (some l)) 0 P assign _ _ w1
    refine wpIn_mono (hround k x hk hok G1 _ w1 hR1 (some l) (.inr hs1)) ?_
    rintro ex a2 w2 ⟨G2,st2,h1,h2,h3,h4⟩
    cases ex with
    | normal =>
      have hU2:G2.U l=some (.loop (rec .ready)):=by rw [h1.1.U];exact hU1
      refine ⟨_,run_beginRound (P:=P) (h4.wf.hU l _ hU2) (by rw [hrec]),?_⟩
      have hbz:({ rec .ready with state:=.busy } : Loop)=rec .busy:=by rw [hrec]
      rw [hbz]
      have hR2:=h4.turn (y:=.loop (rec .busy)) hU2
      refine wpIn_mono (h3 _ a2 _ hR2 (some l) (.inr hs2)) ?_
      rintro ex a3 w3 ⟨G3,st3,j1,j2,j3,j4⟩
      cases ex with
      | normal =>
        obtain ⟨y,hoky,hrch⟩:=j3
        obtain ⟨G4,k1,k2⟩:=hrch G3 a3 w3 j4
        have hU4:G4.U l=some (.loop (rec .busy)):=by rw [k1.1.U,j1.1.U];exact z28 _ _ _
        have hrz:({ rec .busy with state:=if (none:Option Code).isNone then .ready else .done,pending:=none } : Loop)=rec .ready:=by rw [hrec];rfl
        refine ⟨_,_,run_endRound (P:=P) none (k2.wf.hU l _ hU4),?_⟩
        rw [hrz]
        have hR5:=k2.turn (y:=.loop (rec .ready)) hU4
        have hUe:(G4.turn l (some (.loop (rec .ready)))).U=G1.U:=by
          show upd G4.U l _=G1.U
          rw [k1.1.U,j1.1.U]
          show upd (upd G2.U l _) l _=G1.U
          rw [upd_upd,h1.1.U]
          funext b
          by_cases hb:b=l
          · subst hb;rw [z28,hU1]
          · rw [z43 _ _ hb]
        refine ⟨rfl,G4.turn l (some (.loop (rec .ready))),y,hoky,⟨⟨fun b z e=>k1.1.S _ _ (j1.1.S _ _ (h1.1.S _ _ e)),hUe⟩,fun o t ho e=>k1.2 o t ho (j1.2 o t ho (h1.2 o t ho e))⟩,?_,hR5.wf⟩
        exact ((h2.trans (Le.putObj _ _ _)).trans j2).trans (Le.putObj _ _ _)
      | _=>exact j3.elim
    | _=>exact h3.elim
  have hcall:=hI M rest ok L l Gc W1 lb x0 hL hlen hy h0 hWc (by simpa using hlb) (z1090 hSold (fun o t e=>by rw [hιc];exact e) hlbv)
  refine ⟨l,[{ target:=.collected w.heap.size,args:=#[] }],W1,{ target:=.fn (.func fb) lb,args:=#[.func (.yield l) #[] #[]] },W1,fb,#[.func (.yield l) #[] #[]]++lb,W1,?_,?_,fun _ _=>trivial,?_,(fun h=>by cases h),?_⟩
  · rw [← hW1,hrec,hl];exact run_enterLoop_outer _ _ _ _ _
  · simp only [resolve,hgv]
    simp [go_sem]
  · have:=z404 (args:=#[.func (.yield l) #[] #[]]++lb) (w:=W1) hfb
    simpa [invoke,go_sem] using this
  refine hcall.mono ?_
  rintro e w3 ⟨v,G5,y,rfl,hoky,h1,h2,h3⟩
  have hU5:G5.U l=some (.loop (rec .ready)):=by rw [h1.1.U];exact hUl
  have hp0' : (rec .ready).pending=none:=by rw [hrec]
  refine ⟨none,w3.putObj l (.loop { rec .ready with state:=.exhausted }),(by have:=run_endLoop (P:=P) (h3.hU l _ hU5) (by rw [hrec];simp);rw [this];congr 1),?_⟩
  show PostA m G w Q .normal _ _
  have hlw:∀ b x,w.heap[b]?=some x→b≠l:=fun b x e=>by have:=(Array.getElem?_eq_some_iff.1 e).1;omega
  have hWf:Wf { G5 with U:=G.U } (z36 (AObj.cells 1 [[z319 L]]::rest y)) (w3.putObj l (.loop { rec .ready with state:=.exhausted })):=by
    have hUo:∀ b x,G.U b=some x→G5.U b=some x:=fun b x e=>by
      rw [h1.1.U,hGc]
      show upd G.U (w.heap.size+1) _ b=_
      rw [← hl,z43 _ _ (hlw b x (hR.wf.hU b x e))];exact e
    have hSl:G5.S l=none:=h3.su l _ hU5
    refine ⟨fun b z e=>?_,fun b z e=>?_,fun b z e=>h3.su b z (hUo b z e),fun b p e=>?_,fun o'=>?_⟩
    · have hb:b≠l:=by rintro rfl;rw [show G5.S b=some z from e] at hSl;cases hSl
      rw [World.putObj_heap_other hb];exact h3.hS b z e
    · rw [World.putObj_heap_other (hlw b z (hR.wf.hU b z e))];exact h3.hU b z (hUo b z e)
    · obtain ⟨i1,i2,i3⟩:=h3.sk b p e
      refine ⟨i1,?_,by simpa [World.putObj] using i3⟩
      show G.U b=none
      cases hu:G.U b with
      | none=>rfl
      | some z=>rw [hUo b z hu] at i2;cases i2
    · refine ObjRel.moveC (G:=G5) (G':={ G5 with U:=G.U }) (h:=hp w3) (fun _ _ _ _ e=>e) rfl (fun b p e=>⟨e,?_⟩) (h3.objs o')
      have hb:b≠l:=by rintro rfl;have:=(h3.sk b p e).2.1;rw [hU5] at this;cases this
      exact World.putObj_heap_other hb
  have hall:=SubM.all_ι hWc (by exact Nat.le_of_eq (hlen _)) h1
  refine ⟨{ G5 with U:=G.U },mkSt n env (AObj.cells 1 [[z319 L]]::rest y),⟨⟨fun b z e=>h1.1.S _ _ (hSold b z e),rfl⟩,fun o' t ho' e=>h1.2 o' t (by omega) (by rw [hιc];exact e)⟩,(hle1.trans h2).trans (Le.putObj _ _ _),hq y hoky,hWf,fun s=>?_,hR.size,?_⟩
  · exact z109 (G:=Gc) (G':={ G5 with U:=G.U }) h1.1.S hall (henv s)
  · obtain ⟨Ds,d1,d2,d3⟩:=hR.defers
    refine ⟨w.heap.size::Ds,by show _::a.defers=_;rw [d1];rfl,List.nodup_cons.2 ⟨fun hD=>?_,d2⟩,fun D hD=>?_⟩
    · have:=(Array.getElem?_eq_some_iff.1 (hR.wf.hS _ _ (d3 _ hD))).1
      omega
    · rcases List.mem_cons.1 hD with rfl|hD
      · exact h1.1.S _ _ hSD
      · exact h1.1.S _ _ (hSold _ _ (d3 D hD))
theorem AWP.at_ {m:Nat} {c:Code} {Q:Exit→St→Prop} {st:St} (h:AWP P m c Q st) {G:Ghost} {a:Act} {w:World} (hR:Rel G st a w):c.wpIn Fence.wide 0 P (PostA m G w Q) a w:=h G a w hR none (.inl rfl)
theorem z1053 {G:Ghost} {h:Nat→Option Obj} {args:List AC} {vs:Array Value} (hs:vs.size=args.length) (hv:VL G h none args vs 0) (n:Nat) (s:Nat):V G h none (z81 (z155 0 args) s) ((vs++Array.replicate (n - vs.size) undef).getD s undef):=by
  rw [z316]
  by_cases hsl:s < args.length
  · have hx:args[s]?=some args[s]:=List.getElem?_eq_getElem hsl
    obtain ⟨v,hv1,hv2⟩:=z58.1 hv s _ hx
    rw [Nat.zero_add] at hv1
    rw [z55 hx]
    have:(vs++Array.replicate (n - vs.size) undef).getD s undef=v:=by
      rw [Array.getD_eq_getD_getElem?,Array.getElem?_append,if_pos (by omega),hv1];rfl
    rw [this];exact hv2
  · rw [z61 (by omega)];simp [V]
end Go.Gl

namespace Go.Gl
def z417 (a:Int) (s:List Int×List Int) (y:Int):List Int×List Int:=if s.2.getD y.toNat 0=-2 then (s.1++[y],s.2.set y.toNat a) else s
def back (P:List Int):Nat→Int→List Int
  | 0,_=>[]
  | f+1,a=>if 0≤a then a::back P f (P.getD a.toNat 0) else []
def swp (l:List Int) (i j:Nat):List Int:=(l.set i (l.getD j 0)).set j (l.getD i 0)
def revG:Nat→Nat→Nat→List Int→List Int
  | 0,_,_,l=>l
  | f+1,i,j,l=>if i < j then revG f (i+1) (j - 1) (swp l i j) else l
theorem revG_len:∀ (f i j:Nat) (l:List Int),(revG f i j l).length=l.length:=by
  intro f
  induction f with
  | zero=>intro i j l;rfl
  | succ f ih=>intro i j l;rw [revG];split;rw [ih];simp [swp];rfl
def rvs (l:List Int):List Int:=revG l.length 0 (l.length - 1) l
theorem z376 (l:List Int):(rvs l).length=l.length:=revG_len _ _ _ _
structure SI (rows:List (List Int)) (c:Int) (n:Nat) (Q P:List Int):Prop where
  nd:Q.Nodup
  inN:InN n Q
  len:P.length=n
  un:∀ v:Int,0≤v→v < n→(P.getD v.toNat 0=-2↔v ∉ Q)
  pr:∀ k,k < Q.length→P.getD (Q.getD k 0).toNat 0=-1∨∃ j,j < k∧P.getD (Q.getD k 0).toNat 0=Q.getD j 0
  rp:∀ x∈Q,RP rows [c] x
  st:c∈Q
theorem SI.le {rows:List (List Int)} {c:Int} {n:Nat} {Q P:List Int} (h:SI rows c n Q P):Q.length≤n:=z135 n Q h.nd h.inN
theorem z353 {Q:List Int} {k:Nat} (h:k < Q.length):Q.getD k 0∈Q:=by rw [z19 h];exact List.getElem_mem _
theorem z237 {Q:List Int} {y:Int} {k:Nat} (h:k < Q.length):(Q++[y]).getD k 0=Q.getD k 0:=by
  rw [z19 (by simp;omega),z19 h,List.getElem_append_left h]
theorem z495 {P:List Int} {i j:Nat} {a:Int} (h:i≠j):(P.set i a).getD j 0=P.getD j 0:=by
  simp only [List.getD_eq_getElem?_getD];rw [List.getElem?_set_ne h]
theorem z352 {P:List Int} {i:Nat} {a:Int} (h:i < P.length):(P.set i a).getD i 0=a:=by
  rw [z19 (by simpa using h)];simp
theorem SI.one {rows : List (List Int)} {c : Int} {n : Nat} {Q P : List Int} (h : SI rows c n Q P) {i : Nat} (hi : i < Q.length) {y : Int} (hy : y ∈ rows.getD (Q.getD i 0).toNat []) (h0 : 0 ≤ y) (h1 : y < n) :
    SI rows c n (z417 (Q.getD i 0) (Q,P) y).1 (z417 (Q.getD i 0) (Q,P) y).2∧(∃ t,(z417 (Q.getD i 0) (Q,P) y).1=Q++t)∧y∈(z417 (Q.getD i 0) (Q,P) y).1:=by
  unfold z417
  have ha:=h.inN _ (z353 hi)
  by_cases hu:P.getD y.toNat 0=-2
  · rw [if_pos hu]
    have hn:=(h.un y h0 h1).1 hu
    have hyl:y.toNat < P.length:=by rw [h.len];omega
    have hne:∀ v∈Q,y.toNat≠v.toNat:=fun v hv e=>by
      have:=h.inN v hv
      have:y=v:=by omega
      rw [this] at hn;exact hn hv
    refine ⟨⟨?_,?_,by simp [h.len],?_,?_,?_,List.mem_append_left _ h.st⟩,⟨_,rfl⟩,by simp⟩
    · rw [List.nodup_append]
      exact ⟨h.nd,by simp,fun a ha b hb=>by rintro rfl;rw [List.mem_singleton.1 hb] at ha;exact hn ha⟩
    · intro x hx
      rcases List.mem_append.1 hx with hx|hx
      · exact h.inN x hx
      · rw [List.mem_singleton.1 hx];exact ⟨h0,h1⟩
    · intro v v0 v1
      by_cases hv:v=y
      · subst hv
        show (P.set v.toNat _).getD v.toNat 0=-2↔_
        rw [z352 hyl]
        exact ⟨fun e=>by omega,fun hh=>absurd (by simp) hh⟩
      · show (P.set y.toNat _).getD v.toNat 0=-2↔_
        rw [z495 (by omega),h.un v v0 v1]
        simp [hv]
    · intro k hk
      show (P.set y.toNat _).getD ((Q++[y]).getD k 0).toNat 0=-1∨∃ j,j < k∧(P.set y.toNat _).getD ((Q++[y]).getD k 0).toNat 0=(Q++[y]).getD j 0
      simp only [List.length_append,List.length_singleton] at hk
      rcases Nat.lt_or_ge k Q.length with h2|h2
      · rw [z237 h2,z495 (hne _ (z353 h2))]
        rcases h.pr k h2 with h3|⟨j,h3,h4⟩
        · exact .inl h3
        · exact .inr ⟨j,h3,by rw [h4,z237 (by omega)]⟩
      · have e:k=Q.length:=by omega
        subst e
        have e2:(Q++[y]).getD Q.length 0=y:=by rw [z19 (by simp)];simp
        rw [e2,z352 hyl]
        exact .inr ⟨i,hi,by rw [z237 hi]⟩
    · intro x hx
      rcases List.mem_append.1 hx with hx|hx
      · exact h.rp x hx
      · rw [List.mem_singleton.1 hx];exact .step (h.rp _ (z353 hi)) hy
  · rw [if_neg hu]
    refine ⟨h,⟨[],by simp⟩,?_⟩
    have:=h.un y h0 h1
    exact Classical.byContradiction fun hc=>hu (this.2 hc)
theorem SI.fold {rows : List (List Int)} {c : Int} {n : Nat} {i : Nat} {a : Int} : ∀ (r : List Int) (Q P : List Int), SI rows c n Q P → i < Q.length → Q.getD i 0 = a → (∀ y ∈ r, y ∈ rows.getD a.toNat [] ∧ 0 ≤ y ∧ y < n) →
    SI rows c n (r.foldl (z417 a) (Q,P)).1 (r.foldl (z417 a) (Q,P)).2∧(∃ t,(r.foldl (z417 a) (Q,P)).1=Q++t)∧∀ y∈r,y∈(r.foldl (z417 a) (Q,P)).1:=by
  intro r
  induction r with
  | nil=>intro Q P h _ _ _;exact ⟨h,⟨[],by simp⟩,fun y hy=>by cases hy⟩
  | cons y r ih =>
    intro Q P h hi ha hr
    have hy:=hr y (by simp)
    obtain ⟨h1,⟨t,ht⟩,h3⟩:=h.one hi (by rw [ha];exact hy.1) hy.2.1 hy.2.2
    rw [ha] at h1 ht h3
    rw [List.foldl_cons]
    generalize z417 a (Q,P) y=s at *
    obtain ⟨Q1,P1⟩:=s
    simp only at h1 ht h3
    subst ht
    obtain ⟨k1,⟨t2,ht2⟩,k3⟩:=ih (Q++t) P1 h1 (by simp;omega) (by rw [← ha,z19 (by simp;omega),z19 hi,List.getElem_append_left hi]) (fun z hz=>hr z (List.mem_cons_of_mem _ hz))
    refine ⟨k1,⟨t++t2,by rw [ht2,List.append_assoc]⟩,fun z hz=>?_⟩
    rcases List.mem_cons.1 hz with rfl|hz
    · rw [ht2];exact List.mem_append_left _ h3
    · exact k3 z hz
structure SJ (rows:List (List Int)) (b:List Bool) (c:Int) (n:Nat) (Q P:List Int) (i:Nat):Prop where
  si:SI rows c n Q P
  le:i≤Q.length
  no:∀ k,k < i→gB b (Q.getD k 0).toNat=false∧∀ y∈rows.getD (Q.getD k 0).toNat [],y∈Q
theorem SJ.step {rows : List (List Int)} {b : List Bool} {c : Int} {n : Nat} {Q P : List Int} {i : Nat} (h : SJ rows b c n Q P i) (hr : ∀ r ∈ rows, InN n r) (hi : i < Q.length) (hb : gB b (Q.getD i 0).toNat = false) :
    SJ rows b c n ((rows.getD (Q.getD i 0).toNat []).foldl (z417 (Q.getD i 0)) (Q,P)).1 ((rows.getD (Q.getD i 0).toNat []).foldl (z417 (Q.getD i 0)) (Q,P)).2 (i+1):=by
  obtain ⟨k1,⟨t,ht⟩,k3⟩:=h.si.fold (i:=i) (a:=Q.getD i 0) (rows.getD (Q.getD i 0).toNat []) Q P hi rfl (fun y hy=>⟨hy,z178 hr _ y hy⟩)
  have e:∀ k,k < Q.length→(Q++t).getD k 0=Q.getD k 0:=fun k hk=>by rw [z19 (by simp;omega),z19 hk,List.getElem_append_left hk]
  refine ⟨k1,by rw [ht];simp;omega,fun k hk=>?_⟩
  rw [ht] at k3 ⊢
  rw [e k (by omega)]
  rcases Nat.lt_or_ge k i with h1|h1
  · exact ⟨(h.no k h1).1,fun y hy=>List.mem_append_left _ ((h.no k h1).2 y hy)⟩
  · obtain rfl:k=i:=by omega
    exact ⟨hb,k3⟩
theorem SJ.start {rows:List (List Int)} {b:List Bool} {c:Int} {n:Nat} (h0:0≤c) (h1:c < n):SJ rows b c n [c] ((List.replicate n (-2)).set c.toNat (-1)) 0:=by
  refine ⟨⟨by simp,fun x hx=>by rw [List.mem_singleton.1 hx];exact ⟨h0,h1⟩,by simp,fun v v0 v1=>?_,fun k hk=>?_,fun x hx=>.base hx,by simp⟩,by simp,fun k hk=>by omega⟩
  · by_cases e:v=c
    · subst e
      rw [z352 (by simp;omega)]
      simp
    · rw [z495 (by omega),z19 (by simp;omega)]
      simp [e]
  · obtain rfl:k=0:=by simpa using hk
    left
    show ((List.replicate n (-2:Int)).set c.toNat (-1)).getD c.toNat 0=-1
    rw [z352 (by simp;omega)]
theorem SJ.closed {rows:List (List Int)} {b:List Bool} {c:Int} {n:Nat} {Q P:List Int} {i:Nat} (h:SJ rows b c n Q P i) (hi:Q.length≤i) {x:Int} (hx:RP rows [c] x):x∈Q∧gB b x.toNat=false:=by
  have key:x∈Q:=by
    induction hx with
    | base hx=>rw [List.mem_singleton.1 hx];exact h.si.st
    | step _ hy ih =>
      obtain ⟨k,hk,e⟩:=List.mem_iff_getElem.1 ih
      have:=(h.no k (by omega)).2
      rw [z19 hk,e] at this
      exact this _ hy
  refine ⟨key,?_⟩
  obtain ⟨k,hk,e⟩:=List.mem_iff_getElem.1 key
  have:=(h.no k (by omega)).1
  rwa [z19 hk,e] at this
end Go.Gl

namespace Go.Gl
def Cyc (rows:List (List Int)) (x:Int):Prop:=∃ y,y∈rows.getD x.toNat []∧RP rows [y] x
def PathP (rows:List (List Int)) (p:List Int):Prop:=∀ i,i+1 < p.length→p.getD (i+1) 0∈rows.getD (p.getD i 0).toNat []
theorem RP.trans {rows:List (List Int)} {ini:List Int} {x y z:Int} (h:RP rows ini x) (hy:y∈rows.getD x.toNat []) (k:RP rows [y] z):RP rows ini z:=by
  induction k with
  | base hb=>rw [List.mem_singleton.1 hb];exact .step h hy
  | step _ hs ih=>exact .step ih hs
theorem RP.trans0 {rows:List (List Int)} {ini:List Int} {x z:Int} (h:RP rows ini x) (k:RP rows [x] z):RP rows ini z:=by
  induction k with
  | base hb=>rw [List.mem_singleton.1 hb];exact h
  | step _ hs ih=>exact .step ih hs
theorem RP.path {rows:List (List Int)} {ini:List Int} {x:Int} (h:RP rows ini x):∃ p:List Int,0 < p.length∧p.getD 0 0∈ini∧p.getD (p.length - 1) 0=x∧PathP rows p:=by
  induction h with
  | base hb=>exact ⟨[_],by simp,hb,rfl,fun i hi=>by simp at hi⟩
  | step _ hy ih =>
    rename_i u y _
    obtain ⟨p,h1,h2,h3,h4⟩:=ih
    refine ⟨p++[y],by simp,by rwa [z237 h1],by rw [z19 (by simp)];simp,fun i hi=>?_⟩
    simp only [List.length_append,List.length_singleton] at hi
    rcases Nat.lt_or_ge (i+1) p.length with h|h
    · rw [z237 h,z237 (by omega)];exact h4 i h
    · have e:i+1=p.length:=by omega
      have e1:(p++[y]).getD i 0=u:=by rw [z237 (by omega),show i=p.length - 1 by omega,h3]
      have e2:(p++[y]).getD (i+1) 0=y:=by rw [e,z19 (by simp)];simp
      rw [e1,e2];exact hy
theorem PathP.rp {rows:List (List Int)} {p:List Int} (h:PathP rows p) {ini:List Int} (h0:p.getD 0 0∈ini):∀ i,i < p.length→RP rows ini (p.getD i 0):=by
  intro i
  induction i with
  | zero=>exact fun _=>.base h0
  | succ i ih=>exact fun hi=>.step (ih (by omega)) (h i hi)
end Go.Gl

namespace Go.Gl
def z194 (k:Int):Int:=if k=1∨k=2 then 0 else if k=3∨k=6∨k=9∨k=10 then 1 else if k=4∨k=5∨k=7∨k=8 then 2 else -1
def z480 (k:Int):Int:=if k=2 then 2 else 0
mutual
def Tree.walkF (t:Tree) (d n:Int):Int×Bool:=match t with
  | .mk k v l=>if d≤6∧n+1≤12∧0≤v∧v≤z480 k∧(l.length:Int)=z194 k then Tree.walkFs l (d+1) (n+1) else (n+1,false)
def Tree.walkFs (l:List Tree) (d n:Int):Int×Bool:=match l with
  | []=>(n,true)
  | t::r=>if (Tree.walkF t d n).2 then Tree.walkFs r d (Tree.walkF t d n).1 else ((Tree.walkF t d n).1,false)
end
mutual
def Tree.shapeF (t:Tree) (d:Int):Bool:=match t with
  | .mk k v l=>decide (1≤d∧(l.length:Int)=z194 k∧0≤v∧v≤z480 k) && Tree.shapeFs l (d - 1)
def Tree.shapeFs (l:List Tree) (d:Int):Bool:=match l with
  | []=>true
  | t::r=>Tree.shapeF t d && Tree.shapeFs r d
end
theorem Tree.walkF_spec : (∀ (t : Tree) d n, 0 ≤ n → n ≤ 12 → ((t.walkF d n).2 = true ↔ t.shapeF (7 - d) = true ∧ n + t.count (7 - d) ≤ 12) ∧ ((t.walkF d n).2 = true → (t.walkF d n).1 = n + t.count (7 - d)) ∧ n ≤ (t.walkF d n).1 ∧ (t.walkF d n).1 ≤ 13) ∧
    ∀ (l:List Tree) d n,0≤n→n≤12→((Tree.walkFs l d n).2=true↔Tree.shapeFs l (7 - d)=true∧n+Tree.counts l (7 - d)≤12)∧((Tree.walkFs l d n).2=true→(Tree.walkFs l d n).1=n+Tree.counts l (7 - d))∧n≤(Tree.walkFs l d n).1∧(Tree.walkFs l d n).1≤13:=by
  refine Tree.rec2 ?_ ?_ ?_
  · intro k v l ih d n h0 h1
    simp only [Tree.walkF,Tree.shapeF,Tree.count,Bool.and_eq_true,decide_eq_true_eq]
    have hc:=Tree.count_pos.2 l (7 - d - 1)
    by_cases hb:d≤6∧n+1≤12∧0≤v∧v≤z480 k∧(l.length:Int)=z194 k
    · rw [if_pos hb,if_pos (by omega)]
      have:=ih (d+1) (n+1) (by omega) hb.2.1
      rw [show 7 - (d+1)=7 - d - 1 by omega] at this
      obtain ⟨a1,a2,a3,a4⟩:=this
      refine ⟨?_,?_,by omega,by omega⟩
      · rw [a1]
        constructor
        · rintro ⟨b1,b2⟩;exact ⟨⟨⟨by omega,hb.2.2.2.2,hb.2.2.1,hb.2.2.2.1⟩,b1⟩,by omega⟩
        · rintro ⟨b1,b2⟩;exact ⟨b1.2,by omega⟩
      · intro h;rw [a2 h];omega
    · rw [if_neg hb]
      refine ⟨⟨by simp,?_⟩,by simp,by simp only;omega,by simp only;omega⟩
      rintro ⟨⟨⟨b1,b2,b3,b4⟩,b5⟩,b6⟩
      rw [if_pos (by omega)] at b6
      exact absurd ⟨by omega,by omega,b3,b4,b2⟩ hb
  · intro d n h0 h1
    simp [Tree.walkFs,Tree.shapeFs,Tree.counts];omega
  · intro t r iht ihr d n h0 h1
    simp only [Tree.walkFs,Tree.shapeFs,Tree.counts,Bool.and_eq_true]
    obtain ⟨a1,a2,a3,a4⟩:=iht d n h0 h1
    have hc:=Tree.count_pos.2 r (7 - d)
    by_cases hb:(t.walkF d n).2=true
    · rw [if_pos hb]
      have e:=a2 hb
      obtain ⟨b1,b2,b3,b4⟩:=ihr d (t.walkF d n).1 (by omega) (by rw [e];exact (a1.1 hb).2)
      refine ⟨?_,fun h=>by rw [b2 h,e];omega,by omega,b4⟩
      rw [b1,e]
      exact ⟨fun h=>⟨⟨(a1.1 hb).1,h.1⟩,by omega⟩,fun h=>⟨h.1.2,by omega⟩⟩
    · rw [if_neg hb]
      refine ⟨⟨by simp,fun h=>absurd (a1.2 ⟨h.1.1,by omega⟩) hb⟩,by simp,a3,a4⟩
def Tree.fmB (t:Tree):Bool:=(t.walkF 1 0).2
theorem Tree.fmB_eq (t:Tree):t.fmB=(t.shapeF 6 && decide (t.count 6≤12)):=by
  have h:=(Tree.walkF_spec.1 t 1 0 (by omega) (by omega)).1
  rw [show (7:Int) - 1=6 by omega,Int.zero_add] at h
  rw [Bool.eq_iff_iff,Bool.and_eq_true,decide_eq_true_eq]
  exact h
end Go.Gl

namespace Go.Gl
theorem Tree.shapeFs_iff (l:List Tree) (d:Int):Tree.shapeFs l d=true↔∀ t∈l,t.shapeF d=true:=by
  induction l with
  | nil=>simp [Tree.shapeFs]
  | cons t l ih=>simp [Tree.shapeFs,ih]
theorem Tree.shapeF_iff (t:Tree) (d:Int):t.shapeF d=true↔(1≤d∧(t.kids.length:Int)=z194 t.kind∧0≤t.val∧t.val≤z480 t.kind)∧∀ u∈t.kids,u.shapeF (d - 1)=true:=by
  cases t with
  | mk k v l=>simp only [Tree.shapeF,Bool.and_eq_true,decide_eq_true_eq,Tree.shapeFs_iff,Tree.kids,Tree.kind,Tree.val]
def Tree.goodF (t:Tree):Prop:=∃ d,t.shapeF d=true
theorem Tree.goodF_of {t:Tree} (h:t.fmB=true):t.goodF:=by
  rw [Tree.fmB_eq,Bool.and_eq_true] at h
  exact ⟨6,h.1⟩
theorem Tree.goodF_iff {t:Tree} (h:t.goodF):(t.kids.length:Int)=z194 t.kind∧0≤t.val∧t.val≤z480 t.kind∧∀ u∈t.kids,u.goodF:=by
  obtain ⟨d,h⟩:=h
  rw [Tree.shapeF_iff] at h
  exact ⟨h.1.2.1,h.1.2.2.1,h.1.2.2.2,fun u hu=>⟨d - 1,h.2 u hu⟩⟩
inductive FormF:Tree→Prop
  | tr:FormF (.mk 1 0 [])
  | at (v:Int) (h0:0≤v) (h1:v≤2):FormF (.mk 2 v [])
  | un (k:Int) (a:Tree) (hk:k=3∨k=6∨k=9∨k=10) (ha:a.goodF):FormF (.mk k 0 [a])
  | bin (k:Int) (a b:Tree) (hk:k=4∨k=5∨k=7∨k=8) (ha:a.goodF) (hb:b.goodF):FormF (.mk k 0 [a,b])
theorem Tree.formF {t:Tree} (h:t.goodF):FormF t:=by
  obtain ⟨h1,h2,h3,h4⟩:=Tree.goodF_iff h
  cases t with
  | mk k v l =>
    simp only [Tree.kids,Tree.kind,Tree.val] at h1 h2 h3 h4
    unfold z480 at h3
    unfold z194 at h1
    by_cases e1:k=1
    · subst e1
      simp at h1 h3
      obtain rfl:v=0:=by omega
      subst h1;exact .tr
    by_cases e2:k=2
    · subst e2
      simp at h1 h3
      subst h1;exact .at v h2 h3
    rw [if_neg e2] at h3
    obtain rfl:v=0:=by omega
    by_cases e3:k=3∨k=6∨k=9∨k=10
    · rw [if_neg (by omega),if_pos e3] at h1
      match l,h1 with
      | [a],_=>exact .un k a e3 (h4 a (by simp))
      | [],h1=>simp at h1
      | a::b::r,h1=>simp at h1;omega
    by_cases e4:k=4∨k=5∨k=7∨k=8
    · rw [if_neg (by omega),if_neg e3,if_pos e4] at h1
      match l,h1 with
      | [a,b],_=>exact .bin k a b e4 (h4 a (by simp)) (h4 b (by simp))
      | [],h1=>simp at h1
      | [a],h1=>simp at h1
      | a::b::c::r,h1=>simp at h1;omega
    · rw [if_neg (by omega),if_neg e3,if_neg e4] at h1
      omega
def z1054 (k:Int):Int:=if k=4 then 5 else if k=5 then 4 else if k=7 then 8 else 7
def dftT:Tree:=.mk 0 0 []
def truT:Tree:=.mk 1 0 []
def notT (t:Tree):Tree:=.mk 3 0 [t]
def z778 (k v:Int) (neg:Bool) (ks:List Tree):Tree :=
  if k=1∨k=2 then (if neg then notT (.mk k v []) else .mk k v [])
  else if k=6 then .mk 6 0 [ks.getD 0 dftT]
  else if k=9∨k=10 then (if (decide (k=9) != neg)=true then .mk 7 0 [truT,ks.getD 0 dftT] else .mk 8 0 [notT truT,ks.getD 0 dftT])
  else .mk (if neg then z1054 k else k) 0 [ks.getD 0 dftT,ks.getD 1 dftT]
mutual
def Tree.nrm (neg:Bool) (t:Tree):Tree:=match t with
  | .mk k v l=>if k=3 then (Tree.nrms (!neg) l).getD 0 dftT else z778 k v neg (Tree.nrms neg l)
def Tree.nrms (neg:Bool) (l:List Tree):List Tree:=match l with
  | []=>[]
  | t::r=>Tree.nrm neg t::Tree.nrms neg r
end
theorem z1002 (neg:Bool):(Tree.mk 1 0 []).nrm neg=if neg then notT (.mk 1 0 []) else .mk 1 0 []:=by simp [Tree.nrm,Tree.nrms,z778]
theorem z1004 (neg:Bool) (v:Int):(Tree.mk 2 v []).nrm neg=if neg then notT (.mk 2 v []) else .mk 2 v []:=by simp [Tree.nrm,Tree.nrms,z778]
theorem z776 (neg:Bool) (v:Int) (a:Tree):(Tree.mk 3 v [a]).nrm neg=a.nrm (!neg):=by simp [Tree.nrm,Tree.nrms]
theorem z599 (neg:Bool) (v:Int) (a:Tree):(Tree.mk 6 v [a]).nrm neg=.mk 6 0 [a.nrm neg]:=by simp [Tree.nrm,Tree.nrms,z778]
theorem z1003 (neg:Bool) (v:Int) (a:Tree):(Tree.mk 9 v [a]).nrm neg=if neg then .mk 8 0 [notT truT,a.nrm neg] else .mk 7 0 [truT,a.nrm neg]:=by cases neg<;>simp [Tree.nrm,Tree.nrms,z778]
theorem z1005 (neg:Bool) (v:Int) (a:Tree):(Tree.mk 10 v [a]).nrm neg=if neg then .mk 7 0 [truT,a.nrm neg] else .mk 8 0 [notT truT,a.nrm neg]:=by cases neg<;>simp [Tree.nrm,Tree.nrms,z778]
theorem z777 (neg:Bool) (k v:Int) (a b:Tree) (hk:k=4∨k=5∨k=7∨k=8):(Tree.mk k v [a,b]).nrm neg=.mk (if neg then z1054 k else k) 0 [a.nrm neg,b.nrm neg]:=by
  rcases hk with rfl|rfl|rfl|rfl<;>simp [Tree.nrm,Tree.nrms,z778]
theorem z454 (k v:Int) (a:Tree):(Tree.mk k v [a]).sz=1+a.sz:=by simp [Tree.sz,Tree.szs]
theorem z401 (k v:Int) (a b:Tree):(Tree.mk k v [a,b]).sz=2+(a.sz+b.sz):=by simp [Tree.sz,Tree.szs];omega
theorem z825 (k v:Int):(Tree.mk k v []).sz=0:=by simp [Tree.sz,Tree.szs]
theorem Tree.nrm_sz (t:Tree):t.goodF→∀ neg,(t.nrm neg).sz≤4 * t.sz+3:=by
  induction t using Tree.ind with|h t ih=>?_
  intro hg neg
  cases Tree.formF hg with
  | tr=>rw [z1002];cases neg<;>simp [notT,z454,z825]
  | «at» v _ _=>rw [z1004];cases neg<;>simp [notT,z454,z825]
  | un k a hk ha =>
    have h1:=ih a (by simp [Tree.kids]) ha
    rw [z454]
    rcases hk with rfl|rfl|rfl|rfl
    · rw [z776];have:=h1 (!neg);omega
    · rw [z599,z454];have:=h1 neg;omega
    · rw [z1003];have:=h1 neg;cases neg<;>simp [z401,notT,truT,z454,z825]<;>omega
    · rw [z1005];have:=h1 neg;cases neg<;>simp [z401,notT,truT,z454,z825]<;>omega
  | bin k a b hk ha hb =>
    have h1:=ih a (by simp [Tree.kids]) ha neg
    have h2:=ih b (by simp [Tree.kids]) hb neg
    rw [z777 _ _ _ _ _ hk,z401,z401];omega
end Go.Gl

namespace Go.Gl
noncomputable def addT (o:List Tree) (t:Tree):List Tree:=if t∈o then o else o++[t]
mutual
noncomputable def Tree.subs (t:Tree) (o:List Tree):List Tree:=match t with
  | .mk k v l=>addT (Tree.subss l o) (.mk k v l)
noncomputable def Tree.subss (l:List Tree) (o:List Tree):List Tree:=match l with
  | []=>o
  | t::r=>Tree.subss r (Tree.subs t o)
end
theorem Tree.subs_eq (t:Tree) (o:List Tree):t.subs o=addT (Tree.subss t.kids o) t:=by cases t;rw [Tree.subs];rfl
theorem Tree.subss_snoc (l:List Tree) (t:Tree):∀ o,Tree.subss (l++[t]) o=t.subs (Tree.subss l o):=by
  induction l with
  | nil=>intro o;simp [Tree.subss]
  | cons u l ih=>intro o;simp only [List.cons_append,Tree.subss];exact ih _
theorem Tree.subss_take {l:List Tree} {k:Nat} (h:k < l.length) (o:List Tree):Tree.subss (l.take (k+1)) o=l[k].subs (Tree.subss (l.take k) o):=by
  rw [List.take_succ_eq_append_getElem h,Tree.subss_snoc]
theorem z293 {o:List Tree} {t x:Tree} : x∈addT o t↔x∈o∨x=t:=by
  unfold addT
  split
  · rename_i h
    constructor
    · exact .inl
    · rintro (h1|rfl)
      · exact h1
      · exact h
  · simp
theorem z941 {o:List Tree} {t:Tree} (h:o.Nodup):(addT o t).Nodup:=by
  unfold addT
  split
  · exact h
  · rename_i hn
    rw [List.nodup_append]
    exact ⟨h,by simp,fun a ha b hb=>by rintro rfl;rw [List.mem_singleton.1 hb] at ha;exact hn ha⟩
theorem addT_len (o:List Tree) (t:Tree):(addT o t).length≤o.length+1:=by unfold addT;split<;>simp
theorem z373:∀ t:Tree,∀ o:List Tree,(o.Nodup→(t.subs o).Nodup)∧(∀ x∈o,x∈t.subs o)∧t∈t.subs o∧(t.subs o).length≤o.length+t.sz+1∧(∀ x∈t.subs o,x∈o∨x.sz≤t.sz)∧((∀ x∈o,∀ u∈x.kids,u∈o)→∀ x∈t.subs o,∀ u∈x.kids,u∈t.subs o):=by
  intro t
  induction t using Tree.ind with|h t ih=>?_
  have key:∀ (l:List Tree),(∀ u∈l,u∈t.kids)→∀ o:List Tree,(o.Nodup→(Tree.subss l o).Nodup)∧(∀ x∈o,x∈Tree.subss l o)∧(∀ u∈l,u∈Tree.subss l o)∧(Tree.subss l o).length≤o.length+(l.map fun u=>u.sz+1).sum∧(∀ x∈Tree.subss l o,x∈o∨∃ u∈l,x.sz≤u.sz)∧((∀ x∈o,∀ u∈x.kids,u∈o)→∀ x∈Tree.subss l o,∀ u∈x.kids,u∈Tree.subss l o):=by
    intro l
    induction l with
    | nil=>intro _ o;simp [Tree.subss]
    | cons u l ihl =>
      intro hl o
      obtain ⟨a1,a2,a3,a4,a5,a6⟩:=ih u (hl u (by simp)) o
      obtain ⟨b1,b2,b3,b4,b5,b6⟩:=ihl (fun x hx=>hl x (List.mem_cons_of_mem _ hx)) (u.subs o)
      rw [Tree.subss]
      refine ⟨fun h=>b1 (a1 h),fun x hx=>b2 x (a2 x hx),fun x hx=>?_,?_,fun x hx=>?_,fun h=>b6 (a6 h)⟩
      · rcases List.mem_cons.1 hx with rfl|hx
        · exact b2 _ a3
        · exact b3 x hx
      · simp only [List.map_cons,List.sum_cons];omega
      · rcases b5 x hx with h|⟨y,hy,h⟩
        · rcases a5 x h with h|h
          · exact .inl h
          · exact .inr ⟨u,by simp,h⟩
        · exact .inr ⟨y,List.mem_cons_of_mem _ hy,h⟩
  intro o
  obtain ⟨b1,b2,b3,b4,b5,b6⟩:=key t.kids (fun _ h=>h) o
  rw [Tree.subs_eq]
  have hsz:=Tree.sz_eq t
  have hsum:(t.kids.map fun u=>u.sz+1).sum=t.kids.length+(t.kids.map Tree.sz).sum:=by
    generalize t.kids=l
    induction l with
    | nil=>rfl
    | cons a l ih=>simp only [List.map_cons,List.sum_cons,List.length_cons,ih];omega
  refine ⟨fun h=>z941 (b1 h),fun x hx=>z293.2 (.inl (b2 x hx)),z293.2 (.inr rfl),?_,fun x hx=>?_,fun h x hx u hu=>z293.2 (.inl ?_)⟩
  · have:=addT_len (Tree.subss t.kids o) t
    omega
  · rcases z293.1 hx with h|rfl
    · rcases b5 x h with h|⟨u,hu,h⟩
      · exact .inl h
      · have:=z409 Tree.sz hu
        exact .inr (by omega)
    · exact .inr (Nat.le_refl _)
  · rcases z293.1 hx with h2|rfl
    · exact b6 h x h2 u hu
    · exact b3 u hu
def basicB (t:Tree):Bool:=decide (t.kind=2∨t.kind=6∨t.kind=7∨t.kind=8)
noncomputable def bscL (t:Tree):List Tree:=(t.subs []).filter basicB
noncomputable def bscB (t:Tree):Bool:=decide ((t.fmB=true∧(t.nrm false).fmB=true)∧(bscL (t.nrm false)).length≤5)
end Go.Gl

namespace Go.Gl
def semOp (w:Nat→Int) (k v:Int) (ks:List (Nat→Prop)) (i:Nat):Prop :=
  if k=2 then hasB (w i) v=true
  else if k=3 then ¬ (ks.getD 0 fun _=>False) i
  else if k=4 then (ks.getD 0 fun _=>False) i∧(ks.getD 1 fun _=>False) i
  else if k=5 then (ks.getD 0 fun _=>False) i∨(ks.getD 1 fun _=>False) i
  else if k=6 then (ks.getD 0 fun _=>False) (i+1)
  else if k=7 then ∃ j,i≤j∧(ks.getD 1 fun _=>False) j∧∀ m,i≤m→m < j→(ks.getD 0 fun _=>False) m
  else if k=8 then ∀ j,i≤j→(ks.getD 1 fun _=>False) j∨∃ m,i≤m∧m < j∧(ks.getD 0 fun _=>False) m
  else if k=9 then ∃ j,i≤j∧(ks.getD 0 fun _=>False) j
  else if k=10 then ∀ j,i≤j→(ks.getD 0 fun _=>False) j
  else True
mutual
def Tree.sem (w:Nat→Int) (t:Tree):Nat→Prop:=match t with
  | .mk k v l=>semOp w k v (Tree.sems w l)
def Tree.sems (w:Nat→Int) (l:List Tree):List (Nat→Prop):=match l with
  | []=>[]
  | t::r=>Tree.sem w t::Tree.sems w r
end
section
variable (w:Nat→Int)
end
mutual
def Tree.vl (σ:Tree→Bool) (t:Tree):Bool:=match t with
  | .mk k v l=>if k=1 then true else if k=3 then !((Tree.vls σ l).getD 0 false) else if k=4 then (Tree.vls σ l).getD 0 false && (Tree.vls σ l).getD 1 false else if k=5 then (Tree.vls σ l).getD 0 false || (Tree.vls σ l).getD 1 false else σ (.mk k v l)
def Tree.vls (σ:Tree→Bool) (l:List Tree):List Bool:=match l with
  | []=>[]
  | t::r=>Tree.vl σ t::Tree.vls σ r
end
inductive NF:Tree→Prop
  | tr:NF (.mk 1 0 [])
  | at (v:Int):NF (.mk 2 v [])
  | nt:NF (.mk 3 0 [.mk 1 0 []])
  | na (v:Int):NF (.mk 3 0 [.mk 2 v []])
  | an {a b:Tree} : NF a→NF b→NF (.mk 4 0 [a,b])
  | or {a b:Tree} : NF a→NF b→NF (.mk 5 0 [a,b])
  | nx {a:Tree} : NF a→NF (.mk 6 0 [a])
  | un {a b:Tree} : NF a→NF b→NF (.mk 7 0 [a,b])
  | re {a b:Tree} : NF a→NF b→NF (.mk 8 0 [a,b])
theorem nrm_NF (t:Tree):t.goodF→∀ neg,NF (t.nrm neg):=by
  induction t using Tree.ind with|h t ih=>?_
  intro hg neg
  cases Tree.formF hg with
  | tr=>rw [z1002];cases neg;exact .tr;exact .nt
  | «at» v _ _=>rw [z1004];cases neg;exact .at v;exact .na v
  | un k a hk ha =>
    have h1:=ih a (by simp [Tree.kids]) ha
    rcases hk with rfl|rfl|rfl|rfl
    · rw [z776];exact h1 _
    · rw [z599];exact .nx (h1 _)
    · rw [z1003];cases neg;exact .un .tr (h1 _);exact .re .nt (h1 _)
    · rw [z1005];cases neg;exact .re .nt (h1 _);exact .un .tr (h1 _)
  | bin k a b hk ha hb =>
    have h1:=ih a (by simp [Tree.kids]) ha neg
    have h2:=ih b (by simp [Tree.kids]) hb neg
    rw [z777 _ _ _ _ _ hk]
    rcases hk with rfl|rfl|rfl|rfl<;>cases neg<;>first|exact .an h1 h2|exact .or h1 h2|exact .un h1 h2|exact .re h1 h2
section
variable {σ:Tree→Bool}
theorem vl_tr:(Tree.mk 1 0 []).vl σ=true:=by simp [Tree.vl]
theorem vl_not (v:Int) (a:Tree):(Tree.mk 3 v [a]).vl σ=!a.vl σ:=by simp [Tree.vl,Tree.vls]
theorem vl_and (v:Int) (a b:Tree):(Tree.mk 4 v [a,b]).vl σ=(a.vl σ && b.vl σ):=by simp [Tree.vl,Tree.vls]
theorem vl_or (v:Int) (a b:Tree):(Tree.mk 5 v [a,b]).vl σ=(a.vl σ || b.vl σ):=by simp [Tree.vl,Tree.vls]
theorem vl_at (v:Int):(Tree.mk 2 v []).vl σ=σ (.mk 2 v []):=by simp [Tree.vl]
theorem vl_nx (v:Int) (l:List Tree):(Tree.mk 6 v l).vl σ=σ (.mk 6 v l):=by simp [Tree.vl]
theorem vl_un (v:Int) (l:List Tree):(Tree.mk 7 v l).vl σ=σ (.mk 7 v l):=by simp [Tree.vl]
theorem vl_re (v:Int) (l:List Tree):(Tree.mk 8 v l).vl σ=σ (.mk 8 v l):=by simp [Tree.vl]
end
inductive In (B:Tree→Prop):Tree→Prop
  | tr:In B (.mk 1 0 [])
  | at (v:Int):B (.mk 2 v [])→In B (.mk 2 v [])
  | nt:In B (.mk 3 0 [.mk 1 0 []])
  | na (v:Int):B (.mk 2 v [])→In B (.mk 3 0 [.mk 2 v []])
  | an {a b:Tree} : In B a→In B b→In B (.mk 4 0 [a,b])
  | or {a b:Tree} : In B a→In B b→In B (.mk 5 0 [a,b])
  | nx {a:Tree} : B (.mk 6 0 [a])→In B a→In B (.mk 6 0 [a])
  | un {a b:Tree} : B (.mk 7 0 [a,b])→In B a→In B b→In B (.mk 7 0 [a,b])
  | re {a b:Tree} : B (.mk 8 0 [a,b])→In B a→In B b→In B (.mk 8 0 [a,b])
end Go.Gl

namespace Go.Gl
noncomputable def plc (B:List Tree) (t:Tree):Int:=match B.findIdx? (fun x=>decide (x=t)) with
  | some i=>i
  | none=>-1
noncomputable def sgB (B:List Tree) (s:Int) (t:Tree):Bool:=hasB s (plc B t)
theorem plc_mem {B:List Tree} {t:Tree} (h:t∈B):0≤plc B t∧plc B t < B.length:=by
  unfold plc
  split
  · rename_i i e
    obtain ⟨h1,_,_⟩:=List.findIdx?_eq_some_iff_getElem.1 e
    omega
  · rename_i e
    have:=List.findIdx?_eq_none_iff.1 e t h
    simp at this
noncomputable def vlB (B:List Tree) (s:Int) (t:Tree):Bool:=t.vl (sgB B s)
noncomputable def kidV (B:List Tree) (s:Int) (t:Tree) (j:Nat):Bool:=vlB B s (t.kids.getD j dftT)
noncomputable def folV (B:List Tree) (s t:Int) (f:Tree) (now next:Bool):Bool :=
  if f.kind=6 then kidV B t f 0
  else if f.kind=7 then kidV B s f 1 || (kidV B s f 0 && next)
  else if f.kind=8 then kidV B s f 1 && (kidV B s f 0 || next)
  else now
noncomputable def folI (B:List Tree) (s t:Int) (i:Nat):Bool:=folV B s t (B.getD i dftT) (hasB s i) (hasB t i) == hasB s i
noncomputable def folB (B:List Tree) (s t:Int):Bool:=(List.range B.length).all fun i=>folI B s t i
noncomputable def atoI (B:List Tree) (s:Int) (p:Nat×Nat) (i:Nat):Nat×Nat:=if (B.getD i dftT).kind=2 then (p.1 ||| 2 ^ (B.getD i dftT).val.toNat,if hasB s i=true then p.2 ||| 2 ^ (B.getD i dftT).val.toNat else p.2) else p
noncomputable def letB (B:List Tree) (s:Int):Nat×Nat:=(List.range B.length).foldl (atoI B s) (0,0)
noncomputable def untB (B:List Tree):List Int:=((List.range B.length).filter fun i=>decide ((B.getD i dftT).kind=7)).map Int.ofNat
noncomputable def fulB (B:List Tree) (s:Int) (u:Int):Bool:=!hasB s u || kidV B s (B.getD u.toNat dftT) 1
noncomputable def phB (B:List Tree) (U:List Int) (s ph:Int):Int×Bool :=
  if U.length=0 then (0,true) else if fulB B s (U.getD ph.toNat 0)=true then ((ph+1) % (U.length:Int),decide (ph=0)) else (ph,false)
noncomputable def z384 (L:List (List Int)) (p:List Int):List (List Int):=if p∈L then L else L++[p]
noncomputable def z680 (L:List (List Int)) (p:List Int):Nat:=L.idxOf p
structure Edg where
  src:Int
  care:Int
  val:Int
  dst:Int
structure TrS where
  L:List (List Int)
  acc:List Bool
  ed:List Edg
noncomputable def z393 (B:List Tree) (s ph:Int) (i:Nat) (c v:Int) (x:List (List Int)×List Edg) (t:Nat):List (List Int)×List Edg :=
  if folB B s t=true then (z384 x.1 [(t:Int),ph],x.2++[⟨i,c,v,z680 x.1 [(t:Int),ph]⟩]) else x
noncomputable def z468 (B:List Tree) (U:List Int) (i:Nat) (x:TrS):TrS :=
  let s:=(x.L.getD i []).getD 0 0
  let q:=phB B U s ((x.L.getD i []).getD 1 0)
  let c:=letB B s
  let y:=(List.range (2 ^ B.length)).foldl (z393 B s q.1 i c.1 c.2) (x.L,x.ed)
  ⟨y.1,x.acc++[q.2],y.2⟩
noncomputable def goS (B:List Tree) (U:List Int):Nat→Nat→TrS→Option TrS
  | 0,_,_=>none
  | f+1,i,x=>if i < x.L.length then (if 64 < x.L.length then none else goS B U f (i+1) (z468 B U i x)) else some x
noncomputable def iniS (B:List Tree) (g:Tree):List (List Int):=((List.range (2 ^ B.length)).filter fun s=>vlB B (s:Nat) g).map fun s:Nat=>[(s:Int),0]
end Go.Gl

namespace Go.Gl
theorem subs_all {p:Tree→Prop} (hk:∀ x,p x→∀ u∈x.kids,p u):∀ t:Tree,∀ o:List Tree,p t→(∀ x∈o,p x)→∀ x∈t.subs o,p x:=by
  intro t
  induction t using Tree.ind with|h t ih=>?_
  have key:∀ (l:List Tree),(∀ u∈l,u∈t.kids)→∀ o:List Tree,(∀ u∈l,p u)→(∀ x∈o,p x)→∀ x∈Tree.subss l o,p x:=by
    intro l
    induction l with
    | nil=>intro _ o _ ho;simpa [Tree.subss] using ho
    | cons u l ihl =>
      intro hl o hp ho
      rw [Tree.subss]
      exact ihl (fun x hx=>hl x (List.mem_cons_of_mem _ hx)) _ (fun x hx=>hp x (List.mem_cons_of_mem _ hx)) (ih u (hl u (by simp)) o (hp u (by simp)) ho)
  intro o ht ho x hx
  rw [Tree.subs_eq] at hx
  rcases z293.1 hx with h|rfl
  · exact key t.kids (fun _ h=>h) o (hk t ht) ho x h
  · exact ht
theorem NF.kids {t:Tree} (h:NF t):∀ u∈t.kids,NF u:=by
  cases h with
  | tr=>intro u hu;simp [Tree.kids] at hu
  | «at» v=>intro u hu;simp [Tree.kids] at hu
  | nt=>intro u hu;simp [Tree.kids] at hu;subst hu;exact .tr
  | na v=>intro u hu;simp [Tree.kids] at hu;subst hu;exact .at v
  | an ha hb=>intro u hu;simp [Tree.kids] at hu;rcases hu with rfl|rfl<;>assumption
  | or ha hb=>intro u hu;simp [Tree.kids] at hu;rcases hu with rfl|rfl<;>assumption
  | nx ha=>intro u hu;simp [Tree.kids] at hu;subst hu;assumption
  | un ha hb=>intro u hu;simp [Tree.kids] at hu;rcases hu with rfl|rfl<;>assumption
  | re ha hb=>intro u hu;simp [Tree.kids] at hu;rcases hu with rfl|rfl<;>assumption
theorem in_of {L:List Tree} (hcl:∀ x∈L,∀ u∈x.kids,u∈L) {t:Tree} (h:NF t):t∈L→In (·∈L.filter basicB) t:=by
  have bs:∀ x,x∈L→basicB x=true→x∈L.filter basicB:=fun x h1 h2=>List.mem_filter.2 ⟨h1,h2⟩
  induction h with
  | tr=>intro _;exact .tr
  | «at» v=>intro ht;exact .at v (bs _ ht (by simp [basicB,Tree.kind]))
  | nt=>intro _;exact .nt
  | na v=>intro ht;exact .na v (bs _ (hcl _ ht _ (by simp [Tree.kids])) (by simp [basicB,Tree.kind]))
  | an _ _ iha ihb=>intro ht;exact .an (iha (hcl _ ht _ (by simp [Tree.kids]))) (ihb (hcl _ ht _ (by simp [Tree.kids])))
  | or _ _ iha ihb=>intro ht;exact .or (iha (hcl _ ht _ (by simp [Tree.kids]))) (ihb (hcl _ ht _ (by simp [Tree.kids])))
  | nx _ iha=>intro ht;exact .nx (bs _ ht (by simp [basicB,Tree.kind])) (iha (hcl _ ht _ (by simp [Tree.kids])))
  | un _ _ iha ihb=>intro ht;exact .un (bs _ ht (by simp [basicB,Tree.kind])) (iha (hcl _ ht _ (by simp [Tree.kids]))) (ihb (hcl _ ht _ (by simp [Tree.kids])))
  | re _ _ iha ihb=>intro ht;exact .re (bs _ ht (by simp [basicB,Tree.kind])) (iha (hcl _ ht _ (by simp [Tree.kids]))) (ihb (hcl _ ht _ (by simp [Tree.kids])))
theorem z932 {u:Tree} (hg:u.goodF) (hn:NF u):(bscL u).Nodup∧(∀ x∈bscL u,x.sz≤u.sz)∧(∀ x∈bscL u,In (·∈bscL u) x)∧(∀ x∈bscL u,basicB x=true)∧(∀ v,Tree.mk 2 v []∈bscL u→0≤v∧v≤2)∧In (·∈bscL u) u:=by
  obtain ⟨h1,_,h3,_,h5,h6⟩:=z373 u []
  have hcl:=h6 (by simp)
  have hall:=subs_all (p:=fun x=>NF x∧x.goodF) (fun x hx v hv=>⟨hx.1.kids v hv,(Tree.goodF_iff hx.2).2.2.2 v hv⟩) u [] ⟨hn,hg⟩ (by simp)
  unfold bscL
  generalize u.subs []=L at *
  refine ⟨(h1 List.nodup_nil).filter _,fun x hx=>?_,fun x hx=>?_,fun x hx=>(List.mem_filter.1 hx).2,fun v hv=>?_,in_of hcl hn h3⟩
  · rcases h5 x (List.mem_filter.1 hx).1 with h|h
    · simp at h
    · exact h
  · have hx:=(List.mem_filter.1 hx).1
    exact in_of hcl (hall x hx).1 hx
  · have hx:=(List.mem_filter.1 hv).1
    obtain ⟨_,a,b,_⟩:=Tree.goodF_iff (hall _ hx).2
    simp [Tree.val,Tree.kind,z480] at a b
    exact ⟨a,b⟩
theorem z848 (B:List Tree) (g:Tree):(iniS B g).length≤2 ^ B.length:=by
  unfold iniS
  rw [List.length_map]
  have:=List.length_filter_le (fun s=>vlB B (s:Nat) g) (List.range (2 ^ B.length))
  simpa using this
def RowS (n:Nat) (U:List Int) (r:List Int):Prop:=∃ (s ph:Nat),r=[(s:Int),(ph:Int)]∧s < 2 ^ n∧(U.length=0∨ph < U.length)
def numI (n:Nat):List Int:=(List.range n).map Int.ofNat
theorem z1001 (n:Nat):numI (n+1)=numI n++[(n:Int)]:=by
  unfold numI;rw [List.range_succ,List.map_append];rfl
theorem z840 (n:Nat):(numI n).length=n:=by simp [numI]
def iniK (B:List Tree) (V:Nat→Bool) (k:Nat):List (List Int):=((List.range k).filter V).map fun s:Nat=>[(s:Int),0]
theorem z1036 (B:List Tree) (V:Nat→Bool) (k:Nat):iniK B V (k+1)=iniK B V k++(if V k=true then [[(k:Int),0]] else []):=by
  unfold iniK
  rw [List.range_succ,List.filter_append,List.map_append]
  congr 1
  by_cases h:V k=true
  · rw [if_pos h,List.filter_cons_of_pos h];rfl
  · rw [if_neg h,List.filter_cons_of_neg h];rfl
theorem iniK_len (B:List Tree) (V:Nat→Bool) (k:Nat):(iniK B V k).length≤k:=by
  unfold iniK
  rw [List.length_map]
  have:=List.length_filter_le V (List.range k)
  simpa using this
theorem iniK_row (B:List Tree) (V:Nat→Bool) (k n:Nat) (U:List Int) (hk:k≤2 ^ n):∀ r∈iniK B V k,RowS n U r:=by
  intro r hr
  unfold iniK at hr
  obtain ⟨s,hs,rfl⟩:=List.mem_map.1 hr
  have:=List.mem_range.1 (List.mem_filter.1 hs).1
  exact ⟨s,0,rfl,by omega,by omega⟩
noncomputable def trS (B:List Tree) (g:Tree):Option TrS:=goS B (untB B) 65 0 ⟨iniS B g,[],[]⟩
theorem phB_row {B:List Tree} {U:List Int} {s ph:Nat} (h:U.length=0∨ph < U.length):∃ q:Nat,(phB B U s ph).1=q∧(U.length=0∨q < U.length):=by
  unfold phB
  by_cases h0:U.length=0
  · rw [if_pos h0];exact ⟨0,rfl,.inl h0⟩
  · rw [if_neg h0]
    split
    · refine ⟨(ph+1) % U.length,by simp,.inr (Nat.mod_lt _ (by omega))⟩
    · exact ⟨ph,rfl,h⟩
end Go.Gl

namespace Go.Gl
theorem z857 (B:List Tree) (s ph:Int) (i:Nat) (c v:Int):∀ (l:List Nat) (x:List (List Int)×List Edg),(l.foldl (z393 B s ph i c v) x).2.length≤x.2.length+l.length
  | [],x=>by simp
  | t::l,x=>by
    rw [List.foldl_cons,List.length_cons]
    have h:=z857 B s ph i c v l (z393 B s ph i c v x t)
    have:(z393 B s ph i c v x t).2.length≤x.2.length+1:=by
      unfold z393
      split
      · simp
      · omega
    omega
theorem z1040 (B:List Tree) (U:List Int):∀ (f i:Nat) (x y:TrS),goS B U f i x=some y→y.acc.length≤x.acc.length+f∧y.ed.length≤x.ed.length+f * 2 ^ B.length
  | 0,i,x,y,h=>by simp [goS] at h
  | f+1,i,x,y,h=>by
    rw [goS] at h
    split at h
    · split at h
      · cases h
      · have h1:=z1040 B U f (i+1) (z468 B U i x) y h
        have h2:(z468 B U i x).acc.length=x.acc.length+1:=by simp [z468]
        have h3:(z468 B U i x).ed.length≤x.ed.length+2 ^ B.length:=by
          have:=z857 B ((x.L.getD i []).getD 0 0) (phB B U ((x.L.getD i []).getD 0 0) ((x.L.getD i []).getD 1 0)).1 i (letB B ((x.L.getD i []).getD 0 0)).1 (letB B ((x.L.getD i []).getD 0 0)).2 (List.range (2 ^ B.length)) (x.L,x.ed)
          rw [List.length_range] at this
          exact this
        rw [Nat.add_mul]
        omega
    · cases h
      rw [Nat.add_mul]
      omega
end Go.Gl

namespace Go.Gl
def visP (u:Int) (x:List Int×List Int) (v:Int):List Int×List Int:=if v∈x.1 then x else (x.1++[v],x.2.set v.toNat u)
def visPs (u:Int) (x:List Int×List Int) (l:List Int):List Int×List Int:=l.foldl (visP u) x
theorem z331 {u:Int} {x:List Int×List Int} {v:Int} (h:v ∉ x.1):visP u x v=(x.1++[v],x.2.set v.toNat u):=by unfold visP;rw [if_neg h]
theorem z330 {u:Int} {x:List Int×List Int} {v:Int} (h:v∈x.1):visP u x v=x:=by unfold visP;rw [if_pos h]
theorem z369 {u:Int} {x:List Int×List Int} {l:List Int} {k:Nat} (h:k < l.length):visPs u x (l.take (k+1))=visP u (visPs u x (l.take k)) l[k]:=by
  unfold visPs
  rw [List.take_succ_eq_append_getElem h,List.foldl_append];rfl
theorem z572 (u:Int) (x:List Int×List Int) (v:Int):(visP u x v).1=z149 x.1 v:=by
  unfold visP z149;split<;>rfl
theorem z329 (u:Int) (l:List Int):∀ x:List Int×List Int,(visPs u x l).1=z72 x.1 l:=by
  induction l with
  | nil=>intro x;rfl
  | cons v l ih =>
    intro x
    show (visPs u (visP u x v) l).1=z72 (z149 x.1 v) l
    rw [ih,z572]
structure PJ (N:Nat) (x:List Int×List Int):Prop where
  len:x.2.length=N
  inn:InN N x.1
  nd:x.1.Nodup
  pre:∀ k (h:k < x.1.length),x.2.getD (x.1[k]).toNat 0=-1∨∃ j,∃ h' : j < x.1.length,j < k∧x.2.getD (x.1[k]).toNat 0=x.1[j]
theorem PJ.visP {N:Nat} {x:List Int×List Int} (h:PJ N x) {i:Nat} (hi:i < x.1.length) {u v:Int} (hu:u=x.1[i]) (hv:0≤v∧v < N):PJ N (visP u x v):=by
  by_cases hm:v∈x.1
  · rw [z330 hm];exact h
  · rw [z331 hm]
    refine ⟨by simp [h.len],fun y hy=>?_,?_,fun k hk=>?_⟩
    · rcases List.mem_append.1 hy with h1|h1
      · exact h.inn y h1
      · rw [List.mem_singleton.1 h1];exact hv
    · rw [List.nodup_append]
      exact ⟨h.nd,by simp,fun a ha b hb=>by rintro rfl;rw [List.mem_singleton.1 hb] at ha;exact hm ha⟩
    · have hk' : k < x.1.length+1:=by simpa using hk
      have hl:=h.len
      by_cases hkl:k < x.1.length
      · have e:(x.1++[v])[k]=x.1[k]:=List.getElem_append_left hkl
        dsimp only
        rw [e]
        have hne:v≠x.1[k]:=fun e=>hm (e ▸ List.getElem_mem hkl)
        have hin:=h.inn _ (List.getElem_mem hkl)
        have e2:(x.2.set v.toNat u).getD (x.1[k]).toNat 0=x.2.getD (x.1[k]).toNat 0:=by
          rw [List.getD_eq_getElem?_getD,List.getElem?_set_ne (by omega),← List.getD_eq_getElem?_getD]
        rw [e2]
        rcases h.pre k hkl with h1|⟨j,hj,h1,h2⟩
        · exact .inl h1
        · exact .inr ⟨j,by simp;omega,h1,by rw [h2,List.getElem_append_left hj]⟩
      · obtain rfl:k=x.1.length:=by omega
        right
        refine ⟨i,by simp;omega,hi,?_⟩
        dsimp only
        rw [List.getElem_append_left hi]
        simp only [List.getElem_append_right (Nat.le_refl _),Nat.sub_self,List.getElem_cons_zero]
        rw [z19 (by simp;omega),List.getElem_set_self,hu]
theorem PJ.visPs {N:Nat} {u:Int} (l:List Int):∀ {x:List Int×List Int} (_:PJ N x) {i:Nat} (hi:i < x.1.length) (_:u=x.1[i]) (_:InN N l),PJ N (visPs u x l)∧∃ h' : i < (Go.Gl.visPs u x l).1.length,(Go.Gl.visPs u x l).1[i]=u:=by
  induction l with
  | nil=>intro x h i hi hu hl;exact ⟨h,hi,hu.symm⟩
  | cons v l ih =>
    intro x h i hi hu hl
    have h1:=h.visP hi hu (hl v (by simp))
    obtain ⟨t,ht⟩:=z446 x.1 v
    have hf:=z572 u x v
    rw [ht] at hf
    have hi1:i < (Go.Gl.visP u x v).1.length:=by rw [hf,List.length_append];omega
    exact ih h1 hi1 (by simp only [hf,List.getElem_append_left hi];exact hu) fun y hy=>hl y (by simp [hy])
def srS (rows:List (List Int)) (ini:List Int):Nat→List Int×List Int
  | 0=>(ini,List.replicate rows.length (-1))
  | i+1=>if h:i < (srS rows ini i).1.length then visPs (srS rows ini i).1[i] (srS rows ini i) (rows.getD ((srS rows ini i).1[i]).toNat []) else srS rows ini i
def srQ (rows:List (List Int)) (ini:List Int):List Int:=(srS rows ini rows.length).1
def srP (rows:List (List Int)) (ini:List Int):List Int:=(srS rows ini rows.length).2
section
variable {rows:List (List Int)} {ini:List Int}
theorem z301 (hr:∀ r∈rows,InN rows.length r) (hi:InN rows.length ini) (hn:ini.Nodup) (i:Nat):PJ rows.length (srS rows ini i):=by
  induction i with
  | zero =>
    refine ⟨by simp [srS],hi,hn,fun k hk=>.inl ?_⟩
    have:=hi _ (List.getElem_mem hk)
    show (List.replicate rows.length (-1)).getD _ 0=_
    rw [z19 (by simp;have:(srS rows ini 0).1[k]=ini[k]:=rfl;omega)]
    simp
  | succ i ih =>
    rw [srS];split
    · rename_i h
      exact (PJ.visPs _ ih h rfl (z178 hr _)).1
    · exact ih
theorem z947 {l:List Int} : ∀ {out:List Int},(out++l).Nodup→z72 out l=out++l:=by
  induction l with
  | nil=>intro out _;simp [z72]
  | cons v l ih =>
    intro out h
    show z72 (z149 out v) l=_
    have hv:v ∉ out:=fun hm=>by
      rw [List.nodup_append] at h
      exact h.2.2 v hm v (by simp) rfl
    have:z149 out v=out++[v]:=by unfold z149;rw [if_neg hv]
    rw [this,ih (by simpa using h)]
    simp
theorem z752 (hn:ini.Nodup) (i:Nat):(srS rows ini i).1=bfs rows ini i:=by
  induction i with
  | zero =>
    show ini=z72 [] ini
    rw [z947 (by simpa using hn)];rfl
  | succ i ih =>
    rw [srS,bfs]
    by_cases h:i < (srS rows ini i).1.length
    · have h2:i < (bfs rows ini i).length:=by rw [← ih];exact h
      rw [dif_pos h,dif_pos h2,z329]
      simp only [ih]
    · have h2:¬ i < (bfs rows ini i).length:=by rw [← ih];exact h
      rw [dif_neg h,dif_neg h2,ih]
theorem z967 {i j:Nat} (h:(srS rows ini i).1.length≤i) (hij:i≤j):srS rows ini j=srS rows ini i:=by
  induction j with
  | zero => obtain rfl : i = 0 := by omega
            rfl
  | succ j ih =>
    rcases Nat.lt_or_ge j i with h1|h1
    · obtain rfl:i=j+1:=by omega
      rfl
    · have e:=ih h1
      rw [srS,dif_neg (by rw [e];omega),e]
theorem z584 (hr:∀ r∈rows,InN rows.length r) (hi:InN rows.length ini) (hn:ini.Nodup) (i:Nat):(srS rows ini i).1.length≤rows.length :=
  z135 _ _ (z301 hr hi hn i).nd (z301 hr hi hn i).inn
theorem z966 {i:Nat} (h:(srS rows ini i).1.length≤i) (hil:i≤rows.length):srS rows ini i=(srQ rows ini,srP rows ini):=(z967 h hil).symm
end
def bkw (P:List Int):Nat→Int→List Int→List Int
  | 0,v,tl=>v::tl
  | f+1,v,tl=>if 0≤P.getD v.toNat 0 then bkw P f (P.getD v.toNat 0) (v::tl) else v::tl
def BackOk (P:List Int):Nat→Int→Prop
  | 0,v=>(0≤v∧v < P.length)∧P.getD v.toNat 0 < 0
  | f+1,v=>(0≤v∧v < P.length)∧(P.getD v.toNat 0 < 0∨BackOk P f (P.getD v.toNat 0))
theorem BackOk.up {P:List Int} : ∀ {f:Nat} {v:Int},BackOk P f v→BackOk P (f+1) v
  | 0,_,h=>⟨h.1,.inl h.2⟩
  | _+1,_,h=>⟨h.1,h.2.imp id fun h=>h.up⟩
theorem BackOk.le {P:List Int} {f g:Nat} {v:Int} (h:BackOk P f v) (hg:f≤g):BackOk P g v:=by
  induction g with
  | zero => obtain rfl : f = 0 := by omega
            exact h
  | succ g ih =>
    rcases Nat.lt_or_ge g f with h1|h1
    · obtain rfl:f=g+1:=by omega
      exact h
    · exact (ih h1).up
theorem PJ.back {N:Nat} {x:List Int×List Int} (h:PJ N x):∀ (k:Nat) (hk:k < x.1.length),BackOk x.2 k x.1[k]:=by
  intro k
  induction k using Nat.strongRecOn with
  | ind k ih =>
    intro hk
    have hin:=h.inn _ (List.getElem_mem hk)
    rw [← h.len] at hin
    rcases h.pre k hk with h1|⟨j,hj,h1,h2⟩
    · exact (show BackOk x.2 0 x.1[k] from ⟨hin,by omega⟩).le (Nat.zero_le _)
    · have h3:=(ih j h1 hj).le (show j≤k - 1 by omega)
      rw [← h2] at h3
      generalize x.1[k]=v at *
      obtain ⟨m,rfl⟩:∃ m,k=m+1:=⟨k - 1,by omega⟩
      exact ⟨hin,.inr h3⟩
theorem z507 (P:List Int):∀ (f:Nat) (v:Int) (tl:List Int),(bkw P f v tl).length≤f+1+tl.length
  | 0,v,tl=>by rw [bkw,List.length_cons];omega
  | f+1,v,tl=>by
    rw [bkw];split
    · have:=z507 P f (P.getD v.toNat 0) (v::tl)
      simp only [List.length_cons] at this
      omega
    · rw [List.length_cons];omega
end Go.Gl

namespace Go.Gl
def cycT (rows:List (List Int)) (P:List Int) (v:Int):List Int→List Int
  | []=>[]
  | u::t=>if v∈rows.getD u.toNat [] then bkw P rows.length u [] else cycT rows P v t
def cycL (rows:List (List Int)) (v:Int):List Int:=if v∈rows.getD v.toNat [] then [v] else cycT rows (srP rows [v]) v (srQ rows [v])
def finT (rows:List (List Int)) (acc:List Bool) (P:List Int):List Int→Option (List Int×List Int)
  | []=>none
  | u::t=>if acc.getD (u % acc.length).toNat false=true then (if 0 < (cycL rows u).length then some (bkw P rows.length u [],cycL rows u) else finT rows acc P t) else finT rows acc P t
def stL (l:List Int) (n:Nat):List Int:=l.map fun x=>x / n
def finS (rows:List (List Int)) (ini:List Int) (acc:List Bool):Option (List Int×List Int):=finT rows acc (srP rows ini) (srQ rows ini)
theorem z859 (rows:List (List Int)) (P:List Int) (v:Int):∀ l,(cycT rows P v l).length≤rows.length+1
  | []=>Nat.zero_le _
  | u::t=>by
    rw [cycT];split
    · exact z507 _ _ _ _
    · exact z859 rows P v t
theorem z626 (rows:List (List Int)) (v:Int):(cycL rows v).length≤rows.length+1:=by
  unfold cycL;split
  · simp
  · exact z859 _ _ _ _
theorem z506 (P:List Int):∀ (f:Nat) (v:Int) (tl:List Int),1≤(bkw P f v tl).length
  | 0,v,tl=>by rw [bkw,List.length_cons];omega
  | f+1,v,tl=>by
    rw [bkw];split
    · exact z506 P f _ _
    · rw [List.length_cons];omega
theorem z863 {P:List Int} : ∀ (f:Nat) (v:Int) (tl:List Int),0≤v→(∀ x∈tl,0≤x)→∀ x∈bkw P f v tl,0≤x
  | 0,v,tl,h0,h,x,hx=>by
    rw [bkw] at hx
    rcases List.mem_cons.1 hx with rfl|h1
    · exact h0
    · exact h x h1
  | f+1,v,tl,h0,h,x,hx=>by
    rw [bkw] at hx
    split at hx
    · rename_i h2
      exact z863 f _ _ h2 (fun y hy=>by
        rcases List.mem_cons.1 hy with rfl|h1
        · exact h0
        · exact h y h1) x hx
    · rcases List.mem_cons.1 hx with rfl|h1
      · exact h0
      · exact h x h1
theorem z1057 (rows:List (List Int)) (P:List Int) (v:Int):∀ l:List Int,(∀ x∈l,0≤x)→∀ x∈cycT rows P v l,0≤x
  | [],_,x,hx=>by cases hx
  | u::t,h,x,hx=>by
    rw [cycT] at hx
    split at hx
    · exact z863 _ _ _ (h u (by simp)) (fun y hy=>by cases hy) x hx
    · exact z1057 rows P v t (fun y hy=>h y (by simp [hy])) x hx
theorem z662 {rows:List (List Int)} {ini:List Int} (hr:∀ r∈rows,InN rows.length r) (hi:InN rows.length ini) (hn:ini.Nodup):InN rows.length (srQ rows ini):=(z301 hr hi hn _).inn
theorem z969 {rows:List (List Int)} {ini:List Int} (hr:∀ r∈rows,InN rows.length r) (hi:InN rows.length ini) (hn:ini.Nodup):(srP rows ini).length=rows.length:=(z301 hr hi hn _).len
theorem z753 {rows:List (List Int)} {ini:List Int} (hr:∀ r∈rows,InN rows.length r) (hi:InN rows.length ini) (hn:ini.Nodup):(srQ rows ini).length≤rows.length:=z584 hr hi hn _
theorem z828 {rows:List (List Int)} {ini:List Int} (hr:∀ r∈rows,InN rows.length r) (hi:InN rows.length ini) (hn:ini.Nodup) (k:Nat) (hk:k < (srQ rows ini).length):BackOk (srP rows ini) rows.length (srQ rows ini)[k] :=
  ((z301 hr hi hn rows.length).back k hk).le (by have:=z753 hr hi hn;omega)
theorem z307 {N:Nat} {v:Int} (h:0≤v∧v < N):InN N [v]:=fun x hx=>by rw [List.mem_singleton.1 hx];exact h
theorem z1059 {rows:List (List Int)} (hr:∀ r∈rows,InN rows.length r) {v:Int} (hv:0≤v∧v < rows.length):∀ x∈cycL rows v,0≤x:=by
  unfold cycL;split
  · intro x hx;rw [List.mem_singleton.1 hx];exact hv.1
  · exact z1057 _ _ _ _ fun x hx=>(z662 hr (z307 hv) (by simp) x hx).1
theorem z818 {M u:Int} (hu:u≤M):∀ (l:List Int) (x:List Int×List Int),(∀ y∈x.2,y≤M)→∀ y∈(visPs u x l).2,y≤M
  | [],_,h=>h
  | v::l,x,h=>by
    refine z818 hu l (visP u x v) fun y hy=>?_
    unfold visP at hy
    split at hy
    · exact h y hy
    · rcases List.mem_or_eq_of_mem_set hy with h1|rfl
      · exact h y h1
      · exact hu
theorem z965 {rows:List (List Int)} {ini:List Int} (hr:∀ r∈rows,InN rows.length r) (hi:InN rows.length ini) (hn:ini.Nodup) (i:Nat):∀ y∈(srS rows ini i).2,y≤rows.length:=by
  induction i with
  | zero =>
    intro y hy
    have:=List.eq_of_mem_replicate (show y∈List.replicate rows.length (-1) from hy)
    omega
  | succ i ih =>
    rw [srS];split
    · rename_i h
      have:=(z301 hr hi hn i).inn _ (List.getElem_mem h)
      exact z818 (by omega) _ _ ih
    · exact ih
theorem z864 {P:List Int} {M:Int} (hP:∀ x∈P,x≤M):∀ (f:Nat) (v:Int) (tl:List Int),v≤M→0≤M→(∀ x∈tl,x≤M)→∀ x∈bkw P f v tl,x≤M
  | 0,v,tl,h0,_,h,x,hx=>by
    rw [bkw] at hx
    rcases List.mem_cons.1 hx with rfl|h1
    · exact h0
    · exact h x h1
  | f+1,v,tl,h0,hM,h,x,hx=>by
    have h2:∀ y∈v::tl,y≤M:=fun y hy=>by
      rcases List.mem_cons.1 hy with rfl|h1
      · exact h0
      · exact h y h1
    rw [bkw] at hx
    split at hx
    · refine z864 hP f _ _ ?_ hM h2 x hx
      by_cases hl:v.toNat < P.length
      · rw [z19 hl];exact hP _ (List.getElem_mem _)
      · rw [List.getD_eq_getElem?_getD,List.getElem?_eq_none (by omega)];exact hM
    · exact h2 x hx
theorem z1058 (rows:List (List Int)) {P:List Int} {M:Int} (hP:∀ x∈P,x≤M) (hM:0≤M) (v:Int):∀ l:List Int,(∀ x∈l,x≤M)→∀ x∈cycT rows P v l,x≤M
  | [],_,x,hx=>by cases hx
  | u::t,h,x,hx=>by
    rw [cycT] at hx
    split at hx
    · exact z864 hP _ _ _ (h u (by simp)) hM (fun y hy=>by cases hy) x hx
    · exact z1058 rows hP hM v t (fun y hy=>h y (by simp [hy])) x hx
theorem z1060 {rows:List (List Int)} (hr:∀ r∈rows,InN rows.length r) {v:Int} (hv:0≤v∧v < rows.length):∀ x∈cycL rows v,x≤rows.length:=by
  unfold cycL;split
  · intro x hx;rw [List.mem_singleton.1 hx];omega
  · exact z1058 _ (z965 hr (z307 hv) (by simp) _) (by omega) _ _ fun x hx=>by
      have:=z662 hr (z307 hv) (by simp) x hx
      omega
end Go.Gl

namespace Go.Gl
structure TS where
  num:Nat→Int
  low:Nat→Int
  part:Nat→Int
  stk:List Nat
  cnt:Nat
  prt:Nat
def z177 (u:Nat) (s:TS):TS:={ s with num:=upd s.num u (s.cnt+1),low:=upd s.low u (s.cnt+1),stk:=s.stk++[u],cnt:=s.cnt+1 }
def tLow (u:Nat) (m:Int) (s:TS):TS:={ s with low:=upd s.low u (min (s.low u) m) }
def tPop (u:Nat) (s:TS):TS:={ s with part:=fun x=>if x∈s.stk.dropWhile (· != u) then (s.prt:Int) else s.part x,stk:=s.stk.takeWhile (· != u),prt:=s.prt+1 }
def tEnd (u:Nat) (s:TS):TS:=if s.low u=s.num u then tPop u s else s
def z335 (rec:Nat→TS→TS) (u:Nat) (s:TS) (v:Int):TS:=if s.num v.toNat=0 then tLow u ((rec v.toNat s).low v.toNat) (rec v.toNat s) else if s.part v.toNat < 0 then tLow u (s.num v.toNat) s else s
def z206 (rows:List (List Int)):Nat→Nat→TS→TS
  | 0,_,s=>s
  | f+1,u,s=>tEnd u ((rows.getD u []).foldl (z335 (z206 rows f) u) (z177 u s))
def tStart:TS:=⟨fun _=>0,fun _=>0,fun _=>-1,[],0,0⟩
def tTop (rows:List (List Int)) (s:TS) (u:Nat):TS:=if s.num u=0 then z206 rows rows.length u s else s
def tAll (rows:List (List Int)):TS:=(List.range rows.length).foldl (tTop rows) tStart
inductive RN (rows:List (List Int)) (x:Nat):Nat→Prop
  | refl:RN rows x x
  | step {y z:Nat} : RN rows x y→(z:Int)∈rows.getD y []→RN rows x z
theorem RN.trans {rows:List (List Int)} {x y z:Nat} (h:RN rows x y) (k:RN rows y z):RN rows x z:=by
  induction k with
  | refl=>exact h
  | step _ e ih=>exact .step ih e
theorem RN.edge {rows:List (List Int)} {x y:Nat} (h:(y:Int)∈rows.getD x []):RN rows x y:=.step .refl h
theorem RN.inv {rows:List (List Int)} {p:Nat→Prop} (hp:∀ x y:Nat,p x→(y:Int)∈rows.getD x []→p y) {x y:Nat} (h:RN rows x y) (hx:p x):p y:=by
  induction h with
  | refl=>exact hx
  | step _ e ih=>exact hp _ _ ih e
def unvN (N:Nat) (num:Nat→Int):Nat:=((List.range N).filter fun x=>decide (num x=0)).length
structure TI (rows:List (List Int)) (s:TS) (g:List Nat):Prop where
  srt:s.stk.Pairwise fun x y=>s.num x < s.num y
  stk:∀ x,x∈s.stk↔s.num x≠0∧s.part x=-1
  lt:∀ x,s.num x≠0→x < rows.length
  nn:∀ x,0≤s.num x∧s.num x≤s.cnt
  pw:∀ x,s.part x=-1∨(0≤s.part x∧s.part x < s.prt)
  unv:∀ x,s.num x=0→s.part x=-1
  gs:∀ x∈g,x∈s.stk
  blk:∀ x y:Nat,s.num x≠0→x ∉ g→(y:Int)∈rows.getD x []→s.num y≠0
  up:∀ x∈s.stk,∀ y∈s.stk,s.num x≤s.num y→RN rows x y
  gr:∀ y∈s.stk,∃ x∈g,s.num x≤s.num y∧RN rows y x
  cl:∀ x y:Nat,0≤s.part x→(y:Int)∈rows.getD x []→0≤s.part y
  sc:∀ x y:Nat,0≤s.part x→(s.part y=s.part x↔RN rows x y∧RN rows y x)
  ct:s.cnt+unvN rows.length s.num=rows.length
structure TP (rows:List (List Int)) (s s' : TS) (g:List Nat) (u:Nat):Prop where
  inv:TI rows s' g
  keep:∀ x,s.num x≠0→s'.num x=s.num x∧s'.low x=s.low x∧s'.part x=s.part x
  pref:∃ B,s'.stk=s.stk++B
  num:s'.num u=s.cnt+1
  cnt:s.cnt < s'.cnt
  prt:s'.prt+s.cnt≤s.prt+s'.cnt
  low:s'.low u=s'.num u∨∃ y∈s'.stk,s'.low u=s'.num y∧RN rows u y
  edge:∀ x∈s'.stk,x ∉ s.stk→∀ y∈s.stk,(y:Int)∈rows.getD x []→s'.low u≤s.num y
structure TL (rows:List (List Int)) (s0 s:TS) (g:List Nat) (u:Nat) (dn:List Int):Prop where
  inv:TI rows s (u::g)
  keep:∀ x,s0.num x≠0→s.num x=s0.num x∧s.low x=s0.low x∧s.part x=s0.part x
  pref:∃ B,s.stk=s0.stk++u::B
  num:s.num u=s0.cnt+1
  cnt:s0.cnt < s.cnt
  prt:s.prt+s0.cnt+1≤s0.prt+s.cnt
  low:∃ y∈s.stk,s.low u=s.num y∧RN rows u y
  lown:s.low u≤s.num u
  seen:∀ y∈dn,s.num y.toNat≠0
  edge1:∀ y∈dn,y.toNat∈s0.stk→s.low u≤s0.num y.toNat
  edge2:∀ x∈s.stk,x ∉ s0.stk→x≠u→∀ y∈s0.stk,(y:Int)∈rows.getD x []→s.low u≤s0.num y
section
variable {rows:List (List Int)} {s s' s0:TS} {g:List Nat} {u v:Nat}
theorem TI.nd (h:TI rows s g):s.stk.Nodup:=h.srt.imp fun {a b} hab he=>by rw [he] at hab;omega
theorem unv_upd {N:Nat} {num:Nat→Int} {u:Nat} {n:Int} (hu:u < N) (h0:num u=0) (hn:n≠0):unvN N (upd num u n)+1=unvN N num:=by
  unfold unvN
  induction N with
  | zero=>omega
  | succ N ih =>
    rw [List.range_succ,List.filter_append,List.filter_append,List.length_append,List.length_append]
    by_cases h:u=N
    · subst h
      have e:(List.range u).filter (fun x=>decide (upd num u n x=0))=(List.range u).filter (fun x=>decide (num x=0)):=by
        refine List.filter_congr fun x hx=>?_
        have:=List.mem_range.1 hx
        rw [z43 _ _ (by omega)]
      rw [e]
      simp [z28,h0,hn]
    · have:=ih (by omega)
      have e:([N].filter fun x=>decide (upd num u n x=0))=([N].filter fun x=>decide (num x=0)):=by
        simp only [List.filter_cons,List.filter_nil,z43 num n (show N≠u by omega)]
      rw [e]
      omega
theorem TI.enter (h:TI rows s g) (hu:s.num u=0) (hN:u < rows.length) (hg:∀ x∈g,RN rows x u):TI rows (z177 u s) (u::g):=by
  have hus:u ∉ s.stk:=fun hm=>((h.stk u).1 hm).1 hu
  have hne:∀ x∈s.stk,x≠u:=fun x hx e=>hus (e ▸ hx)
  have hnum:∀ x,x≠u→(z177 u s).num x=s.num x:=fun x hx=>z43 _ _ hx
  have hnu:(z177 u s).num u=s.cnt+1:=z28 _ _ _
  have hst:∀ x,x∈(z177 u s).stk↔x∈s.stk∨x=u:=fun x=>by simp [z177]
  have hnz:∀ x,s.num x≠0→(z177 u s).num x≠0:=fun x hx=>by
    by_cases e:x=u
    · subst e;exact absurd hu hx
    · rw [hnum x e];exact hx
  refine ⟨?_,fun x=>?_,fun x hx=>?_,fun x=>?_,h.pw,fun x hx=>?_,fun x hx=>?_,fun x y hx hxg he=>?_,fun x hx y hy hxy=>?_,fun y hy=>?_,h.cl,h.sc,?_⟩
  · show (s.stk++[u]).Pairwise _
    rw [List.pairwise_append]
    refine ⟨h.srt.imp_of_mem fun ha hb hab=>by rw [hnum _ (hne _ ha),hnum _ (hne _ hb)];exact hab,by simp,fun a ha b hb=>?_⟩
    rw [List.mem_singleton.1 hb,hnum _ (hne a ha),hnu]
    have:=(h.nn a).2
    omega
  · rw [hst]
    by_cases e:x=u
    · subst e
      have:=(h.nn x).2
      simp only [or_true,true_iff]
      exact ⟨by rw [hnu];omega,h.unv x hu⟩
    · rw [hnum x e]
      simp only [e,or_false]
      exact h.stk x
  · by_cases e:x=u
    · rw [e];exact hN
    · rw [hnum x e] at hx;exact h.lt x hx
  · show 0≤(z177 u s).num x∧(z177 u s).num x≤((s.cnt+1:Nat):Int)
    by_cases e:x=u
    · rw [e,hnu];omega
    · rw [hnum x e];have:=h.nn x;omega
  · by_cases e:x=u
    · subst e;exact h.unv x hu
    · rw [hnum x e] at hx;exact h.unv x hx
  · rw [hst]
    rcases List.mem_cons.1 hx with e|hx
    · exact .inr e
    · exact .inl (h.gs x hx)
  · have e:x≠u:=fun e=>hxg (by simp [e])
    rw [hnum x e] at hx
    exact hnz y (h.blk x y hx (fun hm=>hxg (by simp [hm])) he)
  · rcases (hst x).1 hx with hx1|rfl
    · rcases (hst y).1 hy with hy1|rfl
      · rw [hnum _ (hne x hx1),hnum _ (hne y hy1)] at hxy
        exact h.up x hx1 y hy1 hxy
      · obtain ⟨z,hz,_,hr⟩:=h.gr x hx1
        exact hr.trans (hg z hz)
    · rcases (hst y).1 hy with hy|rfl
      · rw [hnu,hnum _ (hne y hy)] at hxy
        have:=(h.nn y).2
        omega
      · exact .refl
  · rcases (hst y).1 hy with hy|rfl
    · obtain ⟨z,hz,h1,hr⟩:=h.gr y hy
      exact ⟨z,by simp [hz],by rw [hnum _ (hne y hy),hnum _ (hne z (h.gs z hz))];exact h1,hr⟩
    · exact ⟨y,by simp,Int.le_refl _,.refl⟩
  · have:=unv_upd (num:=s.num) (n:=s.cnt+1) hN hu (by omega)
    have h2:=h.ct
    show s.cnt+1+unvN rows.length (upd s.num u (s.cnt+1))=_
    omega
theorem TI.low {m:Int} (h:TI rows s g):TI rows (tLow u m s) g:=⟨h.srt,h.stk,h.lt,h.nn,h.pw,h.unv,h.gs,h.blk,h.up,h.gr,h.cl,h.sc,h.ct⟩
theorem TL.start (h:TI rows s g) (hu:s.num u=0) (hN:u < rows.length) (hg:∀ x∈g,RN rows x u):TL rows s (z177 u s) g u []:=by
  have hne:∀ x,s.num x≠0→x≠u:=fun x hx e=>hx (e ▸ hu)
  refine ⟨h.enter hu hN hg,fun x hx=>⟨z43 _ _ (hne x hx),z43 _ _ (hne x hx),rfl⟩,⟨[],rfl⟩,z28 _ _ _,Nat.lt_succ_self _,?_,⟨u,by simp [z177],?_,.refl⟩,?_,by simp,by simp,fun x hx hx2 hxu=>?_⟩
  · show s.prt+s.cnt+1≤s.prt+(s.cnt+1);omega
  · show upd s.low u _ u=upd s.num u _ u;rw [z28,z28]
  · show upd s.low u _ u≤upd s.num u _ u;rw [z28,z28];exact Int.le_refl _
  · have:x∈s.stk++[u]:=hx
    rcases List.mem_append.1 this with h1|h1
    · exact absurd h1 hx2
    · exact absurd (List.mem_singleton.1 h1) hxu
theorem z408 (u:Nat) (m:Int) (s:TS):(tLow u m s).low u=min (s.low u) m:=z28 _ _ _
theorem low_ne {u x:Nat} (m:Int) (s:TS) (h:x≠u):(tLow u m s).low x=s.low x:=z43 _ _ h
theorem TL.edge {dn : List Int} {rec : Nat → TS → TS} (h : TL rows s0 s g u dn) (h0 : TI rows s0 g) (hu0 : s0.num u = 0) {v : Int} (hv : v ∈ rows.getD u []) (hvN : 0 ≤ v ∧ v < rows.length)
    (hrec:s.num v.toNat=0→TP rows s (rec v.toNat s) (u::g) v.toNat):TL rows s0 (z335 rec u s v) g u (dn++[v]):=by
  obtain ⟨w,rfl⟩:∃ w:Nat,v=w:=⟨v.toNat,by omega⟩
  simp only [Int.toNat_natCast] at hrec
  have hs0:∀ x∈s0.stk,x∈s.stk:=fun x hx=>by obtain ⟨B,e⟩:=h.pref;rw [e];simp [hx]
  have hnu:s.num u≠0:=by rw [h.num];omega
  unfold z335
  simp only [Int.toNat_natCast]
  by_cases hw:s.num w=0
  · rw [if_pos hw]
    have hp:=hrec hw
    generalize rec w s=s' at *
    obtain ⟨B,hB⟩:=h.pref
    obtain ⟨B',hB'⟩:=hp.pref
    have hls:∀ x∈s.stk,x∈s'.stk:=fun x hx=>by rw [hB'];simp [hx]
    have hku:=hp.keep u hnu
    refine ⟨hp.inv.low,fun x hx=>?_,⟨B++B',?_⟩,?_,?_,?_,?_,?_,fun y hy=>?_,fun y hy hy2=>?_,fun x hx hx2 hxu y hy he=>?_⟩
    · have hxu:x≠u:=fun e=>hx (e ▸ hu0)
      obtain ⟨a1,a2,a3⟩:=h.keep x hx
      obtain ⟨b1,b2,b3⟩:=hp.keep x (by rw [a1];exact hx)
      exact ⟨b1.trans a1,by rw [low_ne _ _ hxu,b2,a2],b3.trans a3⟩
    · show s'.stk=_;rw [hB',hB];simp
    · show s'.num u=_;rw [hku.1,h.num]
    · have:=h.cnt;have:=hp.cnt;show s0.cnt < s'.cnt;omega
    · have:=h.prt;have:=hp.prt;show s'.prt+s0.cnt+1≤s0.prt+s'.cnt;omega
    · rw [z408]
      obtain ⟨y,hy,h1,h2⟩:=h.low
      have hyz:s.num y≠0:=((h.inv.stk y).1 hy).1
      have hyk:=hp.keep y hyz
      rcases Int.le_total (s'.low u) (s'.low w) with hle|hle
      · exact ⟨y,hls y hy,by rw [Int.min_eq_left hle,hku.2.1,h1];exact hyk.1.symm,h2⟩
      · rcases hp.low with h3|⟨z,hz,h3,h4⟩
        · have h5:=hp.num
          have h6:=(h.inv.nn y).2
          refine ⟨y,hls y hy,?_,h2⟩
          show _=s'.num y
          rw [hyk.1,← h1,← hku.2.1]
          have:s'.low u=s.num y:=by rw [hku.2.1,h1]
          omega
        · exact ⟨z,hz,by rw [Int.min_eq_right hle];exact h3,(RN.edge hv).trans h4⟩
    · rw [z408]
      have:=h.lown
      have e:(tLow u (s'.low w) s').num u=s.num u:=hku.1
      rw [e,hku.2.1];omega
    · rcases List.mem_append.1 hy with hy|hy
      · have h1:=h.seen y hy
        show s'.num _≠0
        rw [(hp.keep _ h1).1];exact h1
      · rw [List.mem_singleton.1 hy]
        show s'.num w≠0
        rw [hp.num];omega
    · rw [z408]
      rcases List.mem_append.1 hy with hy|hy
      · have:=h.edge1 y hy hy2
        rw [hku.2.1];omega
      · rw [List.mem_singleton.1 hy] at hy2
        have:=((h.inv.stk w).1 (hs0 w hy2)).1
        exact absurd hw this
    · rw [z408]
      by_cases hxs:x∈s.stk
      · have:=h.edge2 x hxs hx2 hxu y hy he
        rw [hku.2.1];omega
      · have h1:=hp.edge x hx hxs y (hs0 y hy) he
        have h2:=(h.keep y ((h0.stk y).1 hy).1).1
        omega
  · rw [if_neg hw]
    have base:∀ m:Int,(∃ y∈s.stk,m=s.num y∧RN rows u y)→(w∈s0.stk→m≤s0.num w)→TL rows s0 (tLow u m s) g u (dn++[(w:Int)]):=by
      intro m hm hmw
      refine ⟨h.inv.low,fun x hx=>?_,h.pref,h.num,h.cnt,h.prt,?_,?_,fun y hy=>?_,fun y hy hy2=>?_,fun x hx hx2 hxu y hy he=>?_⟩
      · have hxu:x≠u:=fun e=>hx (e ▸ hu0)
        obtain ⟨a1,a2,a3⟩:=h.keep x hx
        exact ⟨a1,by rw [low_ne _ _ hxu,a2],a3⟩
      · rw [z408]
        rcases Int.le_total (s.low u) m with hle|hle
        · rw [Int.min_eq_left hle];exact h.low
        · rw [Int.min_eq_right hle];exact hm
      · rw [z408];have:=h.lown;show _≤s.num u;omega
      · rcases List.mem_append.1 hy with hy|hy
        · exact h.seen y hy
        · rw [List.mem_singleton.1 hy];exact hw
      · rw [z408]
        rcases List.mem_append.1 hy with hy|hy
        · have:=h.edge1 y hy hy2;omega
        · rw [List.mem_singleton.1 hy] at hy2 ⊢
          have:=hmw hy2
          simp only [Int.toNat_natCast];omega
      · rw [z408];have:=h.edge2 x hx hx2 hxu y hy he;omega
    by_cases hpt:s.part w < 0
    · rw [if_pos hpt]
      have hws:w∈s.stk:=(h.inv.stk w).2 ⟨hw,by have:=h.inv.pw w;omega⟩
      refine base _ ⟨w,hws,rfl,.edge hv⟩ fun hm=>?_
      rw [(h.keep w ((h0.stk w).1 hm).1).1]
      exact Int.le_refl _
    · rw [if_neg hpt]
      refine ⟨h.inv,h.keep,h.pref,h.num,h.cnt,h.prt,h.low,h.lown,fun y hy=>?_,fun y hy hy2=>?_,h.edge2⟩
      · rcases List.mem_append.1 hy with hy|hy
        · exact h.seen y hy
        · rw [List.mem_singleton.1 hy];exact hw
      · rcases List.mem_append.1 hy with hy|hy
        · exact h.edge1 y hy hy2
        · rw [List.mem_singleton.1 hy] at hy2
          have h1:=((h0.stk w).1 hy2)
          have h2:=(h.keep w h1.1).2.2
          have h3:=h1.2
          omega
theorem z824 {A B:List Nat} {u:Nat} (h:u ∉ A):(A++u::B).takeWhile (· != u)=A∧(A++u::B).dropWhile (· != u)=u::B:=by
  induction A with
  | nil=>simp
  | cons a A ih =>
    have hau:a≠u:=fun e=>h (by simp [e])
    obtain ⟨h1,h2⟩:=ih fun hm=>h (by simp [hm])
    have hb:(a != u)=true:=by simpa using hau
    simp only [List.cons_append,List.takeWhile_cons,List.dropWhile_cons,hb,if_true,h1,h2,and_self]
theorem TL.fin (h:TL rows s0 s g u (rows.getD u [])) (h0:TI rows s0 g) (hu0:s0.num u=0):TP rows s0 (tEnd u s) g u:=by
  obtain ⟨B,hB⟩:=h.pref
  have hs0:∀ x∈s0.stk,x∈s.stk:=fun x hx=>by rw [hB];simp [hx]
  have hu_s0:u ∉ s0.stk:=fun hm=>((h0.stk u).1 hm).1 hu0
  have hus:u∈s.stk:=by rw [hB];simp
  have hk:∀ x∈s0.stk,s.num x=s0.num x:=fun x hx=>(h.keep x ((h0.stk x).1 hx).1).1
  have hsrt:=h.inv.srt
  rw [hB,List.pairwise_append,List.pairwise_cons] at hsrt
  have hblk:∀ x y:Nat,s.num x≠0→x ∉ g→(y:Int)∈rows.getD x []→s.num y≠0:=fun x y hx hxg he=>by
    by_cases e:x=u
    · subst e;have:=h.seen _ he;simpa using this
    · exact h.inv.blk x y hx (by simp [e,hxg]) he
  have hnd:=h.inv.nd
  rw [hB,List.nodup_append] at hnd
  have hedge:∀ x∈s.stk,x ∉ s0.stk→∀ y∈s0.stk,(y:Int)∈rows.getD x []→s.low u≤s0.num y:=fun x hx hx2 y hy he=>by
    by_cases e:x=u
    · subst e;have:=h.edge1 _ he (by simpa using hy);simpa using this
    · exact h.edge2 x hx hx2 e y hy he
  unfold tEnd
  by_cases hl:s.low u=s.num u
  · rw [if_pos hl]
    have hcut:=z824 (A:=s0.stk) (B:=B) hu_s0
    have hstk:(tPop u s).stk=s0.stk:=by show s.stk.takeWhile _=_;rw [hB];exact hcut.1
    have hpart:∀ x,(tPop u s).part x=if x∈u::B then (s.prt:Int) else s.part x:=fun x=>by
      show (if x∈s.stk.dropWhile _ then _ else _)=_
      rw [hB,hcut.2]
    have hnum:∀ x,(tPop u s).num x=s.num x:=fun _=>rfl
    have hBs:∀ x∈u::B,x∈s.stk∧x ∉ s0.stk:=fun x hx=>⟨by rw [hB];exact List.mem_append_right _ hx,fun hm=>hnd.2.2 x hm x hx rfl⟩
    have hBp:∀ x∈u::B,s.part x=-1:=fun x hx=>((h.inv.stk x).1 (hBs x hx).1).2
    have hgB:∀ x∈u::B,x ∉ g:=fun x hx hm=>(hBs x hx).2 (h0.gs x hm)
    have h0B:∀ x∈s0.stk,x ∉ u::B:=fun x hx hm=>(hBs x hm).2 hx
    have hcl:∀ x y:Nat,0≤(tPop u s).part x→(y:Int)∈rows.getD x []→0≤(tPop u s).part y:=by
      intro x y hx he
      rw [hpart] at hx ⊢
      by_cases hyB:y∈u::B
      · rw [if_pos hyB];omega
      · rw [if_neg hyB]
        by_cases hxB:x∈u::B
        · have hxs:=(hBs x hxB).1
          have hy:=hblk x y ((h.inv.stk x).1 hxs).1 (hgB x hxB) he
          rcases h.inv.pw y with h1|h1
          · have hys:y∈s.stk:=(h.inv.stk y).2 ⟨hy,h1⟩
            rw [hB] at hys
            rcases List.mem_append.1 hys with h2|h2
            · have h3:=hedge x hxs (hBs x hxB).2 y h2 he
              have h4:=hsrt.2.2 y h2 u (by simp)
              rw [hk y h2] at h4
              omega
            · exact absurd h2 hyB
          · exact h1.1
        · rw [if_neg hxB] at hx
          exact h.inv.cl x y hx he
    have hreach:∀ x y:Nat,0≤(tPop u s).part x→RN rows x y→0≤(tPop u s).part y:=fun x y hx hr=>hr.inv hcl hx
    have hreach0:∀ x y:Nat,0≤s.part x→RN rows x y→0≤s.part y:=fun x y hx hr=>hr.inv h.inv.cl hx
    have hdown:∀ z∈u::B,RN rows u z:=fun z hz=>by
      refine h.inv.up u hus z (hBs z hz).1 ?_
      rcases List.mem_cons.1 hz with rfl|hz
      · exact Int.le_refl _
      · have:=hsrt.2.1.1 z hz;omega
    have hback:∀ z∈u::B,RN rows z u:=fun z hz=>by
      obtain ⟨x,hx,_,hr⟩:=h.inv.gr z (hBs z hz).1
      rcases List.mem_cons.1 hx with rfl|hx
      · exact hr
      · have h1:=hreach z x (by rw [hpart,if_pos hz];omega) hr
        have hx0:=h0.gs x hx
        rw [hpart,if_neg (h0B x hx0)] at h1
        have:=((h.inv.stk x).1 (hs0 x hx0)).2
        omega
    refine ⟨⟨?_,fun x=>?_,h.inv.lt,h.inv.nn,fun x=>?_,fun x hx=>?_,fun x hx=>?_,hblk,fun x hx y hy hxy=>?_,fun y hy=>?_,hcl,fun x y hx=>?_,h.inv.ct⟩,fun x hx=>?_,⟨[],by rw [hstk];simp⟩,h.num,h.cnt,?_,.inl hl,fun x hx hx2=>absurd (hstk ▸ hx) hx2⟩
    · rw [hstk];exact hsrt.1
    · rw [hstk,hpart]
      constructor
      · intro hx
        rw [if_neg (h0B x hx)]
        exact (h.inv.stk x).1 (hs0 x hx)
      · rintro ⟨h1,h2⟩
        split at h2
        · omega
        · rename_i hxB
          have:=(h.inv.stk x).2 ⟨h1,h2⟩
          rw [hB] at this
          rcases List.mem_append.1 this with h3|h3
          · exact h3
          · exact absurd h3 hxB
    · rw [hpart]
      show _∨_∧_ < ((s.prt+1:Nat):Int)
      split
      · right;omega
      · have:=h.inv.pw x;omega
    · rw [hpart,if_neg]
      · exact h.inv.unv x hx
      · intro hm;exact ((h.inv.stk x).1 (hBs x hm).1).1 hx
    · rw [hstk];exact h0.gs x hx
    · rw [hstk] at hx hy;exact h.inv.up x (hs0 x hx) y (hs0 y hy) hxy
    · rw [hstk] at hy
      obtain ⟨x,hx,h1,h2⟩:=h0.gr y hy
      exact ⟨x,hx,by rw [hnum,hnum,hk y hy,hk x (h0.gs x hx)];exact h1,h2⟩
    · rw [hpart x,hpart y]
      rw [hpart] at hx
      by_cases hxB:x∈u::B
      · rw [if_pos hxB]
        by_cases hyB:y∈u::B
        · rw [if_pos hyB]
          exact ⟨fun _=>⟨(hback x hxB).trans (hdown y hyB),(hback y hyB).trans (hdown x hxB)⟩,fun _=>rfl⟩
        · rw [if_neg hyB]
          constructor
          · intro e;have:=h.inv.pw y;omega
          · rintro ⟨r1,r2⟩
            have h1:=hreach x y (by rw [hpart,if_pos hxB];omega) r1
            rw [hpart,if_neg hyB] at h1
            have h2:=hreach0 y x h1 r2
            have:=hBp x hxB
            omega
      · rw [if_neg hxB] at hx ⊢
        by_cases hyB:y∈u::B
        · rw [if_pos hyB]
          constructor
          · intro e;have:=h.inv.pw x;omega
          · rintro ⟨r1,_⟩
            have h2:=hreach0 x y hx r1
            have:=hBp y hyB
            omega
        · rw [if_neg hyB];exact h.inv.sc x y hx
    · obtain ⟨a1,a2,a3⟩:=h.keep x hx
      refine ⟨a1,a2,?_⟩
      rw [hpart,if_neg]
      · exact a3
      · intro hm
        have h1:=hBp x hm
        exact (hBs x hm).2 ((h0.stk x).2 ⟨hx,by rw [← a3];exact h1⟩)
    · have:=h.prt;show s.prt+1+s0.cnt≤s0.prt+s.cnt;omega
  · rw [if_neg hl]
    have hlt:s.low u < s.num u:=by have:=h.lown;omega
    refine ⟨⟨h.inv.srt,h.inv.stk,h.inv.lt,h.inv.nn,h.inv.pw,h.inv.unv,fun x hx=>h.inv.gs x (by simp [hx]),hblk,h.inv.up,fun y hy=>?_,h.inv.cl,h.inv.sc,h.inv.ct⟩,h.keep,⟨u::B,hB⟩,h.num,h.cnt,by have:=h.prt;omega,.inr h.low,hedge⟩
    obtain ⟨x,hx,h1,h2⟩:=h.inv.gr y hy
    rcases List.mem_cons.1 hx with rfl|hx
    · obtain ⟨z,hz,h3,h4⟩:=h.low
      have hz0:z∈s0.stk:=by
        rw [hB] at hz
        rcases List.mem_append.1 hz with h5|h5
        · exact h5
        · rcases List.mem_cons.1 h5 with rfl|h5
          · omega
          · have:=hsrt.2.1.1 z h5;omega
      obtain ⟨t,ht,h5,h6⟩:=h0.gr z hz0
      refine ⟨t,ht,?_,(h2.trans h4).trans h6⟩
      rw [hk t (h0.gs t ht)]
      have:=hk z hz0
      omega
    · exact ⟨x,hx,h1,h2⟩
end
theorem z960 {N:Nat} {num:Nat→Int} {u:Nat} (hu:u < N) (h0:num u=0):0 < unvN N num:=by
  unfold unvN
  exact List.length_pos_iff.2 (List.ne_nil_of_mem (List.mem_filter.2 ⟨List.mem_range.2 hu,by simpa using h0⟩))
theorem z571 {rows:List (List Int)} (hr:∀ r∈rows,InN rows.length r):∀ (f:Nat) (s:TS) (g:List Nat) (u:Nat),unvN rows.length s.num≤f→TI rows s g→s.num u=0→u < rows.length→(∀ x∈g,RN rows x u)→TP rows s (z206 rows f u s) g u
  | 0,s,g,u,hf,_,h0,hN,_=>by have:=z960 (num:=s.num) hN h0;omega
  | f+1,s,g,u,hf,h,h0,hN,hg=>by
    have fold:∀ (l dn:List Int) (t:TS),(∀ v∈l,v∈rows.getD u [])→TL rows s t g u dn→TL rows s (l.foldl (z335 (z206 rows f) u) t) g u (dn++l):=by
      intro l
      induction l with
      | nil=>intro dn t _ ht;simpa using ht
      | cons v l ih =>
        intro dn t hl ht
        have hv:=hl v (by simp)
        have hvN:=z178 hr u v hv
        have:=ht.edge h h0 hv hvN (rec:=z206 rows f) fun hv0=>by
          refine z571 hr f t (u::g) v.toNat ?_ ht.inv hv0 (by omega) fun x hx=>?_
          · have h1:=ht.cnt;have h2:=ht.inv.ct;have h3:=h.ct;omega
          · have he:RN rows u v.toNat:=.edge (by rw [Int.toNat_of_nonneg hvN.1];exact hv)
            rcases List.mem_cons.1 hx with rfl|hx
            · exact he
            · exact (hg x hx).trans he
        have h2:=ih (dn++[v]) _ (fun y hy=>hl y (by simp [hy])) this
        rw [List.append_assoc] at h2
        exact h2
    have h1:=fold (rows.getD u []) [] _ (fun _ h=>h) (TL.start h h0 hN hg)
    rw [List.nil_append] at h1
    exact h1.fin h h0
theorem z1093 {rows : List (List Int)} (hr : ∀ r ∈ rows, InN rows.length r) {f : Nat} {s : TS} {g : List Nat} {u : Nat} (hf : unvN rows.length s.num ≤ f + 1) (h : TI rows s g) (h0 : s.num u = 0) (hN : u < rows.length) (hg : ∀ x ∈ g, RN rows x u) :
    ∀ k,k≤(rows.getD u []).length→TL rows s (((rows.getD u []).take k).foldl (z335 (z206 rows f) u) (z177 u s)) g u ((rows.getD u []).take k)
  | 0,_=>TL.start h h0 hN hg
  | k+1,hk=>by
    have ht:=z1093 hr hf h h0 hN hg k (by omega)
    have hv:(rows.getD u [])[k]∈rows.getD u []:=List.getElem_mem _
    have hvN:=z178 hr u _ hv
    rw [List.take_succ_eq_append_getElem hk,List.foldl_append]
    refine ht.edge h h0 hv hvN fun hv0=>?_
    refine z571 hr f _ (u::g) _ ?_ ht.inv hv0 (by omega) fun x hx=>?_
    · have h1:=ht.cnt;have h2:=ht.inv.ct;have h3:=h.ct;omega
    · have he:RN rows u ((rows.getD u [])[k]).toNat:=.edge (by rw [Int.toNat_of_nonneg hvN.1];exact hv)
      rcases List.mem_cons.1 hx with rfl|hx
      · exact he
      · exact (hg x hx).trans he
theorem TI.init (rows:List (List Int)):TI rows tStart []:=by
  refine ⟨.nil,fun x=>by simp [tStart],fun x hx=>absurd rfl hx,fun x=>by simp [tStart],fun x=>.inl rfl,fun _ _=>rfl,by simp,fun x y hx=>absurd rfl hx,by simp [tStart],by simp [tStart],fun x y hx=>?_,fun x y hx=>?_,?_⟩
  · have:(0:Int)≤-1:=hx;omega
  · have:(0:Int)≤-1:=hx;omega
  · show 0+unvN rows.length (fun _=>0)=_
    unfold unvN
    rw [List.filter_eq_self.2 (by simp)]
    simp
structure TT (rows:List (List Int)) (s:TS) (k:Nat):Prop where
  inv:TI rows s []
  vis:∀ x,x < k→s.num x≠0
  prt:s.prt≤s.cnt
theorem TT.step {rows:List (List Int)} (hr:∀ r∈rows,InN rows.length r) {s:TS} {k:Nat} (hk:k < rows.length) (h:TT rows s k):TT rows (tTop rows s k) (k+1):=by
  unfold tTop
  by_cases h0:s.num k=0
  · rw [if_pos h0]
    have hp:=z571 hr rows.length s [] k (by have:=h.inv.ct;omega) h.inv h0 hk (by simp)
    refine ⟨hp.inv,fun x hx=>?_,?_⟩
    · by_cases e:x=k
      · subst e;rw [hp.num];omega
      · have h1:=h.vis x (by omega)
        rw [(hp.keep x h1).1];exact h1
    · have:=hp.prt;have:=h.prt;omega
  · rw [if_neg h0]
    refine ⟨h.inv,fun x hx=>?_,h.prt⟩
    by_cases e:x=k
    · subst e;exact h0
    · exact h.vis x (by omega)
theorem z580 {rows:List (List Int)} (hr:∀ r∈rows,InN rows.length r):∀ k,k≤rows.length→TT rows ((List.range k).foldl (tTop rows) tStart) k
  | 0,_=>⟨TI.init rows,fun x hx=>by omega,Nat.le_refl _⟩
  | k+1,hk=>by
    rw [List.range_succ,List.foldl_append]
    exact (z580 hr k (by omega)).step hr (by omega)
theorem tAll_ok {rows:List (List Int)} (hr:∀ r∈rows,InN rows.length r):(∀ x,x < rows.length→0≤(tAll rows).part x∧(tAll rows).part x < rows.length)∧∀ x y,x < rows.length→((tAll rows).part y=(tAll rows).part x↔RN rows x y∧RN rows y x):=by
  have h:=z580 hr rows.length (Nat.le_refl _)
  have hp:∀ x,x < rows.length→0≤(tAll rows).part x:=fun x hx=>by
    have h1:=h.vis x hx
    rcases h.inv.pw x with h2|h2
    · obtain ⟨z,hz,_⟩:=h.inv.gr x ((h.inv.stk x).2 ⟨h1,h2⟩)
      cases hz
    · exact h2.1
  refine ⟨fun x hx=>⟨hp x hx,?_⟩,fun x y hx=>h.inv.sc x y (hp x hx)⟩
  have h2:=h.inv.pw x
  have h3:=h.prt
  have h4:=h.inv.ct
  have h5:=hp x hx
  have h6:(tAll rows).part x < (tAll rows).prt:=by
    rcases h2 with h2|h2
    · have:(tAll rows).part x=-1:=h2
      omega
    · exact h2.2
  have h7:(tAll rows).prt≤(tAll rows).cnt:=h3
  have h8:(tAll rows).cnt+unvN rows.length (tAll rows).num=rows.length:=h4
  omega
theorem RN.rp {rows:List (List Int)} {x y:Nat} (h:RN rows x y):RP rows [(x:Int)] y:=by
  induction h with
  | refl=>exact .base (by simp)
  | step _ e ih=>exact .step ih (by simpa using e)
theorem RP.rn {rows:List (List Int)} (hr:∀ r∈rows,InN rows.length r) {x:Nat} {y:Int} (h:RP rows [(x:Int)] y):0≤y∧RN rows x y.toNat:=by
  induction h with
  | base hb=>rw [List.mem_singleton.1 hb];exact ⟨by omega,.refl⟩
  | step _ e ih =>
    have:=z178 hr _ _ e
    exact ⟨this.1,.step ih.2 (by rw [Int.toNat_of_nonneg this.1];exact e)⟩
theorem cyc_iff {rows:List (List Int)} (hr:∀ r∈rows,InN rows.length r) {x:Nat} (hx:x < rows.length):Cyc rows x↔(x:Int)∈rows.getD x []∨∃ y,y < rows.length∧y≠x∧RN rows x y∧RN rows y x:=by
  constructor
  · rintro ⟨y,hy,h⟩
    have hyN:=z178 hr _ _ hy
    obtain ⟨w,rfl⟩:∃ w:Nat,y=w:=⟨y.toNat,by omega⟩
    have h2:=(RP.rn hr h).2
    simp only [Int.toNat_natCast] at h2 hy
    by_cases e:w=x
    · subst e;exact .inl hy
    · exact .inr ⟨w,by omega,e,.edge hy,h2⟩
  · rintro (h|⟨y,hy,hne,h1,h2⟩)
    · exact ⟨x,by simpa using h,.base (by simp)⟩
    · have key:∀ z,RN rows x z→z=x∨∃ w:Nat,(w:Int)∈rows.getD x []∧RN rows w z:=by
        intro z hz
        induction hz with
        | refl=>exact .inl rfl
        | step _ e ih =>
          rcases ih with rfl|⟨w,hw,ih⟩
          · exact .inr ⟨_,e,.refl⟩
          · exact .inr ⟨w,hw,.step ih e⟩
      rcases key y h1 with h3|⟨w,hw,h3⟩
      · exact absurd h3 hne
      · exact ⟨w,by simpa using hw,(h3.trans h2).rp⟩
end Go.Gl

namespace Go.Gl
def z220:Nat→List Int→List (List Int×Int)
  | _,[]=>[]
  | k,p::L=>([p],(k:Int))::z220 (k+1) L
theorem z500:∀ (k:Nat) (L:List Int),(z220 k L).length=L.length
  | _,[]=>rfl
  | k,p::L=>by rw [z220,List.length_cons,z500,List.length_cons]
theorem z481 (p:Int):∀ (k:Nat) (L:List Int),mget (z220 k L) [p]=if p∈L then some ((k+L.idxOf p:Nat):Int) else none
  | _,[]=>rfl
  | k,q::L=>by
    rw [z220,mget,z481 p (k+1) L]
    by_cases h:p=q
    · subst h;simp
    · have h2:¬ [p]=[q]:=by simpa using h
      have h3:¬ q=p:=fun e=>h e.symm
      rw [if_neg h2]
      simp only [List.mem_cons,h,false_or,List.idxOf_cons]
      have h4:(q == p)=false:=by simpa using h3
      rw [h4]
      by_cases hm:p∈L
      · rw [if_pos hm,if_pos hm]
        simp only [cond_false]
        congr 2;omega
      · rw [if_neg hm,if_neg hm]
theorem z686 {p:Int} (n:Int):∀ (k:Nat) (L:List Int),p ∉ L→mput (z220 k L) [p] n=z220 k L++[([p],n)]
  | _,[],_=>rfl
  | k,q::L,h=>by
    have h1:p≠q:=fun e=>h (by simp [e])
    rw [z220,mput,if_neg (by simpa using h1),z686 n (k+1) L (fun hm=>h (by simp [hm]))];rfl
theorem z711 (p:Int):∀ (k:Nat) (L:List Int),z220 k (L++[p])=z220 k L++[([p],((k+L.length:Nat):Int))]
  | k,[]=>rfl
  | k,q::L=>by
    rw [List.cons_append,z220,z711 p (k+1) L,z220,List.cons_append,List.length_cons]
    congr 4;omega
def metL (P:List Int) (i:Nat):List Int:=z72 [] (P.take i)
def nmI (P:List Int) (i:Nat):Int:=(((metL P P.length).idxOf (P.getD i 0):Nat):Int)
theorem z347 {P:List Int} {i:Nat} (h:i < P.length):metL P (i+1)=z149 (metL P i) P[i]:=by
  unfold metL z72
  rw [List.take_succ_eq_append_getElem h,List.foldl_append];rfl
theorem z844 {P:List Int} {i j:Nat} (h:i≤j) (hj:j≤P.length):∃ t,metL P j=metL P i++t:=by
  induction j with
  | zero => obtain rfl : i = 0 := by omega
            exact ⟨[],by simp⟩
  | succ j ih =>
    rcases Nat.lt_or_ge j i with h1|h1
    · obtain rfl:i=j+1:=by omega
      exact ⟨[],by simp⟩
    · obtain ⟨t,ht⟩:=ih h1 (by omega)
      rw [z347 (by omega)]
      obtain ⟨t2,ht2⟩:=z446 (metL P j) P[j]
      exact ⟨t++t2,by rw [ht2,ht];simp⟩
theorem z602 {P:List Int} {i:Nat} (h:i < P.length):P[i]∈metL P (i+1):=by
  rw [z347 h];unfold z149;split
  · assumption
  · simp
theorem z603 {P:List Int} {i:Nat} (h:i < P.length):P[i]∈metL P P.length:=by
  obtain ⟨t,ht⟩:=z844 (P:=P) (i:=i+1) (j:=P.length) h (Nat.le_refl _)
  rw [ht];exact List.mem_append_left _ (z602 h)
theorem nmI_at {P:List Int} {i:Nat} (h:i < P.length):nmI P i=(((metL P (i+1)).idxOf P[i]:Nat):Int):=by
  unfold nmI
  obtain ⟨t,ht⟩:=z844 (P:=P) (i:=i+1) (j:=P.length) h (Nat.le_refl _)
  rw [ht,z19 h,List.idxOf_append,if_pos (z602 h)]
theorem z845 (P:List Int):∀ i,i≤P.length→(metL P i).length≤i
  | 0,_=>by simp [metL,z72]
  | i+1,h=>by
    have ih:=z845 P i (by omega)
    rw [z347 (by omega)]
    unfold z149;split
    · omega
    · rw [List.length_append,List.length_singleton];omega
theorem nmI_lt {P:List Int} {i:Nat} (h:i < P.length):0≤nmI P i∧nmI P i < P.length:=by
  have h1:=List.idxOf_lt_length_of_mem (z603 h)
  have h2:=z845 P P.length (Nat.le_refl _)
  unfold nmI
  rw [z19 h];omega
theorem nmI_eq {P:List Int} {i j:Nat} (hi:i < P.length) (hj:j < P.length):nmI P i=nmI P j↔P[i]=P[j]:=by
  unfold nmI
  rw [z19 hi,z19 hj]
  constructor
  · intro h
    have h1:=List.idxOf_lt_length_of_mem (z603 hi)
    have e1:=List.getElem_idxOf h1
    have h2:=List.idxOf_lt_length_of_mem (z603 hj)
    have e2:=List.getElem_idxOf h2
    rw [← e1,← e2]
    congr 1;omega
  · intro h;rw [h]
def cmpL (rows:List (List Int)):List Int:=(List.range rows.length).map fun i=>nmI ((List.range rows.length).map (tAll rows).part) i
theorem z359 (rows:List (List Int)):(cmpL rows).length=rows.length:=by simp [cmpL]
theorem z803 {rows:List (List Int)} {i:Nat} (h:i < rows.length):(cmpL rows).getD i 0=nmI ((List.range rows.length).map (tAll rows).part) i:=by
  rw [z19 (by rw [z359];exact h)];simp [cmpL]
theorem z1064 {rows:List (List Int)} : InN rows.length (cmpL rows):=by
  intro x hx
  obtain ⟨i,hi,rfl⟩:=List.mem_map.1 hx
  have:=nmI_lt (P:=(List.range rows.length).map (tAll rows).part) (i:=i) (by simpa using hi)
  simpa using this
theorem z802 {rows:List (List Int)} (hr:∀ r∈rows,InN rows.length r) {x y:Nat} (hx:x < rows.length) (hy:y < rows.length):(cmpL rows).getD y 0=(cmpL rows).getD x 0↔RN rows x y∧RN rows y x:=by
  rw [z803 hx,z803 hy,nmI_eq (by simpa using hy) (by simpa using hx),← (tAll_ok hr).2 x y hx]
  simp
def cntL (P:List Int) (i:Nat) (v:Nat):Nat:=(P.take i).countP fun p=>decide (p=(v:Int))
theorem z718 {P:List Int} {i:Nat} (h:i < P.length) (v:Nat):cntL P (i+1) v=cntL P i v+if P[i]=(v:Int) then 1 else 0:=by
  unfold cntL
  rw [List.take_succ_eq_append_getElem h,List.countP_append]
  by_cases e:P[i]=(v:Int)<;>simp [e]
theorem cntL_le (P:List Int) (i v:Nat):cntL P i v≤i:=by
  unfold cntL
  have:=List.countP_le_length (p:=fun p:Int=>decide (p=(v:Int))) (l:=P.take i)
  rw [List.length_take] at this;omega
theorem cntL_pos {P:List Int} {i j v:Nat} (hj:j < i) (hp:j < P.length) (e:P[j]=(v:Int)):0 < cntL P i v:=by
  unfold cntL
  rw [List.countP_pos_iff]
  exact ⟨P[j],List.mem_take_iff_getElem.2 ⟨j,by omega,rfl⟩,by simp [e]⟩
theorem z627 {P:List Int} {v:Nat} : ∀ i,i≤P.length→(1 < cntL P i v↔∃ a b,a < b∧∃ h:b < i,∃ h2:b < P.length,∃ h3:a < P.length,P[a]=(v:Int)∧P[b]=(v:Int))
  | 0,_=>by simp [cntL]
  | i+1,hi=>by
    rw [z718 (by omega)]
    constructor
    · intro h
      by_cases e:P[i]=(v:Int)
      · rw [if_pos e] at h
        have h0:0 < cntL P i v:=by omega
        unfold cntL at h0
        rw [List.countP_pos_iff] at h0
        obtain ⟨x,hx,hx2⟩:=h0
        obtain ⟨a,ha,rfl⟩:=List.mem_take_iff_getElem.1 hx
        exact ⟨a,i,by omega,by omega,by omega,by omega,by simpa using hx2,e⟩
      · rw [if_neg e] at h
        obtain ⟨a,b,h1,h2,h3,h4,h5⟩:=(z627 (P:=P) (v:=v) i (by omega)).1 (by omega)
        exact ⟨a,b,h1,by omega,h3,h4,h5⟩
    · rintro ⟨a,b,h1,h2,h3,h4,h5,h6⟩
      by_cases hb:b=i
      · subst hb
        rw [if_pos h6]
        have:=cntL_pos h1 h4 h5
        omega
      · have:=(z627 (P:=P) (v:=v) i (by omega)).2 ⟨a,b,h1,by omega,h3,h4,h5,h6⟩
        omega
noncomputable def cycD (rows:List (List Int)) (x:Nat):Bool:=by classical exact decide (Cyc rows x)
theorem z437 {rows:List (List Int)} {x:Nat} : cycD rows x=true↔Cyc rows x:=by unfold cycD;simp
noncomputable def cycB (rows:List (List Int)):List Bool:=(List.range rows.length).map (cycD rows)
theorem cycB_len (rows:List (List Int)):(cycB rows).length=rows.length:=by simp [cycB]
theorem cyc_cnt {rows:List (List Int)} (hr:∀ r∈rows,InN rows.length r) {x:Nat} (hx:x < rows.length):cycD rows x=(decide (1 < cntL (cmpL rows) rows.length ((cmpL rows).getD x 0).toNat) || decide ((x:Int)∈rows.getD x [])):=by
  have hc:=z1064 (rows:=rows) _ (z353 (Q:=cmpL rows) (k:=x) (by rw [z359];exact hx))
  have hv:(((cmpL rows).getD x 0).toNat:Int)=(cmpL rows).getD x 0:=Int.toNat_of_nonneg hc.1
  rw [Bool.eq_iff_iff,z437,cyc_iff hr hx,Bool.or_eq_true,decide_eq_true_iff,decide_eq_true_iff,z627 _ (by rw [z359];exact Nat.le_refl _),hv]
  have hat:∀ a (h:a < (cmpL rows).length),(cmpL rows)[a]=(cmpL rows).getD a 0:=fun a h=>(z19 h).symm
  have hlen:=z359 rows
  constructor
  · rintro (h|⟨y,hy,hne,h1,h2⟩)
    · exact .inr h
    · left
      have he:=(z802 hr hx hy).2 ⟨h1,h2⟩
      rcases Nat.lt_or_gt_of_ne hne with h3|h3
      · exact ⟨y,x,h3,hx,by omega,by omega,by rw [hat];exact he,by rw [hat]⟩
      · exact ⟨x,y,h3,hy,by omega,by omega,by rw [hat],by rw [hat];exact he⟩
  · rintro (⟨a,b,hab,h2,h3,h4,h5,h6⟩|h)
    · right
      rw [hat] at h5 h6
      have ha:=(z802 hr hx (show a < rows.length by omega)).1 h5
      have hb:=(z802 hr hx (show b < rows.length by omega)).1 h6
      by_cases e:a=x
      · exact ⟨b,by omega,by omega,hb⟩
      · exact ⟨a,by omega,e,ha⟩
    · exact .inl h
end Go.Gl

namespace Go.Gl
def frm (N:Nat) (Q P:List Int):List Int:=(List.range N).map fun v:Nat=>if (v:Int)∈Q then P.getD v 0 else -2
theorem z390 (N:Nat) (Q P:List Int):(frm N Q P).length=N:=by simp [frm]
theorem z1042 (N:Nat) (P:List Int):frm N [] P=List.replicate N (-2):=by
  apply List.ext_getElem (by simp [frm])
  intro i h1 h2
  simp [frm]
theorem frm_set {N:Nat} {Q P:List Int} {v u:Int} (hv:0≤v∧v < N) (hP:P.length=N):(frm N Q P).set v.toNat u=frm N (Q++[v]) (P.set v.toNat u):=by
  apply List.ext_getElem (by simp [frm])
  intro i h1 h2
  have hi:i < N:=by simpa [frm] using h2
  rw [List.getElem_set]
  by_cases e:v.toNat=i
  · have e2:(i:Int)=v:=by omega
    rw [if_pos e]
    simp only [frm,List.getElem_map,List.getElem_range]
    rw [if_pos (by simp [e2]),z19 (by simp;omega),List.getElem_set,if_pos e]
  · have e2:(i:Int)≠v:=by omega
    rw [if_neg e]
    simp only [frm,List.getElem_map,List.getElem_range,List.mem_append,List.mem_singleton,e2,or_false]
    split
    · rw [z19 (by omega),z19 (by simp;omega),List.getElem_set,if_neg e]
    · rfl
section
variable {rows:List (List Int)} {ini:List Int}
theorem z948 (u:Int) (l:List Int):∀ x:List Int×List Int,∃ t,(visPs u x l).1=x.1++t:=by
  intro x;rw [z329];exact z368 _ _
theorem z583 {i j:Nat} (h:i≤j):∃ t,(srS rows ini j).1=(srS rows ini i).1++t:=by
  induction j with
  | zero => obtain rfl : i = 0 := by omega
            exact ⟨[],by simp⟩
  | succ j ih =>
    rcases Nat.lt_or_ge j i with h1|h1
    · obtain rfl:i=j+1:=by omega
      exact ⟨[],by simp⟩
    · obtain ⟨t,ht⟩:=ih h1
      rw [srS];split
      · obtain ⟨t2,ht2⟩:=z948 (srS rows ini j).1[j] (rows.getD ((srS rows ini j).1[j]).toNat []) (srS rows ini j)
        exact ⟨t++t2,by rw [ht2,ht];simp⟩
      · exact ⟨t,ht⟩
theorem z542 {u v:Int} (hv:0≤v):∀ (l:List Int) (x:List Int×List Int),(∀ y∈l,0≤y)→v∈x.1→(visPs u x l).2.getD v.toNat 0=x.2.getD v.toNat 0
  | [],_,_,_=>rfl
  | w::l,x,hl,hm=>by
    show (visPs u (visP u x w) l).2.getD v.toNat 0=_
    have hm2:v∈(visP u x w).1:=by rw [z572];exact z645.2 (.inl hm)
    rw [z542 hv l _ (fun y hy=>hl y (by simp [hy])) hm2]
    by_cases h:w∈x.1
    · rw [z330 h]
    · rw [z331 h]
      have hw:=hl w (by simp)
      have:v≠w:=fun e=>h (e ▸ hm)
      dsimp only
      rw [List.getD_eq_getElem?_getD,List.getElem?_set_ne (by omega),← List.getD_eq_getElem?_getD]
theorem srS_keep (hr:∀ r∈rows,InN rows.length r) {i j:Nat} (h:i≤j) {v:Int} (hv:0≤v) (hm:v∈(srS rows ini i).1):(srS rows ini j).2.getD v.toNat 0=(srS rows ini i).2.getD v.toNat 0:=by
  induction j with
  | zero => obtain rfl : i = 0 := by omega
            rfl
  | succ j ih =>
    rcases Nat.lt_or_ge j i with h1|h1
    · obtain rfl:i=j+1:=by omega
      rfl
    · obtain ⟨t,ht⟩:=z583 (rows:=rows) (ini:=ini) h1
      rw [srS];split
      · rw [z542 hv _ _ (fun y hy=>(z178 hr _ y hy).1) (by rw [ht];simp [hm])]
        exact ih h1
      · exact ih h1
theorem z968 (hr:∀ r∈rows,InN rows.length r) (hi:InN rows.length ini) (hn:ini.Nodup) {i:Nat} (hil:i≤rows.length):∀ (f:Nat) (v:Int) (tl:List Int),v∈(srS rows ini i).1→bkw (srS rows ini i).2 f v tl=bkw (srP rows ini) f v tl
  | 0,_,_,_=>rfl
  | f+1,v,tl,hm=>by
    have hJ:=z301 hr hi hn i
    have hv:=hJ.inn v hm
    have e:(srP rows ini).getD v.toNat 0=(srS rows ini i).2.getD v.toNat 0:=srS_keep hr hil hv.1 hm
    rw [bkw,bkw,e]
    split
    · rename_i h
      refine z968 hr hi hn hil f _ _ ?_
      obtain ⟨k,hk,rfl⟩:=List.mem_iff_getElem.1 hm
      rcases hJ.pre k hk with h1|⟨j,hj,_,h2⟩
      · omega
      · rw [h2];exact List.getElem_mem _
    · rfl
def shL (rows:List (List Int)) (ini:List Int) (G:Int→Bool):List Int:=match (srQ rows ini).find? G with
  | none=>[]
  | some v=>bkw (srP rows ini) rows.length v []
theorem z667 (hr : ∀ r ∈ rows, InN rows.length r) (hi : InN rows.length ini) (hn : ini.Nodup) {G : Int → Bool} {i : Nat} (hil : i < (srS rows ini i).1.length) (hG : G (srS rows ini i).1[i] = true) (hk : ∀ k (_ : k < i), G ((srS rows ini i).1[k]) = false) :
    shL rows ini G=bkw (srS rows ini i).2 rows.length (srS rows ini i).1[i] []:=by
  have hle:i≤rows.length:=Nat.le_of_lt (Nat.lt_of_lt_of_le hil (z584 hr hi hn i))
  obtain ⟨t,ht⟩:=z583 (rows:=rows) (ini:=ini) hle
  have:(srQ rows ini).find? G=some (srS rows ini i).1[i]:=by
    show (srS rows ini rows.length).1.find? G=_
    rw [ht,List.find?_append]
    have:(srS rows ini i).1.find? G=some (srS rows ini i).1[i]:=by
      rw [List.find?_eq_some_iff_getElem]
      exact ⟨hG,i,hil,rfl,fun j hj=>by rw [hk j hj];rfl⟩
    rw [this];rfl
  unfold shL
  rw [this]
  exact (z968 hr hi hn hle _ _ _ (List.getElem_mem _)).symm
theorem z831 {G:Int→Bool} {i:Nat} (hil:(srS rows ini i).1.length≤i) (hle:i≤rows.length) (hk:∀ k (h:k < (srS rows ini i).1.length),G ((srS rows ini i).1[k])=false):shL rows ini G=[]:=by
  have e:=z966 (ini:=ini) hil hle
  have:(srQ rows ini).find? G=none:=by
    rw [List.find?_eq_none]
    intro x hx
    have e1:(srS rows ini i).1=srQ rows ini:=by rw [e]
    rw [← e1] at hx
    obtain ⟨k,hk',rfl⟩:=List.mem_iff_getElem.1 hx
    rw [hk k hk'];simp
  unfold shL
  rw [this]
def aroL (rows:List (List Int)) (v:Int):List Int:=if v∈rows.getD v.toNat [] then [v] else shL rows [v] fun n=>decide (n≠v) && decide (v∈rows.getD n.toNat [])
theorem aroL_eq (v:Int):aroL rows v=cycL rows v:=by
  unfold aroL cycL
  split
  · rfl
  · rename_i h
    unfold shL
    have key:∀ l:List Int,(match l.find? (fun n=>decide (n≠v) && decide (v∈rows.getD n.toNat [])) with|none=>[]|some u=>bkw (srP rows [v]) rows.length u [])=cycT rows (srP rows [v]) v l:=by
      intro l
      induction l with
      | nil=>rfl
      | cons u l ih =>
        rw [List.find?_cons,cycT]
        by_cases hu:v∈rows.getD u.toNat []
        · have hne:u≠v:=fun e=>by rw [e] at hu;exact h hu
          rw [decide_eq_true hu,decide_eq_true hne,if_pos hu];rfl
        · rw [decide_eq_false hu,Bool.and_false,if_neg hu]
          exact ih
    exact key _
theorem RP.head {v u:Int} (h:RP rows [v] u):u=v∨∃ y,y∈rows.getD v.toNat []∧RP rows [y] u:=by
  induction h with
  | base hb=>exact .inl (List.mem_singleton.1 hb)
  | step _ e ih =>
    rcases ih with rfl|⟨y,hy,h2⟩
    · exact .inr ⟨_,e,.base (by simp)⟩
    · exact .inr ⟨y,hy,.step h2 e⟩
theorem z860 (hr:∀ r∈rows,InN rows.length r) {v:Int} (hv:0≤v∧v < rows.length):0 < (cycL rows v).length↔Cyc rows v:=by
  have hq:∀ x,x∈srQ rows [v]↔RP rows [v] x:=fun x=>by
    have:=z752 (rows:=rows) (ini:=[v]) (by simp) rows.length
    show x∈(srS rows [v] rows.length).1↔_
    rw [this]
    exact z132 hr (z307 hv) x
  unfold cycL
  split
  · rename_i h
    exact ⟨fun _=>⟨v,h,.base (by simp)⟩,fun _=>by simp⟩
  · rename_i h
    have key:∀ l:List Int,0 < (cycT rows (srP rows [v]) v l).length↔∃ u∈l,v∈rows.getD u.toNat []:=by
      intro l
      induction l with
      | nil=>simp [cycT]
      | cons u l ih =>
        rw [cycT]
        split
        · rename_i hu
          exact ⟨fun _=>⟨u,by simp,hu⟩,fun _=>z506 _ _ _ _⟩
        · rename_i hu
          rw [ih]
          constructor
          · rintro ⟨w,h1,h2⟩;exact ⟨w,by simp [h1],h2⟩
          · rintro ⟨w,h1,h2⟩
            rcases List.mem_cons.1 h1 with rfl|h1
            · exact absurd h2 hu
            · exact ⟨w,h1,h2⟩
    rw [key]
    constructor
    · rintro ⟨u,hu,hvu⟩
      rcases RP.head ((hq u).1 hu) with rfl|⟨y,hy,h2⟩
      · exact absurd hvu h
      · exact ⟨y,hy,.step h2 hvu⟩
    · rintro ⟨y,hy,h1⟩
      cases h1 with
      | base hb=>exact absurd (List.mem_singleton.1 hb ▸ hy) h
      | step h2 h3=>exact ⟨_,(hq _).2 (RP.trans (.base (by simp)) hy h2),h3⟩
noncomputable def lasL (rows:List (List Int)) (ini:List Int) (G:Int→Bool):Option (List Int×List Int):=((bfsL rows ini).find? fun v=>G v && cycD rows v.toNat).map fun v=>(bkw (srP rows ini) rows.length v [],cycL rows v)
theorem z607 (hr:∀ r∈rows,InN rows.length r) (hi:InN rows.length ini) (hn:ini.Nodup) (acc:List Bool):lasL rows ini (fun v=>acc.getD (v % acc.length).toNat false)=finS rows ini acc:=by
  have e:bfsL rows ini=srQ rows ini:=(z752 hn rows.length).symm
  have hin:=z662 hr hi hn
  unfold lasL finS
  rw [e]
  generalize srQ rows ini=Q at *
  clear e
  induction Q with
  | nil=>rfl
  | cons u Q ih =>
    have hu:=hin u (by simp)
    have hc:cycD rows u.toNat=decide (0 < (cycL rows u).length):=by
      rw [Bool.eq_iff_iff,z437,decide_eq_true_iff,z860 hr hu,Int.toNat_of_nonneg hu.1]
    have ih:=ih fun x hx=>hin x (by simp [hx])
    rw [List.find?_cons,finT]
    dsimp only
    rw [hc]
    by_cases ha:acc.getD (u % acc.length).toNat false=true
    · rw [if_pos ha,ha,Bool.true_and]
      by_cases hl:0 < (cycL rows u).length
      · rw [if_pos hl,decide_eq_true hl];rfl
      · rw [if_neg hl,decide_eq_false hl]
        exact ih
    · rw [if_neg ha,(Bool.not_eq_true _).mp ha,Bool.false_and]
      exact ih
theorem shL_to (hn:ini.Nodup) {v:Int} (hv:v∈bfsL rows ini):shL rows ini (fun n=>decide (n=v))=bkw (srP rows ini) rows.length v []:=by
  have e:bfsL rows ini=srQ rows ini:=(z752 hn rows.length).symm
  rw [e] at hv
  unfold shL
  cases h:(srQ rows ini).find? (fun n=>decide (n=v)) with
  | none=>rw [List.find?_eq_none] at h;have:=h v hv;simp at this
  | some u=>have:=List.find?_some h;rw [of_decide_eq_true this]
end
end Go.Gl

namespace Go.Gl
theorem z581 (l:List Int) (i j:Nat):(swp l i j).length=l.length:=by unfold swp;simp
theorem swp_at (l:List Int) {i j k:Nat} (hi:i < l.length) (hj:j < l.length) (hk:k < l.length):(swp l i j)[k]'(by rw [z581];exact hk)=if k=j then l[i] else if k=i then l[j] else l[k]:=by
  unfold swp
  rw [List.getElem_set]
  by_cases h:j=k
  · rw [if_pos h,if_pos h.symm,z19 hi]
  · rw [if_neg h,if_neg (fun e=>h e.symm),List.getElem_set]
    by_cases h2:i=k
    · rw [if_pos h2,if_pos h2.symm,z19 hj]
    · rw [if_neg h2,if_neg (fun e=>h2 e.symm)]
def chn (P:List Int):Nat→Int→List Int
  | 0,v=>[v]
  | f+1,v=>v::if 0≤P.getD v.toNat 0 then chn P f (P.getD v.toNat 0) else []
theorem z809 (P:List Int):∀ (f:Nat) (v:Int) (tl:List Int),bkw P f v tl=(chn P f v).reverse++tl
  | 0,v,tl=>rfl
  | f+1,v,tl=>by
    rw [bkw,chn]
    split
    · rw [z809 P f];simp
    · simp
theorem z1065 (P:List Int) (f:Nat) (v:Int):1≤(chn P f v).length:=by cases f<;>simp [chn]
theorem z992:∀ (f i j:Nat) (l:List Int),i+j+1=l.length→j+1≤2 * f+1+i→∀ k (h:k < (revG f i j l).length) (h' : k < l.length),(revG f i j l)[k]=if i≤k∧k≤j then l[l.length - 1 - k]'(by omega) else l[k]
  | 0,i,j,l,hij,hf,k,h,h'=>by
    show l[k]=_
    split
    · congr 1;omega
    · rfl
  | f+1,i,j,l,hij,hf,k,h,h'=>by
    by_cases hlt:i < j
    · have e:revG (f+1) i j l=revG f (i+1) (j - 1) (swp l i j):=by rw [revG,if_pos hlt]
      have hk:k < (revG f (i+1) (j - 1) (swp l i j)).length:=by rw [← e];exact h
      have ih:=z992 f (i+1) (j - 1) (swp l i j) (by rw [z581];omega) (by omega) k hk (by rw [z581];exact h')
      have e2:(revG (f+1) i j l)[k]=(revG f (i+1) (j - 1) (swp l i j))[k]:=by simp only [e]
      rw [e2,ih]
      simp only [z581]
      by_cases h1:i+1≤k∧k≤j - 1
      · rw [if_pos h1,if_pos (by omega),swp_at l (by omega) (by omega) (by omega),if_neg (by omega),if_neg (by omega)]
      · rw [if_neg h1,swp_at l (by omega) (by omega) h']
        by_cases h2:k=j
        · rw [if_pos h2,if_pos (by omega)];congr 1;omega
        · rw [if_neg h2]
          by_cases h3:k=i
          · rw [if_pos h3,if_pos (by omega)];congr 1;omega
          · rw [if_neg h3,if_neg (by omega)]
    · have e:revG (f+1) i j l=l:=by rw [revG,if_neg hlt]
      have e2:(revG (f+1) i j l)[k]=l[k]:=by simp only [e]
      rw [e2]
      split
      · congr 1;omega
      · rfl
theorem rvs_eq (l:List Int):rvs l=l.reverse:=by
  by_cases h0:l.length=0
  · have:l=[]:=List.eq_nil_of_length_eq_zero h0
    subst this;rfl
  · apply List.ext_getElem (by rw [z376,List.length_reverse])
    intro k h1 h2
    have hk:k < l.length:=by rw [z376] at h1;exact h1
    have:=z992 l.length 0 (l.length - 1) l (by omega) (by omega) k h1 hk
    rw [List.getElem_reverse]
    refine this.trans ?_
    rw [if_pos (by omega)]
end Go.Gl

namespace Go.Gl
def z212 (R:List Int) (z:Bool) (o v:Int):Int:=if o < R.getD v.toNat 0+(if z=true then 1 else 0) then R.getD v.toNat 0+(if z=true then 1 else 0) else o
def rkOf (R:List Int) (z:Bool) (row:List Int):Int:=row.foldl (z212 R z) 0
def Bd (M:Int) (R:List Int):Prop:=∀ x∈R,-1≤x∧x≤M
theorem Bd.getD {M:Int} {R:List Int} (h:Bd M R) (hM:0≤M) (i:Nat) : -1≤R.getD i 0∧R.getD i 0≤M:=by
  by_cases hl:i < R.length
  · rw [z19 hl];exact h _ (List.getElem_mem _)
  · rw [List.getD_eq_getElem?_getD,List.getElem?_eq_none (by omega)];exact ⟨by show -1≤(0:Int);omega,hM⟩
theorem Bd.mono {M M' : Int} {R:List Int} (h:Bd M R) (hM:M≤M'):Bd M' R:=fun x hx=>by have:=h x hx;omega
theorem Bd.set {M:Int} {R:List Int} (h:Bd M R) {i:Nat} {v:Int} (hv : -1≤v∧v≤M):Bd M (R.set i v):=fun x hx=>by
  rcases List.mem_or_eq_of_mem_set hx with h1|rfl
  · exact h x h1
  · exact hv
theorem z990 {M:Int} {R:List Int} (h:Bd M R) (hM:0≤M) {z:Bool} {o v:Int} (ho:0≤o∧o≤M+1):0≤z212 R z o v∧z212 R z o v≤M+1:=by
  have:=h.getD hM v.toNat
  unfold z212
  cases z
  · simp only [if_neg (show ¬ false=true by simp)]
    split<;>omega
  · simp only [if_pos]
    split<;>omega
theorem z469 {M:Int} {R:List Int} (h:Bd M R) (hM:0≤M) {z:Bool} : ∀ (row:List Int) (o:Int),0≤o∧o≤M+1→0≤row.foldl (z212 R z) o∧row.foldl (z212 R z) o≤M+1
  | [],_,ho=>ho
  | v::row,_,ho=>z469 h hM row _ (z990 h hM ho)
theorem z991 {M:Int} {R:List Int} (h:Bd M R) (hM:0≤M) (z:Bool) (row:List Int):0≤rkOf R z row∧rkOf R z row≤M+1:=z469 h hM row 0 ⟨by omega,by omega⟩
def z251 (rows:List (List Int)) (acc:List Bool) (x:List Int×Bool) (u:Int):List Int×Bool :=
  if x.1.getD u.toNat 0 < rkOf x.1 (acc.getD (u % acc.length).toNat false) (rows.getD u.toNat []) then (x.1.set u.toNat (rkOf x.1 (acc.getD (u % acc.length).toNat false) (rows.getD u.toNat [])),true) else x
def z383 (rows:List (List Int)) (acc:List Bool) (nodes R:List Int):List Int×Bool:=nodes.reverse.foldl (z251 rows acc) (R,false)
def z115 (rows:List (List Int)) (acc:List Bool) (nodes:List Int):Nat→List Int→Bool→List Int
  | 0,R,_=>R
  | f+1,R,c=>if c=true then z115 rows acc nodes f (z383 rows acc nodes R).1 (z383 rows acc nodes R).2 else R
def z367 (N:Nat) (nodes:List Int):List Int:=nodes.foldl (fun R u=>R.set u.toNat 0) (List.replicate N (-1))
def z532 (rows:List (List Int)) (ini:List Int) (acc:List Bool):List Int:=z115 rows acc (bfsL rows ini) ((bfsL rows ini).length+2) (z367 rows.length (bfsL rows ini)) true
theorem z872 {N:Nat} {nodes:List Int} {k:Nat} (h:k < nodes.length):z367 N (nodes.take (k+1))=(z367 N (nodes.take k)).set nodes[k].toNat 0:=by
  unfold z367
  rw [List.take_succ_eq_append_getElem h,List.foldl_append];rfl
theorem z441 (N:Nat) (nodes:List Int):(z367 N nodes).length=N:=by
  unfold z367
  have:∀ (l R:List Int),(l.foldl (fun R u=>R.set u.toNat 0) R).length=R.length:=by
    intro l
    induction l with
    | nil=>intro R;rfl
    | cons u l ih=>intro R;rw [List.foldl_cons,ih];simp
  rw [this];simp
theorem z816 (N:Nat) (nodes:List Int):Bd 0 (z367 N nodes):=by
  unfold z367
  have:∀ (l R:List Int),Bd 0 R→Bd 0 (l.foldl (fun R u=>R.set u.toNat 0) R):=by
    intro l
    induction l with
    | nil=>intro R h;exact h
    | cons u l ih=>intro R h;rw [List.foldl_cons];exact ih _ (h.set ⟨by omega,by omega⟩)
  refine this _ _ fun x hx=>?_
  have:=List.eq_of_mem_replicate hx
  omega
theorem relax_bd {rows:List (List Int)} {acc:List Bool} {x:List Int×Bool} {u M:Int} (h:Bd M x.1) (hM:0≤M):Bd (M+1) (z251 rows acc x u).1:=by
  unfold z251
  split
  · exact (h.mono (by omega)).set (by have:=z991 h hM (acc.getD (u % acc.length).toNat false) (rows.getD u.toNat []);omega)
  · exact h.mono (by omega)
theorem z994 (rows:List (List Int)) (acc:List Bool) (x:List Int×Bool) (u:Int):(z251 rows acc x u).1.length=x.1.length:=by
  unfold z251
  split
  · simp
  · rfl
theorem z774 {rows:List (List Int)} {acc:List Bool} : ∀ (l:List Int) (x:List Int×Bool) {M:Int},Bd M x.1→0≤M→Bd (M+l.length) (l.foldl (z251 rows acc) x).1
  | [],x,M,h,_=>by simpa using h
  | u::l,x,M,h,hM=>by
    rw [List.foldl_cons]
    have:=z774 (rows:=rows) (acc:=acc) l (z251 rows acc x u) (relax_bd h hM) (by omega)
    rw [List.length_cons]
    exact this.mono (by omega)
theorem z425 {rows:List (List Int)} {acc:List Bool} : ∀ (l:List Int) (x:List Int×Bool),(l.foldl (z251 rows acc) x).1.length=x.1.length
  | [],_=>rfl
  | u::l,x=>by rw [List.foldl_cons,z425 l,z994]
theorem z545 {rows:List (List Int)} {acc:List Bool} {nodes:List Int} : ∀ (f:Nat) (R:List Int) (c:Bool),(z115 rows acc nodes f R c).length=R.length
  | 0,_,_=>rfl
  | f+1,R,c=>by
    rw [z115];split
    · rw [z545 f];exact z425 _ _
    · rfl
theorem z674 {rows:List (List Int)} {acc:List Bool} {nodes:List Int} : ∀ (f:Nat) (R:List Int) (c:Bool) {M:Int},Bd M R→0≤M→nodes.length≤4000→Bd (M+4000 * f) (z115 rows acc nodes f R c)
  | 0,_,_,M,h,_,_=>by rw [z115];exact h.mono (by omega)
  | f+1,R,c,M,h,hM,hl=>by
    rw [z115];split
    · have h1:=z774 (rows:=rows) (acc:=acc) nodes.reverse (R,false) h hM
      rw [List.length_reverse] at h1
      have:=z674 (rows:=rows) (acc:=acc) (nodes:=nodes) f _ (z383 rows acc nodes R).2 (M:=M+4000) (h1.mono (by omega)) (by omega) hl
      exact this.mono (by omega)
    · exact h.mono (by omega)
theorem z348 (rows:List (List Int)) (ini:List Int) (acc:List Bool):(z532 rows ini acc).length=rows.length:=by unfold z532;rw [z545,z441]
end Go.Gl

namespace Go.Gl
def wtA (acc:List Bool) (u:Int):Int:=if acc.getD (u % acc.length).toNat false=true then 1 else 0
def Wt (rows:List (List Int)) (acc:List Bool):Nat→Int→Int
  | 0,_=>0
  | k+1,u=>(rows.getD u.toNat []).foldl (fun o v=>max o (Wt rows acc k v+wtA acc u)) 0
theorem z85 (f:Int→Int):∀ (l:List Int) (o:Int),o≤l.foldl (fun o v=>max o (f v)) o∧∀ v∈l,f v≤l.foldl (fun o v=>max o (f v)) o
  | [],o=>⟨Int.le_refl _,by simp⟩
  | x::l,o=>by
    obtain ⟨h1,h2⟩:=z85 f l (max o (f x))
    rw [List.foldl_cons]
    refine ⟨by omega,fun v hv=>?_⟩
    rcases List.mem_cons.1 hv with rfl|hv
    · omega
    · exact h2 v hv
theorem z286 (f:Int→Int):∀ (l:List Int) (o:Int),l.foldl (fun o v=>max o (f v)) o=o∨∃ v∈l,l.foldl (fun o v=>max o (f v)) o=f v
  | [],o=>.inl rfl
  | x::l,o=>by
    rw [List.foldl_cons]
    rcases z286 f l (max o (f x)) with h|⟨v,hv,h⟩
    · rw [h]
      rcases Int.le_total o (f x) with h1|h1
      · exact .inr ⟨x,by simp,by omega⟩
      · exact .inl (by omega)
    · exact .inr ⟨v,by simp [hv],h⟩
theorem z173 {f:Int→Int} {l:List Int} {o M:Int} (ho:o≤M) (h:∀ v∈l,f v≤M):l.foldl (fun o v=>max o (f v)) o≤M:=by
  rcases z286 f l o with h1|⟨v,hv,h1⟩
  · rw [h1];exact ho
  · rw [h1];exact h v hv
section
variable {rows:List (List Int)} {ini:List Int} {acc:List Bool}
theorem z515 (k:Nat) (u:Int):0≤Wt rows acc k u:=by
  cases k with
  | zero=>exact Int.le_refl _
  | succ k=>rw [Wt];exact (z85 _ _ _).1
theorem z1085 (k:Nat):∀ u,Wt rows acc k u≤Wt rows acc (k+1) u:=by
  induction k with
  | zero=>intro u;exact z515 1 u
  | succ k ih =>
    intro u
    rw [Wt]
    refine z173 (z515 _ _) fun v hv=>?_
    rw [Wt]
    have h1:=(z85 (fun v=>Wt rows acc (k+1) v+wtA acc u) (rows.getD u.toNat []) 0).2 v hv
    have:=ih v
    omega
theorem Wt_le {j k:Nat} (h:j≤k) (u:Int):Wt rows acc j u≤Wt rows acc k u:=by
  induction k with
  | zero => obtain rfl : j = 0 := by omega
            exact Int.le_refl _
  | succ k ih =>
    rcases Nat.lt_or_ge k j with h1|h1
    · obtain rfl:j=k+1:=by omega
      exact Int.le_refl _
    · have:=ih h1
      have:=z1085 (rows:=rows) (acc:=acc) k u
      omega
def IncW (rows:List (List Int)) (acc:List Bool) (k:Nat) (u:Int):Prop:=Wt rows acc k u < Wt rows acc (k+1) u
theorem Inc_step {k:Nat} {u:Int} (h:IncW rows acc (k+1) u):∃ v∈rows.getD u.toNat [],IncW rows acc k v∧Wt rows acc (k+2) u=Wt rows acc (k+1) v+wtA acc u:=by
  unfold IncW at h
  have h0:=z515 (rows:=rows) (acc:=acc) (k+1) u
  rcases z286 (fun v=>Wt rows acc (k+1) v+wtA acc u) (rows.getD u.toNat []) 0 with h1|⟨v,hv,h1⟩
  · have e:Wt rows acc (k+2) u=0:=h1
    have:Wt rows acc (k+1+1) u=0:=e
    omega
  · have e:Wt rows acc (k+1+1) u=Wt rows acc (k+1) v+wtA acc u:=h1
    refine ⟨v,hv,?_,e⟩
    have h2:Wt rows acc k v+wtA acc u≤Wt rows acc (k+1) u:=(z85 (fun v=>Wt rows acc k v+wtA acc u) (rows.getD u.toNat []) 0).2 v hv
    unfold IncW
    omega
structure ChW (rows:List (List Int)) (acc:List Bool) (k:Nat) (c:Nat→Int):Prop where
  step:∀ i,i < k→c i∈rows.getD (c (i+1)).toNat []∧Wt rows acc (i+2) (c (i+1))=Wt rows acc (i+1) (c i)+wtA acc (c (i+1))
  inc:∀ i,i≤k→IncW rows acc i (c i)
theorem z737:∀ (k:Nat) (u:Int),IncW rows acc k u→∃ c:Nat→Int,c k=u∧ChW rows acc k c
  | 0, u, h => ⟨fun _ => u, rfl, fun i hi => by omega, fun i hi => by obtain rfl : i = 0 := by omega
                                                                      exact h⟩
  | k+1,u,h=>by
    obtain ⟨v,hv,h1,h2⟩:=Inc_step h
    obtain ⟨c,hc,hC⟩:=z737 k v h1
    refine ⟨fun i=>if i=k+1 then u else c i,by simp,fun i hi=>?_,fun i hi=>?_⟩
    · by_cases e:i=k
      · subst e
        simp only [if_pos,if_neg (show ¬ i=i+1 by omega)]
        rw [hc]
        exact ⟨hv,h2⟩
      · rw [if_neg (by omega),if_neg (by omega)]
        exact hC.step i (by omega)
    · by_cases e:i=k+1
      · rw [if_pos e,e];exact h
      · rw [if_neg e];exact hC.inc i (by omega)
theorem ChW.reach {k:Nat} {c:Nat→Int} (h:ChW rows acc k c) {i:Nat} : ∀ d,i+d≤k→RP rows [c (i+d)] (c i)
  | 0,_=>.base (by simp)
  | d+1,hd=>RP.trans (.base (by simp [Nat.add_assoc])) (h.step (i+d) (by omega)).1 (h.reach d (by omega))
theorem ChW.flat {k:Nat} {c:Nat→Int} (h:ChW rows acc k c) {j:Nat} : ∀ d,j+d≤k→(∀ l,j < l→l≤j+d→wtA acc (c l)=0)→Wt rows acc (j+d+1) (c (j+d))=Wt rows acc (j+1) (c j)
  | 0,_,_=>rfl
  | d+1,hd,hl=>by
    have h1:=(h.step (j+d) (by omega)).2
    have h2:=h.flat d (by omega) fun l h1 h2=>hl l h1 (by omega)
    have h3:=hl (j+d+1) (by omega) (by omega)
    have e:j+(d+1)=j+d+1:=by omega
    rw [e,h1,h3,h2];omega
theorem Wt_stop (hr:∀ r∈rows,InN rows.length r) (hi:InN rows.length ini) (hno:∀ x,RP rows ini x→Cyc rows x→acc.getD (x % acc.length).toNat false=false) {k:Nat} (hk:(bfsL rows ini).length≤k) {u:Int} (hu:RP rows ini u):¬ IncW rows acc k u:=by
  intro h
  obtain ⟨c,hc,hC⟩:=z737 k u h
  have hrp:∀ d,d≤k→RP rows ini (c (k - d)):=by
    intro d
    induction d with
    | zero=>intro _;rw [Nat.sub_zero,hc];exact hu
    | succ d ih =>
      intro hd
      have h1:=(hC.step (k - (d+1)) (by omega)).1
      rw [show k - (d+1)+1=k - d by omega] at h1
      exact .step (ih (by omega)) h1
  have hrp' : ∀ i,i≤k→c i∈bfsL rows ini:=fun i hi'=>by
    have:=hrp (k - i) (by omega)
    rw [show k - (k - i)=i by omega] at this
    exact (z132 hr hi _).2 this
  by_cases hinj:∃ i j,j < i∧i≤k∧c i=c j
  · obtain ⟨i,j,hji,hik,he⟩:=hinj
    obtain ⟨d,rfl⟩:∃ d,i=j+(d+1):=⟨i - j - 1,by omega⟩
    have h1:=hC.inc (j+(d+1)) hik
    unfold IncW at h1
    have h2:=Wt_le (rows:=rows) (acc:=acc) (show j+1≤j+(d+1) by omega) (c (j+(d+1)))
    by_cases hz:∀ l,j < l→l≤j+(d+1)→wtA acc (c l)=0
    · have h3:=hC.flat (d+1) hik hz
      rw [he] at h1 h2 h3
      omega
    · simp only [Classical.not_forall] at hz
      obtain ⟨l,hl1,hl2,hl3⟩:=hz
      obtain ⟨e,rfl⟩:∃ e,l=j+e+1:=⟨l - j - 1,by omega⟩
      have hcy:Cyc rows (c (j+e+1)):=by
        refine ⟨c (j+e),(hC.step (j+e) (by omega)).1,?_⟩
        have r1:=hC.reach (i:=j) e (by omega)
        have r2:=hC.reach (i:=j+e+1) (d - e) (by omega)
        rw [show j+e+1+(d - e)=j+(d+1) by omega,he] at r2
        exact RP.trans0 r1 r2
      have:=hno _ ((z132 hr hi _).1 (hrp' _ (by omega))) hcy
      apply hl3
      unfold wtA
      rw [if_neg (by rw [this];simp)]
  · have hinj:∀ i j,j < i→i≤k→c i≠c j:=fun i j h1 h2 h3=>hinj ⟨i,j,h1,h2,h3⟩
    have hidx:∀ i j,i≤k→j≤k→(bfsL rows ini).idxOf (c i)=(bfsL rows ini).idxOf (c j)→c i=c j:=fun i j h1 h2 h3=>by
      have a1:=List.getElem_idxOf (List.idxOf_lt_length_of_mem (hrp' i h1))
      have a2:=List.getElem_idxOf (List.idxOf_lt_length_of_mem (hrp' j h2))
      rw [← a1,← a2];congr 1
    have:=z135 (bfsL rows ini).length ((List.range (k+1)).map fun i=>(((bfsL rows ini).idxOf (c i):Nat):Int)) ?_ ?_
    · simp at this;omega
    · rw [List.nodup_iff_pairwise_ne,List.pairwise_iff_getElem]
      intro i j h1 h2 hij
      simp only [List.length_map,List.length_range] at h1 h2
      simp only [List.getElem_map,List.getElem_range]
      intro he
      exact hinj j i hij (by omega) (hidx j i (by omega) (by omega) (by omega))
    · intro x hx
      obtain ⟨i,hi',rfl⟩:=List.mem_map.1 hx
      have:=List.mem_range.1 hi'
      have:=List.idxOf_lt_length_of_mem (hrp' i (by omega))
      omega
theorem z868 (hr:∀ r∈rows,InN rows.length r) (hi:InN rows.length ini) (hno:∀ x,RP rows ini x→Cyc rows x→acc.getD (x % acc.length).toNat false=false) {u:Int} (hu:RP rows ini u):Wt rows acc ((bfsL rows ini).length+1) u=Wt rows acc (bfsL rows ini).length u:=by
  have h1:=Wt_stop hr hi hno (Nat.le_refl _) hu
  have h2:=z1085 (rows:=rows) (acc:=acc) (bfsL rows ini).length u
  unfold IncW at h1
  omega
end
theorem z379 (R:List Int) (z:Bool) (row:List Int):rkOf R z row=row.foldl (fun o v=>max o (R.getD v.toNat 0+if z=true then 1 else 0)) 0:=by
  unfold rkOf
  congr 1
  funext o v
  unfold z212
  split<;>omega
theorem z434 (R:List Int) (i j:Nat) (v:Int) (hi:i < R.length):(R.set i v).getD j 0=if i=j then v else R.getD j 0:=by
  rw [List.getD_eq_getElem?_getD,List.getElem?_set]
  simp only [hi,if_true]
  split
  · rfl
  · rw [← List.getD_eq_getElem?_getD]
structure RkI (rows:List (List Int)) (ini:List Int) (acc:List Bool) (t:Nat) (R:List Int):Prop where
  len:R.length=rows.length
  lo:∀ u,RP rows ini u→Wt rows acc t u≤R.getD u.toNat 0
  hi:∀ u,RP rows ini u→R.getD u.toNat 0≤Wt rows acc (bfsL rows ini).length u
section
variable {rows:List (List Int)} {ini:List Int} {acc:List Bool}
def rkU (rows:List (List Int)) (acc:List Bool) (R:List Int) (u:Int):Int:=rkOf R (acc.getD (u % acc.length).toNat false) (rows.getD u.toNat [])
theorem rkU_ge {t:Nat} {R:List Int} {u:Int} (hu:RP rows ini u) (h:∀ u,RP rows ini u→Wt rows acc t u≤R.getD u.toNat 0):Wt rows acc (t+1) u≤rkU rows acc R u:=by
  unfold rkU
  rw [z379,Wt]
  refine z173 (z85 _ _ _).1 fun v hv=>?_
  have h1:=(z85 (fun v=>R.getD v.toNat 0+if acc.getD (u % acc.length).toNat false=true then 1 else 0) (rows.getD u.toNat []) 0).2 v hv
  have h2:=h v (.step hu hv)
  unfold wtA
  omega
theorem z989 {t:Nat} {R:List Int} {u:Int} (hu:RP rows ini u) (h:∀ u,RP rows ini u→R.getD u.toNat 0≤Wt rows acc t u):rkU rows acc R u≤Wt rows acc (t+1) u:=by
  unfold rkU
  rw [z379,Wt]
  refine z173 (z85 _ _ _).1 fun v hv=>?_
  have h1:=(z85 (fun v=>Wt rows acc t v+wtA acc u) (rows.getD u.toNat []) 0).2 v hv
  have h2:=h v (.step hu hv)
  have e:(if acc.getD (u % acc.length).toNat false=true then (1:Int) else 0)=wtA acc u:=rfl
  rw [e]
  omega
theorem z424 (x:List Int×Bool) (u:Int):z251 rows acc x u=if x.1.getD u.toNat 0 < rkU rows acc x.1 u then (x.1.set u.toNat (rkU rows acc x.1 u),true) else x:=rfl
structure PsI (rows:List (List Int)) (ini:List Int) (acc:List Bool) (t:Nat) (l:List Int) (x y:List Int×Bool):Prop where
  inv:RkI rows ini acc t y.1
  up:∀ u,RP rows ini u→x.1.getD u.toNat 0≤y.1.getD u.toNat 0
  nxt:∀ u∈l,Wt rows acc (t+1) u≤y.1.getD u.toNat 0
  off:∀ j:Nat,¬ RP rows ini j→y.1.getD j 0=x.1.getD j 0
  same:y.2=false→y=x∧∀ u∈l,rkU rows acc x.1 u≤x.1.getD u.toNat 0
theorem z477 (hr:∀ r∈rows,InN rows.length r) (hin:InN rows.length ini) (hno:∀ x,RP rows ini x→Cyc rows x→acc.getD (x % acc.length).toNat false=false) {t:Nat} : ∀ (l:List Int) (x:List Int×Bool),(∀ u∈l,RP rows ini u)→RkI rows ini acc t x.1→PsI rows ini acc t l x (l.foldl (z251 rows acc) x)
  | [],x,_,h=>⟨h,fun _ _=>Int.le_refl _,by simp,fun _ _=>rfl,fun _=>⟨rfl,by simp⟩⟩
  | u::l,x,hl,h=>by
    have hu:=hl u (by simp)
    have huN:=RP.in hr hin hu
    have hx:=h.len
    rw [List.foldl_cons,z424]
    have hlo:=rkU_ge hu h.lo
    have hhi:=z989 hu h.hi
    rw [z868 hr hin hno hu] at hhi
    by_cases hc:x.1.getD u.toNat 0 < rkU rows acc x.1 u
    · rw [if_pos hc]
      have hg:∀ w,0≤w→(x.1.set u.toNat (rkU rows acc x.1 u)).getD w.toNat 0=if u=w then rkU rows acc x.1 u else x.1.getD w.toNat 0:=fun w hw=>by
        rw [z434 _ _ _ _ (by omega)]
        by_cases e:u=w
        · rw [if_pos e,if_pos (by rw [e])]
        · rw [if_neg e,if_neg (by omega)]
      have hup:∀ w,RP rows ini w→x.1.getD w.toNat 0≤(x.1.set u.toNat (rkU rows acc x.1 u)).getD w.toNat 0:=fun w hw=>by
        rw [hg w (RP.in hr hin hw).1]
        split
        · rename_i e;subst e;omega
        · exact Int.le_refl _
      have h1:=z477 hr hin hno (t:=t) l (x.1.set u.toNat (rkU rows acc x.1 u),true) (fun w hw=>hl w (by simp [hw])) ⟨by simp [hx],fun w hw=>Int.le_trans (h.lo w hw) (hup w hw),fun w hw=>by
        dsimp only
        rw [hg w (RP.in hr hin hw).1]
        split
        · rename_i e;subst e;exact hhi
        · exact h.hi w hw⟩
      refine ⟨h1.inv,fun w hw=>Int.le_trans (hup w hw) (h1.up w hw),fun w hw=>?_,fun j hj=>?_,fun hf=>?_⟩
      · rcases List.mem_cons.1 hw with rfl|hw
        · have:=h1.up w hu
          dsimp only at this
          rw [hg w huN.1,if_pos rfl] at this
          omega
        · exact h1.nxt w hw
      · rw [h1.off j hj]
        dsimp only
        rw [z434 _ _ _ _ (by omega),if_neg]
        intro e
        apply hj
        rw [← e,Int.toNat_of_nonneg huN.1];exact hu
      · have:=(h1.same hf).1
        rw [this] at hf
        cases hf
    · rw [if_neg hc]
      have h1:=z477 hr hin hno (t:=t) l x (fun w hw=>hl w (by simp [hw])) h
      refine ⟨h1.inv,h1.up,fun w hw=>?_,h1.off,fun hf=>⟨(h1.same hf).1,fun w hw=>?_⟩⟩
      · rcases List.mem_cons.1 hw with rfl|hw
        · have:=h1.up w hu
          omega
        · exact h1.nxt w hw
      · rcases List.mem_cons.1 hw with rfl|hw
        · omega
        · exact (h1.same hf).2 w hw
noncomputable def rkL (rows:List (List Int)) (ini:List Int) (acc:List Bool) (z:Int):List Int:=by classical exact (List.range rows.length).map fun i:Nat=>if RP rows ini (i:Int) then Wt rows acc (bfsL rows ini).length i else z
theorem rkL_of {R:List Int} {z:Int} (hl:R.length=rows.length) (h1:∀ u,RP rows ini u→R.getD u.toNat 0=Wt rows acc (bfsL rows ini).length u) (h2:∀ j,j < rows.length→¬ RP rows ini (j:Int)→R.getD j 0=z):R=rkL rows ini acc z:=by
  apply List.ext_getElem (by simp [rkL,hl])
  intro i h3 h4
  simp only [rkL,List.getElem_map,List.getElem_range]
  rw [← z19 (d:=0) h3]
  split
  · rename_i h;have:=h1 i h;rwa [Int.toNat_natCast] at this
  · rename_i h;exact h2 i (by omega) h
theorem z988 {R:List Int} (h:RkI rows ini acc 0 R) (hf:∀ u,RP rows ini u→rkU rows acc R u≤R.getD u.toNat 0) {u:Int} (hu:RP rows ini u):R.getD u.toNat 0=Wt rows acc (bfsL rows ini).length u:=by
  have key:∀ k,∀ u,RP rows ini u→Wt rows acc k u≤R.getD u.toNat 0:=by
    intro k
    induction k with
    | zero=>exact h.lo
    | succ k ih=>intro u hu;exact Int.le_trans (rkU_ge hu ih) (hf u hu)
  have h1:=key (bfsL rows ini).length u hu
  have h2:=h.hi u hu
  omega
theorem RkI.weak {t:Nat} {R:List Int} (h:RkI rows ini acc t R):RkI rows ini acc 0 R:=⟨h.len,fun u hu=>Int.le_trans (Wt_le (Nat.zero_le t) u) (h.lo u hu),h.hi⟩
theorem RkI.full {t:Nat} {R:List Int} (h:RkI rows ini acc t R) (ht:(bfsL rows ini).length≤t) {u:Int} (hu:RP rows ini u):R.getD u.toNat 0=Wt rows acc (bfsL rows ini).length u:=by
  have h1:=h.lo u hu
  have h2:=h.hi u hu
  have h3:=Wt_le (rows:=rows) (acc:=acc) ht u
  omega
theorem z673 (hr : ∀ r ∈ rows, InN rows.length r) (hin : InN rows.length ini) (hno : ∀ x, RP rows ini x → Cyc rows x → acc.getD (x % acc.length).toNat false = false) : ∀ (f t : Nat) (R : List Int), (bfsL rows ini).length ≤ t + f → RkI rows ini acc t R →
    (∀ u,RP rows ini u→(z115 rows acc (bfsL rows ini) f R true).getD u.toNat 0=Wt rows acc (bfsL rows ini).length u)∧(∀ j:Nat,¬ RP rows ini j→(z115 rows acc (bfsL rows ini) f R true).getD j 0=R.getD j 0)
  | 0,t,R,hf,h=>⟨fun u hu=>h.full hf hu,fun _ _=>rfl⟩
  | f+1,t,R,hf,h=>by
    have hm:∀ u∈(bfsL rows ini).reverse,RP rows ini u:=fun u hu=>(z132 hr hin u).1 (List.mem_reverse.1 hu)
    have hp:=z477 hr hin hno (t:=t) (bfsL rows ini).reverse (R,false) hm h
    rw [z115,if_pos rfl]
    change PsI rows ini acc t (bfsL rows ini).reverse (R,false) (z383 rows acc (bfsL rows ini) R) at hp
    have hoff:=hp.off
    dsimp only at hoff
    cases hc:(z383 rows acc (bfsL rows ini) R).2 with
    | false =>
      obtain ⟨h1,h2⟩:=hp.same hc
      have e:z115 rows acc (bfsL rows ini) f (z383 rows acc (bfsL rows ini) R).1 false=(z383 rows acc (bfsL rows ini) R).1:=by cases f<;>simp [z115]
      rw [e,h1]
      dsimp only at h2 ⊢
      exact ⟨fun u hu=>z988 h.weak (fun w hw=>h2 w (List.mem_reverse.2 ((z132 hr hin w).2 hw))) hu,fun _ _=>rfl⟩
    | true =>
      obtain ⟨h1,h2⟩:=z673 hr hin hno f (t+1) _ (by omega) ⟨hp.inv.len,fun u hu=>hp.nxt u (List.mem_reverse.2 ((z132 hr hin u).2 hu)),hp.inv.hi⟩
      exact ⟨h1,fun j hj=>by rw [h2 j hj,hoff j hj]⟩
theorem z640 {N:Nat} {j:Nat} (hj:j < N):∀ (l R:List Int),R.length=N→(∀ u∈l,0≤u∧u < N)→(l.foldl (fun R u=>R.set u.toNat 0) R).getD j 0=if (j:Int)∈l then 0 else R.getD j 0
  | [],R,_,_=>by simp
  | u::l,R,hR,h=>by
    have hu:=h u (by simp)
    rw [List.foldl_cons,z640 hj l _ (by simp [hR]) (fun w hw=>h w (by simp [hw])),z434 _ _ _ _ (by omega)]
    by_cases h1:(j:Int)∈l
    · rw [if_pos h1,if_pos (by simp [h1])]
    · rw [if_neg h1]
      by_cases h2:u.toNat=j
      · rw [if_pos h2,if_pos]
        have:(j:Int)=u:=by omega
        simp [this]
      · rw [if_neg h2,if_neg]
        rw [List.mem_cons,not_or]
        exact ⟨by omega,h1⟩
theorem z846 (hr:∀ r∈rows,InN rows.length r) (hin:InN rows.length ini) (hno:∀ x,RP rows ini x→Cyc rows x→acc.getD (x % acc.length).toNat false=false):z532 rows ini acc=rkL rows ini acc (-1):=by
  have hz:∀ j,j < rows.length→(z367 rows.length (bfsL rows ini)).getD j 0=if RP rows ini (j:Int) then 0 else -1:=fun j hj=>by
    unfold z367
    rw [z640 hj (bfsL rows ini) _ (by simp) (fun u hu=>z365 hr hin rows.length u hu)]
    by_cases h:RP rows ini (j:Int)
    · rw [if_pos ((z132 hr hin _).2 h),if_pos h]
    · rw [if_neg (fun hm=>h ((z132 hr hin _).1 hm)),if_neg h,z19 (by simp;exact hj)];simp
  have h0:RkI rows ini acc 0 (z367 rows.length (bfsL rows ini)):=by
    refine ⟨z441 _ _,fun u hu=>?_,fun u hu=>?_⟩
    all_goals
      have huN:=RP.in hr hin hu
      rw [hz u.toNat (by omega),Int.toNat_of_nonneg huN.1,if_pos hu]
    · exact Int.le_refl _
    · exact z515 _ _
  obtain ⟨h1,h2⟩:=z673 hr hin hno ((bfsL rows ini).length+2) 0 _ (by omega) h0
  refine rkL_of (z348 _ _ _) h1 fun j hj hnp=>?_
  unfold z532
  rw [h2 j hnp,hz j hj,if_neg hnp]
end
end Go.Gl

namespace Go.Gl
section
variable {rows:List (List Int)} {ini:List Int}
theorem z1017 {G:Int→Bool} {p q:List Int} (h:lasL rows ini G=some (p,q)):∃ v,v∈bfsL rows ini∧G v=true∧cycD rows v.toNat=true∧p=bkw (srP rows ini) rows.length v []∧q=cycL rows v:=by
  unfold lasL at h
  rw [Option.map_eq_some_iff] at h
  obtain ⟨v,hv,he⟩:=h
  have h1:=List.find?_some hv
  have h2:=List.mem_of_find?_eq_some hv
  obtain ⟨h3,h4⟩:=Bool.and_eq_true_iff.1 h1
  cases he
  exact ⟨v,h2,h3,h4,rfl,rfl⟩
theorem z1018 {G:Int→Bool} : lasL rows ini G=none↔∀ v∈bfsL rows ini,¬ (G v=true∧cycD rows v.toNat=true):=by
  unfold lasL
  rw [Option.map_eq_none_iff,List.find?_eq_none]
  simp only [Bool.and_eq_true]
theorem lasL_bd (hr : ∀ r ∈ rows, InN rows.length r) (hi : InN rows.length ini) (hn : ini.Nodup) {G : Int → Bool} {p q : List Int} (h : lasL rows ini G = some (p, q)) :
    (∀ x∈p,0≤x∧x≤rows.length)∧(∀ x∈q,0≤x∧x≤rows.length)∧p.length≤rows.length+1∧q.length≤rows.length+1∧1≤p.length∧1≤q.length:=by
  obtain ⟨v,hv,_,hc,rfl,rfl⟩:=z1017 h
  have hvN:=z365 hr hi _ v hv
  have h1:=z507 (srP rows ini) rows.length v []
  refine ⟨fun x hx=>⟨z863 _ _ _ hvN.1 (by simp) x hx,z864 (z965 hr hi hn rows.length) _ _ _ (by omega) (by omega) (by simp) x hx⟩,fun x hx=>⟨z1059 hr hvN x hx,z1060 hr hvN x hx⟩,by rw [List.length_nil] at h1;omega,z626 _ _,z506 _ _ _ _,?_⟩
  have:=(z860 hr hvN).2 (by have:=z437.1 hc;rwa [Int.toNat_of_nonneg hvN.1] at this)
  omega
end
end Go.Gl

namespace Go.Gl
theorem z302 {α : Type} (R : Nat → Int → α → Int → Prop) (p0 c : Int) : ∀ (m : Nat), (∀ k p, k < m → p0 ≤ p → p ≤ p0 + c * k → ∃ a p', R k p a p' ∧ p ≤ p' ∧ p' ≤ p + c) →
    ∃ (l:List α) (pf:Nat→Int),l.length=m∧pf 0=p0∧(∀ k (hk:k < l.length),R k (pf k) l[k] (pf (k+1)))∧∀ k,k≤m→p0≤pf k∧pf k≤p0+c * k:=by
  intro m
  induction m with
  | zero =>
    intro _
    refine ⟨[],fun _=>p0,rfl,rfl,fun k hk=>by simp at hk,fun k hk=>?_⟩
    have:k=0:=by omega
    subst this;simp
  | succ m ih =>
    intro h
    obtain ⟨l,pf,h1,h2,h3,h4⟩:=ih fun k p hk=>h k p (by omega)
    have h5:=h4 m (Nat.le_refl _)
    obtain ⟨a,p',h6,h7,h8⟩:=h m (pf m) (by omega) h5.1 h5.2
    refine ⟨l++[a],fun k=>if k≤m then pf k else p',by simp [h1],by simp [h2],fun k hk=>?_,fun k hk=>?_⟩
    · by_cases hkm:k < m
      · simp only [if_pos (show k≤m by omega),if_pos (show k+1≤m by omega)]
        rw [List.getElem_append_left (by omega)]
        exact h3 k (by omega)
      · have:k=m:=by simp at hk;omega
        subst this
        simp only [if_pos (Nat.le_refl _),if_neg (show ¬(k+1≤k) by omega)]
        rw [List.getElem_append_right (by omega)]
        simpa [h1] using h6
    · by_cases hkm:k≤m
      · simp only [if_pos hkm];exact h4 k hkm
      · have:k=m+1:=by omega
        subst this
        simp only [if_neg hkm]
        rw [show ((m+1:Nat):Int)=m+1 by omega,Int.mul_add]
        omega
end Go.Gl

namespace Go.Gl
open Go.RowKit Go.WideShapes Go.ChangeShapes
variable {P:Program}
def OpensD {α:Type} (P:Program) (t:TypeId) (enc:α→List AC) (ok:α→Prop):Prop:=∀ k,Opens P t (fun xs=>∃ a,xs=enc a∧ok a) k
theorem od_byte {t:TypeId} (ht:P.underlying t=some (.int .u8)) {enc:Int→List AC} (he:∀ n,enc n=[.raw (.int .u8 n)]):OpensD P t enc (fun n=>(Lit.int .u8 n).wf=true):=fun k =>
  (z998 ht k).imp fun xs ⟨n,h1,h2⟩=>⟨n,h1.trans (he n).symm,h2⟩
theorem z563 {α:Type} {enc:α→List AC} {ok:α→Prop} : (es:List (List AC))→(∀ y∈es,∃ a,y=enc a∧ok a)→∃ l:List α,es=l.map enc∧∀ a∈l,ok a
  | [],_=>⟨[],rfl,fun _ h=>by cases h⟩
  | e::es,h=>by
    obtain ⟨a,h1,h2⟩:=h e (by simp)
    obtain ⟨l,h3,h4⟩:=z563 es fun y hy=>h y (by simp [hy])
    exact ⟨a::l,by rw [h1,h3];rfl,fun b hb=>by
      rcases List.mem_cons.1 hb with rfl|hb
      · exact h2
      · exact h4 b hb⟩
theorem z896 {α : Type} {t e : TypeId} {enc : α → List AC} {ok : α → Prop} {n k : Nat} (ht : P.underlying t = some (.slice e)) (hc : P.cellsOf e = n) (hn : 0 < n) (h : Opens P e (fun xs => ∃ a, xs = enc a ∧ ok a) k) :
    Opens P t (fun xs=>∃ l:List α,xs=[.list n l.length (l.map enc)]∧l.length≤maxLen∧∀ a∈l,ok a) (k+1) :=
  (z775 ht hc hn h).imp fun xs ⟨es,h1,h2,h3⟩=>by
    obtain ⟨l,rfl,h4⟩:=z563 es h3
    exact ⟨l,by rw [h1];simp,by simpa using h2,h4⟩
theorem od_list {α : Type} {t e : TypeId} {enc : α → List AC} {ok : α → Prop} (n : Nat) (ht : P.underlying t = some (.slice e)) (hc : P.cellsOf e = n) (hn : 0 < n) (h : OpensD P e enc ok) {encL : List α → List AC} (he : ∀ l, encL l = [.list n l.length (l.map enc)]) :
    OpensD P t encL (fun l=>l.length≤maxLen∧∀ a∈l,ok a)
  | 0=>z895
  | k+1=>(z896 ht hc hn (h k)).imp fun xs ⟨l,h1,h2⟩=>⟨l,h1.trans (he l).symm,h2⟩
theorem OpensD.imp {α β:Type} {t:TypeId} {enc:α→List AC} {ok:α→Prop} {enc' : β→List AC} {ok' : β→Prop} (h:OpensD P t enc ok) (hi:∀ a,ok a→∃ b,enc a=enc' b∧ok' b):OpensD P t enc' ok':=fun k =>
  (h k).imp fun xs ⟨a,h1,h2⟩=>by
    obtain ⟨b,h3,h4⟩:=hi a h2
    exact ⟨b,h1.trans h3,h4⟩
def ArgD {α:Type} (P:Program) (t:TypeId) (enc:α→AC) (ok:α→Prop):Prop:=ArgOk P t fun x _=>∃ a,x=enc a∧ok a
theorem ArgOk.imp {t:TypeId} {R R' : AC→Nat→Prop} (h:ArgOk P t R) (hi:∀ x m,R x m→R' x m):ArgOk P t R':=fun H enc b hB W r b0 v d ps hv hk=>by
  obtain ⟨x,m,h1,h2⟩:=h H enc b hB W r b0 v d ps hv hk
  exact ⟨x,m,hi _ _ h1,h2⟩
theorem z1080 {α:Type} {t e:TypeId} {enc:α→List AC} {ok:α→Prop} {enc1:α→AC} (ht:P.underlying t=some (.slice e)) (h:OpensD P t enc ok) (he:∀ a,enc a=[enc1 a]):ArgD P t enc1 ok :=
  (z810 ht h).imp fun x m ⟨⟨a,h1,h2⟩,_⟩=>⟨a,by rw [he] at h1;exact (List.cons.inj h1).1,h2⟩
theorem ArgD.imp {α β:Type} {t:TypeId} {enc:α→AC} {ok:α→Prop} {enc' : β→AC} {ok' : β→Prop} (h:ArgD P t enc ok) (hi:∀ a,ok a→∃ b,enc a=enc' b∧ok' b):ArgD P t enc' ok' :=
  ArgOk.imp h fun x m ⟨a,h1,h2⟩=>by
    obtain ⟨b,h3,h4⟩:=hi a h2
    exact ⟨b,h1.trans h3,h4⟩
theorem ArgsOk.imp : {ts:List TypeId}→{R R' : List AC→Nat→Prop}→ArgsOk P ts R→(∀ xs m,R xs m→R' xs m)→ArgsOk P ts R'
  | [],_,_,h,hi=>hi _ _ h
  | _::_,_,_,⟨R1,R2,h1,h2,h3⟩,hi=>⟨R1,R2,h1,h2,fun a m as n ha has=>hi _ _ (h3 a m as n ha has)⟩
theorem z635:ArgsOk P [] (fun xs _=>xs=[]):=rfl
theorem z509 {α:Type} {t:TypeId} {ts:List TypeId} {enc:α→AC} {ok:α→Prop} {R:List AC→Prop} (h:ArgD P t enc ok) (k:ArgsOk P ts (fun xs _=>R xs)):ArgsOk P (t::ts) (fun xs _=>∃ a ys,xs=enc a::ys∧ok a∧R ys) :=
  ⟨_,_,h,k,fun _ _ as _ ⟨b,h1,h2⟩ h3=>⟨b,as,by rw [h1],h2,h3⟩⟩
theorem z272 {H:Type} : (l:List (DataW H))→z503 SizeOf.sizeOf l+1≤SizeOf.sizeOf l
  | []=>by simp [z503]
  | d::r=>by
    have:=z272 r
    simp only [z503,List.cons.sizeOf_spec]
    omega
theorem z327 {H:Type} : Bulk (H:=H) SizeOf.sizeOf where
  lit l:=by simp only [DataW.lit.sizeOf_spec];omega
  nil:=by simp
  slice es sp:=by
    have:=z272 es
    simp only [DataW.slice.sizeOf_spec];omega
  agg ps:=by
    have:=z272 ps
    simp only [DataW.agg.sizeOf_spec];omega
end Go.Gl

namespace Go.Gl
theorem z496 (f:Int→Int):∀ (l:List Int) (o:Int),l.foldl (fun o v=>max o (f v+1)) (o+1)=l.foldl (fun o v=>max o (f v)) o+1
  | [],_=>rfl
  | x::l,o=>by
    rw [List.foldl_cons,List.foldl_cons,← z496 f l]
    congr 1;omega
def rkP (R:List Int) (row:List Int):Int:=row.foldl (fun o v=>max o (R.getD v.toNat 0)) 0
theorem rkP_take {R row:List Int} {j:Nat} (h:j < row.length):rkP R (row.take (j+1))=max (rkP R (row.take j)) (R.getD row[j].toNat 0):=by
  unfold rkP;rw [List.take_succ_eq_append_getElem h,List.foldl_append];rfl
theorem rk_impl {R row:List Int} {z:Bool} (h:∀ v∈row,0≤R.getD v.toNat 0):rkOf R z row=rkP R row+(if z=true∧0 < row.length then 1 else 0):=by
  rw [z379]
  unfold rkP
  cases z with
  | false=>simp
  | true =>
    cases row with
    | nil=>simp
    | cons x row =>
      have hx:=h x (by simp)
      simp only [if_true,List.foldl_cons,List.length_cons,Nat.zero_lt_succ,and_self]
      rw [show max 0 (R.getD x.toNat 0+1)=max 0 (R.getD x.toNat 0)+1 by omega]
      exact z496 (fun v=>R.getD v.toNat 0) row _
section
variable {rows:List (List Int)} {ini:List Int} {acc:List Bool}
def z1095 (rows:List (List Int)) (ini:List Int) (acc:List Bool) (R:List Int):Prop:=∀ u,RP rows ini u→R.getD u.toNat 0≤rkU rows acc R u
theorem rkU_mono {R R' : List Int} {u:Int} (h:∀ v∈rows.getD u.toNat [],R.getD v.toNat 0≤R'.getD v.toNat 0):rkU rows acc R u≤rkU rows acc R' u:=by
  unfold rkU
  rw [z379,z379]
  refine z173 (z85 _ _ _).1 fun v hv=>?_
  have h1:=(z85 (fun v=>R'.getD v.toNat 0+if acc.getD (u % acc.length).toNat false=true then 1 else 0) (rows.getD u.toNat []) 0).2 v hv
  have:=h v hv
  omega
theorem z916 (hr:∀ r∈rows,InN rows.length r) (hin:InN rows.length ini) {x:List Int×Bool} {u:Int} (hu:RP rows ini u) (hl:x.1.length=rows.length) (h:z1095 rows ini acc x.1):z1095 rows ini acc (z251 rows acc x u).1:=by
  rw [z424]
  split
  · rename_i hc
    have huN:=RP.in hr hin hu
    have hg:∀ w,0≤w→(x.1.set u.toNat (rkU rows acc x.1 u)).getD w.toNat 0=if u=w then rkU rows acc x.1 u else x.1.getD w.toNat 0:=fun w hw=>by
      rw [z434 _ _ _ _ (by omega)]
      by_cases e:u=w
      · rw [if_pos e,if_pos (by rw [e])]
      · rw [if_neg e,if_neg (by omega)]
    have hup:∀ w,RP rows ini w→x.1.getD w.toNat 0≤(x.1.set u.toNat (rkU rows acc x.1 u)).getD w.toNat 0:=fun w hw=>by
      rw [hg w (RP.in hr hin hw).1]
      split
      · rename_i e;subst e;omega
      · exact Int.le_refl _
    intro w hw
    have h1:rkU rows acc x.1 w≤rkU rows acc (x.1.set u.toNat (rkU rows acc x.1 u)) w:=rkU_mono fun v hv=>hup v (.step hw hv)
    dsimp only
    rw [hg w (RP.in hr hin hw).1]
    split
    · rename_i e;subst e;exact h1
    · exact Int.le_trans (h w hw) h1
  · exact h
def pst (rows:List (List Int)) (acc:List Bool) (nodes R:List Int) (k:Nat):List Int×Bool:=(nodes.drop k).reverse.foldl (z251 rows acc) (R,false)
theorem z838 (nodes R:List Int):pst rows acc nodes R nodes.length=(R,false):=by unfold pst;rw [List.drop_length];rfl
theorem z836 (nodes R:List Int):pst rows acc nodes R 0=z383 rows acc nodes R:=rfl
theorem z837 {nodes R:List Int} {k:Nat} (h:k < nodes.length):pst rows acc nodes R k=z251 rows acc (pst rows acc nodes R (k+1)) nodes[k]:=by
  unfold pst;rw [List.drop_eq_getElem_cons h,List.reverse_cons,List.foldl_append];rfl
theorem z594 (hr:∀ r∈rows,InN rows.length r) (hin:InN rows.length ini) {R:List Int} (hl:R.length=rows.length) (h:z1095 rows ini acc R):∀ d k,k+d=(bfsL rows ini).length→z1095 rows ini acc (pst rows acc (bfsL rows ini) R k).1
  | 0,k,hk=>by
    obtain rfl:k=(bfsL rows ini).length:=by omega
    rw [z838];exact h
  | d+1,k,hk=>by
    have hkl:k < (bfsL rows ini).length:=by omega
    rw [z837 hkl]
    refine z916 hr hin ((z132 hr hin _).1 (List.getElem_mem _)) ?_ (z594 hr hin hl h d (k+1) (by omega))
    unfold pst;rw [z425];exact hl
structure RoundI (rows:List (List Int)) (ini:List Int) (acc:List Bool) (t:Nat) (R:List Int) (c:Bool):Prop where
  rk:RkI rows ini acc t R
  gr:z1095 rows ini acc R
  off:∀ j:Nat,¬ RP rows ini j→R.getD j 0=0
  fin:c=false→∀ u,RP rows ini u→R.getD u.toNat 0=Wt rows acc (bfsL rows ini).length u
  lt:c=true→t≤(bfsL rows ini).length
theorem RoundI.init (hr:∀ r∈rows,InN rows.length r) (hin:InN rows.length ini):RoundI rows ini acc 0 (List.replicate rows.length 0) true:=by
  have h0:∀ j:Nat,(List.replicate rows.length (0:Int)).getD j 0=0:=fun j=>by
    rw [List.getD_eq_getElem?_getD,List.getElem?_replicate];split<;>rfl
  refine ⟨⟨by simp,fun u hu=>by rw [h0];exact Int.le_refl _,fun u hu=>by rw [h0];exact z515 _ _⟩,fun u hu=>?_,fun j _=>h0 j,(fun h=>by cases h),fun _=>Nat.zero_le _⟩
  rw [h0]
  unfold rkU
  rw [z379]
  exact (z85 _ _ _).1
theorem RoundI.pass (hr : ∀ r ∈ rows, InN rows.length r) (hin : InN rows.length ini) (hno : ∀ x, RP rows ini x → Cyc rows x → acc.getD (x % acc.length).toNat false = false) {t : Nat} {R : List Int} (h : RoundI rows ini acc t R true) :
    RoundI rows ini acc (t+1) (z383 rows acc (bfsL rows ini) R).1 (z383 rows acc (bfsL rows ini) R).2:=by
  have hm:∀ u∈(bfsL rows ini).reverse,RP rows ini u:=fun u hu=>(z132 hr hin u).1 (List.mem_reverse.1 hu)
  have hp:=z477 hr hin hno (t:=t) (bfsL rows ini).reverse (R,false) hm h.rk
  have hg:=z594 hr hin h.rk.len h.gr (bfsL rows ini).length 0 (by omega)
  rw [z836] at hg
  change PsI rows ini acc t (bfsL rows ini).reverse (R,false) (z383 rows acc (bfsL rows ini) R) at hp
  have hall:∀ u,RP rows ini u→u∈(bfsL rows ini).reverse:=fun u hu=>List.mem_reverse.2 ((z132 hr hin u).2 hu)
  refine ⟨⟨hp.inv.len,fun u hu=>hp.nxt u (hall u hu),hp.inv.hi⟩,hg,fun j hj=>by rw [hp.off j hj];exact h.off j hj,fun hc u hu=>?_,fun hc=>?_⟩
  · obtain ⟨h1,h2⟩:=hp.same hc
    rw [h1]
    exact z988 h.rk.weak (fun w hw=>h2 w (hall w hw)) hu
  · rcases Nat.lt_or_ge t (bfsL rows ini).length with h1|h1
    · omega
    · exfalso
      have hst:∀ l:List Int,(∀ u∈l,RP rows ini u)→l.foldl (z251 rows acc) (R,false)=(R,false):=by
        intro l
        induction l with
        | nil=>intro _;rfl
        | cons u l ih =>
          intro hl
          have hu:=hl u (by simp)
          rw [List.foldl_cons,z424,if_neg]
          · exact ih fun w hw=>hl w (by simp [hw])
          · have e:=h.rk.full h1 hu
            have e2:=z989 (acc:=acc) (R:=R) (t:=(bfsL rows ini).length) hu (fun w hw=>by rw [h.rk.full h1 hw];exact Int.le_refl _)
            rw [z868 hr hin hno hu] at e2
            show ¬ R.getD u.toNat 0 < rkU rows acc R u
            omega
      have:z383 rows acc (bfsL rows ini) R=(R,false):=hst _ hm
      rw [this] at hc
      cases hc
theorem pst_inv (hr:∀ r∈rows,InN rows.length r) (hin:InN rows.length ini) (hno:∀ x,RP rows ini x→Cyc rows x→acc.getD (x % acc.length).toNat false=false) {t:Nat} {R:List Int} (h:RkI rows ini acc t R) (k:Nat):RkI rows ini acc t (pst rows acc (bfsL rows ini) R k).1 :=
  (z477 hr hin hno (t:=t) ((bfsL rows ini).drop k).reverse (R,false) (fun u hu=>(z132 hr hin u).1 (List.mem_of_mem_drop (List.mem_reverse.1 hu))) h).inv
end
end Go.Gl

namespace Go.Gl
theorem z323 {α:Type} {p q:α→Bool} : ∀ (l:List α),(∀ x∈l,p x=true→q x=true)→l.countP p≤l.countP q
  | [],_=>Nat.le_refl _
  | x::l,h=>by
    have ih:=z323 l fun y hy=>h y (by simp [hy])
    have hx:=h x (by simp)
    rw [List.countP_cons,List.countP_cons]
    cases hp:p x<;>cases hq:q x<;>simp_all<;>omega
theorem z561 {α:Type} {p q:α→Bool} {z:α} (hz:q z=true) (hn:p z=false):∀ (l:List α),z∈l→(∀ x∈l,p x=true→q x=true)→l.countP p+1≤l.countP q
  | [],h,_=>by cases h
  | x::l,hm,h=>by
    have hx:=h x (by simp)
    have hl:∀ y∈l,p y=true→q y=true:=fun y hy=>h y (by simp [hy])
    rw [List.countP_cons,List.countP_cons]
    rcases List.mem_cons.1 hm with rfl|hm
    · have:=z323 l hl
      rw [hz,hn]
      simp
      omega
    · have:=z561 hz hn l hm hl
      cases hp:p x<;>cases hq:q x<;>simp_all<;>omega
end Go.Gl

