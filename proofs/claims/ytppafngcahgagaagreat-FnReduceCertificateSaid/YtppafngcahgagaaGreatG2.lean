/- A part of the proofs over this program: GlU, GlW, D1, D2, GlX, GlY, D3, GlZ, D4, D5, D6, GlZ1, GlAA, GlRS, D7, D8, D9, D10, D12, D13, GlRT, D14, D17, D18, D19, GlRV, D20, D21, D22, D23, D24, D25, D26, D27. -/
import Derived.Test.YtppafngcahgagaaGreatG0
import Derived.Test.YtppafngcahgagaaGreatG1
import Derived.Sort.Grow
import Derived.Lib.SlicesCompact
set_option linter.all false
/- Ghost logic, part U: a contract's answer, said in the statement's words. -/
namespace Go.Gl
open Go.RowKit Go.WideShapes Go.ChangeShapes
variable {P : Program}

theorem below_of {G' : Ghost} {W W' : World} {o : Nat → AObj} (hle : Le W W') (hs : (startG (hp W)).Sub G') (hw : Wf G' o W') : Below W.heap.size W W' where
  os := hle.os
  tape := hle.tape
  output := hle.output
  size := hle.size
  block k hk := by
    have h1 : (startG (hp W)).S k = some W.heap[k] := by show W.heap[k]? = _; rw [Array.getElem?_eq_getElem hk]
    rw [hw.hS k _ (hs.S k _ h1), Array.getElem?_eq_getElem hk]

theorem trodAll_stays {H : Type} {enc : TypeId × Value → H} {W W' : World} (hl : laidOutB P = true) (hb : Below W.heap.size W W') {sp : Nat → Bool} : (ts : List TypeId) → (vs : List Value) → (ds : List (DataW H)) → (ps : List MemPlace) →
    (∀ t ∈ ts, P.readableRec t = true ∧ t < P.types.size) → (∀ p ∈ ps, p.block < W.heap.size) → (∀ p ∈ ps, sp p.block = true) →
    DataW.TrodAll enc P W 0 (fun _ => true) true ts vs ds ps → DataW.TrodAll enc P W' 0 sp true ts vs ds ps
  | [], [], [], _, _, _, _, h => h
  | t :: ts, v :: vs, d :: ds, _, ht, hlt, hs, ⟨p, q, h1, h2, e⟩ => by
    subst e
    exact ⟨p, q, WideElems.Trod_stays hl (ht t (by simp)).1 (ht t (by simp)).2 h1 (fun x hx => hb.same (hlt x (by simp [hx]))) (fun x hx => hs x (by simp [hx])),
      trodAll_stays hl hb ts vs ds q (fun t h => ht t (by simp [h])) (fun x hx => hlt x (by simp [hx])) (fun x hx => hs x (by simp [hx])) h2, rfl⟩

theorem post_of_below' {H : Type} {enc : TypeId × Value → H} {f : Func} {s : ChangeSpec} {apart fresh handsOn z69 : Bool} {W W' : World} {args : Array Value} {v : Value} {ds gs : List (DataW H)} {before pa pv : List MemPlace}
    (hW : DataW.Whole enc P f.params.toList s.vars apart W args.toList ds gs before)
    (hres : ∀ (b : Nat) (sp : Nat → Bool) (hd : Bool), DataW.TrodAll enc P W' b sp hd f.resultTypes.toList (v.resultList f.resultTypes.size) (s.fn H (ds ++ gs)).results [])
    (hargs : ∀ sp : Nat → Bool, (∀ p ∈ before, sp p.block = true) → DataW.TrodAll enc P W' 0 sp true f.params.toList args.toList (s.fn H (ds ++ gs)).args pa)
    (hvars : ∀ sp : Nat → Bool, (∀ p ∈ before, sp p.block = true) → DataW.TrodVars enc P W' sp s.vars (s.fn H (ds ++ gs)).vars pv)
    (hps : before = pa ++ pv) (hb : Below W.heap.size W W')
    (hok : ∀ (j : Nat) (t : TypeId) (r : Value), f.resultTypes[j]? = some t → (v.resultList f.resultTypes.size)[j]? = some r → Value.okWide P W' .any 0 t r) :
    s.post enc P f apart fresh handsOn z69 W args v W' := by
  have hlt : ∀ p ∈ before, p.block < W.heap.size := fun p hp => hW.lt p hp
  have hold : ∀ p ∈ before, (fun b => decide (b < W.heap.size)) p.block = true := fun p hp => by simpa using hlt p hp
  refine ⟨ds, gs, before, [], pa, pv, hW, hres _ _ _, hargs _ hold, hvars _ hold, World.keptBut_mono (fun p hp => ⟨hp, ?_⟩) (hb.frame (· ∈ before)), fun _ => ?_⟩
  · rw [hps, List.mem_append] at hp
    exact Or.inr hp
  · obtain ⟨_, _, _, _, _, hz, hn⟩ := hW
    refine ⟨hok, _, _, ([] ++ pa) ++ pv, ⟨[] ++ pa, pv, trodAll_append (hargs _ (fun _ _ => rfl)) (hres _ _ _), hvars _ (fun _ _ => rfl), rfl, ?_, ?_⟩, ?_⟩
    · intro b off hp
      have hin : MemPlace.cell b off ∈ before := by rw [hps]; simpa using hp
      rw [hb.frozen (hlt _ hin)]
      exact hz b off hin
    · intro ha
      have := hn ha
      rw [hps] at this
      simpa using this
    · intro p hp _
      rw [hps]
      simpa using hp

/-- A law's contract gives what its statement asks. -/
theorem law_post {H : Type} {enc : TypeId × Value → H} {f : FuncId} {fn : Func} {s : ChangeSpec} {W : World} {args : Array Value} {ds gs : List (DataW H)} {before : List MemPlace} {R : List AC → Nat → Prop} {tb : TypeId} {r : _root_.Go.Reach} {b0 : Nat} {apart fresh handsOn z69 : Bool}
    {b : DataW H → Nat} (hB : Bulk b) (hl : laidOutB P = true) (hts : ∀ t ∈ fn.params.toList, P.readableRec t = true ∧ t < P.types.size)
    (hvars : s.vars = []) (hsp : ∀ ds : List (DataW H), ds.length = fn.params.size → s.fn H ds = { results := [.lit (.bool true)], args := ds }) (hres : fn.resultTypes = #[tb]) (hbool : P.underlying tb = some .bool)
    (hargs : ArgsOk P fn.params.toList R) (hC : ∀ xs m, R xs m → m ≤ bulks b ds → CallsA P f xs [] (.bool true) [])
    (hval : ∀ (j : Nat) t v, fn.params[j]? = some t → args[j]? = some v → Value.okWide P W r b0 t v)
    (hW : DataW.Whole enc P fn.params.toList s.vars apart W args.toList ds gs before) :
    Calls P f args W fun e W' => ∃ v, e = .returned v ∧ s.post enc P fn apart fresh handsOn z69 W args v W' := by
  have hW0 := hW
  obtain ⟨p, q, hA, hV, rfl, hz, hn⟩ := hW
  rw [hvars] at hV
  obtain ⟨rfl, rfl⟩ : gs = [] ∧ q = [] := by
    cases gs with
    | nil => exact ⟨rfl, hV⟩
    | cons _ _ => exact hV.elim
  obtain ⟨xs, m, hR, hcs, hm⟩ := argsOk_cells hB _ _ _ _ _ hargs (fun j t v e e' => hval j t v (by simpa using e) (by simpa using e')) hA
  have hlen : ds.length = fn.params.size := by
    have : ∀ (ts : List TypeId) (vs : List Value) (ds : List (DataW H)) (ps : List MemPlace), DataW.TrodAll enc P W 0 (fun _ => true) true ts vs ds ps → ds.length = ts.length := by
      intro ts
      induction ts with
      | nil => intro vs ds ps h; rw [(trodAll_nil h).2.1]; rfl
      | cons t ts ih =>
        intro vs ds ps h
        obtain ⟨v, vs1, d, ds1, a, b, rfl, rfl, rfl, h1, h2⟩ := trodAll_cons h
        simp [ih _ _ _ h2]
    simpa using this _ _ _ _ hA
  have hsp' := hsp (ds ++ []) (by simpa using hlen)
  obtain ⟨_, hcall⟩ := hC xs m hR hm
  refine (hcall (startG (hp W)) W args (Wf.start W) (by simpa using hcs.length.symm) (hcs.VL fun j _ => by simp)).mono fun e W' ⟨G', v, he, hs, _, hle, hw, hv⟩ => ?_
  subst he
  have hv : v = .bool true := by simpa [V] using hv
  subst hv
  have hb := below_of hle hs hw
  refine ⟨_, rfl, post_of_below' (pa := p) (pv := []) hW0 (fun _ _ _ => ?_) (fun sp hsp => ?_) (fun sp _ => ?_) rfl hb (ok_one hres rfl (okWide_bool_mk hbool _))⟩
  · rw [hsp', hres]
    exact trodAll_mk1 (shut_bool hbool _)
  · rw [hsp']
    simp only [List.append_nil] at hsp ⊢
    exact trodAll_stays hl hb _ _ _ _ hts (fun x hx => hW0.lt x (by simp [hx])) hsp hA
  · rw [hsp', hvars]
    rfl
theorem unownLL_map {α : Type} {f : α → List AC} (h : ∀ a, ∀ x ∈ f a, x.unown = x) (l : List α) : z59 (l.map f) = l.map f :=
  unownLL_flat fun e he x hx => by
    obtain ⟨a, _, rfl⟩ := List.mem_map.1 he
    exact h a x hx

theorem bor_seal {objs : Nat → AObj} {π Bn : List Nat} {o w len : Nat} {es L : List (List AC)} (ho : objs o = .cells w es) (h1 : idx π o = none) (h2 : inB Bn o = true) (he : es = L) (hu : z59 L = L) (hl : L.length = len) : bor objs π Bn (.sref o 0 len) = .list w len L := by
  subst he
  rw [bor_full ho h1 h2 hl, hu]
end Go.Gl

/- Ghost logic, part W: what a proof says step by step. -/
namespace Go.Gl
variable {P : Program}

theorem z80 {b : Bool} {A B : Prop} (h1 : b = false → A) (h2 : b = true → B) : vcIf (!b) A B := by
  cases b
  · exact h1 rfl
  · exact h2 rfl

theorem z47 {m : Nat} {st : St} {res r : AC} (hm : fixed m 0 [] = true) (hu : res.under 0 = true) (h : r = res) : z48 m st res [] r :=
  ⟨[], List.nodup_nil, hm, hu, ACle.of_eq (by rw [ren_under0 res hu, h]), trivial⟩
theorem ret_le {m : Nat} {st : St} {res r : AC} (hm : fixed m 0 [] = true) (hu : res.under 0 = true) (h : ACle r res) : z48 m st res [] r :=
  ⟨[], List.nodup_nil, hm, hu, by rw [ren_under0 res hu]; exact h, trivial⟩
theorem z20 {m : Nat} {st : St} {b c : Bool} (hm : fixed m 0 [] = true) (h : c = b) : z48 m st (.raw (.bool c)) [] (.raw (.bool b)) := z47 hm rfl (by rw [h])
theorem ret_int {m : Nat} {st : St} {b c : Int} (hm : fixed m 0 [] = true) (h : c = b) : z48 m st (.raw (.int .i64 c)) [] (.raw (.int .i64 b)) := z47 hm rfl (by rw [h])

theorem z89 {m : Nat} {st : St} {res r : AC} {objs' : List AObj} (π : List Nat) (h1 : π.Nodup) (h2 : fixed m 0 π = true) (h3 : res.under π.length = true) (h4 : r = res.ren (z56 0 π)) (h5 : objsAll (fun o x => z128 π.length x ∧ st.objs o = z112 (z56 0 π) x) 0 π objs') : z48 m st res objs' r :=
  ⟨π, h1, h2, h3, ACle.of_eq h4, h5⟩
theorem z19 {M w : Nat} {r : Nat → Nat} {x : AObj} {e : List AC} (h : z110 M e = true) (hx : x = .cells w [renL r e]) : z128 M (.cells w [e]) ∧ x = z112 r (.cells w [e]) :=
  ⟨fun y hy => by rw [List.mem_singleton.1 hy]; exact h, by rw [hx]; rfl⟩

/-- a search that carries a state -/
def idxS {α σ : Type} (p : α → σ → Bool) (nx : α → σ → σ) (l : List α) (s : σ) (k : Nat) : Int × σ := match l with
  | [] => (-1, s)
  | x :: r => if p x s then (k, nx x s) else idxS p nx r (nx x s) (k + 1)

/-- the end of a round -/
def z55 {α : Type} (I : α → List (Nat × AC) × List AObj) (ok : α → Prop) (μ : α → Nat) (x : α) (m n : Nat) (st : St) : Prop := ∃ y π, ok y ∧ μ y < μ x ∧ PickL π m n st (I y).1 (I y).2

theorem z69 {α : Type} {I : α → List (Nat × AC) × List AObj} {ok : α → Prop} {μ : α → Nat} {x : α} {m n : Nat} {st : St} (y : α) (π : List Nat) (h1 : ok y) (h2 : μ y < μ x) (h3 : PickL π m n st (I y).1 (I y).2) : z55 I ok μ x m n st := ⟨y, π, h1, h2, h3⟩

theorem z82 {α : Type} {m n : Nat} {env : List (Nat × AC)} {objs : List AObj} {body : Code} {Q : Exit → St → Prop} (I : α → List (Nat × AC) × List AObj) (ok : α → Prop) (μ : α → Nat) (x0 : α) (h0 : ok x0) (hinit : ∃ π, PickL π m n (mkSt n env objs) (I x0).1 (I x0).2)
    (round : ∀ x, ok x → AWP P m body (thenA (fun st' => z55 I ok μ x m n st') Q) (mkSt n (I x).1 (I x).2)) : AWP P m (.loop body) Q (mkSt n env objs) :=
  awp_loop I ok μ x0 h0 hinit round

theorem z13 {α : Type} {f : α → List AC} {l : List α} {i : Nat} {K : List AC → Prop} (h : i < l.length) (k : ∀ h : i < l.length, K (f (l[i]'h))) : ∃ e, (l.map f)[(i : Int).toNat]? = some e ∧ K e := ⟨_, map_get _ _ _ h, k h⟩
theorem z113 {α : Type} {a : α} {K : α → Prop} (k : K a) : ∃ e, some a = some e ∧ K e := ⟨a, rfl, k⟩
theorem z132 {α : Type} (p : α → Bool) (l : List α) (k : Nat) (h : k < l.length) : (l.drop k).all p = (p l[k] && (l.drop (k + 1)).all p) := by
  rw [List.drop_eq_getElem_cons h, List.all_cons]
theorem z127 {α : Type} (p : α → Bool) (l : List α) (k : Nat) (h : l.length ≤ k) : (l.drop k).all p = true := by
  rw [List.drop_eq_nil_of_le h]; rfl
theorem drop_any {α : Type} (p : α → Bool) (l : List α) (k : Nat) (h : k < l.length) : (l.drop k).any p = (p l[k] || (l.drop (k + 1)).any p) := by
  rw [List.drop_eq_getElem_cons h, List.any_cons]
theorem drop_any_end {α : Type} (p : α → Bool) (l : List α) (k : Nat) (h : l.length ≤ k) : (l.drop k).any p = false := by
  rw [List.drop_eq_nil_of_le h]; rfl
theorem get_map {α : Type} {f : α → List AC} {l : List α} {i : Nat} {K : List AC → Prop} (h : i < l.length) (k : ∀ h : i < l.length, K (f (l[i]'h))) : ∃ e, (l.map f)[i]? = some e ∧ K e := ⟨_, map_get _ _ _ h, k h⟩

theorem call_bor {P : Program} {st : St} {K : OpK} {f : FuncId} {first caps args args0 : List AC} {res : AC} (Bn : List Nat) (h : CallsA P f args0 [] res []) (hb : borL st.objs [] Bn (first ++ (args ++ caps)) = args0) (hu : res.under 0 = true) (hpl : res.plain = true) (hn : nodupB Bn = true) (k : forceV res fun r => K r (Bn.map st.rd)) : z32 P st (.fn (.func f) first caps) args K := by
  refine call_flat [] Bn h hb rfl (by simp) hu (by simp) (.inr ⟨hpl, by simp⟩) (Nat.le_refl _) ?_
  rw [z105]
  show z64 (nodupB ([] ++ [] ++ Bn)) _
  rw [List.nil_append, List.nil_append, hn]
  show renK _ _ _
  rw [renK_eq]
  rw [z104] at k
  show K (res.ren (z56 0 [])) _
  rw [ren_under0 res hu]
  exact k


/-- an object behind a call, and how the caller names what it names -/
def ObjRen (M : Nat) (r : Nat → Nat) (x y : AObj) : Prop := underObj M x ∧ z112 r x = y
theorem z23 {M w : Nat} {r : Nat → Nat} {es : List (List AC)} (h : Flat es) : ObjRen M r (.cells w es) (.cells w es) :=
  ⟨fun e he => flatL_under (h e he) M, h.ren r⟩
theorem z17 {M w : Nat} {r : Nat → Nat} {e e' : List AC} (h : z110 M e = true) (he : renL r e = e') : ObjRen M r (.cells w [e]) (.cells w [e']) :=
  ⟨fun x hx => by rw [List.mem_singleton.1 hx]; exact h, by simp [z112, he]⟩
theorem ren_dead {M : Nat} {r : Nat → Nat} : ObjRen M r .dead .dead := ⟨trivial, rfl⟩
def ObjsRen (M : Nat) (r : Nat → Nat) : List AObj → List AObj → Prop
  | [], ys => ys = []
  | x :: xs, ys => ∃ y zs, ys = y :: zs ∧ ObjRen M r x y ∧ ObjsRen M r xs zs
theorem z12 {M : Nat} {r : Nat → Nat} : ObjsRen M r [] [] := rfl
theorem z11 {M : Nat} {r : Nat → Nat} {x y : AObj} {xs ys : List AObj} (h : ObjRen M r x y) (k : ObjsRen M r xs ys) : ObjsRen M r (x :: xs) (y :: ys) := ⟨y, ys, rfl, h, k⟩
theorem ObjsRen.spec {M : Nat} {r : Nat → Nat} : ∀ {xs ys : List AObj}, ObjsRen M r xs ys → (∀ x ∈ xs, underObj M x) ∧ xs.map (z112 r) = ys := by
  intro xs
  induction xs with
  | nil => intro ys h; cases h; exact ⟨by simp, rfl⟩
  | cons x xs ih =>
    rintro ys ⟨y, zs, rfl, ⟨h1, h2⟩, h3⟩
    obtain ⟨h4, h5⟩ := ih h3
    refine ⟨fun z hz => ?_, by rw [List.map_cons, h2, h5]⟩
    rcases List.mem_cons.1 hz with rfl | hz
    · exact h1
    · exact h4 z hz

/-- an object that is handed over -/
theorem pass_flat {objs : Nat → AObj} {π Bn : List Nat} {o w : Nat} {es : List (List AC)} (ho : objs o = .cells w es) (h : Flat es) : z79 objs π Bn o = .cells w es := by
  simp only [z79, ho, AObj.cells.injEq, true_and]
  conv => rhs; rw [← List.map_id es]
  refine List.map_congr_left fun e he => ?_
  conv => rhs; rw [id, ← List.map_id e]
  refine List.map_congr_left fun x hx => ?_
  have := flatL_iff.1 (h e he) x hx
  cases x <;> first | rfl | simp [AC.flat] at this
def PassOk (objs : Nat → AObj) (π Bn : List Nat) : List Nat → List AObj → Prop
  | [], ys => ys = []
  | o :: os, ys => ∃ y zs, ys = y :: zs ∧ z79 objs π Bn o = y ∧ PassOk objs π Bn os zs
theorem z4 {objs : Nat → AObj} {π Bn : List Nat} : PassOk objs π Bn [] [] := rfl
theorem z5 {objs : Nat → AObj} {π Bn : List Nat} {o : Nat} {os : List Nat} {y : AObj} {ys : List AObj} (h : z79 objs π Bn o = y) (k : PassOk objs π Bn os ys) : PassOk objs π Bn (o :: os) (y :: ys) := ⟨y, ys, rfl, h, k⟩
theorem PassOk.spec {objs : Nat → AObj} {π Bn : List Nat} : ∀ {os : List Nat} {ys : List AObj}, PassOk objs π Bn os ys → os.map (z79 objs π Bn) = ys := by
  intro os
  induction os with
  | nil => intro ys h; cases h; rfl
  | cons o os ih =>
    rintro ys ⟨y, zs, rfl, h1, h2⟩
    rw [List.map_cons, h1, ih h2]
def PlainObjs : List AObj → Prop
  | [] => True
  | x :: xs => plainObj x ∧ PlainObjs xs
theorem PlainObjs.spec : ∀ {xs : List AObj}, PlainObjs xs → ∀ x ∈ xs, plainObj x := by
  intro xs
  induction xs with
  | nil => intro _ x hx; cases hx
  | cons y xs ih =>
    intro h x hx
    rcases List.mem_cons.1 hx with rfl | hx
    · exact h.1
    · exact ih h.2 x hx
theorem plainLL_map {α : Type} {f : α → List AC} (h : ∀ a, plainL (f a) = true) (l : List α) : plainLL (l.map f) = true := by
  induction l with
  | nil => rfl
  | cons a l ih => simp only [List.map_cons, plainLL, h a, ih]

def allN (p : Nat → Bool) : List Nat → Bool
  | [] => true
  | x :: xs => match p x with
    | true => allN p xs
    | false => false
theorem allN_spec {p : Nat → Bool} {l : List Nat} (h : allN p l = true) : ∀ x ∈ l, p x = true := by
  induction l with
  | nil => intro x hx; cases hx
  | cons y l ih =>
    intro x hx
    simp only [allN] at h
    split at h
    · rename_i hy
      rcases List.mem_cons.1 hx with rfl | hx
      · exact hy
      · exact ih h x hx
    · cases h

/-- a call: what is handed over by name, what is lent, what is new -/
theorem z6 {st : St} {K : OpK} {f : FuncId} {first caps args args0 : List AC} {objs0 objs1 objs1' : List AObj} {res : AC} (π Bn ν : List Nat) (h : CallsA P f args0 objs0 res objs1) (hb : borL st.objs π Bn (first ++ (args ++ caps)) = args0) (hp : PassOk st.objs π Bn π objs0)
    (hc : allN (fun o => isCells (st.objs o)) π = true) (hf : allN (fun o => isFresh (st.objs o)) ν = true) (hn : nodupB (π ++ ν ++ Bn) = true) (hl : Nat.beq objs1.length (π ++ ν).length = true) (hu : res.under objs1.length = true)
    (ho : ObjsRen objs1.length (z56 0 (π ++ ν)) objs1 objs1') (hpl : Bn = [] ∨ (res.plain = true ∧ PlainObjs objs1))
    (k : renK (z56 0 (π ++ ν)) res fun res1 => K res1 (zipCh st (π ++ ν) objs1' ++ Bn.map st.rd)) : z32 P st (.fn (.func f) first caps) args K := by
  rw [renK_eq] at k
  obtain ⟨h1, h2⟩ := ho.spec
  exact ⟨⟨π, Bn, ν, args0, objs0, res, objs1, res.ren (z56 0 (π ++ ν)), objs1'⟩, ⟨h, hb, hp.spec, nodupB_iff hn, allN_spec hc, allN_spec hf, Nat.eq_of_beq_eq_true hl, rfl, h2, hu, h1, hpl.imp id fun h => ⟨h.1, h.2.spec⟩⟩, k⟩

end Go.Gl

/- The data of the laws as plain data, and how each lies in cells. -/
namespace Go.Gl

theorem le_sum {α : Type} (f : α → Nat) {l : List α} {a : α} (h : a ∈ l) : f a ≤ (l.map f).sum := by
  induction l with
  | nil => cases h
  | cons b l ih =>
    simp only [List.map_cons, List.sum_cons]
    cases h with
    | head => omega
    | tail _ h => have := ih h; omega

inductive Tree where
  | mk (kind val : Int) (kids : List Tree)

def Tree.kind : Tree → Int | .mk k _ _ => k
def Tree.val : Tree → Int | .mk _ v _ => v
def Tree.kids : Tree → List Tree | .mk _ _ l => l

mutual
def Tree.cs : Tree → List AC
  | .mk k v l => [.int k, .int v, .list 3 l.length (Tree.css l)]
def Tree.css : List Tree → List (List AC)
  | [] => []
  | t :: l => Tree.cs t :: Tree.css l
end
mutual
/-- how many nodes lie below -/
def Tree.sz : Tree → Nat
  | .mk _ _ l => Tree.szs l
def Tree.szs : List Tree → Nat
  | [] => 0
  | t :: l => 1 + Tree.sz t + Tree.szs l
end
mutual
def Tree.mx : Tree → Prop
  | .mk _ _ l => l.length ≤ maxLen ∧ Tree.mxs l
def Tree.mxs (l : List Tree) : Prop := match l with
  | [] => True
  | t :: r => Tree.mx t ∧ Tree.mxs r
end

theorem Tree.css_eq (l : List Tree) : Tree.css l = l.map Tree.cs := by
  induction l with
  | nil => simp [Tree.css]
  | cons t l ih => simp [Tree.css, ih]
def Tree.cs' (t : Tree) : List AC := [.int t.kind, .int t.val, .list 3 t.kids.length (t.kids.map Tree.cs)]
theorem Tree.cs_eq : Tree.cs = Tree.cs' := by
  funext t
  cases t with
  | mk k v l => simp [Tree.cs, Tree.cs', Tree.css_eq, Tree.kind, Tree.val, Tree.kids]
theorem Tree.szs_eq (l : List Tree) : Tree.szs l = l.length + (l.map Tree.sz).sum := by
  induction l with
  | nil => simp [Tree.szs]
  | cons t l ih => simp [Tree.szs, ih]; omega
theorem Tree.sz_eq (t : Tree) : t.sz = t.kids.length + (t.kids.map Tree.sz).sum := by
  cases t with
  | mk k v l => simp only [Tree.sz, Tree.kids, Tree.szs_eq]
theorem Tree.mxs_iff (l : List Tree) : Tree.mxs l ↔ ∀ t ∈ l, t.mx := by
  induction l with
  | nil => simp [Tree.mxs]
  | cons t l ih => simp [Tree.mxs, ih]
theorem Tree.mx_iff (t : Tree) : t.mx ↔ t.kids.length ≤ maxLen ∧ ∀ u ∈ t.kids, u.mx := by
  cases t with
  | mk k v l => simp only [Tree.mx, Tree.kids, Tree.mxs_iff]
theorem Tree.lst_eq (l : List Tree) : AC.list 3 l.length (l.map Tree.cs) = AC.list 3 l.length (l.map Tree.cs') := by rw [Tree.cs_eq]
noncomputable instance : DecidableEq Tree := Classical.typeDecidableEq Tree
theorem Tree.ext {a b : Tree} (h1 : a.kind = b.kind) (h2 : a.val = b.val) (h3 : a.kids = b.kids) : a = b := by
  cases a; cases b; simp_all [Tree.kind, Tree.val, Tree.kids]
theorem Tree.ind {p : Tree → Prop} (h : ∀ t, (∀ u ∈ t.kids, p u) → p t) (t : Tree) : p t :=
  Tree.rec (motive_1 := p) (motive_2 := fun l => ∀ u ∈ l, p u) (fun _ _ _ ih => h _ ih) (fun _ h => by cases h) (fun _ _ h1 h2 u hu => by
    cases hu with
    | head => exact h1
    | tail _ h => exact h2 u h) t
end Go.Gl

/- Expressions: what the program's walk computes, and what the reference computes. -/
namespace Go.Gl

def arity (k : Int) : Int := if k = 1 ∨ k = 2 then 0 else if k = 3 then 1 else if 4 ≤ k ∧ k ≤ 9 then 2 else -1
def mostV (k : Int) : Int := if k = 1 then 3 else if k = 2 then 2 else 0

mutual
def Tree.walkE (t : Tree) (d n : Int) : Int × Bool := match t with
  | .mk k v l => if d ≤ 6 ∧ n + 1 ≤ 15 ∧ 0 ≤ v ∧ v ≤ mostV k ∧ (l.length : Int) = arity k then Tree.walkEs l (d + 1) (n + 1) else (n + 1, false)
def Tree.walkEs (l : List Tree) (d n : Int) : Int × Bool := match l with
  | [] => (n, true)
  | t :: r => if (Tree.walkE t d n).2 then Tree.walkEs r d (Tree.walkE t d n).1 else ((Tree.walkE t d n).1, false)
end
mutual
def Tree.shape (t : Tree) (d : Int) : Bool := match t with
  | .mk k v l => decide (1 ≤ d ∧ (l.length : Int) = arity k ∧ 0 ≤ v ∧ v ≤ mostV k) && Tree.shapes l (d - 1)
def Tree.shapes (l : List Tree) (d : Int) : Bool := match l with
  | [] => true
  | t :: r => Tree.shape t d && Tree.shapes r d
end
mutual
def Tree.count (t : Tree) (d : Int) : Int := match t with
  | .mk _ _ l => if 0 < d then 1 + Tree.counts l (d - 1) else 1
def Tree.counts (l : List Tree) (d : Int) : Int := match l with
  | [] => 0
  | t :: r => Tree.count t d + Tree.counts r d
end

theorem Tree.rec2 {p : Tree → Prop} {q : List Tree → Prop} (h : ∀ k v l, q l → p (.mk k v l)) (h0 : q []) (h1 : ∀ t r, p t → q r → q (t :: r)) : (∀ t, p t) ∧ ∀ l, q l :=
  ⟨fun t => Tree.rec (motive_1 := p) (motive_2 := q) (fun k v l ih => h k v l ih) h0 (fun _ _ a b => h1 _ _ a b) t,
   fun l => Tree.rec_1 (motive_1 := p) (motive_2 := q) (fun k v l ih => h k v l ih) h0 (fun _ _ a b => h1 _ _ a b) l⟩

theorem Tree.count_pos : (∀ (t : Tree) d, 1 ≤ t.count d) ∧ ∀ (l : List Tree) d, 0 ≤ Tree.counts l d := by
  refine Tree.rec2 (p := fun t => ∀ d, 1 ≤ t.count d) (q := fun l => ∀ d, 0 ≤ Tree.counts l d) ?_ ?_ ?_
  · intro k v l ih d
    have := ih (d - 1)
    simp only [Tree.count]; split <;> omega
  · intro d; simp [Tree.counts]
  · intro t r h1 h2 d
    have := h1 d; have := h2 d
    simp only [Tree.counts]; omega

/-- the walk finds what the shape and the number of nodes say -/
theorem Tree.walkE_spec : (∀ (t : Tree) d n, 0 ≤ n → n ≤ 15 → ((t.walkE d n).2 = true ↔ t.shape (7 - d) = true ∧ n + t.count (7 - d) ≤ 15) ∧ ((t.walkE d n).2 = true → (t.walkE d n).1 = n + t.count (7 - d)) ∧ n ≤ (t.walkE d n).1 ∧ (t.walkE d n).1 ≤ 16) ∧
    ∀ (l : List Tree) d n, 0 ≤ n → n ≤ 15 → ((Tree.walkEs l d n).2 = true ↔ Tree.shapes l (7 - d) = true ∧ n + Tree.counts l (7 - d) ≤ 15) ∧ ((Tree.walkEs l d n).2 = true → (Tree.walkEs l d n).1 = n + Tree.counts l (7 - d)) ∧ n ≤ (Tree.walkEs l d n).1 ∧ (Tree.walkEs l d n).1 ≤ 16 := by
  refine Tree.rec2 ?_ ?_ ?_
  · intro k v l ih d n h0 h1
    simp only [Tree.walkE, Tree.shape, Tree.count, Bool.and_eq_true, decide_eq_true_eq]
    have hc := Tree.count_pos.2 l (7 - d - 1)
    by_cases hb : d ≤ 6 ∧ n + 1 ≤ 15 ∧ 0 ≤ v ∧ v ≤ mostV k ∧ (l.length : Int) = arity k
    · rw [if_pos hb, if_pos (by omega)]
      have := ih (d + 1) (n + 1) (by omega) hb.2.1
      rw [show 7 - (d + 1) = 7 - d - 1 by omega] at this
      obtain ⟨a1, a2, a3, a4⟩ := this
      refine ⟨?_, ?_, by omega, by omega⟩
      · rw [a1]
        constructor
        · rintro ⟨b1, b2⟩; exact ⟨⟨⟨by omega, hb.2.2.2.2, hb.2.2.1, hb.2.2.2.1⟩, b1⟩, by omega⟩
        · rintro ⟨b1, b2⟩; exact ⟨b1.2, by omega⟩
      · intro h; rw [a2 h]; omega
    · rw [if_neg hb]
      refine ⟨⟨by simp, ?_⟩, by simp, by simp only; omega, by simp only; omega⟩
      rintro ⟨⟨⟨b1, b2, b3, b4⟩, b5⟩, b6⟩
      rw [if_pos (by omega)] at b6
      exact absurd ⟨by omega, by omega, b3, b4, b2⟩ hb
  · intro d n h0 h1
    simp [Tree.walkEs, Tree.shapes, Tree.counts]; omega
  · intro t r iht ihr d n h0 h1
    simp only [Tree.walkEs, Tree.shapes, Tree.counts, Bool.and_eq_true]
    obtain ⟨a1, a2, a3, a4⟩ := iht d n h0 h1
    have hc := Tree.count_pos.2 r (7 - d)
    by_cases hb : (t.walkE d n).2 = true
    · rw [if_pos hb]
      have e := a2 hb
      obtain ⟨b1, b2, b3, b4⟩ := ihr d (t.walkE d n).1 (by omega) (by rw [e]; exact (a1.1 hb).2)
      refine ⟨?_, fun h => by rw [b2 h, e]; omega, by omega, b4⟩
      rw [b1, e]
      exact ⟨fun h => ⟨⟨(a1.1 hb).1, h.1⟩, by omega⟩, fun h => ⟨h.1.2, by omega⟩⟩
    · rw [if_neg hb]
      refine ⟨⟨by simp, fun h => absurd (a1.2 ⟨h.1.1, by omega⟩) hb⟩, by simp, a3, a4⟩

theorem Tree.walkE_eq (t : Tree) (d n : Int) : t.walkE d n = if d ≤ 6 ∧ n + 1 ≤ 15 ∧ 0 ≤ t.val ∧ t.val ≤ mostV t.kind ∧ (t.kids.length : Int) = arity t.kind then Tree.walkEs t.kids (d + 1) (n + 1) else (n + 1, false) := by
  cases t; rfl
theorem Tree.walkEs_idx (d : Int) (l : List Tree) : ∀ n k, Tree.walkEs l d n = ((idxS (fun (x : Tree) s => !(x.walkE d s).2) (fun x s => (x.walkE d s).1) l n k).2, !decide (0 ≤ (idxS (fun (x : Tree) s => !(x.walkE d s).2) (fun x s => (x.walkE d s).1) l n k).1)) := by
  induction l with
  | nil => intro n k; simp [Tree.walkEs, idxS]
  | cons t l ih =>
    intro n k
    simp only [Tree.walkEs, idxS]
    cases h : (t.walkE d n).2
    · simp
    · simp only [if_true, Bool.not_true, Bool.false_eq_true, if_false]; exact ih _ _
def Tree.exprB (t : Tree) : Bool := (t.walkE 1 0).2
theorem Tree.exprB_eq (t : Tree) : t.exprB = (t.shape 6 && decide (t.count 6 ≤ 15)) := by
  have h := (Tree.walkE_spec.1 t 1 0 (by omega) (by omega)).1
  rw [show (7 : Int) - 1 = 6 by omega, Int.zero_add] at h
  rw [Bool.eq_iff_iff, Bool.and_eq_true, decide_eq_true_eq]
  exact h

/-- each kind's own value -/
def b2i (b : Bool) : Int := if b then 1 else 0
mutual
def Tree.ev (v : List Int) (t : Tree) : Int := match t with
  | .mk k x l => if k = 1 then x else if k = 2 then v.getD x.toNat 0 else match Tree.evs v l with
    | [a] => b2i (decide (a = 0))
    | [a, b] => if k = 4 then b2i (decide (a ≠ 0 ∧ b ≠ 0)) else if k = 5 then b2i (decide (a ≠ 0 ∨ b ≠ 0)) else if k = 6 then b2i (decide (a = b)) else if k = 7 then b2i (decide (a < b)) else if k = 8 then (a + b) % 4 else (a - b + 4) % 4
    | _ => 0
def Tree.evs (v : List Int) (l : List Tree) : List Int := match l with
  | [] => []
  | t :: r => Tree.ev v t :: Tree.evs v r
end
/-- made well, at some depth -/
def Tree.good (t : Tree) : Prop := ∃ d, t.shape d = true
theorem Tree.shapes_iff (l : List Tree) (d : Int) : Tree.shapes l d = true ↔ ∀ t ∈ l, t.shape d = true := by
  induction l with
  | nil => simp [Tree.shapes]
  | cons t l ih => simp [Tree.shapes, ih]
theorem Tree.good_of {t : Tree} (h : t.exprB = true) : t.good := by
  rw [Tree.exprB_eq, Bool.and_eq_true] at h
  exact ⟨_, h.1⟩
theorem Tree.good_iff {t : Tree} (h : t.good) : (t.kids.length : Int) = arity t.kind ∧ 0 ≤ t.val ∧ t.val ≤ mostV t.kind ∧ ∀ u ∈ t.kids, u.good := by
  obtain ⟨d, h⟩ := h
  cases t with
  | mk k v l =>
    simp only [Tree.shape, Bool.and_eq_true, decide_eq_true_eq] at h
    exact ⟨h.1.2.1, h.1.2.2.1, h.1.2.2.2, fun u hu => ⟨_, (Tree.shapes_iff _ _).1 h.2 u hu⟩⟩
theorem b2i_range (b : Bool) : 0 ≤ b2i b ∧ b2i b ≤ 3 := by unfold b2i; split <;> omega
/-- values of a state -/
def ValsOk (v : List Int) : Prop := v.length = 3 ∧ ∀ x ∈ v, 0 ≤ x ∧ x ≤ 3
theorem ValsOk.get {v : List Int} (h : ValsOk v) (i : Nat) : 0 ≤ v.getD i 0 ∧ v.getD i 0 ≤ 3 := by
  rw [List.getD_eq_getElem?_getD]
  by_cases hi : i < v.length
  · rw [List.getElem?_eq_getElem hi]
    exact h.2 _ (List.getElem_mem _)
  · rw [List.getElem?_eq_none (by omega)]; simp
theorem Tree.ev_range {v : List Int} (hv : ValsOk v) (t : Tree) : t.good → 0 ≤ t.ev v ∧ t.ev v ≤ 3 := by
  induction t using Tree.ind with | h t ih => ?_
  intro hg
  obtain ⟨h1, h2, h3, h4⟩ := Tree.good_iff hg
  cases t with
  | mk k x l =>
    simp only [Tree.kind, Tree.val, Tree.kids] at *
    simp only [Tree.ev]
    split
    · rename_i hk; subst hk; simp [mostV] at h3; omega
    split
    · exact hv.get _
    · split
      · exact b2i_range _
      · rename_i a b hab
        repeat (first | (split; · first | exact b2i_range _ | omega) | omega)
      · omega
end Go.Gl

/- Ghost logic, part X: what is new behind a call becomes kept data. -/
namespace Go.Gl
variable {P : Program} {G : Ghost} {objs : Nat → AObj} {w : World} {π Bn : List Nat}

theorem seal_core (hW0 : Wf G objs w) (hn : π.Nodup) (hd : ∀ o ∈ π, o ∉ Bn) (ha : ∀ o ∈ π, isCells (objs o) = true) :
    Wf (G.seal_ (hp w) π Bn) (z39 (π.map (z79 objs π Bn))) w ∧ G.Sub (G.seal_ (hp w) π Bn) ∧ (∀ o i t, idx π o = some i → G.ι o = some t → (G.seal_ (hp w) π Bn).ι i = some t) ∧
      ∀ x v, V G (hp w) none x v → V (G.seal_ (hp w) π Bn) (hp w) none (bor objs π Bn x) v := by
  have hW := Wf_sub (Bn := Bn) hW0 hn hd ha
  have hbor := borOk_sub (π := π) (Bn := Bn) hW0
  refine ⟨⟨hW.hS, hW0.hU, fun b x hu => ?_, fun b p hk => ?_, fun o => ?_⟩, ⟨fun b x e => hbor.S b x e, rfl⟩, fun o i t hi e => sub_ι (w := w) (Bn := Bn) hi e, fun x v hv => ?_⟩
  · have hu : G.U b = some x := hu
    cases hkb : G.κ b with
    | none => show (G.sub (hp w) π Bn).S b = none; simp [Ghost.sub, hkb]; exact hW0.su b x hu
    | some p => have := (hW0.sk b p hkb).2.1; rw [hu] at this; cases this
  · have hk' : (G.sub (hp w) π Bn).κ b = some p := hk
    obtain ⟨h1, _, h3⟩ := hW.sk b p hk'
    refine ⟨h1, ?_, h3⟩
    show G.U b = none
    cases hkb : G.κ b with
    | none => simp [Ghost.sub, hkb] at hk'
    | some q => exact (hW0.sk b q hkb).2.1
  · exact other_obj (G := G.sub (hp w) π Bn) (h := hp w) (fun _ _ e => e) (fun _ _ e => e) rfl (fun b p _ hk => ⟨hk, rfl⟩) (hW.objs o)
  · exact V_none (G := G.sub (hp w) π Bn) (G' := G.seal_ (hp w) π Bn) (fun _ _ e => e) (fun _ _ e => e) (V_bor _ hbor _ hv)

theorem CallsA.lend {f : FuncId} {args : List AC} {objs objs1 objs2 : List AObj} {res res2 : AC} (h : CallsA P f args objs res objs1) (π Bn : List Nat) (hn : nodupB (π ++ Bn) = true) (ha : allN (fun o => isCells (z39 objs1 o)) π = true)
    (hf : fixed objs.length 0 π = true) (hr : bor (z39 objs1) π Bn res = res2) (hp' : PassOk (z39 objs1) π Bn π objs2) : CallsA P f args objs res2 objs2 := by
  refine ⟨h.1, fun G w vs hW hs hv => (h.2 G w vs hW hs hv).mono ?_⟩
  rintro e w' ⟨G', v, rfl, h1, h2, h3, h4, h5⟩
  have hnd := nodupB_iff hn
  obtain ⟨k1, k2, k3, k4⟩ := seal_core (π := π) (Bn := Bn) h4 (List.nodup_append.1 hnd).1 (fun o ho hb => (List.nodup_append.1 hnd).2.2 o ho o hb rfl) (allN_spec ha)
  refine ⟨_, v, rfl, h1.trans k2, fun o t ho e => ?_, h3, by rw [← hp'.spec]; exact k1, by rw [← hr]; exact k4 _ _ h5⟩
  have := z126 objs.length 0 π hf o ho
  rw [Nat.zero_add] at this
  exact k3 o o t (idx_get (List.nodup_append.1 hnd).1 this) (h2 o t ho e)

/-- a new slice becomes kept data -/
theorem CallsA.keep {f : FuncId} {args : List AC} {w n : Nat} {es : List (List AC)} (h : CallsA P f args [] (.sref 0 0 n) [.cells w es]) (hu : z59 es = es) (hl : es.length = n) : CallsA P f args [] (.list w n es) [] :=
  h.lend [] [0] rfl rfl rfl (bor_seal rfl rfl rfl rfl hu hl) z4

theorem get_fill {α : Type} {f : α → List AC} {l : List α} {z : List AC} {k : Nat} {K : List AC → Prop} (h : k < l.length) (kk : K z) : ∃ e, ((l.take k).map f ++ List.replicate (l.length - k) z)[(k : Int).toNat + 0]? = some e ∧ K e :=
  ⟨z, fill_get _ _ _ _ h, kk⟩
theorem obj_fill {α : Type} {M w : Nat} {r : Nat → Nat} {f : α → List AC} {l : List α} {z e : List AC} {k j : Nat} {x : AObj} (hk : k < l.length) (hx : x = .cells w (((l.take k).map f ++ List.replicate (l.length - k) z).set j e)) (hj : j = k) (he : e = f l[k]) (hf : ∀ a, flatL (f a) = true) (hz : flatL z = true) :
    z128 M (.cells w ((l.take (k + 1)).map f ++ List.replicate (l.length - (k + 1)) z)) ∧ x = z112 r (.cells w ((l.take (k + 1)).map f ++ List.replicate (l.length - (k + 1)) z)) := by
  subst hj he
  exact z28 (by rw [hx, fill_set _ _ _ _ hk]) (z91 (z8 hf) (z102 hz))
theorem fill_end {α : Type} (f : α → List AC) (l : List α) (z : List AC) (k : Nat) (h : k = l.length) : (l.take k).map f ++ List.replicate (l.length - k) z = l.map f := by
  subst h; simp
/-- a list that grows -/
theorem obj_app {α : Type} {M w : Nat} {r : Nat → Nat} {f : α → List AC} {l : List α} {e : List AC} {k : Nat} {x : AObj} (hk : k < l.length) (n : Nat) (hx : x = .cells w (((l.take k).map f).take n ++ [e])) (hn : n = k) (he : e = f l[k]) (hf : ∀ a, flatL (f a) = true) :
    z128 M (.cells w ((l.take (k + 1)).map f)) ∧ x = z112 r (.cells w ((l.take (k + 1)).map f)) := by
  subst hn he
  refine z28 ?_ (z8 hf)
  rw [hx, List.take_succ_eq_append_getElem hk, List.map_append, List.take_of_length_le (by simp; omega)]
  rfl

theorem ret_new {m : Nat} {st : St} {o n w : Nat} {es es' : List (List AC)} (hm : fixed m 0 [o] = true) (hf : Flat es) (ho : st.objs o = .cells w es') (he : es' = es) : z48 m st (.sref 0 0 n) [.cells w es] (.sref o 0 n) :=
  ⟨[o], by simp, hm, rfl, ACle.refl _, ⟨z28 (by rw [ho, he]) hf, trivial⟩⟩

theorem enc_unown1 {α : Type} (f : α → Value) (l : List α) : z59 (l.map fun a => [AC.raw (f a)]) = l.map fun a => [AC.raw (f a)] :=
  unownLL_map (fun a x hx => by cases hx with | head => rfl | tail _ h => cases h) l
end Go.Gl

/- Ghost logic, part Y: a cell's own slice becomes an object, and back. -/
namespace Go.Gl
variable {P : Program}

noncomputable def Ghost.expose (G : Ghost) (q b0 size wd2 : Nat) : Ghost := { G with κ := fun b => if b = b0 then some (q, []) else G.κ b, ι := fun o => if o = q then some (b0, size, wd2) else G.ι o }

def leafL : List AC → Bool
  | [] => true
  | x :: xs => match x.flat && !x.isOwn with
    | true => leafL xs
    | false => false
theorem leafL_iff {xs : List AC} : leafL xs = true ↔ ∀ x ∈ xs, x.flat = true ∧ x.isOwn = false := by
  induction xs with
  | nil => simp [leafL]
  | cons x xs ih =>
    simp only [leafL]
    cases h : (x.flat && !x.isOwn) <;> simp_all
def Leaf (es : List (List AC)) : Prop := ∀ e ∈ es, leafL e = true
theorem Leaf.flat {es : List (List AC)} (h : Leaf es) : Flat es := fun e he => flatL_iff.2 fun x hx => (leafL_iff.1 (h e he) x hx).1
theorem leaf_map {α : Type} {f : α → List AC} (h : ∀ a, leafL (f a) = true) (l : List α) : Leaf (l.map f) := by
  intro x hx
  obtain ⟨a, _, rfl⟩ := List.mem_map.1 hx
  exact h a

theorem VLL_leaf {G G' : Ghost} {h : Nat → Option Obj} {l l' : Loc} {w : Nat} {es : List (List AC)} {c : Array Value} {off : Nat} (hf : Leaf es) (hS : ∀ b x, G.S b = some x → G'.S b = some x) (hc : VLL G.bare h l w es c off) : VLL G' h l' w es c off := by
  rw [z58] at hc ⊢
  intro i e he
  obtain ⟨h1, h2⟩ := hc i e he
  refine ⟨h1, ?_⟩
  rw [z49] at h2 ⊢
  intro j x hx
  obtain ⟨v, hv1, hv2⟩ := h2 j x hx
  have := (leafL_iff.1 (hf e (List.mem_of_getElem? he)) x (List.mem_of_getElem? hx)).2
  exact ⟨v, hv1, V_at (V_none (G := G.bare) (G' := G') hS (fun _ _ e => by cases e) (V_out this hv2))⟩

theorem Wf.expose {G : Ghost} {objs : Nat → AObj} {w : World} (hW : Wf G objs w) {o q k j wd wd2 : Nat} {es es2 : List (List AC)} {e : List AC} (ho : objs o = .cells wd es) (he : es[k]? = some e) (hj : e[j]? = some (.own wd2 es2)) (hq : objs q = .fresh) (hfl : Leaf es2) :
    ∃ G', (∀ b x, G.S b = some x → G'.S b = some x) ∧ G'.U = G.U ∧ (∀ o t, G.ι o = some t → G'.ι o = some t) ∧ Wf G' (upd (upd objs o (.cells wd (es.set k (e.set j (.sref q 0 es2.length))))) q (.cells wd2 es2)) w := by
  have hoq : o ≠ q := by rintro rfl; rw [ho] at hq; cases hq
  obtain ⟨b, c, el, hι, hκ, hb, hc⟩ := hW.obj ho he
  have hιq : G.ι q = none := by have := hW.objs q; rw [hq] at this; exact this
  have hkl : k < es.length := (List.getElem?_eq_some_iff.1 he).1
  have hjl : j < e.length := (List.getElem?_eq_some_iff.1 hj).1
  rw [z58] at hc
  obtain ⟨hek, hcv⟩ := hc k e he
  rw [z49] at hcv
  obtain ⟨v0, hv0, hv0'⟩ := hcv j _ hj
  simp only [V, Loc.cell, Option.map_some] at hv0'
  obtain ⟨a, cap, rfl, hcap, hown⟩ := hv0'
  rcases hown with ⟨hes, hcap0⟩ | ⟨b0, c0, el0, p, ha, hp, hκ0, hb0, hsz, hc0⟩
  · -- no block
    subst hes hcap0
    refine ⟨G, fun _ _ e => e, rfl, fun _ _ e => e, hW.hS, hW.hU, hW.su, hW.sk, fun o' => ?_⟩
    by_cases h1 : o' = q
    · subst h1; rw [z45]; exact .inl ⟨rfl, hιq⟩
    · rw [z68 _ _ h1]
      by_cases h2 : o' = o
      · subst h2
        rw [z45]
        refine .inr ⟨b, c.size, c, el, hι, hκ, hb, rfl, ?_⟩
        rw [z58]
        intro i e' he'
        by_cases hik : i = k
        · subst hik
          rw [List.getElem?_set_self hkl] at he'
          cases he'
          refine ⟨by simpa using hek, ?_⟩
          rw [z49]
          intro jj x hx
          by_cases hjj : jj = j
          · subst hjj
            rw [List.getElem?_set_self hjl] at hx
            cases hx
            exact ⟨_, hv0, by simp only [V]; exact ⟨0, Nat.le_refl _, .inl ⟨rfl, a, rfl⟩⟩⟩
          · rw [List.getElem?_set_ne (Ne.symm hjj)] at hx
            exact hcv jj x hx
        · rw [List.getElem?_set_ne (Ne.symm hik)] at he'
          exact hc i e' he'
      · rw [z68 _ _ h2]; exact hW.objs o'
  · subst ha
    cases hp
    have hS : ∀ b' x, G.S b' = some x → (G.expose q b0 c0.size wd2).S b' = some x := fun _ _ e => e
    have hιs : ∀ o' t, G.ι o' = some t → (G.expose q b0 c0.size wd2).ι o' = some t := fun o' t e => by
      by_cases h : o' = q
      · subst h; rw [hιq] at e; cases e
      · simp only [Ghost.expose, if_neg h]; exact e
    have hκ' : ∀ b' p', p' ≠ (o, [0 + k * wd + j]) → G.κ b' = some p' → (G.expose q b0 c0.size wd2).κ b' = some p' := fun b' p' hne hk => by
      have : b' ≠ b0 := by rintro rfl; rw [hκ0] at hk; cases hk; exact hne rfl
      simp only [Ghost.expose, if_neg this]; exact hk
    refine ⟨G.expose q b0 c0.size wd2, hS, rfl, hιs, hW.hS, hW.hU, hW.su, fun b' p' hk => ?_, fun o' => ?_⟩
    · by_cases h : b' = b0
      · subst h; exact hW.sk _ _ hκ0
      · simp only [Ghost.expose, if_neg h] at hk; exact hW.sk _ _ hk
    · by_cases h1 : o' = q
      · subst h1
        rw [z45]
        refine .inr ⟨b0, c0.size, c0, el0, by simp [Ghost.expose], by simp [Ghost.expose], hb0, rfl, ?_⟩
        exact VLL_leaf hfl hS hc0
      · rw [z68 _ _ h1]
        by_cases h2 : o' = o
        · subst h2
          rw [z45]
          refine .inr ⟨b, c.size, c, el, hιs _ _ hι, hκ' b (o', []) (by simp) hκ, hb, rfl, ?_⟩
          have hmv : ∀ (x : AC) (pos : Nat) (v : Value), pos ≠ 0 + k * wd + j → V G (hp w) (some (o', [pos])) x v → V (G.expose q b0 c0.size wd2) (hp w) (some (o', [pos])) x v := fun x pos v hne hv => by
            have := V_move x G (G.expose q b0 c0.size wd2) (hp w) (hp w) id (fun p => p.2.getLast? = some pos) hS hιs (fun _ _ _ => rfl) (fun o'' j' q' h => by
              cases q' with
              | nil => simp at h
              | cons y ys => rw [List.getLast?_cons_cons]; exact h) (fun b' p hp hk => ⟨hκ' b' p (by rintro rfl; simp at hp; exact hne (by omega)) hk, rfl⟩) (some (o', [pos])) v (fun p hp => by cases hp; rfl) hv
            simpa using this
          rw [z58]
          intro i e' he'
          by_cases hik : i = k
          · subst hik
            rw [List.getElem?_set_self hkl] at he'
            cases he'
            refine ⟨by simpa using hek, ?_⟩
            rw [z49]
            intro jj x hx
            by_cases hjj : jj = j
            · subst hjj
              rw [List.getElem?_set_self hjl] at hx
              cases hx
              refine ⟨_, hv0, ?_⟩
              simp only [V]
              exact ⟨cap, by omega, .inr ⟨b0, c0.size, wd2, by simp [Ghost.expose], by simpa using hsz, by simp⟩⟩
            · rw [List.getElem?_set_ne (Ne.symm hjj)] at hx
              obtain ⟨v, hv1, hv2⟩ := hcv jj x hx
              exact ⟨v, hv1, by simpa [Loc.cell] using hmv x _ v (by omega) (by simpa [Loc.cell] using hv2)⟩
          · rw [List.getElem?_set_ne (Ne.symm hik)] at he'
            obtain ⟨h3, h4⟩ := hc i e' he'
            refine ⟨h3, ?_⟩
            rw [z49] at h4 ⊢
            intro jj x hx
            obtain ⟨v, hv1, hv2⟩ := h4 jj x hx
            have hjw : jj < wd := by rw [← h3]; exact (List.getElem?_eq_some_iff.1 hx).1
            have hne : 0 + i * wd + jj ≠ 0 + k * wd + j := by
              intro heq
              have hj' : j < wd := by rw [← hek]; exact hjl
              rcases Nat.lt_or_gt_of_ne hik with hlt | hlt
              · have : (i + 1) * wd ≤ k * wd := Nat.mul_le_mul_right _ hlt
                rw [Nat.add_mul] at this; omega
              · have : (k + 1) * wd ≤ i * wd := Nat.mul_le_mul_right _ hlt
                rw [Nat.add_mul] at this; omega
            exact ⟨v, hv1, by simpa [Loc.cell] using hmv x _ v hne (by simpa [Loc.cell] using hv2)⟩
        · rw [z68 _ _ h2]
          exact other_obj hS (fun _ _ e => hιs _ _ e) (by simp [Ghost.expose, h1]) (fun b' p hp hk => ⟨hκ' b' p (by rintro rfl; exact h2 hp.symm) hk, rfl⟩) (hW.objs o')

/-- a cell that tells less -/
def LocLe (x y : AC) : Prop := ∀ (G : Ghost) (h : Nat → Option Obj) (l : Loc) (v : Value), V G h l x v → V G h l y v
theorem nils_own {w : Nat} : LocLe .nils (.own w []) := fun G h l v hv => by
  simp only [V] at hv ⊢
  exact ⟨none, 0, hv, Nat.le_refl _, .inl ⟨trivial, rfl⟩⟩
theorem LocLe.refl (x : AC) : LocLe x x := fun _ _ _ _ h => h

theorem Reach.weaken {m n : Nat} {env : List (Nat × AC)} {objs objs' : List AObj} (o : Nat) {wd : Nat} {es es' : List (List AC)} (ho : z39 objs o = .cells wd es) (hl : es'.length = es.length)
    (hr : ∀ (i : Nat) (e' : List AC), es'[i]? = some e' → ∃ e : List AC, es[i]? = some e ∧ e'.length = e.length ∧ ∀ (j : Nat) (x' : AC), e'[j]? = some x' → ∃ x, e[j]? = some x ∧ LocLe x x')
    (hk : applyK objs [⟨o, .dead, .cells wd es'⟩] fun l => l = objs') : Reach m (mkSt n env objs) (mkSt n env objs') := fun G a w hR => by
  obtain ⟨l, rfl, hl'⟩ := applyK_spec hk
  refine ⟨G, SubM.refl m G, ⟨?_, hR.env, hR.size, hR.defers⟩⟩
  show Wf G (z39 l) w
  rw [hl']
  refine ⟨hR.wf.hS, hR.wf.hU, hR.wf.su, hR.wf.sk, fun o' => ?_⟩
  show ObjRel G (hp w) o' (upd (z39 objs) o (.cells wd es') o')
  by_cases h : o' = o
  · subst h
    rw [z45]
    have := hR.wf.objs o'
    rw [show (mkSt n env objs).objs o' = .cells wd es from ho] at this
    rcases this with ⟨h1, h2⟩ | ⟨b, size, c, el, h1, h2, h3, h4, h5⟩
    · subst h1
      exact .inl ⟨List.eq_nil_of_length_eq_zero (by simpa using hl), h2⟩
    · refine .inr ⟨b, size, c, el, h1, h2, h3, h4, ?_⟩
      rw [z58] at h5 ⊢
      intro i e' he'
      obtain ⟨e, he, hle, hx⟩ := hr i e' he'
      obtain ⟨h6, h7⟩ := h5 i e he
      refine ⟨by rw [hle, h6], ?_⟩
      rw [z49] at h7 ⊢
      intro j x' hx'
      obtain ⟨x, hx1, hx2⟩ := hx j x' hx'
      obtain ⟨v, hv1, hv2⟩ := h7 j x hx1
      exact ⟨v, hv1, hx2 _ _ _ _ hv2⟩
  · rw [z68 _ _ h]; exact hR.wf.objs o'

theorem rows_weaken {N w : Nat} : ∀ (i : Nat) (e' : List AC), (List.replicate N [AC.own w []])[i]? = some e' → ∃ e, (List.replicate N [AC.nils])[i]? = some e ∧ e'.length = e.length ∧ ∀ (j : Nat) (x' : AC), e'[j]? = some x' → ∃ x, e[j]? = some x ∧ LocLe x x' := by
  intro i e' he
  rw [List.getElem?_replicate] at he ⊢
  split at he
  · rename_i hi
    cases he
    refine ⟨_, if_pos hi, rfl, fun j x' hx => ?_⟩
    match j, hx with
    | 0, hx => cases hx; exact ⟨_, rfl, nils_own⟩
    | j + 1, hx => simp at hx
  · cases he

theorem z122 (id : Nat) {m : Nat} {ops : Array Oper} {d : Bool} {Q : Exit → St → Prop} {st : St} (h : AWP P m (.region id ops d) Q st) : AWP P m (.region id ops d) Q st := h
theorem z92 (id : Nat) {m : Nat} {ops : Array Oper} {d : Bool} {c : Code} {Q : Exit → St → Prop} {st : St} (h : AWP P m (.seq (.region id ops d) c) Q st) : AWP P m (.seq (.region id ops d) c) Q st := h
theorem get_set {es : List (List AC)} {i n : Nat} {r : List AC} {K : List AC → Prop} (h : n = i) (hi : i < es.length) (k : K r) : ∃ e, (es.set i r)[n]? = some e ∧ K e :=
  ⟨r, by subst h; exact List.getElem?_set_self hi, k⟩
theorem z62 {α : Type} {f : α → List AC} {l : List α} {x : Int} {K : List AC → Prop} (h : x.toNat < l.length) (k : ∀ h : x.toNat < l.length, K (f (l[x.toNat]'h))) : ∃ e, (l.map f)[x.toNat]? = some e ∧ K e := ⟨_, map_get _ _ _ h, k h⟩
theorem ret_newN {m : Nat} {st : St} {o n n' w : Nat} {es es' : List (List AC)} (hm : fixed m 0 [o] = true) (hf : Flat es) (hn : n' = n) (ho : st.objs o = .cells w es') (he : es' = es) : z48 m st (.sref 0 0 n) [.cells w es] (.sref o 0 n') := by
  subst hn; exact ret_new hm hf ho he

theorem Reach.expose {m n : Nat} {env : List (Nat × AC)} {objs objs' : List AObj} (o k j : Nat) {wd wd2 : Nat} {es es2 : List (List AC)} {e : List AC} (ho : z39 objs o = .cells wd es) (he : es[k]? = some e) (hj : e[j]? = some (.own wd2 es2)) (hfl : Leaf es2)
    (hk : applyK objs [⟨o, .dead, .cells wd (es.set k (e.set j (.sref objs.length 0 es2.length)))⟩, ⟨objs.length, .fresh, .cells wd2 es2⟩] fun l => l = objs') : Reach m (mkSt n env objs) (mkSt n env objs') := fun G a w hR => by
  obtain ⟨l, rfl, hl⟩ := applyK_spec hk
  obtain ⟨G', h1, h2, h3, h4⟩ := hR.wf.expose (q := objs.length) ho he hj (z61 (Nat.le_refl _)) hfl
  refine ⟨G', ⟨⟨h1, h2⟩, fun o t _ e => h3 o t e⟩, ⟨?_, fun s => V_none h1 h3 (hR.env s), hR.size, hR.defers⟩⟩
  show Wf G' (z39 l) w
  rw [hl]; exact h4

theorem Reach.absorb {m n : Nat} {env : List (Nat × AC)} {objs objs' : List AObj} (o q k j : Nat) {wd wd2 len : Nat} {es es2 : List (List AC)} {e : List AC} (ho : z39 objs o = .cells wd es) (he : es[k]? = some e) (hj : e[j]? = some (.sref q 0 len)) (hq : z39 objs q = .cells wd2 es2) (hn : es2.length = len) (hoq : Nat.beq o q = false) (hfl : Flat es2)
    (hk : applyK objs [⟨o, .dead, .cells wd (es.set k (e.set j (.own wd2 es2)))⟩, ⟨q, .dead, .dead⟩] fun l => l = objs') : Reach m (mkSt n env objs) (mkSt n env objs') := fun G a w hR => by
  obtain ⟨l, rfl, hl⟩ := applyK_spec hk
  have h4 := hR.wf.absorb (o := o) (q := q) ho he hj hq hn (by rintro rfl; rw [Nat.beq_refl] at hoq; cases hoq) hfl
  refine ⟨G.absorb o q (k * wd + j), ⟨⟨fun _ _ e => e, rfl⟩, fun o t _ e => e⟩, ⟨?_, fun s => V_none (G := G) (G' := G.absorb o q (k * wd + j)) (fun _ _ e => e) (fun _ _ e => e) (hR.env s), hR.size, hR.defers⟩⟩
  show Wf _ (z39 l) w
  rw [hl]; exact h4

end Go.Gl

/- Rows that are filled by pushes. -/
namespace Go.Gl

def build (N : Nat) (ps : List (Nat × Int)) : List (List Int) := (List.range N).map fun r => (ps.filter (fun p => p.1 == r)).map (·.2)
theorem z71 (N : Nat) (ps : List (Nat × Int)) : (build N ps).length = N := by simp [build]
theorem build_get {N : Nat} {ps : List (Nat × Int)} {i : Nat} (h : i < (build N ps).length) : (build N ps)[i] = (ps.filter (fun p => p.1 == i)).map (·.2) := by
  simp [build]
theorem build_push {N : Nat} {ps : List (Nat × Int)} {i : Nat} {v : Int} (h : i < (build N ps).length) : build N (ps ++ [(i, v)]) = (build N ps).set i ((build N ps)[i] ++ [v]) := by
  apply List.ext_getElem (by simp [build])
  intro j h1 h2
  rw [List.getElem_set]
  simp only [build_get]
  by_cases hj : i = j
  · subst hj; rw [if_pos rfl]; simp
  · rw [if_neg hj]; simp [hj]
theorem build_nil (N : Nat) : build N [] = List.replicate N [] := by
  apply List.ext_getElem (by simp [build])
  intro j h1 h2
  simp [build_get]
def ownRow (r : List Int) : List AC := [.own 1 (r.map fun n => [AC.raw (.int .i64 n)])]
theorem rows_push {N : Nat} {ps : List (Nat × Int)} {i : Nat} {v : Int} {a b : List AC} (h : i < (build N ps).length) :
    ((((build N ps).map ownRow).set i a).set i b).set i (ownRow ((build N ps)[i] ++ [v])) = (build N (ps ++ [(i, v)])).map ownRow := by
  rw [List.set_set, List.set_set, build_push h, List.map_set]
theorem rows_push' {N : Nat} {ps : List (Nat × Int)} {i n len : Nat} {v : Int} {a b : List AC} (h : i < (build N ps).length) (hn : n = i) (hl : len = (build N ps)[i].length) :
    ((((build N ps).map ownRow).set i a).set n b).set i [.own 1 ((((build N ps)[i].map fun n => [AC.raw (.int .i64 n)]).take len) ++ [[AC.raw (.int .i64 v)]])] = (build N (ps ++ [(i, v)])).map ownRow := by
  subst hn hl
  rw [← rows_push h (a := a) (b := b)]
  congr 1
  simp only [ownRow]
  rw [List.take_of_length_le (by simp), List.map_append]
  rfl
theorem getset {es : List (List AC)} {i n : Nat} {r : List AC} (h : n = i) (hi : i < es.length) : (es.set n r)[i]? = some r := by
  subst h; exact List.getElem?_set_self hi
theorem flat_len {α β : Type} {f : α → List β} {c : Nat} : ∀ (l : List α), (∀ x ∈ l, (f x).length ≤ c) → (l.flatMap f).length ≤ l.length * c := by
  intro l
  induction l with
  | nil => intro _; simp
  | cons x l ih =>
    intro h
    have h1 := h x (by simp)
    have h2 := ih fun y hy => h y (by simp [hy])
    rw [List.flatMap_cons, List.length_append, List.length_cons, Nat.add_mul]
    omega
theorem flat_congr {α β : Type} {f g : α → List β} : ∀ {l : List α}, (∀ x ∈ l, f x = g x) → l.flatMap f = l.flatMap g := by
  intro l
  induction l with
  | nil => intro _; rfl
  | cons x l ih =>
    intro h
    rw [List.flatMap_cons, List.flatMap_cons, h x (by simp), ih fun y hy => h y (by simp [hy])]
theorem build_row_le {N : Nat} {ps : List (Nat × Int)} {i : Nat} (h : i < (build N ps).length) : (build N ps)[i].length ≤ ps.length := by
  rw [build_get, List.length_map]
  exact List.length_filter_le _ _
theorem rows_nil (N : Nat) : (build N []).map ownRow = List.replicate N [.own 1 []] := by
  rw [build_nil, List.map_replicate]; rfl
theorem z25 {α : Type} {l : List α} {i : Nat} {d : α} (h : i < l.length) : l.getD i d = l[i] := by
  rw [List.getD_eq_getElem?_getD, List.getElem?_eq_getElem h]; rfl
theorem z100 {a b A B : Int} (h1 : 0 ≤ a) (h2 : a ≤ A) (h3 : 0 ≤ b) (h4 : b ≤ B) : 0 ≤ a * b ∧ a * b ≤ A * B :=
  ⟨Int.mul_nonneg h1 h3, Int.mul_le_mul h2 h4 h3 (by omega)⟩
theorem drop_flat {α β : Type} (f : α → List β) (l : List α) (k : Nat) (h : k < l.length) : (l.drop k).flatMap f = f l[k] ++ (l.drop (k + 1)).flatMap f := by
  rw [List.drop_eq_getElem_cons h, List.flatMap_cons]
theorem z98 {α β : Type} (f : α → List β) (l : List α) (k : Nat) (h : l.length ≤ k) : (l.drop k).flatMap f = [] := by
  rw [List.drop_eq_nil_of_le h]; rfl

/- the same, of any elements -/
section gen
variable {α : Type}
def z96 (N : Nat) (ps : List (Nat × α)) : List (List α) := (List.range N).map fun r => (ps.filter (fun p => p.1 == r)).map (·.2)
theorem z133 (N : Nat) (ps : List (Nat × α)) : (z96 N ps).length = N := by simp [z96]
theorem buildG_get {N : Nat} {ps : List (Nat × α)} {i : Nat} (h : i < (z96 N ps).length) : (z96 N ps)[i] = (ps.filter (fun p => p.1 == i)).map (·.2) := by
  simp [z96]
theorem buildG_push {N : Nat} {ps : List (Nat × α)} {i : Nat} {v : α} (h : i < (z96 N ps).length) : z96 N (ps ++ [(i, v)]) = (z96 N ps).set i ((z96 N ps)[i] ++ [v]) := by
  apply List.ext_getElem (by simp [z96])
  intro j h1 h2
  rw [List.getElem_set]
  simp only [buildG_get]
  by_cases hj : i = j
  · subst hj; rw [if_pos rfl]; simp
  · rw [if_neg hj]; simp [hj]
theorem buildG_nil (N : Nat) : z96 N ([] : List (Nat × α)) = List.replicate N [] := by
  apply List.ext_getElem (by simp [z96])
  intro j h1 h2
  simp [buildG_get]
def ownG (w : Nat) (f : α → List AC) (r : List α) : List AC := [.own w (r.map f)]
theorem rowsG_push {w : Nat} {f : α → List AC} {N : Nat} {ps : List (Nat × α)} {i n len : Nat} {v : α} {a b e : List AC} (h : i < (z96 N ps).length) (hn : n = i) (hl : len = (z96 N ps)[i].length) (he : e = f v) :
    ((((z96 N ps).map (ownG w f)).set i a).set n b).set i [.own w ((((z96 N ps)[i].map f).take len) ++ [e])] = (z96 N (ps ++ [(i, v)])).map (ownG w f) := by
  subst hn hl he
  rw [List.set_set, List.set_set, buildG_push h, List.map_set]
  congr 1
  simp only [ownG]
  rw [List.take_of_length_le (by simp), List.map_append]
  rfl
theorem rowsG_nil (w : Nat) (f : α → List AC) (N : Nat) : (z96 N []).map (ownG w f) = List.replicate N [.own w []] := by
  rw [buildG_nil, List.map_replicate]; rfl
theorem buildG_row_le {N : Nat} {ps : List (Nat × α)} {i : Nat} (h : i < (z96 N ps).length) : (z96 N ps)[i].length ≤ ps.length := by
  rw [buildG_get, List.length_map]
  exact List.length_filter_le _ _
theorem rowsG_unown {w : Nat} {f : α → List AC} (hf : ∀ a, ∀ x ∈ f a, x.unown = x) (l : List (List α)) : z59 (l.map (ownG w f)) = l.map fun r => [AC.list w r.length (r.map f)] := by
  rw [unownLL_eq, List.map_map]
  refine List.map_congr_left fun r _ => ?_
  show [AC.list w _ (z59 _)] = _
  rw [unownLL_map hf]
  simp
end gen
end Go.Gl

/- Ghost logic, part Z: a cell's own slice becomes an object, whatever that slice owns. -/
namespace Go.Gl
variable {P : Program}

mutual
theorem V_mvD (x : AC) (G G' : Ghost) (h h' : Nat → Option Obj) (f : Nat × List Nat → Nat × List Nat) (D : Nat × List Nat → Prop) (hS : ∀ b x, G.S b = some x → G'.S b = some x) (hι : ∀ o t, G.ι o = some t → G'.ι o = some t)
    (hf : ∀ o j q, D (o, q) → f (o, j :: q) = ((f (o, q)).1, j :: (f (o, q)).2)) (hD : ∀ o j q, D (o, q) → D (o, j :: q))
    (hκ : ∀ b p, D p → G.κ b = some p → G'.κ b = some (f p) ∧ h' b = h b) (l : Loc) (v : Value) (hl : ∀ p, l = some p → D p) (hv : V G h l x v) : V G' h' (l.map f) x v := by
  have hb : ∀ b p, False → G.bare.κ b = some p → G'.bare.κ b = some (id p) ∧ h' b = h b := fun _ _ h => h.elim
  match x with
  | .any => simp [V]
  | .raw _ => simpa [V] using hv
  | .list w n es =>
    simp only [V] at hv ⊢
    obtain ⟨a, cap, rfl, hcap, hn, hv⟩ := hv
    refine ⟨a, cap, rfl, hcap, hn, hv.imp id ?_⟩
    rintro ⟨b, off, c, el, fz, rfl, hb', hc⟩
    exact ⟨b, off, c, el, fz, rfl, hS _ _ hb', VLL_mvD es G.bare G'.bare h h' id (fun _ => False) hS (fun _ _ e => e) (fun _ _ _ _ => rfl) (fun _ _ _ h => h) hb none w c off (by simp) hc⟩
  | .pt cs =>
    simp only [V] at hv ⊢
    obtain ⟨b, off, c, el, fz, rfl, hb', hc⟩ := hv
    exact ⟨b, off, c, el, fz, rfl, hS _ _ hb', VL_mvD cs G.bare G'.bare h h' id (fun _ => False) hS (fun _ _ e => e) (fun _ _ _ _ => rfl) (fun _ _ _ h => h) hb none c off (by simp) hc⟩
  | .sref o off len =>
    simp only [V] at hv ⊢
    obtain ⟨cap, hc, hv⟩ := hv
    refine ⟨cap, hc, hv.imp id ?_⟩
    rintro ⟨b, size, w, hb, h2⟩
    exact ⟨b, size, w, hι _ _ hb, h2⟩
  | .ptr o i off =>
    simp only [V] at hv ⊢
    obtain ⟨b, size, w, hb, h2⟩ := hv
    exact ⟨b, size, w, hι _ _ hb, h2⟩
  | .own w es =>
    simp only [V] at hv ⊢
    obtain ⟨a, cap, rfl, hcap, hv⟩ := hv
    refine ⟨a, cap, rfl, hcap, hv.imp id ?_⟩
    rintro ⟨b, c, el, p, rfl, rfl, hk, hb, hs, hc⟩
    obtain ⟨hk', hh'⟩ := hκ b p (hl p rfl) hk
    exact ⟨b, c, el, f p, rfl, rfl, hk', by rw [hh', hb], hs, VLL_mvD es G.bare G'.bare h h' f D hS (fun _ _ e => e) hf hD hκ (some p) w c 0 hl hc⟩
  | .fn g first caps =>
    simp only [V] at hv ⊢
    obtain ⟨xs, ys, rfl, h1, h2, h3, h4⟩ := hv
    exact ⟨xs, ys, rfl, h1, h2, VL_mvD first G G' h h' f D hS hι hf hD hκ none xs 0 (by simp) h3, VL_mvD caps G G' h h' f D hS hι hf hD hκ none ys 0 (by simp) h4⟩
  | .agg cs =>
    simp only [V] at hv ⊢
    obtain ⟨c, rfl, h1, h3⟩ := hv
    exact ⟨c, rfl, h1, VL_mvD cs G G' h h' f D hS hι hf hD hκ none c 0 (by simp) h3⟩
  | .tup cs =>
    simp only [V] at hv ⊢
    obtain ⟨c, rfl, h1, h3⟩ := hv
    exact ⟨c, rfl, h1, VL_mvD cs G G' h h' f D hS hι hf hD hκ none c 0 (by simp) h3⟩
termination_by structural x
theorem VL_mvD (xs : List AC) (G G' : Ghost) (h h' : Nat → Option Obj) (f : Nat × List Nat → Nat × List Nat) (D : Nat × List Nat → Prop) (hS : ∀ b x, G.S b = some x → G'.S b = some x) (hι : ∀ o t, G.ι o = some t → G'.ι o = some t)
    (hf : ∀ o j q, D (o, q) → f (o, j :: q) = ((f (o, q)).1, j :: (f (o, q)).2)) (hD : ∀ o j q, D (o, q) → D (o, j :: q))
    (hκ : ∀ b p, D p → G.κ b = some p → G'.κ b = some (f p) ∧ h' b = h b) (l : Loc) (c : Array Value) (off : Nat) (hl : ∀ p, l = some p → D p) (hv : VL G h l xs c off) : VL G' h' (l.map f) xs c off := by
  match xs with
  | [] => simp [VL]
  | x :: xs =>
    simp only [VL] at hv ⊢
    obtain ⟨⟨v, hv1, hv2⟩, hv3⟩ := hv
    refine ⟨⟨v, hv1, ?_⟩, VL_mvD xs G G' h h' f D hS hι hf hD hκ l c (off + 1) hl hv3⟩
    have := V_mvD x G G' h h' f D hS hι hf hD hκ (l.cell off) v (by
      intro p hp
      cases l with
      | none => simp [Loc.cell] at hp
      | some q => simp [Loc.cell] at hp; subst hp; exact hD _ _ _ (hl q rfl)) hv2
    cases l with
    | none => exact this
    | some q =>
      simp only [Loc.cell, Option.map_some] at this ⊢
      rw [hf q.1 off q.2 (hl q rfl)] at this
      exact this
termination_by structural xs
theorem VLL_mvD (es : List (List AC)) (G G' : Ghost) (h h' : Nat → Option Obj) (f : Nat × List Nat → Nat × List Nat) (D : Nat × List Nat → Prop) (hS : ∀ b x, G.S b = some x → G'.S b = some x) (hι : ∀ o t, G.ι o = some t → G'.ι o = some t)
    (hf : ∀ o j q, D (o, q) → f (o, j :: q) = ((f (o, q)).1, j :: (f (o, q)).2)) (hD : ∀ o j q, D (o, q) → D (o, j :: q))
    (hκ : ∀ b p, D p → G.κ b = some p → G'.κ b = some (f p) ∧ h' b = h b) (l : Loc) (w : Nat) (c : Array Value) (off : Nat) (hl : ∀ p, l = some p → D p) (hv : VLL G h l w es c off) : VLL G' h' (l.map f) w es c off := by
  match es with
  | [] => simp [VLL]
  | e :: es =>
    simp only [VLL] at hv ⊢
    obtain ⟨h1, h2, h3⟩ := hv
    exact ⟨h1, VL_mvD e G G' h h' f D hS hι hf hD hκ l c off hl h2, VLL_mvD es G G' h h' f D hS hι hf hD hκ l w c (off + w) hl h3⟩
termination_by structural es
end

def exposeK (κ : Nat → Option (Nat × List Nat)) (o q pos : Nat) (b : Nat) : Option (Nat × List Nat) := match κ b with
  | some (o', p) => if o' = o ∧ p.getLast? = some pos then some (q, p.dropLast) else some (o', p)
  | none => none
noncomputable def Ghost.exposeD (G : Ghost) (o q pos b0 size wd2 : Nat) : Ghost := { G with κ := exposeK G.κ o q pos, ι := fun o' => if o' = q then some (b0, size, wd2) else G.ι o' }

theorem Wf.exposeD {G : Ghost} {objs : Nat → AObj} {w : World} (hW : Wf G objs w) {o q k j wd wd2 : Nat} {es es2 : List (List AC)} {e : List AC} (ho : objs o = .cells wd es) (he : es[k]? = some e) (hj : e[j]? = some (.own wd2 es2)) (hq : objs q = .fresh) :
    ∃ G', (∀ b x, G.S b = some x → G'.S b = some x) ∧ G'.U = G.U ∧ (∀ o t, G.ι o = some t → G'.ι o = some t) ∧ Wf G' (upd (upd objs o (.cells wd (es.set k (e.set j (.sref q 0 es2.length))))) q (.cells wd2 es2)) w := by
  have hoq : o ≠ q := by rintro rfl; rw [ho] at hq; cases hq
  obtain ⟨b, c, el, hι, hκ, hb, hc⟩ := hW.obj ho he
  have hιq : G.ι q = none := by have := hW.objs q; rw [hq] at this; exact this
  have hkl : k < es.length := (List.getElem?_eq_some_iff.1 he).1
  have hjl : j < e.length := (List.getElem?_eq_some_iff.1 hj).1
  rw [z58] at hc
  obtain ⟨hek, hcv⟩ := hc k e he
  rw [z49] at hcv
  obtain ⟨v0, hv0, hv0'⟩ := hcv j _ hj
  simp only [V, Loc.cell, Option.map_some] at hv0'
  obtain ⟨a, cap, rfl, hcap, hown⟩ := hv0'
  rcases hown with ⟨hes, hcap0⟩ | ⟨b0, c0, el0, p, ha, hp, hκ0, hb0, hsz, hc0⟩
  · -- no block
    subst hes hcap0
    refine ⟨G, fun _ _ e => e, rfl, fun _ _ e => e, hW.hS, hW.hU, hW.su, hW.sk, fun o' => ?_⟩
    by_cases h1 : o' = q
    · subst h1; rw [z45]; exact .inl ⟨rfl, hιq⟩
    · rw [z68 _ _ h1]
      by_cases h2 : o' = o
      · subst h2
        rw [z45]
        refine .inr ⟨b, c.size, c, el, hι, hκ, hb, rfl, ?_⟩
        rw [z58]
        intro i e' he'
        by_cases hik : i = k
        · subst hik
          rw [List.getElem?_set_self hkl] at he'
          cases he'
          refine ⟨by simpa using hek, ?_⟩
          rw [z49]
          intro jj x hx
          by_cases hjj : jj = j
          · subst hjj
            rw [List.getElem?_set_self hjl] at hx
            cases hx
            exact ⟨_, hv0, by simp only [V]; exact ⟨0, Nat.le_refl _, .inl ⟨rfl, a, rfl⟩⟩⟩
          · rw [List.getElem?_set_ne (Ne.symm hjj)] at hx
            exact hcv jj x hx
        · rw [List.getElem?_set_ne (Ne.symm hik)] at he'
          exact hc i e' he'
      · rw [z68 _ _ h2]; exact hW.objs o'
  · subst ha
    cases hp
    rw [Nat.zero_add] at hκ0
    have hS : ∀ b' x, G.S b' = some x → (G.exposeD o q (k * wd + j) b0 c0.size wd2).S b' = some x := fun _ _ e => e
    have hιs : ∀ o' t, G.ι o' = some t → (G.exposeD o q (k * wd + j) b0 c0.size wd2).ι o' = some t := fun o' t e => by
      by_cases h : o' = q
      · subst h; rw [hιq] at e; cases e
      · simp only [Ghost.exposeD, if_neg h]; exact e
    have hκ' : ∀ b' p', ¬(p'.1 = o ∧ p'.2.getLast? = some (k * wd + j)) → G.κ b' = some p' → (G.exposeD o q (k * wd + j) b0 c0.size wd2).κ b' = some p' := fun b' p' hne hk => by
      obtain ⟨p1, p2⟩ := p'
      simp only [Ghost.exposeD, exposeK, hk, if_neg hne]
    have hκm : ∀ b' p', p'.1 = o ∧ p'.2.getLast? = some (k * wd + j) → G.κ b' = some p' → (G.exposeD o q (k * wd + j) b0 c0.size wd2).κ b' = some (q, p'.2.dropLast) := fun b' p' hne hk => by
      obtain ⟨p1, p2⟩ := p'
      simp only [Ghost.exposeD, exposeK, hk, if_pos hne]
    refine ⟨G.exposeD o q (k * wd + j) b0 c0.size wd2, hS, rfl, hιs, hW.hS, hW.hU, hW.su, fun b' p' hk => ?_, fun o' => ?_⟩
    · cases hkb : G.κ b' with
      | none => simp [Ghost.exposeD, exposeK, hkb] at hk
      | some p => exact hW.sk _ _ hkb
    · by_cases h1 : o' = q
      · subst h1
        rw [z45]
        refine .inr ⟨b0, c0.size, c0, el0, by simp [Ghost.exposeD], by have := hκm b0 (o, [k * wd + j]) ⟨rfl, rfl⟩ hκ0; simpa using this, hb0, rfl, ?_⟩
        have := VLL_mvD es2 G.bare (G.exposeD o o' (k * wd + j) b0 c0.size wd2) (hp w) (hp w) (fun p => (o', p.2.dropLast)) (fun p => p.1 = o ∧ p.2.getLast? = some (k * wd + j)) hS (fun _ _ e => by cases e)
          (fun o1 j1 q1 h => by
            cases q1 with
            | nil => simp at h
            | cons y ys => simp [List.dropLast_cons_of_ne_nil])
          (fun o1 j1 q1 h => by
            cases q1 with
            | nil => simp at h
            | cons y ys => simpa using h)
          (fun b' p hp hk => ⟨hκm b' p hp hk, rfl⟩) (some (o, [0 + k * wd + j])) wd2 c0 0 (fun p hp => by cases hp; simp) hc0
        simpa using this
      · rw [z68 _ _ h1]
        by_cases h2 : o' = o
        · subst h2
          rw [z45]
          refine .inr ⟨b, c.size, c, el, hιs _ _ hι, hκ' b (o', []) (by simp) hκ, hb, rfl, ?_⟩
          have hmv : ∀ (x : AC) (pos : Nat) (v : Value), pos ≠ 0 + k * wd + j → V G (hp w) (some (o', [pos])) x v → V (G.exposeD o' q (k * wd + j) b0 c0.size wd2) (hp w) (some (o', [pos])) x v := fun x pos v hne hv => by
            have := V_move x G (G.exposeD o' q (k * wd + j) b0 c0.size wd2) (hp w) (hp w) id (fun p => p.2.getLast? = some pos) hS hιs (fun _ _ _ => rfl) (fun o'' j' q' h => by
              cases q' with
              | nil => simp at h
              | cons y ys => simpa using h) (fun b' p hp hk => ⟨hκ' b' p (by rintro ⟨_, h⟩; rw [hp] at h; cases h; exact hne (by omega)) hk, rfl⟩) (some (o', [pos])) v (fun p hp => by cases hp; rfl) hv
            simpa using this
          rw [z58]
          intro i e' he'
          by_cases hik : i = k
          · subst hik
            rw [List.getElem?_set_self hkl] at he'
            cases he'
            refine ⟨by simpa using hek, ?_⟩
            rw [z49]
            intro jj x hx
            by_cases hjj : jj = j
            · subst hjj
              rw [List.getElem?_set_self hjl] at hx
              cases hx
              refine ⟨_, hv0, ?_⟩
              simp only [V]
              exact ⟨cap, by omega, .inr ⟨b0, c0.size, wd2, by simp [Ghost.exposeD], by simpa using hsz, by simp⟩⟩
            · rw [List.getElem?_set_ne (Ne.symm hjj)] at hx
              obtain ⟨v, hv1, hv2⟩ := hcv jj x hx
              exact ⟨v, hv1, by simpa [Loc.cell] using hmv x _ v (by omega) (by simpa [Loc.cell] using hv2)⟩
          · rw [List.getElem?_set_ne (Ne.symm hik)] at he'
            obtain ⟨h3, h4⟩ := hc i e' he'
            refine ⟨h3, ?_⟩
            rw [z49] at h4 ⊢
            intro jj x hx
            obtain ⟨v, hv1, hv2⟩ := h4 jj x hx
            have hjw : jj < wd := by rw [← h3]; exact (List.getElem?_eq_some_iff.1 hx).1
            have hne : 0 + i * wd + jj ≠ 0 + k * wd + j := by
              intro heq
              have hj' : j < wd := by rw [← hek]; exact hjl
              rcases Nat.lt_or_gt_of_ne hik with hlt | hlt
              · have : (i + 1) * wd ≤ k * wd := Nat.mul_le_mul_right _ hlt
                rw [Nat.add_mul] at this; omega
              · have : (k + 1) * wd ≤ i * wd := Nat.mul_le_mul_right _ hlt
                rw [Nat.add_mul] at this; omega
            exact ⟨v, hv1, by simpa [Loc.cell] using hmv x _ v hne (by simpa [Loc.cell] using hv2)⟩
        · rw [z68 _ _ h2]
          exact other_obj hS (fun _ _ e => hιs _ _ e) (by simp [Ghost.exposeD, h1]) (fun b' p hp hk => ⟨hκ' b' p (by rintro ⟨h, _⟩; exact h2 (hp.symm.trans h)) hk, rfl⟩) (hW.objs o')

theorem Reach.exposeD {m n : Nat} {env : List (Nat × AC)} {objs objs' : List AObj} (o k j : Nat) {wd wd2 : Nat} {es es2 : List (List AC)} {e : List AC} (ho : z39 objs o = .cells wd es) (he : es[k]? = some e) (hj : e[j]? = some (.own wd2 es2))
    (hk : applyK objs [⟨o, .dead, .cells wd (es.set k (e.set j (.sref objs.length 0 es2.length)))⟩, ⟨objs.length, .fresh, .cells wd2 es2⟩] fun l => l = objs') : Reach m (mkSt n env objs) (mkSt n env objs') := fun G a w hR => by
  obtain ⟨l, rfl, hl⟩ := applyK_spec hk
  obtain ⟨G', h1, h2, h3, h4⟩ := hR.wf.exposeD (q := objs.length) ho he hj (z61 (Nat.le_refl _))
  refine ⟨G', ⟨⟨h1, h2⟩, fun o t _ e => h3 o t e⟩, ⟨?_, fun s => V_none h1 h3 (hR.env s), hR.size, hR.defers⟩⟩
  show Wf G' (z39 l) w
  rw [hl]; exact h4

end Go.Gl

/- Data that owns its parts; marks. -/
namespace Go.Gl

mutual
def Tree.co : Tree → List AC
  | .mk k v l => [.int k, .int v, .own 3 (Tree.cos l)]
def Tree.cos : List Tree → List (List AC)
  | [] => []
  | t :: l => Tree.co t :: Tree.cos l
end
/-- the first i elements are new, the others as before -/
def mixL (g : Nat → List AC) (F : List (List AC)) (i : Nat) : List (List AC) := (List.range i).map g ++ F.drop i
theorem mixL_zero (g : Nat → List AC) (F : List (List AC)) : mixL g F 0 = F := by simp [mixL]
theorem mixL_set {g : Nat → List AC} {F : List (List AC)} {i j : Nat} {e : List AC} (h : i < F.length) (hj : j = i) (he : e = g i) : (mixL g F i).set j e = mixL g F (i + 1) := by
  subst hj he
  unfold mixL
  rw [List.set_append_right _ _ (by simp), List.length_map, List.length_range, Nat.sub_self, List.drop_eq_getElem_cons h, List.set_cons_zero, List.range_succ, List.map_append, List.append_assoc]
  rfl
theorem mixL_end {g : Nat → List AC} {F : List (List AC)} {i : Nat} (h : F.length ≤ i) : mixL g F i = (List.range i).map g := by
  unfold mixL; rw [List.drop_eq_nil_of_le h, List.append_nil]
theorem mixL_get {α : Type} {enc : α → List AC} {g : Nat → List AC} {l : List α} {i : Nat} (hi : i < l.length) : (mixL g (l.map enc) i)[i]? = some (enc l[i]) := by
  unfold mixL
  rw [List.getElem?_append_right (by simp)]
  simp [hi]
theorem get_mix {α : Type} {enc : α → List AC} {g : Nat → List AC} {l : List α} {i n : Nat} {K : List AC → Prop} (h : n = i) (hi : i < l.length) (k : K (enc l[i])) : ∃ e, (mixL g (l.map enc) i)[n]? = some e ∧ K e :=
  ⟨_, by subst h; exact mixL_get hi, k⟩
theorem mixL_flat {α : Type} {enc : α → List AC} {g : Nat → List AC} {l : List α} {i : Nat} (hg : ∀ j, flatL (g j) = true) (hf : ∀ a, flatL (enc a) = true) : Flat (mixL g (l.map enc) i) :=
  z91 (z8 hg) fun e he => z8 hf e (List.mem_of_mem_drop he)
/-- the numbers that a marking writes -/
def marks (k : Int) (n : Nat) : List Int := (List.range n).map fun i : Nat => k + i
theorem z24 {es : List (List AC)} {i n : Nat} {r : List AC} {K : List AC → Prop} (h : n = i) (hg : es[i]? = some r) (k : K r) : ∃ e, es[n]? = some e ∧ K e := ⟨r, by rw [h]; exact hg, k⟩
end Go.Gl

/- Numbering by first occurrence; what is lent. -/
namespace Go.Gl

/-- what is lent reads as data -/
theorem bor_list {objs : Nat → AObj} {π Bn : List Nat} {o w n : Nat} {es L : List (List AC)} (ho : objs o = .cells w es) (h1 : idx π o = none) (h2 : inB Bn o = true) (hl : es.length = n) (hu : z59 es = L) : bor objs π Bn (.sref o 0 n) = .list w n L := by
  rw [bor_full ho h1 h2 hl, hu]
theorem bor_agg {objs : Nat → AObj} {π Bn : List Nat} {xs ys : List AC} (h : borL objs π Bn xs = ys) : bor objs π Bn (.agg xs) = .agg ys := by
  simp only [bor, h]
theorem z86 {objs : Nat → AObj} {π Bn : List Nat} : borL objs π Bn [] = [] := rfl
theorem z57 {objs : Nat → AObj} {π Bn : List Nat} {x y : AC} {xs ys : List AC} (h : bor objs π Bn x = y) (k : borL objs π Bn xs = ys) : borL objs π Bn (x :: xs) = y :: ys := by
  simp only [borL, h, k]

section
variable {P : Program}
theorem CallsA.keepT {f : FuncId} {args : List AC} {w n : Nat} {es L : List (List AC)} {y : AC} (h : CallsA P f args [] (.tup [.sref 0 0 n, y]) [.cells w es]) (hu : z59 es = L) (hl : es.length = n) (hy : bor (z39 [.cells w es]) [] [0] y = y) : CallsA P f args [] (.tup [.list w n L, y]) [] := by
  refine h.lend [] [0] rfl rfl rfl ?_ z4
  have := bor_list (objs := z39 [.cells w es]) (π := []) (Bn := [0]) (o := 0) rfl rfl rfl hl hu
  simp only [bor, borL] at this hy ⊢
  rw [this, hy]

theorem Wf.phantoms {G : Ghost} {w0 : World} (hW : Wf G (z39 []) w0) {l : List AObj} (h : ∀ x ∈ l, ∃ w, x = .cells w []) : Wf G (z39 l) w0 := by
  refine ⟨hW.hS, hW.hU, hW.su, hW.sk, fun o => ?_⟩
  have hι : G.ι o = none := by
    have := hW.objs o
    have e : z39 [] o = .fresh := by simp [z39, z56]
    rw [e] at this; exact this
  show ObjRel G (hp w0) o (z39 l o)
  rcases Nat.lt_or_ge o l.length with h1 | h1
  · obtain ⟨w, hw⟩ := h _ (List.getElem_mem h1)
    have : z39 l o = .cells w [] := by
      rw [← hw]; unfold z39; exact z53 (List.getElem?_eq_getElem h1)
    rw [this]; exact .inl ⟨rfl, hι⟩
  · have : z39 l o = .fresh := z61 h1
    rw [this]; exact hι

theorem CallsA.nils {f : FuncId} {args : List AC} {res res' : AC} {l : List AObj} (h : CallsA P f args [] res []) (hl : ∀ x ∈ l, ∃ w, x = .cells w []) (hr : ACle res res') : CallsA P f args [] res' l := by
  refine ⟨h.1, fun G w vs hW hs hv => (h.2 G w vs hW hs hv).mono ?_⟩
  rintro e w' ⟨G', v, rfl, h1, h2, h3, h4, h5⟩
  exact ⟨G', v, rfl, h1, h2, h3, h4.phantoms hl, hr _ _ _ h5⟩
end
theorem nil_sref {o : Nat} : ACle .nils (.sref o 0 0) := fun G h v hv => by
  simp only [V] at hv ⊢
  exact ⟨0, Nat.le_refl _, .inl ⟨rfl, none, hv⟩⟩
end Go.Gl

/- Reachable nodes. -/
namespace Go.Gl

inductive RP (rows : List (List Int)) (ini : List Int) : Int → Prop
  | base {x : Int} : x ∈ ini → RP rows ini x
  | step {x y : Int} : RP rows ini x → y ∈ rows.getD x.toNat [] → RP rows ini y

def InN (N : Nat) (l : List Int) : Prop := ∀ x ∈ l, 0 ≤ x ∧ x < N

/-- the cells of a list of truth values: which numbers a list holds -/
def mkB (N : Nat) (S : List Int) : List Bool := (List.range N).map fun v : Nat => decide ((v : Int) ∈ S)
theorem mkB_len (N : Nat) (S : List Int) : (mkB N S).length = N := by simp [mkB]
theorem mkB_nil (N : Nat) : mkB N [] = List.replicate N false := by
  apply List.ext_getElem (by simp [mkB])
  intro i h1 h2
  simp [mkB]
theorem mkB_get {N : Nat} {S : List Int} {v : Int} (h0 : 0 ≤ v) (h1 : v < N) : (mkB N S)[v.toNat]? = some (decide (v ∈ S)) := by
  unfold mkB
  rw [List.getElem?_map, List.getElem?_range (by omega)]
  simp [Int.toNat_of_nonneg h0]
theorem mkB_set {N : Nat} {S S' : List Int} {v : Int} (h0 : 0 ≤ v) (h1 : v < N) (hs : ∀ x, x ∈ S' ↔ x ∈ S ∨ x = v) : (mkB N S).set v.toNat true = mkB N S' := by
  apply List.ext_getElem (by simp [mkB])
  intro i h2 h3
  rw [List.getElem_set]
  simp only [mkB, List.getElem_map, List.getElem_range]
  have := hs i
  by_cases h : v.toNat = i
  · rw [if_pos h]
    have : (i : Int) = v := by omega
    symm; rw [decide_eq_true_eq]; exact (hs i).2 (.inr this)
  · rw [if_neg h]
    have h4 : ¬ (i : Int) = v := by omega
    simp only [decide_eq_decide]
    rw [this]; simp [h4]
section
variable {enc : Bool → List AC}
theorem get_mkB {N n : Nat} {S : List Int} {v : Int} {K : List AC → Prop} (h : n = v.toNat) (h0 : 0 ≤ v) (h1 : v < N) (k : K (enc (decide (v ∈ S)))) : ∃ e, ((mkB N S).map enc)[n]? = some e ∧ K e :=
  ⟨_, by rw [h, List.getElem?_map, mkB_get h0 h1]; rfl, k⟩
theorem set_mkB {N n : Nat} {S S' : List Int} {v : Int} (h : n = v.toNat) (h0 : 0 ≤ v) (h1 : v < N) (hs : ∀ x, x ∈ S' ↔ x ∈ S ∨ x = v) : ((mkB N S).map enc).set n (enc true) = (mkB N S').map enc := by
  rw [h, ← mkB_set h0 h1 hs, List.map_set]
end
noncomputable instance {rows : List (List Int)} {ini : List Int} {x : Int} : Decidable (RP rows ini x) := Classical.propDecidable _
noncomputable def reachB (rows : List (List Int)) (ini : List Int) : List Bool := (List.range rows.length).map fun v : Nat => decide (RP rows ini v)
theorem reachB_eq {rows : List (List Int)} {ini S : List Int} (h : ∀ v : Nat, v < rows.length → ((v : Int) ∈ S ↔ RP rows ini v)) : mkB rows.length S = reachB rows ini := by
  unfold mkB reachB
  refine List.map_congr_left fun v hv => ?_
  simp only [decide_eq_decide]
  exact h v (List.mem_range.1 hv)
theorem z124 (rows : List (List Int)) (ini : List Int) : (reachB rows ini).length = rows.length := by simp [reachB]

/-- how many numbers below n a list lacks -/
def cntU : Nat → List Int → Nat
  | 0, _ => 0
  | n + 1, S => cntU n S + (if (n : Int) ∈ S then 0 else 1)
theorem cntU_le {S S' : List Int} (h : ∀ x ∈ S, x ∈ S') (n : Nat) : cntU n S' ≤ cntU n S := by
  induction n with
  | zero => exact Nat.le_refl _
  | succ n ih =>
    simp only [cntU]
    by_cases h1 : (n : Int) ∈ S
    · rw [if_pos h1, if_pos (h _ h1)]; omega
    · rw [if_neg h1]; split <;> omega
theorem cntU_lt {S S' : List Int} {v : Int} (h : ∀ x ∈ S, x ∈ S') (hv : v ∉ S) (hv' : v ∈ S') (n : Nat) (h0 : 0 ≤ v) (h1 : v < n) : cntU n S' + 1 ≤ cntU n S := by
  induction n with
  | zero => omega
  | succ n ih =>
    simp only [cntU]
    by_cases h2 : v = n
    · subst h2
      rw [if_pos hv', if_neg hv]
      have := cntU_le h n
      omega
    · have := ih (by omega)
      by_cases h3 : (n : Int) ∈ S
      · rw [if_pos h3, if_pos (h _ h3)]; omega
      · rw [if_neg h3]; split <;> omega
theorem cntU_bound (n : Nat) (S : List Int) : cntU n S ≤ n := by
  induction n with
  | zero => exact Nat.le_refl _
  | succ n ih => simp only [cntU]; split <;> omega

/-- breadth first -/
def visit (out : List Int) (v : Int) : List Int := if v ∈ out then out else out ++ [v]
def z94 (out l : List Int) : List Int := l.foldl visit out
def bfs (rows : List (List Int)) (ini : List Int) : Nat → List Int
  | 0 => z94 [] ini
  | i + 1 => if h : i < (bfs rows ini i).length then z94 (bfs rows ini i) (rows.getD ((bfs rows ini i)[i]).toNat []) else bfs rows ini i
def bfsL (rows : List (List Int)) (ini : List Int) : List Int := bfs rows ini rows.length

theorem visit_mem {out : List Int} {v x : Int} : x ∈ visit out v ↔ x ∈ out ∨ x = v := by
  unfold visit; split
  · rename_i h
    constructor
    · exact .inl
    · rintro (h1 | rfl) <;> assumption
  · simp
theorem visits_mem {out l : List Int} {x : Int} : x ∈ z94 out l ↔ x ∈ out ∨ x ∈ l := by
  unfold z94
  induction l generalizing out with
  | nil => simp
  | cons v l ih => rw [List.foldl_cons, ih, visit_mem]; simp [or_assoc]
theorem visit_nodup {out : List Int} {v : Int} (h : out.Nodup) : (visit out v).Nodup := by
  unfold visit; split
  · exact h
  · rename_i hv
    rw [List.nodup_append]
    exact ⟨h, by simp, fun a ha b hb => by rintro rfl; rw [List.mem_singleton.1 hb] at ha; exact hv ha⟩
theorem visits_nodup {out l : List Int} (h : out.Nodup) : (z94 out l).Nodup := by
  unfold z94
  induction l generalizing out with
  | nil => exact h
  | cons v l ih => exact ih (visit_nodup h)
theorem visit_pre (out : List Int) (v : Int) : ∃ t, visit out v = out ++ t := by
  unfold visit; split
  · exact ⟨[], by simp⟩
  · exact ⟨_, rfl⟩
theorem visits_pre (out l : List Int) : ∃ t, z94 out l = out ++ t := by
  unfold z94
  induction l generalizing out with
  | nil => exact ⟨[], by simp⟩
  | cons v l ih =>
    obtain ⟨t, ht⟩ := visit_pre out v
    obtain ⟨t', ht'⟩ := ih (visit out v)
    exact ⟨t ++ t', by rw [List.foldl_cons, ht', ht, List.append_assoc]⟩
theorem visits_snoc (out l : List Int) (v : Int) : z94 out (l ++ [v]) = visit (z94 out l) v := by simp [z94]
theorem visits_take {out l : List Int} {k : Nat} (h : k < l.length) : z94 out (l.take (k + 1)) = visit (z94 out (l.take k)) l[k] := by
  rw [List.take_succ_eq_append_getElem h, visits_snoc]
theorem pigeon : ∀ (N : Nat) (l : List Int), l.Nodup → InN N l → l.length ≤ N
  | 0, l, _, h => by
    cases l with
    | nil => exact Nat.le_refl _
    | cons a l => have := h a (by simp); omega
  | N + 1, l, hn, h => by
    by_cases hN : (N : Int) ∈ l
    · have h1 := pigeon N (l.erase N) (hn.erase _) fun x hx => by
        have h2 := (hn.mem_erase_iff).1 hx
        have h3 := h x h2.2
        have h4 := h2.1
        omega
      rw [List.length_erase_of_mem hN] at h1
      have : 0 < l.length := List.length_pos_of_mem hN
      omega
    · have h1 := pigeon N l hn fun x hx => by
        have h3 := h x hx
        have h4 : x ≠ N := by rintro rfl; exact hN hx
        omega
      omega
theorem visits_in {N : Nat} {out l : List Int} (h : InN N out) (hl : InN N l) : InN N (z94 out l) := fun x hx => by
  rcases visits_mem.1 hx with h1 | h1
  · exact h x h1
  · exact hl x h1

section
variable {rows : List (List Int)} {ini : List Int}
theorem row_in {N : Nat} (hr : ∀ r ∈ rows, InN N r) (v : Int) : InN N (rows.getD v.toNat []) := by
  by_cases h : v.toNat < rows.length
  · rw [z25 h]; exact hr _ (List.getElem_mem _)
  · rw [List.getD_eq_getElem?_getD, List.getElem?_eq_none (by omega)]; intro x hx; cases hx
theorem bfs_in {N : Nat} (hr : ∀ r ∈ rows, InN N r) (hi : InN N ini) (i : Nat) : InN N (bfs rows ini i) := by
  induction i with
  | zero => exact visits_in (fun x hx => by cases hx) hi
  | succ i ih =>
    rw [bfs]; split
    · exact visits_in ih (row_in hr _)
    · exact ih
theorem bfs_nodup (i : Nat) : (bfs rows ini i).Nodup := by
  induction i with
  | zero => exact visits_nodup (by simp)
  | succ i ih =>
    rw [bfs]; split
    · exact visits_nodup ih
    · exact ih
theorem bfs_len (hr : ∀ r ∈ rows, InN rows.length r) (hi : InN rows.length ini) (i : Nat) : (bfs rows ini i).length ≤ rows.length :=
  pigeon _ _ (bfs_nodup i) (bfs_in hr hi i)
theorem bfs_const {i j : Nat} (h : (bfs rows ini i).length ≤ i) (hij : i ≤ j) : bfs rows ini j = bfs rows ini i := by
  induction j with
  | zero => obtain rfl : i = 0 := by omega
            rfl
  | succ j ih =>
    rcases Nat.lt_or_ge j i with h1 | h1
    · obtain rfl : i = j + 1 := by omega
      rfl
    · have e := ih h1
      rw [bfs, dif_neg (by rw [e]; omega), e]
theorem bfs_pre (i : Nat) : ∃ t, bfs rows ini (i + 1) = bfs rows ini i ++ t := by
  rw [bfs]; split
  · exact visits_pre _ _
  · exact ⟨[], by simp⟩
theorem bfs_RP (i : Nat) : ∀ x ∈ bfs rows ini i, RP rows ini x := by
  induction i with
  | zero =>
    intro x hx
    rcases visits_mem.1 hx with h | h
    · cases h
    · exact .base h
  | succ i ih =>
    intro x hx
    rw [bfs] at hx
    split at hx
    · rcases visits_mem.1 hx with h | h
      · exact ih x h
      · exact .step (ih _ (List.getElem_mem _)) h
    · exact ih x hx
theorem bfs_closed (i : Nat) : ∀ k, k < i → ∀ h : k < (bfs rows ini i).length, ∀ y ∈ rows.getD ((bfs rows ini i)[k]).toNat [], y ∈ bfs rows ini i := by
  induction i with
  | zero => intro k hk; omega
  | succ i ih =>
    intro k hk h y hy
    obtain ⟨t, ht⟩ := bfs_pre (rows := rows) (ini := ini) i
    by_cases hkl : k < (bfs rows ini i).length
    · have e : (bfs rows ini (i + 1))[k] = (bfs rows ini i)[k] := by
        simp only [ht, List.getElem_append_left hkl]
      rw [e] at hy
      rcases Nat.lt_or_ge k i with h1 | h1
      · rw [ht]; exact List.mem_append_left _ (ih k h1 hkl y hy)
      · obtain rfl : k = i := by omega
        rw [bfs, dif_pos hkl]
        exact visits_mem.2 (.inr hy)
    · rcases Nat.lt_or_ge i (bfs rows ini i).length with h1 | h1
      · omega
      · have e : bfs rows ini (i + 1) = bfs rows ini i := bfs_const h1 (by omega)
        rw [e] at h; omega
theorem bfs_mem (hr : ∀ r ∈ rows, InN rows.length r) (hi : InN rows.length ini) (x : Int) : x ∈ bfsL rows ini ↔ RP rows ini x := by
  refine ⟨bfs_RP _ x, fun h => ?_⟩
  have hl := bfs_len hr hi rows.length
  induction h with
  | base h =>
    have : ∀ i, ∀ x ∈ ini, x ∈ bfs rows ini i := by
      intro i
      induction i with
      | zero => intro x hx; exact visits_mem.2 (.inr hx)
      | succ i ih =>
        intro x hx
        obtain ⟨t, ht⟩ := bfs_pre (rows := rows) (ini := ini) i
        rw [ht]; exact List.mem_append_left _ (ih x hx)
    exact this _ _ h
  | step h1 h2 ih =>
    obtain ⟨k, hk, rfl⟩ := List.mem_iff_getElem.1 ih
    exact bfs_closed _ k (Nat.lt_of_lt_of_le hk hl) hk _ h2
theorem bfsL_end {i : Nat} (hr : ∀ r ∈ rows, InN rows.length r) (hi : InN rows.length ini) (h : (bfs rows ini i).length ≤ i) (hil : i ≤ rows.length) : bfs rows ini i = bfsL rows ini := (bfs_const h hil).symm
theorem bfs_reachB (hr : ∀ r ∈ rows, InN rows.length r) (hi : InN rows.length ini) : mkB rows.length (bfsL rows ini) = reachB rows ini := reachB_eq fun v _ => bfs_mem hr hi v
theorem RP.in {x : Int} (hr : ∀ r ∈ rows, InN rows.length r) (hi : InN rows.length ini) (h : RP rows ini x) : 0 ≤ x ∧ x < rows.length := by
  induction h with
  | base h => exact hi _ h
  | step _ h2 _ => exact row_in hr _ _ h2
end
theorem env_sref {r : Nat → Nat} {o o' a n n' : Nat} (h : n = n') (ho : o = r o') : AC.sref o a n = (AC.sref o' a n').ren r := by rw [h, ho]; rfl
end Go.Gl

/- Ghost logic, part Z1: calls whose names are found from the arguments. -/
namespace Go.Gl
variable {P : Program} {st : St} {K : OpK} {f : FuncId} {first caps args args0 : List AC} {objs0 objs1 objs1' : List AObj} {res : AC}

def addN (l : List Nat) (x : Nat) : List Nat := match inB l x with
  | true => l
  | false => l ++ [x]
mutual
/-- the objects that values name, each once, in order -/
def namesA (acc : List Nat) (x : AC) : List Nat := match x with
  | .sref o _ _ => addN acc o
  | .ptr o _ _ => addN acc o
  | .fn _ a b => namesAL (namesAL acc a) b
  | .agg cs => namesAL acc cs
  | .tup cs => namesAL acc cs
  | _ => acc
termination_by structural x
def namesAL (acc : List Nat) (xs : List AC) : List Nat := match xs with
  | [] => acc
  | x :: xs => namesAL (namesA acc x) xs
termination_by structural xs
end

def freshFrom : Nat → Nat → List Nat
  | _, 0 => []
  | s, n + 1 => s :: freshFrom (s + 1) n

/-- arguments are lent -/
theorem call_lend (h : CallsA P f args0 [] res objs1) (hb : borL st.objs [] (namesAL [] (first ++ (args ++ caps))) (first ++ (args ++ caps)) = args0)
    (hf : allN (fun o => isFresh (st.objs o)) (freshFrom st.next objs1.length) = true) (hn : nodupB (freshFrom st.next objs1.length ++ namesAL [] (first ++ (args ++ caps))) = true) (hl : Nat.beq objs1.length (freshFrom st.next objs1.length).length = true) (hu : res.under objs1.length = true)
    (ho : ObjsRen objs1.length (z56 0 (freshFrom st.next objs1.length)) objs1 objs1') (hpl : namesAL [] (first ++ (args ++ caps)) = [] ∨ (res.plain = true ∧ PlainObjs objs1))
    (k : renK (z56 0 (freshFrom st.next objs1.length)) res fun res1 => K res1 (zipCh st (freshFrom st.next objs1.length) objs1' ++ (namesAL [] (first ++ (args ++ caps))).map st.rd)) : z32 P st (.fn (.func f) first caps) args K :=
  z6 [] (namesAL [] (first ++ (args ++ caps))) (freshFrom st.next objs1.length) h hb z4 rfl hf hn hl hu ho hpl k

end Go.Gl

/- Ghost logic, part AA: a library function that works in place, by its contract. -/
namespace Go.Gl
open Go.Sort
variable {P : Program}

end Go.Gl

/- Ghost logic: a return whose value is settled (sealed and weakened) on the way out. -/
namespace Go.Gl
variable {P : Program} {T : Tab}

inductive F2 {α β : Type} (R : α → β → Prop) : List α → List β → Prop
  | nil : F2 R [] []
  | cons {x : α} {y : β} {xs : List α} {ys : List β} : R x y → F2 R xs ys → F2 R (x :: xs) (y :: ys)

/-! ## what tells less -/
theorem VL_le {xs ys : List AC} (h : F2 LocLe xs ys) : ∀ {G : Ghost} {hh : Nat → Option Obj} {l : Loc} {c : Array Value} {off : Nat}, VL G hh l xs c off → VL G hh l ys c off := by
  induction h with
  | nil => intro G hh l c off _; simp [VL]
  | cons h1 _ ih =>
    intro G hh l c off hv
    simp only [VL] at hv ⊢
    obtain ⟨⟨v, hv1, hv2⟩, hv3⟩ := hv
    exact ⟨⟨v, hv1, h1 _ _ _ _ hv2⟩, ih hv3⟩
theorem forall2_len {α β : Type} {R : α → β → Prop} {xs : List α} {ys : List β} (h : F2 R xs ys) : xs.length = ys.length := by
  induction h with
  | nil => rfl
  | cons _ _ ih => simp [ih]
theorem VLL_le {w : Nat} {xs ys : List (List AC)} (h : F2 (F2 LocLe) xs ys) : ∀ {G : Ghost} {hh : Nat → Option Obj} {l : Loc} {c : Array Value} {off : Nat}, VLL G hh l w xs c off → VLL G hh l w ys c off := by
  induction h with
  | nil => intro G hh l c off _; simp [VLL]
  | cons h1 _ ih =>
    intro G hh l c off hv
    simp only [VLL] at hv ⊢
    obtain ⟨hv1, hv2, hv3⟩ := hv
    exact ⟨by rw [← forall2_len h1, hv1], VL_le h1 hv2, ih hv3⟩
theorem LocLe.trans {x y z : AC} (h : LocLe x y) (k : LocLe y z) : LocLe x z := fun G hh l v hv => k G hh l v (h G hh l v hv)
theorem LocLe.of_eq {x y : AC} (h : x = y) : LocLe x y := h ▸ LocLe.refl x
theorem z46 {w : Nat} : LocLe .nils (.list w 0 []) := fun G h l v hv => by
  simp only [V] at hv ⊢
  exact ⟨none, 0, hv, Nat.le_refl _, rfl, .inl trivial⟩
theorem z40 {xs ys : List AC} (h : F2 LocLe xs ys) : LocLe (.agg xs) (.agg ys) := fun G hh l v hv => by
  simp only [V] at hv ⊢
  obtain ⟨c, rfl, h1, h2⟩ := hv
  exact ⟨c, rfl, by rw [h1, forall2_len h], VL_le h h2⟩
theorem z111 {xs ys : List AC} (h : F2 LocLe xs ys) : LocLe (.tup xs) (.tup ys) := fun G hh l v hv => by
  simp only [V] at hv ⊢
  obtain ⟨c, rfl, h1, h2⟩ := hv
  exact ⟨c, rfl, by rw [h1, forall2_len h], VL_le h h2⟩
theorem z77 {w n n' : Nat} {xs ys : List (List AC)} (hn : n = n') (h : F2 (F2 LocLe) xs ys) : LocLe (.list w n xs) (.list w n' ys) := fun G hh l v hv => by
  subst hn
  simp only [V] at hv ⊢
  obtain ⟨a, cap, rfl, h1, h2, h3⟩ := hv
  refine ⟨a, cap, rfl, h1, by rw [← forall2_len h, h2], ?_⟩
  rcases h3 with rfl | ⟨b, off, c, el, fz, h4, h5, h6⟩
  · cases h; exact .inl rfl
  · exact .inr ⟨b, off, c, el, fz, h4, h5, VLL_le h h6⟩
theorem f2_refl (xs : List AC) : F2 LocLe xs xs := by
  induction xs with
  | nil => exact .nil
  | cons x xs ih => exact .cons (LocLe.refl x) ih
theorem z15 (xs : List (List AC)) : F2 (F2 LocLe) xs xs := by
  induction xs with
  | nil => exact .nil
  | cons x xs ih => exact .cons (f2_refl x) ih
theorem z52 {xs ys : List (List AC)} (h : xs = ys) : F2 (F2 LocLe) xs ys := h ▸ z15 xs
theorem node_le' {k v : Int} {x : AC} {l : List Tree} (h : LocLe x (.list 3 l.length (l.map Tree.cs))) : F2 LocLe [.int k, .int v, x] (Tree.cs' (.mk k v l)) :=
  .cons (LocLe.refl _) (.cons (LocLe.refl _) (.cons h .nil))

def ObjLe : AObj → AObj → Prop
  | .cells w es, .cells w' es' => w = w' ∧ F2 (F2 LocLe) es es'
  | .dead, .dead => True
  | _, _ => False
theorem ObjLe.mk {w : Nat} {es es' : List (List AC)} (h : F2 (F2 LocLe) es es') : ObjLe (.cells w es) (.cells w es') := ⟨rfl, h⟩
theorem ObjLe.box {w : Nat} {e e' : List AC} (h : F2 LocLe e e') : ObjLe (.cells w [e]) (.cells w [e']) := ⟨rfl, .cons h .nil⟩

theorem ObjRel.le {G : Ghost} {h : Nat → Option Obj} {o : Nat} {x y : AObj} (hl : ObjLe x y) (hx : ObjRel G h o x) : ObjRel G h o y := by
  cases x with
  | fresh => exact hl.elim
  | dead =>
    cases y with
    | dead => exact hx
    | _ => exact hl.elim
  | cells w es =>
    cases y with
    | cells w' es' =>
      obtain ⟨rfl, hl⟩ := hl
      rcases hx with ⟨h1, h2⟩ | ⟨b, size, c, el, h1, h2, h3, h4, h5⟩
      · subst h1; cases hl; exact .inl ⟨rfl, h2⟩
      · exact .inr ⟨b, size, c, el, h1, h2, h3, h4, VLL_le hl h5⟩
    | _ => exact hl.elim

theorem Wf.le {G : Ghost} {objs objs' : List AObj} {w : World} (h : Wf G (z39 objs) w) (hl : F2 ObjLe objs objs') : Wf G (z39 objs') w := by
  refine ⟨h.hS, h.hU, h.su, h.sk, fun o => ?_⟩
  have ho := h.objs o
  have key : ∀ {xs ys : List AObj} (k : Nat), F2 ObjLe xs ys → ObjLe (z39 xs k) (z39 ys k) ∨ z39 xs k = z39 ys k := by
    intro xs ys k hf
    induction hf generalizing k with
    | nil => exact .inr rfl
    | cons h1 _ ih =>
      cases k with
      | zero => exact .inl h1
      | succ k => exact ih k
  rcases key o hl with h1 | h1
  · exact ObjRel.le h1 ho
  · show ObjRel G (hp w) o (z39 objs' o)
    rw [← h1]; exact ho

/-- arguments that tell more -/
theorem CallsA.arg {f : FuncId} {args args0 : List AC} {objs objs' : List AObj} {res : AC} (h : CallsA P f args objs res objs') (hl : F2 LocLe args0 args) : CallsA P f args0 objs res objs' :=
  ⟨h.1, fun G w vs hW hs hv => h.2 G w vs hW (by rw [← forall2_len hl, hs]) (VL_le hl hv)⟩
theorem CallsA.res {f : FuncId} {args : List AC} {objs objs' : List AObj} {res res' : AC} (h : CallsA P f args objs res objs') (hl : LocLe res res') : CallsA P f args objs res' objs' :=
  ⟨h.1, fun G w vs hW hs hv => (h.2 G w vs hW hs hv).mono fun e w' ⟨G', v, h1, h2, h3, h4, h5, h6⟩ => ⟨G', v, h1, h2, h3, h4, h5, hl _ _ _ _ h6⟩⟩

/-! ## the return -/
def RetS (m : Nat) (o : Nat → AObj) (res : AC) (objs' : List AObj) (r : AC) : Prop :=
  ∀ (G : Ghost) (w : World) (v : Value), Wf G o w → V G (hp w) none r v → ∃ G', SubM m G G' ∧ Wf G' (z39 objs') w ∧ V G' (hp w) none res v

theorem RetS.of {m : Nat} {st : St} {res : AC} {objs' : List AObj} {r : AC} (h : z48 m st res objs' r) : RetS m st.objs res objs' r := fun G w v hW hV => by
  obtain ⟨π, hn, hf, hu, hr, ho⟩ := h
  obtain ⟨ho1, ho2⟩ := objsAll_spec 0 π objs' ho
  have hpick : Wf (G.pick π) (z39 objs') w := hW.pick hn (fun i o hio => ⟨(ho2 i o hio).2, (ho2 i o hio).1⟩) (fun i hi => z61 (by omega))
  exact ⟨G.pick π, SubM.pick (fun i hi => by have := z126 m 0 π hf i hi; simpa using this), hpick, pick_V0 _ hu (hr _ _ _ hV)⟩

theorem RetS.lay (π Bn : List Nat) {m : Nat} {o : Nat → AObj} {res : AC} {objs' : List AObj} {r : AC} (hn : nodupB (π ++ Bn) = true) (ha : allN (fun x => isCells (o x)) π = true) (hf : fixed m 0 π = true)
    (h : RetS m (z39 (π.map (z79 o π Bn))) res objs' (bor o π Bn r)) : RetS m o res objs' r := fun G w v hW hV => by
  have hnd := nodupB_iff hn
  obtain ⟨k1, k2, k3, k4⟩ := seal_core (π := π) (Bn := Bn) hW (List.nodup_append.1 hnd).1 (fun o ho hb => (List.nodup_append.1 hnd).2.2 o ho o hb rfl) (allN_spec ha)
  obtain ⟨G', h1, h2, h3⟩ := h _ w v k1 (k4 _ _ hV)
  refine ⟨G', SubM.trans ⟨k2, fun o t ho e => ?_⟩ h1, h2, h3⟩
  have := z126 m 0 π hf o ho
  rw [Nat.zero_add] at this
  exact k3 o o t (idx_get (List.nodup_append.1 hnd).1 this) e

theorem RetS.done {m : Nat} {objs objs' : List AObj} {res r : AC} (h1 : LocLe r res) (h2 : F2 ObjLe objs objs') : RetS m (z39 objs) res objs' r := fun G w v hW hV =>
  ⟨G, SubM.refl m G, hW.le h2, h1 _ _ _ _ hV⟩

def RetSQ (T : Tab) (rs : List ResultVar) (m : Nat) (res : AC) (objs' : List AObj) (ex : Exit) (st : St) : Prop := match ex with
  | .normal => vcRes T st rs fun xs => RetS m st.objs res objs' (resAC xs)
  | .ret => vcRes T st rs fun xs => RetS m st.objs res objs' (resAC xs)
  | _ => False

theorem rets_ok (hT : z115 P T) {fn : Func} {m : Nat} {res : AC} {objs' : List AObj} {G : Ghost} {st : St} {a : Act} {w : World} (hR : Rel G st a w) (h : vcRes T st fn.results.toList fun xs => RetS m st.objs res objs' (resAC xs)) :
    ∃ v G', (results fn a.tmps).run P w = .ok v w ∧ SubM m G G' ∧ Wf G' (z39 objs') w ∧ V G' (hp w) none res v := by
  obtain ⟨xs, vs, h1, h2, h3, _, h4⟩ := res_run hT hR _ _ h
  have hres : (results fn a.tmps).run P w = .ok (if h : vs.toArray.size = 1 then vs.toArray[0] else .tuple vs.toArray) w := by
    rw [results_eq, Array.mapM_eq_mapM_toList]
    simp [h1]
  have hV : V G (hp w) none (resAC xs) (if h : vs.toArray.size = 1 then vs.toArray[0] else .tuple vs.toArray) := by
    by_cases hl : vs.length = 1
    · obtain ⟨v, rfl⟩ := List.length_eq_one_iff.1 hl
      obtain ⟨x, rfl⟩ := List.length_eq_one_iff.1 (h2 ▸ hl)
      obtain ⟨v', hv1, hv2⟩ := h3 0 x (by simp)
      simp at hv1; subst hv1
      simpa [resAC] using hv2
    · rw [dif_neg (by simpa using hl)]
      have : resAC xs = .tup xs := by
        unfold resAC
        split
        · simp at h2; exact absurd h2 hl
        · rfl
      rw [this]
      simp only [V]
      refine ⟨_, rfl, by simp [h2], z49.2 fun j x hx => ?_⟩
      obtain ⟨v, hv1, hv2⟩ := h3 j x hx
      exact ⟨v, by simpa using hv1, hv2⟩
  obtain ⟨G', h5, h6, h7⟩ := h4 G w _ hR.wf hV
  exact ⟨_, G', hres, h5, h6, h7⟩

theorem z10 (hT : z115 P T) {f : FuncId} {fn : Func} {c : Code} (hf : P.funcs[f]? = some fn) (hb : fn.body = some c) (hn : (fn.name == "runtime.NumGoroutine") = false) {args : List AC} {objs : List AObj} {res : AC} {objs' : List AObj}
    (n : Nat) (hnt : fn.ntmps = n) (hl : args.length ≤ n) (h : AWP P objs.length c (RetSQ T fn.results.toList objs.length res objs') (mkSt n (z131 0 args) objs)) : CallsA P f args objs res objs' := by
  subst hnt
  refine ⟨⟨fn, c, hf, hn, hb⟩, fun G w vs hW hs hv => ?_⟩
  refine calls_of_wp hf hb (wp_mono (h G { tmps := vs ++ Array.replicate (fn.ntmps - vs.size) undef, defers := [] } w ⟨hW, fun s => ?_, by show _ = fn.ntmps; simp; omega, rfl⟩) fun ex a' w' hq => ?_)
  · show V G (hp w) none (z90 (z131 0 args) s) _
    rw [numbered_eq]
    by_cases hsl : s < args.length
    · have hx : args[s]? = some args[s] := List.getElem?_eq_getElem hsl
      obtain ⟨v, hv1, hv2⟩ := z49.1 hv s _ hx
      rw [Nat.zero_add] at hv1
      rw [z53 hx]
      have : (vs ++ Array.replicate (fn.ntmps - vs.size) undef).getD s undef = v := by
        rw [Array.getD_eq_getD_getElem?, Array.getElem?_append, if_pos (by omega), hv1]; rfl
      rw [this]; exact hv2
    · rw [z61 (by omega)]; simp [V]
  · obtain ⟨G', st', h1, h2, h3, h4⟩ := hq
    have key : (vcRes T st' fn.results.toList fun xs => RetS objs.length st'.objs res objs' (resAC xs)) → ∃ v, (results fn a'.tmps).run P w' = .ok v w' ∧ ∃ G'' v', Ending.returned v = .returned v' ∧ G.Sub G'' ∧ (∀ o t, o < objs.length → G.ι o = some t → G''.ι o = some t) ∧ Le w w' ∧ Wf G'' (z39 objs') w' ∧ V G'' (hp w') none res v' := by
      intro hr
      obtain ⟨v, G'', h5, h6, h7, h8⟩ := rets_ok hT h4 hr
      have h9 := h1.trans h6
      exact ⟨v, h5, G'', v, rfl, h9.1, h9.2, h2, h7, h8⟩
    cases ex with
    | normal => exact ⟨h4.defers, key h3⟩
    | ret => exact ⟨h4.defers, key h3⟩
    | _ => exact h3.elim

/-- a state that tells less -/
def envLe (f : Nat → AC) : List (Nat × AC) → Prop
  | [] => True
  | (s, x) :: r => LocLe (f s) x ∧ envLe f r
theorem envLe_spec {f : Nat → AC} {env : List (Nat × AC)} (h : envLe f env) (s : Nat) : LocLe (f s) (z90 env s) := by
  induction env with
  | nil => exact fun G hh l v _ => by simp [z90, V]
  | cons y env ih =>
    obtain ⟨s', x⟩ := y
    obtain ⟨h1, h2⟩ := h
    simp only [z90]
    cases hb : Nat.beq s s' with
    | true => rw [Nat.eq_of_beq_eq_true hb]; exact h1
    | false => exact ih h2
theorem SealW.reach (π Bn : List Nat) {m n : Nat} {st : St} {env : List (Nat × AC)} {objs : List AObj} (hst : st.n = n) (hn : nodupB (π ++ Bn) = true) (ha : allN (fun x => isCells (st.objs x)) π = true) (hf : fixed m 0 π = true)
    (he : envLe (fun s => bor st.objs π Bn (st.env s)) env) (ho : F2 ObjLe (π.map (z79 st.objs π Bn)) objs) : Reach m st (mkSt n env objs) := fun G a w hR => by
  have hnd := nodupB_iff hn
  obtain ⟨k1, k2, k3, k4⟩ := seal_core (π := π) (Bn := Bn) hR.wf (List.nodup_append.1 hnd).1 (fun o ho hb => (List.nodup_append.1 hnd).2.2 o ho o hb rfl) (allN_spec ha)
  refine ⟨_, ⟨k2, fun o t ho e => ?_⟩, ⟨k1.le ho, fun s => ?_, by rw [hR.size, hst]; rfl, hR.defers⟩⟩
  · have := z126 m 0 π hf o ho
    rw [Nat.zero_add] at this
    exact k3 o o t (idx_get (List.nodup_append.1 hnd).1 this) e
  · exact envLe_spec he s _ _ _ _ (k4 _ _ (hR.env s))
theorem z51 {q : Nat} : LocLe .nils (.sref q 0 0) := fun G h l v hv => by
  simp only [V] at hv ⊢
  exact ⟨0, Nat.le_refl _, .inl ⟨rfl, none, hv⟩⟩
/-- an empty object more -/
theorem Reach.empty (w : Nat) {m n : Nat} {env : List (Nat × AC)} {objs : List AObj} (_hm : Nat.ble m objs.length = true) : Reach m (mkSt n env objs) (mkSt n env (objs ++ [.cells w []])) := fun G a wd hR => by
  refine ⟨G, SubM.refl m G, ⟨⟨hR.wf.hS, hR.wf.hU, hR.wf.su, hR.wf.sk, fun o => ?_⟩, hR.env, hR.size, hR.defers⟩⟩
  show ObjRel G (hp wd) o (z56 .fresh (objs ++ [.cells w []]) o)
  have ho : ObjRel G (hp wd) o (z56 .fresh objs o) := hR.wf.objs o
  rcases Nat.lt_trichotomy o objs.length with h | h | h
  · have h1 : (objs ++ [AObj.cells w []])[o]? = some objs[o] := by rw [List.getElem?_append_left h, List.getElem?_eq_getElem h]
    rw [z53 h1]
    rwa [z53 (List.getElem?_eq_getElem h)] at ho
  · subst h
    rw [z53 (x := AObj.cells w []) (by simp)]
    rw [z61 (Nat.le_refl _)] at ho
    exact .inl ⟨rfl, ho⟩
  · rw [z61 (by simp; omega)]
    rwa [z61 (by omega)] at ho

def z65 {α : Type} (I : α → List (Nat × AC) × List AObj) (ok : α → Prop) (μ : α → Nat) (x : α) (m n : Nat) (st : St) : Prop := ∃ y, ok y ∧ μ y < μ x ∧ Reach m st (mkSt n (I y).1 (I y).2)
theorem z31 {α : Type} {I : α → List (Nat × AC) × List AObj} {ok : α → Prop} {μ : α → Nat} {x : α} {m n : Nat} {st : St} (y : α) (h1 : ok y) (h2 : μ y < μ x) (h3 : Reach m st (mkSt n (I y).1 (I y).2)) : z65 I ok μ x m n st := ⟨y, h1, h2, h3⟩
theorem z76 {α : Type} {m n : Nat} {env : List (Nat × AC)} {objs : List AObj} {body : Code} {Q : Exit → St → Prop} (I : α → List (Nat × AC) × List AObj) (ok : α → Prop) (μ : α → Nat) (x0 : α) (h0 : ok x0) (hinit : Reach m (mkSt n env objs) (mkSt n (I x0).1 (I x0).2))
    (round : ∀ x, ok x → AWP P m body (thenA (fun st' => z65 I ok μ x m n st') Q) (mkSt n (I x).1 (I x).2)) : AWP P m (.loop body) Q (mkSt n env objs) := awp_loopR I ok μ x0 h0 hinit round
theorem z16 {objs : Nat → AObj} {π Bn : List Nat} {o w : Nat} {es es' : List (List AC)} (ho : objs o = .cells w es) (hf : Flat es) (h : F2 (F2 LocLe) es es') : ObjLe (z79 objs π Bn o) (.cells w es') := by
  rw [pass_flat ho hf]; exact ⟨rfl, h⟩
theorem z33 {α : Type} {f : α → List AC} (h : ∀ a, unownL (f a) = f a) (l : List α) : z59 (l.map f) = l.map f := by
  induction l with
  | nil => rfl
  | cons a l ih => simp only [List.map_cons, z59, h a, ih]
theorem z22 {a : List (List AC)} (h : Flat a) (n : Nat) : Flat (a.take n) := fun e he => h e (List.mem_of_mem_take he)
theorem z97 {α : Type} {f : α → List AC} {l : List α} {k n : Nat} {e : List AC} (hn : n = k) (hk : k < l.length) (he : F2 LocLe e (f (l[k]'hk))) : F2 (F2 LocLe) (((l.take k).map f).take n ++ [e]) ((l.take (k + 1)).map f) := by
  subst hn
  rw [List.take_succ_eq_append_getElem hk, List.map_append, List.take_of_length_le (by simp; omega)]
  have : ∀ (a : List (List AC)) {b c : List AC}, F2 LocLe b c → F2 (F2 LocLe) (a ++ [b]) (a ++ [c]) := fun a b c h => by
    induction a with
    | nil => exact .cons h .nil
    | cons x a ih => exact .cons (f2_refl x) ih
  exact this _ he
theorem z95 {a b : Int} (h : a = b) : LocLe (.int a) (.int b) := h ▸ LocLe.refl _
theorem end_le {α : Type} {w k : Nat} {f : α → List AC} {l : List α} (h : k = l.length) : LocLe (.list w k ((l.take k).map f)) (.list w l.length (l.map f)) := by
  subst h; rw [List.take_length]; exact LocLe.refl _
theorem kids_end_le {k : Nat} {l : List Tree} (h : k = l.length) : LocLe (.list 3 k ((l.take k).map Tree.cs')) (.list 3 l.length (l.map Tree.cs)) := by
  rw [Tree.cs_eq]; exact end_le h
theorem f22_cs {l : List Tree} : F2 (F2 LocLe) (l.map Tree.cs') (l.map Tree.cs) := by rw [Tree.cs_eq]; exact z15 _
theorem Wf.empty {G : Ghost} {objs : List AObj} {wd : World} (w : Nat) (h : Wf G (z39 objs) wd) : Wf G (z39 (objs ++ [.cells w []])) wd := by
  refine ⟨h.hS, h.hU, h.su, h.sk, fun o => ?_⟩
  show ObjRel G (hp wd) o (z56 .fresh (objs ++ [.cells w []]) o)
  have ho : ObjRel G (hp wd) o (z56 .fresh objs o) := h.objs o
  rcases Nat.lt_trichotomy o objs.length with h | h | h
  · have h1 : (objs ++ [AObj.cells w []])[o]? = some objs[o] := by rw [List.getElem?_append_left h, List.getElem?_eq_getElem h]
    rw [z53 h1]
    rwa [z53 (List.getElem?_eq_getElem h)] at ho
  · subst h
    rw [z53 (x := AObj.cells w []) (by simp)]
    rw [z61 (Nat.le_refl _)] at ho
    exact .inl ⟨rfl, ho⟩
  · rw [z61 (by simp; omega)]
    rwa [z61 (by omega)] at ho
theorem RetS.empty (w : Nat) {m : Nat} {objs : List AObj} {res : AC} {objs' : List AObj} {r : AC} (h : RetS m (z39 (objs ++ [.cells w []])) res objs' r) : RetS m (z39 objs) res objs' r := fun G wd v hW hV => h G wd v (hW.empty w) hV
/-- what a call leaves, settled -/
theorem CallsA.settle {f : FuncId} {args : List AC} {objs objs1 objs2 : List AObj} {res res2 : AC} (h : CallsA P f args objs res objs1) (π Bn : List Nat) (hn : nodupB (π ++ Bn) = true) (ha : allN (fun o => isCells (z39 objs1 o)) π = true)
    (hf : fixed objs.length 0 π = true) (hr : LocLe (bor (z39 objs1) π Bn res) res2) (ho : F2 ObjLe (π.map (z79 (z39 objs1) π Bn)) objs2) : CallsA P f args objs res2 objs2 := by
  refine ⟨h.1, fun G w vs hW hs hv => (h.2 G w vs hW hs hv).mono ?_⟩
  rintro e w' ⟨G', v, rfl, h1, h2, h3, h4, h5⟩
  have hnd := nodupB_iff hn
  obtain ⟨k1, k2, k3, k4⟩ := seal_core (π := π) (Bn := Bn) h4 (List.nodup_append.1 hnd).1 (fun o ho hb => (List.nodup_append.1 hnd).2.2 o ho o hb rfl) (allN_spec ha)
  refine ⟨_, v, rfl, h1.trans k2, fun o t ho e => ?_, h3, k1.le ho, hr _ _ _ _ (k4 _ _ h5)⟩
  have := z126 objs.length 0 π hf o ho
  rw [Nat.zero_add] at this
  exact k3 o o t (idx_get (List.nodup_append.1 hnd).1 this) (h2 o t ho e)
theorem nils_of {l : List Tree} (h : l = []) : LocLe .nils (.list 3 l.length (l.map Tree.cs)) := by subst h; exact z46
theorem lst_le {α : Type} {w n : Nat} {f : α → List AC} {l : List α} (h : n = l.length) : LocLe (.list w n (l.map f)) (.list w l.length (l.map f)) := by subst h; exact LocLe.refl _
def borX (objs : Nat → AObj) (π Bn : List Nat) (x : AC) : AC := match x with
  | .own w' es' => .own w' es'
  | x => bor objs π Bn x
theorem passObj_cells {objs : Nat → AObj} {π Bn : List Nat} {o w : Nat} {es : List (List AC)} (ho : objs o = .cells w es) : z79 objs π Bn o = .cells w (es.map (·.map (borX objs π Bn))) := by
  simp only [z79, ho]; rfl
theorem borX_flat {objs : Nat → AObj} {π Bn : List Nat} {es : List (List AC)} (h : Flat es) : es.map (·.map (borX objs π Bn)) = es := by
  have := pass_flat (objs := fun _ => .cells 0 es) (π := π) (Bn := Bn) (o := 0) rfl h
  conv => rhs; rw [← List.map_id es]
  refine List.map_congr_left fun e he => ?_
  conv => rhs; rw [id, ← List.map_id e]
  refine List.map_congr_left fun x hx => ?_
  have := flatL_iff.1 (h e he) x hx
  cases x <;> first | rfl | simp [AC.flat] at this
theorem z30 {objs : Nat → AObj} {π Bn : List Nat} {o w : Nat} {A L : List (List AC)} {e : List AC} (ho : objs o = .cells w (A ++ [e])) (hf : Flat A) (h : F2 (F2 LocLe) (A ++ [e.map (borX objs π Bn)]) L) : ObjLe (z79 objs π Bn o) (.cells w L) := by
  rw [passObj_cells ho, List.map_append, borX_flat hf]
  exact ⟨rfl, h⟩
theorem z54 {objs : Nat → AObj} {π Bn : List Nat} {o w i : Nat} {A L : List (List AC)} {e : List AC} (ho : objs o = .cells w (A.set i e)) (hf : Flat A) (h : F2 (F2 LocLe) (A.set i (e.map (borX objs π Bn))) L) : ObjLe (z79 objs π Bn o) (.cells w L) := by
  rw [passObj_cells ho, List.map_set, borX_flat hf]
  exact ⟨rfl, h⟩
theorem flat_snoc_set {A : List (List AC)} {x y : List AC} {k : Nat} (hk : A.length = k) (hA : Flat A) (hy : flatL y = true) : Flat ((A ++ [x]).set k y) := by
  subst hk
  intro e he
  rw [List.set_append_right _ _ (Nat.le_refl _)] at he
  simp only [Nat.sub_self, List.set_cons_zero, List.mem_append, List.mem_singleton] at he
  rcases he with h | rfl
  · exact hA e h
  · exact hy
theorem snoc_set_le {A L : List (List AC)} {x y : List AC} {k : Nat} (hk : A.length = k) (h : F2 (F2 LocLe) (A ++ [y]) L) : F2 (F2 LocLe) ((A ++ [x]).set k y) L := by
  subst hk
  rw [List.set_append_right _ _ (Nat.le_refl _)]
  simpa using h
theorem z37 {objs : Nat → AObj} {π Bn : List Nat} {o w n : Nat} {es L : List (List AC)} {y : AC} (h1 : idx π o = none) (h2 : inB Bn o = true) (ho : objs o = .cells w es) (hu : z59 es = L) (hl : es.length = n) (h : LocLe (.list w n L) y) : LocLe (bor objs π Bn (.sref o 0 n)) y := by
  rw [bor_full ho h1 h2 hl, hu]; exact h
theorem unown_app {a b a' b' : List (List AC)} (h : z59 a = a') (k : z59 b = b') : z59 (a ++ b) = a' ++ b' := by
  subst h k
  induction a with
  | nil => rfl
  | cons e a ih => simp only [List.cons_append, z59, ih]
theorem unown_tk {a a' : List (List AC)} (h : z59 a = a') (n : Nat) : z59 (a.take n) = a'.take n := by
  subst h
  induction a generalizing n with
  | nil => simp [z59]
  | cons e a ih =>
    cases n with
    | zero => rfl
    | succ n => simp only [List.take_succ_cons, z59, ih]
theorem unown_st {a a' : List (List AC)} (h : z59 a = a') (n : Nat) (e : List AC) : z59 (a.set n e) = a'.set n (unownL e) := by
  subst h
  induction a generalizing n with
  | nil => simp [z59]
  | cons x a ih =>
    cases n with
    | zero => rfl
    | succ n => simp only [List.set_cons_succ, z59, ih]
/-- an element put in -/
theorem put_le {α : Type} {f : α → List AC} {l : List α} {i j : Nat} {e : List AC} {x : α} (hj : j = i) (he : F2 LocLe e (f x)) : F2 (F2 LocLe) ((l.map f).set j e) ((l.set i x).map f) := by
  subst hj
  rw [List.map_set]
  have : ∀ (l : List (List AC)) (j : Nat) {e e' : List AC}, F2 LocLe e e' → F2 (F2 LocLe) (l.set j e) (l.set j e') := fun l => by
    induction l with
    | nil => intro j _ _ _; exact .nil
    | cons x l ih =>
      intro j e e' h
      cases j with
      | zero => exact .cons h (z15 _)
      | succ j => exact .cons (f2_refl _) (ih j h)
  exact this _ _ he
theorem z73 {α : Type} {f : α → List AC} {l : List α} {n : Nat} {e : List AC} {x : α} (hn : l.length ≤ n) (he : F2 LocLe e (f x)) : F2 (F2 LocLe) ((l.map f).take n ++ [e]) ((l ++ [x]).map f) := by
  rw [List.take_of_length_le (by simpa using hn), List.map_append]
  have : ∀ (a : List (List AC)) {b c : List AC}, F2 LocLe b c → F2 (F2 LocLe) (a ++ [b]) (a ++ [c]) := fun a b c h => by
    induction a with
    | nil => exact .cons h .nil
    | cons x a ih => exact .cons (f2_refl x) ih
  exact this _ he
theorem RetS.mid (π Bn : List Nat) (objs1 : List AObj) (r1 : AC) {m : Nat} {o : Nat → AObj} {res : AC} {objs' : List AObj} {r : AC} (hn : nodupB (π ++ Bn) = true) (ha : allN (fun x => isCells (o x)) π = true) (hf : fixed m 0 π = true)
    (hr : LocLe (bor o π Bn r) r1) (ho : F2 ObjLe (π.map (z79 o π Bn)) objs1) (h : RetS m (z39 objs1) res objs' r1) : RetS m o res objs' r :=
  RetS.lay π Bn hn ha hf fun G w v hW hV => h G w v (hW.le ho) (hr _ _ _ _ hV)
theorem f22_snoc (a : List (List AC)) {b c : List AC} (h : F2 LocLe b c) : F2 (F2 LocLe) (a ++ [b]) (a ++ [c]) := by
  induction a with
  | nil => exact .cons h .nil
  | cons x a ih => exact .cons (f2_refl x) ih
theorem app2_le {A : List (List AC)} {n : Nat} {e e' : List AC} (hn : A.length ≤ n) (h : F2 LocLe e e') : F2 (F2 LocLe) (A.take n ++ [e]) (A ++ [e']) := by
  rw [List.take_of_length_le hn]; exact f22_snoc A h
theorem app3_le {α : Type} {f : α → List AC} {l : List α} {e : List AC} {x : α} (h : F2 LocLe e (f x)) : F2 (F2 LocLe) (l.map f ++ [e]) ((l ++ [x]).map f) := by
  rw [List.map_append]; exact f22_snoc _ h
theorem pass_set2 {objs : Nat → AObj} {π Bn : List Nat} {o w i j : Nat} {A L : List (List AC)} {e x : List AC} (ho : objs o = .cells w ((A.set i x).set j e)) (hj : j = i) (hf : Flat A) (h : F2 (F2 LocLe) (A.set i (e.map (borX objs π Bn))) L) : ObjLe (z79 objs π Bn o) (.cells w L) := by
  subst hj
  rw [List.set_set] at ho
  exact z54 ho hf h
theorem set2_le {A : List (List AC)} {i j : Nat} {e e' : List AC} (hj : j = i) (he : F2 LocLe e e') : F2 (F2 LocLe) (A.set j e) (A.set i e') := by
  subst hj
  induction A generalizing j with
  | nil => exact .nil
  | cons x l ih =>
    cases j with
    | zero => exact .cons he (z15 _)
    | succ j => exact .cons (f2_refl _) ih
theorem z35 {o n n' : Nat} (h : n = n') : LocLe (.sref o 0 n) (.sref o 0 n') := h ▸ LocLe.refl _
theorem appL_le {α : Type} {f : α → List AC} {l l2 : List α} {n : Nat} (hn : l.length ≤ n) : F2 (F2 LocLe) ((l.map f).take n ++ l2.map f) ((l ++ l2).map f) := by
  rw [List.take_of_length_le (by simpa using hn), List.map_append]; exact z15 _
/-- what a loop gathers -/
def cat {α : Type} (n : Nat) (f : Nat → List α) : List α := (List.range n).flatMap f
theorem cat_zero {α : Type} (f : Nat → List α) : cat 0 f = [] := rfl
theorem cat_succ {α : Type} (n : Nat) (f : Nat → List α) : cat (n + 1) f = cat n f ++ f n := by
  unfold cat; rw [List.range_succ, List.flatMap_append]; simp
theorem mem_cat {α : Type} {n : Nat} {f : Nat → List α} {x : α} (h : x ∈ cat n f) : ∃ i, i < n ∧ x ∈ f i := by
  unfold cat at h
  obtain ⟨i, hi, hx⟩ := List.mem_flatMap.1 h
  exact ⟨i, List.mem_range.1 hi, hx⟩
theorem cat_len {α : Type} {n c : Nat} {f : Nat → List α} (h : ∀ i, i < n → (f i).length ≤ c) : (cat n f).length ≤ n * c := by
  induction n with
  | zero => simp [cat]
  | succ n ih =>
    rw [cat_succ, List.length_append, Nat.add_mul]
    have := ih fun i hi => h i (by omega)
    have := h n (by omega)
    omega
theorem z74 {objs : Nat → AObj} {π Bn : List Nat} {o w n : Nat} {es L : List (List AC)} {y : AC} (h1 : idx π o = none) (h2 : inB Bn o = true) (ho : objs o = .cells w es) (hu : z59 es = L) (hl : es.length = n) (h : LocLe (.list w n L) y) : LocLe (borX objs π Bn (.sref o 0 n)) y := z37 h1 h2 ho hu hl h
end Go.Gl

/- Partitions: refinement, sorted lists without repetition. -/
namespace Go.Gl

section
variable {K K' : Type} [DecidableEq K] [DecidableEq K'] {κ : Nat → K} {κ' : Nat → K'}
end
end Go.Gl

/- Branching-time formulas: what the program's walk computes, and what the reference computes. -/
namespace Go.Gl
def arityB (k : Int) : Int := if k = 1 ∨ k = 2 then 0 else if k = 3 ∨ k = 6 ∨ k = 8 ∨ k = 9 ∨ k = 11 then 1 else if k = 4 ∨ k = 5 ∨ k = 7 ∨ k = 10 then 2 else -1
def mostB (k : Int) : Int := if k = 2 then 2 else 0
mutual
def Tree.walkB (t : Tree) (d n : Int) : Int × Bool := match t with
  | .mk k v l => if d ≤ 6 ∧ n + 1 ≤ 12 ∧ 0 ≤ v ∧ v ≤ mostB k ∧ (l.length : Int) = arityB k then Tree.walkBs l (d + 1) (n + 1) else (n + 1, false)
def Tree.walkBs (l : List Tree) (d n : Int) : Int × Bool := match l with
  | [] => (n, true)
  | t :: r => if (Tree.walkB t d n).2 then Tree.walkBs r d (Tree.walkB t d n).1 else ((Tree.walkB t d n).1, false)
end
mutual
def Tree.shapeB (t : Tree) (d : Int) : Bool := match t with
  | .mk k v l => decide (1 ≤ d ∧ (l.length : Int) = arityB k ∧ 0 ≤ v ∧ v ≤ mostB k) && Tree.shapeBBs l (d - 1)
def Tree.shapeBBs (l : List Tree) (d : Int) : Bool := match l with
  | [] => true
  | t :: r => Tree.shapeB t d && Tree.shapeBBs r d
end
end Go.Gl

/- Fixed points over lists of truth values. -/
namespace Go.Gl

/-- a comes before b on the way from s -/
def ordB (s a b : Bool) : Prop := a = b ∨ a = s
theorem ordB.refl (s a : Bool) : ordB s a a := .inl rfl
theorem ordB.trans {s a b c : Bool} (h : ordB s a b) (k : ordB s b c) : ordB s a c := by
  unfold ordB at *
  cases s <;> cases a <;> cases b <;> cases c <;> simp_all
def gB (S : List Bool) (i : Nat) : Bool := S.getD i false
structure FixR (s : Bool) (H : Nat → List Bool → Bool) (n : Nat) (R : List Bool) : Prop where
  len : R.length = n
  fix : ∀ i, i < n → gB R i = H i R
  least : ∀ T : List Bool, T.length = n → (∀ i, i < n → ordB s (H i T) (gB T i)) → ∀ i, i < n → ordB s (gB R i) (gB T i)
def MonoB (s : Bool) (H : Nat → List Bool → Bool) (n : Nat) : Prop := ∀ (S T : List Bool), S.length = n → T.length = n → (∀ j, j < n → ordB s (gB S j) (gB T j)) → ∀ i, i < n → ordB s (H i S) (H i T)
open Classical in
noncomputable def lim (s : Bool) (H : Nat → List Bool → Bool) (n : Nat) : List Bool := if h : ∃ R, FixR s H n R then h.choose else []
/-- how many entries are still as at the start -/
def cntS (s : Bool) (S : List Bool) : Nat := (S.filter fun b => b == s).length
theorem gB_set {S : List Bool} {i j : Nat} {b : Bool} (hi : i < S.length) : gB (S.set i b) j = if j = i then b else gB S j := by
  unfold gB
  by_cases h : j = i
  · subst h
    rw [if_pos rfl, z25 (by simpa using hi)]; simp
  · rw [if_neg h]
    simp only [List.getD_eq_getElem?_getD]
    rw [List.getElem?_set_ne (Ne.symm h)]
theorem cntS_set {s : Bool} {S : List Bool} {i : Nat} (hi : i < S.length) (h : gB S i = s) : cntS s (S.set i (!s)) + 1 = cntS s S := by
  unfold gB at h
  rw [z25 hi] at h
  induction S generalizing i with
  | nil => simp at hi
  | cons a S ih =>
    cases i with
    | zero =>
      simp only [List.getElem_cons_zero] at h
      subst h
      simp [cntS, List.filter_cons]
    | succ i =>
      have := ih (i := i) (by simpa using hi) (by simpa using h)
      unfold cntS at this ⊢
      rw [List.set_cons_succ, List.filter_cons, List.filter_cons]
      split <;> (try simp only [List.length_cons]) <;> omega
/-- what holds on the way -/
structure Way (s : Bool) (H : Nat → List Bool → Bool) (n : Nat) (S : List Bool) : Prop where
  len : S.length = n
  below : ∀ T : List Bool, T.length = n → (∀ i, i < n → ordB s (H i T) (gB T i)) → ∀ i, i < n → ordB s (gB S i) (gB T i)
  post : ∀ i, i < n → ordB s (gB S i) (H i S)
theorem Way.start {s : Bool} {H : Nat → List Bool → Bool} {n : Nat} : Way s H n (List.replicate n s) := by
  have e : ∀ i, i < n → gB (List.replicate n s) i = s := fun i hi => by unfold gB; rw [z25 (by simpa using hi)]; simp
  exact ⟨by simp, fun T _ _ i hi => .inr (e i hi), fun i hi => .inr (e i hi)⟩
/-- one entry takes a value v between itself and what H says of some set on the way -/
theorem Way.put {s : Bool} {H : Nat → List Bool → Bool} {n : Nat} (hm : MonoB s H n) {S : List Bool} (h : Way s H n S) {i : Nat} (hi : i < n) {v : Bool} (h1 : ordB s (gB S i) v) (h2 : ordB s v (H i S)) : Way s H n (S.set i v) ∧ (v ≠ gB S i → cntS s (S.set i v) + 1 = cntS s S) := by
  have hil : i < S.length := by rw [h.len]; exact hi
  have hle : ∀ j, j < n → ordB s (gB S j) (gB (S.set i v) j) := fun j _ => by
    rw [gB_set hil]; split
    · rename_i e; subst e; exact h1
    · exact ordB.refl _ _
  have hH := hm S (S.set i v) h.len (by simp [h.len]) hle
  refine ⟨⟨by simp [h.len], fun T hT hc j hj => ?_, fun j hj => ?_⟩, fun hne => ?_⟩
  · rw [gB_set hil]; split
    · rename_i e; subst e
      exact h2.trans ((hm S T h.len hT (h.below T hT hc) j hj).trans (hc j hj))
    · exact h.below T hT hc j hj
  · rw [gB_set hil]; split
    · rename_i e; subst e; exact h2.trans (hH j hj)
    · exact (h.post j hj).trans (hH j hj)
  · have hs : gB S i = s := by
      rcases h1 with e | e
      · exact absurd e.symm hne
      · exact e
    have hv : v = !s := by
      cases v <;> cases s <;> simp_all
    rw [hv]; exact cntS_set hil hs

/-- successors -/
def nxB (g : List (List Int)) (ev : Bool) (i : Nat) (S : List Bool) : Bool := if ev then (g.getD i []).all (fun t => gB S t.toNat) else (g.getD i []).any (fun t => gB S t.toNat)
end Go.Gl

/- Which states satisfy a branching-time formula. -/
namespace Go.Gl
theorem Way.step {s : Bool} {H : Nat → List Bool → Bool} {n : Nat} (hm : MonoB s H n) {S S' : List Bool} (h : Way s H n S') (hS : S.length = n) (hle : ∀ j, j < n → ordB s (gB S j) (gB S' j)) {i : Nat} (hi : i < n) (hv : H i S = !s) (hg : gB S' i = s) : Way s H n (S'.set i (!s)) ∧ cntS s (S'.set i (!s)) + 1 = cntS s S' ∧ ∀ j, j < n → ordB s (gB S j) (gB (S'.set i (!s)) j) := by
  have hil : i < S'.length := by rw [h.len]; exact hi
  have h2 : ordB s (!s) (H i S') := by
    have := hm S S' hS h.len hle i hi
    rwa [hv] at this
  have hp := h.put hm hi (v := !s) (.inr hg) h2
  refine ⟨hp.1, hp.2 (by rw [hg]; cases s <;> simp), fun j hj => ?_⟩
  rw [gB_set hil]
  split
  · rename_i e
    subst e
    have := hle j hj
    rw [hg] at this
    rcases this with e | e
    · exact .inr e
    · exact .inr e
  · exact hle j hj
def unH (g : List (List Int)) (ev : Bool) (a b : List Bool) (i : Nat) (S : List Bool) : Bool := gB b i || (gB a i && nxB g ev i S)
def alH (g : List (List Int)) (ev : Bool) (a : List Bool) (i : Nat) (S : List Bool) : Bool := gB a i && nxB g ev i S
def nxL (g : List (List Int)) (ev : Bool) (n : Nat) (S : List Bool) : List Bool := (List.range n).map fun i => nxB g ev i S
def hasB (ℓ a : Int) : Bool := decide (((((ℓ / 2 ^ a.toNat).toNat &&& (1 : Int).toNat : Nat) : Int)) = 1)
def ptB (L : List Int) (k v : Int) (a b : List Bool) (i : Nat) : Bool := if k = 2 then hasB (L.getD i 0) v else if k = 3 then !gB a i else if k = 4 then gB a i && gB b i else if k = 5 then gB a i || gB b i else true
noncomputable def opB (g : List (List Int)) (n : Nat) (L : List Int) (k v : Int) (ks : List (List Bool)) : List Bool :=
  if k = 6 then nxL g false n (ks.getD 0 []) else if k = 9 then nxL g true n (ks.getD 0 [])
  else if k = 7 then lim false (unH g false (ks.getD 0 []) (ks.getD 1 [])) n else if k = 10 then lim false (unH g true (ks.getD 0 []) (ks.getD 1 [])) n
  else if k = 8 then lim true (alH g false (ks.getD 0 [])) n else if k = 11 then lim true (alH g true (ks.getD 0 [])) n
  else (List.range n).map (ptB L k v (ks.getD 0 []) (ks.getD 1 []))
mutual
noncomputable def Tree.satB (g : List (List Int)) (n : Nat) (L : List Int) (t : Tree) : List Bool := match t with
  | .mk k v l => opB g n L k v (Tree.satBs g n L l)
noncomputable def Tree.satBs (g : List (List Int)) (n : Nat) (L : List Int) (l : List Tree) : List (List Bool) := match l with
  | [] => []
  | t :: r => Tree.satB g n L t :: Tree.satBs g n L r
end
/-- the reference's always begins at what holds now -/
theorem Way.now {g : List (List Int)} {ev : Bool} {a : List Bool} {n : Nat} (ha : a.length = n) : Way true (alH g ev a) n a := by
  refine ⟨ha, fun T hT h i hi => ?_, fun i hi => ?_⟩
  · have := h i hi
    unfold alH ordB at this
    unfold ordB
    revert this
    cases gB a i <;> cases gB T i <;> simp
  · unfold alH ordB
    cases gB a i <;> simp
end Go.Gl

/- Laws of branching time. -/
namespace Go.Gl
/-! the operators -/
section
variable {g : List (List Int)} {n : Nat} (L : List Int)
variable (hr : ∀ r ∈ g, InN n r)
include hr
end
end Go.Gl

/- Sequences of draws. -/
namespace Go.Gl
theorem seq_ex {α : Type} (R : Nat → Int → α → Int → Prop) (p0 c : Int) : ∀ (m : Nat), (∀ k p, k < m → p0 ≤ p → p ≤ p0 + c * k → ∃ a p', R k p a p' ∧ p ≤ p' ∧ p' ≤ p + c) →
    ∃ (l : List α) (pf : Nat → Int), l.length = m ∧ pf 0 = p0 ∧ (∀ k (hk : k < l.length), R k (pf k) l[k] (pf (k + 1))) ∧ ∀ k, k ≤ m → p0 ≤ pf k ∧ pf k ≤ p0 + c * k := by
  intro m
  induction m with
  | zero =>
    intro _
    refine ⟨[], fun _ => p0, rfl, rfl, fun k hk => by simp at hk, fun k hk => ?_⟩
    have : k = 0 := by omega
    subst this; simp
  | succ m ih =>
    intro h
    obtain ⟨l, pf, h1, h2, h3, h4⟩ := ih fun k p hk => h k p (by omega)
    have h5 := h4 m (Nat.le_refl _)
    obtain ⟨a, p', h6, h7, h8⟩ := h m (pf m) (by omega) h5.1 h5.2
    refine ⟨l ++ [a], fun k => if k ≤ m then pf k else p', by simp [h1], by simp [h2], fun k hk => ?_, fun k hk => ?_⟩
    · by_cases hkm : k < m
      · simp only [if_pos (show k ≤ m by omega), if_pos (show k + 1 ≤ m by omega)]
        rw [List.getElem_append_left (by omega)]
        exact h3 k (by omega)
      · have : k = m := by simp at hk; omega
        subst this
        simp only [if_pos (Nat.le_refl _), if_neg (show ¬(k + 1 ≤ k) by omega)]
        rw [List.getElem_append_right (by omega)]
        simpa [h1] using h6
    · by_cases hkm : k ≤ m
      · simp only [if_pos hkm]; exact h4 k hkm
      · have : k = m + 1 := by omega
        subst this
        simp only [if_neg hkm]
        rw [show ((m + 1 : Nat) : Int) = m + 1 by omega, Int.mul_add]
        omega
end Go.Gl

/- More on what tells less. -/
namespace Go.Gl
theorem bool_le {a b : Bool} (h : a = b) : LocLe (.bool a) (.bool b) := h ▸ LocLe.refl _
end Go.Gl

/- Shortest ways: the search that keeps for each node from where it was found. -/
namespace Go.Gl

def shOne (a : Int) (s : List Int × List Int) (y : Int) : List Int × List Int := if s.2.getD y.toNat 0 = -2 then (s.1 ++ [y], s.2.set y.toNat a) else s
def back (P : List Int) : Nat → Int → List Int
  | 0, _ => []
  | f + 1, a => if 0 ≤ a then a :: back P f (P.getD a.toNat 0) else []
structure SI (rows : List (List Int)) (c : Int) (n : Nat) (Q P : List Int) : Prop where
  nd : Q.Nodup
  inN : InN n Q
  len : P.length = n
  un : ∀ v : Int, 0 ≤ v → v < n → (P.getD v.toNat 0 = -2 ↔ v ∉ Q)
  pr : ∀ k, k < Q.length → P.getD (Q.getD k 0).toNat 0 = -1 ∨ ∃ j, j < k ∧ P.getD (Q.getD k 0).toNat 0 = Q.getD j 0
  rp : ∀ x ∈ Q, RP rows [c] x
  st : c ∈ Q
theorem SI.le {rows : List (List Int)} {c : Int} {n : Nat} {Q P : List Int} (h : SI rows c n Q P) : Q.length ≤ n := pigeon n Q h.nd h.inN
theorem getD_mem {Q : List Int} {k : Nat} (h : k < Q.length) : Q.getD k 0 ∈ Q := by rw [z25 h]; exact List.getElem_mem _
theorem getD_app {Q : List Int} {y : Int} {k : Nat} (h : k < Q.length) : (Q ++ [y]).getD k 0 = Q.getD k 0 := by
  rw [z25 (by simp; omega), z25 h, List.getElem_append_left h]
theorem getD_setO {P : List Int} {i j : Nat} {a : Int} (h : i ≠ j) : (P.set i a).getD j 0 = P.getD j 0 := by
  simp only [List.getD_eq_getElem?_getD]; rw [List.getElem?_set_ne h]
theorem getD_setS {P : List Int} {i : Nat} {a : Int} (h : i < P.length) : (P.set i a).getD i 0 = a := by
  rw [z25 (by simpa using h)]; simp
theorem SI.one {rows : List (List Int)} {c : Int} {n : Nat} {Q P : List Int} (h : SI rows c n Q P) {i : Nat} (hi : i < Q.length) {y : Int} (hy : y ∈ rows.getD (Q.getD i 0).toNat []) (h0 : 0 ≤ y) (h1 : y < n) :
    SI rows c n (shOne (Q.getD i 0) (Q, P) y).1 (shOne (Q.getD i 0) (Q, P) y).2 ∧ (∃ t, (shOne (Q.getD i 0) (Q, P) y).1 = Q ++ t) ∧ y ∈ (shOne (Q.getD i 0) (Q, P) y).1 := by
  unfold shOne
  have ha := h.inN _ (getD_mem hi)
  by_cases hu : P.getD y.toNat 0 = -2
  · rw [if_pos hu]
    have hn := (h.un y h0 h1).1 hu
    have hyl : y.toNat < P.length := by rw [h.len]; omega
    have hne : ∀ v ∈ Q, y.toNat ≠ v.toNat := fun v hv e => by
      have := h.inN v hv
      have : y = v := by omega
      rw [this] at hn; exact hn hv
    refine ⟨⟨?_, ?_, by simp [h.len], ?_, ?_, ?_, List.mem_append_left _ h.st⟩, ⟨_, rfl⟩, by simp⟩
    · rw [List.nodup_append]
      exact ⟨h.nd, by simp, fun a ha b hb => by rintro rfl; rw [List.mem_singleton.1 hb] at ha; exact hn ha⟩
    · intro x hx
      rcases List.mem_append.1 hx with hx | hx
      · exact h.inN x hx
      · rw [List.mem_singleton.1 hx]; exact ⟨h0, h1⟩
    · intro v v0 v1
      by_cases hv : v = y
      · subst hv
        show (P.set v.toNat _).getD v.toNat 0 = -2 ↔ _
        rw [getD_setS hyl]
        exact ⟨fun e => by omega, fun hh => absurd (by simp) hh⟩
      · show (P.set y.toNat _).getD v.toNat 0 = -2 ↔ _
        rw [getD_setO (by omega), h.un v v0 v1]
        simp [hv]
    · intro k hk
      show (P.set y.toNat _).getD ((Q ++ [y]).getD k 0).toNat 0 = -1 ∨ ∃ j, j < k ∧ (P.set y.toNat _).getD ((Q ++ [y]).getD k 0).toNat 0 = (Q ++ [y]).getD j 0
      simp only [List.length_append, List.length_singleton] at hk
      rcases Nat.lt_or_ge k Q.length with h2 | h2
      · rw [getD_app h2, getD_setO (hne _ (getD_mem h2))]
        rcases h.pr k h2 with h3 | ⟨j, h3, h4⟩
        · exact .inl h3
        · exact .inr ⟨j, h3, by rw [h4, getD_app (by omega)]⟩
      · have e : k = Q.length := by omega
        subst e
        have e2 : (Q ++ [y]).getD Q.length 0 = y := by rw [z25 (by simp)]; simp
        rw [e2, getD_setS hyl]
        exact .inr ⟨i, hi, by rw [getD_app hi]⟩
    · intro x hx
      rcases List.mem_append.1 hx with hx | hx
      · exact h.rp x hx
      · rw [List.mem_singleton.1 hx]; exact .step (h.rp _ (getD_mem hi)) hy
  · rw [if_neg hu]
    refine ⟨h, ⟨[], by simp⟩, ?_⟩
    have := h.un y h0 h1
    exact Classical.byContradiction fun hc => hu (this.2 hc)
theorem SI.fold {rows : List (List Int)} {c : Int} {n : Nat} {i : Nat} {a : Int} : ∀ (r : List Int) (Q P : List Int), SI rows c n Q P → i < Q.length → Q.getD i 0 = a → (∀ y ∈ r, y ∈ rows.getD a.toNat [] ∧ 0 ≤ y ∧ y < n) →
    SI rows c n (r.foldl (shOne a) (Q, P)).1 (r.foldl (shOne a) (Q, P)).2 ∧ (∃ t, (r.foldl (shOne a) (Q, P)).1 = Q ++ t) ∧ ∀ y ∈ r, y ∈ (r.foldl (shOne a) (Q, P)).1 := by
  intro r
  induction r with
  | nil => intro Q P h _ _ _; exact ⟨h, ⟨[], by simp⟩, fun y hy => by cases hy⟩
  | cons y r ih =>
    intro Q P h hi ha hr
    have hy := hr y (by simp)
    obtain ⟨h1, ⟨t, ht⟩, h3⟩ := h.one hi (by rw [ha]; exact hy.1) hy.2.1 hy.2.2
    rw [ha] at h1 ht h3
    rw [List.foldl_cons]
    generalize shOne a (Q, P) y = s at *
    obtain ⟨Q1, P1⟩ := s
    simp only at h1 ht h3
    subst ht
    obtain ⟨k1, ⟨t2, ht2⟩, k3⟩ := ih (Q ++ t) P1 h1 (by simp; omega) (by rw [← ha, z25 (by simp; omega), z25 hi, List.getElem_append_left hi]) (fun z hz => hr z (List.mem_cons_of_mem _ hz))
    refine ⟨k1, ⟨t ++ t2, by rw [ht2, List.append_assoc]⟩, fun z hz => ?_⟩
    rcases List.mem_cons.1 hz with rfl | hz
    · rw [ht2]; exact List.mem_append_left _ h3
    · exact k3 z hz
structure SJ (rows : List (List Int)) (b : List Bool) (c : Int) (n : Nat) (Q P : List Int) (i : Nat) : Prop where
  si : SI rows c n Q P
  le : i ≤ Q.length
  no : ∀ k, k < i → gB b (Q.getD k 0).toNat = false ∧ ∀ y ∈ rows.getD (Q.getD k 0).toNat [], y ∈ Q
theorem SJ.step {rows : List (List Int)} {b : List Bool} {c : Int} {n : Nat} {Q P : List Int} {i : Nat} (h : SJ rows b c n Q P i) (hr : ∀ r ∈ rows, InN n r) (hi : i < Q.length) (hb : gB b (Q.getD i 0).toNat = false) :
    SJ rows b c n ((rows.getD (Q.getD i 0).toNat []).foldl (shOne (Q.getD i 0)) (Q, P)).1 ((rows.getD (Q.getD i 0).toNat []).foldl (shOne (Q.getD i 0)) (Q, P)).2 (i + 1) := by
  obtain ⟨k1, ⟨t, ht⟩, k3⟩ := h.si.fold (i := i) (a := Q.getD i 0) (rows.getD (Q.getD i 0).toNat []) Q P hi rfl (fun y hy => ⟨hy, row_in hr _ y hy⟩)
  have e : ∀ k, k < Q.length → (Q ++ t).getD k 0 = Q.getD k 0 := fun k hk => by rw [z25 (by simp; omega), z25 hk, List.getElem_append_left hk]
  refine ⟨k1, by rw [ht]; simp; omega, fun k hk => ?_⟩
  rw [ht] at k3 ⊢
  rw [e k (by omega)]
  rcases Nat.lt_or_ge k i with h1 | h1
  · exact ⟨(h.no k h1).1, fun y hy => List.mem_append_left _ ((h.no k h1).2 y hy)⟩
  · obtain rfl : k = i := by omega
    exact ⟨hb, k3⟩
/-- the start -/
theorem SJ.start {rows : List (List Int)} {b : List Bool} {c : Int} {n : Nat} (h0 : 0 ≤ c) (h1 : c < n) : SJ rows b c n [c] ((List.replicate n (-2)).set c.toNat (-1)) 0 := by
  refine ⟨⟨by simp, fun x hx => by rw [List.mem_singleton.1 hx]; exact ⟨h0, h1⟩, by simp, fun v v0 v1 => ?_, fun k hk => ?_, fun x hx => .base hx, by simp⟩, by simp, fun k hk => by omega⟩
  · by_cases e : v = c
    · subst e
      rw [getD_setS (by simp; omega)]
      simp
    · rw [getD_setO (by omega), z25 (by simp; omega)]
      simp [e]
  · obtain rfl : k = 0 := by simpa using hk
    left
    show ((List.replicate n (-2 : Int)).set c.toNat (-1)).getD c.toNat 0 = -1
    rw [getD_setS (by simp; omega)]
theorem SJ.closed {rows : List (List Int)} {b : List Bool} {c : Int} {n : Nat} {Q P : List Int} {i : Nat} (h : SJ rows b c n Q P i) (hi : Q.length ≤ i) {x : Int} (hx : RP rows [c] x) : x ∈ Q ∧ gB b x.toNat = false := by
  have key : x ∈ Q := by
    induction hx with
    | base hx => rw [List.mem_singleton.1 hx]; exact h.si.st
    | step _ hy ih =>
      obtain ⟨k, hk, e⟩ := List.mem_iff_getElem.1 ih
      have := (h.no k (by omega)).2
      rw [z25 hk, e] at this
      exact this _ hy
  refine ⟨key, ?_⟩
  obtain ⟨k, hk, e⟩ := List.mem_iff_getElem.1 key
  have := (h.no k (by omega)).1
  rwa [z25 hk, e] at this
end Go.Gl

/- Infinite runs of a finite graph and cycles. -/
namespace Go.Gl

def PathP (rows : List (List Int)) (p : List Int) : Prop := ∀ i, i + 1 < p.length → p.getD (i + 1) 0 ∈ rows.getD (p.getD i 0).toNat []
theorem RP.trans {rows : List (List Int)} {ini : List Int} {x y z : Int} (h : RP rows ini x) (hy : y ∈ rows.getD x.toNat []) (k : RP rows [y] z) : RP rows ini z := by
  induction k with
  | base hb => rw [List.mem_singleton.1 hb]; exact .step h hy
  | step _ hs ih => exact .step ih hs
theorem RP.path {rows : List (List Int)} {ini : List Int} {x : Int} (h : RP rows ini x) : ∃ p : List Int, 0 < p.length ∧ p.getD 0 0 ∈ ini ∧ p.getD (p.length - 1) 0 = x ∧ PathP rows p := by
  induction h with
  | base hb => exact ⟨[_], by simp, hb, rfl, fun i hi => by simp at hi⟩
  | step _ hy ih =>
    rename_i u y _
    obtain ⟨p, h1, h2, h3, h4⟩ := ih
    refine ⟨p ++ [y], by simp, by rwa [getD_app h1], by rw [z25 (by simp)]; simp, fun i hi => ?_⟩
    simp only [List.length_append, List.length_singleton] at hi
    rcases Nat.lt_or_ge (i + 1) p.length with h | h
    · rw [getD_app h, getD_app (by omega)]; exact h4 i h
    · have e : i + 1 = p.length := by omega
      have e1 : (p ++ [y]).getD i 0 = u := by rw [getD_app (by omega), show i = p.length - 1 by omega, h3]
      have e2 : (p ++ [y]).getD (i + 1) 0 = y := by rw [e, z25 (by simp)]; simp
      rw [e1, e2]; exact hy
theorem PathP.rp {rows : List (List Int)} {p : List Int} (h : PathP rows p) {ini : List Int} (h0 : p.getD 0 0 ∈ ini) : ∀ i, i < p.length → RP rows ini (p.getD i 0) := by
  intro i
  induction i with
  | zero => exact fun _ => .base h0
  | succ i ih => exact fun hi => .step (ih (by omega)) (h i hi)
end Go.Gl

/- Linear-time formulas: what the program's walk computes, and what the reference computes. -/
namespace Go.Gl
def arityF (k : Int) : Int := if k = 1 ∨ k = 2 then 0 else if k = 3 ∨ k = 6 ∨ k = 9 ∨ k = 10 then 1 else if k = 4 ∨ k = 5 ∨ k = 7 ∨ k = 8 then 2 else -1
def mostF (k : Int) : Int := if k = 2 then 2 else 0
mutual
def Tree.walkF (t : Tree) (d n : Int) : Int × Bool := match t with
  | .mk k v l => if d ≤ 6 ∧ n + 1 ≤ 12 ∧ 0 ≤ v ∧ v ≤ mostF k ∧ (l.length : Int) = arityF k then Tree.walkFs l (d + 1) (n + 1) else (n + 1, false)
def Tree.walkFs (l : List Tree) (d n : Int) : Int × Bool := match l with
  | [] => (n, true)
  | t :: r => if (Tree.walkF t d n).2 then Tree.walkFs r d (Tree.walkF t d n).1 else ((Tree.walkF t d n).1, false)
end
mutual
def Tree.shapeF (t : Tree) (d : Int) : Bool := match t with
  | .mk k v l => decide (1 ≤ d ∧ (l.length : Int) = arityF k ∧ 0 ≤ v ∧ v ≤ mostF k) && Tree.shapeFs l (d - 1)
def Tree.shapeFs (l : List Tree) (d : Int) : Bool := match l with
  | [] => true
  | t :: r => Tree.shapeF t d && Tree.shapeFs r d
end
/-- the walk finds what the shape and the number of nodes say -/
theorem Tree.walkF_spec : (∀ (t : Tree) d n, 0 ≤ n → n ≤ 12 → ((t.walkF d n).2 = true ↔ t.shapeF (7 - d) = true ∧ n + t.count (7 - d) ≤ 12) ∧ ((t.walkF d n).2 = true → (t.walkF d n).1 = n + t.count (7 - d)) ∧ n ≤ (t.walkF d n).1 ∧ (t.walkF d n).1 ≤ 13) ∧
    ∀ (l : List Tree) d n, 0 ≤ n → n ≤ 12 → ((Tree.walkFs l d n).2 = true ↔ Tree.shapeFs l (7 - d) = true ∧ n + Tree.counts l (7 - d) ≤ 12) ∧ ((Tree.walkFs l d n).2 = true → (Tree.walkFs l d n).1 = n + Tree.counts l (7 - d)) ∧ n ≤ (Tree.walkFs l d n).1 ∧ (Tree.walkFs l d n).1 ≤ 13 := by
  refine Tree.rec2 ?_ ?_ ?_
  · intro k v l ih d n h0 h1
    simp only [Tree.walkF, Tree.shapeF, Tree.count, Bool.and_eq_true, decide_eq_true_eq]
    have hc := Tree.count_pos.2 l (7 - d - 1)
    by_cases hb : d ≤ 6 ∧ n + 1 ≤ 12 ∧ 0 ≤ v ∧ v ≤ mostF k ∧ (l.length : Int) = arityF k
    · rw [if_pos hb, if_pos (by omega)]
      have := ih (d + 1) (n + 1) (by omega) hb.2.1
      rw [show 7 - (d + 1) = 7 - d - 1 by omega] at this
      obtain ⟨a1, a2, a3, a4⟩ := this
      refine ⟨?_, ?_, by omega, by omega⟩
      · rw [a1]
        constructor
        · rintro ⟨b1, b2⟩; exact ⟨⟨⟨by omega, hb.2.2.2.2, hb.2.2.1, hb.2.2.2.1⟩, b1⟩, by omega⟩
        · rintro ⟨b1, b2⟩; exact ⟨b1.2, by omega⟩
      · intro h; rw [a2 h]; omega
    · rw [if_neg hb]
      refine ⟨⟨by simp, ?_⟩, by simp, by simp only; omega, by simp only; omega⟩
      rintro ⟨⟨⟨b1, b2, b3, b4⟩, b5⟩, b6⟩
      rw [if_pos (by omega)] at b6
      exact absurd ⟨by omega, by omega, b3, b4, b2⟩ hb
  · intro d n h0 h1
    simp [Tree.walkFs, Tree.shapeFs, Tree.counts]; omega
  · intro t r iht ihr d n h0 h1
    simp only [Tree.walkFs, Tree.shapeFs, Tree.counts, Bool.and_eq_true]
    obtain ⟨a1, a2, a3, a4⟩ := iht d n h0 h1
    have hc := Tree.count_pos.2 r (7 - d)
    by_cases hb : (t.walkF d n).2 = true
    · rw [if_pos hb]
      have e := a2 hb
      obtain ⟨b1, b2, b3, b4⟩ := ihr d (t.walkF d n).1 (by omega) (by rw [e]; exact (a1.1 hb).2)
      refine ⟨?_, fun h => by rw [b2 h, e]; omega, by omega, b4⟩
      rw [b1, e]
      exact ⟨fun h => ⟨⟨(a1.1 hb).1, h.1⟩, by omega⟩, fun h => ⟨h.1.2, by omega⟩⟩
    · rw [if_neg hb]
      refine ⟨⟨by simp, fun h => absurd (a1.2 ⟨h.1.1, by omega⟩) hb⟩, by simp, a3, a4⟩

def Tree.fmB (t : Tree) : Bool := (t.walkF 1 0).2
theorem Tree.fmB_eq (t : Tree) : t.fmB = (t.shapeF 6 && decide (t.count 6 ≤ 12)) := by
  have h := (Tree.walkF_spec.1 t 1 0 (by omega) (by omega)).1
  rw [show (7 : Int) - 1 = 6 by omega, Int.zero_add] at h
  rw [Bool.eq_iff_iff, Bool.and_eq_true, decide_eq_true_eq]
  exact h
end Go.Gl

/- Linear-time formulas: normal forms, subformulas, what a word satisfies. -/
namespace Go.Gl

theorem Tree.shapeFs_iff (l : List Tree) (d : Int) : Tree.shapeFs l d = true ↔ ∀ t ∈ l, t.shapeF d = true := by
  induction l with
  | nil => simp [Tree.shapeFs]
  | cons t l ih => simp [Tree.shapeFs, ih]
theorem Tree.shapeF_iff (t : Tree) (d : Int) : t.shapeF d = true ↔ (1 ≤ d ∧ (t.kids.length : Int) = arityF t.kind ∧ 0 ≤ t.val ∧ t.val ≤ mostF t.kind) ∧ ∀ u ∈ t.kids, u.shapeF (d - 1) = true := by
  cases t with
  | mk k v l => simp only [Tree.shapeF, Bool.and_eq_true, decide_eq_true_eq, Tree.shapeFs_iff, Tree.kids, Tree.kind, Tree.val]
def Tree.goodF (t : Tree) : Prop := ∃ d, t.shapeF d = true
theorem Tree.goodF_of {t : Tree} (h : t.fmB = true) : t.goodF := by
  rw [Tree.fmB_eq, Bool.and_eq_true] at h
  exact ⟨6, h.1⟩
theorem Tree.goodF_iff {t : Tree} (h : t.goodF) : (t.kids.length : Int) = arityF t.kind ∧ 0 ≤ t.val ∧ t.val ≤ mostF t.kind ∧ ∀ u ∈ t.kids, u.goodF := by
  obtain ⟨d, h⟩ := h
  rw [Tree.shapeF_iff] at h
  exact ⟨h.1.2.1, h.1.2.2.1, h.1.2.2.2, fun u hu => ⟨d - 1, h.2 u hu⟩⟩
/-- the forms of a formula -/
inductive FormF : Tree → Prop
  | tr : FormF (.mk 1 0 [])
  | at (v : Int) (h0 : 0 ≤ v) (h1 : v ≤ 2) : FormF (.mk 2 v [])
  | un (k : Int) (a : Tree) (hk : k = 3 ∨ k = 6 ∨ k = 9 ∨ k = 10) (ha : a.goodF) : FormF (.mk k 0 [a])
  | bin (k : Int) (a b : Tree) (hk : k = 4 ∨ k = 5 ∨ k = 7 ∨ k = 8) (ha : a.goodF) (hb : b.goodF) : FormF (.mk k 0 [a, b])
theorem Tree.formF {t : Tree} (h : t.goodF) : FormF t := by
  obtain ⟨h1, h2, h3, h4⟩ := Tree.goodF_iff h
  cases t with
  | mk k v l =>
    simp only [Tree.kids, Tree.kind, Tree.val] at h1 h2 h3 h4
    unfold mostF at h3
    unfold arityF at h1
    by_cases e1 : k = 1
    · subst e1
      simp at h1 h3
      obtain rfl : v = 0 := by omega
      subst h1; exact .tr
    by_cases e2 : k = 2
    · subst e2
      simp at h1 h3
      subst h1; exact .at v h2 h3
    rw [if_neg e2] at h3
    obtain rfl : v = 0 := by omega
    by_cases e3 : k = 3 ∨ k = 6 ∨ k = 9 ∨ k = 10
    · rw [if_neg (by omega), if_pos e3] at h1
      match l, h1 with
      | [a], _ => exact .un k a e3 (h4 a (by simp))
      | [], h1 => simp at h1
      | a :: b :: r, h1 => simp at h1; omega
    by_cases e4 : k = 4 ∨ k = 5 ∨ k = 7 ∨ k = 8
    · rw [if_neg (by omega), if_neg e3, if_pos e4] at h1
      match l, h1 with
      | [a, b], _ => exact .bin k a b e4 (h4 a (by simp)) (h4 b (by simp))
      | [], h1 => simp at h1
      | [a], h1 => simp at h1
      | a :: b :: c :: r, h1 => simp at h1; omega
    · rw [if_neg (by omega), if_neg e3, if_neg e4] at h1
      omega

def dualF (k : Int) : Int := if k = 4 then 5 else if k = 5 then 4 else if k = 7 then 8 else 7
def dftT : Tree := .mk 0 0 []
def truT : Tree := .mk 1 0 []
def notT (t : Tree) : Tree := .mk 3 0 [t]
def nrmOp (k v : Int) (neg : Bool) (ks : List Tree) : Tree :=
  if k = 1 ∨ k = 2 then (if neg then notT (.mk k v []) else .mk k v [])
  else if k = 6 then .mk 6 0 [ks.getD 0 dftT]
  else if k = 9 ∨ k = 10 then (if (decide (k = 9) != neg) = true then .mk 7 0 [truT, ks.getD 0 dftT] else .mk 8 0 [notT truT, ks.getD 0 dftT])
  else .mk (if neg then dualF k else k) 0 [ks.getD 0 dftT, ks.getD 1 dftT]
mutual
/-- the normal form of a formula, or of its negation -/
def Tree.nrm (neg : Bool) (t : Tree) : Tree := match t with
  | .mk k v l => if k = 3 then (Tree.nrms (!neg) l).getD 0 dftT else nrmOp k v neg (Tree.nrms neg l)
def Tree.nrms (neg : Bool) (l : List Tree) : List Tree := match l with
  | [] => []
  | t :: r => Tree.nrm neg t :: Tree.nrms neg r
end
theorem nrm_tr (neg : Bool) : (Tree.mk 1 0 []).nrm neg = if neg then notT (.mk 1 0 []) else .mk 1 0 [] := by simp [Tree.nrm, Tree.nrms, nrmOp]
theorem nrm_at (neg : Bool) (v : Int) : (Tree.mk 2 v []).nrm neg = if neg then notT (.mk 2 v []) else .mk 2 v [] := by simp [Tree.nrm, Tree.nrms, nrmOp]
theorem nrm_not (neg : Bool) (v : Int) (a : Tree) : (Tree.mk 3 v [a]).nrm neg = a.nrm (!neg) := by simp [Tree.nrm, Tree.nrms]
theorem nrm_next (neg : Bool) (v : Int) (a : Tree) : (Tree.mk 6 v [a]).nrm neg = .mk 6 0 [a.nrm neg] := by simp [Tree.nrm, Tree.nrms, nrmOp]
theorem nrm_ev (neg : Bool) (v : Int) (a : Tree) : (Tree.mk 9 v [a]).nrm neg = if neg then .mk 8 0 [notT truT, a.nrm neg] else .mk 7 0 [truT, a.nrm neg] := by cases neg <;> simp [Tree.nrm, Tree.nrms, nrmOp]
theorem nrm_al (neg : Bool) (v : Int) (a : Tree) : (Tree.mk 10 v [a]).nrm neg = if neg then .mk 7 0 [truT, a.nrm neg] else .mk 8 0 [notT truT, a.nrm neg] := by cases neg <;> simp [Tree.nrm, Tree.nrms, nrmOp]
theorem nrm_bin (neg : Bool) (k v : Int) (a b : Tree) (hk : k = 4 ∨ k = 5 ∨ k = 7 ∨ k = 8) : (Tree.mk k v [a, b]).nrm neg = .mk (if neg then dualF k else k) 0 [a.nrm neg, b.nrm neg] := by
  rcases hk with rfl | rfl | rfl | rfl <;> simp [Tree.nrm, Tree.nrms, nrmOp]
theorem sz_one (k v : Int) (a : Tree) : (Tree.mk k v [a]).sz = 1 + a.sz := by simp [Tree.sz, Tree.szs]
theorem sz_two (k v : Int) (a b : Tree) : (Tree.mk k v [a, b]).sz = 2 + (a.sz + b.sz) := by simp [Tree.sz, Tree.szs]; omega
theorem sz_nil (k v : Int) : (Tree.mk k v []).sz = 0 := by simp [Tree.sz, Tree.szs]
theorem Tree.nrm_sz (t : Tree) : t.goodF → ∀ neg, (t.nrm neg).sz ≤ 4 * t.sz + 3 := by
  induction t using Tree.ind with | h t ih => ?_
  intro hg neg
  cases Tree.formF hg with
  | tr => rw [nrm_tr]; cases neg <;> simp [notT, sz_one, sz_nil]
  | «at» v _ _ => rw [nrm_at]; cases neg <;> simp [notT, sz_one, sz_nil]
  | un k a hk ha =>
    have h1 := ih a (by simp [Tree.kids]) ha
    rw [sz_one]
    rcases hk with rfl | rfl | rfl | rfl
    · rw [nrm_not]; have := h1 (!neg); omega
    · rw [nrm_next, sz_one]; have := h1 neg; omega
    · rw [nrm_ev]; have := h1 neg; cases neg <;> simp [sz_two, notT, truT, sz_one, sz_nil] <;> omega
    · rw [nrm_al]; have := h1 neg; cases neg <;> simp [sz_two, notT, truT, sz_one, sz_nil] <;> omega
  | bin k a b hk ha hb =>
    have h1 := ih a (by simp [Tree.kids]) ha neg
    have h2 := ih b (by simp [Tree.kids]) hb neg
    rw [nrm_bin _ _ _ _ _ hk, sz_two, sz_two]; omega
end Go.Gl

/- A ghost step: an object gets a new name, the old name is dead. -/
namespace Go.Gl

def mvF (o n : Nat) (p : Nat × List Nat) : Nat × List Nat := if p.1 = o then (n, p.2) else p
noncomputable def Ghost.rnm (G : Ghost) (o n : Nat) : Ghost := { G with ι := fun x => if x = n then G.ι o else G.ι x, κ := fun b => (G.κ b).map (mvF o n) }
theorem mvF_cons (o n o' j : Nat) (q : List Nat) : mvF o n (o', j :: q) = ((mvF o n (o', q)).1, j :: (mvF o n (o', q)).2) := by
  unfold mvF; dsimp only; split <;> rfl
theorem Wf.rnm {G : Ghost} {objs : Nat → AObj} {w : World} (hW : Wf G objs w) {o n wd : Nat} {es : List (List AC)} (ho : objs o = .cells wd es) (hn : objs n = .fresh) :
    Wf (G.rnm o n) (upd (upd objs n (.cells wd es)) o .dead) w ∧ ∀ x t, G.ι x = some t → (G.rnm o n).ι x = some t := by
  have hιn : G.ι n = none := by have := hW.objs n; rw [hn] at this; exact this
  have hon : o ≠ n := fun e => by rw [e, hn] at ho; cases ho
  have hι : ∀ x t, G.ι x = some t → (G.rnm o n).ι x = some t := fun x t e => by
    show (if x = n then G.ι o else G.ι x) = some t
    by_cases h : x = n
    · rw [h, hιn] at e; cases e
    · rw [if_neg h]; exact e
  have hmv : ∀ (es : List (List AC)) (l : Loc) (wd : Nat) (c : Array Value), VLL G (hp w) l wd es c 0 → VLL (G.rnm o n) (hp w) (l.map (mvF o n)) wd es c 0 := fun es l wd c hv =>
    z136 es G (G.rnm o n) (hp w) (hp w) (mvF o n) (fun _ => True) (fun _ _ e => e) hι (fun a b c => mvF_cons o n a b c) (fun _ _ _ h => h) (fun b p _ hk => ⟨by show (G.κ b).map (mvF o n) = _; rw [hk]; rfl, rfl⟩) l wd c 0 (fun _ _ _ => trivial) hv
  refine ⟨⟨hW.hS, hW.hU, hW.su, fun b p hk => ?_, fun x => ?_⟩, hι⟩
  · have hk : (G.κ b).map (mvF o n) = some p := hk
    cases h : G.κ b with
    | none => rw [h] at hk; cases hk
    | some p' => exact hW.sk b p' h
  · by_cases h1 : x = o
    · subst h1; rw [z45]; trivial
    · rw [z68 _ _ h1]
      by_cases h2 : x = n
      · subst h2
        rw [z45]
        have h := hW.objs o
        rw [ho] at h
        have hx : (G.rnm o x).ι x = G.ι o := by show (if x = x then G.ι o else G.ι x) = _; rw [if_pos rfl]
        rcases h with ⟨a, b⟩ | ⟨b, size, c, el, a1, a2, a3, a4, a5⟩
        · exact .inl ⟨a, by rw [hx]; exact b⟩
        · refine .inr ⟨b, size, c, el, by rw [hx]; exact a1, ?_, a3, a4, ?_⟩
          · show (G.κ b).map (mvF o x) = _; rw [a2]; unfold mvF; simp
          · have := hmv es (some (o, [])) wd c a5
            have e : Option.map (mvF o x) (some (o, [])) = some (x, []) := by unfold mvF; simp
            rwa [e] at this
      · rw [z68 _ _ h2]
        have h := hW.objs x
        have hx : (G.rnm o n).ι x = G.ι x := by show (if x = n then G.ι o else G.ι x) = _; rw [if_neg h2]
        cases hc : objs x with
        | fresh => rw [hc] at h; show (G.rnm o n).ι x = none; rw [hx]; exact h
        | dead => trivial
        | cells wd' es' =>
          rw [hc] at h
          rcases h with ⟨a, b⟩ | ⟨b, size, c, el, a1, a2, a3, a4, a5⟩
          · exact .inl ⟨a, by rw [hx]; exact b⟩
          · refine .inr ⟨b, size, c, el, by rw [hx]; exact a1, ?_, a3, a4, ?_⟩
            · show (G.κ b).map (mvF o n) = _; rw [a2]; unfold mvF; simp [h1]
            · have := hmv es' (some (x, [])) wd' c a5
              have e : Option.map (mvF o n) (some (x, [])) = some (x, []) := by unfold mvF; simp [h1]
              rwa [e] at this

def rnS (o n : Nat) (x : AC) : AC := match x with
  | .sref k off len => .sref (cond (Nat.beq k o) n k) off len
  | x => x
theorem rnS_V {G : Ghost} {h : Nat → Option Obj} {o n : Nat} (hι : ∀ x t, G.ι x = some t → (G.rnm o n).ι x = some t) {x : AC} {v : Value} (hv : V G h none x v) : V (G.rnm o n) h none (rnS o n x) v := by
  cases x with
  | sref k off len =>
    simp only [rnS, V] at hv ⊢
    obtain ⟨cap, h1, h2⟩ := hv
    refine ⟨cap, h1, h2.imp id ?_⟩
    rintro ⟨b, size, w, a1, a2⟩
    refine ⟨b, size, w, ?_, a2⟩
    cases hk : Nat.beq k o with
    | true =>
      have := Nat.eq_of_beq_eq_true hk
      subst this
      show (if n = n then G.ι k else _) = _
      rw [if_pos rfl]; exact a1
    | false => exact hι k _ a1
  | _ => exact V_none (G := G) (G' := G.rnm o n) (fun _ _ e => e) hι hv
theorem rnS_env (o n : Nat) (env : List (Nat × AC)) (s : Nat) : z90 (env.map fun p => (p.1, rnS o n p.2)) s = rnS o n (z90 env s) := by
  induction env with
  | nil => rfl
  | cons p env ih =>
    obtain ⟨k, x⟩ := p
    simp only [List.map_cons, z90]
    cases Nat.beq s k
    · exact ih
    · rfl
theorem Reach.rnm (o : Nat) {m n wd : Nat} {env : List (Nat × AC)} {objs : List AObj} {es : List (List AC)} (ho : z39 objs o = .cells wd es) : Reach m (mkSt n env objs) (mkSt n (env.map fun p => (p.1, rnS o objs.length p.2)) (objs.set o .dead ++ [.cells wd es])) := fun G a w hR => by
  have hol : o < objs.length := by
    rcases Nat.lt_or_ge o objs.length with h | h
    · exact h
    · have : z39 objs o = .fresh := z61 h
      rw [this] at ho; cases ho
  have hn : z39 objs objs.length = .fresh := z61 (Nat.le_refl _)
  obtain ⟨h1, h2⟩ := hR.wf.rnm (o := o) (n := objs.length) ho hn
  refine ⟨G.rnm o objs.length, ⟨⟨fun _ _ e => e, rfl⟩, fun x t _ e => h2 x t e⟩, ⟨?_, fun s => by
    show V _ _ none (z90 (env.map fun p => (p.1, rnS o objs.length p.2)) s) _
    rw [rnS_env]; exact rnS_V h2 (hR.env s), hR.size, hR.defers⟩⟩
  show Wf _ (z39 (objs.set o .dead ++ [.cells wd es])) w
  have e : z39 (objs.set o .dead ++ [.cells wd es]) = upd (upd (z39 objs) objs.length (.cells wd es)) o .dead := by
    funext x
    by_cases h1 : x = o
    · subst h1
      rw [z45]
      exact z53 (by rw [List.getElem?_append_left (by simpa using hol), List.getElem?_set_self hol])
    · rw [z68 _ _ h1]
      rcases Nat.lt_trichotomy x objs.length with h | h | h
      · rw [z68 _ _ (by omega)]
        have : z39 objs x = objs[x] := z53 (List.getElem?_eq_getElem h)
        rw [this]
        exact z53 (by rw [List.getElem?_append_left (by simpa using h), List.getElem?_set_ne (by omega), List.getElem?_eq_getElem h])
      · subst h
        rw [z45]
        exact z53 (by simp)
      · rw [z68 _ _ (by omega)]
        have : z39 objs x = .fresh := z61 (by omega)
        rw [this]
        exact z61 (by simp; omega)
  rw [e]; exact h1
end Go.Gl

/- Subformulas, each once, in postorder. -/
namespace Go.Gl
noncomputable def addT (o : List Tree) (t : Tree) : List Tree := if t ∈ o then o else o ++ [t]
mutual
noncomputable def Tree.subs (t : Tree) (o : List Tree) : List Tree := match t with
  | .mk k v l => addT (Tree.subss l o) (.mk k v l)
noncomputable def Tree.subss (l : List Tree) (o : List Tree) : List Tree := match l with
  | [] => o
  | t :: r => Tree.subss r (Tree.subs t o)
end
theorem Tree.subs_eq (t : Tree) (o : List Tree) : t.subs o = addT (Tree.subss t.kids o) t := by cases t; rw [Tree.subs]; rfl
theorem Tree.subss_snoc (l : List Tree) (t : Tree) : ∀ o, Tree.subss (l ++ [t]) o = t.subs (Tree.subss l o) := by
  induction l with
  | nil => intro o; simp [Tree.subss]
  | cons u l ih => intro o; simp only [List.cons_append, Tree.subss]; exact ih _
theorem Tree.subss_take {l : List Tree} {k : Nat} (h : k < l.length) (o : List Tree) : Tree.subss (l.take (k + 1)) o = l[k].subs (Tree.subss (l.take k) o) := by
  rw [List.take_succ_eq_append_getElem h, Tree.subss_snoc]
theorem addT_mem {o : List Tree} {t x : Tree} : x ∈ addT o t ↔ x ∈ o ∨ x = t := by
  unfold addT
  split
  · rename_i h
    constructor
    · exact .inl
    · rintro (h1 | rfl)
      · exact h1
      · exact h
  · simp
theorem addT_nodup {o : List Tree} {t : Tree} (h : o.Nodup) : (addT o t).Nodup := by
  unfold addT
  split
  · exact h
  · rename_i hn
    rw [List.nodup_append]
    exact ⟨h, by simp, fun a ha b hb => by rintro rfl; rw [List.mem_singleton.1 hb] at ha; exact hn ha⟩
theorem addT_len (o : List Tree) (t : Tree) : (addT o t).length ≤ o.length + 1 := by unfold addT; split <;> simp
theorem subs_props : ∀ t : Tree, ∀ o : List Tree, (o.Nodup → (t.subs o).Nodup) ∧ (∀ x ∈ o, x ∈ t.subs o) ∧ t ∈ t.subs o ∧ (t.subs o).length ≤ o.length + t.sz + 1 ∧ (∀ x ∈ t.subs o, x ∈ o ∨ x.sz ≤ t.sz) ∧ ((∀ x ∈ o, ∀ u ∈ x.kids, u ∈ o) → ∀ x ∈ t.subs o, ∀ u ∈ x.kids, u ∈ t.subs o) := by
  intro t
  induction t using Tree.ind with | h t ih => ?_
  have key : ∀ (l : List Tree), (∀ u ∈ l, u ∈ t.kids) → ∀ o : List Tree, (o.Nodup → (Tree.subss l o).Nodup) ∧ (∀ x ∈ o, x ∈ Tree.subss l o) ∧ (∀ u ∈ l, u ∈ Tree.subss l o) ∧ (Tree.subss l o).length ≤ o.length + (l.map fun u => u.sz + 1).sum ∧ (∀ x ∈ Tree.subss l o, x ∈ o ∨ ∃ u ∈ l, x.sz ≤ u.sz) ∧ ((∀ x ∈ o, ∀ u ∈ x.kids, u ∈ o) → ∀ x ∈ Tree.subss l o, ∀ u ∈ x.kids, u ∈ Tree.subss l o) := by
    intro l
    induction l with
    | nil => intro _ o; simp [Tree.subss]
    | cons u l ihl =>
      intro hl o
      obtain ⟨a1, a2, a3, a4, a5, a6⟩ := ih u (hl u (by simp)) o
      obtain ⟨b1, b2, b3, b4, b5, b6⟩ := ihl (fun x hx => hl x (List.mem_cons_of_mem _ hx)) (u.subs o)
      rw [Tree.subss]
      refine ⟨fun h => b1 (a1 h), fun x hx => b2 x (a2 x hx), fun x hx => ?_, ?_, fun x hx => ?_, fun h => b6 (a6 h)⟩
      · rcases List.mem_cons.1 hx with rfl | hx
        · exact b2 _ a3
        · exact b3 x hx
      · simp only [List.map_cons, List.sum_cons]; omega
      · rcases b5 x hx with h | ⟨y, hy, h⟩
        · rcases a5 x h with h | h
          · exact .inl h
          · exact .inr ⟨u, by simp, h⟩
        · exact .inr ⟨y, List.mem_cons_of_mem _ hy, h⟩
  intro o
  obtain ⟨b1, b2, b3, b4, b5, b6⟩ := key t.kids (fun _ h => h) o
  rw [Tree.subs_eq]
  have hsz := Tree.sz_eq t
  have hsum : (t.kids.map fun u => u.sz + 1).sum = t.kids.length + (t.kids.map Tree.sz).sum := by
    generalize t.kids = l
    induction l with
    | nil => rfl
    | cons a l ih => simp only [List.map_cons, List.sum_cons, List.length_cons, ih]; omega
  refine ⟨fun h => addT_nodup (b1 h), fun x hx => addT_mem.2 (.inl (b2 x hx)), addT_mem.2 (.inr rfl), ?_, fun x hx => ?_, fun h x hx u hu => addT_mem.2 (.inl ?_)⟩
  · have := addT_len (Tree.subss t.kids o) t
    omega
  · rcases addT_mem.1 hx with h | rfl
    · rcases b5 x h with h | ⟨u, hu, h⟩
      · exact .inl h
      · have := le_sum Tree.sz hu
        exact .inr (by omega)
    · exact .inr (Nat.le_refl _)
  · rcases addT_mem.1 hx with h2 | rfl
    · exact b6 h x h2 u hu
    · exact b3 u hu
def basicB (t : Tree) : Bool := decide (t.kind = 2 ∨ t.kind = 6 ∨ t.kind = 7 ∨ t.kind = 8)
/-- the basic formulas of a normal form -/
noncomputable def bscL (t : Tree) : List Tree := (t.subs []).filter basicB
/-- does a formula have few enough basic formulas? -/
noncomputable def bscB (t : Tree) : Bool := decide ((t.fmB = true ∧ (t.nrm false).fmB = true) ∧ (bscL (t.nrm false)).length ≤ 5)
end Go.Gl

/- Linear time: what a word satisfies; normal forms keep it. -/
namespace Go.Gl

def semOp (w : Nat → Int) (k v : Int) (ks : List (Nat → Prop)) (i : Nat) : Prop :=
  if k = 2 then hasB (w i) v = true
  else if k = 3 then ¬ (ks.getD 0 fun _ => False) i
  else if k = 4 then (ks.getD 0 fun _ => False) i ∧ (ks.getD 1 fun _ => False) i
  else if k = 5 then (ks.getD 0 fun _ => False) i ∨ (ks.getD 1 fun _ => False) i
  else if k = 6 then (ks.getD 0 fun _ => False) (i + 1)
  else if k = 7 then ∃ j, i ≤ j ∧ (ks.getD 1 fun _ => False) j ∧ ∀ m, i ≤ m → m < j → (ks.getD 0 fun _ => False) m
  else if k = 8 then ∀ j, i ≤ j → (ks.getD 1 fun _ => False) j ∨ ∃ m, i ≤ m ∧ m < j ∧ (ks.getD 0 fun _ => False) m
  else if k = 9 then ∃ j, i ≤ j ∧ (ks.getD 0 fun _ => False) j
  else if k = 10 then ∀ j, i ≤ j → (ks.getD 0 fun _ => False) j
  else True
mutual
/-- the word satisfies the formula from position i on -/
def Tree.sem (w : Nat → Int) (t : Tree) : Nat → Prop := match t with
  | .mk k v l => semOp w k v (Tree.sems w l)
def Tree.sems (w : Nat → Int) (l : List Tree) : List (Nat → Prop) := match l with
  | [] => []
  | t :: r => Tree.sem w t :: Tree.sems w r
end
section
variable (w : Nat → Int)
end

/-! assignments -/
mutual
/-- the value of a formula in normal form, given the values of the basic ones -/
def Tree.vl (σ : Tree → Bool) (t : Tree) : Bool := match t with
  | .mk k v l => if k = 1 then true else if k = 3 then !((Tree.vls σ l).getD 0 false) else if k = 4 then (Tree.vls σ l).getD 0 false && (Tree.vls σ l).getD 1 false else if k = 5 then (Tree.vls σ l).getD 0 false || (Tree.vls σ l).getD 1 false else σ (.mk k v l)
def Tree.vls (σ : Tree → Bool) (l : List Tree) : List Bool := match l with
  | [] => []
  | t :: r => Tree.vl σ t :: Tree.vls σ r
end
/-- negation stands before atoms and truth only -/
inductive NF : Tree → Prop
  | tr : NF (.mk 1 0 [])
  | at (v : Int) : NF (.mk 2 v [])
  | nt : NF (.mk 3 0 [.mk 1 0 []])
  | na (v : Int) : NF (.mk 3 0 [.mk 2 v []])
  | an {a b : Tree} : NF a → NF b → NF (.mk 4 0 [a, b])
  | or {a b : Tree} : NF a → NF b → NF (.mk 5 0 [a, b])
  | nx {a : Tree} : NF a → NF (.mk 6 0 [a])
  | un {a b : Tree} : NF a → NF b → NF (.mk 7 0 [a, b])
  | re {a b : Tree} : NF a → NF b → NF (.mk 8 0 [a, b])
theorem nrm_NF (t : Tree) : t.goodF → ∀ neg, NF (t.nrm neg) := by
  induction t using Tree.ind with | h t ih => ?_
  intro hg neg
  cases Tree.formF hg with
  | tr => rw [nrm_tr]; cases neg; exact .tr; exact .nt
  | «at» v _ _ => rw [nrm_at]; cases neg; exact .at v; exact .na v
  | un k a hk ha =>
    have h1 := ih a (by simp [Tree.kids]) ha
    rcases hk with rfl | rfl | rfl | rfl
    · rw [nrm_not]; exact h1 _
    · rw [nrm_next]; exact .nx (h1 _)
    · rw [nrm_ev]; cases neg; exact .un .tr (h1 _); exact .re .nt (h1 _)
    · rw [nrm_al]; cases neg; exact .re .nt (h1 _); exact .un .tr (h1 _)
  | bin k a b hk ha hb =>
    have h1 := ih a (by simp [Tree.kids]) ha neg
    have h2 := ih b (by simp [Tree.kids]) hb neg
    rw [nrm_bin _ _ _ _ _ hk]
    rcases hk with rfl | rfl | rfl | rfl <;> cases neg <;> first | exact .an h1 h2 | exact .or h1 h2 | exact .un h1 h2 | exact .re h1 h2
section
variable {σ : Tree → Bool}
theorem vl_tr : (Tree.mk 1 0 []).vl σ = true := by simp [Tree.vl]
theorem vl_not (v : Int) (a : Tree) : (Tree.mk 3 v [a]).vl σ = !a.vl σ := by simp [Tree.vl, Tree.vls]
theorem vl_and (v : Int) (a b : Tree) : (Tree.mk 4 v [a, b]).vl σ = (a.vl σ && b.vl σ) := by simp [Tree.vl, Tree.vls]
theorem vl_or (v : Int) (a b : Tree) : (Tree.mk 5 v [a, b]).vl σ = (a.vl σ || b.vl σ) := by simp [Tree.vl, Tree.vls]
theorem vl_at (v : Int) : (Tree.mk 2 v []).vl σ = σ (.mk 2 v []) := by simp [Tree.vl]
theorem vl_nx (v : Int) (l : List Tree) : (Tree.mk 6 v l).vl σ = σ (.mk 6 v l) := by simp [Tree.vl]
theorem vl_un (v : Int) (l : List Tree) : (Tree.mk 7 v l).vl σ = σ (.mk 7 v l) := by simp [Tree.vl]
theorem vl_re (v : Int) (l : List Tree) : (Tree.mk 8 v l).vl σ = σ (.mk 8 v l) := by simp [Tree.vl]
end
/-- the basic subformulas are in the list -/
inductive In (B : Tree → Prop) : Tree → Prop
  | tr : In B (.mk 1 0 [])
  | at (v : Int) : B (.mk 2 v []) → In B (.mk 2 v [])
  | nt : In B (.mk 3 0 [.mk 1 0 []])
  | na (v : Int) : B (.mk 2 v []) → In B (.mk 3 0 [.mk 2 v []])
  | an {a b : Tree} : In B a → In B b → In B (.mk 4 0 [a, b])
  | or {a b : Tree} : In B a → In B b → In B (.mk 5 0 [a, b])
  | nx {a : Tree} : B (.mk 6 0 [a]) → In B a → In B (.mk 6 0 [a])
  | un {a b : Tree} : B (.mk 7 0 [a, b]) → In B a → In B b → In B (.mk 7 0 [a, b])
  | re {a b : Tree} : B (.mk 8 0 [a, b]) → In B a → In B b → In B (.mk 8 0 [a, b])
end Go.Gl

/- The automaton of the assignments, as the reference makes it. -/
namespace Go.Gl

/-- the place of a formula -/
noncomputable def plc (B : List Tree) (t : Tree) : Int := match B.findIdx? (fun x => decide (x = t)) with
  | some i => i
  | none => -1
/-- an assignment by its number -/
noncomputable def sgB (B : List Tree) (s : Int) (t : Tree) : Bool := hasB s (plc B t)
theorem plc_mem {B : List Tree} {t : Tree} (h : t ∈ B) : 0 ≤ plc B t ∧ plc B t < B.length := by
  unfold plc
  split
  · rename_i i e
    obtain ⟨h1, _, _⟩ := List.findIdx?_eq_some_iff_getElem.1 e
    omega
  · rename_i e
    have := List.findIdx?_eq_none_iff.1 e t h
    simp at this
noncomputable def vlB (B : List Tree) (s : Int) (t : Tree) : Bool := t.vl (sgB B s)
noncomputable def kidV (B : List Tree) (s : Int) (t : Tree) (j : Nat) : Bool := vlB B s (t.kids.getD j dftT)
/-- may t follow s, as far as the formula f goes? -/
noncomputable def folV (B : List Tree) (s t : Int) (f : Tree) (now next : Bool) : Bool :=
  if f.kind = 6 then kidV B t f 0
  else if f.kind = 7 then kidV B s f 1 || (kidV B s f 0 && next)
  else if f.kind = 8 then kidV B s f 1 && (kidV B s f 0 || next)
  else now
noncomputable def folI (B : List Tree) (s t : Int) (i : Nat) : Bool := folV B s t (B.getD i dftT) (hasB s i) (hasB t i) == hasB s i
noncomputable def folB (B : List Tree) (s t : Int) : Bool := (List.range B.length).all fun i => folI B s t i
/-- the atoms, and those that hold -/
noncomputable def atoI (B : List Tree) (s : Int) (p : Nat × Nat) (i : Nat) : Nat × Nat := if (B.getD i dftT).kind = 2 then (p.1 ||| 2 ^ (B.getD i dftT).val.toNat, if hasB s i = true then p.2 ||| 2 ^ (B.getD i dftT).val.toNat else p.2) else p
noncomputable def letB (B : List Tree) (s : Int) : Nat × Nat := (List.range B.length).foldl (atoI B s) (0, 0)
noncomputable def untB (B : List Tree) : List Int := ((List.range B.length).filter fun i => decide ((B.getD i dftT).kind = 7)).map Int.ofNat
noncomputable def fulB (B : List Tree) (s : Int) (u : Int) : Bool := !hasB s u || kidV B s (B.getD u.toNat dftT) 1
noncomputable def phB (B : List Tree) (U : List Int) (s ph : Int) : Int × Bool :=
  if U.length = 0 then (0, true) else if fulB B s (U.getD ph.toNat 0) = true then ((ph + 1) % (U.length : Int), decide (ph = 0)) else (ph, false)
/-- a pair's place, the pair put in if it is not there -/
noncomputable def pairL (L : List (List Int)) (p : List Int) : List (List Int) := if p ∈ L then L else L ++ [p]
noncomputable def pairI (L : List (List Int)) (p : List Int) : Nat := L.idxOf p
structure Edg where
  src : Int
  care : Int
  val : Int
  dst : Int
structure TrS where
  L : List (List Int)
  acc : List Bool
  ed : List Edg
noncomputable def edgeS (B : List Tree) (s ph : Int) (i : Nat) (c v : Int) (x : List (List Int) × List Edg) (t : Nat) : List (List Int) × List Edg :=
  if folB B s t = true then (pairL x.1 [(t : Int), ph], x.2 ++ [⟨i, c, v, pairI x.1 [(t : Int), ph]⟩]) else x
noncomputable def roundS (B : List Tree) (U : List Int) (i : Nat) (x : TrS) : TrS :=
  let s := (x.L.getD i []).getD 0 0
  let q := phB B U s ((x.L.getD i []).getD 1 0)
  let c := letB B s
  let y := (List.range (2 ^ B.length)).foldl (edgeS B s q.1 i c.1 c.2) (x.L, x.ed)
  ⟨y.1, x.acc ++ [q.2], y.2⟩
noncomputable def goS (B : List Tree) (U : List Int) : Nat → Nat → TrS → Option TrS
  | 0, _, _ => none
  | f + 1, i, x => if i < x.L.length then (if 64 < x.L.length then none else goS B U f (i + 1) (roundS B U i x)) else some x
noncomputable def iniS (B : List Tree) (g : Tree) : List (List Int) := ((List.range (2 ^ B.length)).filter fun s => vlB B (s : Nat) g).map fun s : Nat => [(s : Int), 0]
end Go.Gl

/- The basic formulas of a normal form are closed; the reference's automaton. -/
namespace Go.Gl
theorem subs_all {p : Tree → Prop} (hk : ∀ x, p x → ∀ u ∈ x.kids, p u) : ∀ t : Tree, ∀ o : List Tree, p t → (∀ x ∈ o, p x) → ∀ x ∈ t.subs o, p x := by
  intro t
  induction t using Tree.ind with | h t ih => ?_
  have key : ∀ (l : List Tree), (∀ u ∈ l, u ∈ t.kids) → ∀ o : List Tree, (∀ u ∈ l, p u) → (∀ x ∈ o, p x) → ∀ x ∈ Tree.subss l o, p x := by
    intro l
    induction l with
    | nil => intro _ o _ ho; simpa [Tree.subss] using ho
    | cons u l ihl =>
      intro hl o hp ho
      rw [Tree.subss]
      exact ihl (fun x hx => hl x (List.mem_cons_of_mem _ hx)) _ (fun x hx => hp x (List.mem_cons_of_mem _ hx)) (ih u (hl u (by simp)) o (hp u (by simp)) ho)
  intro o ht ho x hx
  rw [Tree.subs_eq] at hx
  rcases addT_mem.1 hx with h | rfl
  · exact key t.kids (fun _ h => h) o (hk t ht) ho x h
  · exact ht
theorem NF.kids {t : Tree} (h : NF t) : ∀ u ∈ t.kids, NF u := by
  cases h with
  | tr => intro u hu; simp [Tree.kids] at hu
  | «at» v => intro u hu; simp [Tree.kids] at hu
  | nt => intro u hu; simp [Tree.kids] at hu; subst hu; exact .tr
  | na v => intro u hu; simp [Tree.kids] at hu; subst hu; exact .at v
  | an ha hb => intro u hu; simp [Tree.kids] at hu; rcases hu with rfl | rfl <;> assumption
  | or ha hb => intro u hu; simp [Tree.kids] at hu; rcases hu with rfl | rfl <;> assumption
  | nx ha => intro u hu; simp [Tree.kids] at hu; subst hu; assumption
  | un ha hb => intro u hu; simp [Tree.kids] at hu; rcases hu with rfl | rfl <;> assumption
  | re ha hb => intro u hu; simp [Tree.kids] at hu; rcases hu with rfl | rfl <;> assumption
theorem in_of {L : List Tree} (hcl : ∀ x ∈ L, ∀ u ∈ x.kids, u ∈ L) {t : Tree} (h : NF t) : t ∈ L → In (· ∈ L.filter basicB) t := by
  have bs : ∀ x, x ∈ L → basicB x = true → x ∈ L.filter basicB := fun x h1 h2 => List.mem_filter.2 ⟨h1, h2⟩
  induction h with
  | tr => intro _; exact .tr
  | «at» v => intro ht; exact .at v (bs _ ht (by simp [basicB, Tree.kind]))
  | nt => intro _; exact .nt
  | na v => intro ht; exact .na v (bs _ (hcl _ ht _ (by simp [Tree.kids])) (by simp [basicB, Tree.kind]))
  | an _ _ iha ihb => intro ht; exact .an (iha (hcl _ ht _ (by simp [Tree.kids]))) (ihb (hcl _ ht _ (by simp [Tree.kids])))
  | or _ _ iha ihb => intro ht; exact .or (iha (hcl _ ht _ (by simp [Tree.kids]))) (ihb (hcl _ ht _ (by simp [Tree.kids])))
  | nx _ iha => intro ht; exact .nx (bs _ ht (by simp [basicB, Tree.kind])) (iha (hcl _ ht _ (by simp [Tree.kids])))
  | un _ _ iha ihb => intro ht; exact .un (bs _ ht (by simp [basicB, Tree.kind])) (iha (hcl _ ht _ (by simp [Tree.kids]))) (ihb (hcl _ ht _ (by simp [Tree.kids])))
  | re _ _ iha ihb => intro ht; exact .re (bs _ ht (by simp [basicB, Tree.kind])) (iha (hcl _ ht _ (by simp [Tree.kids]))) (ihb (hcl _ ht _ (by simp [Tree.kids])))
theorem bscL_facts {u : Tree} (hg : u.goodF) (hn : NF u) : (bscL u).Nodup ∧ (∀ x ∈ bscL u, x.sz ≤ u.sz) ∧ (∀ x ∈ bscL u, In (· ∈ bscL u) x) ∧ (∀ x ∈ bscL u, basicB x = true) ∧ (∀ v, Tree.mk 2 v [] ∈ bscL u → 0 ≤ v ∧ v ≤ 2) ∧ In (· ∈ bscL u) u := by
  obtain ⟨h1, _, h3, _, h5, h6⟩ := subs_props u []
  have hcl := h6 (by simp)
  have hall := subs_all (p := fun x => NF x ∧ x.goodF) (fun x hx v hv => ⟨hx.1.kids v hv, (Tree.goodF_iff hx.2).2.2.2 v hv⟩) u [] ⟨hn, hg⟩ (by simp)
  unfold bscL
  generalize u.subs [] = L at *
  refine ⟨(h1 List.nodup_nil).filter _, fun x hx => ?_, fun x hx => ?_, fun x hx => (List.mem_filter.1 hx).2, fun v hv => ?_, in_of hcl hn h3⟩
  · rcases h5 x (List.mem_filter.1 hx).1 with h | h
    · simp at h
    · exact h
  · have hx := (List.mem_filter.1 hx).1
    exact in_of hcl (hall x hx).1 hx
  · have hx := (List.mem_filter.1 hv).1
    obtain ⟨_, a, b, _⟩ := Tree.goodF_iff (hall _ hx).2
    simp [Tree.val, Tree.kind, mostF] at a b
    exact ⟨a, b⟩
theorem iniS_len (B : List Tree) (g : Tree) : (iniS B g).length ≤ 2 ^ B.length := by
  unfold iniS
  rw [List.length_map]
  have := List.length_filter_le (fun s => vlB B (s : Nat) g) (List.range (2 ^ B.length))
  simpa using this
/-- a row of the automaton's states -/
def RowS (n : Nat) (U : List Int) (r : List Int) : Prop := ∃ (s ph : Nat), r = [(s : Int), (ph : Int)] ∧ s < 2 ^ n ∧ (U.length = 0 ∨ ph < U.length)
def numI (n : Nat) : List Int := (List.range n).map Int.ofNat
theorem numI_succ (n : Nat) : numI (n + 1) = numI n ++ [(n : Int)] := by
  unfold numI; rw [List.range_succ, List.map_append]; rfl
theorem numI_len (n : Nat) : (numI n).length = n := by simp [numI]
def iniK (B : List Tree) (V : Nat → Bool) (k : Nat) : List (List Int) := ((List.range k).filter V).map fun s : Nat => [(s : Int), 0]
theorem iniK_succ (B : List Tree) (V : Nat → Bool) (k : Nat) : iniK B V (k + 1) = iniK B V k ++ (if V k = true then [[(k : Int), 0]] else []) := by
  unfold iniK
  rw [List.range_succ, List.filter_append, List.map_append]
  congr 1
  by_cases h : V k = true
  · rw [if_pos h, List.filter_cons_of_pos h]; rfl
  · rw [if_neg h, List.filter_cons_of_neg h]; rfl
theorem iniK_len (B : List Tree) (V : Nat → Bool) (k : Nat) : (iniK B V k).length ≤ k := by
  unfold iniK
  rw [List.length_map]
  have := List.length_filter_le V (List.range k)
  simpa using this
theorem iniK_row (B : List Tree) (V : Nat → Bool) (k n : Nat) (U : List Int) (hk : k ≤ 2 ^ n) : ∀ r ∈ iniK B V k, RowS n U r := by
  intro r hr
  unfold iniK at hr
  obtain ⟨s, hs, rfl⟩ := List.mem_map.1 hr
  have := List.mem_range.1 (List.mem_filter.1 hs).1
  exact ⟨s, 0, rfl, by omega, by omega⟩
noncomputable def trS (B : List Tree) (g : Tree) : Option TrS := goS B (untB B) 65 0 ⟨iniS B g, [], []⟩
theorem phB_row {B : List Tree} {U : List Int} {s ph : Nat} (h : U.length = 0 ∨ ph < U.length) : ∃ q : Nat, (phB B U s ph).1 = q ∧ (U.length = 0 ∨ q < U.length) := by
  unfold phB
  by_cases h0 : U.length = 0
  · rw [if_pos h0]; exact ⟨0, rfl, .inl h0⟩
  · rw [if_neg h0]
    split
    · refine ⟨(ph + 1) % U.length, by simp, .inr (Nat.mod_lt _ (by omega))⟩
    · exact ⟨ph, rfl, h⟩
end Go.Gl

/- Bounds of the reference automaton. -/
namespace Go.Gl
theorem edge_len (B : List Tree) (s ph : Int) (i : Nat) (c v : Int) : ∀ (l : List Nat) (x : List (List Int) × List Edg), (l.foldl (edgeS B s ph i c v) x).2.length ≤ x.2.length + l.length
  | [], x => by simp
  | t :: l, x => by
    rw [List.foldl_cons, List.length_cons]
    have h := edge_len B s ph i c v l (edgeS B s ph i c v x t)
    have : (edgeS B s ph i c v x t).2.length ≤ x.2.length + 1 := by
      unfold edgeS
      split
      · simp
      · omega
    omega
theorem goS_len (B : List Tree) (U : List Int) : ∀ (f i : Nat) (x y : TrS), goS B U f i x = some y → y.acc.length ≤ x.acc.length + f ∧ y.ed.length ≤ x.ed.length + f * 2 ^ B.length
  | 0, i, x, y, h => by simp [goS] at h
  | f + 1, i, x, y, h => by
    rw [goS] at h
    split at h
    · split at h
      · cases h
      · have h1 := goS_len B U f (i + 1) (roundS B U i x) y h
        have h2 : (roundS B U i x).acc.length = x.acc.length + 1 := by simp [roundS]
        have h3 : (roundS B U i x).ed.length ≤ x.ed.length + 2 ^ B.length := by
          have := edge_len B ((x.L.getD i []).getD 0 0) (phB B U ((x.L.getD i []).getD 0 0) ((x.L.getD i []).getD 1 0)).1 i (letB B ((x.L.getD i []).getD 0 0)).1 (letB B ((x.L.getD i []).getD 0 0)).2 (List.range (2 ^ B.length)) (x.L, x.ed)
          rw [List.length_range] at this
          exact this
        rw [Nat.add_mul]
        omega
    · cases h
      rw [Nat.add_mul]
      omega
end Go.Gl

/- Breadth first search with predecessors; the way back. -/
namespace Go.Gl
def visP (u : Int) (x : List Int × List Int) (v : Int) : List Int × List Int := if v ∈ x.1 then x else (x.1 ++ [v], x.2.set v.toNat u)
def visPs (u : Int) (x : List Int × List Int) (l : List Int) : List Int × List Int := l.foldl (visP u) x
theorem visP_new {u : Int} {x : List Int × List Int} {v : Int} (h : v ∉ x.1) : visP u x v = (x.1 ++ [v], x.2.set v.toNat u) := by unfold visP; rw [if_neg h]
theorem visP_old {u : Int} {x : List Int × List Int} {v : Int} (h : v ∈ x.1) : visP u x v = x := by unfold visP; rw [if_pos h]
theorem visPs_take {u : Int} {x : List Int × List Int} {l : List Int} {k : Nat} (h : k < l.length) : visPs u x (l.take (k + 1)) = visP u (visPs u x (l.take k)) l[k] := by
  unfold visPs
  rw [List.take_succ_eq_append_getElem h, List.foldl_append]; rfl
theorem visP_fst (u : Int) (x : List Int × List Int) (v : Int) : (visP u x v).1 = visit x.1 v := by
  unfold visP visit; split <;> rfl
/-- predecessors stand before -/
structure PJ (N : Nat) (x : List Int × List Int) : Prop where
  len : x.2.length = N
  inn : InN N x.1
  nd : x.1.Nodup
  pre : ∀ k (h : k < x.1.length), x.2.getD (x.1[k]).toNat 0 = -1 ∨ ∃ j, ∃ h' : j < x.1.length, j < k ∧ x.2.getD (x.1[k]).toNat 0 = x.1[j]
theorem PJ.visP {N : Nat} {x : List Int × List Int} (h : PJ N x) {i : Nat} (hi : i < x.1.length) {u v : Int} (hu : u = x.1[i]) (hv : 0 ≤ v ∧ v < N) : PJ N (visP u x v) := by
  by_cases hm : v ∈ x.1
  · rw [visP_old hm]; exact h
  · rw [visP_new hm]
    refine ⟨by simp [h.len], fun y hy => ?_, ?_, fun k hk => ?_⟩
    · rcases List.mem_append.1 hy with h1 | h1
      · exact h.inn y h1
      · rw [List.mem_singleton.1 h1]; exact hv
    · rw [List.nodup_append]
      exact ⟨h.nd, by simp, fun a ha b hb => by rintro rfl; rw [List.mem_singleton.1 hb] at ha; exact hm ha⟩
    · have hk' : k < x.1.length + 1 := by simpa using hk
      have hl := h.len
      by_cases hkl : k < x.1.length
      · have e : (x.1 ++ [v])[k] = x.1[k] := List.getElem_append_left hkl
        dsimp only
        rw [e]
        have hne : v ≠ x.1[k] := fun e => hm (e ▸ List.getElem_mem hkl)
        have hin := h.inn _ (List.getElem_mem hkl)
        have e2 : (x.2.set v.toNat u).getD (x.1[k]).toNat 0 = x.2.getD (x.1[k]).toNat 0 := by
          rw [List.getD_eq_getElem?_getD, List.getElem?_set_ne (by omega), ← List.getD_eq_getElem?_getD]
        rw [e2]
        rcases h.pre k hkl with h1 | ⟨j, hj, h1, h2⟩
        · exact .inl h1
        · exact .inr ⟨j, by simp; omega, h1, by rw [h2, List.getElem_append_left hj]⟩
      · obtain rfl : k = x.1.length := by omega
        right
        refine ⟨i, by simp; omega, hi, ?_⟩
        dsimp only
        rw [List.getElem_append_left hi]
        simp only [List.getElem_append_right (Nat.le_refl _), Nat.sub_self, List.getElem_cons_zero]
        rw [z25 (by simp; omega), List.getElem_set_self, hu]
theorem PJ.visPs {N : Nat} {u : Int} (l : List Int) : ∀ {x : List Int × List Int} (_ : PJ N x) {i : Nat} (hi : i < x.1.length) (_ : u = x.1[i]) (_ : InN N l), PJ N (visPs u x l) ∧ ∃ h' : i < (Go.Gl.visPs u x l).1.length, (Go.Gl.visPs u x l).1[i] = u := by
  induction l with
  | nil => intro x h i hi hu hl; exact ⟨h, hi, hu.symm⟩
  | cons v l ih =>
    intro x h i hi hu hl
    have h1 := h.visP hi hu (hl v (by simp))
    obtain ⟨t, ht⟩ := visit_pre x.1 v
    have hf := visP_fst u x v
    rw [ht] at hf
    have hi1 : i < (Go.Gl.visP u x v).1.length := by rw [hf, List.length_append]; omega
    exact ih h1 hi1 (by simp only [hf, List.getElem_append_left hi]; exact hu) fun y hy => hl y (by simp [hy])
def srS (rows : List (List Int)) (ini : List Int) : Nat → List Int × List Int
  | 0 => (ini, List.replicate rows.length (-1))
  | i + 1 => if h : i < (srS rows ini i).1.length then visPs (srS rows ini i).1[i] (srS rows ini i) (rows.getD ((srS rows ini i).1[i]).toNat []) else srS rows ini i
def srQ (rows : List (List Int)) (ini : List Int) : List Int := (srS rows ini rows.length).1
def srP (rows : List (List Int)) (ini : List Int) : List Int := (srS rows ini rows.length).2
section
variable {rows : List (List Int)} {ini : List Int}
theorem srS_PJ (hr : ∀ r ∈ rows, InN rows.length r) (hi : InN rows.length ini) (hn : ini.Nodup) (i : Nat) : PJ rows.length (srS rows ini i) := by
  induction i with
  | zero =>
    refine ⟨by simp [srS], hi, hn, fun k hk => .inl ?_⟩
    have := hi _ (List.getElem_mem hk)
    show (List.replicate rows.length (-1)).getD _ 0 = _
    rw [z25 (by simp; have : (srS rows ini 0).1[k] = ini[k] := rfl; omega)]
    simp
  | succ i ih =>
    rw [srS]; split
    · rename_i h
      exact (PJ.visPs _ ih h rfl (row_in hr _)).1
    · exact ih
theorem srS_const {i j : Nat} (h : (srS rows ini i).1.length ≤ i) (hij : i ≤ j) : srS rows ini j = srS rows ini i := by
  induction j with
  | zero => obtain rfl : i = 0 := by omega
            rfl
  | succ j ih =>
    rcases Nat.lt_or_ge j i with h1 | h1
    · obtain rfl : i = j + 1 := by omega
      rfl
    · have e := ih h1
      rw [srS, dif_neg (by rw [e]; omega), e]
theorem srS_len (hr : ∀ r ∈ rows, InN rows.length r) (hi : InN rows.length ini) (hn : ini.Nodup) (i : Nat) : (srS rows ini i).1.length ≤ rows.length :=
  pigeon _ _ (srS_PJ hr hi hn i).nd (srS_PJ hr hi hn i).inn
theorem srS_end {i : Nat} (h : (srS rows ini i).1.length ≤ i) (hil : i ≤ rows.length) : srS rows ini i = (srQ rows ini, srP rows ini) := (srS_const h hil).symm
end
/-- the way back -/
def bkw (P : List Int) : Nat → Int → List Int → List Int
  | 0, v, tl => v :: tl
  | f + 1, v, tl => if 0 ≤ P.getD v.toNat 0 then bkw P f (P.getD v.toNat 0) (v :: tl) else v :: tl
def BackOk (P : List Int) : Nat → Int → Prop
  | 0, v => (0 ≤ v ∧ v < P.length) ∧ P.getD v.toNat 0 < 0
  | f + 1, v => (0 ≤ v ∧ v < P.length) ∧ (P.getD v.toNat 0 < 0 ∨ BackOk P f (P.getD v.toNat 0))
theorem BackOk.up {P : List Int} : ∀ {f : Nat} {v : Int}, BackOk P f v → BackOk P (f + 1) v
  | 0, _, h => ⟨h.1, .inl h.2⟩
  | _ + 1, _, h => ⟨h.1, h.2.imp id fun h => h.up⟩
theorem BackOk.le {P : List Int} {f g : Nat} {v : Int} (h : BackOk P f v) (hg : f ≤ g) : BackOk P g v := by
  induction g with
  | zero => obtain rfl : f = 0 := by omega
            exact h
  | succ g ih =>
    rcases Nat.lt_or_ge g f with h1 | h1
    · obtain rfl : f = g + 1 := by omega
      exact h
    · exact (ih h1).up
theorem PJ.back {N : Nat} {x : List Int × List Int} (h : PJ N x) : ∀ (k : Nat) (hk : k < x.1.length), BackOk x.2 k x.1[k] := by
  intro k
  induction k using Nat.strongRecOn with
  | ind k ih =>
    intro hk
    have hin := h.inn _ (List.getElem_mem hk)
    rw [← h.len] at hin
    rcases h.pre k hk with h1 | ⟨j, hj, h1, h2⟩
    · exact (show BackOk x.2 0 x.1[k] from ⟨hin, by omega⟩).le (Nat.zero_le _)
    · have h3 := (ih j h1 hj).le (show j ≤ k - 1 by omega)
      rw [← h2] at h3
      generalize x.1[k] = v at *
      obtain ⟨m, rfl⟩ : ∃ m, k = m + 1 := ⟨k - 1, by omega⟩
      exact ⟨hin, .inr h3⟩
theorem bkw_len (P : List Int) : ∀ (f : Nat) (v : Int) (tl : List Int), (bkw P f v tl).length ≤ f + 1 + tl.length
  | 0, v, tl => by rw [bkw, List.length_cons]; omega
  | f + 1, v, tl => by
    rw [bkw]; split
    · have := bkw_len P f (P.getD v.toNat 0) (v :: tl)
      simp only [List.length_cons] at this
      omega
    · rw [List.length_cons]; omega
end Go.Gl

/- Cycles and accepted traces, as the document finds them. -/
namespace Go.Gl
def cycT (rows : List (List Int)) (P : List Int) (v : Int) : List Int → List Int
  | [] => []
  | u :: t => if v ∈ rows.getD u.toNat [] then bkw P rows.length u [] else cycT rows P v t
def cycL (rows : List (List Int)) (v : Int) : List Int := if v ∈ rows.getD v.toNat [] then [v] else cycT rows (srP rows [v]) v (srQ rows [v])
def finT (rows : List (List Int)) (acc : List Bool) (P : List Int) : List Int → Option (List Int × List Int)
  | [] => none
  | u :: t => if acc.getD (u % acc.length).toNat false = true then (if 0 < (cycL rows u).length then some (bkw P rows.length u [], cycL rows u) else finT rows acc P t) else finT rows acc P t
def stL (l : List Int) (n : Nat) : List Int := l.map fun x => x / n
def finS (rows : List (List Int)) (ini : List Int) (acc : List Bool) : Option (List Int × List Int) := finT rows acc (srP rows ini) (srQ rows ini)
theorem cycT_len (rows : List (List Int)) (P : List Int) (v : Int) : ∀ l, (cycT rows P v l).length ≤ rows.length + 1
  | [] => Nat.zero_le _
  | u :: t => by
    rw [cycT]; split
    · exact bkw_len _ _ _ _
    · exact cycT_len rows P v t
theorem cycL_len (rows : List (List Int)) (v : Int) : (cycL rows v).length ≤ rows.length + 1 := by
  unfold cycL; split
  · simp
  · exact cycT_len _ _ _ _
theorem bkw_pos (P : List Int) : ∀ (f : Nat) (v : Int) (tl : List Int), 1 ≤ (bkw P f v tl).length
  | 0, v, tl => by rw [bkw, List.length_cons]; omega
  | f + 1, v, tl => by
    rw [bkw]; split
    · exact bkw_pos P f _ _
    · rw [List.length_cons]; omega
theorem bkw_nn {P : List Int} : ∀ (f : Nat) (v : Int) (tl : List Int), 0 ≤ v → (∀ x ∈ tl, 0 ≤ x) → ∀ x ∈ bkw P f v tl, 0 ≤ x
  | 0, v, tl, h0, h, x, hx => by
    rw [bkw] at hx
    rcases List.mem_cons.1 hx with rfl | h1
    · exact h0
    · exact h x h1
  | f + 1, v, tl, h0, h, x, hx => by
    rw [bkw] at hx
    split at hx
    · rename_i h2
      exact bkw_nn f _ _ h2 (fun y hy => by
        rcases List.mem_cons.1 hy with rfl | h1
        · exact h0
        · exact h y h1) x hx
    · rcases List.mem_cons.1 hx with rfl | h1
      · exact h0
      · exact h x h1
theorem cycT_nn (rows : List (List Int)) (P : List Int) (v : Int) : ∀ l : List Int, (∀ x ∈ l, 0 ≤ x) → ∀ x ∈ cycT rows P v l, 0 ≤ x
  | [], _, x, hx => by cases hx
  | u :: t, h, x, hx => by
    rw [cycT] at hx
    split at hx
    · exact bkw_nn _ _ _ (h u (by simp)) (fun y hy => by cases hy) x hx
    · exact cycT_nn rows P v t (fun y hy => h y (by simp [hy])) x hx
theorem srQ_in {rows : List (List Int)} {ini : List Int} (hr : ∀ r ∈ rows, InN rows.length r) (hi : InN rows.length ini) (hn : ini.Nodup) : InN rows.length (srQ rows ini) := (srS_PJ hr hi hn _).inn
theorem srP_len {rows : List (List Int)} {ini : List Int} (hr : ∀ r ∈ rows, InN rows.length r) (hi : InN rows.length ini) (hn : ini.Nodup) : (srP rows ini).length = rows.length := (srS_PJ hr hi hn _).len
theorem srQ_len {rows : List (List Int)} {ini : List Int} (hr : ∀ r ∈ rows, InN rows.length r) (hi : InN rows.length ini) (hn : ini.Nodup) : (srQ rows ini).length ≤ rows.length := srS_len hr hi hn _
theorem srQ_back {rows : List (List Int)} {ini : List Int} (hr : ∀ r ∈ rows, InN rows.length r) (hi : InN rows.length ini) (hn : ini.Nodup) (k : Nat) (hk : k < (srQ rows ini).length) : BackOk (srP rows ini) rows.length (srQ rows ini)[k] :=
  ((srS_PJ hr hi hn rows.length).back k hk).le (by have := srQ_len hr hi hn; omega)
theorem one_in {N : Nat} {v : Int} (h : 0 ≤ v ∧ v < N) : InN N [v] := fun x hx => by rw [List.mem_singleton.1 hx]; exact h
theorem cycL_nn {rows : List (List Int)} (hr : ∀ r ∈ rows, InN rows.length r) {v : Int} (hv : 0 ≤ v ∧ v < rows.length) : ∀ x ∈ cycL rows v, 0 ≤ x := by
  unfold cycL; split
  · intro x hx; rw [List.mem_singleton.1 hx]; exact hv.1
  · exact cycT_nn _ _ _ _ fun x hx => (srQ_in hr (one_in hv) (by simp) x hx).1
theorem visPs_le {M u : Int} (hu : u ≤ M) : ∀ (l : List Int) (x : List Int × List Int), (∀ y ∈ x.2, y ≤ M) → ∀ y ∈ (visPs u x l).2, y ≤ M
  | [], _, h => h
  | v :: l, x, h => by
    refine visPs_le hu l (visP u x v) fun y hy => ?_
    unfold visP at hy
    split at hy
    · exact h y hy
    · rcases List.mem_or_eq_of_mem_set hy with h1 | rfl
      · exact h y h1
      · exact hu
theorem srS_le {rows : List (List Int)} {ini : List Int} (hr : ∀ r ∈ rows, InN rows.length r) (hi : InN rows.length ini) (hn : ini.Nodup) (i : Nat) : ∀ y ∈ (srS rows ini i).2, y ≤ rows.length := by
  induction i with
  | zero =>
    intro y hy
    have := List.eq_of_mem_replicate (show y ∈ List.replicate rows.length (-1) from hy)
    omega
  | succ i ih =>
    rw [srS]; split
    · rename_i h
      have := (srS_PJ hr hi hn i).inn _ (List.getElem_mem h)
      exact visPs_le (by omega) _ _ ih
    · exact ih
theorem bkw_le {P : List Int} {M : Int} (hP : ∀ x ∈ P, x ≤ M) : ∀ (f : Nat) (v : Int) (tl : List Int), v ≤ M → 0 ≤ M → (∀ x ∈ tl, x ≤ M) → ∀ x ∈ bkw P f v tl, x ≤ M
  | 0, v, tl, h0, _, h, x, hx => by
    rw [bkw] at hx
    rcases List.mem_cons.1 hx with rfl | h1
    · exact h0
    · exact h x h1
  | f + 1, v, tl, h0, hM, h, x, hx => by
    have h2 : ∀ y ∈ v :: tl, y ≤ M := fun y hy => by
      rcases List.mem_cons.1 hy with rfl | h1
      · exact h0
      · exact h y h1
    rw [bkw] at hx
    split at hx
    · refine bkw_le hP f _ _ ?_ hM h2 x hx
      by_cases hl : v.toNat < P.length
      · rw [z25 hl]; exact hP _ (List.getElem_mem _)
      · rw [List.getD_eq_getElem?_getD, List.getElem?_eq_none (by omega)]; exact hM
    · exact h2 x hx
theorem cycT_le (rows : List (List Int)) {P : List Int} {M : Int} (hP : ∀ x ∈ P, x ≤ M) (hM : 0 ≤ M) (v : Int) : ∀ l : List Int, (∀ x ∈ l, x ≤ M) → ∀ x ∈ cycT rows P v l, x ≤ M
  | [], _, x, hx => by cases hx
  | u :: t, h, x, hx => by
    rw [cycT] at hx
    split at hx
    · exact bkw_le hP _ _ _ (h u (by simp)) hM (fun y hy => by cases hy) x hx
    · exact cycT_le rows hP hM v t (fun y hy => h y (by simp [hy])) x hx
theorem cycL_le {rows : List (List Int)} (hr : ∀ r ∈ rows, InN rows.length r) {v : Int} (hv : 0 ≤ v ∧ v < rows.length) : ∀ x ∈ cycL rows v, x ≤ rows.length := by
  unfold cycL; split
  · intro x hx; rw [List.mem_singleton.1 hx]; omega
  · exact cycT_le _ (srS_le hr (one_in hv) (by simp) _) (by omega) _ _ fun x hx => by
      have := srQ_in hr (one_in hv) (by simp) x hx
      omega
end Go.Gl

/- The least ranks, as the document computes them. -/
namespace Go.Gl
def rkStep (R : List Int) (z : Bool) (o v : Int) : Int := if o < R.getD v.toNat 0 + (if z = true then 1 else 0) then R.getD v.toNat 0 + (if z = true then 1 else 0) else o
def rkOf (R : List Int) (z : Bool) (row : List Int) : Int := row.foldl (rkStep R z) 0
def Bd (M : Int) (R : List Int) : Prop := ∀ x ∈ R, -1 ≤ x ∧ x ≤ M
theorem Bd.getD {M : Int} {R : List Int} (h : Bd M R) (hM : 0 ≤ M) (i : Nat) : -1 ≤ R.getD i 0 ∧ R.getD i 0 ≤ M := by
  by_cases hl : i < R.length
  · rw [z25 hl]; exact h _ (List.getElem_mem _)
  · rw [List.getD_eq_getElem?_getD, List.getElem?_eq_none (by omega)]; exact ⟨by show -1 ≤ (0 : Int); omega, hM⟩
theorem Bd.mono {M M' : Int} {R : List Int} (h : Bd M R) (hM : M ≤ M') : Bd M' R := fun x hx => by have := h x hx; omega
theorem Bd.set {M : Int} {R : List Int} (h : Bd M R) {i : Nat} {v : Int} (hv : -1 ≤ v ∧ v ≤ M) : Bd M (R.set i v) := fun x hx => by
  rcases List.mem_or_eq_of_mem_set hx with h1 | rfl
  · exact h x h1
  · exact hv
theorem rkStep_le {M : Int} {R : List Int} (h : Bd M R) (hM : 0 ≤ M) {z : Bool} {o v : Int} (ho : 0 ≤ o ∧ o ≤ M + 1) : 0 ≤ rkStep R z o v ∧ rkStep R z o v ≤ M + 1 := by
  have := h.getD hM v.toNat
  unfold rkStep
  cases z
  · simp only [if_neg (show ¬ false = true by simp)]
    split <;> omega
  · simp only [if_pos]
    split <;> omega
theorem rkFold_le {M : Int} {R : List Int} (h : Bd M R) (hM : 0 ≤ M) {z : Bool} : ∀ (row : List Int) (o : Int), 0 ≤ o ∧ o ≤ M + 1 → 0 ≤ row.foldl (rkStep R z) o ∧ row.foldl (rkStep R z) o ≤ M + 1
  | [], _, ho => ho
  | v :: row, _, ho => rkFold_le h hM row _ (rkStep_le h hM ho)
theorem rkOf_le {M : Int} {R : List Int} (h : Bd M R) (hM : 0 ≤ M) (z : Bool) (row : List Int) : 0 ≤ rkOf R z row ∧ rkOf R z row ≤ M + 1 := rkFold_le h hM row 0 ⟨by omega, by omega⟩
def relax (rows : List (List Int)) (acc : List Bool) (x : List Int × Bool) (u : Int) : List Int × Bool :=
  if x.1.getD u.toNat 0 < rkOf x.1 (acc.getD (u % acc.length).toNat false) (rows.getD u.toNat []) then (x.1.set u.toNat (rkOf x.1 (acc.getD (u % acc.length).toNat false) (rows.getD u.toNat [])), true) else x
def passR (rows : List (List Int)) (acc : List Bool) (nodes R : List Int) : List Int × Bool := nodes.reverse.foldl (relax rows acc) (R, false)
def roundsR (rows : List (List Int)) (acc : List Bool) (nodes : List Int) : Nat → List Int → Bool → List Int
  | 0, R, _ => R
  | f + 1, R, c => if c = true then roundsR rows acc nodes f (passR rows acc nodes R).1 (passR rows acc nodes R).2 else R
def zeroR (N : Nat) (nodes : List Int) : List Int := nodes.foldl (fun R u => R.set u.toNat 0) (List.replicate N (-1))
def makeR (rows : List (List Int)) (ini : List Int) (acc : List Bool) : List Int := roundsR rows acc (bfsL rows ini) ((bfsL rows ini).length + 2) (zeroR rows.length (bfsL rows ini)) true
theorem zeroR_take {N : Nat} {nodes : List Int} {k : Nat} (h : k < nodes.length) : zeroR N (nodes.take (k + 1)) = (zeroR N (nodes.take k)).set nodes[k].toNat 0 := by
  unfold zeroR
  rw [List.take_succ_eq_append_getElem h, List.foldl_append]; rfl
theorem zeroR_len (N : Nat) (nodes : List Int) : (zeroR N nodes).length = N := by
  unfold zeroR
  have : ∀ (l R : List Int), (l.foldl (fun R u => R.set u.toNat 0) R).length = R.length := by
    intro l
    induction l with
    | nil => intro R; rfl
    | cons u l ih => intro R; rw [List.foldl_cons, ih]; simp
  rw [this]; simp
theorem zeroR_bd (N : Nat) (nodes : List Int) : Bd 0 (zeroR N nodes) := by
  unfold zeroR
  have : ∀ (l R : List Int), Bd 0 R → Bd 0 (l.foldl (fun R u => R.set u.toNat 0) R) := by
    intro l
    induction l with
    | nil => intro R h; exact h
    | cons u l ih => intro R h; rw [List.foldl_cons]; exact ih _ (h.set ⟨by omega, by omega⟩)
  refine this _ _ fun x hx => ?_
  have := List.eq_of_mem_replicate hx
  omega
theorem relax_bd {rows : List (List Int)} {acc : List Bool} {x : List Int × Bool} {u M : Int} (h : Bd M x.1) (hM : 0 ≤ M) : Bd (M + 1) (relax rows acc x u).1 := by
  unfold relax
  split
  · exact (h.mono (by omega)).set (by have := rkOf_le h hM (acc.getD (u % acc.length).toNat false) (rows.getD u.toNat []); omega)
  · exact h.mono (by omega)
theorem relax_len (rows : List (List Int)) (acc : List Bool) (x : List Int × Bool) (u : Int) : (relax rows acc x u).1.length = x.1.length := by
  unfold relax
  split
  · simp
  · rfl
theorem pass_bd {rows : List (List Int)} {acc : List Bool} : ∀ (l : List Int) (x : List Int × Bool) {M : Int}, Bd M x.1 → 0 ≤ M → Bd (M + l.length) (l.foldl (relax rows acc) x).1
  | [], x, M, h, _ => by simpa using h
  | u :: l, x, M, h, hM => by
    rw [List.foldl_cons]
    have := pass_bd (rows := rows) (acc := acc) l (relax rows acc x u) (relax_bd h hM) (by omega)
    rw [List.length_cons]
    exact this.mono (by omega)
theorem pass_len {rows : List (List Int)} {acc : List Bool} : ∀ (l : List Int) (x : List Int × Bool), (l.foldl (relax rows acc) x).1.length = x.1.length
  | [], _ => rfl
  | u :: l, x => by rw [List.foldl_cons, pass_len l, relax_len]
theorem rounds_len {rows : List (List Int)} {acc : List Bool} {nodes : List Int} : ∀ (f : Nat) (R : List Int) (c : Bool), (roundsR rows acc nodes f R c).length = R.length
  | 0, _, _ => rfl
  | f + 1, R, c => by
    rw [roundsR]; split
    · rw [rounds_len f]; exact pass_len _ _
    · rfl
theorem rounds_bd {rows : List (List Int)} {acc : List Bool} {nodes : List Int} : ∀ (f : Nat) (R : List Int) (c : Bool) {M : Int}, Bd M R → 0 ≤ M → nodes.length ≤ 4000 → Bd (M + 4000 * f) (roundsR rows acc nodes f R c)
  | 0, _, _, M, h, _, _ => by rw [roundsR]; exact h.mono (by omega)
  | f + 1, R, c, M, h, hM, hl => by
    rw [roundsR]; split
    · have h1 := pass_bd (rows := rows) (acc := acc) nodes.reverse (R, false) h hM
      rw [List.length_reverse] at h1
      have := rounds_bd (rows := rows) (acc := acc) (nodes := nodes) f _ (passR rows acc nodes R).2 (M := M + 4000) (h1.mono (by omega)) (by omega) hl
      exact this.mono (by omega)
    · exact h.mono (by omega)
theorem makeR_len (rows : List (List Int)) (ini : List Int) (acc : List Bool) : (makeR rows ini acc).length = rows.length := by unfold makeR; rw [rounds_len, zeroR_len]
end Go.Gl

