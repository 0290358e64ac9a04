/- A part of the proofs over this program: GlU, GlW, D1, D2, GlX, GlY, D3, GlZ, D4, D5, D6, GlZ1, GlAA, GlRS, D7, D8, D9, D10, D12, D13, GlRT, D14, D15, D16, GlV. -/
import Derived.Test.YtppafngcahgagaaGreatG0
import Derived.Test.YtppafngcahgagaaGreatG1
import Derived.Sort.Grow
import Derived.Lib.SlicesCompact
set_option linter.all false
/- Ghost logic, part U: a contract's answer, said in the statement's words. -/
namespace Go.Gl
open Go.RowKit Go.WideShapes Go.ChangeShapes
variable {P : Program}

theorem below_of {G' : Ghost} {W W' : World} {o : Nat → AObj} (hle : Le W W') (hs : (startG (hp W)).Sub G') (hw : Wf G' o W') : Below W.heap.size W W' where
  os := hle.os
  tape := hle.tape
  output := hle.output
  size := hle.size
  block k hk := by
    have h1 : (startG (hp W)).S k = some W.heap[k] := by show W.heap[k]? = _; rw [Array.getElem?_eq_getElem hk]
    rw [hw.hS k _ (hs.S k _ h1), Array.getElem?_eq_getElem hk]

theorem trodAll_stays {H : Type} {enc : TypeId × Value → H} {W W' : World} (hl : laidOutB P = true) (hb : Below W.heap.size W W') {sp : Nat → Bool} : (ts : List TypeId) → (vs : List Value) → (ds : List (DataW H)) → (ps : List MemPlace) →
    (∀ t ∈ ts, P.readableRec t = true ∧ t < P.types.size) → (∀ p ∈ ps, p.block < W.heap.size) → (∀ p ∈ ps, sp p.block = true) →
    DataW.TrodAll enc P W 0 (fun _ => true) true ts vs ds ps → DataW.TrodAll enc P W' 0 sp true ts vs ds ps
  | [], [], [], _, _, _, _, h => h
  | t :: ts, v :: vs, d :: ds, _, ht, hlt, hs, ⟨p, q, h1, h2, e⟩ => by
    subst e
    exact ⟨p, q, WideElems.Trod_stays hl (ht t (by simp)).1 (ht t (by simp)).2 h1 (fun x hx => hb.same (hlt x (by simp [hx]))) (fun x hx => hs x (by simp [hx])),
      trodAll_stays hl hb ts vs ds q (fun t h => ht t (by simp [h])) (fun x hx => hlt x (by simp [hx])) (fun x hx => hs x (by simp [hx])) h2, rfl⟩

theorem post_of_below' {H : Type} {enc : TypeId × Value → H} {f : Func} {s : ChangeSpec} {apart fresh handsOn z75 : Bool} {W W' : World} {args : Array Value} {v : Value} {ds gs : List (DataW H)} {before pa pv : List MemPlace}
    (hW : DataW.Whole enc P f.params.toList s.vars apart W args.toList ds gs before)
    (hres : ∀ (b : Nat) (sp : Nat → Bool) (hd : Bool), DataW.TrodAll enc P W' b sp hd f.resultTypes.toList (v.resultList f.resultTypes.size) (s.fn H (ds ++ gs)).results [])
    (hargs : ∀ sp : Nat → Bool, (∀ p ∈ before, sp p.block = true) → DataW.TrodAll enc P W' 0 sp true f.params.toList args.toList (s.fn H (ds ++ gs)).args pa)
    (hvars : ∀ sp : Nat → Bool, (∀ p ∈ before, sp p.block = true) → DataW.TrodVars enc P W' sp s.vars (s.fn H (ds ++ gs)).vars pv)
    (hps : before = pa ++ pv) (hb : Below W.heap.size W W')
    (hok : ∀ (j : Nat) (t : TypeId) (r : Value), f.resultTypes[j]? = some t → (v.resultList f.resultTypes.size)[j]? = some r → Value.okWide P W' .any 0 t r) :
    s.post enc P f apart fresh handsOn z75 W args v W' := by
  have hlt : ∀ p ∈ before, p.block < W.heap.size := fun p hp => hW.lt p hp
  have hold : ∀ p ∈ before, (fun b => decide (b < W.heap.size)) p.block = true := fun p hp => by simpa using hlt p hp
  refine ⟨ds, gs, before, [], pa, pv, hW, hres _ _ _, hargs _ hold, hvars _ hold, World.keptBut_mono (fun p hp => ⟨hp, ?_⟩) (hb.frame (· ∈ before)), fun _ => ?_⟩
  · rw [hps, List.mem_append] at hp
    exact Or.inr hp
  · obtain ⟨_, _, _, _, _, hz, hn⟩ := hW
    refine ⟨hok, _, _, ([] ++ pa) ++ pv, ⟨[] ++ pa, pv, trodAll_append (hargs _ (fun _ _ => rfl)) (hres _ _ _), hvars _ (fun _ _ => rfl), rfl, ?_, ?_⟩, ?_⟩
    · intro b off hp
      have hin : MemPlace.cell b off ∈ before := by rw [hps]; simpa using hp
      rw [hb.frozen (hlt _ hin)]
      exact hz b off hin
    · intro ha
      have := hn ha
      rw [hps] at this
      simpa using this
    · intro p hp _
      rw [hps]
      simpa using hp

/-- A law's contract gives what its statement asks. -/
theorem law_post {H : Type} {enc : TypeId × Value → H} {f : FuncId} {fn : Func} {s : ChangeSpec} {W : World} {args : Array Value} {ds gs : List (DataW H)} {before : List MemPlace} {R : List AC → Nat → Prop} {tb : TypeId} {r : _root_.Go.Reach} {b0 : Nat} {apart fresh handsOn z75 : Bool}
    {b : DataW H → Nat} (hB : Bulk b) (hl : laidOutB P = true) (hts : ∀ t ∈ fn.params.toList, P.readableRec t = true ∧ t < P.types.size)
    (hvars : s.vars = []) (hsp : ∀ ds : List (DataW H), ds.length = fn.params.size → s.fn H ds = { results := [.lit (.bool true)], args := ds }) (hres : fn.resultTypes = #[tb]) (hbool : P.underlying tb = some .bool)
    (hargs : ArgsOk P fn.params.toList R) (hC : ∀ xs m, R xs m → m ≤ bulks b ds → CallsA P f xs [] (.bool true) [])
    (hval : ∀ (j : Nat) t v, fn.params[j]? = some t → args[j]? = some v → Value.okWide P W r b0 t v)
    (hW : DataW.Whole enc P fn.params.toList s.vars apart W args.toList ds gs before) :
    Calls P f args W fun e W' => ∃ v, e = .returned v ∧ s.post enc P fn apart fresh handsOn z75 W args v W' := by
  have hW0 := hW
  obtain ⟨p, q, hA, hV, rfl, hz, hn⟩ := hW
  rw [hvars] at hV
  obtain ⟨rfl, rfl⟩ : gs = [] ∧ q = [] := by
    cases gs with
    | nil => exact ⟨rfl, hV⟩
    | cons _ _ => exact hV.elim
  obtain ⟨xs, m, hR, hcs, hm⟩ := argsOk_cells hB _ _ _ _ _ hargs (fun j t v e e' => hval j t v (by simpa using e) (by simpa using e')) hA
  have hlen : ds.length = fn.params.size := by
    have : ∀ (ts : List TypeId) (vs : List Value) (ds : List (DataW H)) (ps : List MemPlace), DataW.TrodAll enc P W 0 (fun _ => true) true ts vs ds ps → ds.length = ts.length := by
      intro ts
      induction ts with
      | nil => intro vs ds ps h; rw [(trodAll_nil h).2.1]; rfl
      | cons t ts ih =>
        intro vs ds ps h
        obtain ⟨v, vs1, d, ds1, a, b, rfl, rfl, rfl, h1, h2⟩ := trodAll_cons h
        simp [ih _ _ _ h2]
    simpa using this _ _ _ _ hA
  have hsp' := hsp (ds ++ []) (by simpa using hlen)
  obtain ⟨_, hcall⟩ := hC xs m hR hm
  refine (hcall (startG (hp W)) W args (Wf.start W) (by simpa using hcs.length.symm) (hcs.VL fun j _ => by simp)).mono fun e W' ⟨G', v, he, hs, _, hle, hw, hv⟩ => ?_
  subst he
  have hv : v = .bool true := by simpa [V] using hv
  subst hv
  have hb := below_of hle hs hw
  refine ⟨_, rfl, post_of_below' (pa := p) (pv := []) hW0 (fun _ _ _ => ?_) (fun sp hsp => ?_) (fun sp _ => ?_) rfl hb (ok_one hres rfl (okWide_bool_mk hbool _))⟩
  · rw [hsp', hres]
    exact trodAll_mk1 (shut_bool hbool _)
  · rw [hsp']
    simp only [List.append_nil] at hsp ⊢
    exact trodAll_stays hl hb _ _ _ _ hts (fun x hx => hW0.lt x (by simp [hx])) hsp hA
  · rw [hsp', hvars]
    rfl
theorem unownLL_map {α : Type} {f : α → List AC} (h : ∀ a, ∀ x ∈ f a, x.unown = x) (l : List α) : z57 (l.map f) = l.map f :=
  unownLL_flat fun e he x hx => by
    obtain ⟨a, _, rfl⟩ := List.mem_map.1 he
    exact h a x hx

theorem bor_seal {objs : Nat → AObj} {π Bn : List Nat} {o w len : Nat} {es L : List (List AC)} (ho : objs o = .cells w es) (h1 : idx π o = none) (h2 : inB Bn o = true) (he : es = L) (hu : z57 L = L) (hl : L.length = len) : bor objs π Bn (.sref o 0 len) = .list w len L := by
  subst he
  rw [bor_full ho h1 h2 hl, hu]
end Go.Gl

/- Ghost logic, part W: what a proof says step by step. -/
namespace Go.Gl
variable {P : Program}

theorem z125 {b : Bool} {A B : Prop} (h1 : b = false → A) (h2 : b = true → B) : vcIf (!b) A B := by
  cases b
  · exact h1 rfl
  · exact h2 rfl

theorem z40 {m : Nat} {st : St} {res r : AC} (hm : fixed m 0 [] = true) (hu : res.under 0 = true) (h : r = res) : z50 m st res [] r :=
  ⟨[], List.nodup_nil, hm, hu, ACle.of_eq (by rw [ren_under0 res hu, h]), trivial⟩
theorem ret_le {m : Nat} {st : St} {res r : AC} (hm : fixed m 0 [] = true) (hu : res.under 0 = true) (h : ACle r res) : z50 m st res [] r :=
  ⟨[], List.nodup_nil, hm, hu, by rw [ren_under0 res hu]; exact h, trivial⟩
theorem z19 {m : Nat} {st : St} {b c : Bool} (hm : fixed m 0 [] = true) (h : c = b) : z50 m st (.raw (.bool c)) [] (.raw (.bool b)) := z40 hm rfl (by rw [h])
theorem ret_int {m : Nat} {st : St} {b c : Int} (hm : fixed m 0 [] = true) (h : c = b) : z50 m st (.raw (.int .i64 c)) [] (.raw (.int .i64 b)) := z40 hm rfl (by rw [h])

theorem z96 {m : Nat} {st : St} {res r : AC} {objs' : List AObj} (π : List Nat) (h1 : π.Nodup) (h2 : fixed m 0 π = true) (h3 : res.under π.length = true) (h4 : r = res.ren (z49 0 π)) (h5 : objsAll (fun o x => z126 π.length x ∧ st.objs o = z107 (z49 0 π) x) 0 π objs') : z50 m st res objs' r :=
  ⟨π, h1, h2, h3, ACle.of_eq h4, h5⟩
theorem z38 {M w : Nat} {r : Nat → Nat} {x : AObj} {e : List AC} (h : z106 M e = true) (hx : x = .cells w [renL r e]) : z126 M (.cells w [e]) ∧ x = z107 r (.cells w [e]) :=
  ⟨fun y hy => by rw [List.mem_singleton.1 hy]; exact h, by rw [hx]; rfl⟩

/-- a search that carries a state -/
def idxS {α σ : Type} (p : α → σ → Bool) (nx : α → σ → σ) (l : List α) (s : σ) (k : Nat) : Int × σ := match l with
  | [] => (-1, s)
  | x :: r => if p x s then (k, nx x s) else idxS p nx r (nx x s) (k + 1)

/-- the end of a round -/
def z62 {α : Type} (I : α → List (Nat × AC) × List AObj) (ok : α → Prop) (μ : α → Nat) (x : α) (m n : Nat) (st : St) : Prop := ∃ y π, ok y ∧ μ y < μ x ∧ PickL π m n st (I y).1 (I y).2

theorem z75 {α : Type} {I : α → List (Nat × AC) × List AObj} {ok : α → Prop} {μ : α → Nat} {x : α} {m n : Nat} {st : St} (y : α) (π : List Nat) (h1 : ok y) (h2 : μ y < μ x) (h3 : PickL π m n st (I y).1 (I y).2) : z62 I ok μ x m n st := ⟨y, π, h1, h2, h3⟩

theorem z83 {α : Type} {m n : Nat} {env : List (Nat × AC)} {objs : List AObj} {body : Code} {Q : Exit → St → Prop} (I : α → List (Nat × AC) × List AObj) (ok : α → Prop) (μ : α → Nat) (x0 : α) (h0 : ok x0) (hinit : ∃ π, PickL π m n (mkSt n env objs) (I x0).1 (I x0).2)
    (round : ∀ x, ok x → AWP P m body (thenA (fun st' => z62 I ok μ x m n st') Q) (mkSt n (I x).1 (I x).2)) : AWP P m (.loop body) Q (mkSt n env objs) :=
  awp_loop I ok μ x0 h0 hinit round

theorem z18 {α : Type} {f : α → List AC} {l : List α} {i : Nat} {K : List AC → Prop} (h : i < l.length) (k : ∀ h : i < l.length, K (f (l[i]'h))) : ∃ e, (l.map f)[(i : Int).toNat]? = some e ∧ K e := ⟨_, map_get _ _ _ h, k h⟩
theorem z132 {α : Type} {a : α} {K : α → Prop} (k : K a) : ∃ e, some a = some e ∧ K e := ⟨a, rfl, k⟩
theorem drop_all {α : Type} (p : α → Bool) (l : List α) (k : Nat) (h : k < l.length) : (l.drop k).all p = (p l[k] && (l.drop (k + 1)).all p) := by
  rw [List.drop_eq_getElem_cons h, List.all_cons]
theorem drop_all_end {α : Type} (p : α → Bool) (l : List α) (k : Nat) (h : l.length ≤ k) : (l.drop k).all p = true := by
  rw [List.drop_eq_nil_of_le h]; rfl
theorem drop_any {α : Type} (p : α → Bool) (l : List α) (k : Nat) (h : k < l.length) : (l.drop k).any p = (p l[k] || (l.drop (k + 1)).any p) := by
  rw [List.drop_eq_getElem_cons h, List.any_cons]
theorem drop_any_end {α : Type} (p : α → Bool) (l : List α) (k : Nat) (h : l.length ≤ k) : (l.drop k).any p = false := by
  rw [List.drop_eq_nil_of_le h]; rfl
theorem get_map {α : Type} {f : α → List AC} {l : List α} {i : Nat} {K : List AC → Prop} (h : i < l.length) (k : ∀ h : i < l.length, K (f (l[i]'h))) : ∃ e, (l.map f)[i]? = some e ∧ K e := ⟨_, map_get _ _ _ h, k h⟩

theorem call_bor {P : Program} {st : St} {K : OpK} {f : FuncId} {first caps args args0 : List AC} {res : AC} (Bn : List Nat) (h : CallsA P f args0 [] res []) (hb : borL st.objs [] Bn (first ++ (args ++ caps)) = args0) (hu : res.under 0 = true) (hpl : res.plain = true) (hn : nodupB Bn = true) (k : forceV res fun r => K r (Bn.map st.rd)) : z34 P st (.fn (.func f) first caps) args K := by
  refine call_flat [] Bn h hb rfl (by simp) hu (by simp) (.inr ⟨hpl, by simp⟩) (Nat.le_refl _) ?_
  rw [z102]
  show z61 (nodupB ([] ++ [] ++ Bn)) _
  rw [List.nil_append, List.nil_append, hn]
  show renK _ _ _
  rw [renK_eq]
  rw [z101] at k
  show K (res.ren (z49 0 [])) _
  rw [ren_under0 res hu]
  exact k


/-- an object behind a call, and how the caller names what it names -/
def ObjRen (M : Nat) (r : Nat → Nat) (x y : AObj) : Prop := underObj M x ∧ z107 r x = y
theorem z30 {M w : Nat} {r : Nat → Nat} {es : List (List AC)} (h : Flat es) : ObjRen M r (.cells w es) (.cells w es) :=
  ⟨fun e he => flatL_under (h e he) M, h.ren r⟩
theorem z21 {M w : Nat} {r : Nat → Nat} {e e' : List AC} (h : z106 M e = true) (he : renL r e = e') : ObjRen M r (.cells w [e]) (.cells w [e']) :=
  ⟨fun x hx => by rw [List.mem_singleton.1 hx]; exact h, by simp [z107, he]⟩
def ObjsRen (M : Nat) (r : Nat → Nat) : List AObj → List AObj → Prop
  | [], ys => ys = []
  | x :: xs, ys => ∃ y zs, ys = y :: zs ∧ ObjRen M r x y ∧ ObjsRen M r xs zs
theorem z15 {M : Nat} {r : Nat → Nat} : ObjsRen M r [] [] := rfl
theorem z13 {M : Nat} {r : Nat → Nat} {x y : AObj} {xs ys : List AObj} (h : ObjRen M r x y) (k : ObjsRen M r xs ys) : ObjsRen M r (x :: xs) (y :: ys) := ⟨y, ys, rfl, h, k⟩
theorem ObjsRen.spec {M : Nat} {r : Nat → Nat} : ∀ {xs ys : List AObj}, ObjsRen M r xs ys → (∀ x ∈ xs, underObj M x) ∧ xs.map (z107 r) = ys := by
  intro xs
  induction xs with
  | nil => intro ys h; cases h; exact ⟨by simp, rfl⟩
  | cons x xs ih =>
    rintro ys ⟨y, zs, rfl, ⟨h1, h2⟩, h3⟩
    obtain ⟨h4, h5⟩ := ih h3
    refine ⟨fun z hz => ?_, by rw [List.map_cons, h2, h5]⟩
    rcases List.mem_cons.1 hz with rfl | hz
    · exact h1
    · exact h4 z hz

/-- an object that is handed over -/
theorem pass_flat {objs : Nat → AObj} {π Bn : List Nat} {o w : Nat} {es : List (List AC)} (ho : objs o = .cells w es) (h : Flat es) : z73 objs π Bn o = .cells w es := by
  simp only [z73, ho, AObj.cells.injEq, true_and]
  conv => rhs; rw [← List.map_id es]
  refine List.map_congr_left fun e he => ?_
  conv => rhs; rw [id, ← List.map_id e]
  refine List.map_congr_left fun x hx => ?_
  have := flatL_iff.1 (h e he) x hx
  cases x <;> first | rfl | simp [AC.flat] at this
def PassOk (objs : Nat → AObj) (π Bn : List Nat) : List Nat → List AObj → Prop
  | [], ys => ys = []
  | o :: os, ys => ∃ y zs, ys = y :: zs ∧ z73 objs π Bn o = y ∧ PassOk objs π Bn os zs
theorem z6 {objs : Nat → AObj} {π Bn : List Nat} : PassOk objs π Bn [] [] := rfl
theorem z7 {objs : Nat → AObj} {π Bn : List Nat} {o : Nat} {os : List Nat} {y : AObj} {ys : List AObj} (h : z73 objs π Bn o = y) (k : PassOk objs π Bn os ys) : PassOk objs π Bn (o :: os) (y :: ys) := ⟨y, ys, rfl, h, k⟩
theorem PassOk.spec {objs : Nat → AObj} {π Bn : List Nat} : ∀ {os : List Nat} {ys : List AObj}, PassOk objs π Bn os ys → os.map (z73 objs π Bn) = ys := by
  intro os
  induction os with
  | nil => intro ys h; cases h; rfl
  | cons o os ih =>
    rintro ys ⟨y, zs, rfl, h1, h2⟩
    rw [List.map_cons, h1, ih h2]
def PlainObjs : List AObj → Prop
  | [] => True
  | x :: xs => plainObj x ∧ PlainObjs xs
theorem PlainObjs.spec : ∀ {xs : List AObj}, PlainObjs xs → ∀ x ∈ xs, plainObj x := by
  intro xs
  induction xs with
  | nil => intro _ x hx; cases hx
  | cons y xs ih =>
    intro h x hx
    rcases List.mem_cons.1 hx with rfl | hx
    · exact h.1
    · exact ih h.2 x hx
theorem plainLL_map {α : Type} {f : α → List AC} (h : ∀ a, plainL (f a) = true) (l : List α) : plainLL (l.map f) = true := by
  induction l with
  | nil => rfl
  | cons a l ih => simp only [List.map_cons, plainLL, h a, ih]

def allN (p : Nat → Bool) : List Nat → Bool
  | [] => true
  | x :: xs => match p x with
    | true => allN p xs
    | false => false
theorem allN_spec {p : Nat → Bool} {l : List Nat} (h : allN p l = true) : ∀ x ∈ l, p x = true := by
  induction l with
  | nil => intro x hx; cases hx
  | cons y l ih =>
    intro x hx
    simp only [allN] at h
    split at h
    · rename_i hy
      rcases List.mem_cons.1 hx with rfl | hx
      · exact hy
      · exact ih h x hx
    · cases h

/-- a call: what is handed over by name, what is lent, what is new -/
theorem z8 {st : St} {K : OpK} {f : FuncId} {first caps args args0 : List AC} {objs0 objs1 objs1' : List AObj} {res : AC} (π Bn ν : List Nat) (h : CallsA P f args0 objs0 res objs1) (hb : borL st.objs π Bn (first ++ (args ++ caps)) = args0) (hp : PassOk st.objs π Bn π objs0)
    (hc : allN (fun o => isCells (st.objs o)) π = true) (hf : allN (fun o => isFresh (st.objs o)) ν = true) (hn : nodupB (π ++ ν ++ Bn) = true) (hl : Nat.beq objs1.length (π ++ ν).length = true) (hu : res.under objs1.length = true)
    (ho : ObjsRen objs1.length (z49 0 (π ++ ν)) objs1 objs1') (hpl : Bn = [] ∨ (res.plain = true ∧ PlainObjs objs1))
    (k : renK (z49 0 (π ++ ν)) res fun res1 => K res1 (zipCh st (π ++ ν) objs1' ++ Bn.map st.rd)) : z34 P st (.fn (.func f) first caps) args K := by
  rw [renK_eq] at k
  obtain ⟨h1, h2⟩ := ho.spec
  exact ⟨⟨π, Bn, ν, args0, objs0, res, objs1, res.ren (z49 0 (π ++ ν)), objs1'⟩, ⟨h, hb, hp.spec, nodupB_iff hn, allN_spec hc, allN_spec hf, Nat.eq_of_beq_eq_true hl, rfl, h2, hu, h1, hpl.imp id fun h => ⟨h.1, h.2.spec⟩⟩, k⟩

end Go.Gl

/- The data of the laws as plain data, and how each lies in cells. -/
namespace Go.Gl

theorem le_sum {α : Type} (f : α → Nat) {l : List α} {a : α} (h : a ∈ l) : f a ≤ (l.map f).sum := by
  induction l with
  | nil => cases h
  | cons b l ih =>
    simp only [List.map_cons, List.sum_cons]
    cases h with
    | head => omega
    | tail _ h => have := ih h; omega

inductive Tree where
  | mk (kind val : Int) (kids : List Tree)

def Tree.kind : Tree → Int | .mk k _ _ => k
def Tree.val : Tree → Int | .mk _ v _ => v
def Tree.kids : Tree → List Tree | .mk _ _ l => l

mutual
def Tree.cs : Tree → List AC
  | .mk k v l => [.int k, .int v, .list 3 l.length (Tree.css l)]
def Tree.css : List Tree → List (List AC)
  | [] => []
  | t :: l => Tree.cs t :: Tree.css l
end
mutual
/-- how many nodes lie below -/
def Tree.sz : Tree → Nat
  | .mk _ _ l => Tree.szs l
def Tree.szs : List Tree → Nat
  | [] => 0
  | t :: l => 1 + Tree.sz t + Tree.szs l
end
mutual
def Tree.mx : Tree → Prop
  | .mk _ _ l => l.length ≤ maxLen ∧ Tree.mxs l
def Tree.mxs (l : List Tree) : Prop := match l with
  | [] => True
  | t :: r => Tree.mx t ∧ Tree.mxs r
end

theorem Tree.css_eq (l : List Tree) : Tree.css l = l.map Tree.cs := by
  induction l with
  | nil => simp [Tree.css]
  | cons t l ih => simp [Tree.css, ih]
def Tree.cs' (t : Tree) : List AC := [.int t.kind, .int t.val, .list 3 t.kids.length (t.kids.map Tree.cs)]
theorem Tree.cs_eq : Tree.cs = Tree.cs' := by
  funext t
  cases t with
  | mk k v l => simp [Tree.cs, Tree.cs', Tree.css_eq, Tree.kind, Tree.val, Tree.kids]
theorem Tree.szs_eq (l : List Tree) : Tree.szs l = l.length + (l.map Tree.sz).sum := by
  induction l with
  | nil => simp [Tree.szs]
  | cons t l ih => simp [Tree.szs, ih]; omega
theorem Tree.sz_eq (t : Tree) : t.sz = t.kids.length + (t.kids.map Tree.sz).sum := by
  cases t with
  | mk k v l => simp only [Tree.sz, Tree.kids, Tree.szs_eq]
theorem Tree.mxs_iff (l : List Tree) : Tree.mxs l ↔ ∀ t ∈ l, t.mx := by
  induction l with
  | nil => simp [Tree.mxs]
  | cons t l ih => simp [Tree.mxs, ih]
theorem Tree.mx_iff (t : Tree) : t.mx ↔ t.kids.length ≤ maxLen ∧ ∀ u ∈ t.kids, u.mx := by
  cases t with
  | mk k v l => simp only [Tree.mx, Tree.kids, Tree.mxs_iff]
theorem Tree.lst_eq (l : List Tree) : AC.list 3 l.length (l.map Tree.cs) = AC.list 3 l.length (l.map Tree.cs') := by rw [Tree.cs_eq]
noncomputable instance : DecidableEq Tree := Classical.typeDecidableEq Tree
theorem Tree.ind {p : Tree → Prop} (h : ∀ t, (∀ u ∈ t.kids, p u) → p t) (t : Tree) : p t :=
  Tree.rec (motive_1 := p) (motive_2 := fun l => ∀ u ∈ l, p u) (fun _ _ _ ih => h _ ih) (fun _ h => by cases h) (fun _ _ h1 h2 u hu => by
    cases hu with
    | head => exact h1
    | tail _ h => exact h2 u h) t
end Go.Gl

/- Expressions: what the program's walk computes, and what the reference computes. -/
namespace Go.Gl

def arity (k : Int) : Int := if k = 1 ∨ k = 2 then 0 else if k = 3 then 1 else if 4 ≤ k ∧ k ≤ 9 then 2 else -1
def mostV (k : Int) : Int := if k = 1 then 3 else if k = 2 then 2 else 0

mutual
def Tree.walkE (t : Tree) (d n : Int) : Int × Bool := match t with
  | .mk k v l => if d ≤ 6 ∧ n + 1 ≤ 15 ∧ 0 ≤ v ∧ v ≤ mostV k ∧ (l.length : Int) = arity k then Tree.walkEs l (d + 1) (n + 1) else (n + 1, false)
def Tree.walkEs (l : List Tree) (d n : Int) : Int × Bool := match l with
  | [] => (n, true)
  | t :: r => if (Tree.walkE t d n).2 then Tree.walkEs r d (Tree.walkE t d n).1 else ((Tree.walkE t d n).1, false)
end
mutual
def Tree.shape (t : Tree) (d : Int) : Bool := match t with
  | .mk k v l => decide (1 ≤ d ∧ (l.length : Int) = arity k ∧ 0 ≤ v ∧ v ≤ mostV k) && Tree.shapes l (d - 1)
def Tree.shapes (l : List Tree) (d : Int) : Bool := match l with
  | [] => true
  | t :: r => Tree.shape t d && Tree.shapes r d
end
mutual
def Tree.count (t : Tree) (d : Int) : Int := match t with
  | .mk _ _ l => if 0 < d then 1 + Tree.counts l (d - 1) else 1
def Tree.counts (l : List Tree) (d : Int) : Int := match l with
  | [] => 0
  | t :: r => Tree.count t d + Tree.counts r d
end

theorem Tree.rec2 {p : Tree → Prop} {q : List Tree → Prop} (h : ∀ k v l, q l → p (.mk k v l)) (h0 : q []) (h1 : ∀ t r, p t → q r → q (t :: r)) : (∀ t, p t) ∧ ∀ l, q l :=
  ⟨fun t => Tree.rec (motive_1 := p) (motive_2 := q) (fun k v l ih => h k v l ih) h0 (fun _ _ a b => h1 _ _ a b) t,
   fun l => Tree.rec_1 (motive_1 := p) (motive_2 := q) (fun k v l ih => h k v l ih) h0 (fun _ _ a b => h1 _ _ a b) l⟩

theorem Tree.count_pos : (∀ (t : Tree) d, 1 ≤ t.count d) ∧ ∀ (l : List Tree) d, 0 ≤ Tree.counts l d := by
  refine Tree.rec2 (p := fun t => ∀ d, 1 ≤ t.count d) (q := fun l => ∀ d, 0 ≤ Tree.counts l d) ?_ ?_ ?_
  · intro k v l ih d
    have := ih (d - 1)
    simp only [Tree.count]; split <;> omega
  · intro d; simp [Tree.counts]
  · intro t r h1 h2 d
    have := h1 d; have := h2 d
    simp only [Tree.counts]; omega

/-- the walk finds what the shape and the number of nodes say -/
theorem Tree.walkE_spec : (∀ (t : Tree) d n, 0 ≤ n → n ≤ 15 → ((t.walkE d n).2 = true ↔ t.shape (7 - d) = true ∧ n + t.count (7 - d) ≤ 15) ∧ ((t.walkE d n).2 = true → (t.walkE d n).1 = n + t.count (7 - d)) ∧ n ≤ (t.walkE d n).1 ∧ (t.walkE d n).1 ≤ 16) ∧
    ∀ (l : List Tree) d n, 0 ≤ n → n ≤ 15 → ((Tree.walkEs l d n).2 = true ↔ Tree.shapes l (7 - d) = true ∧ n + Tree.counts l (7 - d) ≤ 15) ∧ ((Tree.walkEs l d n).2 = true → (Tree.walkEs l d n).1 = n + Tree.counts l (7 - d)) ∧ n ≤ (Tree.walkEs l d n).1 ∧ (Tree.walkEs l d n).1 ≤ 16 := by
  refine Tree.rec2 ?_ ?_ ?_
  · intro k v l ih d n h0 h1
    simp only [Tree.walkE, Tree.shape, Tree.count, Bool.and_eq_true, decide_eq_true_eq]
    have hc := Tree.count_pos.2 l (7 - d - 1)
    by_cases hb : d ≤ 6 ∧ n + 1 ≤ 15 ∧ 0 ≤ v ∧ v ≤ mostV k ∧ (l.length : Int) = arity k
    · rw [if_pos hb, if_pos (by omega)]
      have := ih (d + 1) (n + 1) (by omega) hb.2.1
      rw [show 7 - (d + 1) = 7 - d - 1 by omega] at this
      obtain ⟨a1, a2, a3, a4⟩ := this
      refine ⟨?_, ?_, by omega, by omega⟩
      · rw [a1]
        constructor
        · rintro ⟨b1, b2⟩; exact ⟨⟨⟨by omega, hb.2.2.2.2, hb.2.2.1, hb.2.2.2.1⟩, b1⟩, by omega⟩
        · rintro ⟨b1, b2⟩; exact ⟨b1.2, by omega⟩
      · intro h; rw [a2 h]; omega
    · rw [if_neg hb]
      refine ⟨⟨by simp, ?_⟩, by simp, by simp only; omega, by simp only; omega⟩
      rintro ⟨⟨⟨b1, b2, b3, b4⟩, b5⟩, b6⟩
      rw [if_pos (by omega)] at b6
      exact absurd ⟨by omega, by omega, b3, b4, b2⟩ hb
  · intro d n h0 h1
    simp [Tree.walkEs, Tree.shapes, Tree.counts]; omega
  · intro t r iht ihr d n h0 h1
    simp only [Tree.walkEs, Tree.shapes, Tree.counts, Bool.and_eq_true]
    obtain ⟨a1, a2, a3, a4⟩ := iht d n h0 h1
    have hc := Tree.count_pos.2 r (7 - d)
    by_cases hb : (t.walkE d n).2 = true
    · rw [if_pos hb]
      have e := a2 hb
      obtain ⟨b1, b2, b3, b4⟩ := ihr d (t.walkE d n).1 (by omega) (by rw [e]; exact (a1.1 hb).2)
      refine ⟨?_, fun h => by rw [b2 h, e]; omega, by omega, b4⟩
      rw [b1, e]
      exact ⟨fun h => ⟨⟨(a1.1 hb).1, h.1⟩, by omega⟩, fun h => ⟨h.1.2, by omega⟩⟩
    · rw [if_neg hb]
      refine ⟨⟨by simp, fun h => absurd (a1.2 ⟨h.1.1, by omega⟩) hb⟩, by simp, a3, a4⟩

theorem Tree.walkE_eq (t : Tree) (d n : Int) : t.walkE d n = if d ≤ 6 ∧ n + 1 ≤ 15 ∧ 0 ≤ t.val ∧ t.val ≤ mostV t.kind ∧ (t.kids.length : Int) = arity t.kind then Tree.walkEs t.kids (d + 1) (n + 1) else (n + 1, false) := by
  cases t; rfl
theorem Tree.walkEs_idx (d : Int) (l : List Tree) : ∀ n k, Tree.walkEs l d n = ((idxS (fun (x : Tree) s => !(x.walkE d s).2) (fun x s => (x.walkE d s).1) l n k).2, !decide (0 ≤ (idxS (fun (x : Tree) s => !(x.walkE d s).2) (fun x s => (x.walkE d s).1) l n k).1)) := by
  induction l with
  | nil => intro n k; simp [Tree.walkEs, idxS]
  | cons t l ih =>
    intro n k
    simp only [Tree.walkEs, idxS]
    cases h : (t.walkE d n).2
    · simp
    · simp only [if_true, Bool.not_true, Bool.false_eq_true, if_false]; exact ih _ _
def Tree.exprB (t : Tree) : Bool := (t.walkE 1 0).2
theorem Tree.exprB_eq (t : Tree) : t.exprB = (t.shape 6 && decide (t.count 6 ≤ 15)) := by
  have h := (Tree.walkE_spec.1 t 1 0 (by omega) (by omega)).1
  rw [show (7 : Int) - 1 = 6 by omega, Int.zero_add] at h
  rw [Bool.eq_iff_iff, Bool.and_eq_true, decide_eq_true_eq]
  exact h

/-- each kind's own value -/
def b2i (b : Bool) : Int := if b then 1 else 0
mutual
def Tree.ev (v : List Int) (t : Tree) : Int := match t with
  | .mk k x l => if k = 1 then x else if k = 2 then v.getD x.toNat 0 else match Tree.evs v l with
    | [a] => b2i (decide (a = 0))
    | [a, b] => if k = 4 then b2i (decide (a ≠ 0 ∧ b ≠ 0)) else if k = 5 then b2i (decide (a ≠ 0 ∨ b ≠ 0)) else if k = 6 then b2i (decide (a = b)) else if k = 7 then b2i (decide (a < b)) else if k = 8 then (a + b) % 4 else (a - b + 4) % 4
    | _ => 0
def Tree.evs (v : List Int) (l : List Tree) : List Int := match l with
  | [] => []
  | t :: r => Tree.ev v t :: Tree.evs v r
end
/-- made well, at some depth -/
def Tree.good (t : Tree) : Prop := ∃ d, t.shape d = true
theorem Tree.shapes_iff (l : List Tree) (d : Int) : Tree.shapes l d = true ↔ ∀ t ∈ l, t.shape d = true := by
  induction l with
  | nil => simp [Tree.shapes]
  | cons t l ih => simp [Tree.shapes, ih]
theorem Tree.good_of {t : Tree} (h : t.exprB = true) : t.good := by
  rw [Tree.exprB_eq, Bool.and_eq_true] at h
  exact ⟨_, h.1⟩
theorem Tree.good_iff {t : Tree} (h : t.good) : (t.kids.length : Int) = arity t.kind ∧ 0 ≤ t.val ∧ t.val ≤ mostV t.kind ∧ ∀ u ∈ t.kids, u.good := by
  obtain ⟨d, h⟩ := h
  cases t with
  | mk k v l =>
    simp only [Tree.shape, Bool.and_eq_true, decide_eq_true_eq] at h
    exact ⟨h.1.2.1, h.1.2.2.1, h.1.2.2.2, fun u hu => ⟨_, (Tree.shapes_iff _ _).1 h.2 u hu⟩⟩
theorem b2i_range (b : Bool) : 0 ≤ b2i b ∧ b2i b ≤ 3 := by unfold b2i; split <;> omega
/-- values of a state -/
def ValsOk (v : List Int) : Prop := v.length = 3 ∧ ∀ x ∈ v, 0 ≤ x ∧ x ≤ 3
theorem ValsOk.get {v : List Int} (h : ValsOk v) (i : Nat) : 0 ≤ v.getD i 0 ∧ v.getD i 0 ≤ 3 := by
  rw [List.getD_eq_getElem?_getD]
  by_cases hi : i < v.length
  · rw [List.getElem?_eq_getElem hi]
    exact h.2 _ (List.getElem_mem _)
  · rw [List.getElem?_eq_none (by omega)]; simp
theorem Tree.ev_range {v : List Int} (hv : ValsOk v) (t : Tree) : t.good → 0 ≤ t.ev v ∧ t.ev v ≤ 3 := by
  induction t using Tree.ind with | h t ih => ?_
  intro hg
  obtain ⟨h1, h2, h3, h4⟩ := Tree.good_iff hg
  cases t with
  | mk k x l =>
    simp only [Tree.kind, Tree.val, Tree.kids] at *
    simp only [Tree.ev]
    split
    · rename_i hk; subst hk; simp [mostV] at h3; omega
    split
    · exact hv.get _
    · split
      · exact b2i_range _
      · rename_i a b hab
        repeat (first | (split; · first | exact b2i_range _ | omega) | omega)
      · omega
end Go.Gl

/- Ghost logic, part X: what is new behind a call becomes kept data. -/
namespace Go.Gl
variable {P : Program} {G : Ghost} {objs : Nat → AObj} {w : World} {π Bn : List Nat}

theorem seal_core (hW0 : Wf G objs w) (hn : π.Nodup) (hd : ∀ o ∈ π, o ∉ Bn) (ha : ∀ o ∈ π, isCells (objs o) = true) :
    Wf (G.seal_ (hp w) π Bn) (z36 (π.map (z73 objs π Bn))) w ∧ G.Sub (G.seal_ (hp w) π Bn) ∧ (∀ o i t, idx π o = some i → G.ι o = some t → (G.seal_ (hp w) π Bn).ι i = some t) ∧
      ∀ x v, V G (hp w) none x v → V (G.seal_ (hp w) π Bn) (hp w) none (bor objs π Bn x) v := by
  have hW := Wf_sub (Bn := Bn) hW0 hn hd ha
  have hbor := borOk_sub (π := π) (Bn := Bn) hW0
  refine ⟨⟨hW.hS, hW0.hU, fun b x hu => ?_, fun b p hk => ?_, fun o => ?_⟩, ⟨fun b x e => hbor.S b x e, rfl⟩, fun o i t hi e => sub_ι (w := w) (Bn := Bn) hi e, fun x v hv => ?_⟩
  · have hu : G.U b = some x := hu
    cases hkb : G.κ b with
    | none => show (G.sub (hp w) π Bn).S b = none; simp [Ghost.sub, hkb]; exact hW0.su b x hu
    | some p => have := (hW0.sk b p hkb).2.1; rw [hu] at this; cases this
  · have hk' : (G.sub (hp w) π Bn).κ b = some p := hk
    obtain ⟨h1, _, h3⟩ := hW.sk b p hk'
    refine ⟨h1, ?_, h3⟩
    show G.U b = none
    cases hkb : G.κ b with
    | none => simp [Ghost.sub, hkb] at hk'
    | some q => exact (hW0.sk b q hkb).2.1
  · exact other_obj (G := G.sub (hp w) π Bn) (h := hp w) (fun _ _ e => e) (fun _ _ e => e) rfl (fun b p _ hk => ⟨hk, rfl⟩) (hW.objs o)
  · exact V_none (G := G.sub (hp w) π Bn) (G' := G.seal_ (hp w) π Bn) (fun _ _ e => e) (fun _ _ e => e) (V_bor _ hbor _ hv)

theorem CallsA.lend {f : FuncId} {args : List AC} {objs objs1 objs2 : List AObj} {res res2 : AC} (h : CallsA P f args objs res objs1) (π Bn : List Nat) (hn : nodupB (π ++ Bn) = true) (ha : allN (fun o => isCells (z36 objs1 o)) π = true)
    (hf : fixed objs.length 0 π = true) (hr : bor (z36 objs1) π Bn res = res2) (hp' : PassOk (z36 objs1) π Bn π objs2) : CallsA P f args objs res2 objs2 := by
  refine ⟨h.1, fun G w vs hW hs hv => (h.2 G w vs hW hs hv).mono ?_⟩
  rintro e w' ⟨G', v, rfl, h1, h2, h3, h4, h5⟩
  have hnd := nodupB_iff hn
  obtain ⟨k1, k2, k3, k4⟩ := seal_core (π := π) (Bn := Bn) h4 (List.nodup_append.1 hnd).1 (fun o ho hb => (List.nodup_append.1 hnd).2.2 o ho o hb rfl) (allN_spec ha)
  refine ⟨_, v, rfl, h1.trans k2, fun o t ho e => ?_, h3, by rw [← hp'.spec]; exact k1, by rw [← hr]; exact k4 _ _ h5⟩
  have := z123 objs.length 0 π hf o ho
  rw [Nat.zero_add] at this
  exact k3 o o t (idx_get (List.nodup_append.1 hnd).1 this) (h2 o t ho e)

/-- a new slice becomes kept data -/
theorem CallsA.keep {f : FuncId} {args : List AC} {w n : Nat} {es : List (List AC)} (h : CallsA P f args [] (.sref 0 0 n) [.cells w es]) (hu : z57 es = es) (hl : es.length = n) : CallsA P f args [] (.list w n es) [] :=
  h.lend [] [0] rfl rfl rfl (bor_seal rfl rfl rfl rfl hu hl) z6

theorem get_fill {α : Type} {f : α → List AC} {l : List α} {z : List AC} {k : Nat} {K : List AC → Prop} (h : k < l.length) (kk : K z) : ∃ e, ((l.take k).map f ++ List.replicate (l.length - k) z)[(k : Int).toNat + 0]? = some e ∧ K e :=
  ⟨z, fill_get _ _ _ _ h, kk⟩
theorem obj_fill {α : Type} {M w : Nat} {r : Nat → Nat} {f : α → List AC} {l : List α} {z e : List AC} {k j : Nat} {x : AObj} (hk : k < l.length) (hx : x = .cells w (((l.take k).map f ++ List.replicate (l.length - k) z).set j e)) (hj : j = k) (he : e = f l[k]) (hf : ∀ a, flatL (f a) = true) (hz : flatL z = true) :
    z126 M (.cells w ((l.take (k + 1)).map f ++ List.replicate (l.length - (k + 1)) z)) ∧ x = z107 r (.cells w ((l.take (k + 1)).map f ++ List.replicate (l.length - (k + 1)) z)) := by
  subst hj he
  exact z41 (by rw [hx, fill_set _ _ _ _ hk]) (z85 (z12 hf) (z84 hz))
theorem fill_end {α : Type} (f : α → List AC) (l : List α) (z : List AC) (k : Nat) (h : k = l.length) : (l.take k).map f ++ List.replicate (l.length - k) z = l.map f := by
  subst h; simp
/-- a list that grows -/
theorem obj_app {α : Type} {M w : Nat} {r : Nat → Nat} {f : α → List AC} {l : List α} {e : List AC} {k : Nat} {x : AObj} (hk : k < l.length) (n : Nat) (hx : x = .cells w (((l.take k).map f).take n ++ [e])) (hn : n = k) (he : e = f l[k]) (hf : ∀ a, flatL (f a) = true) :
    z126 M (.cells w ((l.take (k + 1)).map f)) ∧ x = z107 r (.cells w ((l.take (k + 1)).map f)) := by
  subst hn he
  refine z41 ?_ (z12 hf)
  rw [hx, List.take_succ_eq_append_getElem hk, List.map_append, List.take_of_length_le (by simp; omega)]
  rfl

theorem ret_new {m : Nat} {st : St} {o n w : Nat} {es es' : List (List AC)} (hm : fixed m 0 [o] = true) (hf : Flat es) (ho : st.objs o = .cells w es') (he : es' = es) : z50 m st (.sref 0 0 n) [.cells w es] (.sref o 0 n) :=
  ⟨[o], by simp, hm, rfl, ACle.refl _, ⟨z41 (by rw [ho, he]) hf, trivial⟩⟩

theorem z124 {α : Type} (f : α → Value) (l : List α) : z57 (l.map fun a => [AC.raw (f a)]) = l.map fun a => [AC.raw (f a)] :=
  unownLL_map (fun a x hx => by cases hx with | head => rfl | tail _ h => cases h) l
end Go.Gl

/- Ghost logic, part Y: a cell's own slice becomes an object, and back. -/
namespace Go.Gl
variable {P : Program}

def leafL : List AC → Bool
  | [] => true
  | x :: xs => match x.flat && !x.isOwn with
    | true => leafL xs
    | false => false
theorem leafL_iff {xs : List AC} : leafL xs = true ↔ ∀ x ∈ xs, x.flat = true ∧ x.isOwn = false := by
  induction xs with
  | nil => simp [leafL]
  | cons x xs ih =>
    simp only [leafL]
    cases h : (x.flat && !x.isOwn) <;> simp_all
def Leaf (es : List (List AC)) : Prop := ∀ e ∈ es, leafL e = true
theorem Leaf.flat {es : List (List AC)} (h : Leaf es) : Flat es := fun e he => flatL_iff.2 fun x hx => (leafL_iff.1 (h e he) x hx).1
/-- a cell that tells less -/
def LocLe (x y : AC) : Prop := ∀ (G : Ghost) (h : Nat → Option Obj) (l : Loc) (v : Value), V G h l x v → V G h l y v
theorem nils_own {w : Nat} : LocLe .nils (.own w []) := fun G h l v hv => by
  simp only [V] at hv ⊢
  exact ⟨none, 0, hv, Nat.le_refl _, .inl ⟨trivial, rfl⟩⟩
theorem LocLe.refl (x : AC) : LocLe x x := fun _ _ _ _ h => h

theorem Reach.weaken {m n : Nat} {env : List (Nat × AC)} {objs objs' : List AObj} (o : Nat) {wd : Nat} {es es' : List (List AC)} (ho : z36 objs o = .cells wd es) (hl : es'.length = es.length)
    (hr : ∀ (i : Nat) (e' : List AC), es'[i]? = some e' → ∃ e : List AC, es[i]? = some e ∧ e'.length = e.length ∧ ∀ (j : Nat) (x' : AC), e'[j]? = some x' → ∃ x, e[j]? = some x ∧ LocLe x x')
    (hk : applyK objs [⟨o, .dead, .cells wd es'⟩] fun l => l = objs') : Reach m (mkSt n env objs) (mkSt n env objs') := fun G a w hR => by
  obtain ⟨l, rfl, hl'⟩ := applyK_spec hk
  refine ⟨G, SubM.refl m G, ⟨?_, hR.env, hR.size, hR.defers⟩⟩
  show Wf G (z36 l) w
  rw [hl']
  refine ⟨hR.wf.hS, hR.wf.hU, hR.wf.su, hR.wf.sk, fun o' => ?_⟩
  show ObjRel G (hp w) o' (upd (z36 objs) o (.cells wd es') o')
  by_cases h : o' = o
  · subst h
    rw [z44]
    have := hR.wf.objs o'
    rw [show (mkSt n env objs).objs o' = .cells wd es from ho] at this
    rcases this with ⟨h1, h2⟩ | ⟨b, size, c, el, h1, h2, h3, h4, h5⟩
    · subst h1
      exact .inl ⟨List.eq_nil_of_length_eq_zero (by simpa using hl), h2⟩
    · refine .inr ⟨b, size, c, el, h1, h2, h3, h4, ?_⟩
      rw [z54] at h5 ⊢
      intro i e' he'
      obtain ⟨e, he, hle, hx⟩ := hr i e' he'
      obtain ⟨h6, h7⟩ := h5 i e he
      refine ⟨by rw [hle, h6], ?_⟩
      rw [z42] at h7 ⊢
      intro j x' hx'
      obtain ⟨x, hx1, hx2⟩ := hx j x' hx'
      obtain ⟨v, hv1, hv2⟩ := h7 j x hx1
      exact ⟨v, hv1, hx2 _ _ _ _ hv2⟩
  · rw [z76 _ _ h]; exact hR.wf.objs o'

theorem rows_weaken {N w : Nat} : ∀ (i : Nat) (e' : List AC), (List.replicate N [AC.own w []])[i]? = some e' → ∃ e, (List.replicate N [AC.nils])[i]? = some e ∧ e'.length = e.length ∧ ∀ (j : Nat) (x' : AC), e'[j]? = some x' → ∃ x, e[j]? = some x ∧ LocLe x x' := by
  intro i e' he
  rw [List.getElem?_replicate] at he ⊢
  split at he
  · rename_i hi
    cases he
    refine ⟨_, if_pos hi, rfl, fun j x' hx => ?_⟩
    match j, hx with
    | 0, hx => cases hx; exact ⟨_, rfl, nils_own⟩
    | j + 1, hx => simp at hx
  · cases he

theorem stopAt (id : Nat) {m : Nat} {ops : Array Oper} {d : Bool} {Q : Exit → St → Prop} {st : St} (h : AWP P m (.region id ops d) Q st) : AWP P m (.region id ops d) Q st := h
theorem z127 (id : Nat) {m : Nat} {ops : Array Oper} {d : Bool} {c : Code} {Q : Exit → St → Prop} {st : St} (h : AWP P m (.seq (.region id ops d) c) Q st) : AWP P m (.seq (.region id ops d) c) Q st := h
theorem get_set {es : List (List AC)} {i n : Nat} {r : List AC} {K : List AC → Prop} (h : n = i) (hi : i < es.length) (k : K r) : ∃ e, (es.set i r)[n]? = some e ∧ K e :=
  ⟨r, by subst h; exact List.getElem?_set_self hi, k⟩
theorem get_mapI {α : Type} {f : α → List AC} {l : List α} {x : Int} {K : List AC → Prop} (h : x.toNat < l.length) (k : ∀ h : x.toNat < l.length, K (f (l[x.toNat]'h))) : ∃ e, (l.map f)[x.toNat]? = some e ∧ K e := ⟨_, map_get _ _ _ h, k h⟩
theorem ret_newN {m : Nat} {st : St} {o n n' w : Nat} {es es' : List (List AC)} (hm : fixed m 0 [o] = true) (hf : Flat es) (hn : n' = n) (ho : st.objs o = .cells w es') (he : es' = es) : z50 m st (.sref 0 0 n) [.cells w es] (.sref o 0 n') := by
  subst hn; exact ret_new hm hf ho he

theorem Reach.absorb {m n : Nat} {env : List (Nat × AC)} {objs objs' : List AObj} (o q k j : Nat) {wd wd2 len : Nat} {es es2 : List (List AC)} {e : List AC} (ho : z36 objs o = .cells wd es) (he : es[k]? = some e) (hj : e[j]? = some (.sref q 0 len)) (hq : z36 objs q = .cells wd2 es2) (hn : es2.length = len) (hoq : Nat.beq o q = false) (hfl : Flat es2)
    (hk : applyK objs [⟨o, .dead, .cells wd (es.set k (e.set j (.own wd2 es2)))⟩, ⟨q, .dead, .dead⟩] fun l => l = objs') : Reach m (mkSt n env objs) (mkSt n env objs') := fun G a w hR => by
  obtain ⟨l, rfl, hl⟩ := applyK_spec hk
  have h4 := hR.wf.absorb (o := o) (q := q) ho he hj hq hn (by rintro rfl; rw [Nat.beq_refl] at hoq; cases hoq) hfl
  refine ⟨G.absorb o q (k * wd + j), ⟨⟨fun _ _ e => e, rfl⟩, fun o t _ e => e⟩, ⟨?_, fun s => V_none (G := G) (G' := G.absorb o q (k * wd + j)) (fun _ _ e => e) (fun _ _ e => e) (hR.env s), hR.size, hR.defers⟩⟩
  show Wf _ (z36 l) w
  rw [hl]; exact h4

end Go.Gl

/- Rows that are filled by pushes. -/
namespace Go.Gl

def build (N : Nat) (ps : List (Nat × Int)) : List (List Int) := (List.range N).map fun r => (ps.filter (fun p => p.1 == r)).map (·.2)
def ownRow (r : List Int) : List AC := [.own 1 (r.map fun n => [AC.raw (.int .i64 n)])]
theorem getset {es : List (List AC)} {i n : Nat} {r : List AC} (h : n = i) (hi : i < es.length) : (es.set n r)[i]? = some r := by
  subst h; exact List.getElem?_set_self hi
theorem z17 {α : Type} {l : List α} {i : Nat} {d : α} (h : i < l.length) : l.getD i d = l[i] := by
  rw [List.getD_eq_getElem?_getD, List.getElem?_eq_getElem h]; rfl
/- the same, of any elements -/
section gen
variable {α : Type}
end gen
end Go.Gl

/- Ghost logic, part Z: a cell's own slice becomes an object, whatever that slice owns. -/
namespace Go.Gl
variable {P : Program}

mutual
theorem V_mvD (x : AC) (G G' : Ghost) (h h' : Nat → Option Obj) (f : Nat × List Nat → Nat × List Nat) (D : Nat × List Nat → Prop) (hS : ∀ b x, G.S b = some x → G'.S b = some x) (hι : ∀ o t, G.ι o = some t → G'.ι o = some t)
    (hf : ∀ o j q, D (o, q) → f (o, j :: q) = ((f (o, q)).1, j :: (f (o, q)).2)) (hD : ∀ o j q, D (o, q) → D (o, j :: q))
    (hκ : ∀ b p, D p → G.κ b = some p → G'.κ b = some (f p) ∧ h' b = h b) (l : Loc) (v : Value) (hl : ∀ p, l = some p → D p) (hv : V G h l x v) : V G' h' (l.map f) x v := by
  have hb : ∀ b p, False → G.bare.κ b = some p → G'.bare.κ b = some (id p) ∧ h' b = h b := fun _ _ h => h.elim
  match x with
  | .any => simp [V]
  | .raw _ => simpa [V] using hv
  | .list w n es =>
    simp only [V] at hv ⊢
    obtain ⟨a, cap, rfl, hcap, hn, hv⟩ := hv
    refine ⟨a, cap, rfl, hcap, hn, hv.imp id ?_⟩
    rintro ⟨b, off, c, el, fz, rfl, hb', hc⟩
    exact ⟨b, off, c, el, fz, rfl, hS _ _ hb', VLL_mvD es G.bare G'.bare h h' id (fun _ => False) hS (fun _ _ e => e) (fun _ _ _ _ => rfl) (fun _ _ _ h => h) hb none w c off (by simp) hc⟩
  | .pt cs =>
    simp only [V] at hv ⊢
    obtain ⟨b, off, c, el, fz, rfl, hb', hc⟩ := hv
    exact ⟨b, off, c, el, fz, rfl, hS _ _ hb', VL_mvD cs G.bare G'.bare h h' id (fun _ => False) hS (fun _ _ e => e) (fun _ _ _ _ => rfl) (fun _ _ _ h => h) hb none c off (by simp) hc⟩
  | .sref o off len =>
    simp only [V] at hv ⊢
    obtain ⟨cap, hc, hv⟩ := hv
    refine ⟨cap, hc, hv.imp id ?_⟩
    rintro ⟨b, size, w, hb, h2⟩
    exact ⟨b, size, w, hι _ _ hb, h2⟩
  | .ptr o i off =>
    simp only [V] at hv ⊢
    obtain ⟨b, size, w, hb, h2⟩ := hv
    exact ⟨b, size, w, hι _ _ hb, h2⟩
  | .own w es =>
    simp only [V] at hv ⊢
    obtain ⟨a, cap, rfl, hcap, hv⟩ := hv
    refine ⟨a, cap, rfl, hcap, hv.imp id ?_⟩
    rintro ⟨b, c, el, p, rfl, rfl, hk, hb, hs, hc⟩
    obtain ⟨hk', hh'⟩ := hκ b p (hl p rfl) hk
    exact ⟨b, c, el, f p, rfl, rfl, hk', by rw [hh', hb], hs, VLL_mvD es G.bare G'.bare h h' f D hS (fun _ _ e => e) hf hD hκ (some p) w c 0 hl hc⟩
  | .fn g first caps =>
    simp only [V] at hv ⊢
    obtain ⟨xs, ys, rfl, h1, h2, h3, h4⟩ := hv
    exact ⟨xs, ys, rfl, h1, h2, VL_mvD first G G' h h' f D hS hι hf hD hκ none xs 0 (by simp) h3, VL_mvD caps G G' h h' f D hS hι hf hD hκ none ys 0 (by simp) h4⟩
  | .agg cs =>
    simp only [V] at hv ⊢
    obtain ⟨c, rfl, h1, h3⟩ := hv
    exact ⟨c, rfl, h1, VL_mvD cs G G' h h' f D hS hι hf hD hκ none c 0 (by simp) h3⟩
  | .tup cs =>
    simp only [V] at hv ⊢
    obtain ⟨c, rfl, h1, h3⟩ := hv
    exact ⟨c, rfl, h1, VL_mvD cs G G' h h' f D hS hι hf hD hκ none c 0 (by simp) h3⟩
termination_by structural x
theorem VL_mvD (xs : List AC) (G G' : Ghost) (h h' : Nat → Option Obj) (f : Nat × List Nat → Nat × List Nat) (D : Nat × List Nat → Prop) (hS : ∀ b x, G.S b = some x → G'.S b = some x) (hι : ∀ o t, G.ι o = some t → G'.ι o = some t)
    (hf : ∀ o j q, D (o, q) → f (o, j :: q) = ((f (o, q)).1, j :: (f (o, q)).2)) (hD : ∀ o j q, D (o, q) → D (o, j :: q))
    (hκ : ∀ b p, D p → G.κ b = some p → G'.κ b = some (f p) ∧ h' b = h b) (l : Loc) (c : Array Value) (off : Nat) (hl : ∀ p, l = some p → D p) (hv : VL G h l xs c off) : VL G' h' (l.map f) xs c off := by
  match xs with
  | [] => simp [VL]
  | x :: xs =>
    simp only [VL] at hv ⊢
    obtain ⟨⟨v, hv1, hv2⟩, hv3⟩ := hv
    refine ⟨⟨v, hv1, ?_⟩, VL_mvD xs G G' h h' f D hS hι hf hD hκ l c (off + 1) hl hv3⟩
    have := V_mvD x G G' h h' f D hS hι hf hD hκ (l.cell off) v (by
      intro p hp
      cases l with
      | none => simp [Loc.cell] at hp
      | some q => simp [Loc.cell] at hp; subst hp; exact hD _ _ _ (hl q rfl)) hv2
    cases l with
    | none => exact this
    | some q =>
      simp only [Loc.cell, Option.map_some] at this ⊢
      rw [hf q.1 off q.2 (hl q rfl)] at this
      exact this
termination_by structural xs
theorem VLL_mvD (es : List (List AC)) (G G' : Ghost) (h h' : Nat → Option Obj) (f : Nat × List Nat → Nat × List Nat) (D : Nat × List Nat → Prop) (hS : ∀ b x, G.S b = some x → G'.S b = some x) (hι : ∀ o t, G.ι o = some t → G'.ι o = some t)
    (hf : ∀ o j q, D (o, q) → f (o, j :: q) = ((f (o, q)).1, j :: (f (o, q)).2)) (hD : ∀ o j q, D (o, q) → D (o, j :: q))
    (hκ : ∀ b p, D p → G.κ b = some p → G'.κ b = some (f p) ∧ h' b = h b) (l : Loc) (w : Nat) (c : Array Value) (off : Nat) (hl : ∀ p, l = some p → D p) (hv : VLL G h l w es c off) : VLL G' h' (l.map f) w es c off := by
  match es with
  | [] => simp [VLL]
  | e :: es =>
    simp only [VLL] at hv ⊢
    obtain ⟨h1, h2, h3⟩ := hv
    exact ⟨h1, VL_mvD e G G' h h' f D hS hι hf hD hκ l c off hl h2, VLL_mvD es G G' h h' f D hS hι hf hD hκ l w c (off + w) hl h3⟩
termination_by structural es
end

def exposeK (κ : Nat → Option (Nat × List Nat)) (o q pos : Nat) (b : Nat) : Option (Nat × List Nat) := match κ b with
  | some (o', p) => if o' = o ∧ p.getLast? = some pos then some (q, p.dropLast) else some (o', p)
  | none => none
noncomputable def Ghost.exposeD (G : Ghost) (o q pos b0 size wd2 : Nat) : Ghost := { G with κ := exposeK G.κ o q pos, ι := fun o' => if o' = q then some (b0, size, wd2) else G.ι o' }

theorem Wf.exposeD {G : Ghost} {objs : Nat → AObj} {w : World} (hW : Wf G objs w) {o q k j wd wd2 : Nat} {es es2 : List (List AC)} {e : List AC} (ho : objs o = .cells wd es) (he : es[k]? = some e) (hj : e[j]? = some (.own wd2 es2)) (hq : objs q = .fresh) :
    ∃ G', (∀ b x, G.S b = some x → G'.S b = some x) ∧ G'.U = G.U ∧ (∀ o t, G.ι o = some t → G'.ι o = some t) ∧ Wf G' (upd (upd objs o (.cells wd (es.set k (e.set j (.sref q 0 es2.length))))) q (.cells wd2 es2)) w := by
  have hoq : o ≠ q := by rintro rfl; rw [ho] at hq; cases hq
  obtain ⟨b, c, el, hι, hκ, hb, hc⟩ := hW.obj ho he
  have hιq : G.ι q = none := by have := hW.objs q; rw [hq] at this; exact this
  have hkl : k < es.length := (List.getElem?_eq_some_iff.1 he).1
  have hjl : j < e.length := (List.getElem?_eq_some_iff.1 hj).1
  rw [z54] at hc
  obtain ⟨hek, hcv⟩ := hc k e he
  rw [z42] at hcv
  obtain ⟨v0, hv0, hv0'⟩ := hcv j _ hj
  simp only [V, Loc.cell, Option.map_some] at hv0'
  obtain ⟨a, cap, rfl, hcap, hown⟩ := hv0'
  rcases hown with ⟨hes, hcap0⟩ | ⟨b0, c0, el0, p, ha, hp, hκ0, hb0, hsz, hc0⟩
  · -- no block
    subst hes hcap0
    refine ⟨G, fun _ _ e => e, rfl, fun _ _ e => e, hW.hS, hW.hU, hW.su, hW.sk, fun o' => ?_⟩
    by_cases h1 : o' = q
    · subst h1; rw [z44]; exact .inl ⟨rfl, hιq⟩
    · rw [z76 _ _ h1]
      by_cases h2 : o' = o
      · subst h2
        rw [z44]
        refine .inr ⟨b, c.size, c, el, hι, hκ, hb, rfl, ?_⟩
        rw [z54]
        intro i e' he'
        by_cases hik : i = k
        · subst hik
          rw [List.getElem?_set_self hkl] at he'
          cases he'
          refine ⟨by simpa using hek, ?_⟩
          rw [z42]
          intro jj x hx
          by_cases hjj : jj = j
          · subst hjj
            rw [List.getElem?_set_self hjl] at hx
            cases hx
            exact ⟨_, hv0, by simp only [V]; exact ⟨0, Nat.le_refl _, .inl ⟨rfl, a, rfl⟩⟩⟩
          · rw [List.getElem?_set_ne (Ne.symm hjj)] at hx
            exact hcv jj x hx
        · rw [List.getElem?_set_ne (Ne.symm hik)] at he'
          exact hc i e' he'
      · rw [z76 _ _ h2]; exact hW.objs o'
  · subst ha
    cases hp
    rw [Nat.zero_add] at hκ0
    have hS : ∀ b' x, G.S b' = some x → (G.exposeD o q (k * wd + j) b0 c0.size wd2).S b' = some x := fun _ _ e => e
    have hιs : ∀ o' t, G.ι o' = some t → (G.exposeD o q (k * wd + j) b0 c0.size wd2).ι o' = some t := fun o' t e => by
      by_cases h : o' = q
      · subst h; rw [hιq] at e; cases e
      · simp only [Ghost.exposeD, if_neg h]; exact e
    have hκ' : ∀ b' p', ¬(p'.1 = o ∧ p'.2.getLast? = some (k * wd + j)) → G.κ b' = some p' → (G.exposeD o q (k * wd + j) b0 c0.size wd2).κ b' = some p' := fun b' p' hne hk => by
      obtain ⟨p1, p2⟩ := p'
      simp only [Ghost.exposeD, exposeK, hk, if_neg hne]
    have hκm : ∀ b' p', p'.1 = o ∧ p'.2.getLast? = some (k * wd + j) → G.κ b' = some p' → (G.exposeD o q (k * wd + j) b0 c0.size wd2).κ b' = some (q, p'.2.dropLast) := fun b' p' hne hk => by
      obtain ⟨p1, p2⟩ := p'
      simp only [Ghost.exposeD, exposeK, hk, if_pos hne]
    refine ⟨G.exposeD o q (k * wd + j) b0 c0.size wd2, hS, rfl, hιs, hW.hS, hW.hU, hW.su, fun b' p' hk => ?_, fun o' => ?_⟩
    · cases hkb : G.κ b' with
      | none => simp [Ghost.exposeD, exposeK, hkb] at hk
      | some p => exact hW.sk _ _ hkb
    · by_cases h1 : o' = q
      · subst h1
        rw [z44]
        refine .inr ⟨b0, c0.size, c0, el0, by simp [Ghost.exposeD], by have := hκm b0 (o, [k * wd + j]) ⟨rfl, rfl⟩ hκ0; simpa using this, hb0, rfl, ?_⟩
        have := VLL_mvD es2 G.bare (G.exposeD o o' (k * wd + j) b0 c0.size wd2) (hp w) (hp w) (fun p => (o', p.2.dropLast)) (fun p => p.1 = o ∧ p.2.getLast? = some (k * wd + j)) hS (fun _ _ e => by cases e)
          (fun o1 j1 q1 h => by
            cases q1 with
            | nil => simp at h
            | cons y ys => simp [List.dropLast_cons_of_ne_nil])
          (fun o1 j1 q1 h => by
            cases q1 with
            | nil => simp at h
            | cons y ys => simpa using h)
          (fun b' p hp hk => ⟨hκm b' p hp hk, rfl⟩) (some (o, [0 + k * wd + j])) wd2 c0 0 (fun p hp => by cases hp; simp) hc0
        simpa using this
      · rw [z76 _ _ h1]
        by_cases h2 : o' = o
        · subst h2
          rw [z44]
          refine .inr ⟨b, c.size, c, el, hιs _ _ hι, hκ' b (o', []) (by simp) hκ, hb, rfl, ?_⟩
          have hmv : ∀ (x : AC) (pos : Nat) (v : Value), pos ≠ 0 + k * wd + j → V G (hp w) (some (o', [pos])) x v → V (G.exposeD o' q (k * wd + j) b0 c0.size wd2) (hp w) (some (o', [pos])) x v := fun x pos v hne hv => by
            have := V_move x G (G.exposeD o' q (k * wd + j) b0 c0.size wd2) (hp w) (hp w) id (fun p => p.2.getLast? = some pos) hS hιs (fun _ _ _ => rfl) (fun o'' j' q' h => by
              cases q' with
              | nil => simp at h
              | cons y ys => simpa using h) (fun b' p hp hk => ⟨hκ' b' p (by rintro ⟨_, h⟩; rw [hp] at h; cases h; exact hne (by omega)) hk, rfl⟩) (some (o', [pos])) v (fun p hp => by cases hp; rfl) hv
            simpa using this
          rw [z54]
          intro i e' he'
          by_cases hik : i = k
          · subst hik
            rw [List.getElem?_set_self hkl] at he'
            cases he'
            refine ⟨by simpa using hek, ?_⟩
            rw [z42]
            intro jj x hx
            by_cases hjj : jj = j
            · subst hjj
              rw [List.getElem?_set_self hjl] at hx
              cases hx
              refine ⟨_, hv0, ?_⟩
              simp only [V]
              exact ⟨cap, by omega, .inr ⟨b0, c0.size, wd2, by simp [Ghost.exposeD], by simpa using hsz, by simp⟩⟩
            · rw [List.getElem?_set_ne (Ne.symm hjj)] at hx
              obtain ⟨v, hv1, hv2⟩ := hcv jj x hx
              exact ⟨v, hv1, by simpa [Loc.cell] using hmv x _ v (by omega) (by simpa [Loc.cell] using hv2)⟩
          · rw [List.getElem?_set_ne (Ne.symm hik)] at he'
            obtain ⟨h3, h4⟩ := hc i e' he'
            refine ⟨h3, ?_⟩
            rw [z42] at h4 ⊢
            intro jj x hx
            obtain ⟨v, hv1, hv2⟩ := h4 jj x hx
            have hjw : jj < wd := by rw [← h3]; exact (List.getElem?_eq_some_iff.1 hx).1
            have hne : 0 + i * wd + jj ≠ 0 + k * wd + j := by
              intro heq
              have hj' : j < wd := by rw [← hek]; exact hjl
              rcases Nat.lt_or_gt_of_ne hik with hlt | hlt
              · have : (i + 1) * wd ≤ k * wd := Nat.mul_le_mul_right _ hlt
                rw [Nat.add_mul] at this; omega
              · have : (k + 1) * wd ≤ i * wd := Nat.mul_le_mul_right _ hlt
                rw [Nat.add_mul] at this; omega
            exact ⟨v, hv1, by simpa [Loc.cell] using hmv x _ v hne (by simpa [Loc.cell] using hv2)⟩
        · rw [z76 _ _ h2]
          exact other_obj hS (fun _ _ e => hιs _ _ e) (by simp [Ghost.exposeD, h1]) (fun b' p hp hk => ⟨hκ' b' p (by rintro ⟨h, _⟩; exact h2 (hp.symm.trans h)) hk, rfl⟩) (hW.objs o')

theorem Reach.exposeD {m n : Nat} {env : List (Nat × AC)} {objs objs' : List AObj} (o k j : Nat) {wd wd2 : Nat} {es es2 : List (List AC)} {e : List AC} (ho : z36 objs o = .cells wd es) (he : es[k]? = some e) (hj : e[j]? = some (.own wd2 es2))
    (hk : applyK objs [⟨o, .dead, .cells wd (es.set k (e.set j (.sref objs.length 0 es2.length)))⟩, ⟨objs.length, .fresh, .cells wd2 es2⟩] fun l => l = objs') : Reach m (mkSt n env objs) (mkSt n env objs') := fun G a w hR => by
  obtain ⟨l, rfl, hl⟩ := applyK_spec hk
  obtain ⟨G', h1, h2, h3, h4⟩ := hR.wf.exposeD (q := objs.length) ho he hj (z69 (Nat.le_refl _))
  refine ⟨G', ⟨⟨h1, h2⟩, fun o t _ e => h3 o t e⟩, ⟨?_, fun s => V_none h1 h3 (hR.env s), hR.size, hR.defers⟩⟩
  show Wf G' (z36 l) w
  rw [hl]; exact h4

end Go.Gl

/- Data that owns its parts; marks. -/
namespace Go.Gl

mutual
def Tree.co : Tree → List AC
  | .mk k v l => [.int k, .int v, .own 3 (Tree.cos l)]
def Tree.cos : List Tree → List (List AC)
  | [] => []
  | t :: l => Tree.co t :: Tree.cos l
end
/-- the numbers that a marking writes -/
def marks (k : Int) (n : Nat) : List Int := (List.range n).map fun i : Nat => k + i
theorem fill_set2 {α : Type} {f : α → List AC} {l : List α} {z : List AC} {k n : Nat} {e1 e2 : List AC} (h : k < l.length) (hn : n = k) (he : e2 = f l[k]) :
    (((l.take k).map f ++ List.replicate (l.length - k) z).set n e1).set k e2 = (l.take (k + 1)).map f ++ List.replicate (l.length - (k + 1)) z := by
  subst hn he
  rw [List.set_set, fill_set _ _ _ _ h]
theorem fill_len {α : Type} {f : α → List AC} {l : List α} {z : List AC} {k : Nat} (h : k ≤ l.length) : ((l.take k).map f ++ List.replicate (l.length - k) z).length = l.length := by
  simp; omega
theorem z31 {es : List (List AC)} {i n : Nat} {r : List AC} {K : List AC → Prop} (h : n = i) (hg : es[i]? = some r) (k : K r) : ∃ e, es[n]? = some e ∧ K e := ⟨r, by rw [h]; exact hg, k⟩
theorem env_int {r : Nat → Nat} {a b : Int} (h : a = b) : AC.int a = (AC.int b).ren r := by rw [h]; rfl
end Go.Gl

/- Numbering by first occurrence; what is lent. -/
namespace Go.Gl

def numF (same : Nat → Nat → Bool) : Nat → List Int × Nat
  | 0 => ([], 0)
  | i + 1 => match (List.range i).find? (same i) with
    | some k => ((numF same i).1 ++ [(numF same i).1.getD k 0], (numF same i).2)
    | none => ((numF same i).1 ++ [((numF same i).2 : Int)], (numF same i).2 + 1)
theorem z55 (same : Nat → Nat → Bool) (n : Nat) : (numF same n).1.length = n := by
  induction n with
  | zero => rfl
  | succ i ih => simp only [numF]; split <;> simp [ih]
theorem numF_pre {same : Nat → Nat → Bool} {i n : Nat} (h : i ≤ n) : (numF same n).1.take i = (numF same i).1 := by
  induction n with
  | zero => obtain rfl : i = 0 := by omega
            rfl
  | succ n ih =>
    rcases Nat.lt_or_ge n i with h1 | h1
    · obtain rfl : i = n + 1 := by omega
      rw [List.take_of_length_le (by rw [z55]; omega)]
    · have hl := z55 same n
      rw [← ih h1]
      simp only [numF]
      split <;> rw [List.take_append_of_le_length (by omega)]
theorem numF_at {same : Nat → Nat → Bool} {i k n : Nat} (h : k < i) (hi : i ≤ n) : (numF same i).1.getD k 0 = (numF same n).1[k]'(by rw [z55]; omega) := by
  rw [z17 (by rw [z55]; exact h)]
  simp only [← numF_pre hi, List.getElem_take]
theorem numF_lt (same : Nat → Nat → Bool) (n : Nat) : (∀ x ∈ (numF same n).1, 0 ≤ x ∧ x < (numF same n).2) ∧ (numF same n).2 ≤ n := by
  induction n with
  | zero => exact ⟨fun x hx => (by cases hx), Nat.le_refl _⟩
  | succ i ih =>
    obtain ⟨h1, h2⟩ := ih
    simp only [numF]
    split
    · rename_i k hk
      have hki : k < i := List.mem_range.1 (List.mem_of_find?_eq_some hk)
      have := h1 _ (List.getElem_mem (l := (numF same i).1) (n := k) (by rw [z55]; exact hki))
      rw [z17 (by rw [z55]; exact hki)]
      refine ⟨fun x hx => ?_, by dsimp only; omega⟩
      rcases List.mem_append.1 hx with hx | hx
      · exact h1 x hx
      · rw [List.mem_singleton.1 hx]; exact this
    · refine ⟨fun x hx => ?_, by dsimp only; omega⟩
      rcases List.mem_append.1 hx with hx | hx
      · have := h1 x hx
        dsimp only; omega
      · rw [List.mem_singleton.1 hx]; dsimp only; omega
theorem find_none {p : Nat → Bool} {i : Nat} (h : ∀ j, j < i → p j = false) : (List.range i).find? p = none := by
  rw [List.find?_eq_none]
  intro x hx
  rw [h x (List.mem_range.1 hx)]; simp
theorem find_some {p : Nat → Bool} {i k : Nat} (hk : k < i) (h : p k = true) (hn : ∀ j, j < k → p j = false) : (List.range i).find? p = some k := by
  induction i with
  | zero => omega
  | succ i ih =>
    rw [List.range_succ, List.find?_append]
    rcases Nat.lt_or_ge k i with h1 | h1
    · rw [ih h1]; rfl
    · obtain rfl : k = i := by omega
      rw [find_none hn]
      simp [h]
theorem numF_succ {same : Nat → Nat → Bool} {i n : Nat} (hi : i < n) : ∃ h : i < (numF same n).1.length, (numF same (i + 1)).1 = (numF same i).1 ++ [(numF same n).1[i]] := by
  have hl : i < (numF same n).1.length := by rw [z55]; exact hi
  refine ⟨hl, ?_⟩
  rw [← numF_pre (i := i + 1) (n := n) hi, ← numF_pre (i := i) (n := n) (by omega), List.take_succ_eq_append_getElem hl]
theorem z99 {same : Nat → Nat → Bool} {i n : Nat} (hi : i < n) (h : ∀ j, j < i → same i j = false) : (numF same n).1[i]'(by rw [z55]; exact hi) = (numF same i).2 ∧ (numF same (i + 1)).2 = (numF same i).2 + 1 := by
  obtain ⟨hl, h1⟩ := numF_succ (same := same) hi
  simp only [numF, find_none h] at h1 ⊢
  have := List.append_cancel_left h1
  exact ⟨(List.cons.inj this).1.symm, trivial⟩
theorem z93 {same : Nat → Nat → Bool} {i k n : Nat} (hi : i < n) (hk : k < i) (hs : same i k = true) (h : ∀ j, j < k → same i j = false) : (numF same n).1[i]'(by rw [z55]; exact hi) = (numF same n).1[k]'(by rw [z55]; omega) ∧ (numF same (i + 1)).2 = (numF same i).2 := by
  obtain ⟨hl, h1⟩ := numF_succ (same := same) hi
  simp only [numF, find_some hk hs h] at h1 ⊢
  have := List.append_cancel_left h1
  exact ⟨by rw [← (List.cons.inj this).1, numF_at (n := n) hk (by omega)], trivial⟩
theorem numF_lt' {same : Nat → Nat → Bool} {i k n : Nat} (hi : i ≤ n) (hk : k < i) : 0 ≤ (numF same n).1[k]'(by rw [z55]; omega) ∧ (numF same n).1[k]'(by rw [z55]; omega) < (numF same i).2 := by
  rw [← numF_at hk hi]
  refine (numF_lt same i).1 _ ?_
  rw [z17 (by rw [z55]; exact hk)]
  exact List.getElem_mem _
theorem numF_congr {s1 s2 : Nat → Nat → Bool} {n : Nat} (h : ∀ i k, k < i → i < n → s1 i k = s2 i k) : numF s1 n = numF s2 n := by
  induction n with
  | zero => rfl
  | succ i ih =>
    have e := ih fun a b h1 h2 => h a b h1 (by omega)
    have : (List.range i).find? (s1 i) = (List.range i).find? (s2 i) := by
      have : ∀ l : List Nat, (∀ x ∈ l, x < i) → l.find? (s1 i) = l.find? (s2 i) := by
        intro l
        induction l with
        | nil => intro _; rfl
        | cons x l ih2 =>
          intro hx
          rw [List.find?_cons, List.find?_cons, h i x (hx x (by simp)) (by omega), ih2 fun y hy => hx y (by simp [hy])]
      exact this _ fun x hx => List.mem_range.1 hx
    simp only [numF, e, this]

theorem flat_set {es : List (List AC)} {i : Nat} {e : List AC} (h : Flat es) (he : flatL e = true) : Flat (es.set i e) := by
  intro x hx
  rcases List.mem_or_eq_of_mem_set hx with hx | rfl
  · exact h x hx
  · exact he
theorem fill_got {α : Type} {f : α → List AC} {l : List α} {z e : List AC} {i k : Nat} (hk : k < i) (hi : i < l.length) : (((l.take i).map f ++ List.replicate (l.length - i) z).set i e)[k]? = some (f l[k]) := by
  rw [List.getElem?_set_ne (by omega), List.getElem?_append_left (by simp; omega)]
  rw [List.getElem?_map, List.getElem?_take, if_pos hk, List.getElem?_eq_getElem (by omega)]; rfl
theorem take_got {α : Type} {f : α → List AC} {l : List α} {i k : Nat} (hk : k < i) (hi : i ≤ l.length) : ((l.take i).map f)[k]? = some (f l[k]) := by
  rw [List.getElem?_map, List.getElem?_take, if_pos hk, List.getElem?_eq_getElem (by omega)]; rfl

theorem app_last {A : List (List AC)} {e : List AC} {i : Nat} (h : A.length = i) : (A ++ [e])[i]? = some e := by
  subst h; simp
theorem app_len {α : Type} {f : α → List AC} {l : List α} {i n : Nat} (hi : i ≤ l.length) (hn : n = i) : (((l.take i).map f).take n).length = i := by
  subst hn; simp; omega
theorem app_fin {α : Type} {f : α → List AC} {l : List α} {i n : Nat} {e e' : List AC} (hi : i < l.length) (hn : n = i) (he : e' = f l[i]) : ((((l.take i).map f).take n) ++ [e]).set i e' = (l.take (i + 1)).map f := by
  subst hn he
  have hl : ((l.take n).map f).length = n := by simp; omega
  rw [List.take_of_length_le (by omega), List.set_append_right _ _ (by omega), hl, Nat.sub_self, List.set_cons_zero, List.take_succ_eq_append_getElem hi, List.map_append]
  rfl

/-- what is lent reads as data -/
theorem bor_list {objs : Nat → AObj} {π Bn : List Nat} {o w n : Nat} {es L : List (List AC)} (ho : objs o = .cells w es) (h1 : idx π o = none) (h2 : inB Bn o = true) (hl : es.length = n) (hu : z57 es = L) : bor objs π Bn (.sref o 0 n) = .list w n L := by
  rw [bor_full ho h1 h2 hl, hu]
theorem z86 {objs : Nat → AObj} {π Bn : List Nat} : borL objs π Bn [] = [] := rfl
theorem z45 {objs : Nat → AObj} {π Bn : List Nat} {x y : AC} {xs ys : List AC} (h : bor objs π Bn x = y) (k : borL objs π Bn xs = ys) : borL objs π Bn (x :: xs) = y :: ys := by
  simp only [borL, h, k]

section
variable {P : Program}
theorem CallsA.keepT {f : FuncId} {args : List AC} {w n : Nat} {es L : List (List AC)} {y : AC} (h : CallsA P f args [] (.tup [.sref 0 0 n, y]) [.cells w es]) (hu : z57 es = L) (hl : es.length = n) (hy : bor (z36 [.cells w es]) [] [0] y = y) : CallsA P f args [] (.tup [.list w n L, y]) [] := by
  refine h.lend [] [0] rfl rfl rfl ?_ z6
  have := bor_list (objs := z36 [.cells w es]) (π := []) (Bn := [0]) (o := 0) rfl rfl rfl hl hu
  simp only [bor, borL] at this hy ⊢
  rw [this, hy]

theorem Wf.phantoms {G : Ghost} {w0 : World} (hW : Wf G (z36 []) w0) {l : List AObj} (h : ∀ x ∈ l, ∃ w, x = .cells w []) : Wf G (z36 l) w0 := by
  refine ⟨hW.hS, hW.hU, hW.su, hW.sk, fun o => ?_⟩
  have hι : G.ι o = none := by
    have := hW.objs o
    have e : z36 [] o = .fresh := by simp [z36, z49]
    rw [e] at this; exact this
  show ObjRel G (hp w0) o (z36 l o)
  rcases Nat.lt_or_ge o l.length with h1 | h1
  · obtain ⟨w, hw⟩ := h _ (List.getElem_mem h1)
    have : z36 l o = .cells w [] := by
      rw [← hw]; unfold z36; exact z60 (List.getElem?_eq_getElem h1)
    rw [this]; exact .inl ⟨rfl, hι⟩
  · have : z36 l o = .fresh := z69 h1
    rw [this]; exact hι

theorem CallsA.nils {f : FuncId} {args : List AC} {res res' : AC} {l : List AObj} (h : CallsA P f args [] res []) (hl : ∀ x ∈ l, ∃ w, x = .cells w []) (hr : ACle res res') : CallsA P f args [] res' l := by
  refine ⟨h.1, fun G w vs hW hs hv => (h.2 G w vs hW hs hv).mono ?_⟩
  rintro e w' ⟨G', v, rfl, h1, h2, h3, h4, h5⟩
  exact ⟨G', v, rfl, h1, h2, h3, h4.phantoms hl, hr _ _ _ h5⟩
end
theorem nil_sref {o : Nat} : ACle .nils (.sref o 0 0) := fun G h v hv => by
  simp only [V] at hv ⊢
  exact ⟨0, Nat.le_refl _, .inl ⟨rfl, none, hv⟩⟩
end Go.Gl

/- Reachable nodes. -/
namespace Go.Gl

inductive RP (rows : List (List Int)) (ini : List Int) : Int → Prop
  | base {x : Int} : x ∈ ini → RP rows ini x
  | step {x y : Int} : RP rows ini x → y ∈ rows.getD x.toNat [] → RP rows ini y

def InN (N : Nat) (l : List Int) : Prop := ∀ x ∈ l, 0 ≤ x ∧ x < N

section
variable {enc : Bool → List AC}
end
noncomputable instance {rows : List (List Int)} {ini : List Int} {x : Int} : Decidable (RP rows ini x) := Classical.propDecidable _
/-- breadth first -/
def visit (out : List Int) (v : Int) : List Int := if v ∈ out then out else out ++ [v]
def visits (out l : List Int) : List Int := l.foldl visit out
theorem visits_snoc (out l : List Int) (v : Int) : visits out (l ++ [v]) = visit (visits out l) v := by simp [visits]
theorem visits_take {out l : List Int} {k : Nat} (h : k < l.length) : visits out (l.take (k + 1)) = visit (visits out (l.take k)) l[k] := by
  rw [List.take_succ_eq_append_getElem h, visits_snoc]
theorem pigeon : ∀ (N : Nat) (l : List Int), l.Nodup → InN N l → l.length ≤ N
  | 0, l, _, h => by
    cases l with
    | nil => exact Nat.le_refl _
    | cons a l => have := h a (by simp); omega
  | N + 1, l, hn, h => by
    by_cases hN : (N : Int) ∈ l
    · have h1 := pigeon N (l.erase N) (hn.erase _) fun x hx => by
        have h2 := (hn.mem_erase_iff).1 hx
        have h3 := h x h2.2
        have h4 := h2.1
        omega
      rw [List.length_erase_of_mem hN] at h1
      have : 0 < l.length := List.length_pos_of_mem hN
      omega
    · have h1 := pigeon N l hn fun x hx => by
        have h3 := h x hx
        have h4 : x ≠ N := by rintro rfl; exact hN hx
        omega
      omega
section
variable {rows : List (List Int)} {ini : List Int}
theorem row_in {N : Nat} (hr : ∀ r ∈ rows, InN N r) (v : Int) : InN N (rows.getD v.toNat []) := by
  by_cases h : v.toNat < rows.length
  · rw [z17 h]; exact hr _ (List.getElem_mem _)
  · rw [List.getD_eq_getElem?_getD, List.getElem?_eq_none (by omega)]; intro x hx; cases hx
theorem RP.in {x : Int} (hr : ∀ r ∈ rows, InN rows.length r) (hi : InN rows.length ini) (h : RP rows ini x) : 0 ≤ x ∧ x < rows.length := by
  induction h with
  | base h => exact hi _ h
  | step _ h2 _ => exact row_in hr _ _ h2
end
theorem env_sref {r : Nat → Nat} {o o' a n n' : Nat} (h : n = n') (ho : o = r o') : AC.sref o a n = (AC.sref o' a n').ren r := by rw [h, ho]; rfl
end Go.Gl

/- Ghost logic, part Z1: calls whose names are found from the arguments. -/
namespace Go.Gl
variable {P : Program} {st : St} {K : OpK} {f : FuncId} {first caps args args0 : List AC} {objs0 objs1 objs1' : List AObj} {res : AC}

def addN (l : List Nat) (x : Nat) : List Nat := match inB l x with
  | true => l
  | false => l ++ [x]
mutual
/-- the objects that values name, each once, in order -/
def namesA (acc : List Nat) (x : AC) : List Nat := match x with
  | .sref o _ _ => addN acc o
  | .ptr o _ _ => addN acc o
  | .fn _ a b => namesAL (namesAL acc a) b
  | .agg cs => namesAL acc cs
  | .tup cs => namesAL acc cs
  | _ => acc
termination_by structural x
def namesAL (acc : List Nat) (xs : List AC) : List Nat := match xs with
  | [] => acc
  | x :: xs => namesAL (namesA acc x) xs
termination_by structural xs
end

end Go.Gl

/- Ghost logic, part AA: a library function that works in place, by its contract. -/
namespace Go.Gl
open Go.Sort
variable {P : Program}

theorem hp_put {w : World} {b : Nat} {n : Nat} {r : Array Int} {os : Array Obj} {c : Array Value} {el : TypeId} (hb : hp w b = some (.cells c el (0, 0))) :
    hp (grow (putRow (Value.int .i64) (Sort.ahead w n) b 0 r) os) b = some (.cells (putCells (Value.int .i64) 0 r c) el (0, 0)) := by
  have hlt : b < w.heap.size := (Array.getElem?_eq_some_iff.1 (show w.heap[b]? = _ from hb)).1
  have hb' : w.heap[b] = .cells c el (0, 0) := (Array.getElem?_eq_some_iff.1 (show w.heap[b]? = _ from hb)).2
  show (w.heap.modify b (onCells (putCells (Value.int .i64) 0 r)) ++ os)[b]? = _
  rw [Array.getElem?_append_left (by simpa using hlt), Array.getElem?_eq_getElem (by simpa using hlt), Array.getElem_modify]
  simp [hb', onCells]
theorem hp_old {w : World} {b k : Nat} {n : Nat} {r : Array Int} {os : Array Obj} {x : Obj} (hk : k ≠ b) (hx : w.heap[k]? = some x) :
    (grow (putRow (Value.int .i64) (Sort.ahead w n) b 0 r) os).heap[k]? = some x := by
  have hlt : k < w.heap.size := (Array.getElem?_eq_some_iff.1 hx).1
  have hx' : w.heap[k] = x := (Array.getElem?_eq_some_iff.1 hx).2
  show (w.heap.modify b (onCells (putCells (Value.int .i64) 0 r)) ++ os)[k]? = _
  rw [Array.getElem?_append_left (by simpa using hlt), Array.getElem?_eq_getElem (by simpa using hlt), Array.getElem_modify, if_neg (Ne.symm hk), hx']

theorem callsA_inplace {f : FuncId} {l r l' : List Int} {res : AC} (hlen : r.length = l.length) (hpos : 0 < l.length) (hl' : ∀ (i : Nat) (x : Int), l'[i]? = some x → r[i]? = some x) (hf : IsFunc P f)
    (hc : ∀ (blk cap : Nat) (w : World), Holds (Value.int .i64) w blk 0 l.toArray → blk < w.heap.size → l.length ≤ cap → Calls P f #[.slice (some ⟨blk, 0, none⟩) l.length cap] w fun e w' =>
      ∃ v, e = .returned v ∧ (∃ n os, w' = grow (putRow (Value.int .i64) (Sort.ahead w n) blk 0 r.toArray) os) ∧ ∀ (G : Ghost) (h : Nat → Option Obj) (size : Nat), G.ι 0 = some (blk, size, 1) → cap ≤ size → V G h none res v) :
    CallsA P f [.sref 0 0 l.length] [.cells 1 (l.map fun n => [AC.int n])] res [.cells 1 (l'.map fun n => [AC.int n])] := by
  refine ⟨hf, fun G w vs hW hs hv => ?_⟩
  simp only [VL] at hv
  obtain ⟨⟨v, hv1, hv2⟩, _⟩ := hv
  obtain rfl : vs = #[v] := by
    apply Array.ext_getElem?
    intro i
    rcases i with _ | i
    · rw [hv1]; rfl
    · rw [Array.getElem?_eq_none (by simp at hs; omega), Array.getElem?_eq_none (by simp)]
  simp only [V] at hv2
  obtain ⟨cap, hcap, hv2⟩ := hv2
  have ho := hW.objs 0
  have e0 : z36 [.cells 1 (l.map fun n => [AC.int n])] 0 = .cells 1 (l.map fun n => [AC.int n]) := rfl
  rw [e0] at ho
  rcases hv2 with ⟨rfl, _⟩ | ⟨b, size, wd, hι, hsz, rfl⟩
  · omega
  rcases ho with ⟨h0, _⟩ | ⟨b', size', c, el, h1, h2, h3, h4, h5⟩
  · have := congrArg List.length h0
    simp at this
    rw [this] at hpos; simp at hpos
  rw [hι] at h1
  cases h1
  rw [z54] at h5
  have hcell : ∀ j (hj : j < l.length), c[j]? = some (.int .i64 l[j]) := fun j hj => by
    obtain ⟨_, h6⟩ := h5 j [AC.int l[j]] (by rw [List.getElem?_map, List.getElem?_eq_getElem hj]; rfl)
    rw [z42] at h6
    obtain ⟨u, hu, hV⟩ := h6 0 _ rfl
    simp only [V] at hV
    subst hV
    simpa using hu
  have hbw : w.heap[b]? = some (.cells c el (0, 0)) := h3
  have hblt : b < w.heap.size := (Array.getElem?_eq_some_iff.1 hbw).1
  have hH : Holds (Value.int .i64) w b 0 l.toArray := fun j hj => by
    have hj' : j < l.length := by simpa using hj
    refine ⟨?_, by simp [World.frozen?, hbw]⟩
    simp only [World.cell?, hbw, Nat.zero_add]
    simpa [hj'] using hcell j hj'
  have hcsz : l.length ≤ c.size := by
    have := hcell (l.length - 1) (by omega)
    have := (Array.getElem?_eq_some_iff.1 this).1
    omega
  rw [Nat.zero_mul]
  refine (hc b cap w hH hblt hcap).mono ?_
  rintro e w' ⟨v', rfl, ⟨n, os, rfl⟩, hres⟩
  refine ⟨G, v', rfl, Ghost.Sub.refl G, fun _ _ _ h => h, ⟨rfl, rfl, rfl, ?_⟩, ⟨fun k x hk => ?_, fun k x hk => ?_, hW.su, fun k p hk => ?_, fun o => ?_⟩, hres G _ size hι (by simpa using hsz)⟩
  · show _ ≤ (w.heap.modify b _ ++ os).size
    simp
  · have hk2 := hW.hS k x hk
    refine hp_old ?_ hk2
    rintro rfl
    rw [(hW.sk _ _ h2).1] at hk; cases hk
  · have hk2 := hW.hU k x hk
    refine hp_old ?_ hk2
    rintro rfl
    rw [(hW.sk _ _ h2).2.1] at hk; cases hk
  · obtain ⟨s1, s2, s3⟩ := hW.sk k p hk
    refine ⟨s1, s2, ?_⟩
    show k < (w.heap.modify b _ ++ os).size
    simp; omega
  · rcases o with _ | o
    · refine .inr ⟨b, size, putCells (Value.int .i64) 0 r.toArray c, el, hι, h2, hp_put h3, by simp [putCells, h4], ?_⟩
      rw [z54]
      intro i e he
      rw [List.getElem?_map] at he
      cases hx : l'[i]? with
      | none => rw [hx] at he; cases he
      | some x =>
        rw [hx] at he
        cases he
        have hr := hl' i x hx
        have hil : i < r.length := (List.getElem?_eq_some_iff.1 hr).1
        refine ⟨rfl, ?_⟩
        rw [z42]
        intro j y hy
        match j, hy with
        | 0, hy =>
          cases hy
          refine ⟨.int .i64 x, ?_, by simp [V]⟩
          have hr2 : r[i] = x := (List.getElem?_eq_some_iff.1 hr).2
          have hic : i < c.size := by omega
          simp [putCells, hil, hr2, hic]
        | j + 1, hy => simp at hy
    · have h6 := hW.objs (o + 1)
      exact h6
end Go.Gl

/- Ghost logic: a return whose value is settled (sealed and weakened) on the way out. -/
namespace Go.Gl
variable {P : Program} {T : Tab}

inductive F2 {α β : Type} (R : α → β → Prop) : List α → List β → Prop
  | nil : F2 R [] []
  | cons {x : α} {y : β} {xs : List α} {ys : List β} : R x y → F2 R xs ys → F2 R (x :: xs) (y :: ys)

/-! ## what tells less -/
theorem VL_le {xs ys : List AC} (h : F2 LocLe xs ys) : ∀ {G : Ghost} {hh : Nat → Option Obj} {l : Loc} {c : Array Value} {off : Nat}, VL G hh l xs c off → VL G hh l ys c off := by
  induction h with
  | nil => intro G hh l c off _; simp [VL]
  | cons h1 _ ih =>
    intro G hh l c off hv
    simp only [VL] at hv ⊢
    obtain ⟨⟨v, hv1, hv2⟩, hv3⟩ := hv
    exact ⟨⟨v, hv1, h1 _ _ _ _ hv2⟩, ih hv3⟩
theorem forall2_len {α β : Type} {R : α → β → Prop} {xs : List α} {ys : List β} (h : F2 R xs ys) : xs.length = ys.length := by
  induction h with
  | nil => rfl
  | cons _ _ ih => simp [ih]
theorem VLL_le {w : Nat} {xs ys : List (List AC)} (h : F2 (F2 LocLe) xs ys) : ∀ {G : Ghost} {hh : Nat → Option Obj} {l : Loc} {c : Array Value} {off : Nat}, VLL G hh l w xs c off → VLL G hh l w ys c off := by
  induction h with
  | nil => intro G hh l c off _; simp [VLL]
  | cons h1 _ ih =>
    intro G hh l c off hv
    simp only [VLL] at hv ⊢
    obtain ⟨hv1, hv2, hv3⟩ := hv
    exact ⟨by rw [← forall2_len h1, hv1], VL_le h1 hv2, ih hv3⟩
theorem LocLe.trans {x y z : AC} (h : LocLe x y) (k : LocLe y z) : LocLe x z := fun G hh l v hv => k G hh l v (h G hh l v hv)
theorem LocLe.of_eq {x y : AC} (h : x = y) : LocLe x y := h ▸ LocLe.refl x
theorem z47 {w : Nat} : LocLe .nils (.list w 0 []) := fun G h l v hv => by
  simp only [V] at hv ⊢
  exact ⟨none, 0, hv, Nat.le_refl _, rfl, .inl trivial⟩
theorem z66 {xs ys : List AC} (h : F2 LocLe xs ys) : LocLe (.agg xs) (.agg ys) := fun G hh l v hv => by
  simp only [V] at hv ⊢
  obtain ⟨c, rfl, h1, h2⟩ := hv
  exact ⟨c, rfl, by rw [h1, forall2_len h], VL_le h h2⟩
theorem tup_le {xs ys : List AC} (h : F2 LocLe xs ys) : LocLe (.tup xs) (.tup ys) := fun G hh l v hv => by
  simp only [V] at hv ⊢
  obtain ⟨c, rfl, h1, h2⟩ := hv
  exact ⟨c, rfl, by rw [h1, forall2_len h], VL_le h h2⟩
theorem z78 {w n n' : Nat} {xs ys : List (List AC)} (hn : n = n') (h : F2 (F2 LocLe) xs ys) : LocLe (.list w n xs) (.list w n' ys) := fun G hh l v hv => by
  subst hn
  simp only [V] at hv ⊢
  obtain ⟨a, cap, rfl, h1, h2, h3⟩ := hv
  refine ⟨a, cap, rfl, h1, by rw [← forall2_len h, h2], ?_⟩
  rcases h3 with rfl | ⟨b, off, c, el, fz, h4, h5, h6⟩
  · cases h; exact .inl rfl
  · exact .inr ⟨b, off, c, el, fz, h4, h5, VLL_le h h6⟩
theorem f2_refl (xs : List AC) : F2 LocLe xs xs := by
  induction xs with
  | nil => exact .nil
  | cons x xs ih => exact .cons (LocLe.refl x) ih
theorem z27 (xs : List (List AC)) : F2 (F2 LocLe) xs xs := by
  induction xs with
  | nil => exact .nil
  | cons x xs ih => exact .cons (f2_refl x) ih
theorem f22_of_eq {xs ys : List (List AC)} (h : xs = ys) : F2 (F2 LocLe) xs ys := h ▸ z27 xs
theorem node_le' {k v : Int} {x : AC} {l : List Tree} (h : LocLe x (.list 3 l.length (l.map Tree.cs))) : F2 LocLe [.int k, .int v, x] (Tree.cs' (.mk k v l)) :=
  .cons (LocLe.refl _) (.cons (LocLe.refl _) (.cons h .nil))

def ObjLe : AObj → AObj → Prop
  | .cells w es, .cells w' es' => w = w' ∧ F2 (F2 LocLe) es es'
  | .dead, .dead => True
  | _, _ => False
theorem ObjLe.mk {w : Nat} {es es' : List (List AC)} (h : F2 (F2 LocLe) es es') : ObjLe (.cells w es) (.cells w es') := ⟨rfl, h⟩
theorem ObjLe.box {w : Nat} {e e' : List AC} (h : F2 LocLe e e') : ObjLe (.cells w [e]) (.cells w [e']) := ⟨rfl, .cons h .nil⟩

theorem ObjRel.le {G : Ghost} {h : Nat → Option Obj} {o : Nat} {x y : AObj} (hl : ObjLe x y) (hx : ObjRel G h o x) : ObjRel G h o y := by
  cases x with
  | fresh => exact hl.elim
  | dead =>
    cases y with
    | dead => exact hx
    | _ => exact hl.elim
  | cells w es =>
    cases y with
    | cells w' es' =>
      obtain ⟨rfl, hl⟩ := hl
      rcases hx with ⟨h1, h2⟩ | ⟨b, size, c, el, h1, h2, h3, h4, h5⟩
      · subst h1; cases hl; exact .inl ⟨rfl, h2⟩
      · exact .inr ⟨b, size, c, el, h1, h2, h3, h4, VLL_le hl h5⟩
    | _ => exact hl.elim

theorem Wf.le {G : Ghost} {objs objs' : List AObj} {w : World} (h : Wf G (z36 objs) w) (hl : F2 ObjLe objs objs') : Wf G (z36 objs') w := by
  refine ⟨h.hS, h.hU, h.su, h.sk, fun o => ?_⟩
  have ho := h.objs o
  have key : ∀ {xs ys : List AObj} (k : Nat), F2 ObjLe xs ys → ObjLe (z36 xs k) (z36 ys k) ∨ z36 xs k = z36 ys k := by
    intro xs ys k hf
    induction hf generalizing k with
    | nil => exact .inr rfl
    | cons h1 _ ih =>
      cases k with
      | zero => exact .inl h1
      | succ k => exact ih k
  rcases key o hl with h1 | h1
  · exact ObjRel.le h1 ho
  · show ObjRel G (hp w) o (z36 objs' o)
    rw [← h1]; exact ho

theorem CallsA.res {f : FuncId} {args : List AC} {objs objs' : List AObj} {res res' : AC} (h : CallsA P f args objs res objs') (hl : LocLe res res') : CallsA P f args objs res' objs' :=
  ⟨h.1, fun G w vs hW hs hv => (h.2 G w vs hW hs hv).mono fun e w' ⟨G', v, h1, h2, h3, h4, h5, h6⟩ => ⟨G', v, h1, h2, h3, h4, h5, hl _ _ _ _ h6⟩⟩

/-! ## the return -/
def RetS (m : Nat) (o : Nat → AObj) (res : AC) (objs' : List AObj) (r : AC) : Prop :=
  ∀ (G : Ghost) (w : World) (v : Value), Wf G o w → V G (hp w) none r v → ∃ G', SubM m G G' ∧ Wf G' (z36 objs') w ∧ V G' (hp w) none res v

theorem RetS.of {m : Nat} {st : St} {res : AC} {objs' : List AObj} {r : AC} (h : z50 m st res objs' r) : RetS m st.objs res objs' r := fun G w v hW hV => by
  obtain ⟨π, hn, hf, hu, hr, ho⟩ := h
  obtain ⟨ho1, ho2⟩ := objsAll_spec 0 π objs' ho
  have hpick : Wf (G.pick π) (z36 objs') w := hW.pick hn (fun i o hio => ⟨(ho2 i o hio).2, (ho2 i o hio).1⟩) (fun i hi => z69 (by omega))
  exact ⟨G.pick π, SubM.pick (fun i hi => by have := z123 m 0 π hf i hi; simpa using this), hpick, pick_V0 _ hu (hr _ _ _ hV)⟩

theorem RetS.lay (π Bn : List Nat) {m : Nat} {o : Nat → AObj} {res : AC} {objs' : List AObj} {r : AC} (hn : nodupB (π ++ Bn) = true) (ha : allN (fun x => isCells (o x)) π = true) (hf : fixed m 0 π = true)
    (h : RetS m (z36 (π.map (z73 o π Bn))) res objs' (bor o π Bn r)) : RetS m o res objs' r := fun G w v hW hV => by
  have hnd := nodupB_iff hn
  obtain ⟨k1, k2, k3, k4⟩ := seal_core (π := π) (Bn := Bn) hW (List.nodup_append.1 hnd).1 (fun o ho hb => (List.nodup_append.1 hnd).2.2 o ho o hb rfl) (allN_spec ha)
  obtain ⟨G', h1, h2, h3⟩ := h _ w v k1 (k4 _ _ hV)
  refine ⟨G', SubM.trans ⟨k2, fun o t ho e => ?_⟩ h1, h2, h3⟩
  have := z123 m 0 π hf o ho
  rw [Nat.zero_add] at this
  exact k3 o o t (idx_get (List.nodup_append.1 hnd).1 this) e

theorem RetS.done {m : Nat} {objs objs' : List AObj} {res r : AC} (h1 : LocLe r res) (h2 : F2 ObjLe objs objs') : RetS m (z36 objs) res objs' r := fun G w v hW hV =>
  ⟨G, SubM.refl m G, hW.le h2, h1 _ _ _ _ hV⟩

def RetSQ (T : Tab) (rs : List ResultVar) (m : Nat) (res : AC) (objs' : List AObj) (ex : Exit) (st : St) : Prop := match ex with
  | .normal => vcRes T st rs fun xs => RetS m st.objs res objs' (resAC xs)
  | .ret => vcRes T st rs fun xs => RetS m st.objs res objs' (resAC xs)
  | _ => False

theorem rets_ok (hT : z110 P T) {fn : Func} {m : Nat} {res : AC} {objs' : List AObj} {G : Ghost} {st : St} {a : Act} {w : World} (hR : Rel G st a w) (h : vcRes T st fn.results.toList fun xs => RetS m st.objs res objs' (resAC xs)) :
    ∃ v G', (results fn a.tmps).run P w = .ok v w ∧ SubM m G G' ∧ Wf G' (z36 objs') w ∧ V G' (hp w) none res v := by
  obtain ⟨xs, vs, h1, h2, h3, _, h4⟩ := res_run hT hR _ _ h
  have hres : (results fn a.tmps).run P w = .ok (if h : vs.toArray.size = 1 then vs.toArray[0] else .tuple vs.toArray) w := by
    rw [results_eq, Array.mapM_eq_mapM_toList]
    simp [h1]
  have hV : V G (hp w) none (resAC xs) (if h : vs.toArray.size = 1 then vs.toArray[0] else .tuple vs.toArray) := by
    by_cases hl : vs.length = 1
    · obtain ⟨v, rfl⟩ := List.length_eq_one_iff.1 hl
      obtain ⟨x, rfl⟩ := List.length_eq_one_iff.1 (h2 ▸ hl)
      obtain ⟨v', hv1, hv2⟩ := h3 0 x (by simp)
      simp at hv1; subst hv1
      simpa [resAC] using hv2
    · rw [dif_neg (by simpa using hl)]
      have : resAC xs = .tup xs := by
        unfold resAC
        split
        · simp at h2; exact absurd h2 hl
        · rfl
      rw [this]
      simp only [V]
      refine ⟨_, rfl, by simp [h2], z42.2 fun j x hx => ?_⟩
      obtain ⟨v, hv1, hv2⟩ := h3 j x hx
      exact ⟨v, by simpa using hv1, hv2⟩
  obtain ⟨G', h5, h6, h7⟩ := h4 G w _ hR.wf hV
  exact ⟨_, G', hres, h5, h6, h7⟩

theorem z16 (hT : z110 P T) {f : FuncId} {fn : Func} {c : Code} (hf : P.funcs[f]? = some fn) (hb : fn.body = some c) (hn : (fn.name == "runtime.NumGoroutine") = false) {args : List AC} {objs : List AObj} {res : AC} {objs' : List AObj}
    (n : Nat) (hnt : fn.ntmps = n) (hl : args.length ≤ n) (h : AWP P objs.length c (RetSQ T fn.results.toList objs.length res objs') (mkSt n (z116 0 args) objs)) : CallsA P f args objs res objs' := by
  subst hnt
  refine ⟨⟨fn, c, hf, hn, hb⟩, fun G w vs hW hs hv => ?_⟩
  refine calls_of_wp hf hb (wp_mono (h G { tmps := vs ++ Array.replicate (fn.ntmps - vs.size) undef, defers := [] } w ⟨hW, fun s => ?_, by show _ = fn.ntmps; simp; omega, rfl⟩) fun ex a' w' hq => ?_)
  · show V G (hp w) none (z89 (z116 0 args) s) _
    rw [numbered_eq]
    by_cases hsl : s < args.length
    · have hx : args[s]? = some args[s] := List.getElem?_eq_getElem hsl
      obtain ⟨v, hv1, hv2⟩ := z42.1 hv s _ hx
      rw [Nat.zero_add] at hv1
      rw [z60 hx]
      have : (vs ++ Array.replicate (fn.ntmps - vs.size) undef).getD s undef = v := by
        rw [Array.getD_eq_getD_getElem?, Array.getElem?_append, if_pos (by omega), hv1]; rfl
      rw [this]; exact hv2
    · rw [z69 (by omega)]; simp [V]
  · obtain ⟨G', st', h1, h2, h3, h4⟩ := hq
    have key : (vcRes T st' fn.results.toList fun xs => RetS objs.length st'.objs res objs' (resAC xs)) → ∃ v, (results fn a'.tmps).run P w' = .ok v w' ∧ ∃ G'' v', Ending.returned v = .returned v' ∧ G.Sub G'' ∧ (∀ o t, o < objs.length → G.ι o = some t → G''.ι o = some t) ∧ Le w w' ∧ Wf G'' (z36 objs') w' ∧ V G'' (hp w') none res v' := by
      intro hr
      obtain ⟨v, G'', h5, h6, h7, h8⟩ := rets_ok hT h4 hr
      have h9 := h1.trans h6
      exact ⟨v, h5, G'', v, rfl, h9.1, h9.2, h2, h7, h8⟩
    cases ex with
    | normal => exact ⟨h4.defers, key h3⟩
    | ret => exact ⟨h4.defers, key h3⟩
    | _ => exact h3.elim

/-- a state that tells less -/
def envLe (f : Nat → AC) : List (Nat × AC) → Prop
  | [] => True
  | (s, x) :: r => LocLe (f s) x ∧ envLe f r
theorem envLe_spec {f : Nat → AC} {env : List (Nat × AC)} (h : envLe f env) (s : Nat) : LocLe (f s) (z89 env s) := by
  induction env with
  | nil => exact fun G hh l v _ => by simp [z89, V]
  | cons y env ih =>
    obtain ⟨s', x⟩ := y
    obtain ⟨h1, h2⟩ := h
    simp only [z89]
    cases hb : Nat.beq s s' with
    | true => rw [Nat.eq_of_beq_eq_true hb]; exact h1
    | false => exact ih h2
theorem SealW.reach (π Bn : List Nat) {m n : Nat} {st : St} {env : List (Nat × AC)} {objs : List AObj} (hst : st.n = n) (hn : nodupB (π ++ Bn) = true) (ha : allN (fun x => isCells (st.objs x)) π = true) (hf : fixed m 0 π = true)
    (he : envLe (fun s => bor st.objs π Bn (st.env s)) env) (ho : F2 ObjLe (π.map (z73 st.objs π Bn)) objs) : Reach m st (mkSt n env objs) := fun G a w hR => by
  have hnd := nodupB_iff hn
  obtain ⟨k1, k2, k3, k4⟩ := seal_core (π := π) (Bn := Bn) hR.wf (List.nodup_append.1 hnd).1 (fun o ho hb => (List.nodup_append.1 hnd).2.2 o ho o hb rfl) (allN_spec ha)
  refine ⟨_, ⟨k2, fun o t ho e => ?_⟩, ⟨k1.le ho, fun s => ?_, by rw [hR.size, hst]; rfl, hR.defers⟩⟩
  · have := z123 m 0 π hf o ho
    rw [Nat.zero_add] at this
    exact k3 o o t (idx_get (List.nodup_append.1 hnd).1 this) e
  · exact envLe_spec he s _ _ _ _ (k4 _ _ (hR.env s))
theorem z80 {q : Nat} : LocLe .nils (.sref q 0 0) := fun G h l v hv => by
  simp only [V] at hv ⊢
  exact ⟨0, Nat.le_refl _, .inl ⟨rfl, none, hv⟩⟩
/-- an empty object more -/
theorem Reach.empty (w : Nat) {m n : Nat} {env : List (Nat × AC)} {objs : List AObj} (_hm : Nat.ble m objs.length = true) : Reach m (mkSt n env objs) (mkSt n env (objs ++ [.cells w []])) := fun G a wd hR => by
  refine ⟨G, SubM.refl m G, ⟨⟨hR.wf.hS, hR.wf.hU, hR.wf.su, hR.wf.sk, fun o => ?_⟩, hR.env, hR.size, hR.defers⟩⟩
  show ObjRel G (hp wd) o (z49 .fresh (objs ++ [.cells w []]) o)
  have ho : ObjRel G (hp wd) o (z49 .fresh objs o) := hR.wf.objs o
  rcases Nat.lt_trichotomy o objs.length with h | h | h
  · have h1 : (objs ++ [AObj.cells w []])[o]? = some objs[o] := by rw [List.getElem?_append_left h, List.getElem?_eq_getElem h]
    rw [z60 h1]
    rwa [z60 (List.getElem?_eq_getElem h)] at ho
  · subst h
    rw [z60 (x := AObj.cells w []) (by simp)]
    rw [z69 (Nat.le_refl _)] at ho
    exact .inl ⟨rfl, ho⟩
  · rw [z69 (by simp; omega)]
    rwa [z69 (by omega)] at ho

def z79 {α : Type} (I : α → List (Nat × AC) × List AObj) (ok : α → Prop) (μ : α → Nat) (x : α) (m n : Nat) (st : St) : Prop := ∃ y, ok y ∧ μ y < μ x ∧ Reach m st (mkSt n (I y).1 (I y).2)
theorem z48 {α : Type} {I : α → List (Nat × AC) × List AObj} {ok : α → Prop} {μ : α → Nat} {x : α} {m n : Nat} {st : St} (y : α) (h1 : ok y) (h2 : μ y < μ x) (h3 : Reach m st (mkSt n (I y).1 (I y).2)) : z79 I ok μ x m n st := ⟨y, h1, h2, h3⟩
theorem z104 {α : Type} {m n : Nat} {env : List (Nat × AC)} {objs : List AObj} {body : Code} {Q : Exit → St → Prop} (I : α → List (Nat × AC) × List AObj) (ok : α → Prop) (μ : α → Nat) (x0 : α) (h0 : ok x0) (hinit : Reach m (mkSt n env objs) (mkSt n (I x0).1 (I x0).2))
    (round : ∀ x, ok x → AWP P m body (thenA (fun st' => z79 I ok μ x m n st') Q) (mkSt n (I x).1 (I x).2)) : AWP P m (.loop body) Q (mkSt n env objs) := awp_loopR I ok μ x0 h0 hinit round
theorem z25 {objs : Nat → AObj} {π Bn : List Nat} {o w : Nat} {es es' : List (List AC)} (ho : objs o = .cells w es) (hf : Flat es) (h : F2 (F2 LocLe) es es') : ObjLe (z73 objs π Bn o) (.cells w es') := by
  rw [pass_flat ho hf]; exact ⟨rfl, h⟩
theorem z33 {α : Type} {f : α → List AC} (h : ∀ a, unownL (f a) = f a) (l : List α) : z57 (l.map f) = l.map f := by
  induction l with
  | nil => rfl
  | cons a l ih => simp only [List.map_cons, z57, h a, ih]
theorem z26 {a : List (List AC)} (h : Flat a) (n : Nat) : Flat (a.take n) := fun e he => h e (List.mem_of_mem_take he)
theorem z112 {α : Type} {f : α → List AC} {l : List α} {k n : Nat} {e : List AC} (hn : n = k) (hk : k < l.length) (he : F2 LocLe e (f (l[k]'hk))) : F2 (F2 LocLe) (((l.take k).map f).take n ++ [e]) ((l.take (k + 1)).map f) := by
  subst hn
  rw [List.take_succ_eq_append_getElem hk, List.map_append, List.take_of_length_le (by simp; omega)]
  have : ∀ (a : List (List AC)) {b c : List AC}, F2 LocLe b c → F2 (F2 LocLe) (a ++ [b]) (a ++ [c]) := fun a b c h => by
    induction a with
    | nil => exact .cons h .nil
    | cons x a ih => exact .cons (f2_refl x) ih
  exact this _ he
theorem int_le {a b : Int} (h : a = b) : LocLe (.int a) (.int b) := h ▸ LocLe.refl _
theorem end_le {α : Type} {w k : Nat} {f : α → List AC} {l : List α} (h : k = l.length) : LocLe (.list w k ((l.take k).map f)) (.list w l.length (l.map f)) := by
  subst h; rw [List.take_length]; exact LocLe.refl _
theorem kids_end_le {k : Nat} {l : List Tree} (h : k = l.length) : LocLe (.list 3 k ((l.take k).map Tree.cs')) (.list 3 l.length (l.map Tree.cs)) := by
  rw [Tree.cs_eq]; exact end_le h
theorem f22_cs {l : List Tree} : F2 (F2 LocLe) (l.map Tree.cs') (l.map Tree.cs) := by rw [Tree.cs_eq]; exact z27 _
theorem Wf.empty {G : Ghost} {objs : List AObj} {wd : World} (w : Nat) (h : Wf G (z36 objs) wd) : Wf G (z36 (objs ++ [.cells w []])) wd := by
  refine ⟨h.hS, h.hU, h.su, h.sk, fun o => ?_⟩
  show ObjRel G (hp wd) o (z49 .fresh (objs ++ [.cells w []]) o)
  have ho : ObjRel G (hp wd) o (z49 .fresh objs o) := h.objs o
  rcases Nat.lt_trichotomy o objs.length with h | h | h
  · have h1 : (objs ++ [AObj.cells w []])[o]? = some objs[o] := by rw [List.getElem?_append_left h, List.getElem?_eq_getElem h]
    rw [z60 h1]
    rwa [z60 (List.getElem?_eq_getElem h)] at ho
  · subst h
    rw [z60 (x := AObj.cells w []) (by simp)]
    rw [z69 (Nat.le_refl _)] at ho
    exact .inl ⟨rfl, ho⟩
  · rw [z69 (by simp; omega)]
    rwa [z69 (by omega)] at ho
theorem RetS.empty (w : Nat) {m : Nat} {objs : List AObj} {res : AC} {objs' : List AObj} {r : AC} (h : RetS m (z36 (objs ++ [.cells w []])) res objs' r) : RetS m (z36 objs) res objs' r := fun G wd v hW hV => h G wd v (hW.empty w) hV
/-- what a call leaves, settled -/
theorem CallsA.settle {f : FuncId} {args : List AC} {objs objs1 objs2 : List AObj} {res res2 : AC} (h : CallsA P f args objs res objs1) (π Bn : List Nat) (hn : nodupB (π ++ Bn) = true) (ha : allN (fun o => isCells (z36 objs1 o)) π = true)
    (hf : fixed objs.length 0 π = true) (hr : LocLe (bor (z36 objs1) π Bn res) res2) (ho : F2 ObjLe (π.map (z73 (z36 objs1) π Bn)) objs2) : CallsA P f args objs res2 objs2 := by
  refine ⟨h.1, fun G w vs hW hs hv => (h.2 G w vs hW hs hv).mono ?_⟩
  rintro e w' ⟨G', v, rfl, h1, h2, h3, h4, h5⟩
  have hnd := nodupB_iff hn
  obtain ⟨k1, k2, k3, k4⟩ := seal_core (π := π) (Bn := Bn) h4 (List.nodup_append.1 hnd).1 (fun o ho hb => (List.nodup_append.1 hnd).2.2 o ho o hb rfl) (allN_spec ha)
  refine ⟨_, v, rfl, h1.trans k2, fun o t ho e => ?_, h3, k1.le ho, hr _ _ _ _ (k4 _ _ h5)⟩
  have := z123 objs.length 0 π hf o ho
  rw [Nat.zero_add] at this
  exact k3 o o t (idx_get (List.nodup_append.1 hnd).1 this) (h2 o t ho e)
theorem nils_of {l : List Tree} (h : l = []) : LocLe .nils (.list 3 l.length (l.map Tree.cs)) := by subst h; exact z47
theorem lst_le {α : Type} {w n : Nat} {f : α → List AC} {l : List α} (h : n = l.length) : LocLe (.list w n (l.map f)) (.list w l.length (l.map f)) := by subst h; exact LocLe.refl _
def borX (objs : Nat → AObj) (π Bn : List Nat) (x : AC) : AC := match x with
  | .own w' es' => .own w' es'
  | x => bor objs π Bn x
theorem passObj_cells {objs : Nat → AObj} {π Bn : List Nat} {o w : Nat} {es : List (List AC)} (ho : objs o = .cells w es) : z73 objs π Bn o = .cells w (es.map (·.map (borX objs π Bn))) := by
  simp only [z73, ho]; rfl
theorem borX_flat {objs : Nat → AObj} {π Bn : List Nat} {es : List (List AC)} (h : Flat es) : es.map (·.map (borX objs π Bn)) = es := by
  have := pass_flat (objs := fun _ => .cells 0 es) (π := π) (Bn := Bn) (o := 0) rfl h
  conv => rhs; rw [← List.map_id es]
  refine List.map_congr_left fun e he => ?_
  conv => rhs; rw [id, ← List.map_id e]
  refine List.map_congr_left fun x hx => ?_
  have := flatL_iff.1 (h e he) x hx
  cases x <;> first | rfl | simp [AC.flat] at this
theorem z35 {objs : Nat → AObj} {π Bn : List Nat} {o w : Nat} {A L : List (List AC)} {e : List AC} (ho : objs o = .cells w (A ++ [e])) (hf : Flat A) (h : F2 (F2 LocLe) (A ++ [e.map (borX objs π Bn)]) L) : ObjLe (z73 objs π Bn o) (.cells w L) := by
  rw [passObj_cells ho, List.map_append, borX_flat hf]
  exact ⟨rfl, h⟩
theorem pass_set {objs : Nat → AObj} {π Bn : List Nat} {o w i : Nat} {A L : List (List AC)} {e : List AC} (ho : objs o = .cells w (A.set i e)) (hf : Flat A) (h : F2 (F2 LocLe) (A.set i (e.map (borX objs π Bn))) L) : ObjLe (z73 objs π Bn o) (.cells w L) := by
  rw [passObj_cells ho, List.map_set, borX_flat hf]
  exact ⟨rfl, h⟩
theorem flat_snoc_set {A : List (List AC)} {x y : List AC} {k : Nat} (hk : A.length = k) (hA : Flat A) (hy : flatL y = true) : Flat ((A ++ [x]).set k y) := by
  subst hk
  intro e he
  rw [List.set_append_right _ _ (Nat.le_refl _)] at he
  simp only [Nat.sub_self, List.set_cons_zero, List.mem_append, List.mem_singleton] at he
  rcases he with h | rfl
  · exact hA e h
  · exact hy
theorem snoc_set_le {A L : List (List AC)} {x y : List AC} {k : Nat} (hk : A.length = k) (h : F2 (F2 LocLe) (A ++ [y]) L) : F2 (F2 LocLe) ((A ++ [x]).set k y) L := by
  subst hk
  rw [List.set_append_right _ _ (Nat.le_refl _)]
  simpa using h
theorem z37 {objs : Nat → AObj} {π Bn : List Nat} {o w n : Nat} {es L : List (List AC)} {y : AC} (h1 : idx π o = none) (h2 : inB Bn o = true) (ho : objs o = .cells w es) (hu : z57 es = L) (hl : es.length = n) (h : LocLe (.list w n L) y) : LocLe (bor objs π Bn (.sref o 0 n)) y := by
  rw [bor_full ho h1 h2 hl, hu]; exact h
theorem z111 {a b a' b' : List (List AC)} (h : z57 a = a') (k : z57 b = b') : z57 (a ++ b) = a' ++ b' := by
  subst h k
  induction a with
  | nil => rfl
  | cons e a ih => simp only [List.cons_append, z57, ih]
theorem unown_tk {a a' : List (List AC)} (h : z57 a = a') (n : Nat) : z57 (a.take n) = a'.take n := by
  subst h
  induction a generalizing n with
  | nil => simp [z57]
  | cons e a ih =>
    cases n with
    | zero => rfl
    | succ n => simp only [List.take_succ_cons, z57, ih]
theorem unown_st {a a' : List (List AC)} (h : z57 a = a') (n : Nat) (e : List AC) : z57 (a.set n e) = a'.set n (unownL e) := by
  subst h
  induction a generalizing n with
  | nil => simp [z57]
  | cons x a ih =>
    cases n with
    | zero => rfl
    | succ n => simp only [List.set_cons_succ, z57, ih]
/-- an element put in -/
theorem put_le {α : Type} {f : α → List AC} {l : List α} {i j : Nat} {e : List AC} {x : α} (hj : j = i) (he : F2 LocLe e (f x)) : F2 (F2 LocLe) ((l.map f).set j e) ((l.set i x).map f) := by
  subst hj
  rw [List.map_set]
  have : ∀ (l : List (List AC)) (j : Nat) {e e' : List AC}, F2 LocLe e e' → F2 (F2 LocLe) (l.set j e) (l.set j e') := fun l => by
    induction l with
    | nil => intro j _ _ _; exact .nil
    | cons x l ih =>
      intro j e e' h
      cases j with
      | zero => exact .cons h (z27 _)
      | succ j => exact .cons (f2_refl _) (ih j h)
  exact this _ _ he
theorem z81 {α : Type} {f : α → List AC} {l : List α} {n : Nat} {e : List AC} {x : α} (hn : l.length ≤ n) (he : F2 LocLe e (f x)) : F2 (F2 LocLe) ((l.map f).take n ++ [e]) ((l ++ [x]).map f) := by
  rw [List.take_of_length_le (by simpa using hn), List.map_append]
  have : ∀ (a : List (List AC)) {b c : List AC}, F2 LocLe b c → F2 (F2 LocLe) (a ++ [b]) (a ++ [c]) := fun a b c h => by
    induction a with
    | nil => exact .cons h .nil
    | cons x a ih => exact .cons (f2_refl x) ih
  exact this _ he
theorem RetS.mid (π Bn : List Nat) (objs1 : List AObj) (r1 : AC) {m : Nat} {o : Nat → AObj} {res : AC} {objs' : List AObj} {r : AC} (hn : nodupB (π ++ Bn) = true) (ha : allN (fun x => isCells (o x)) π = true) (hf : fixed m 0 π = true)
    (hr : LocLe (bor o π Bn r) r1) (ho : F2 ObjLe (π.map (z73 o π Bn)) objs1) (h : RetS m (z36 objs1) res objs' r1) : RetS m o res objs' r :=
  RetS.lay π Bn hn ha hf fun G w v hW hV => h G w v (hW.le ho) (hr _ _ _ _ hV)
theorem f22_snoc (a : List (List AC)) {b c : List AC} (h : F2 LocLe b c) : F2 (F2 LocLe) (a ++ [b]) (a ++ [c]) := by
  induction a with
  | nil => exact .cons h .nil
  | cons x a ih => exact .cons (f2_refl x) ih
theorem app2_le {A : List (List AC)} {n : Nat} {e e' : List AC} (hn : A.length ≤ n) (h : F2 LocLe e e') : F2 (F2 LocLe) (A.take n ++ [e]) (A ++ [e']) := by
  rw [List.take_of_length_le hn]; exact f22_snoc A h
theorem app3_le {α : Type} {f : α → List AC} {l : List α} {e : List AC} {x : α} (h : F2 LocLe e (f x)) : F2 (F2 LocLe) (l.map f ++ [e]) ((l ++ [x]).map f) := by
  rw [List.map_append]; exact f22_snoc _ h
theorem pass_set2 {objs : Nat → AObj} {π Bn : List Nat} {o w i j : Nat} {A L : List (List AC)} {e x : List AC} (ho : objs o = .cells w ((A.set i x).set j e)) (hj : j = i) (hf : Flat A) (h : F2 (F2 LocLe) (A.set i (e.map (borX objs π Bn))) L) : ObjLe (z73 objs π Bn o) (.cells w L) := by
  subst hj
  rw [List.set_set] at ho
  exact pass_set ho hf h
theorem set2_le {A : List (List AC)} {i j : Nat} {e e' : List AC} (hj : j = i) (he : F2 LocLe e e') : F2 (F2 LocLe) (A.set j e) (A.set i e') := by
  subst hj
  induction A generalizing j with
  | nil => exact .nil
  | cons x l ih =>
    cases j with
    | zero => exact .cons he (z27 _)
    | succ j => exact .cons (f2_refl _) ih
theorem z95 {o n n' : Nat} (h : n = n') : LocLe (.sref o 0 n) (.sref o 0 n') := h ▸ LocLe.refl _
theorem appL_le {α : Type} {f : α → List AC} {l l2 : List α} {n : Nat} (hn : l.length ≤ n) : F2 (F2 LocLe) ((l.map f).take n ++ l2.map f) ((l ++ l2).map f) := by
  rw [List.take_of_length_le (by simpa using hn), List.map_append]; exact z27 _
/-- what a loop gathers -/
def cat {α : Type} (n : Nat) (f : Nat → List α) : List α := (List.range n).flatMap f
theorem cat_zero {α : Type} (f : Nat → List α) : cat 0 f = [] := rfl
theorem cat_succ {α : Type} (n : Nat) (f : Nat → List α) : cat (n + 1) f = cat n f ++ f n := by
  unfold cat; rw [List.range_succ, List.flatMap_append]; simp
theorem mem_cat {α : Type} {n : Nat} {f : Nat → List α} {x : α} (h : x ∈ cat n f) : ∃ i, i < n ∧ x ∈ f i := by
  unfold cat at h
  obtain ⟨i, hi, hx⟩ := List.mem_flatMap.1 h
  exact ⟨i, List.mem_range.1 hi, hx⟩
theorem cat_len {α : Type} {n c : Nat} {f : Nat → List α} (h : ∀ i, i < n → (f i).length ≤ c) : (cat n f).length ≤ n * c := by
  induction n with
  | zero => simp [cat]
  | succ n ih =>
    rw [cat_succ, List.length_append, Nat.add_mul]
    have := ih fun i hi => h i (by omega)
    have := h n (by omega)
    omega
theorem z74 {objs : Nat → AObj} {π Bn : List Nat} {o w n : Nat} {es L : List (List AC)} {y : AC} (h1 : idx π o = none) (h2 : inB Bn o = true) (ho : objs o = .cells w es) (hu : z57 es = L) (hl : es.length = n) (h : LocLe (.list w n L) y) : LocLe (borX objs π Bn (.sref o 0 n)) y := z37 h1 h2 ho hu hl h
end Go.Gl

/- Partitions: refinement, sorted lists without repetition. -/
namespace Go.Gl

/-! strictly ascending lists -/
def Asc (l : List Int) : Prop := l.Pairwise (· < ·)
theorem asc_ext : ∀ {a b : List Int}, Asc a → Asc b → (∀ x, x ∈ a ↔ x ∈ b) → a = b
  | [], b, _, _, h => by
    cases b with
    | nil => rfl
    | cons y b => have := (h y).2 (by simp); cases this
  | x :: a, [], _, _, h => by have := (h x).1 (by simp); cases this
  | x :: a, y :: b, ha, hb, h => by
    have ha1 := List.pairwise_cons.1 ha
    have hb1 := List.pairwise_cons.1 hb
    have hxy : x = y := by
      rcases List.mem_cons.1 ((h x).1 (by simp)) with e | hx
      · exact e
      · rcases List.mem_cons.1 ((h y).2 (by simp)) with e | hy
        · exact e.symm
        · have := hb1.1 x hx; have := ha1.1 y hy; omega
    subst hxy
    rw [asc_ext ha1.2 hb1.2 fun z => ?_]
    constructor
    · intro hz
      rcases List.mem_cons.1 ((h z).1 (by simp [hz])) with e | hz'
      · subst e; have := ha1.1 z hz; omega
      · exact hz'
    · intro hz
      rcases List.mem_cons.1 ((h z).2 (by simp [hz])) with e | hz'
      · subst e; have := hb1.1 z hz; omega
      · exact hz'

/-- a number enters a strictly ascending list -/
def insS (l : List Int) (n : Int) : List Int := match l with
  | [] => [n]
  | x :: r => if x = n then x :: r else if n < x then n :: x :: r else x :: insS r n
theorem insS_mem {l : List Int} {n x : Int} : x ∈ insS l n ↔ x ∈ l ∨ x = n := by
  induction l with
  | nil => simp [insS]
  | cons y r ih =>
    rw [insS]
    split
    · rename_i h; subst h; simp
      intro h; left; exact h
    · split
      · simp; constructor
        · rintro (h | h | h) <;> simp [h]
        · rintro ((h | h) | h) <;> simp [h]
      · rw [List.mem_cons, ih]; simp [or_assoc]
theorem insS_asc {l : List Int} {n : Int} (h : Asc l) : Asc (insS l n) := by
  induction l with
  | nil => simp [insS, Asc]
  | cons y r ih =>
    have h1 := List.pairwise_cons.1 h
    rw [insS]
    split
    · exact h
    · split
      · refine List.pairwise_cons.2 ⟨fun z hz => ?_, h⟩
        rcases List.mem_cons.1 hz with rfl | hz
        · assumption
        · have := h1.1 z hz; omega
      · refine List.pairwise_cons.2 ⟨fun z hz => ?_, ih h1.2⟩
        rcases insS_mem.1 hz with hz | rfl
        · exact h1.1 z hz
        · omega
theorem insS_len (l : List Int) (n : Int) : (insS l n).length ≤ l.length + 1 := by
  induction l with
  | nil => simp [insS]
  | cons y r ih =>
    rw [insS]
    split
    · simp
    · split
      · simp
      · simp; exact ih
theorem insS_old {l : List Int} {n : Int} (h : Asc l) (hn : n ∈ l) : insS l n = l :=
  asc_ext (insS_asc h) h fun x => by
    rw [insS_mem]
    constructor
    · rintro (h | rfl) <;> assumption
    · exact .inl
/-- sorting and compacting -/
theorem compact_asc {z : List Int} (hs : z.Pairwise (· ≤ ·)) : ∀ m, m ≤ z.length → Asc (Lib.compactUpTo z.toArray m) ∧ (∀ x, x ∈ Lib.compactUpTo z.toArray m ↔ x ∈ z.take m) ∧ (∀ h : 0 < m, ∀ x ∈ Lib.compactUpTo z.toArray m, ∀ h2 : m - 1 < z.length, x ≤ z[m - 1]) := by
  intro m
  induction m with
  | zero => intro _; exact ⟨by simp [Lib.compactUpTo, Asc], by simp [Lib.compactUpTo], fun h => by omega⟩
  | succ m ih =>
    intro hm
    obtain ⟨h1, h2, h3⟩ := ih (by omega)
    have hml : m < z.length := by omega
    have hm0 : z.toArray[m]! = z[m] := by simp [hml]
    rw [Lib.compactUpTo_succ]
    by_cases hk : Lib.keeps z.toArray m = true
    · rw [if_pos hk, hm0]
      have hlt : ∀ x ∈ Lib.compactUpTo z.toArray m, x < z[m] := by
        intro x hx
        rcases Nat.eq_zero_or_pos m with rfl | hp
        · simp [Lib.compactUpTo] at hx
        · have h4 := h3 hp x hx (by omega)
          have h5 : z[m - 1] ≤ z[m] := List.pairwise_iff_getElem.1 hs (m - 1) m (by omega) hml (by omega)
          have h6 : z[m - 1] ≠ z[m] := by
            unfold Lib.keeps at hk
            rw [decide_eq_true_eq] at hk
            rcases hk with h | h
            · omega
            · rw [hm0] at h
              have : z.toArray[m - 1]! = z[m - 1] := by simp [show m - 1 < z.length by omega]
              rw [this] at h
              exact fun e => h e.symm
          omega
      refine ⟨List.pairwise_append.2 ⟨h1, by simp, fun a ha b hb => by rw [List.mem_singleton.1 hb]; exact hlt a ha⟩, fun x => ?_, fun _ x hx h7 => ?_⟩
      · rw [List.mem_append, h2, List.mem_singleton, List.take_succ_eq_append_getElem hml, List.mem_append, List.mem_singleton]
      · simp only [Nat.add_sub_cancel]
        rcases List.mem_append.1 hx with hx | hx
        · have := hlt x hx; omega
        · rw [List.mem_singleton.1 hx]; exact Int.le_refl _
    · rw [if_neg hk, List.append_nil]
      have hp : 0 < m ∧ z[m - 1]'(by omega) = z[m] := by
        unfold Lib.keeps at hk
        rw [decide_eq_true_eq, not_or, Decidable.not_not, hm0] at hk
        refine ⟨by omega, ?_⟩
        have : z.toArray[m - 1]! = z[m - 1]'(by omega) := by simp [show m - 1 < z.length by omega]
        rw [this] at hk
        exact hk.2.symm
      refine ⟨h1, fun x => ?_, fun _ x hx h7 => ?_⟩
      · rw [h2, List.take_succ_eq_append_getElem hml, List.mem_append, List.mem_singleton]
        constructor
        · exact .inl
        · rintro (h | rfl)
          · exact h
          · rw [← hp.2]
            rw [List.mem_take_iff_getElem]
            exact ⟨m - 1, by omega, rfl⟩
      · simp only [Nat.add_sub_cancel]
        have := h3 hp.1 x hx (by omega)
        rw [hp.2] at this; exact this
def sortD (l : List Int) : List Int := Lib.compact (l.mergeSort fun x y => decide (x ≤ y))
theorem sorted_sort (l : List Int) : (l.mergeSort fun x y => decide (x ≤ y)).Pairwise (· ≤ ·) := by
  have := List.pairwise_mergeSort (le := fun x y : Int => decide (x ≤ y)) (fun a b c h1 h2 => by simp only [decide_eq_true_eq] at *; omega) (fun a b => by simp only [Bool.or_eq_true, decide_eq_true_eq]; omega) l
  simpa using this
theorem sortD_asc (l : List Int) : Asc (sortD l) := (compact_asc (sorted_sort l) _ (Nat.le_refl _)).1
theorem sortD_mem {l : List Int} {x : Int} : x ∈ sortD l ↔ x ∈ l := by
  unfold sortD Lib.compact
  rw [(compact_asc (sorted_sort l) _ (Nat.le_refl _)).2.1, List.take_length, List.mem_mergeSort]
theorem foldl_insS {l : List Int} {out : List Int} (h : Asc out) : Asc (l.foldl insS out) ∧ ∀ x, x ∈ l.foldl insS out ↔ x ∈ out ∨ x ∈ l := by
  induction l generalizing out with
  | nil => exact ⟨h, fun x => by simp⟩
  | cons n l ih =>
    obtain ⟨h1, h2⟩ := ih (insS_asc (n := n) h)
    exact ⟨h1, fun x => by rw [List.foldl_cons, h2, insS_mem]; simp [or_assoc]⟩
theorem sortD_eq (l : List Int) : l.foldl insS [] = sortD l := by
  obtain ⟨h1, h2⟩ := foldl_insS (l := l) (out := []) (by simp [Asc])
  exact asc_ext h1 (sortD_asc l) fun x => by rw [h2, sortD_mem]; simp
theorem foldl_insS_len (l out : List Int) : (l.foldl insS out).length ≤ out.length + l.length := by
  induction l generalizing out with
  | nil => simp
  | cons n l ih =>
    have := ih (insS out n)
    have := insS_len out n
    simp only [List.foldl_cons, List.length_cons]; omega

/-! numbering by keys -/
def numK {K : Type} [DecidableEq K] (κ : Nat → K) (n : Nat) : List Int × Nat := numF (fun i k => decide (κ k = κ i)) n
section
variable {K K' : Type} [DecidableEq K] [DecidableEq K'] {κ : Nat → K} {κ' : Nat → K'}
theorem find_dec {p : Nat → Bool} {i : Nat} : (∀ j, j < i → p j = false) ∨ ∃ k, k < i ∧ p k = true ∧ ∀ j, j < k → p j = false := by
  induction i with
  | zero => exact .inl fun j hj => by omega
  | succ i ih =>
    rcases ih with h | ⟨k, h1, h2, h3⟩
    · cases hp : p i with
      | true => exact .inr ⟨i, by omega, hp, h⟩
      | false =>
        refine .inl fun j hj => ?_
        rcases Nat.lt_or_ge j i with h1 | h1
        · exact h j h1
        · obtain rfl : j = i := by omega
          exact hp
    · exact .inr ⟨k, by omega, h2, h3⟩
theorem z117 (n : Nat) : (numK κ n).1.length = n := z55 _ _
theorem numK_iff {n : Nat} : ∀ (i : Nat) (hi : i ≤ n) (a b : Nat) (ha : a < i) (hb : b < i), (numK κ n).1[a]'(by rw [z117]; omega) = (numK κ n).1[b]'(by rw [z117]; omega) ↔ κ a = κ b := by
  intro i
  induction i with
  | zero => intro _ a b ha; omega
  | succ i ih =>
    intro hi a b ha hb
    have ih' := ih (by omega)
    have key : ∀ b (hb : b < i), (numK κ n).1[i]'(by rw [z117]; omega) = (numK κ n).1[b]'(by rw [z117]; omega) ↔ κ i = κ b := by
      intro b hb
      rcases find_dec (p := fun k => decide (κ k = κ i)) (i := i) with h | ⟨k, h1, h2, h3⟩
      · have e := (z99 (same := fun i k => decide (κ k = κ i)) (n := n) (i := i) (by omega) h).1
        have hl := numF_lt' (same := fun i k => decide (κ k = κ i)) (i := i) (k := b) (n := n) (by omega) hb
        have hk : κ b ≠ κ i := by simpa using h b hb
        constructor
        · intro h5
          exfalso
          unfold numK at h5
          rw [e] at h5
          omega
        · intro h5; exact absurd h5.symm hk
      · have e := (z93 (same := fun i k => decide (κ k = κ i)) (n := n) (i := i) (by omega) h1 h2 h3).1
        have hk : κ k = κ i := by simpa using h2
        have h6 := ih' k b h1 hb
        unfold numK at h6 ⊢
        rw [e, h6, hk]
    rcases Nat.lt_or_ge a i with h1 | h1
    · rcases Nat.lt_or_ge b i with h2 | h2
      · exact ih' a b h1 h2
      · obtain rfl : b = i := by omega
        rw [eq_comm, key a h1, eq_comm]
    · obtain rfl : a = i := by omega
      rcases Nat.lt_or_ge b a with h2 | h2
      · exact key b h2
      · obtain rfl : b = a := by omega
        simp
/-- a finer numbering has more numbers, or is the same -/
theorem numK_finer {n : Nat} (hf : ∀ a b, a < n → b < n → κ' a = κ' b → κ a = κ b) : ∀ i, i ≤ n → (numK κ i).2 ≤ (numK κ' i).2 ∧ ((numK κ' i).2 = (numK κ i).2 → (numK κ' i).1 = (numK κ i).1) ∧ ∀ j, i ≤ j → j ≤ n → (numK κ' i).2 - (numK κ i).2 ≤ (numK κ' j).2 - (numK κ j).2 := by
  have step : ∀ i, i < n → ((numK κ (i + 1)).2 = (numK κ i).2 + 1 ∧ (numK κ' (i + 1)).2 = (numK κ' i).2 + 1 ∧ (∀ j, j < i → κ j ≠ κ i) ∧ (∀ j, j < i → κ' j ≠ κ' i)) ∨ ((numK κ (i + 1)).2 = (numK κ i).2 ∧ ∃ k, k < i ∧ κ k = κ i ∧ (∀ j, j < k → κ j ≠ κ i) ∧ (((numK κ' (i + 1)).2 = (numK κ' i).2 + 1 ∧ ∀ j, j < i → κ' j ≠ κ' i) ∨ ((numK κ' (i + 1)).2 = (numK κ' i).2 ∧ ∃ k', k' < i ∧ κ' k' = κ' i ∧ ∀ j, j < k' → κ' j ≠ κ' i))) := by
    intro i hi
    rcases find_dec (p := fun k => decide (κ k = κ i)) (i := i) with h | ⟨k, h1, h2, h3⟩
    · have e := (z99 (same := fun i k => decide (κ k = κ i)) (n := n) (i := i) hi h).2
      have hn : ∀ j, j < i → κ j ≠ κ i := fun j hj => by simpa using h j hj
      have h' : ∀ j, j < i → decide (κ' j = κ' i) = false := fun j hj => by
        rw [decide_eq_false_iff_not]
        exact fun e => hn j hj (hf j i (by omega) hi e)
      have e' := (z99 (same := fun i k => decide (κ' k = κ' i)) (n := n) (i := i) hi h').2
      exact .inl ⟨e, e', hn, fun j hj => by simpa using h' j hj⟩
    · have e := (z93 (same := fun i k => decide (κ k = κ i)) (n := n) (i := i) hi h1 h2 h3).2
      refine .inr ⟨e, k, h1, by simpa using h2, fun j hj => by simpa using h3 j hj, ?_⟩
      rcases find_dec (p := fun k => decide (κ' k = κ' i)) (i := i) with h' | ⟨k', h1', h2', h3'⟩
      · exact .inl ⟨(z99 (same := fun i k => decide (κ' k = κ' i)) (n := n) (i := i) hi h').2, fun j hj => by simpa using h' j hj⟩
      · exact .inr ⟨(z93 (same := fun i k => decide (κ' k = κ' i)) (n := n) (i := i) hi h1' h2' h3').2, k', h1', by simpa using h2', fun j hj => by simpa using h3' j hj⟩
  have mono : ∀ i, i ≤ n → (numK κ i).2 ≤ (numK κ' i).2 := by
    intro i
    induction i with
    | zero => intro _; exact Nat.le_refl _
    | succ i ih =>
      intro hi
      have := ih (by omega)
      rcases step i hi with ⟨h1, h2, _⟩ | ⟨h1, k, _, _, _, ⟨h2, _⟩ | ⟨h2, _⟩⟩ <;> omega
  have gap : ∀ i j, i ≤ j → j ≤ n → (numK κ' i).2 - (numK κ i).2 ≤ (numK κ' j).2 - (numK κ j).2 := by
    intro i j hij
    induction j with
    | zero => intro _; obtain rfl : i = 0 := by omega
              exact Nat.le_refl _
    | succ j ih =>
      intro hj
      rcases Nat.lt_or_ge j i with h | h
      · obtain rfl : i = j + 1 := by omega
        exact Nat.le_refl _
      · have h0 := ih h (by omega)
        have hm := mono j (by omega)
        rcases step j hj with ⟨h1, h2, _⟩ | ⟨h1, k, _, _, _, ⟨h2, _⟩ | ⟨h2, _⟩⟩ <;> omega
  intro i
  induction i with
  | zero => intro _; exact ⟨Nat.le_refl _, fun _ => rfl, fun j h1 h2 => gap 0 j h1 h2⟩
  | succ i ih =>
    intro hi
    obtain ⟨_, ih2, _⟩ := ih (by omega)
    refine ⟨mono _ hi, fun he => ?_, fun j h1 h2 => gap _ j h1 h2⟩
    have hg := gap i (i + 1) (by omega) hi
    have hm := mono i (by omega)
    have he0 : (numK κ' i).2 = (numK κ i).2 := by omega
    have e1 := ih2 he0
    obtain ⟨hl, s1⟩ := numF_succ (same := fun i k => decide (κ k = κ i)) (i := i) (n := n) hi
    obtain ⟨hl', s2⟩ := numF_succ (same := fun i k => decide (κ' k = κ' i)) (i := i) (n := n) hi
    show (numF _ (i + 1)).1 = (numF _ (i + 1)).1
    rw [s1, s2]
    have e1' : (numF (fun i k => decide (κ' k = κ' i)) i).1 = (numF (fun i k => decide (κ k = κ i)) i).1 := e1
    rw [e1']
    congr 2
    rcases step i hi with ⟨h1, h2, h3, h4⟩ | ⟨h1, k, hk1, hk2, hk3, ⟨h2, h4⟩ | ⟨h2, k', hk1', hk2', hk3'⟩⟩
    · have a1 := (z99 (same := fun i k => decide (κ k = κ i)) (n := n) (i := i) hi (fun j hj => by simpa using h3 j hj)).1
      have a2 := (z99 (same := fun i k => decide (κ' k = κ' i)) (n := n) (i := i) hi (fun j hj => by simpa using h4 j hj)).1
      rw [a1, a2]
      have : (numF (fun i k => decide (κ' k = κ' i)) i).2 = (numF (fun i k => decide (κ k = κ i)) i).2 := he0
      rw [this]
    · omega
    · have a1 := (z93 (same := fun i k => decide (κ k = κ i)) (n := n) (i := i) hi hk1 (by simpa using hk2) (fun j hj => by simpa using hk3 j hj)).1
      have a2 := (z93 (same := fun i k => decide (κ' k = κ' i)) (n := n) (i := i) hi hk1' (by simpa using hk2') (fun j hj => by simpa using hk3' j hj)).1
      rw [a1, a2]
      have b1 : (numF (fun i k => decide (κ' k = κ' i)) n).1[k']'(by rw [z55]; omega) = (numF (fun i k => decide (κ k = κ i)) n).1[k']'(by rw [z55]; omega) := by
        rw [← numF_at (i := i) hk1' (by omega), ← numF_at (i := i) hk1' (by omega), e1']
      rw [b1]
      exact (numK_iff (κ := κ) i (by omega) k' k hk1' hk1).2 (by rw [hk2]; exact hf k' i (by omega) hi hk2')
end
end Go.Gl

/- Branching-time formulas: what the program's walk computes, and what the reference computes. -/
namespace Go.Gl
def arityB (k : Int) : Int := if k = 1 ∨ k = 2 then 0 else if k = 3 ∨ k = 6 ∨ k = 8 ∨ k = 9 ∨ k = 11 then 1 else if k = 4 ∨ k = 5 ∨ k = 7 ∨ k = 10 then 2 else -1
def mostB (k : Int) : Int := if k = 2 then 2 else 0
mutual
def Tree.walkB (t : Tree) (d n : Int) : Int × Bool := match t with
  | .mk k v l => if d ≤ 6 ∧ n + 1 ≤ 12 ∧ 0 ≤ v ∧ v ≤ mostB k ∧ (l.length : Int) = arityB k then Tree.walkBs l (d + 1) (n + 1) else (n + 1, false)
def Tree.walkBs (l : List Tree) (d n : Int) : Int × Bool := match l with
  | [] => (n, true)
  | t :: r => if (Tree.walkB t d n).2 then Tree.walkBs r d (Tree.walkB t d n).1 else ((Tree.walkB t d n).1, false)
end
mutual
def Tree.shapeB (t : Tree) (d : Int) : Bool := match t with
  | .mk k v l => decide (1 ≤ d ∧ (l.length : Int) = arityB k ∧ 0 ≤ v ∧ v ≤ mostB k) && Tree.shapeBBs l (d - 1)
def Tree.shapeBBs (l : List Tree) (d : Int) : Bool := match l with
  | [] => true
  | t :: r => Tree.shapeB t d && Tree.shapeBBs r d
end
end Go.Gl

/- Fixed points over lists of truth values. -/
namespace Go.Gl

/-- a comes before b on the way from s -/
def ordB (s a b : Bool) : Prop := a = b ∨ a = s
theorem ordB.refl (s a : Bool) : ordB s a a := .inl rfl
theorem ordB.trans {s a b c : Bool} (h : ordB s a b) (k : ordB s b c) : ordB s a c := by
  unfold ordB at *
  cases s <;> cases a <;> cases b <;> cases c <;> simp_all
def gB (S : List Bool) (i : Nat) : Bool := S.getD i false
structure FixR (s : Bool) (H : Nat → List Bool → Bool) (n : Nat) (R : List Bool) : Prop where
  len : R.length = n
  fix : ∀ i, i < n → gB R i = H i R
  least : ∀ T : List Bool, T.length = n → (∀ i, i < n → ordB s (H i T) (gB T i)) → ∀ i, i < n → ordB s (gB R i) (gB T i)
def MonoB (s : Bool) (H : Nat → List Bool → Bool) (n : Nat) : Prop := ∀ (S T : List Bool), S.length = n → T.length = n → (∀ j, j < n → ordB s (gB S j) (gB T j)) → ∀ i, i < n → ordB s (H i S) (H i T)
open Classical in
noncomputable def lim (s : Bool) (H : Nat → List Bool → Bool) (n : Nat) : List Bool := if h : ∃ R, FixR s H n R then h.choose else []
/-- how many entries are still as at the start -/
def cntS (s : Bool) (S : List Bool) : Nat := (S.filter fun b => b == s).length
theorem gB_set {S : List Bool} {i j : Nat} {b : Bool} (hi : i < S.length) : gB (S.set i b) j = if j = i then b else gB S j := by
  unfold gB
  by_cases h : j = i
  · subst h
    rw [if_pos rfl, z17 (by simpa using hi)]; simp
  · rw [if_neg h]
    simp only [List.getD_eq_getElem?_getD]
    rw [List.getElem?_set_ne (Ne.symm h)]
theorem cntS_set {s : Bool} {S : List Bool} {i : Nat} (hi : i < S.length) (h : gB S i = s) : cntS s (S.set i (!s)) + 1 = cntS s S := by
  unfold gB at h
  rw [z17 hi] at h
  induction S generalizing i with
  | nil => simp at hi
  | cons a S ih =>
    cases i with
    | zero =>
      simp only [List.getElem_cons_zero] at h
      subst h
      simp [cntS, List.filter_cons]
    | succ i =>
      have := ih (i := i) (by simpa using hi) (by simpa using h)
      unfold cntS at this ⊢
      rw [List.set_cons_succ, List.filter_cons, List.filter_cons]
      split <;> (try simp only [List.length_cons]) <;> omega
/-- what holds on the way -/
structure Way (s : Bool) (H : Nat → List Bool → Bool) (n : Nat) (S : List Bool) : Prop where
  len : S.length = n
  below : ∀ T : List Bool, T.length = n → (∀ i, i < n → ordB s (H i T) (gB T i)) → ∀ i, i < n → ordB s (gB S i) (gB T i)
  post : ∀ i, i < n → ordB s (gB S i) (H i S)
theorem Way.start {s : Bool} {H : Nat → List Bool → Bool} {n : Nat} : Way s H n (List.replicate n s) := by
  have e : ∀ i, i < n → gB (List.replicate n s) i = s := fun i hi => by unfold gB; rw [z17 (by simpa using hi)]; simp
  exact ⟨by simp, fun T _ _ i hi => .inr (e i hi), fun i hi => .inr (e i hi)⟩
/-- one entry takes a value v between itself and what H says of some set on the way -/
theorem Way.put {s : Bool} {H : Nat → List Bool → Bool} {n : Nat} (hm : MonoB s H n) {S : List Bool} (h : Way s H n S) {i : Nat} (hi : i < n) {v : Bool} (h1 : ordB s (gB S i) v) (h2 : ordB s v (H i S)) : Way s H n (S.set i v) ∧ (v ≠ gB S i → cntS s (S.set i v) + 1 = cntS s S) := by
  have hil : i < S.length := by rw [h.len]; exact hi
  have hle : ∀ j, j < n → ordB s (gB S j) (gB (S.set i v) j) := fun j _ => by
    rw [gB_set hil]; split
    · rename_i e; subst e; exact h1
    · exact ordB.refl _ _
  have hH := hm S (S.set i v) h.len (by simp [h.len]) hle
  refine ⟨⟨by simp [h.len], fun T hT hc j hj => ?_, fun j hj => ?_⟩, fun hne => ?_⟩
  · rw [gB_set hil]; split
    · rename_i e; subst e
      exact h2.trans ((hm S T h.len hT (h.below T hT hc) j hj).trans (hc j hj))
    · exact h.below T hT hc j hj
  · rw [gB_set hil]; split
    · rename_i e; subst e; exact h2.trans (hH j hj)
    · exact (h.post j hj).trans (hH j hj)
  · have hs : gB S i = s := by
      rcases h1 with e | e
      · exact absurd e.symm hne
      · exact e
    have hv : v = !s := by
      cases v <;> cases s <;> simp_all
    rw [hv]; exact cntS_set hil hs

/-- successors -/
def nxB (g : List (List Int)) (ev : Bool) (i : Nat) (S : List Bool) : Bool := if ev then (g.getD i []).all (fun t => gB S t.toNat) else (g.getD i []).any (fun t => gB S t.toNat)
end Go.Gl

/- Which states satisfy a branching-time formula. -/
namespace Go.Gl
theorem Way.step {s : Bool} {H : Nat → List Bool → Bool} {n : Nat} (hm : MonoB s H n) {S S' : List Bool} (h : Way s H n S') (hS : S.length = n) (hle : ∀ j, j < n → ordB s (gB S j) (gB S' j)) {i : Nat} (hi : i < n) (hv : H i S = !s) (hg : gB S' i = s) : Way s H n (S'.set i (!s)) ∧ cntS s (S'.set i (!s)) + 1 = cntS s S' ∧ ∀ j, j < n → ordB s (gB S j) (gB (S'.set i (!s)) j) := by
  have hil : i < S'.length := by rw [h.len]; exact hi
  have h2 : ordB s (!s) (H i S') := by
    have := hm S S' hS h.len hle i hi
    rwa [hv] at this
  have hp := h.put hm hi (v := !s) (.inr hg) h2
  refine ⟨hp.1, hp.2 (by rw [hg]; cases s <;> simp), fun j hj => ?_⟩
  rw [gB_set hil]
  split
  · rename_i e
    subst e
    have := hle j hj
    rw [hg] at this
    rcases this with e | e
    · exact .inr e
    · exact .inr e
  · exact hle j hj
def unH (g : List (List Int)) (ev : Bool) (a b : List Bool) (i : Nat) (S : List Bool) : Bool := gB b i || (gB a i && nxB g ev i S)
def alH (g : List (List Int)) (ev : Bool) (a : List Bool) (i : Nat) (S : List Bool) : Bool := gB a i && nxB g ev i S
def nxL (g : List (List Int)) (ev : Bool) (n : Nat) (S : List Bool) : List Bool := (List.range n).map fun i => nxB g ev i S
def hasB (ℓ a : Int) : Bool := decide (((((ℓ / 2 ^ a.toNat).toNat &&& (1 : Int).toNat : Nat) : Int)) = 1)
def ptB (L : List Int) (k v : Int) (a b : List Bool) (i : Nat) : Bool := if k = 2 then hasB (L.getD i 0) v else if k = 3 then !gB a i else if k = 4 then gB a i && gB b i else if k = 5 then gB a i || gB b i else true
noncomputable def opB (g : List (List Int)) (n : Nat) (L : List Int) (k v : Int) (ks : List (List Bool)) : List Bool :=
  if k = 6 then nxL g false n (ks.getD 0 []) else if k = 9 then nxL g true n (ks.getD 0 [])
  else if k = 7 then lim false (unH g false (ks.getD 0 []) (ks.getD 1 [])) n else if k = 10 then lim false (unH g true (ks.getD 0 []) (ks.getD 1 [])) n
  else if k = 8 then lim true (alH g false (ks.getD 0 [])) n else if k = 11 then lim true (alH g true (ks.getD 0 [])) n
  else (List.range n).map (ptB L k v (ks.getD 0 []) (ks.getD 1 []))
mutual
noncomputable def Tree.satB (g : List (List Int)) (n : Nat) (L : List Int) (t : Tree) : List Bool := match t with
  | .mk k v l => opB g n L k v (Tree.satBs g n L l)
noncomputable def Tree.satBs (g : List (List Int)) (n : Nat) (L : List Int) (l : List Tree) : List (List Bool) := match l with
  | [] => []
  | t :: r => Tree.satB g n L t :: Tree.satBs g n L r
end
end Go.Gl

/- Laws of branching time. -/
namespace Go.Gl
theorem rowInN {g : List (List Int)} {n : Nat} (hr : ∀ r ∈ g, InN n r) (i : Nat) : InN n (g.getD i []) := by
  by_cases hi : i < g.length
  · rw [z17 hi]; exact hr _ (List.getElem_mem _)
  · rw [List.getD_eq_getElem?_getD, List.getElem?_eq_none (by omega)]; intro x hx; cases hx
/-! the operators -/
section
variable {g : List (List Int)} {n : Nat} (L : List Int)
variable (hr : ∀ r ∈ g, InN n r)
include hr
end
end Go.Gl

/- Sequences of draws. -/
namespace Go.Gl
theorem seq_ex {α : Type} (R : Nat → Int → α → Int → Prop) (p0 c : Int) : ∀ (m : Nat), (∀ k p, k < m → p0 ≤ p → p ≤ p0 + c * k → ∃ a p', R k p a p' ∧ p ≤ p' ∧ p' ≤ p + c) →
    ∃ (l : List α) (pf : Nat → Int), l.length = m ∧ pf 0 = p0 ∧ (∀ k (hk : k < l.length), R k (pf k) l[k] (pf (k + 1))) ∧ ∀ k, k ≤ m → p0 ≤ pf k ∧ pf k ≤ p0 + c * k := by
  intro m
  induction m with
  | zero =>
    intro _
    refine ⟨[], fun _ => p0, rfl, rfl, fun k hk => by simp at hk, fun k hk => ?_⟩
    have : k = 0 := by omega
    subst this; simp
  | succ m ih =>
    intro h
    obtain ⟨l, pf, h1, h2, h3, h4⟩ := ih fun k p hk => h k p (by omega)
    have h5 := h4 m (Nat.le_refl _)
    obtain ⟨a, p', h6, h7, h8⟩ := h m (pf m) (by omega) h5.1 h5.2
    refine ⟨l ++ [a], fun k => if k ≤ m then pf k else p', by simp [h1], by simp [h2], fun k hk => ?_, fun k hk => ?_⟩
    · by_cases hkm : k < m
      · simp only [if_pos (show k ≤ m by omega), if_pos (show k + 1 ≤ m by omega)]
        rw [List.getElem_append_left (by omega)]
        exact h3 k (by omega)
      · have : k = m := by simp at hk; omega
        subst this
        simp only [if_pos (Nat.le_refl _), if_neg (show ¬(k + 1 ≤ k) by omega)]
        rw [List.getElem_append_right (by omega)]
        simpa [h1] using h6
    · by_cases hkm : k ≤ m
      · simp only [if_pos hkm]; exact h4 k hkm
      · have : k = m + 1 := by omega
        subst this
        simp only [if_neg hkm]
        rw [show ((m + 1 : Nat) : Int) = m + 1 by omega, Int.mul_add]
        omega
end Go.Gl

/- More on what tells less. -/
namespace Go.Gl
end Go.Gl

/- Shortest ways: the search that keeps for each node from where it was found. -/
namespace Go.Gl

def shOne (a : Int) (s : List Int × List Int) (y : Int) : List Int × List Int := if s.2.getD y.toNat 0 = -2 then (s.1 ++ [y], s.2.set y.toNat a) else s
def back (P : List Int) : Nat → Int → List Int
  | 0, _ => []
  | f + 1, a => if 0 ≤ a then a :: back P f (P.getD a.toNat 0) else []
structure SI (rows : List (List Int)) (c : Int) (n : Nat) (Q P : List Int) : Prop where
  nd : Q.Nodup
  inN : InN n Q
  len : P.length = n
  un : ∀ v : Int, 0 ≤ v → v < n → (P.getD v.toNat 0 = -2 ↔ v ∉ Q)
  pr : ∀ k, k < Q.length → P.getD (Q.getD k 0).toNat 0 = -1 ∨ ∃ j, j < k ∧ P.getD (Q.getD k 0).toNat 0 = Q.getD j 0
  rp : ∀ x ∈ Q, RP rows [c] x
  st : c ∈ Q
theorem SI.le {rows : List (List Int)} {c : Int} {n : Nat} {Q P : List Int} (h : SI rows c n Q P) : Q.length ≤ n := pigeon n Q h.nd h.inN
theorem getD_mem {Q : List Int} {k : Nat} (h : k < Q.length) : Q.getD k 0 ∈ Q := by rw [z17 h]; exact List.getElem_mem _
theorem getD_app {Q : List Int} {y : Int} {k : Nat} (h : k < Q.length) : (Q ++ [y]).getD k 0 = Q.getD k 0 := by
  rw [z17 (by simp; omega), z17 h, List.getElem_append_left h]
theorem getD_setO {P : List Int} {i j : Nat} {a : Int} (h : i ≠ j) : (P.set i a).getD j 0 = P.getD j 0 := by
  simp only [List.getD_eq_getElem?_getD]; rw [List.getElem?_set_ne h]
theorem getD_setS {P : List Int} {i : Nat} {a : Int} (h : i < P.length) : (P.set i a).getD i 0 = a := by
  rw [z17 (by simpa using h)]; simp
theorem SI.one {rows : List (List Int)} {c : Int} {n : Nat} {Q P : List Int} (h : SI rows c n Q P) {i : Nat} (hi : i < Q.length) {y : Int} (hy : y ∈ rows.getD (Q.getD i 0).toNat []) (h0 : 0 ≤ y) (h1 : y < n) :
    SI rows c n (shOne (Q.getD i 0) (Q, P) y).1 (shOne (Q.getD i 0) (Q, P) y).2 ∧ (∃ t, (shOne (Q.getD i 0) (Q, P) y).1 = Q ++ t) ∧ y ∈ (shOne (Q.getD i 0) (Q, P) y).1 := by
  unfold shOne
  have ha := h.inN _ (getD_mem hi)
  by_cases hu : P.getD y.toNat 0 = -2
  · rw [if_pos hu]
    have hn := (h.un y h0 h1).1 hu
    have hyl : y.toNat < P.length := by rw [h.len]; omega
    have hne : ∀ v ∈ Q, y.toNat ≠ v.toNat := fun v hv e => by
      have := h.inN v hv
      have : y = v := by omega
      rw [this] at hn; exact hn hv
    refine ⟨⟨?_, ?_, by simp [h.len], ?_, ?_, ?_, List.mem_append_left _ h.st⟩, ⟨_, rfl⟩, by simp⟩
    · rw [List.nodup_append]
      exact ⟨h.nd, by simp, fun a ha b hb => by rintro rfl; rw [List.mem_singleton.1 hb] at ha; exact hn ha⟩
    · intro x hx
      rcases List.mem_append.1 hx with hx | hx
      · exact h.inN x hx
      · rw [List.mem_singleton.1 hx]; exact ⟨h0, h1⟩
    · intro v v0 v1
      by_cases hv : v = y
      · subst hv
        show (P.set v.toNat _).getD v.toNat 0 = -2 ↔ _
        rw [getD_setS hyl]
        exact ⟨fun e => by omega, fun hh => absurd (by simp) hh⟩
      · show (P.set y.toNat _).getD v.toNat 0 = -2 ↔ _
        rw [getD_setO (by omega), h.un v v0 v1]
        simp [hv]
    · intro k hk
      show (P.set y.toNat _).getD ((Q ++ [y]).getD k 0).toNat 0 = -1 ∨ ∃ j, j < k ∧ (P.set y.toNat _).getD ((Q ++ [y]).getD k 0).toNat 0 = (Q ++ [y]).getD j 0
      simp only [List.length_append, List.length_singleton] at hk
      rcases Nat.lt_or_ge k Q.length with h2 | h2
      · rw [getD_app h2, getD_setO (hne _ (getD_mem h2))]
        rcases h.pr k h2 with h3 | ⟨j, h3, h4⟩
        · exact .inl h3
        · exact .inr ⟨j, h3, by rw [h4, getD_app (by omega)]⟩
      · have e : k = Q.length := by omega
        subst e
        have e2 : (Q ++ [y]).getD Q.length 0 = y := by rw [z17 (by simp)]; simp
        rw [e2, getD_setS hyl]
        exact .inr ⟨i, hi, by rw [getD_app hi]⟩
    · intro x hx
      rcases List.mem_append.1 hx with hx | hx
      · exact h.rp x hx
      · rw [List.mem_singleton.1 hx]; exact .step (h.rp _ (getD_mem hi)) hy
  · rw [if_neg hu]
    refine ⟨h, ⟨[], by simp⟩, ?_⟩
    have := h.un y h0 h1
    exact Classical.byContradiction fun hc => hu (this.2 hc)
theorem SI.fold {rows : List (List Int)} {c : Int} {n : Nat} {i : Nat} {a : Int} : ∀ (r : List Int) (Q P : List Int), SI rows c n Q P → i < Q.length → Q.getD i 0 = a → (∀ y ∈ r, y ∈ rows.getD a.toNat [] ∧ 0 ≤ y ∧ y < n) →
    SI rows c n (r.foldl (shOne a) (Q, P)).1 (r.foldl (shOne a) (Q, P)).2 ∧ (∃ t, (r.foldl (shOne a) (Q, P)).1 = Q ++ t) ∧ ∀ y ∈ r, y ∈ (r.foldl (shOne a) (Q, P)).1 := by
  intro r
  induction r with
  | nil => intro Q P h _ _ _; exact ⟨h, ⟨[], by simp⟩, fun y hy => by cases hy⟩
  | cons y r ih =>
    intro Q P h hi ha hr
    have hy := hr y (by simp)
    obtain ⟨h1, ⟨t, ht⟩, h3⟩ := h.one hi (by rw [ha]; exact hy.1) hy.2.1 hy.2.2
    rw [ha] at h1 ht h3
    rw [List.foldl_cons]
    generalize shOne a (Q, P) y = s at *
    obtain ⟨Q1, P1⟩ := s
    simp only at h1 ht h3
    subst ht
    obtain ⟨k1, ⟨t2, ht2⟩, k3⟩ := ih (Q ++ t) P1 h1 (by simp; omega) (by rw [← ha, z17 (by simp; omega), z17 hi, List.getElem_append_left hi]) (fun z hz => hr z (List.mem_cons_of_mem _ hz))
    refine ⟨k1, ⟨t ++ t2, by rw [ht2, List.append_assoc]⟩, fun z hz => ?_⟩
    rcases List.mem_cons.1 hz with rfl | hz
    · rw [ht2]; exact List.mem_append_left _ h3
    · exact k3 z hz
structure SJ (rows : List (List Int)) (b : List Bool) (c : Int) (n : Nat) (Q P : List Int) (i : Nat) : Prop where
  si : SI rows c n Q P
  le : i ≤ Q.length
  no : ∀ k, k < i → gB b (Q.getD k 0).toNat = false ∧ ∀ y ∈ rows.getD (Q.getD k 0).toNat [], y ∈ Q
theorem SJ.step {rows : List (List Int)} {b : List Bool} {c : Int} {n : Nat} {Q P : List Int} {i : Nat} (h : SJ rows b c n Q P i) (hr : ∀ r ∈ rows, InN n r) (hi : i < Q.length) (hb : gB b (Q.getD i 0).toNat = false) :
    SJ rows b c n ((rows.getD (Q.getD i 0).toNat []).foldl (shOne (Q.getD i 0)) (Q, P)).1 ((rows.getD (Q.getD i 0).toNat []).foldl (shOne (Q.getD i 0)) (Q, P)).2 (i + 1) := by
  obtain ⟨k1, ⟨t, ht⟩, k3⟩ := h.si.fold (i := i) (a := Q.getD i 0) (rows.getD (Q.getD i 0).toNat []) Q P hi rfl (fun y hy => ⟨hy, row_in hr _ y hy⟩)
  have e : ∀ k, k < Q.length → (Q ++ t).getD k 0 = Q.getD k 0 := fun k hk => by rw [z17 (by simp; omega), z17 hk, List.getElem_append_left hk]
  refine ⟨k1, by rw [ht]; simp; omega, fun k hk => ?_⟩
  rw [ht] at k3 ⊢
  rw [e k (by omega)]
  rcases Nat.lt_or_ge k i with h1 | h1
  · exact ⟨(h.no k h1).1, fun y hy => List.mem_append_left _ ((h.no k h1).2 y hy)⟩
  · obtain rfl : k = i := by omega
    exact ⟨hb, k3⟩
/-- the start -/
theorem SJ.start {rows : List (List Int)} {b : List Bool} {c : Int} {n : Nat} (h0 : 0 ≤ c) (h1 : c < n) : SJ rows b c n [c] ((List.replicate n (-2)).set c.toNat (-1)) 0 := by
  refine ⟨⟨by simp, fun x hx => by rw [List.mem_singleton.1 hx]; exact ⟨h0, h1⟩, by simp, fun v v0 v1 => ?_, fun k hk => ?_, fun x hx => .base hx, by simp⟩, by simp, fun k hk => by omega⟩
  · by_cases e : v = c
    · subst e
      rw [getD_setS (by simp; omega)]
      simp
    · rw [getD_setO (by omega), z17 (by simp; omega)]
      simp [e]
  · obtain rfl : k = 0 := by simpa using hk
    left
    show ((List.replicate n (-2 : Int)).set c.toNat (-1)).getD c.toNat 0 = -1
    rw [getD_setS (by simp; omega)]
theorem SJ.closed {rows : List (List Int)} {b : List Bool} {c : Int} {n : Nat} {Q P : List Int} {i : Nat} (h : SJ rows b c n Q P i) (hi : Q.length ≤ i) {x : Int} (hx : RP rows [c] x) : x ∈ Q ∧ gB b x.toNat = false := by
  have key : x ∈ Q := by
    induction hx with
    | base hx => rw [List.mem_singleton.1 hx]; exact h.si.st
    | step _ hy ih =>
      obtain ⟨k, hk, e⟩ := List.mem_iff_getElem.1 ih
      have := (h.no k (by omega)).2
      rw [z17 hk, e] at this
      exact this _ hy
  refine ⟨key, ?_⟩
  obtain ⟨k, hk, e⟩ := List.mem_iff_getElem.1 key
  have := (h.no k (by omega)).1
  rwa [z17 hk, e] at this
end Go.Gl

/- Partitions of the states of a graph: refinement, stability, the coarsest one, quotients. -/
namespace Go.Gl

theorem sortD_iff {l m : List Int} : sortD l = sortD m ↔ ∀ x, x ∈ l ↔ x ∈ m := by
  constructor
  · intro h x
    rw [← sortD_mem (l := l), h, sortD_mem]
  · intro h
    exact asc_ext (sortD_asc l) (sortD_asc m) (fun x => by rw [sortD_mem, sortD_mem]; exact h x)
theorem numK_getD {K : Type} [DecidableEq K] (κ : Nat → K) {n a b : Nat} (ha : a < n) (hb : b < n) : (numK κ n).1.getD a 0 = (numK κ n).1.getD b 0 ↔ κ a = κ b := by
  rw [z17 (by rw [z117]; exact ha), z17 (by rw [z117]; exact hb)]
  exact numK_iff n (Nat.le_refl _) a b ha hb

def keyN (nx : List (List Int)) (bl : List Int) (i : Nat) : List Int := bl.getD i 0 :: sortD ((nx.getD i []).map fun p : Int => bl.getD p.toNat 0)
def refN (nx : List (List Int)) (n : Nat) (bl : List Int) : List Int := (numK (keyN nx bl) n).1
theorem refN_iff {nx : List (List Int)} {n : Nat} {bl : List Int} {a b : Nat} (ha : a < n) (hb : b < n) : (refN nx n bl).getD a 0 = (refN nx n bl).getD b 0 ↔ bl.getD a 0 = bl.getD b 0 ∧ ∀ x, (∃ p : Int, p ∈ nx.getD a [] ∧ bl.getD p.toNat 0 = x) ↔ ∃ p : Int, p ∈ nx.getD b [] ∧ bl.getD p.toNat 0 = x := by
  unfold refN
  rw [numK_getD _ ha hb]
  unfold keyN
  simp only [List.cons.injEq, sortD_iff, List.mem_map]

/-- what is in one block has successors in the same blocks -/
def Stb (nx : List (List Int)) (n : Nat) (c : Nat → Int) : Prop := ∀ i j, i < n → j < n → c i = c j → ∀ p ∈ nx.getD i [], ∃ q ∈ nx.getD j [], c q.toNat = c p.toNat
theorem Stb.of_ref {nx : List (List Int)} {n : Nat} {bl : List Int} (h : refN nx n bl = bl) : Stb nx n (fun i => bl.getD i 0) := by
  intro i j hi hj e p hp
  have := ((refN_iff (nx := nx) (bl := bl) hi hj).1 (by rw [h]; exact e)).2 (bl.getD p.toNat 0)
  obtain ⟨q, hq, e⟩ := this.1 ⟨p, hp, rfl⟩
  exact ⟨q, hq, e⟩
def bisM (nx : List (List Int)) (n : Nat) (b : List Int) : Nat → List Int
  | 0 => b
  | k + 1 => refN nx n (bisM nx n b k)
theorem inN_lt {nx : List (List Int)} {n i : Nat} (hr : ∀ r ∈ nx, InN n r) {p : Int} (hp : p ∈ nx.getD i []) : p.toNat < n := by
  have := rowInN hr i p hp
  omega
theorem coarsest {nx : List (List Int)} {n : Nat} {c : Nat → Int} (hr : ∀ r ∈ nx, InN n r) (hs : Stb nx n c) {b : List Int} (h0 : ∀ i j, i < n → j < n → c i = c j → b.getD i 0 = b.getD j 0) : ∀ k i j, i < n → j < n → c i = c j → (bisM nx n b k).getD i 0 = (bisM nx n b k).getD j 0 := by
  intro k
  induction k with
  | zero => exact h0
  | succ k ih =>
    intro i j hi hj e
    refine (refN_iff hi hj).2 ⟨ih i j hi hj e, fun x => ⟨fun ⟨p, hp, e1⟩ => ?_, fun ⟨p, hp, e1⟩ => ?_⟩⟩
    · obtain ⟨q, hq, e2⟩ := hs i j hi hj e p hp
      exact ⟨q, hq, by rw [← e1]; exact ih _ _ (inN_lt hr hq) (inN_lt hr hp) e2⟩
    · obtain ⟨q, hq, e2⟩ := hs j i hj hi e.symm p hp
      exact ⟨q, hq, by rw [← e1]; exact ih _ _ (inN_lt hr hq) (inN_lt hr hp) e2⟩
/-- each step is finer -/
theorem bisM_finer {nx : List (List Int)} {n : Nat} {b : List Int} {i j : Nat} (hi : i < n) (hj : j < n) : ∀ k, (bisM nx n b k).getD i 0 = (bisM nx n b k).getD j 0 → b.getD i 0 = b.getD j 0 := by
  intro k
  induction k with
  | zero => exact id
  | succ k ih => exact fun h => ih ((refN_iff hi hj).1 h).1
theorem numK_cntD {K : Type} [DecidableEq K] (κ : Nat → K) (n : Nat) : (numK κ n).2 ≤ n := (numF_lt _ n).2
/-- the partition into z67 states -/
def z67 (n : Nat) : List Int := (List.range n).map Int.ofNat
theorem z87 (n : Nat) : (z67 n).length = n := by simp [z67]
theorem z128 {n i : Nat} (h : i < n) : (z67 n).getD i 0 = i := by
  unfold z67
  rw [z17 (by simpa using h)]; simp
theorem numK_inj {K : Type} [DecidableEq K] {κ : Nat → K} {n : Nat} (h : ∀ a b, a < n → b < n → κ a = κ b → a = b) : (numK κ n).1 = z67 n ∧ (numK κ n).2 = n := by
  have key : ∀ i, i ≤ n → (numK κ i).1 = z67 i ∧ (numK κ i).2 = i := by
    intro i
    induction i with
    | zero => intro _; exact ⟨rfl, rfl⟩
    | succ i ih =>
      intro hi
      obtain ⟨h1, h2⟩ := ih (by omega)
      have hf : (List.range i).find? (fun k => decide (κ k = κ i)) = none := find_none fun j hj => by
        rw [decide_eq_false_iff_not]
        intro e
        have := h j i (by omega) (by omega) e
        omega
      have e : numK κ (i + 1) = ((numK κ i).1 ++ [((numK κ i).2 : Int)], (numK κ i).2 + 1) := by
        show numF _ (i + 1) = _
        rw [numF, hf]; rfl
      rw [e, h1, h2]
      refine ⟨?_, rfl⟩
      unfold z67
      rw [List.range_succ, List.map_append]; rfl
  exact key n (Nat.le_refl _)

/-! first states -/
def fstB (bl : List Int) (n : Nat) : List Nat := (List.range n).filter fun i => decide (∀ k, k < i → bl.getD k 0 ≠ bl.getD i 0)
def mstD (bl : List Int) : Nat → Int
  | 0 => 0
  | i + 1 => if bl.getD i 0 = mstD bl i then mstD bl i + 1 else mstD bl i
theorem fstB_succ (bl : List Int) (n : Nat) : fstB bl (n + 1) = fstB bl n ++ (if ∀ k, k < n → bl.getD k 0 ≠ bl.getD n 0 then [n] else []) := by
  unfold fstB
  rw [List.range_succ, List.filter_append]
  congr 1
  by_cases h : ∀ k, k < n → bl.getD k 0 ≠ bl.getD n 0
  · rw [if_pos h, List.filter_cons_of_pos (by simpa using h)]; rfl
  · rw [if_neg h, List.filter_cons_of_neg (by rw [decide_eq_true_iff]; exact h)]; rfl
theorem fstB_in {bl : List Int} {n i : Nat} (h : i ∈ fstB bl n) : i < n := by
  unfold fstB at h
  exact List.mem_range.1 (List.mem_filter.1 h).1
theorem fstB_len (bl : List Int) (n : Nat) : (fstB bl n).length ≤ n := by
  unfold fstB
  have := List.length_filter_le (fun i => decide (∀ k, k < i → bl.getD k 0 ≠ bl.getD i 0)) (List.range n)
  simpa using this
/-- the blocks are z116 in the order of their first states -/
theorem fstB_spec {bl : List Int} {n : Nat} (hp : ∀ i, i < n → 0 ≤ bl.getD i 0 ∧ bl.getD i 0 ≤ mstD bl i) : ∀ i, i ≤ n → ((fstB bl i).length : Int) = mstD bl i ∧ (∀ b (h : b < (fstB bl i).length), bl.getD (fstB bl i)[b] 0 = (b : Int)) ∧ ∀ k, k < i → bl.getD k 0 < mstD bl i := by
  intro i
  induction i with
  | zero => exact fun _ => ⟨rfl, fun b h => absurd h (by simp [fstB]), fun k hk => by omega⟩
  | succ i ih =>
    intro hi
    obtain ⟨h1, h2, h3⟩ := ih (by omega)
    have hb := hp i (by omega)
    rw [fstB_succ, mstD]
    by_cases he : bl.getD i 0 = mstD bl i
    · have hn : ∀ k, k < i → bl.getD k 0 ≠ bl.getD i 0 := fun k hk => by have := h3 k hk; omega
      rw [if_pos hn, if_pos he]
      refine ⟨by simp; omega, fun b h => ?_, fun k hk => ?_⟩
      · rcases Nat.lt_or_ge b (fstB bl i).length with hb | hb
        · rw [List.getElem_append_left hb]; exact h2 b hb
        · have : b = (fstB bl i).length := by simp at h; omega
          subst this
          simp only [List.getElem_concat_length]
          omega
      · rcases Nat.lt_or_ge k i with h | h
        · have := h3 k h; omega
        · obtain rfl : k = i := by omega
          omega
    · have hlt : bl.getD i 0 < mstD bl i := by omega
      have hn : ¬ ∀ k, k < i → bl.getD k 0 ≠ bl.getD i 0 := fun hn => by
        have hx : (bl.getD i 0).toNat < (fstB bl i).length := by omega
        have := h2 _ hx
        exact hn _ (fstB_in (List.getElem_mem hx)) (by omega)
      rw [if_neg hn, if_neg he, List.append_nil]
      refine ⟨h1, h2, fun k hk => ?_⟩
      rcases Nat.lt_or_ge k i with h | h
      · exact h3 k h
      · obtain rfl : k = i := by omega
        exact hlt
/-- a numbering is a partition -/
theorem numF_mstD (same : Nat → Nat → Bool) (n : Nat) : ∀ i, i ≤ n → mstD (numF same n).1 i = ((numF same i).2 : Int) := by
  intro i
  induction i with
  | zero => intro _; rfl
  | succ i ih =>
    intro hi
    have ih := ih (by omega)
    have hl : i < (numF same n).1.length := by rw [z55]; omega
    rw [mstD, ih, z17 hl]
    rcases find_dec (p := same i) (i := i) with h | ⟨k, h1, h2, h3⟩
    · have e := z99 (same := same) (n := n) (i := i) (by omega) h
      rw [e.1, e.2, if_pos rfl]; omega
    · have e := z93 (same := same) (n := n) (i := i) (by omega) h1 h2 h3
      have hlt := numF_lt' (same := same) (n := n) (i := i) (k := k) (by omega) h1
      rw [e.1, e.2, if_neg (by omega)]
theorem numF_partD (same : Nat → Nat → Bool) (n : Nat) : ∀ i, i < n → 0 ≤ (numF same n).1.getD i 0 ∧ (numF same n).1.getD i 0 ≤ mstD (numF same n).1 i := fun i hi => by
  rw [numF_mstD same n i (by omega), z17 (by rw [z55]; exact hi)]
  rcases find_dec (p := same i) (i := i) with h | ⟨k, h1, h2, h3⟩
  · have e := z99 (same := same) (n := n) (i := i) hi h
    rw [e.1]; omega
  · have e := z93 (same := same) (n := n) (i := i) hi h1 h2 h3
    have hlt := numF_lt' (same := same) (n := n) (i := i) (k := k) (by omega) h1
    rw [e.1]; omega

/-- what a partition needs for its quotient -/
structure Part (bl : List Int) (n : Nat) : Prop where
  rng : ∀ i, i < n → 0 ≤ bl.getD i 0 ∧ bl.getD i 0 ≤ mstD bl i
namespace Part
variable {bl : List Int} {n : Nat}
theorem cnt (h : Part bl n) : ((fstB bl n).length : Int) = mstD bl n := (fstB_spec h.rng n (Nat.le_refl _)).1
theorem at_fst (h : Part bl n) {b : Nat} (hb : b < (fstB bl n).length) : bl.getD ((fstB bl n).getD b 0) 0 = (b : Int) := by
  rw [z17 hb]; exact (fstB_spec h.rng n (Nat.le_refl _)).2.1 b hb
theorem lt (h : Part bl n) {i : Nat} (hi : i < n) : (bl.getD i 0).toNat < (fstB bl n).length := by
  have h1 := (fstB_spec h.rng n (Nat.le_refl _)).2.2 i hi
  have h2 := h.cnt
  have h3 := h.rng i hi
  omega
theorem fst_lt (h : Part bl n) {b : Nat} (hb : b < (fstB bl n).length) : (fstB bl n).getD b 0 < n := by
  rw [z17 hb]; exact fstB_in (List.getElem_mem hb)
end Part

/-- the successors in the quotient -/
def quoN (nx : List (List Int)) (n : Nat) (bl : List Int) : List (List Int) := (fstB bl n).map fun i => visits [] ((nx.getD i []).map fun p : Int => bl.getD p.toNat 0)
theorem quoN_len (nx : List (List Int)) (n : Nat) (bl : List Int) : (quoN nx n bl).length = (fstB bl n).length := by simp [quoN]
section
variable {nx : List (List Int)} {n : Nat} {bl : List Int} (hr : ∀ r ∈ nx, InN n r) (hp : Part bl n)
include hr hp
end
end Go.Gl

/- The quotient by the coarsest partition cannot be made smaller; a stable partition preserves branching-time formulas. -/
namespace Go.Gl

section
variable {nx : List (List Int)} {n : Nat} {bl : List Int} (hr : ∀ r ∈ nx, InN n r) (hp : Part bl n) (hs : Stb nx n (fun i => bl.getD i 0))
include hr hp hs
end
end Go.Gl

/- Ghost logic, part V: what reads as data of a type, is a value of a Lean type. -/
namespace Go.Gl
open Go.RowKit Go.WideShapes Go.ChangeShapes
variable {P : Program}

def OpensD {α : Type} (P : Program) (t : TypeId) (enc : α → List AC) (ok : α → Prop) : Prop := ∀ k, Opens P t (fun xs => ∃ a, xs = enc a ∧ ok a) k

theorem od_byte {t : TypeId} (ht : P.underlying t = some (.int .u8)) {enc : Int → List AC} (he : ∀ n, enc n = [.raw (.int .u8 n)]) : OpensD P t enc (fun n => (Lit.int .u8 n).wf = true) := fun k =>
  (opens_int ht k).imp fun xs ⟨n, h1, h2⟩ => ⟨n, h1.trans (he n).symm, h2⟩
theorem choose_map {α : Type} {enc : α → List AC} {ok : α → Prop} : (es : List (List AC)) → (∀ y ∈ es, ∃ a, y = enc a ∧ ok a) → ∃ l : List α, es = l.map enc ∧ ∀ a ∈ l, ok a
  | [], _ => ⟨[], rfl, fun _ h => by cases h⟩
  | e :: es, h => by
    obtain ⟨a, h1, h2⟩ := h e (by simp)
    obtain ⟨l, h3, h4⟩ := choose_map es fun y hy => h y (by simp [hy])
    exact ⟨a :: l, by rw [h1, h3]; rfl, fun b hb => by
      rcases List.mem_cons.1 hb with rfl | hb
      · exact h2
      · exact h4 b hb⟩

theorem opens_list {α : Type} {t e : TypeId} {enc : α → List AC} {ok : α → Prop} {n k : Nat} (ht : P.underlying t = some (.slice e)) (hc : P.cellsOf e = n) (hn : 0 < n) (h : Opens P e (fun xs => ∃ a, xs = enc a ∧ ok a) k) :
    Opens P t (fun xs => ∃ l : List α, xs = [.list n l.length (l.map enc)] ∧ l.length ≤ maxLen ∧ ∀ a ∈ l, ok a) (k + 1) :=
  (opens_slice ht hc hn h).imp fun xs ⟨es, h1, h2, h3⟩ => by
    obtain ⟨l, rfl, h4⟩ := choose_map es h3
    exact ⟨l, by rw [h1]; simp, by simpa using h2, h4⟩

theorem od_list {α : Type} {t e : TypeId} {enc : α → List AC} {ok : α → Prop} (n : Nat) (ht : P.underlying t = some (.slice e)) (hc : P.cellsOf e = n) (hn : 0 < n) (h : OpensD P e enc ok) {encL : List α → List AC} (he : ∀ l, encL l = [.list n l.length (l.map enc)]) :
    OpensD P t encL (fun l => l.length ≤ maxLen ∧ ∀ a ∈ l, ok a)
  | 0 => opens_zero
  | k + 1 => (opens_list ht hc hn (h k)).imp fun xs ⟨l, h1, h2⟩ => ⟨l, h1.trans (he l).symm, h2⟩

theorem OpensD.imp {α β : Type} {t : TypeId} {enc : α → List AC} {ok : α → Prop} {enc' : β → List AC} {ok' : β → Prop} (h : OpensD P t enc ok) (hi : ∀ a, ok a → ∃ b, enc a = enc' b ∧ ok' b) : OpensD P t enc' ok' := fun k =>
  (h k).imp fun xs ⟨a, h1, h2⟩ => by
    obtain ⟨b, h3, h4⟩ := hi a h2
    exact ⟨b, h1.trans h3, h4⟩

/-- an argument -/
def ArgD {α : Type} (P : Program) (t : TypeId) (enc : α → AC) (ok : α → Prop) : Prop := ArgOk P t fun x _ => ∃ a, x = enc a ∧ ok a

theorem ArgOk.imp {t : TypeId} {R R' : AC → Nat → Prop} (h : ArgOk P t R) (hi : ∀ x m, R x m → R' x m) : ArgOk P t R' := fun H enc b hB W r b0 v d ps hv hk => by
  obtain ⟨x, m, h1, h2⟩ := h H enc b hB W r b0 v d ps hv hk
  exact ⟨x, m, hi _ _ h1, h2⟩

theorem argD_list {α : Type} {t e : TypeId} {enc : α → List AC} {ok : α → Prop} {enc1 : α → AC} (ht : P.underlying t = some (.slice e)) (h : OpensD P t enc ok) (he : ∀ a, enc a = [enc1 a]) : ArgD P t enc1 ok :=
  (argOk_slice ht h).imp fun x m ⟨⟨a, h1, h2⟩, _⟩ => ⟨a, by rw [he] at h1; exact (List.cons.inj h1).1, h2⟩
theorem ArgD.imp {α β : Type} {t : TypeId} {enc : α → AC} {ok : α → Prop} {enc' : β → AC} {ok' : β → Prop} (h : ArgD P t enc ok) (hi : ∀ a, ok a → ∃ b, enc a = enc' b ∧ ok' b) : ArgD P t enc' ok' :=
  ArgOk.imp h fun x m ⟨a, h1, h2⟩ => by
    obtain ⟨b, h3, h4⟩ := hi a h2
    exact ⟨b, h1.trans h3, h4⟩

theorem ArgsOk.imp : {ts : List TypeId} → {R R' : List AC → Nat → Prop} → ArgsOk P ts R → (∀ xs m, R xs m → R' xs m) → ArgsOk P ts R'
  | [], _, _, h, hi => hi _ _ h
  | _ :: _, _, _, ⟨R1, R2, h1, h2, h3⟩, hi => ⟨R1, R2, h1, h2, fun a m as n ha has => hi _ _ (h3 a m as n ha has)⟩
theorem args_nil : ArgsOk P [] (fun xs _ => xs = []) := rfl
theorem args_cons {α : Type} {t : TypeId} {ts : List TypeId} {enc : α → AC} {ok : α → Prop} {R : List AC → Prop} (h : ArgD P t enc ok) (k : ArgsOk P ts (fun xs _ => R xs)) : ArgsOk P (t :: ts) (fun xs _ => ∃ a ys, xs = enc a :: ys ∧ ok a ∧ R ys) :=
  ⟨_, _, h, k, fun _ _ as _ ⟨b, h1, h2⟩ h3 => ⟨b, as, by rw [h1], h2, h3⟩⟩

theorem bulks_sizeOf {H : Type} : (l : List (DataW H)) → bulks SizeOf.sizeOf l + 1 ≤ SizeOf.sizeOf l
  | [] => by simp [bulks]
  | d :: r => by
    have := bulks_sizeOf r
    simp only [bulks, List.cons.sizeOf_spec]
    omega
theorem bulk_sizeOf {H : Type} : Bulk (H := H) SizeOf.sizeOf where
  lit l := by simp only [DataW.lit.sizeOf_spec]; omega
  nil := by simp
  slice es sp := by
    have := bulks_sizeOf es
    simp only [DataW.slice.sizeOf_spec]; omega
  agg ps := by
    have := bulks_sizeOf ps
    simp only [DataW.agg.sizeOf_spec]; omega
end Go.Gl

