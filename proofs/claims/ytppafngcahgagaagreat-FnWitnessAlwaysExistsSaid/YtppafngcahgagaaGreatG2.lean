/- A part of the proofs over this program: D5, D6, GlZ1, GlAA, GlRS, D7, D8, D9, D10, D12, D13, GlRT, GlV. -/
import Derived.Test.YtppafngcahgagaaGreatG0
import Derived.Test.YtppafngcahgagaaGreatG1
import Derived.Sort.Grow
import Derived.Lib.SlicesCompact
set_option linter.all false
namespace Go.Gl
theorem z445 {objs : Nat → AObj} {π Bn : List Nat} {o w n : Nat} {es L : List (List AC)} (ho : objs o = .cells w es) (h1 : idx π o = none) (h2 : inB Bn o = true) (hl : es.length = n) (hu : z95 es = L) : bor objs π Bn (.sref o 0 n) = .list w n L := by
  rw [z446 ho h1 h2 hl, hu]
theorem z133 {objs : Nat → AObj} {π Bn : List Nat} : borL objs π Bn [] = [] := rfl
theorem z93 {objs : Nat → AObj} {π Bn : List Nat} {x y : AC} {xs ys : List AC} (h : bor objs π Bn x = y) (k : borL objs π Bn xs = ys) : borL objs π Bn (x :: xs) = y :: ys := by
  simp only [borL, h, k]
section
variable {P : Program}
theorem Wf.phantoms {G : Ghost} {w0 : World} (hW : Wf G (z86 []) w0) {l : List AObj} (h : ∀ x ∈ l, ∃ w, x = .cells w []) : Wf G (z86 l) w0 := by
  refine ⟨hW.hS, hW.hU, hW.su, hW.sk, fun o => ?_⟩
  have hι : G.ι o = none := by
    have := hW.objs o
    have e : z86 [] o = .fresh := by simp [z86, z92]
    rw [e] at this;exact this
  show ObjRel G (hp w0) o (z86 l o)
  rcases Nat.lt_or_ge o l.length with h1|h1
  · obtain ⟨w, hw⟩ := h _ (List.getElem_mem h1)
    have : z86 l o = .cells w [] := by
      rw [← hw];unfold z86;exact z98 (List.getElem?_eq_getElem h1)
    rw [this];exact .inl ⟨rfl, hι⟩
  · have : z86 l o = .fresh := z110 h1
    rw [this];exact hι
theorem CallsA.nils {f : FuncId} {args : List AC} {res res' : AC} {l : List AObj} (h : CallsA P f args [] res []) (hl : ∀ x ∈ l, ∃ w, x = .cells w []) (hr : ACle res res') : CallsA P f args [] res' l := by
  refine ⟨h.1, fun G w vs hW hs hv => (h.2 G w vs hW hs hv).mono ?_⟩
  rintro e w' ⟨G', v, rfl, h1, h2, h3, h4, h5⟩
  exact ⟨G', v, rfl, h1, h2, h3, h4.phantoms hl, hr _ _ _ h5⟩
end
theorem nil_sref {o : Nat} : ACle .nils (.sref o 0 0) := fun G h v hv => by
  simp only [V] at hv ⊢
  exact ⟨0, Nat.le_refl _, .inl ⟨rfl, none, hv⟩⟩
end Go.Gl

namespace Go.Gl
inductive RP (rows : List (List Int)) (ini : List Int) : Int → Prop
  | base {x : Int} : x ∈ ini → RP rows ini x
  | step {x y : Int} : RP rows ini x → y ∈ rows.getD x.toNat [] → RP rows ini y
def InN (N : Nat) (l : List Int) : Prop := ∀ x ∈ l, 0 ≤ x ∧ x < N
section
variable {enc : Bool → List AC}
end
noncomputable instance {rows : List (List Int)} {ini : List Int} {x : Int} : Decidable (RP rows ini x) := Classical.propDecidable _
theorem z679 : ∀ (N : Nat) (l : List Int), l.Nodup → InN N l → l.length ≤ N
  | 0, l, _, h => by
    cases l with
    | nil => exact Nat.le_refl _
    | cons a l => have := h a (by simp);omega
  | N + 1, l, hn, h => by
    by_cases hN : (N : Int) ∈ l
    · have h1 := z679 N (l.erase N) (hn.erase _) fun x hx => by
        have h2 := (hn.mem_erase_iff).1 hx
        have h3 := h x h2.2
        have h4 := h2.1
        omega
      rw [List.length_erase_of_mem hN] at h1
      have : 0 < l.length := List.length_pos_of_mem hN
      omega
    · have h1 := z679 N l hn fun x hx => by
        have h3 := h x hx
        have h4 : x ≠ N := by rintro rfl;exact hN hx
        omega
      omega
section
variable {rows : List (List Int)} {ini : List Int}
theorem row_in {N : Nat} (hr : ∀ r ∈ rows, InN N r) (v : Int) : InN N (rows.getD v.toNat []) := by
  by_cases h : v.toNat < rows.length
  · rw [z107 h];exact hr _ (List.getElem_mem _)
  · rw [List.getD_eq_getElem?_getD, List.getElem?_eq_none (by omega)];intro x hx;cases hx
theorem RP.in {x : Int} (hr : ∀ r ∈ rows, InN rows.length r) (hi : InN rows.length ini) (h : RP rows ini x) : 0 ≤ x ∧ x < rows.length := by
  induction h with
  | base h => exact hi _ h
  | step _ h2 _ => exact row_in hr _ _ h2
end
end Go.Gl

namespace Go.Gl
variable {P : Program} {st : St} {K : OpK} {f : FuncId} {first caps args args0 : List AC} {objs0 objs1 objs1' : List AObj} {res : AC}
def addN (l : List Nat) (x : Nat) : List Nat := match inB l x with
  | true => l
  | false => l ++ [x]
mutual
def namesA (acc : List Nat) (x : AC) : List Nat := match x with
  | .sref o _ _ => addN acc o
  | .ptr o _ _ => addN acc o
  | .fn _ a b => z353 (z353 acc a) b
  | .agg cs => z353 acc cs
  | .tup cs => z353 acc cs
  | _ => acc
termination_by structural x
def z353 (acc : List Nat) (xs : List AC) : List Nat := match xs with
  | [] => acc
  | x :: xs => z353 (namesA acc x) xs
termination_by structural xs
end
end Go.Gl

namespace Go.Gl
open Go.Sort
variable {P : Program}
end Go.Gl

namespace Go.Gl
variable {P : Program} {T : Tab}
inductive F2 {α β : Type} (R : α → β → Prop) : List α → List β → Prop
  | nil : F2 R [] []
  | cons {x : α} {y : β} {xs : List α} {ys : List β} : R x y → F2 R xs ys → F2 R (x :: xs) (y :: ys)
theorem VL_le {xs ys : List AC} (h : F2 LocLe xs ys) : ∀ {G : Ghost} {hh : Nat → Option Obj} {l : Loc} {c : Array Value} {off : Nat}, VL G hh l xs c off → VL G hh l ys c off := by
  induction h with
  | nil => intro G hh l c off _;simp [VL]
  | cons h1 _ ih =>
    intro G hh l c off hv
    simp only [VL] at hv ⊢
    obtain ⟨⟨v, hv1, hv2⟩, hv3⟩ := hv
    exact ⟨⟨v, hv1, h1 _ _ _ _ hv2⟩, ih hv3⟩
theorem z215 {α β : Type} {R : α → β → Prop} {xs : List α} {ys : List β} (h : F2 R xs ys) : xs.length = ys.length := by
  induction h with
  | nil => rfl
  | cons _ _ ih => simp [ih]
theorem VLL_le {w : Nat} {xs ys : List (List AC)} (h : F2 (F2 LocLe) xs ys) : ∀ {G : Ghost} {hh : Nat → Option Obj} {l : Loc} {c : Array Value} {off : Nat}, VLL G hh l w xs c off → VLL G hh l w ys c off := by
  induction h with
  | nil => intro G hh l c off _;simp [VLL]
  | cons h1 _ ih =>
    intro G hh l c off hv
    simp only [VLL] at hv ⊢
    obtain ⟨hv1, hv2, hv3⟩ := hv
    exact ⟨by rw [← z215 h1, hv1], VL_le h1 hv2, ih hv3⟩
theorem LocLe.trans {x y z : AC} (h : LocLe x y) (k : LocLe y z) : LocLe x z := fun G hh l v hv => k G hh l v (h G hh l v hv)
theorem LocLe.of_eq {x y : AC} (h : x = y) : LocLe x y := h ▸ LocLe.refl x
theorem z38 {w : Nat} : LocLe .nils (.list w 0 []) := fun G h l v hv => by
  simp only [V] at hv ⊢
  exact ⟨none, 0, hv, Nat.le_refl _, rfl, .inl trivial⟩
theorem z74 {xs ys : List AC} (h : F2 LocLe xs ys) : LocLe (.agg xs) (.agg ys) := fun G hh l v hv => by
  simp only [V] at hv ⊢
  obtain ⟨c, rfl, h1, h2⟩ := hv
  exact ⟨c, rfl, by rw [h1, z215 h], VL_le h h2⟩
theorem z72 {xs ys : List AC} (h : F2 LocLe xs ys) : LocLe (.tup xs) (.tup ys) := fun G hh l v hv => by
  simp only [V] at hv ⊢
  obtain ⟨c, rfl, h1, h2⟩ := hv
  exact ⟨c, rfl, by rw [h1, z215 h], VL_le h h2⟩
theorem z32 {w n n' : Nat} {xs ys : List (List AC)} (hn : n = n') (h : F2 (F2 LocLe) xs ys) : LocLe (.list w n xs) (.list w n' ys) := fun G hh l v hv => by
  subst hn
  simp only [V] at hv ⊢
  obtain ⟨a, cap, rfl, h1, h2, h3⟩ := hv
  refine ⟨a, cap, rfl, h1, by rw [← z215 h, h2], ?_⟩
  rcases h3 with rfl|⟨b, off, c, el, fz, h4, h5, h6⟩
  · cases h;exact .inl rfl
  · exact .inr ⟨b, off, c, el, fz, h4, h5, VLL_le h h6⟩
theorem z59 (xs : List AC) : F2 LocLe xs xs := by
  induction xs with
  | nil => exact .nil
  | cons x xs ih => exact .cons (LocLe.refl x) ih
theorem z50 (xs : List (List AC)) : F2 (F2 LocLe) xs xs := by
  induction xs with
  | nil => exact .nil
  | cons x xs ih => exact .cons (z59 x) ih
theorem z706 {xs ys : List (List AC)} (h : xs = ys) : F2 (F2 LocLe) xs ys := h ▸ z50 xs
theorem node_le' {k v : Int} {x : AC} {l : List Tree} (h : LocLe x (.list 3 l.length (l.map Tree.cs))) : F2 LocLe [.int k, .int v, x] (Tree.cs' (.mk k v l)) :=
  .cons (LocLe.refl _) (.cons (LocLe.refl _) (.cons h .nil))
def ObjLe : AObj → AObj → Prop
  | .cells w es, .cells w' es' => w = w' ∧ F2 (F2 LocLe) es es'
  | .dead, .dead => True
  | _, _ => False
theorem ObjLe.mk {w : Nat} {es es' : List (List AC)} (h : F2 (F2 LocLe) es es') : ObjLe (.cells w es) (.cells w es') := ⟨rfl, h⟩
theorem ObjLe.box {w : Nat} {e e' : List AC} (h : F2 LocLe e e') : ObjLe (.cells w [e]) (.cells w [e']) := ⟨rfl, .cons h .nil⟩
theorem ObjRel.le {G : Ghost} {h : Nat → Option Obj} {o : Nat} {x y : AObj} (hl : ObjLe x y) (hx : ObjRel G h o x) : ObjRel G h o y := by
  cases x with
  | fresh => exact hl.elim
  | dead =>
    cases y with
    | dead => exact hx
    | _ => exact hl.elim
  | cells w es =>
    cases y with
    | cells w' es' =>
      obtain ⟨rfl, hl⟩ := hl
      rcases hx with ⟨h1, h2⟩|⟨b, size, c, el, h1, h2, h3, h4, h5⟩
      · subst h1;cases hl;exact .inl ⟨rfl, h2⟩
      · exact .inr ⟨b, size, c, el, h1, h2, h3, h4, VLL_le hl h5⟩
    | _ => exact hl.elim
theorem Wf.le {G : Ghost} {objs objs' : List AObj} {w : World} (h : Wf G (z86 objs) w) (hl : F2 ObjLe objs objs') : Wf G (z86 objs') w := by
  refine ⟨h.hS, h.hU, h.su, h.sk, fun o => ?_⟩
  have ho := h.objs o
  have key : ∀ {xs ys : List AObj} (k : Nat), F2 ObjLe xs ys → ObjLe (z86 xs k) (z86 ys k) ∨ z86 xs k = z86 ys k := by
    intro xs ys k hf
    induction hf generalizing k with
    | nil => exact .inr rfl
    | cons h1 _ ih =>
      cases k with
      | zero => exact .inl h1
      | succ k => exact ih k
  rcases key o hl with h1|h1
  · exact ObjRel.le h1 ho
  · show ObjRel G (hp w) o (z86 objs' o)
    rw [← h1];exact ho
theorem CallsA.res {f : FuncId} {args : List AC} {objs objs' : List AObj} {res res' : AC} (h : CallsA P f args objs res objs') (hl : LocLe res res') : CallsA P f args objs res' objs' :=
  ⟨h.1, fun G w vs hW hs hv => (h.2 G w vs hW hs hv).mono fun e w' ⟨G', v, h1, h2, h3, h4, h5, h6⟩ => ⟨G', v, h1, h2, h3, h4, h5, hl _ _ _ _ h6⟩⟩
def RetS (m : Nat) (o : Nat → AObj) (res : AC) (objs' : List AObj) (r : AC) : Prop :=
  ∀ (G : Ghost) (w : World) (v : Value), Wf G o w → V G (hp w) none r v → ∃ G', SubM m G G' ∧ Wf G' (z86 objs') w ∧ V G' (hp w) none res v
theorem RetS.of {m : Nat} {st : St} {res : AC} {objs' : List AObj} {r : AC} (h : z100 m st res objs' r) : RetS m st.objs res objs' r := fun G w v hW hV => by
  obtain ⟨π, hn, hf, hu, hr, ho⟩ := h
  obtain ⟨ho1, ho2⟩ := z229 0 π objs' ho
  have hpick : Wf (G.pick π) (z86 objs') w := hW.pick hn (fun i o hio => ⟨(ho2 i o hio).2, (ho2 i o hio).1⟩) (fun i hi => z110 (by omega))
  exact ⟨G.pick π, SubM.pick (fun i hi => by have := z142 m 0 π hf i hi;simpa using this), hpick, z547 _ hu (hr _ _ _ hV)⟩
theorem RetS.lay (π Bn : List Nat) {m : Nat} {o : Nat → AObj} {res : AC} {objs' : List AObj} {r : AC} (hn : z198 (π ++ Bn) = true) (ha : allN (fun x => z160 (o x)) π = true) (hf : z216 m 0 π = true)
    (h : RetS m (z86 (π.map (z113 o π Bn))) res objs' (bor o π Bn r)) : RetS m o res objs' r := fun G w v hW hV => by
  have hnd := z150 hn
  obtain ⟨k1, k2, k3, k4⟩ := z272 (π := π) (Bn := Bn) hW (List.nodup_append.1 hnd).1 (fun o ho hb => (List.nodup_append.1 hnd).2.2 o ho o hb rfl) (z208 ha)
  obtain ⟨G', h1, h2, h3⟩ := h _ w v k1 (k4 _ _ hV)
  refine ⟨G', SubM.trans ⟨k2, fun o t ho e => ?_⟩ h1, h2, h3⟩
  have := z142 m 0 π hf o ho
  rw [Nat.zero_add] at this
  exact k3 o o t (z187 (List.nodup_append.1 hnd).1 this) e
theorem RetS.done {m : Nat} {objs objs' : List AObj} {res r : AC} (h1 : LocLe r res) (h2 : F2 ObjLe objs objs') : RetS m (z86 objs) res objs' r := fun G w v hW hV =>
  ⟨G, SubM.refl m G, hW.le h2, h1 _ _ _ _ hV⟩
def RetSQ (T : Tab) (rs : List ResultVar) (m : Nat) (res : AC) (objs' : List AObj) (ex : Exit) (st : St) : Prop := match ex with
  | .normal => z287 T st rs fun xs => RetS m st.objs res objs' (z250 xs)
  | .ret => z287 T st rs fun xs => RetS m st.objs res objs' (z250 xs)
  | _ => False
theorem rets_ok (hT : z135 P T) {fn : Func} {m : Nat} {res : AC} {objs' : List AObj} {G : Ghost} {st : St} {a : Act} {w : World} (hR : Rel G st a w) (h : z287 T st fn.results.toList fun xs => RetS m st.objs res objs' (z250 xs)) :
    ∃ v G', (results fn a.tmps).run P w = .ok v w ∧ SubM m G G' ∧ Wf G' (z86 objs') w ∧ V G' (hp w) none res v := by
  obtain ⟨xs, vs, h1, h2, h3, _, h4⟩ := z678 hT hR _ _ h
  have hres : (results fn a.tmps).run P w = .ok (if h : vs.toArray.size = 1 then vs.toArray[0] else .tuple vs.toArray) w := by
    rw [z402, Array.mapM_eq_mapM_toList]
    simp [h1]
  have hV : V G (hp w) none (z250 xs) (if h : vs.toArray.size = 1 then vs.toArray[0] else .tuple vs.toArray) := by
    by_cases hl : vs.length = 1
    · obtain ⟨v, rfl⟩ := List.length_eq_one_iff.1 hl
      obtain ⟨x, rfl⟩ := List.length_eq_one_iff.1 (h2 ▸ hl)
      obtain ⟨v', hv1, hv2⟩ := h3 0 x (by simp)
      simp at hv1;subst hv1
      simpa [z250] using hv2
    · rw [dif_neg (by simpa using hl)]
      have : z250 xs = .tup xs := by
        unfold z250
        split
        · simp at h2;exact absurd h2 hl
        · rfl
      rw [this]
      simp only [V]
      refine ⟨_, rfl, by simp [h2], z89.2 fun j x hx => ?_⟩
      obtain ⟨v, hv1, hv2⟩ := h3 j x hx
      exact ⟨v, by simpa using hv1, hv2⟩
  obtain ⟨G', h5, h6, h7⟩ := h4 G w _ hR.wf hV
  exact ⟨_, G', hres, h5, h6, h7⟩
theorem z69 (hT : z135 P T) {f : FuncId} {fn : Func} {c : Code} (hf : P.funcs[f]? = some fn) (hb : fn.body = some c) (hn : (fn.name == "runtime.NumGoroutine") = false) {args : List AC} {objs : List AObj} {res : AC} {objs' : List AObj}
    (n : Nat) (hnt : fn.ntmps = n) (hl : args.length ≤ n) (h : AWP P objs.length c (RetSQ T fn.results.toList objs.length res objs') (mkSt n (z166 0 args) objs)) : CallsA P f args objs res objs' := by
  subst hnt
  refine ⟨⟨fn, c, hf, hn, hb⟩, fun G w vs hW hs hv => ?_⟩
  refine calls_of_wp hf hb (wp_mono (h G { tmps := vs ++ Array.replicate (fn.ntmps - vs.size) undef, defers := [] } w ⟨hW, fun s => ?_, by show _ = fn.ntmps;simp;omega, rfl⟩) fun ex a' w' hq => ?_)
  · show V G (hp w) none (z120 (z166 0 args) s) _
    rw [z352]
    by_cases hsl : s < args.length
    · have hx : args[s]? = some args[s] := List.getElem?_eq_getElem hsl
      obtain ⟨v, hv1, hv2⟩ := z89.1 hv s _ hx
      rw [Nat.zero_add] at hv1
      rw [z98 hx]
      have : (vs ++ Array.replicate (fn.ntmps - vs.size) undef).getD s undef = v := by
        rw [Array.getD_eq_getD_getElem?, Array.getElem?_append, if_pos (by omega), hv1];rfl
      rw [this];exact hv2
    · rw [z110 (by omega)];simp [V]
  · obtain ⟨G', st', h1, h2, h3, h4⟩ := hq
    have key : (z287 T st' fn.results.toList fun xs => RetS objs.length st'.objs res objs' (z250 xs)) → ∃ v, (results fn a'.tmps).run P w' = .ok v w' ∧ ∃ G'' v', Ending.returned v = .returned v' ∧ G.Sub G'' ∧ (∀ o t, o < objs.length → G.ι o = some t → G''.ι o = some t) ∧ Le w w' ∧ Wf G'' (z86 objs') w' ∧ V G'' (hp w') none res v' := by
      intro hr
      obtain ⟨v, G'', h5, h6, h7, h8⟩ := rets_ok hT h4 hr
      have h9 := h1.trans h6
      exact ⟨v, h5, G'', v, rfl, h9.1, h9.2, h2, h7, h8⟩
    cases ex with
    | normal => exact ⟨h4.defers, key h3⟩
    | ret => exact ⟨h4.defers, key h3⟩
    | _ => exact h3.elim
def envLe (f : Nat → AC) : List (Nat × AC) → Prop
  | [] => True
  | (s, x) :: r => LocLe (f s) x ∧ envLe f r
theorem z640 {f : Nat → AC} {env : List (Nat × AC)} (h : envLe f env) (s : Nat) : LocLe (f s) (z120 env s) := by
  induction env with
  | nil => exact fun G hh l v _ => by simp [z120, V]
  | cons y env ih =>
    obtain ⟨s', x⟩ := y
    obtain ⟨h1, h2⟩ := h
    simp only [z120]
    cases hb : Nat.beq s s' with
    | true => rw [Nat.eq_of_beq_eq_true hb];exact h1
    | false => exact ih h2
theorem SealW.reach (π Bn : List Nat) {m n : Nat} {st : St} {env : List (Nat × AC)} {objs : List AObj} (hst : st.n = n) (hn : z198 (π ++ Bn) = true) (ha : allN (fun x => z160 (st.objs x)) π = true) (hf : z216 m 0 π = true)
    (he : envLe (fun s => bor st.objs π Bn (st.env s)) env) (ho : F2 ObjLe (π.map (z113 st.objs π Bn)) objs) : Reach m st (mkSt n env objs) := fun G a w hR => by
  have hnd := z150 hn
  obtain ⟨k1, k2, k3, k4⟩ := z272 (π := π) (Bn := Bn) hR.wf (List.nodup_append.1 hnd).1 (fun o ho hb => (List.nodup_append.1 hnd).2.2 o ho o hb rfl) (z208 ha)
  refine ⟨_, ⟨k2, fun o t ho e => ?_⟩, ⟨k1.le ho, fun s => ?_, by rw [hR.size, hst];rfl, hR.defers⟩⟩
  · have := z142 m 0 π hf o ho
    rw [Nat.zero_add] at this
    exact k3 o o t (z187 (List.nodup_append.1 hnd).1 this) e
  · exact z640 he s _ _ _ _ (k4 _ _ (hR.env s))
theorem z46 {q : Nat} : LocLe .nils (.sref q 0 0) := fun G h l v hv => by
  simp only [V] at hv ⊢
  exact ⟨0, Nat.le_refl _, .inl ⟨rfl, none, hv⟩⟩
theorem Reach.empty (w : Nat) {m n : Nat} {env : List (Nat × AC)} {objs : List AObj} (_hm : Nat.ble m objs.length = true) : Reach m (mkSt n env objs) (mkSt n env (objs ++ [.cells w []])) := fun G a wd hR => by
  refine ⟨G, SubM.refl m G, ⟨⟨hR.wf.hS, hR.wf.hU, hR.wf.su, hR.wf.sk, fun o => ?_⟩, hR.env, hR.size, hR.defers⟩⟩
  show ObjRel G (hp wd) o (z92 .fresh (objs ++ [.cells w []]) o)
  have ho : ObjRel G (hp wd) o (z92 .fresh objs o) := hR.wf.objs o
  rcases Nat.lt_trichotomy o objs.length with h|h|h
  · have h1 : (objs ++ [AObj.cells w []])[o]? = some objs[o] := by rw [List.getElem?_append_left h, List.getElem?_eq_getElem h]
    rw [z98 h1]
    rwa [z98 (List.getElem?_eq_getElem h)] at ho
  · subst h
    rw [z98 (x := AObj.cells w []) (by simp)]
    rw [z110 (Nat.le_refl _)] at ho
    exact .inl ⟨rfl, ho⟩
  · rw [z110 (by simp;omega)]
    rwa [z110 (by omega)] at ho
def z118 {α : Type} (I : α → List (Nat × AC) × List AObj) (ok : α → Prop) (μ : α → Nat) (x : α) (m n : Nat) (st : St) : Prop := ∃ y, ok y ∧ μ y < μ x ∧ Reach m st (mkSt n (I y).1 (I y).2)
theorem z112 {α : Type} {I : α → List (Nat × AC) × List AObj} {ok : α → Prop} {μ : α → Nat} {x : α} {m n : Nat} {st : St} (y : α) (h1 : ok y) (h2 : μ y < μ x) (h3 : Reach m st (mkSt n (I y).1 (I y).2)) : z118 I ok μ x m n st := ⟨y, h1, h2, h3⟩
theorem z167 {α : Type} {m n : Nat} {env : List (Nat × AC)} {objs : List AObj} {body : Code} {Q : Exit → St → Prop} (I : α → List (Nat × AC) × List AObj) (ok : α → Prop) (μ : α → Nat) (x0 : α) (h0 : ok x0) (hinit : Reach m (mkSt n env objs) (mkSt n (I x0).1 (I x0).2))
    (round : ∀ x, ok x → AWP P m body (z460 (fun st' => z118 I ok μ x m n st') Q) (mkSt n (I x).1 (I x).2)) : AWP P m (.loop body) Q (mkSt n env objs) := z719 I ok μ x0 h0 hinit round
theorem z34 {objs : Nat → AObj} {π Bn : List Nat} {o w : Nat} {es es' : List (List AC)} (ho : objs o = .cells w es) (hf : Flat es) (h : F2 (F2 LocLe) es es') : ObjLe (z113 objs π Bn o) (.cells w es') := by
  rw [z22 ho hf];exact ⟨rfl, h⟩
theorem z40 {α : Type} {f : α → List AC} (h : ∀ a, z225 (f a) = f a) (l : List α) : z95 (l.map f) = l.map f := by
  induction l with
  | nil => rfl
  | cons a l ih => simp only [List.map_cons, z95, h a, ih]
theorem z14 {a : List (List AC)} (h : Flat a) (n : Nat) : Flat (a.take n) := fun e he => h e (List.mem_of_mem_take he)
theorem z47 {a : List (List AC)} (h : Flat a) (n : Nat) {e : List AC} (he : z251 e = true) : Flat (a.set n e) := fun x hx => by
  rcases List.mem_or_eq_of_mem_set hx with h1|rfl
  · exact h x h1
  · exact he
theorem z79 {α : Type} {f : α → List AC} {l : List α} {k n : Nat} {e : List AC} (hn : n = k) (hk : k < l.length) (he : F2 LocLe e (f (l[k]'hk))) : F2 (F2 LocLe) (((l.take k).map f).take n ++ [e]) ((l.take (k + 1)).map f) := by
  subst hn
  rw [List.take_succ_eq_append_getElem hk, List.map_append, List.take_of_length_le (by simp;omega)]
  have : ∀ (a : List (List AC)) {b c : List AC}, F2 LocLe b c → F2 (F2 LocLe) (a ++ [b]) (a ++ [c]) := fun a b c h => by
    induction a with
    | nil => exact .cons h .nil
    | cons x a ih => exact .cons (z59 x) ih
  exact this _ he
theorem z77 {a b : Int} (h : a = b) : LocLe (.int a) (.int b) := h ▸ LocLe.refl _
theorem z73 {α : Type} {w k : Nat} {f : α → List AC} {l : List α} (h : k = l.length) : LocLe (.list w k ((l.take k).map f)) (.list w l.length (l.map f)) := by
  subst h;rw [List.take_length];exact LocLe.refl _
theorem z33 {k : Nat} {l : List Tree} (h : k = l.length) : LocLe (.list 3 k ((l.take k).map Tree.cs')) (.list 3 l.length (l.map Tree.cs)) := by
  rw [Tree.cs_eq];exact z73 h
theorem z78 {l : List Tree} : F2 (F2 LocLe) (l.map Tree.cs') (l.map Tree.cs) := by rw [Tree.cs_eq];exact z50 _
theorem f22_cs' {l : List Tree} : F2 (F2 LocLe) (l.map Tree.cs) (l.map Tree.cs') := by rw [Tree.cs_eq];exact z50 _
theorem Wf.empty {G : Ghost} {objs : List AObj} {wd : World} (w : Nat) (h : Wf G (z86 objs) wd) : Wf G (z86 (objs ++ [.cells w []])) wd := by
  refine ⟨h.hS, h.hU, h.su, h.sk, fun o => ?_⟩
  show ObjRel G (hp wd) o (z92 .fresh (objs ++ [.cells w []]) o)
  have ho : ObjRel G (hp wd) o (z92 .fresh objs o) := h.objs o
  rcases Nat.lt_trichotomy o objs.length with h|h|h
  · have h1 : (objs ++ [AObj.cells w []])[o]? = some objs[o] := by rw [List.getElem?_append_left h, List.getElem?_eq_getElem h]
    rw [z98 h1]
    rwa [z98 (List.getElem?_eq_getElem h)] at ho
  · subst h
    rw [z98 (x := AObj.cells w []) (by simp)]
    rw [z110 (Nat.le_refl _)] at ho
    exact .inl ⟨rfl, ho⟩
  · rw [z110 (by simp;omega)]
    rwa [z110 (by omega)] at ho
theorem RetS.empty (w : Nat) {m : Nat} {objs : List AObj} {res : AC} {objs' : List AObj} {r : AC} (h : RetS m (z86 (objs ++ [.cells w []])) res objs' r) : RetS m (z86 objs) res objs' r := fun G wd v hW hV => h G wd v (hW.empty w) hV
theorem CallsA.settle {f : FuncId} {args : List AC} {objs objs1 objs2 : List AObj} {res res2 : AC} (h : CallsA P f args objs res objs1) (π Bn : List Nat) (hn : z198 (π ++ Bn) = true) (ha : allN (fun o => z160 (z86 objs1 o)) π = true)
    (hf : z216 objs.length 0 π = true) (hr : LocLe (bor (z86 objs1) π Bn res) res2) (ho : F2 ObjLe (π.map (z113 (z86 objs1) π Bn)) objs2) : CallsA P f args objs res2 objs2 := by
  refine ⟨h.1, fun G w vs hW hs hv => (h.2 G w vs hW hs hv).mono ?_⟩
  rintro e w' ⟨G', v, rfl, h1, h2, h3, h4, h5⟩
  have hnd := z150 hn
  obtain ⟨k1, k2, k3, k4⟩ := z272 (π := π) (Bn := Bn) h4 (List.nodup_append.1 hnd).1 (fun o ho hb => (List.nodup_append.1 hnd).2.2 o ho o hb rfl) (z208 ha)
  refine ⟨_, v, rfl, h1.trans k2, fun o t ho e => ?_, h3, k1.le ho, hr _ _ _ _ (k4 _ _ h5)⟩
  have := z142 objs.length 0 π hf o ho
  rw [Nat.zero_add] at this
  exact k3 o o t (z187 (List.nodup_append.1 hnd).1 this) (h2 o t ho e)
theorem z62 {l : List Tree} (h : l = []) : LocLe .nils (.list 3 l.length (l.map Tree.cs)) := by subst h;exact z38
theorem z76 {α : Type} {w n : Nat} {f : α → List AC} {l : List α} (h : n = l.length) : LocLe (.list w n (l.map f)) (.list w l.length (l.map f)) := by subst h;exact LocLe.refl _
def borX (objs : Nat → AObj) (π Bn : List Nat) (x : AC) : AC := match x with
  | .own w' es' => .own w' es'
  | x => bor objs π Bn x
theorem z274 {objs : Nat → AObj} {π Bn : List Nat} {o w : Nat} {es : List (List AC)} (ho : objs o = .cells w es) : z113 objs π Bn o = .cells w (es.map (·.map (borX objs π Bn))) := by
  simp only [z113, ho];rfl
theorem z508 {objs : Nat → AObj} {π Bn : List Nat} {es : List (List AC)} (h : Flat es) : es.map (·.map (borX objs π Bn)) = es := by
  have := z22 (objs := fun _ => .cells 0 es) (π := π) (Bn := Bn) (o := 0) rfl h
  conv => rhs;rw [← List.map_id es]
  refine List.map_congr_left fun e he => ?_
  conv => rhs;rw [id, ← List.map_id e]
  refine List.map_congr_left fun x hx => ?_
  have := z203.1 (h e he) x hx
  cases x <;> first|rfl|simp [AC.flat] at this
theorem z44 {objs : Nat → AObj} {π Bn : List Nat} {o w : Nat} {A L : List (List AC)} {e : List AC} (ho : objs o = .cells w (A ++ [e])) (hf : Flat A) (h : F2 (F2 LocLe) (A ++ [e.map (borX objs π Bn)]) L) : ObjLe (z113 objs π Bn o) (.cells w L) := by
  rw [z274 ho, List.map_append, z508 hf]
  exact ⟨rfl, h⟩
theorem z52 {objs : Nat → AObj} {π Bn : List Nat} {o w i : Nat} {A L : List (List AC)} {e : List AC} (ho : objs o = .cells w (A.set i e)) (hf : Flat A) (h : F2 (F2 LocLe) (A.set i (e.map (borX objs π Bn))) L) : ObjLe (z113 objs π Bn o) (.cells w L) := by
  rw [z274 ho, List.map_set, z508 hf]
  exact ⟨rfl, h⟩
theorem z23 {A : List (List AC)} {x y : List AC} {k : Nat} (hk : A.length = k) (hA : Flat A) (hy : z251 y = true) : Flat ((A ++ [x]).set k y) := by
  subst hk
  intro e he
  rw [List.set_append_right _ _ (Nat.le_refl _)] at he
  simp only [Nat.sub_self, List.set_cons_zero, List.mem_append, List.mem_singleton] at he
  rcases he with h|rfl
  · exact hA e h
  · exact hy
theorem z31 {A L : List (List AC)} {x y : List AC} {k : Nat} (hk : A.length = k) (h : F2 (F2 LocLe) (A ++ [y]) L) : F2 (F2 LocLe) ((A ++ [x]).set k y) L := by
  subst hk
  rw [List.set_append_right _ _ (Nat.le_refl _)]
  simpa using h
theorem z51 {objs : Nat → AObj} {π Bn : List Nat} {o w n : Nat} {es L : List (List AC)} {y : AC} (h1 : idx π o = none) (h2 : inB Bn o = true) (ho : objs o = .cells w es) (hu : z95 es = L) (hl : es.length = n) (h : LocLe (.list w n L) y) : LocLe (bor objs π Bn (.sref o 0 n)) y := by
  rw [z446 ho h1 h2 hl, hu];exact h
theorem z42 {a b a' b' : List (List AC)} (h : z95 a = a') (k : z95 b = b') : z95 (a ++ b) = a' ++ b' := by
  subst h k
  induction a with
  | nil => rfl
  | cons e a ih => simp only [List.cons_append, z95, ih]
theorem z53 {a a' : List (List AC)} (h : z95 a = a') (n : Nat) : z95 (a.take n) = a'.take n := by
  subst h
  induction a generalizing n with
  | nil => simp [z95]
  | cons e a ih =>
    cases n with
    | zero => rfl
    | succ n => simp only [List.take_succ_cons, z95, ih]
theorem z54 {a a' : List (List AC)} (h : z95 a = a') (n : Nat) (e : List AC) : z95 (a.set n e) = a'.set n (z225 e) := by
  subst h
  induction a generalizing n with
  | nil => simp [z95]
  | cons x a ih =>
    cases n with
    | zero => rfl
    | succ n => simp only [List.set_cons_succ, z95, ih]
theorem z75 {α : Type} {f : α → List AC} {l : List α} {i j : Nat} {e : List AC} {x : α} (hj : j = i) (he : F2 LocLe e (f x)) : F2 (F2 LocLe) ((l.map f).set j e) ((l.set i x).map f) := by
  subst hj
  rw [List.map_set]
  have : ∀ (l : List (List AC)) (j : Nat) {e e' : List AC}, F2 LocLe e e' → F2 (F2 LocLe) (l.set j e) (l.set j e') := fun l => by
    induction l with
    | nil => intro j _ _ _;exact .nil
    | cons x l ih =>
      intro j e e' h
      cases j with
      | zero => exact .cons h (z50 _)
      | succ j => exact .cons (z59 _) (ih j h)
  exact this _ _ he
theorem z60 {α : Type} {f : α → List AC} {l : List α} {n : Nat} {e : List AC} {x : α} (hn : l.length ≤ n) (he : F2 LocLe e (f x)) : F2 (F2 LocLe) ((l.map f).take n ++ [e]) ((l ++ [x]).map f) := by
  rw [List.take_of_length_le (by simpa using hn), List.map_append]
  have : ∀ (a : List (List AC)) {b c : List AC}, F2 LocLe b c → F2 (F2 LocLe) (a ++ [b]) (a ++ [c]) := fun a b c h => by
    induction a with
    | nil => exact .cons h .nil
    | cons x a ih => exact .cons (z59 x) ih
  exact this _ he
theorem RetS.mid (π Bn : List Nat) (objs1 : List AObj) (r1 : AC) {m : Nat} {o : Nat → AObj} {res : AC} {objs' : List AObj} {r : AC} (hn : z198 (π ++ Bn) = true) (ha : allN (fun x => z160 (o x)) π = true) (hf : z216 m 0 π = true)
    (hr : LocLe (bor o π Bn r) r1) (ho : F2 ObjLe (π.map (z113 o π Bn)) objs1) (h : RetS m (z86 objs1) res objs' r1) : RetS m o res objs' r :=
  RetS.lay π Bn hn ha hf fun G w v hW hV => h G w v (hW.le ho) (hr _ _ _ _ hV)
theorem z598 (a : List (List AC)) {b c : List AC} (h : F2 LocLe b c) : F2 (F2 LocLe) (a ++ [b]) (a ++ [c]) := by
  induction a with
  | nil => exact .cons h .nil
  | cons x a ih => exact .cons (z59 x) ih
theorem z65 {A : List (List AC)} {n : Nat} {e e' : List AC} (hn : A.length ≤ n) (h : F2 LocLe e e') : F2 (F2 LocLe) (A.take n ++ [e]) (A ++ [e']) := by
  rw [List.take_of_length_le hn];exact z598 A h
theorem z64 {α : Type} {f : α → List AC} {l : List α} {e : List AC} {x : α} (h : F2 LocLe e (f x)) : F2 (F2 LocLe) (l.map f ++ [e]) ((l ++ [x]).map f) := by
  rw [List.map_append];exact z598 _ h
theorem z45 {objs : Nat → AObj} {π Bn : List Nat} {o w i j : Nat} {A L : List (List AC)} {e x : List AC} (ho : objs o = .cells w ((A.set i x).set j e)) (hj : j = i) (hf : Flat A) (h : F2 (F2 LocLe) (A.set i (e.map (borX objs π Bn))) L) : ObjLe (z113 objs π Bn o) (.cells w L) := by
  subst hj
  rw [List.set_set] at ho
  exact z52 ho hf h
theorem z61 {A : List (List AC)} {i j : Nat} {e e' : List AC} (hj : j = i) (he : F2 LocLe e e') : F2 (F2 LocLe) (A.set j e) (A.set i e') := by
  subst hj
  induction A generalizing j with
  | nil => exact .nil
  | cons x l ih =>
    cases j with
    | zero => exact .cons he (z50 _)
    | succ j => exact .cons (z59 _) ih
theorem z55 {o n n' : Nat} (h : n = n') : LocLe (.sref o 0 n) (.sref o 0 n') := h ▸ LocLe.refl _
theorem z63 {α : Type} {f : α → List AC} {l l2 : List α} {n : Nat} (hn : l.length ≤ n) : F2 (F2 LocLe) ((l.map f).take n ++ l2.map f) ((l ++ l2).map f) := by
  rw [List.take_of_length_le (by simpa using hn), List.map_append];exact z50 _
def cat {α : Type} (n : Nat) (f : Nat → List α) : List α := (List.range n).flatMap f
theorem z602 {α : Type} (f : Nat → List α) : cat 0 f = [] := rfl
theorem z284 {α : Type} (n : Nat) (f : Nat → List α) : cat (n + 1) f = cat n f ++ f n := by
  unfold cat;rw [List.range_succ, List.flatMap_append];simp
theorem z430 {α : Type} {n : Nat} {f : Nat → List α} {x : α} (h : x ∈ cat n f) : ∃ i, i < n ∧ x ∈ f i := by
  unfold cat at h
  obtain ⟨i, hi, hx⟩ := List.mem_flatMap.1 h
  exact ⟨i, List.mem_range.1 hi, hx⟩
theorem z442 {α : Type} {n c : Nat} {f : Nat → List α} (h : ∀ i, i < n → (f i).length ≤ c) : (cat n f).length ≤ n * c := by
  induction n with
  | zero => simp [cat]
  | succ n ih =>
    rw [z284, List.length_append, Nat.add_mul]
    have := ih fun i hi => h i (by omega)
    have := h n (by omega)
    omega
theorem z43 {objs : Nat → AObj} {π Bn : List Nat} {o w n : Nat} {es L : List (List AC)} {y : AC} (h1 : idx π o = none) (h2 : inB Bn o = true) (ho : objs o = .cells w es) (hu : z95 es = L) (hl : es.length = n) (h : LocLe (.list w n L) y) : LocLe (borX objs π Bn (.sref o 0 n)) y := z51 h1 h2 ho hu hl h
end Go.Gl

namespace Go.Gl
section
variable {K K' : Type} [DecidableEq K] [DecidableEq K'] {κ : Nat → K} {κ' : Nat → K'}
end
end Go.Gl

namespace Go.Gl
def z162 (k : Int) : Int := if k = 1 ∨ k = 2 then 0 else if k = 3 ∨ k = 6 ∨ k = 8 ∨ k = 9 ∨ k = 11 then 1 else if k = 4 ∨ k = 5 ∨ k = 7 ∨ k = 10 then 2 else -1
def z316 (k : Int) : Int := if k = 2 then 2 else 0
mutual
def Tree.walkB (t : Tree) (d n : Int) : Int × Bool := match t with
  | .mk k v l => if d ≤ 6 ∧ n + 1 ≤ 12 ∧ 0 ≤ v ∧ v ≤ z316 k ∧ (l.length : Int) = z162 k then Tree.walkBs l (d + 1) (n + 1) else (n + 1, false)
def Tree.walkBs (l : List Tree) (d n : Int) : Int × Bool := match l with
  | [] => (n, true)
  | t :: r => if (Tree.walkB t d n).2 then Tree.walkBs r d (Tree.walkB t d n).1 else ((Tree.walkB t d n).1, false)
end
mutual
def Tree.shapeB (t : Tree) (d : Int) : Bool := match t with
  | .mk k v l => decide (1 ≤ d ∧ (l.length : Int) = z162 k ∧ 0 ≤ v ∧ v ≤ z316 k) && Tree.shapeBBs l (d - 1)
def Tree.shapeBBs (l : List Tree) (d : Int) : Bool := match l with
  | [] => true
  | t :: r => Tree.shapeB t d && Tree.shapeBBs r d
end
theorem Tree.walkB_spec : (∀ (t : Tree) d n, 0 ≤ n → n ≤ 12 → ((t.walkB d n).2 = true ↔ t.shapeB (7 - d) = true ∧ n + t.count (7 - d) ≤ 12) ∧ ((t.walkB d n).2 = true → (t.walkB d n).1 = n + t.count (7 - d)) ∧ n ≤ (t.walkB d n).1 ∧ (t.walkB d n).1 ≤ 13) ∧
    ∀ (l : List Tree) d n, 0 ≤ n → n ≤ 12 → ((Tree.walkBs l d n).2 = true ↔ Tree.shapeBBs l (7 - d) = true ∧ n + Tree.counts l (7 - d) ≤ 12) ∧ ((Tree.walkBs l d n).2 = true → (Tree.walkBs l d n).1 = n + Tree.counts l (7 - d)) ∧ n ≤ (Tree.walkBs l d n).1 ∧ (Tree.walkBs l d n).1 ≤ 13 := by
  refine Tree.rec2 ?_ ?_ ?_
  · intro k v l ih d n h0 h1
    simp only [Tree.walkB, Tree.shapeB, Tree.count, Bool.and_eq_true, decide_eq_true_eq]
    have hc := Tree.count_pos.2 l (7 - d - 1)
    by_cases hb : d ≤ 6 ∧ n + 1 ≤ 12 ∧ 0 ≤ v ∧ v ≤ z316 k ∧ (l.length : Int) = z162 k
    · rw [if_pos hb, if_pos (by omega)]
      have := ih (d + 1) (n + 1) (by omega) hb.2.1
      rw [show 7 - (d + 1) = 7 - d - 1 by omega] at this
      obtain ⟨a1, a2, a3, a4⟩ := this
      refine ⟨?_, ?_, by omega, by omega⟩
      · rw [a1]
        constructor
        · rintro ⟨b1, b2⟩;exact ⟨⟨⟨by omega, hb.2.2.2.2, hb.2.2.1, hb.2.2.2.1⟩, b1⟩, by omega⟩
        · rintro ⟨b1, b2⟩;exact ⟨b1.2, by omega⟩
      · intro h;rw [a2 h];omega
    · rw [if_neg hb]
      refine ⟨⟨by simp, ?_⟩, by simp, by simp only;omega, by simp only;omega⟩
      rintro ⟨⟨⟨b1, b2, b3, b4⟩, b5⟩, b6⟩
      rw [if_pos (by omega)] at b6
      exact absurd ⟨by omega, by omega, b3, b4, b2⟩ hb
  · intro d n h0 h1
    simp [Tree.walkBs, Tree.shapeBBs, Tree.counts];omega
  · intro t r iht ihr d n h0 h1
    simp only [Tree.walkBs, Tree.shapeBBs, Tree.counts, Bool.and_eq_true]
    obtain ⟨a1, a2, a3, a4⟩ := iht d n h0 h1
    have hc := Tree.count_pos.2 r (7 - d)
    by_cases hb : (t.walkB d n).2 = true
    · rw [if_pos hb]
      have e := a2 hb
      obtain ⟨b1, b2, b3, b4⟩ := ihr d (t.walkB d n).1 (by omega) (by rw [e];exact (a1.1 hb).2)
      refine ⟨?_, fun h => by rw [b2 h, e];omega, by omega, b4⟩
      rw [b1, e]
      exact ⟨fun h => ⟨⟨(a1.1 hb).1, h.1⟩, by omega⟩, fun h => ⟨h.1.2, by omega⟩⟩
    · rw [if_neg hb]
      refine ⟨⟨by simp, fun h => absurd (a1.2 ⟨h.1.1, by omega⟩) hb⟩, by simp, a3, a4⟩
theorem Tree.walkB_eq (t : Tree) (d n : Int) : t.walkB d n = if d ≤ 6 ∧ n + 1 ≤ 12 ∧ 0 ≤ t.val ∧ t.val ≤ z316 t.kind ∧ (t.kids.length : Int) = z162 t.kind then Tree.walkBs t.kids (d + 1) (n + 1) else (n + 1, false) := by
  cases t;rfl
theorem Tree.walkBs_idx (d : Int) (l : List Tree) : ∀ n k, Tree.walkBs l d n = ((idxS (fun (x : Tree) s => !(x.walkB d s).2) (fun x s => (x.walkB d s).1) l n k).2, !decide (0 ≤ (idxS (fun (x : Tree) s => !(x.walkB d s).2) (fun x s => (x.walkB d s).1) l n k).1)) := by
  induction l with
  | nil => intro n k;simp [Tree.walkBs, idxS]
  | cons t l ih =>
    intro n k
    simp only [Tree.walkBs, idxS]
    cases h : (t.walkB d n).2
    · simp
    · simp only [if_true, Bool.not_true, Bool.false_eq_true, if_false];exact ih _ _
def Tree.brB (t : Tree) : Bool := (t.walkB 1 0).2
theorem Tree.brB_eq (t : Tree) : t.brB = (t.shapeB 6 && decide (t.count 6 ≤ 12)) := by
  have h := (Tree.walkB_spec.1 t 1 0 (by omega) (by omega)).1
  rw [show (7 : Int) - 1 = 6 by omega, Int.zero_add] at h
  rw [Bool.eq_iff_iff, Bool.and_eq_true, decide_eq_true_eq]
  exact h
end Go.Gl

namespace Go.Gl
def ordB (s a b : Bool) : Prop := a = b ∨ a = s
theorem ordB.refl (s a : Bool) : ordB s a a := .inl rfl
theorem ordB.trans {s a b c : Bool} (h : ordB s a b) (k : ordB s b c) : ordB s a c := by
  unfold ordB at *
  cases s <;> cases a <;> cases b <;> cases c <;> simp_all
theorem ordB.antisymm {s a b : Bool} (h : ordB s a b) (k : ordB s b a) : a = b := by
  unfold ordB at *
  cases s <;> cases a <;> cases b <;> simp_all
def gB (S : List Bool) (i : Nat) : Bool := S.getD i false
structure FixR (s : Bool) (H : Nat → List Bool → Bool) (n : Nat) (R : List Bool) : Prop where
  len : R.length = n
  fix : ∀ i, i < n → gB R i = H i R
  least : ∀ T : List Bool, T.length = n → (∀ i, i < n → ordB s (H i T) (gB T i)) → ∀ i, i < n → ordB s (gB R i) (gB T i)
def z381 (s : Bool) (H : Nat → List Bool → Bool) (n : Nat) : Prop := ∀ (S T : List Bool), S.length = n → T.length = n → (∀ j, j < n → ordB s (gB S j) (gB T j)) → ∀ i, i < n → ordB s (H i S) (H i T)
theorem FixR.unique {s : Bool} {H : Nat → List Bool → Bool} {n : Nat} {R R' : List Bool} (h : FixR s H n R) (k : FixR s H n R') : R = R' := by
  apply List.ext_getElem (by rw [h.len, k.len])
  intro i h1 h2
  have hi : i < n := by rw [← h.len];exact h1
  have e1 := h.least R' k.len (fun i hi => by rw [k.fix i hi];exact ordB.refl _ _) i hi
  have e2 := k.least R h.len (fun i hi => by rw [h.fix i hi];exact ordB.refl _ _) i hi
  have := ordB.antisymm e1 e2
  unfold gB at this
  rwa [z107 h1, z107 h2] at this
open Classical in
noncomputable def lim (s : Bool) (H : Nat → List Bool → Bool) (n : Nat) : List Bool := if h : ∃ R, FixR s H n R then h.choose else []
theorem z485 {s : Bool} {H : Nat → List Bool → Bool} {n : Nat} {R : List Bool} (h : FixR s H n R) : lim s H n = R := by
  have hx : ∃ R, FixR s H n R := ⟨R, h⟩
  unfold lim
  rw [dif_pos hx]
  exact hx.choose_spec.unique h
def cntS (s : Bool) (S : List Bool) : Nat := (S.filter fun b => b == s).length
theorem z409 {S : List Bool} {i j : Nat} {b : Bool} (hi : i < S.length) : gB (S.set i b) j = if j = i then b else gB S j := by
  unfold gB
  by_cases h : j = i
  · subst h
    rw [if_pos rfl, z107 (by simpa using hi)];simp
  · rw [if_neg h]
    simp only [List.getD_eq_getElem?_getD]
    rw [List.getElem?_set_ne (Ne.symm h)]
theorem cntS_set {s : Bool} {S : List Bool} {i : Nat} (hi : i < S.length) (h : gB S i = s) : cntS s (S.set i (!s)) + 1 = cntS s S := by
  unfold gB at h
  rw [z107 hi] at h
  induction S generalizing i with
  | nil => simp at hi
  | cons a S ih =>
    cases i with
    | zero =>
      simp only [List.getElem_cons_zero] at h
      subst h
      simp [cntS, List.filter_cons]
    | succ i =>
      have := ih (i := i) (by simpa using hi) (by simpa using h)
      unfold cntS at this ⊢
      rw [List.set_cons_succ, List.filter_cons, List.filter_cons]
      split <;> (try simp only [List.length_cons]) <;> omega
structure Way (s : Bool) (H : Nat → List Bool → Bool) (n : Nat) (S : List Bool) : Prop where
  len : S.length = n
  below : ∀ T : List Bool, T.length = n → (∀ i, i < n → ordB s (H i T) (gB T i)) → ∀ i, i < n → ordB s (gB S i) (gB T i)
  post : ∀ i, i < n → ordB s (gB S i) (H i S)
theorem Way.start {s : Bool} {H : Nat → List Bool → Bool} {n : Nat} : Way s H n (List.replicate n s) := by
  have e : ∀ i, i < n → gB (List.replicate n s) i = s := fun i hi => by unfold gB;rw [z107 (by simpa using hi)];simp
  exact ⟨by simp, fun T _ _ i hi => .inr (e i hi), fun i hi => .inr (e i hi)⟩
theorem Way.ends {s : Bool} {H : Nat → List Bool → Bool} {n : Nat} {S : List Bool} (h : Way s H n S) (hf : ∀ i, i < n → H i S = gB S i) : FixR s H n S := ⟨h.len, fun i hi => (hf i hi).symm, h.below⟩
theorem Way.put {s : Bool} {H : Nat → List Bool → Bool} {n : Nat} (hm : z381 s H n) {S : List Bool} (h : Way s H n S) {i : Nat} (hi : i < n) {v : Bool} (h1 : ordB s (gB S i) v) (h2 : ordB s v (H i S)) : Way s H n (S.set i v) ∧ (v ≠ gB S i → cntS s (S.set i v) + 1 = cntS s S) := by
  have hil : i < S.length := by rw [h.len];exact hi
  have hle : ∀ j, j < n → ordB s (gB S j) (gB (S.set i v) j) := fun j _ => by
    rw [z409 hil];split
    · rename_i e;subst e;exact h1
    · exact ordB.refl _ _
  have hH := hm S (S.set i v) h.len (by simp [h.len]) hle
  refine ⟨⟨by simp [h.len], fun T hT hc j hj => ?_, fun j hj => ?_⟩, fun hne => ?_⟩
  · rw [z409 hil];split
    · rename_i e;subst e
      exact h2.trans ((hm S T h.len hT (h.below T hT hc) j hj).trans (hc j hj))
    · exact h.below T hT hc j hj
  · rw [z409 hil];split
    · rename_i e;subst e;exact h2.trans (hH j hj)
    · exact (h.post j hj).trans (hH j hj)
  · have hs : gB S i = s := by
      rcases h1 with e|e
      · exact absurd e.symm hne
      · exact e
    have hv : v = !s := by
      cases v <;> cases s <;> simp_all
    rw [hv];exact cntS_set hil hs
def nxB (g : List (List Int)) (ev : Bool) (i : Nat) (S : List Bool) : Bool := if ev then (g.getD i []).all (fun t => gB S t.toNat) else (g.getD i []).any (fun t => gB S t.toNat)
theorem z591 {g : List (List Int)} {ev s : Bool} {n : Nat} (hr : ∀ r ∈ g, InN n r) {S T : List Bool} (h : ∀ j, j < n → ordB s (gB S j) (gB T j)) (i : Nat) : ordB s (nxB g ev i S) (nxB g ev i T) := by
  have hrow : InN n (g.getD i []) := by
    by_cases hi : i < g.length
    · rw [z107 hi];exact hr _ (List.getElem_mem _)
    · rw [List.getD_eq_getElem?_getD, List.getElem?_eq_none (by omega)];intro x hx;cases hx
  unfold nxB
  generalize g.getD i [] = row at hrow
  have key : ∀ row : List Int, InN n row → ordB s (row.all fun t => gB S t.toNat) (row.all fun t => gB T t.toNat) ∧ ordB s (row.any fun t => gB S t.toNat) (row.any fun t => gB T t.toNat) := by
    intro row
    induction row with
    | nil => intro _;exact ⟨ordB.refl _ _, ordB.refl _ _⟩
    | cons x r ih =>
      intro hx
      obtain ⟨h1, h2⟩ := ih fun y hy => hx y (by simp [hy])
      have h3 := hx x (by simp)
      have h4 := h x.toNat (by omega)
      simp only [List.all_cons, List.any_cons]
      revert h1 h2 h4
      generalize gB S x.toNat = a
      generalize gB T x.toNat = b
      generalize (r.all fun t => gB S t.toNat) = c
      generalize (r.all fun t => gB T t.toNat) = d
      generalize (r.any fun t => gB S t.toNat) = e
      generalize (r.any fun t => gB T t.toNat) = f
      unfold ordB
      cases s <;> cases a <;> cases b <;> cases c <;> cases d <;> cases e <;> cases f <;> simp
  obtain ⟨k1, k2⟩ := key row hrow
  cases ev
  · simpa using k2
  · simpa using k1
theorem z680 {s a b c d : Bool} (h : ordB s a b) (k : ordB s c d) : ordB s (a && c) (b && d) := by
  unfold ordB at *;cases s <;> cases a <;> cases b <;> cases c <;> cases d <;> simp_all
theorem ord_or {s a b c d : Bool} (h : ordB s a b) (k : ordB s c d) : ordB s (a || c) (b || d) := by
  unfold ordB at *;cases s <;> cases a <;> cases b <;> cases c <;> cases d <;> simp_all
end Go.Gl

namespace Go.Gl
theorem Way.step {s : Bool} {H : Nat → List Bool → Bool} {n : Nat} (hm : z381 s H n) {S S' : List Bool} (h : Way s H n S') (hS : S.length = n) (hle : ∀ j, j < n → ordB s (gB S j) (gB S' j)) {i : Nat} (hi : i < n) (hv : H i S = !s) (hg : gB S' i = s) : Way s H n (S'.set i (!s)) ∧ cntS s (S'.set i (!s)) + 1 = cntS s S' ∧ ∀ j, j < n → ordB s (gB S j) (gB (S'.set i (!s)) j) := by
  have hil : i < S'.length := by rw [h.len];exact hi
  have h2 : ordB s (!s) (H i S') := by
    have := hm S S' hS h.len hle i hi
    rwa [hv] at this
  have hp := h.put hm hi (v := !s) (.inr hg) h2
  refine ⟨hp.1, hp.2 (by rw [hg];cases s <;> simp), fun j hj => ?_⟩
  rw [z409 hil]
  split
  · rename_i e
    subst e
    have := hle j hj
    rw [hg] at this
    rcases this with e|e
    · exact .inr e
    · exact .inr e
  · exact hle j hj
theorem lim_ex {s : Bool} {H : Nat → List Bool → Bool} {n : Nat} (hm : z381 s H n) : ∀ (k : Nat) (S : List Bool), Way s H n S → cntS s S ≤ k → ∃ R, FixR s H n R := by
  intro k
  induction k with
  | zero =>
    intro S h hk
    by_cases hf : ∀ i, i < n → H i S = gB S i
    · exact ⟨S, h.ends hf⟩
    · exfalso
      simp only [Classical.not_forall] at hf
      obtain ⟨i, hi, hne⟩ := hf
      have := (h.put hm hi (h.post i hi) (ordB.refl s _)).2 hne
      omega
  | succ k ih =>
    intro S h hk
    by_cases hf : ∀ i, i < n → H i S = gB S i
    · exact ⟨S, h.ends hf⟩
    · simp only [Classical.not_forall] at hf
      obtain ⟨i, hi, hne⟩ := hf
      have hp := h.put hm hi (h.post i hi) (ordB.refl s _)
      have := hp.2 hne
      exact ih _ hp.1 (by omega)
theorem z354 {s : Bool} {H : Nat → List Bool → Bool} {n : Nat} (hm : z381 s H n) : (lim s H n).length = n := by
  obtain ⟨R, hR⟩ := lim_ex hm _ _ (Way.start (s := s) (H := H) (n := n)) (Nat.le_refl _)
  rw [z485 hR];exact hR.len
def unH (g : List (List Int)) (ev : Bool) (a b : List Bool) (i : Nat) (S : List Bool) : Bool := gB b i || (gB a i && nxB g ev i S)
def alH (g : List (List Int)) (ev : Bool) (a : List Bool) (i : Nat) (S : List Bool) : Bool := gB a i && nxB g ev i S
theorem z268 {g : List (List Int)} {ev s : Bool} {n : Nat} (hr : ∀ r ∈ g, InN n r) (a b : List Bool) : z381 s (unH g ev a b) n := fun _ _ _ _ h i _ => ord_or (ordB.refl _ _) (z680 (ordB.refl _ _) (z591 hr h i))
theorem z248 {g : List (List Int)} {ev s : Bool} {n : Nat} (hr : ∀ r ∈ g, InN n r) (a : List Bool) : z381 s (alH g ev a) n := fun _ _ _ _ h i _ => z680 (ordB.refl _ _) (z591 hr h i)
def nxL (g : List (List Int)) (ev : Bool) (n : Nat) (S : List Bool) : List Bool := (List.range n).map fun i => nxB g ev i S
def hasB (ℓ a : Int) : Bool := decide (((((ℓ / 2 ^ a.toNat).toNat &&& (1 : Int).toNat : Nat) : Int)) = 1)
def ptB (L : List Int) (k v : Int) (a b : List Bool) (i : Nat) : Bool := if k = 2 then hasB (L.getD i 0) v else if k = 3 then !gB a i else if k = 4 then gB a i && gB b i else if k = 5 then gB a i || gB b i else true
noncomputable def opB (g : List (List Int)) (n : Nat) (L : List Int) (k v : Int) (ks : List (List Bool)) : List Bool :=
  if k = 6 then nxL g false n (ks.getD 0 []) else if k = 9 then nxL g true n (ks.getD 0 [])
  else if k = 7 then lim false (unH g false (ks.getD 0 []) (ks.getD 1 [])) n else if k = 10 then lim false (unH g true (ks.getD 0 []) (ks.getD 1 [])) n
  else if k = 8 then lim true (alH g false (ks.getD 0 [])) n else if k = 11 then lim true (alH g true (ks.getD 0 [])) n
  else (List.range n).map (ptB L k v (ks.getD 0 []) (ks.getD 1 []))
theorem opB_len {g : List (List Int)} {n : Nat} (hr : ∀ r ∈ g, InN n r) (L : List Int) (k v : Int) (ks : List (List Bool)) : (opB g n L k v ks).length = n := by
  unfold opB nxL
  split
  · simp
  split
  · simp
  split
  · exact z354 (z268 hr _ _)
  split
  · exact z354 (z268 hr _ _)
  split
  · exact z354 (z248 hr _)
  split
  · exact z354 (z248 hr _)
  simp
mutual
noncomputable def Tree.satB (g : List (List Int)) (n : Nat) (L : List Int) (t : Tree) : List Bool := match t with
  | .mk k v l => opB g n L k v (Tree.satBs g n L l)
noncomputable def Tree.satBs (g : List (List Int)) (n : Nat) (L : List Int) (l : List Tree) : List (List Bool) := match l with
  | [] => []
  | t :: r => Tree.satB g n L t :: Tree.satBs g n L r
end
theorem Tree.satBs_eq (g : List (List Int)) (n : Nat) (L : List Int) (l : List Tree) : Tree.satBs g n L l = l.map (Tree.satB g n L) := by
  induction l with
  | nil => simp [Tree.satBs]
  | cons t l ih => simp [Tree.satBs, ih]
theorem Tree.satB_eq (g : List (List Int)) (n : Nat) (L : List Int) (t : Tree) : t.satB g n L = opB g n L t.kind t.val (t.kids.map (Tree.satB g n L)) := by
  cases t;simp only [Tree.satB, Tree.satBs_eq, Tree.kind, Tree.val, Tree.kids]
theorem Tree.satB_len {g : List (List Int)} {n : Nat} (hr : ∀ r ∈ g, InN n r) (L : List Int) (t : Tree) : (t.satB g n L).length = n := by
  rw [Tree.satB_eq];exact opB_len hr _ _ _ _
theorem Way.goal {g : List (List Int)} {ev : Bool} {a b : List Bool} {n : Nat} (hb : b.length = n) : Way false (unH g ev a b) n b := by
  refine ⟨hb, fun T hT h i hi => ?_, fun i hi => ?_⟩
  · have := h i hi
    unfold unH ordB at this
    unfold ordB
    revert this
    cases gB b i <;> cases gB T i <;> simp
  · unfold unH ordB
    cases gB b i <;> simp
theorem Way.now {g : List (List Int)} {ev : Bool} {a : List Bool} {n : Nat} (ha : a.length = n) : Way true (alH g ev a) n a := by
  refine ⟨ha, fun T hT h i hi => ?_, fun i hi => ?_⟩
  · have := h i hi
    unfold alH ordB at this
    unfold ordB
    revert this
    cases gB a i <;> cases gB T i <;> simp
  · unfold alH ordB
    cases gB a i <;> simp
end Go.Gl

namespace Go.Gl
theorem lim_fix {s : Bool} {H : Nat → List Bool → Bool} {n : Nat} (hm : z381 s H n) {i : Nat} (hi : i < n) : gB (lim s H n) i = H i (lim s H n) := by
  obtain ⟨R, hR⟩ := lim_ex hm _ _ (Way.start (s := s) (H := H) (n := n)) (Nat.le_refl _)
  rw [z485 hR];exact hR.fix i hi
section
variable {g : List (List Int)} {n : Nat} (L : List Int)
theorem z620 (t : Tree) (v : Int) : (Tree.mk 8 v [t]).satB g n L = lim true (alH g false (t.satB g n L)) n := by rw [Tree.satB_eq];rfl
variable (hr : ∀ r ∈ g, InN n r)
include hr
end
end Go.Gl

namespace Go.Gl
theorem z341 {α : Type} (R : Nat → Int → α → Int → Prop) (p0 c : Int) : ∀ (m : Nat), (∀ k p, k < m → p0 ≤ p → p ≤ p0 + c * k → ∃ a p', R k p a p' ∧ p ≤ p' ∧ p' ≤ p + c) →
    ∃ (l : List α) (pf : Nat → Int), l.length = m ∧ pf 0 = p0 ∧ (∀ k (hk : k < l.length), R k (pf k) l[k] (pf (k + 1))) ∧ ∀ k, k ≤ m → p0 ≤ pf k ∧ pf k ≤ p0 + c * k := by
  intro m
  induction m with
  | zero =>
    intro _
    refine ⟨[], fun _ => p0, rfl, rfl, fun k hk => by simp at hk, fun k hk => ?_⟩
    have : k = 0 := by omega
    subst this;simp
  | succ m ih =>
    intro h
    obtain ⟨l, pf, h1, h2, h3, h4⟩ := ih fun k p hk => h k p (by omega)
    have h5 := h4 m (Nat.le_refl _)
    obtain ⟨a, p', h6, h7, h8⟩ := h m (pf m) (by omega) h5.1 h5.2
    refine ⟨l ++ [a], fun k => if k ≤ m then pf k else p', by simp [h1], by simp [h2], fun k hk => ?_, fun k hk => ?_⟩
    · by_cases hkm : k < m
      · simp only [if_pos (show k ≤ m by omega), if_pos (show k + 1 ≤ m by omega)]
        rw [List.getElem_append_left (by omega)]
        exact h3 k (by omega)
      · have : k = m := by simp at hk;omega
        subst this
        simp only [if_pos (Nat.le_refl _), if_neg (show ¬(k + 1 ≤ k) by omega)]
        rw [List.getElem_append_right (by omega)]
        simpa [h1] using h6
    · by_cases hkm : k ≤ m
      · simp only [if_pos hkm];exact h4 k hkm
      · have : k = m + 1 := by omega
        subst this
        simp only [if_neg hkm]
        rw [show ((m + 1 : Nat) : Int) = m + 1 by omega, Int.mul_add]
        omega
end Go.Gl

namespace Go.Gl
end Go.Gl

namespace Go.Gl
open Go.RowKit Go.WideShapes Go.ChangeShapes
variable {P : Program}
def OpensD {α : Type} (P : Program) (t : TypeId) (enc : α → List AC) (ok : α → Prop) : Prop := ∀ k, Opens P t (fun xs => ∃ a, xs = enc a ∧ ok a) k
theorem od_byte {t : TypeId} (ht : P.underlying t = some (.int .u8)) {enc : Int → List AC} (he : ∀ n, enc n = [.raw (.int .u8 n)]) : OpensD P t enc (fun n => (Lit.int .u8 n).wf = true) := fun k =>
  (z681 ht k).imp fun xs ⟨n, h1, h2⟩ => ⟨n, h1.trans (he n).symm, h2⟩
theorem z411 {α : Type} {enc : α → List AC} {ok : α → Prop} : (es : List (List AC)) → (∀ y ∈ es, ∃ a, y = enc a ∧ ok a) → ∃ l : List α, es = l.map enc ∧ ∀ a ∈ l, ok a
  | [], _ => ⟨[], rfl, fun _ h => by cases h⟩
  | e :: es, h => by
    obtain ⟨a, h1, h2⟩ := h e (by simp)
    obtain ⟨l, h3, h4⟩ := z411 es fun y hy => h y (by simp [hy])
    exact ⟨a :: l, by rw [h1, h3];rfl, fun b hb => by
      rcases List.mem_cons.1 hb with rfl|hb
      · exact h2
      · exact h4 b hb⟩
theorem z625 {α : Type} {t e : TypeId} {enc : α → List AC} {ok : α → Prop} {n k : Nat} (ht : P.underlying t = some (.slice e)) (hc : P.cellsOf e = n) (hn : 0 < n) (h : Opens P e (fun xs => ∃ a, xs = enc a ∧ ok a) k) :
    Opens P t (fun xs => ∃ l : List α, xs = [.list n l.length (l.map enc)] ∧ l.length ≤ maxLen ∧ ∀ a ∈ l, ok a) (k + 1) :=
  (z548 ht hc hn h).imp fun xs ⟨es, h1, h2, h3⟩ => by
    obtain ⟨l, rfl, h4⟩ := z411 es h3
    exact ⟨l, by rw [h1];simp, by simpa using h2, h4⟩
theorem od_list {α : Type} {t e : TypeId} {enc : α → List AC} {ok : α → Prop} (n : Nat) (ht : P.underlying t = some (.slice e)) (hc : P.cellsOf e = n) (hn : 0 < n) (h : OpensD P e enc ok) {encL : List α → List AC} (he : ∀ l, encL l = [.list n l.length (l.map enc)]) :
    OpensD P t encL (fun l => l.length ≤ maxLen ∧ ∀ a ∈ l, ok a)
  | 0 => z624
  | k + 1 => (z625 ht hc hn (h k)).imp fun xs ⟨l, h1, h2⟩ => ⟨l, h1.trans (he l).symm, h2⟩
theorem OpensD.imp {α β : Type} {t : TypeId} {enc : α → List AC} {ok : α → Prop} {enc' : β → List AC} {ok' : β → Prop} (h : OpensD P t enc ok) (hi : ∀ a, ok a → ∃ b, enc a = enc' b ∧ ok' b) : OpensD P t enc' ok' := fun k =>
  (h k).imp fun xs ⟨a, h1, h2⟩ => by
    obtain ⟨b, h3, h4⟩ := hi a h2
    exact ⟨b, h1.trans h3, h4⟩
def ArgD {α : Type} (P : Program) (t : TypeId) (enc : α → AC) (ok : α → Prop) : Prop := ArgOk P t fun x _ => ∃ a, x = enc a ∧ ok a
theorem ArgOk.imp {t : TypeId} {R R' : AC → Nat → Prop} (h : ArgOk P t R) (hi : ∀ x m, R x m → R' x m) : ArgOk P t R' := fun H enc b hB W r b0 v d ps hv hk => by
  obtain ⟨x, m, h1, h2⟩ := h H enc b hB W r b0 v d ps hv hk
  exact ⟨x, m, hi _ _ h1, h2⟩
theorem z722 {α : Type} {t e : TypeId} {enc : α → List AC} {ok : α → Prop} {enc1 : α → AC} (ht : P.underlying t = some (.slice e)) (h : OpensD P t enc ok) (he : ∀ a, enc a = [enc1 a]) : ArgD P t enc1 ok :=
  (z576 ht h).imp fun x m ⟨⟨a, h1, h2⟩, _⟩ => ⟨a, by rw [he] at h1;exact (List.cons.inj h1).1, h2⟩
theorem ArgD.imp {α β : Type} {t : TypeId} {enc : α → AC} {ok : α → Prop} {enc' : β → AC} {ok' : β → Prop} (h : ArgD P t enc ok) (hi : ∀ a, ok a → ∃ b, enc a = enc' b ∧ ok' b) : ArgD P t enc' ok' :=
  ArgOk.imp h fun x m ⟨a, h1, h2⟩ => by
    obtain ⟨b, h3, h4⟩ := hi a h2
    exact ⟨b, h1.trans h3, h4⟩
theorem ArgsOk.imp : {ts : List TypeId} → {R R' : List AC → Nat → Prop} → ArgsOk P ts R → (∀ xs m, R xs m → R' xs m) → ArgsOk P ts R'
  | [], _, _, h, hi => hi _ _ h
  | _ :: _, _, _, ⟨R1, R2, h1, h2, h3⟩, hi => ⟨R1, R2, h1, h2, fun a m as n ha has => hi _ _ (h3 a m as n ha has)⟩
theorem args_nil : ArgsOk P [] (fun xs _ => xs = []) := rfl
theorem z721 {α : Type} {t : TypeId} {ts : List TypeId} {enc : α → AC} {ok : α → Prop} {R : List AC → Prop} (h : ArgD P t enc ok) (k : ArgsOk P ts (fun xs _ => R xs)) : ArgsOk P (t :: ts) (fun xs _ => ∃ a ys, xs = enc a :: ys ∧ ok a ∧ R ys) :=
  ⟨_, _, h, k, fun _ _ as _ ⟨b, h1, h2⟩ h3 => ⟨b, as, by rw [h1], h2, h3⟩⟩
theorem z236 {H : Type} : (l : List (DataW H)) → z368 SizeOf.sizeOf l + 1 ≤ SizeOf.sizeOf l
  | [] => by simp [z368]
  | d :: r => by
    have := z236 r
    simp only [z368, List.cons.sizeOf_spec]
    omega
theorem z572 {H : Type} : Bulk (H := H) SizeOf.sizeOf where
  lit l := by simp only [DataW.lit.sizeOf_spec];omega
  nil := by simp
  slice es sp := by
    have := z236 es
    simp only [DataW.slice.sizeOf_spec];omega
  agg ps := by
    have := z236 ps
    simp only [DataW.agg.sizeOf_spec];omega
end Go.Gl

