/- A part of the proofs over this program: GlH9, GlN1, GlN2, GlL, GlM, GlN, GlO, GlP, GlQ, GlR, GlS, GlT, GlU, GlW, D1, D2, GlX, GlY, D3, GlZ, D4. -/
import Derived.Test.YtppafngcahgagaaGreatG0
import Derived.Below
import Derived.ChangeSame
import Derived.ChangeArms
import Derived.WideKeyArgs
import Derived.OpenShut
set_option linter.all false
namespace Go.Gl
variable {P : Program} {T : Tab} {dst : Option Tmp} {type : TypeId} {pos : String} {after : Array Edge} {guard : Option (Nat × Bool)} {st : St} {K : OpK}
theorem append_nil {t e ty : TypeId} {i ei : TyI} (ht : TyOk P t i) (hd : i.desc = .slice e) (he : TyOk P e ei) {G : Ghost} {objs : Nat → AObj} {w : World} (hW : Wf G objs w) {q m : Nat} {es2 : List (List AC)} {x : Value} {news : Array Value}
    (hz : ei.zero.cells.size = ei.size) (hq : objs q = .fresh) (hx : z521 P G w ei.size x m news es2) (h1 : m * ei.bytes ≤ 2 ^ 47) (h2 : m ≤ 2 ^ 47) :
    ∃ v w' G', (Builtin.append_ #[t, t] ty #[.slice none 0 0, x]).run P w = .ok v w' ∧ G.Sub G' ∧ (∀ o t, G.ι o = some t → G'.ι o = some t) ∧ Le w w' ∧ Wf G' (upd objs q (.cells ei.size es2)) w' ∧ V G' (hp w') none (.sref q 0 m) v := by
  obtain ⟨hx1, hx2, hx3, hx4, hx5, hx6⟩ := hx
  rcases z242 (n := 0) (a := none) (cap := 0) (ty := ty) ht hd he (hx1 w rfl) hx2 (fun w' _ => z106) (by simpa using h1) (by simpa using h2) with ⟨h, hrun⟩|⟨_, nc, rest, hnc, hrest, w', hrun, hh, e1, e2, e3⟩
  · have hm : m = 0 := by omega
    subst hm
    have hes2 : es2 = [] := List.eq_nil_of_length_eq_zero hx5
    subst hes2
    refine ⟨.slice none 0 0, w, G, by rw [hrun];rfl, Ghost.Sub.refl G, fun _ _ h => h, Le.refl w, hW.phantom hq, ?_⟩
    simp only [V];exact ⟨0, Nat.le_refl _, .inl ⟨rfl, none, rfl⟩⟩
  · have hio : G.ι q = none := by have := hW.objs q;rw [hq] at this;exact this
    have hc : VLL G (hp w) none ei.size es2 (#[] ++ news ++ rest) 0 := by
      rw [z97] at hx4 ⊢
      intro i e hie
      obtain ⟨h3, h4⟩ := hx4 i e hie
      refine ⟨h3, z89.2 fun j y hy => ?_⟩
      obtain ⟨v, hv1, hv2⟩ := z89.1 h4 j y hy
      refine ⟨v, ?_, hv2⟩
      have := (Array.getElem?_eq_some_iff.1 hv1).1
      simp only [Array.empty_append]
      rw [Array.getElem?_append, if_pos this];exact hv1
    refine ⟨_, w', G.push q w.heap.size (#[] ++ news ++ rest).size ei.size, hrun, ⟨Ghost.push_S, rfl⟩, Ghost.push_ι hio, z545 hh e1 e2 e3, hW.push hq hh hc, ?_⟩
    simp only [V]
    refine ⟨nc, by omega, .inr ⟨w.heap.size, (#[] ++ news ++ rest).size, ei.size, by simp only [Ghost.push, z90], ?_, by rw [Nat.zero_mul, Nat.zero_add]⟩⟩
    simp only [Array.size_append, hx3, hrest, hz, Nat.zero_add, Array.empty_append]
    rw [← Nat.add_mul]
    exact Nat.mul_le_mul_right _ (by omega)
def z653 (st : St) (size : Nat) (x : AC) (K : Nat → List (List AC) → List Nat → Prop) : Prop := match x with
  | .list w n es => z99 (Nat.beq w size) (Stor es ∧ K n es [])
  | .sref o off n => match off with
    | 0 => match st.objs o with
      | .cells w es => z99 (Nat.beq w size) ((es.length = n ∧ Stor es) ∧ K n es [o])
      | _ => False
    | _ + 1 => False
  | .raw (.slice _ 0 _) => K 0 [] []
  | _ => False
def z597 (st : St) (K : Nat → Prop) : Prop := match st.objs st.next with
  | .fresh => z233 st.next K
  | _ => False
def z581 (i : TyI) (st : St) (s x : AC) (K : OpK) : Prop :=
  z99 (Nat.beq (z109 i.zero).length i.size) (z99 (Nat.blt 0 i.size) (z653 st i.size x fun m es2 os => match s with
    | .sref o off n => match off with
      | 0 => match st.objs o with
        | .cells w es => z99 (Nat.beq w i.size) (z99 (!inB os o) ((n ≤ es.length ∧ (n + m) * i.bytes ≤ 2 ^ 47 ∧ n + m ≤ 2 ^ 47) ∧ z597 st fun q => K (.sref q 0 (n + m)) (⟨o, .cells w es, .dead⟩ :: ⟨q, .fresh, .cells w (es.take n ++ es2)⟩ :: os.map st.rd)))
        | _ => False
      | _ + 1 => False
    | .raw (.slice none 0 0) => (m * i.bytes ≤ 2 ^ 47 ∧ m ≤ 2 ^ 47) ∧ z597 st fun q => K (.sref q 0 m) (⟨q, .fresh, .cells i.size es2⟩ :: os.map st.rd)
    | _ => False))
theorem z524 {size : Nat} {x : AC} {K : Nat → List (List AC) → List Nat → Prop} (h : z653 st size x K) : ∃ m es os, K m es os ∧ (∀ o ∈ os, st.objs o ≠ .fresh) ∧ (∀ (G : Ghost) (objs : Nat → AObj) (w : World) (v : Value), Wf G objs w → 0 < size → (∀ o ∈ os, objs o = st.objs o) → V G (hp w) none x v → ∃ news, z521 P G w size v m news es) := by
  unfold z653 at h
  split at h
  · rename_i w n es
    obtain ⟨hw, hs, hk⟩ := z83 h
    have hw := Nat.eq_of_beq_eq_true hw
    subst hw
    exact ⟨n, es, [], hk, by simp, fun G objs w v hW hp _ hv => z684 hp hW.hS hs hv⟩
  · rename_i o off n
    split at h
    · split at h
      · rename_i w es hob
        obtain ⟨hw, ⟨hn, hs⟩, hk⟩ := z83 h
        have hw := Nat.eq_of_beq_eq_true hw
        subst hw
        exact ⟨n, es, [o], hk, by simp [hob], fun G objs w v hW hp hos hv => z683 hp hW (by rw [hos o (by simp), hob]) hn hs hv⟩
      · exact h.elim
    · exact h.elim
  · exact ⟨0, [], [], h, by simp, fun G objs w v hW hp _ hv => by
      rw [z134] at hv
      subst hv
      exact ⟨#[], fun w' _ => rfl, fun w' _ => z106, by simp, by simp [VLL], rfl, by simp⟩⟩
  · exact h.elim
theorem z374 {s x : Operand} {t : TypeId} (ρ : Operand → Value) :
    execOp ρ ⟨dst, .call ⟨.builtin .append, #[s, x], #[t, t]⟩, type, pos, after, guard⟩ = (do pure (.value (← Builtin.append_ #[t, t] type #[ρ s, ρ x]))) := by
  simp [execOp, resolve, invoke, Go.builtin]
theorem z373 {f : Nat → AObj} {st : St} {os : List Nat} (h : ∀ o ∈ os, f o = st.objs o) : z103 f (os.map st.rd) = f :=
  z130 f _ fun c hc => by
    rw [List.mem_map] at hc
    obtain ⟨o, ho, rfl⟩ := hc
    exact ⟨h o ho, rfl⟩
theorem z470 {s x : Operand} {t e : TypeId} {i ei : TyI} (ht : TyOk P t i) (hd : i.desc = .slice e) (he : TyOk P e ei)
    (h : z581 ei st (st.ev s) (st.ev x) K) : z122 P st ⟨dst, .call ⟨.builtin .append, #[s, x], #[t, t]⟩, type, pos, after, guard⟩ K := by
  obtain ⟨hz, h⟩ := z83 h
  obtain ⟨hpos, h⟩ := z83 h
  have hz' : ei.zero.cells.size = ei.size := by have := Nat.eq_of_beq_eq_true hz;simpa [z109] using this
  have hpos : 0 < ei.size := by simpa [Nat.blt_eq] using hpos
  obtain ⟨m, es2, os, hk, hosf, hnews⟩ := z524 (P := P) h
  have hops : ∀ y, (y = s ∨ y = x) → y ∈ (Op.operands (.call ⟨.builtin .append, #[s, x], #[t, t]⟩)).toList := by
    rintro y (rfl|rfl) <;> simp [Op.operands, Call.operands]
  split at hk
  · rename_i o off n hs
    split at hk
    · split at hk
      · rename_i wd es hob
        obtain ⟨hw, hk⟩ := z83 hk
        obtain ⟨hno, ⟨hn, h1, h2⟩, hk⟩ := z83 hk
        have hw := Nat.eq_of_beq_eq_true hw
        subst hw
        unfold z597 at hk
        split at hk
        · rename_i hfr
          rw [z126] at hk
          have hoos : o ∉ os := fun hm => by rw [z213.2 hm] at hno;simp at hno
          refine ⟨_, _, ⟨fun Q K' G st' a w hR hrd hfp hd' hK => ?_⟩, fun c hc => ?_, hk⟩
          · have hsv := hR.ev s
            rw [z138 (hops s (.inl rfl)) hrd, hs] at hsv
            have hxv := hR.ev x
            rw [z138 (hops x (.inr rfl)) hrd] at hxv
            have hos : ∀ o ∈ os, st'.objs o = st.objs o := fun o ho => hfp (st.rd o) (by simp;exact .inr (.inr ⟨o, ho, rfl⟩))
            obtain ⟨news, hnw⟩ := hnews G st'.objs w _ hR.wf hpos hos hxv
            have ho1 : st'.objs o = .cells ei.size es := hfp ⟨o, .cells ei.size es, .dead⟩ (by simp)
            have hq1 : st'.objs st.next = .fresh := hfp ⟨st.next, .fresh, .cells ei.size (es.take n ++ es2)⟩ (by simp)
            obtain ⟨v, w', G', hrun, hg1, hg2, hle, hW', hV⟩ := z647 (ty := type) ht hd he hz' hR.wf ho1 hq1 hsv hnw hn h1 h2
            refine wp_v (z374 a.eval) hrun (hK G' _ w' hg1 hg2 hle ⟨?_, ?_, by rw [z243];exact hR.size, by rw [z169];exact hR.defers⟩)
            · show Wf G' (z103 (upd (upd st'.objs o .dead) st.next (.cells ei.size (es.take n ++ es2))) (os.map st.rd)) w'
              rw [z373]
              · exact hW'
              · intro o' ho'
                have h3 : o' ≠ st.next := by
                  rintro rfl
                  exact hosf _ ho' hfr
                rw [z114 _ _ h3, z114 _ _ (by rintro rfl;exact hoos ho')]
                exact hos o' ho'
            · exact z299 hd' hR.size (fun s => z177 hg1.S hg2 (hR.env s)) hV
          · simp at hc
            rcases hc with rfl|rfl|⟨o', ho', rfl⟩
            · exact ⟨hob, fun h => by cases h⟩
            · exact ⟨hfr, fun h => by cases h⟩
            · exact ⟨rfl, fun h => by cases h⟩
        · exact hk.elim
      · exact hk.elim
    · exact hk.elim
  · rename_i hs
    obtain ⟨⟨h1, h2⟩, hk⟩ := hk
    unfold z597 at hk
    split at hk
    · rename_i hfr
      rw [z126] at hk
      refine ⟨_, _, ⟨fun Q K' G st' a w hR hrd hfp hd' hK => ?_⟩, fun c hc => ?_, hk⟩
      · have hsv := hR.ev s
        rw [z138 (hops s (.inl rfl)) hrd, hs, z134] at hsv
        have hxv := hR.ev x
        rw [z138 (hops x (.inr rfl)) hrd] at hxv
        have hos : ∀ o ∈ os, st'.objs o = st.objs o := fun o ho => hfp (st.rd o) (by simp;exact .inr ⟨o, ho, rfl⟩)
        obtain ⟨news, hnw⟩ := hnews G st'.objs w _ hR.wf hpos hos hxv
        have hq1 : st'.objs st.next = .fresh := hfp ⟨st.next, .fresh, .cells ei.size es2⟩ (by simp)
        obtain ⟨v, w', G', hrun, hg1, hg2, hle, hW', hV⟩ := append_nil (ty := type) ht hd he hR.wf hz' hq1 hnw h1 h2
        refine wp_v (z374 a.eval) (by rw [hsv];exact hrun) (hK G' _ w' hg1 hg2 hle ⟨?_, ?_, by rw [z243];exact hR.size, by rw [z169];exact hR.defers⟩)
        · show Wf G' (z103 (upd st'.objs st.next (.cells ei.size es2)) (os.map st.rd)) w'
          rw [z373]
          · exact hW'
          · intro o' ho'
            have h3 : o' ≠ st.next := by
              rintro rfl
              exact hosf _ ho' hfr
            rw [z114 _ _ h3]
            exact hos o' ho'
        · exact z299 hd' hR.size (fun s => z177 hg1.S hg2 (hR.env s)) hV
      · simp at hc
        rcases hc with rfl|⟨o', ho', rfl⟩
        · exact ⟨hfr, fun h => by cases h⟩
        · exact ⟨rfl, fun h => by cases h⟩
    · exact hk.elim
  · exact hk.elim
end Go.Gl

namespace Go.Gl
variable {P : Program} {T : Tab} {dst : Option Tmp} {type : TypeId} {pos : String} {after : Array Edge} {guard : Option (Nat × Bool)} {st : St} {K : OpK}
def z326 : Option TyI → Bool
  | some i => match i.desc with
    | .slice _ => true
    | _ => false
  | none => false
theorem z304 {t : TypeId} (hT : z135 P T) (h : z326 (T t) = true) : ∃ e, P.underlying t = some (.slice e) := by
  unfold z326 at h
  split at h
  · rename_i i hi
    split at h
    · rename_i e he
      exact ⟨e, by rw [(hT _ _ hi).1, he]⟩
    · cases h
  · cases h
def z483 (op : BinOp) (b : Bool) (K : OpK) : Prop := match op with
  | .eql => K (.bool b) []
  | .neq => K (.bool (!b)) []
  | _ => False
def z652 (t : Option TyI) (op : BinOp) (x : AC) (K : OpK) : Prop := z99 (z326 t) (match x with
  | .raw (.slice a _ _) => z483 op a.isNone K
  | .list _ n _ => 0 < n ∧ z483 op false K
  | .sref _ _ n => 0 < n ∧ z483 op false K
  | _ => False)
def z658 (t : Option TyI) (op : BinOp) (x y : AC) (K : OpK) : Prop := match y with
  | .raw (.slice none 0 0) => z652 t op x K
  | y => vcBin t op x y K
theorem z292 {w : World} (d : Nat) {t e : TypeId} {a : Option Addr} {n c : Nat} (h : P.underlying t = some (.slice e)) : (Op.equalIn (d + 1) t (.slice a n c) (.slice none 0 0)).run P w = .ok a.isNone w := by
  cases a <;> simp [Op.equalIn, z101 h]
theorem z228 {w : World} {t e : TypeId} {a : Option Addr} {n c : Nat} (h : P.underlying t = some (.slice e)) : (Op.equal t (.slice a n c) (.slice none 0 0)).run P w = .ok a.isNone w :=
  z292 9999 h
theorem z534 {op : BinOp} {t t2 : TypeId} {x y : Operand} (hT : z135 P T) (hy : st.ev y = .raw (.slice none 0 0)) (h : z652 (T t) op (st.ev x) K) : z122 P st ⟨dst, .binOp op t x y t2, type, pos, after, guard⟩ K := by
  obtain ⟨hs, h⟩ := z83 h
  obtain ⟨e, he⟩ := z304 hT hs
  have key : ∀ b : Bool, (∀ (G : Ghost) (hh : Nat → Option Obj) (v : Value), V G hh none (st.ev x) v → ∃ a n c, v = .slice a n c ∧ a.isNone = b) → z483 op b K → z122 P st ⟨dst, .binOp op t x y t2, type, pos, after, guard⟩ K := by
    intro b hv hk
    have key2 : ∀ r : Bool, (op = .eql ∧ r = b ∨ op = .neq ∧ r = !b) → K (.raw (.bool r)) [] → z122 P st ⟨dst, .binOp op t x y t2, type, pos, after, guard⟩ K := by
      intro r ho hk
      refine z115 (fun ρ => do eqGuard op t x y (ρ x) (ρ y);binOp op t (ρ x) (ρ y)) (fun ρ => z330 ρ) hk fun G a w hxs => ?_
      have h1 := hxs x (by simp [Op.operands])
      have h2 := hxs y (by simp [Op.operands])
      rw [hy, z134] at h2
      obtain ⟨ad, n, c, h3, h4⟩ := hv _ _ _ h1
      refine ⟨_, ?_, by rw [z134]⟩
      rw [h3, h2]
      have : (eqGuard op t x y (.slice ad n c) (.slice none 0 0)).run P w = .ok () w := by
        unfold eqGuard
        split <;> rfl
      rw [Sem.run_bind, this]
      rcases ho with ⟨rfl, rfl⟩|⟨rfl, rfl⟩
      · have e : binOp .eql t (.slice ad n c) (.slice none 0 0) = (do pure (.bool (← Op.equal t (.slice ad n c) (.slice none 0 0)))) := rfl
        rw [e]
        simp only [Result.andThen]
        rw [Sem.run_bind, z228 he, h4]
        rfl
      · have e : binOp .neq t (.slice ad n c) (.slice none 0 0) = (do pure (.bool (!(← Op.equal t (.slice ad n c) (.slice none 0 0))))) := rfl
        rw [e]
        simp only [Result.andThen]
        rw [Sem.run_bind, z228 he, h4]
        rfl
    unfold z483 at hk
    split at hk
    · exact key2 _ (.inl ⟨rfl, rfl⟩) hk
    · exact key2 _ (.inr ⟨rfl, rfl⟩) hk
    · exact hk.elim
  split at h
  · rename_i a n c hx
    exact key _ (fun G hh v hv => by rw [hx, z134] at hv;exact ⟨_, _, _, hv, rfl⟩) h
  · rename_i w n es hx
    refine key _ (fun G hh v hv => ?_) h.2
    rw [hx] at hv
    simp only [V] at hv
    obtain ⟨a, cap, rfl, _, hl, hv⟩ := hv
    rcases hv with rfl|⟨b, off, c, el, fz, rfl, _⟩
    · simp at hl;omega
    · exact ⟨_, _, _, rfl, rfl⟩
  · rename_i o off n hx
    refine key _ (fun G hh v hv => ?_) h.2
    rw [hx] at hv
    simp only [V] at hv
    obtain ⟨cap, hc, hv⟩ := hv
    rcases hv with ⟨h0, _⟩|⟨b, size, w, _, _, rfl⟩
    · omega
    · exact ⟨_, _, _, rfl, rfl⟩
  · exact h.elim
theorem z618 {op : BinOp} {t t2 : TypeId} {x y : Operand} (hT : z135 P T) (h : z658 (T t) op (st.ev x) (st.ev y) K) : z122 P st ⟨dst, .binOp op t x y t2, type, pos, after, guard⟩ K := by
  unfold z658 at h
  split at h
  · rename_i hy;exact z534 hT hy h
  · exact z670 hT h
end Go.Gl

namespace Go.Gl
variable {P : Program} {T : Tab} {dst : Option Tmp} {type : TypeId} {pos : String} {after : Array Edge} {guard : Option (Nat × Bool)} {st : St} {K : OpK}
theorem z541 {w : World} {t tI ty e : TypeId} {i ei : TyI} {ik : IntKind} (ht : TyOk P t i) (hd : i.desc = .slice e) (he : TyOk P e ei) (hI : P.underlying tI = some (.int ik))
    (hz : ei.zero.cells.size = ei.size) (hp : 0 < ei.size) {n : Int} {k : IntKind} (h0 : 0 < n) (h1 : n * ei.bytes ≤ 2 ^ 47) (h2 : n ≤ 2 ^ 47) :
    ∃ nc rest, n.toNat ≤ nc ∧ rest.size = (nc - n.toNat) * ei.zero.cells.size ∧ ∃ w', (Builtin.append_ #[t, tI] ty #[.slice none 0 0, .int k n]).run P w = .ok (.slice (some ⟨w.heap.size, 0, none⟩) n.toNat nc) w' ∧
      w'.heap = w.heap.push (.cells (z182 n.toNat ei.zero.cells ++ rest) e) ∧ w'.os = w.os ∧ w'.tape = w.tape ∧ w'.output = w.output := by
  have hn : IntKind.i64.wrap n = n := IntWalk.i64_in _ (by omega)
  obtain ⟨hu, inf, hi1, hi2, hi3, hi4⟩ := he
  have hut := ht.1
  rw [hd] at hut
  have hnn : ((n.toNat : Nat) : Int) = n := Int.toNat_of_nonneg (by omega)
  have h47 : n.toNat * ei.bytes ≤ 2 ^ 47 := by
    have : ((n.toNat * ei.bytes : Nat) : Int) = n * ei.bytes := by push_cast;rw [hnn]
    omega
  have h3 : ¬ (9223372036854775807 < n) := by omega
  have h5 : ¬ n < 0 := by omega
  have h6 : ¬ (281474976710656 < n * (ei.bytes : Int)) := by omega
  have hc : ¬ n.toNat ≤ 0 := by omega
  have h4 : ¬ (281474976710656 < Builtin.nextslicecap (n.toNat) 0 * ei.bytes) := by
    have := growslice_fits (need := n.toNat) (old := 0) (bytes := ei.bytes) (by omega) (by omega)
    omega
  have h7 : ¬ n.toNat * ei.size = 0 := by
    have : 0 < n.toNat * ei.size := Nat.mul_pos (by omega) hp
    omega
  have hcut : n.toNat ≤ (Question.appendCap n.toNat 0 e).cut (w.tape w.drawn (.appendCap n.toNat 0 e)) := by simp [Question.cut]
  refine ⟨(Question.appendCap n.toNat 0 e).cut (w.tape w.drawn (.appendCap n.toNat 0 e)), Builtin.zeroCells ei.zero.cells ((Question.appendCap n.toNat 0 e).cut (w.tape w.drawn (.appendCap n.toNat 0 e)) - n.toNat), hcut, by simp [Builtin.zeroCells], ?_⟩
  refine ⟨{ w with heap := w.heap.push (.cells (z182 n.toNat ei.zero.cells ++ Builtin.zeroCells ei.zero.cells ((Question.appendCap n.toNat 0 e).cut (w.tape w.drawn (.appendCap n.toNat 0 e)) - n.toNat)) e), drawn := w.drawn + 1 }, ?_, rfl, rfl, rfl, rfl⟩
  simp only [Builtin.append_]
  simp [z101 hut, z101 hI, z141 hi1, hi2, hn, hc, hi3, h3, h4, h5, h6, h7, hnn, asInt, asIntOf, z155 hi1, z164 hi1 hi4, newRow, Question.forced, z106]
  rw [if_neg (by omega), if_neg (by omega)]
  rfl
theorem OpT.fresh2 {o : Oper} {st : St} {q wd : Nat} {es : List (List AC)} {res : AC} (s : (Operand → Value) → Sem Value) (he : ∀ ρ, execOp ρ o = (do pure (.value (← s ρ))))
    (h : ∀ (G : Ghost) (a : Act) (w : World), (∀ x ∈ o.op.operands.toList, V G (hp w) none (st.ev x) (a.eval x)) → ∃ v c el w', (s a.eval).run P w = .ok v w' ∧ w'.heap = w.heap.push (.cells c el) ∧ w'.os = w.os ∧ w'.tape = w.tape ∧ w'.output = w.output ∧ VLL G (hp w) none wd es c 0 ∧
      (∀ (G' : Ghost) (h' : Nat → Option Obj), G'.ι q = some (w.heap.size, c.size, wd) → V G' h' none res v)) :
    OpT P o (st.reads o.op.operands.toList) [⟨q, .fresh, .cells wd es⟩] res where
  run Q K G st' a w hR hrd hfp hd hK := by
    obtain ⟨v, c, el, w', h1, hh, e1, e2, e3, h2, h3⟩ := h G a w (fun x hx => by rw [← z138 hx hrd];exact hR.ev x)
    refine wp_v (he a.eval) h1 ?_
    have hq : st'.objs q = .fresh := hfp _ (List.mem_singleton.2 rfl)
    exact hK (G.push q w.heap.size c.size wd) _ _ ⟨Ghost.push_S, rfl⟩ (Ghost.push_ι (by have := hR.wf.objs q;rw [hq] at this;exact this)) (z545 hh e1 e2 e3) (hR.push hd hq hh h2 (h3 _ _ (by simp [Ghost.push, z90])))
def z697 : Option TyI → Bool
  | some i => match i.desc with
    | .int _ => true
    | _ => false
  | none => false
theorem z560 {t : TypeId} (hT : z135 P T) (h : z697 (T t) = true) : ∃ k, P.underlying t = some (.int k) := by
  unfold z697 at h
  split at h
  · rename_i i hi
    split at h
    · rename_i e he
      exact ⟨e, by rw [(hT _ _ hi).1, he]⟩
    · cases h
  · cases h
def z659 (ti : Option TyI) (i : TyI) (st : St) (s x : AC) (K : OpK) : Prop :=
  z99 (z697 ti) (z99 (Nat.blt 0 i.size) (match s, x with
    | .raw (.slice none 0 0), .raw (.int _ n) => (0 < n ∧ n * i.bytes ≤ 2 ^ 47 ∧ n ≤ 2 ^ 47) ∧
        z99 (Nat.beq (z109 i.zero).length i.size) (z233 i.size fun sz => litK (z109 i.zero) fun z => z452 st sz (List.replicate n.toNat z) (fun q => .sref q 0 n.toNat) K)
    | _, _ => False))
theorem z512 {s x : Operand} {t tI : TypeId} (ρ : Operand → Value) :
    execOp ρ ⟨dst, .call ⟨.builtin .append, #[s, x], #[t, tI]⟩, type, pos, after, guard⟩ = (do pure (.value (← Builtin.append_ #[t, tI] type #[ρ s, ρ x]))) := by
  simp [execOp, resolve, invoke, Go.builtin]
theorem z423 {s x : Operand} {t tI e : TypeId} {i ei : TyI} (hT : z135 P T) (ht : TyOk P t i) (hd : i.desc = .slice e) (he : TyOk P e ei)
    (h : z659 (T tI) ei st (st.ev s) (st.ev x) K) : z122 P st ⟨dst, .call ⟨.builtin .append, #[s, x], #[t, tI]⟩, type, pos, after, guard⟩ K := by
  unfold z659 at h
  obtain ⟨hi, h⟩ := z83 h
  obtain ⟨hpos, h⟩ := z83 h
  have hpos : 0 < ei.size := by simpa [Nat.blt_eq] using hpos
  obtain ⟨ik, hI⟩ := z560 hT hi
  split at h
  · rename_i k n hs hx
    obtain ⟨⟨h0, h1, h2⟩, h⟩ := h
    obtain ⟨hz, h⟩ := z83 h
    rw [z126, z211] at h
    have hz' : ei.zero.cells.size = ei.size := by have := Nat.eq_of_beq_eq_true hz;simpa [z109] using this
    exact z227 rfl h (OpT.fresh2 (fun ρ => Builtin.append_ #[t, tI] type #[ρ s, ρ x]) z512 fun G a w hxs => by
      have h4 := hxs s (by simp [Op.operands, Call.operands])
      have h5 := hxs x (by simp [Op.operands, Call.operands])
      rw [hs, z134] at h4
      rw [hx, z134] at h5
      obtain ⟨nc, rest, hnc, hrest, w', hrun, hh, e1, e2, e3⟩ := z541 (w := w) (ty := type) (k := k) ht hd he hI hz' hpos h0 h1 h2
      refine ⟨_, _, _, w', by rw [h4, h5];exact hrun, hh, e1, e2, e3, ?_, fun G' h' hι => ?_⟩
      · have := z303 (G := G) (h := hp w) (l := none) (n := n.toNat) (z := ei.zero)
        rw [hz'] at this
        rw [z97] at this ⊢
        intro i e hie
        obtain ⟨h6, h7⟩ := this i e hie
        refine ⟨h6, z89.2 fun j y hy => ?_⟩
        obtain ⟨v, hv1, hv2⟩ := z89.1 h7 j y hy
        refine ⟨v, ?_, hv2⟩
        have := (Array.getElem?_eq_some_iff.1 hv1).1
        rw [Array.getElem?_append, if_pos this];exact hv1
      · simp only [V]
        refine ⟨nc, hnc, .inr ⟨_, _, _, hι, ?_, by simp⟩⟩
        rw [Array.size_append, z218, hrest, hz', Nat.zero_add, ← Nat.add_mul]
        exact Nat.mul_le_mul_right _ (by omega))
  · exact h.elim
def vcCap (ti : Option TyI) (x : AC) (K : OpK) : Prop := z99 (z326 ti) (match x with
  | .raw (.slice _ _ n) => K (.int n) []
  | _ => False)
theorem z668 {x : Operand} {t : TypeId} (hT : z135 P T) (h : vcCap (T t) (st.ev x) K) : z122 P st ⟨dst, .call ⟨.builtin .cap, #[x], #[t]⟩, type, pos, after, guard⟩ K := by
  unfold vcCap at h
  obtain ⟨hi, h⟩ := z83 h
  obtain ⟨e, he⟩ := z304 hT hi
  split at h
  · rename_i a l n hx
    refine z115 (fun ρ => Builtin.cap_ #[t] type #[ρ x]) (fun ρ => by simp [execOp, resolve, invoke, Go.builtin, go_sem]) h fun G a w hxs => ?_
    have h1 := hxs x (by simp [Op.operands, Call.operands])
    rw [hx, z134] at h1
    exact ⟨_, by rw [h1];simp [Builtin.cap_, z101 he, goInt, go_sem];rfl, by simp [V]⟩
  · exact h.elim
end Go.Gl

namespace Go.Gl
variable {P : Program} {T : Tab}
def z382 (t : Option TyI) (K : TyI → Prop) : Prop := match t with
  | some i => K i
  | none => False
def z154 (T : Tab) (t : TypeId) (K : TyI → Prop) : Prop := match T t with
  | some i => match i.desc with
    | .slice e => z382 (T e) K
    | _ => False
  | none => False
def z332 (T : Tab) (s f : Nat) (K : Nat → TyI → Prop) : Prop := match T s with
  | some i => match i.desc with
    | .struct fs => match fs[f]? with
      | some fd => z382 (T fd.type) (K fd.offset)
      | none => False
    | _ => False
  | none => False
def z454 (T : Tab) (st : St) (args : List Operand) (ts : List TypeId) (K : OpK) : Prop := match args, ts with
  | [x], [t] => z655 (T t) (st.ev x) K
  | _, _ => False
def z456 (T : Tab) (st : St) (args : List Operand) (ts : List TypeId) (K : OpK) : Prop := match args, ts with
  | [s, x], [t, t'] => match Nat.beq t t' with
    | true => z154 T t fun i => z581 i st (st.ev s) (st.ev x) K
    | false => z154 T t fun i => z659 (T t') i st (st.ev s) (st.ev x) K
  | _, _ => False
def z455 (T : Tab) (st : St) (args : List Operand) (ts : List TypeId) (K : OpK) : Prop := match args, ts with
  | [x], [t] => vcCap (T t) (st.ev x) K
  | _, _ => False
def isBit : BinOp → Bool
  | .shl | .shr | .and | .or | .xor | .andNot => true
  | _ => false
def mapK (st : St) (xs : List Operand) (K : List AC → Prop) : Prop := match xs with
  | [] => K []
  | x :: xs => z279 (st.ev x) fun v => mapK st xs fun r => K (v :: r)
theorem z685 {st : St} {xs : List Operand} {K : List AC → Prop} : mapK st xs K = K (xs.map st.ev) := by
  induction xs generalizing K with
  | nil => rfl
  | cons x xs ih => simp [mapK, z125, ih]
def vcOp (T : Tab) (P : Program) (st : St) (op : Op) (K : OpK) : Prop := match op with
  | .move x => K (st.ev x) []
  | .assign x => K (st.ev x) []
  | .pick c a b => z580 (st.ev c) (st.ev a) (st.ev b) K
  | .alloc t => z382 (T t) fun i => z528 i st K
  | .box _ x => vcBox st (st.ev x) K
  | .load t x => z382 (T t) fun i => z453 i st (st.ev x) K
  | .store t x y => z382 (T t) fun i => z523 i st (st.ev x) (st.ev y) K
  | .fieldAddr s x f => z332 T s f fun off i => match i.size with
    | 0 => False
    | _ + 1 => z526 off (st.ev x) K
  | .indexAddr t x ix => z154 T t fun i => z525 i.size st (st.ev x) (st.ev ix) K
  | .makeSlice t x y => z154 T t fun i => z654 i st (st.ev x) (st.ev y) K
  | .binOp op t x y _ => match isBit op with
    | true => z657 op (st.ev x) (st.ev y) K
    | false => z658 (T t) op (st.ev x) (st.ev y) K
  | .build t parts => z382 (T t) fun i => z527 T i (parts.toList.map fun p => (p.1, st.ev p.2)) K
  | .buildSlice t n parts => z154 T t fun i => z224 i n st (parts.toList.map fun p => (p.1, st.ev p.2)) K
  | .slice t x lo hi mx => z154 T t fun i => z651 i.size st (st.ev x) (lo.map st.ev) (hi.map st.ev) (mx.map st.ev) K
  | .convert s d x => z382 (T s) fun _ => z656 (T d) (st.ev x) K
  | .makeFunc fn first caps => mapK st first.toList fun a => mapK st caps.toList fun b => K (.fn fn a b) []
  | .nilCheck x => vcNil (st.ev x) K
  | .unOp op _ x => vcUn op (st.ev x) K
  | .extract x i => vcTup (st.ev x) i K
  | .call c => match c.callee with
    | .builtin .len => z454 T st c.args.toList c.argTypes.toList K
    | .builtin .append => z456 T st c.args.toList c.argTypes.toList K
    | .builtin .cap => z455 T st c.args.toList c.argTypes.toList K
    | .value f => z85 P st (st.ev f) (c.args.toList.map st.ev) K
    | _ => False
  | _ => False
theorem z140 {t : TypeId} {K : TyI → Prop} (hT : z135 P T) (h : z382 (T t) K) : ∃ i, TyOk P t i ∧ K i := by
  unfold z382 at h
  split at h
  · rename_i i hi;exact ⟨i, hT _ _ hi, h⟩
  · exact h.elim
theorem z123 {t : TypeId} {K : TyI → Prop} (hT : z135 P T) (h : z154 T t K) : ∃ i e ei, TyOk P t i ∧ i.desc = .slice e ∧ TyOk P e ei ∧ K ei := by
  unfold z154 at h
  split at h
  · rename_i i hi
    split at h
    · rename_i e he
      obtain ⟨ei, h1, h2⟩ := z140 hT h
      exact ⟨i, e, ei, hT _ _ hi, he, h1, h2⟩
    · exact h.elim
  · exact h.elim
theorem z383 {s f : Nat} {K : Nat → TyI → Prop} (hT : z135 P T) (h : z332 T s f K) : ∃ i fs fd fi, TyOk P s i ∧ i.desc = .struct fs ∧ fs[f]? = some fd ∧ TyOk P fd.type fi ∧ K fd.offset fi := by
  unfold z332 at h
  split at h
  · rename_i i hi
    split at h
    · rename_i fs hfs
      split at h
      · rename_i fd hfd
        obtain ⟨fi, h1, h2⟩ := z140 hT h
        exact ⟨i, fs, fd, fi, hT _ _ hi, hfs, hfd, h1, h2⟩
      · exact h.elim
    · exact h.elim
  · exact h.elim
theorem z586 (hT : z135 P T) {st : St} {o : Oper} {K : OpK} (h : vcOp T P st o.op K) : z122 P st o K := by
  obtain ⟨dst, op, type, pos, after, guard⟩ := o
  cases op <;> simp only [vcOp] at h
  case move => exact z613 h
  case assign => exact z469 h
  case pick => exact z612 h
  case alloc => obtain ⟨i, h1, h2⟩ := z140 hT h;exact z536 h1 h2
  case box => exact z669 h
  case load => obtain ⟨i, h1, h2⟩ := z140 hT h;exact z614 h1 h2
  case store => obtain ⟨i, h1, h2⟩ := z140 hT h;exact z532 h1 h2
  case fieldAddr =>
    obtain ⟨i, fs, fd, fi, h1, h2, h3, h4, h5⟩ := z383 hT h
    split at h5
    · exact h5.elim
    · rename_i hz;exact z340 h1 h2 h3 h4 (by rw [hz];simp) h5
  case indexAddr => obtain ⟨i, e, ei, h1, h2, h3, h4⟩ := z123 hT h;exact z339 h1 h2 h3 h4
  case makeSlice => obtain ⟨i, e, ei, h1, h2, h3, h4⟩ := z123 hT h;exact z338 h1 h2 h3 h4
  case binOp =>
    split at h
    · exact z617 h
    · exact z618 hT h
  case build => obtain ⟨i, h1, h2⟩ := z140 hT h;exact z535 hT h1 h2
  case buildSlice => obtain ⟨i, e, ei, h1, h2, h3, h4⟩ := z123 hT h;exact z314 h1 h2 h3 h4
  case slice => obtain ⟨i, e, ei, h1, h2, h3, h4⟩ := z123 hT h;exact z533 h1 h2 h3 h4
  case convert => obtain ⟨i, h1, h2⟩ := z140 hT h;exact z615 hT h1 h2
  case makeFunc => rw [z685, z685] at h;exact z387 h
  case nilCheck => exact z666 h
  case unOp => exact sound_un h
  case extract => exact z422 h
  case call c =>
    obtain ⟨callee, args, ts⟩ := c
    split at h
    · rename_i hc
      obtain rfl : callee = .builtin .len := hc
      unfold z454 at h
      split at h
      · rename_i x t hx ht
        obtain rfl : args = #[x] := Array.toList_inj.1 (by simpa using hx)
        obtain rfl : ts = #[t] := Array.toList_inj.1 (by simpa using ht)
        exact z667 hT h
      · exact h.elim
    · rename_i hc
      obtain rfl : callee = .builtin .append := hc
      unfold z456 at h
      split at h
      · rename_i s x t t' hx ht
        obtain rfl : args = #[s, x] := Array.toList_inj.1 (by simpa using hx)
        obtain rfl : ts = #[t, t'] := Array.toList_inj.1 (by simpa using ht)
        split at h
        · rename_i hb
          have he := Nat.eq_of_beq_eq_true hb
          obtain ⟨i, e, ei, h1, h2, h3, h4⟩ := z123 hT h
          rw [← he]
          exact z470 h1 h2 h3 h4
        · obtain ⟨i, e, ei, h1, h2, h3, h4⟩ := z123 hT h
          exact z423 hT h1 h2 h3 h4
      · exact h.elim
    · rename_i hc
      obtain rfl : callee = .builtin .cap := hc
      unfold z455 at h
      split at h
      · rename_i x t hx ht
        obtain rfl : args = #[x] := Array.toList_inj.1 (by simpa using hx)
        obtain rfl : ts = #[t] := Array.toList_inj.1 (by simpa using ht)
        exact z668 hT h
      · exact h.elim
    · rename_i f hc
      obtain rfl : callee = .value f := hc
      exact z616 h
    · exact h.elim
  all_goals exact h.elim
@[reducible] def AC.gone : AC := .raw (.tuple #[])
def z334 (b want : Bool) (A B : Prop) : Prop := match b, want with
  | true, true => A
  | false, false => A
  | _, _ => B
def z641 (o : Oper) (n : Nat) : Bool := match o.dst with
  | some d => Nat.blt d n
  | none => true
def z397 (ops : Array Oper) (j : Nat) : Option Nat := match ops[j]? with
  | some o => o.dst
  | none => none
def z120 : List (Nat × AC) → Nat → AC
  | [], _ => .any
  | (k, x) :: rest, s => cond (Nat.beq s k) x (z120 rest s)
def mkSt (n : Nat) (env : List (Nat × AC)) (objs : List AObj) : St := { env := z120 env, objs := z86 objs, next := objs.length, n := n }
def forceO (x : AObj) (K : AObj → Prop) : Prop := match x with
  | .fresh => K .fresh
  | .dead => K .dead
  | .cells w es => K (.cells w es)
theorem z702 {x : AObj} {K : AObj → Prop} : forceO x K = K x := by cases x <;> rfl
def setK (l : List AObj) (o : Nat) (x : AObj) (K : List AObj → Prop) : Prop := match l, o with
  | [], 0 => K [x]
  | [], _ + 1 => False
  | _ :: l, 0 => K (x :: l)
  | y :: l, o + 1 => setK l o x fun r => K (y :: r)
theorem z673 {l : List AObj} {o : Nat} {x : AObj} {K : List AObj → Prop} (h : setK l o x K) : ∃ l', K l' ∧ z86 l' = upd (z86 l) o x := by
  induction l generalizing o K with
  | nil =>
    cases o with
    | zero =>
      refine ⟨_, h, funext fun j => ?_⟩
      cases j with
      | zero => rw [z90];rfl
      | succ j => rw [z114 _ _ (by omega)];rfl
    | succ o => exact h.elim
  | cons y l ih =>
    cases o with
    | zero =>
      refine ⟨_, h, funext fun j => ?_⟩
      cases j with
      | zero => rw [z90];rfl
      | succ j => rw [z114 _ _ (by omega)];rfl
    | succ o =>
      obtain ⟨l', h1, h2⟩ := ih h
      refine ⟨_, h1, funext fun j => ?_⟩
      cases j with
      | zero => rw [z114 _ _ (by omega)];rfl
      | succ j =>
        have := congrFun h2 j
        show z86 l' j = _
        rw [this]
        by_cases hj : j = o
        · subst hj;rw [z90, z90]
        · rw [z114 _ _ hj, z114 _ _ (by omega)];rfl
def z372 (objs : List AObj) (fp : List Ch) (K : List AObj → Prop) : Prop := match fp with
  | [] => K objs
  | c :: rest => match c with
    | ⟨o, _, x⟩ => forceO x fun x' => setK objs o x' fun objs' => z372 objs' rest K
theorem z220 {objs : List AObj} {fp : List Ch} {K : List AObj → Prop} (h : z372 objs fp K) : ∃ l', K l' ∧ z86 l' = z103 (z86 objs) fp := by
  induction fp generalizing objs with
  | nil => exact ⟨objs, h, rfl⟩
  | cons c rest ih =>
    obtain ⟨o, pre, x⟩ := c
    simp only [z372, z702] at h
    obtain ⟨l1, h1, h2⟩ := z673 h
    obtain ⟨l2, h3, h4⟩ := ih h1
    exact ⟨l2, h3, by rw [h4, h2];rfl⟩
def z235 (dst : Option Nat) (x : AC) (env : List (Nat × AC)) (K : List (Nat × AC) → Prop) : Prop := match dst with
  | some d => K ((d, x) :: env)
  | none => K env
abbrev LK := List (Nat × AC) → List AObj → Prop
def z484 (dst : Option Nat) (env : List (Nat × AC)) (objs : List AObj) (res : AC) (fp : List Ch) (K : LK) : Prop :=
  z279 res fun r => z372 objs fp fun objs' => z235 dst r env fun env' => K env' objs'
theorem z246 (d : Nat) (x : AC) (env : List (Nat × AC)) : z120 ((d, x) :: env) = upd (z120 env) d x := funext fun j => rfl
theorem z403 {dst : Option Nat} {n : Nat} {env : List (Nat × AC)} {objs : List AObj} {res : AC} {fp : List Ch} {K : LK} (h : z484 dst env objs res fp K) :
    ∃ env' objs', K env' objs' ∧ (mkSt n env' objs').env = ((mkSt n env objs).app dst res fp).env ∧ (mkSt n env' objs').objs = ((mkSt n env objs).app dst res fp).objs := by
  simp only [z484, z125] at h
  obtain ⟨objs', h1, h2⟩ := z220 h
  cases dst with
  | none => exact ⟨env, objs', h1, rfl, h2⟩
  | some d => exact ⟨_, objs', h1, z246 d res env, h2⟩
theorem Rel.same {G : Ghost} {st st' : St} {a : Act} {w : World} (hR : Rel G st a w) (h1 : st'.env = st.env) (h2 : st'.objs = st.objs) (h3 : st'.n = st.n) : Rel G st' a w :=
  ⟨by rw [h2];exact hR.wf, by rw [h1];exact hR.env, by rw [h3];exact hR.size, hR.defers⟩
def z384 (T : Tab) (P : Program) (ops : Array Oper) (n : Nat) (env : List (Nat × AC)) (objs : List AObj) (l : List Oper) (K : LK) : Prop := match l with
  | [] => K env objs
  | o :: rest => z99 (z641 o n) (match o.guard with
    | none => vcOp T P (mkSt n env objs) o.op fun res fp => z484 o.dst env objs res fp fun env objs => z384 T P ops n env objs rest K
    | some (j, want) => match z397 ops j with
      | some d => z99 (Nat.blt d n) (match z120 env d with
        | .raw (.bool b) => vcG b fun b => z334 b want (vcOp T P (mkSt n ((d, .raw (.bool b)) :: env) objs) o.op fun res fp => z484 o.dst ((d, .raw (.bool b)) :: env) objs res fp fun env objs => z384 T P ops n env objs rest K)
            (z235 o.dst .gone ((d, .raw (.bool b)) :: env) fun env => z384 T P ops n env objs rest K)
        | .raw (.tuple _) => z235 o.dst .gone env fun env => z384 T P ops n env objs rest K
        | _ => False)
      | none => False)
theorem z266 {b want : Bool} {A B : Prop} (h : z334 b want A B) : (b = want ∧ A) ∨ (b ≠ want ∧ B) := by
  cases b <;> cases want <;> simp_all [z334]
def SubM (m : Nat) (G G' : Ghost) : Prop := G.Sub G' ∧ ∀ o t, o < m → G.ι o = some t → G'.ι o = some t
theorem SubM.refl (m : Nat) (G : Ghost) : SubM m G G := ⟨Ghost.Sub.refl G, fun _ _ _ h => h⟩
theorem SubM.trans {m : Nat} {a b c : Ghost} (h : SubM m a b) (k : SubM m b c) : SubM m a c := ⟨h.1.trans k.1, fun o t ho e => k.2 o t ho (h.2 o t ho e)⟩
def PostA (m : Nat) (G : Ghost) (w : World) (Q : Exit → St → Prop) (ex : Exit) (a' : Act) (w' : World) : Prop :=
  ∃ G' st', SubM m G G' ∧ Le w w' ∧ Q ex st' ∧ Rel G' st' a' w'
def AWP (P : Program) (m : Nat) (c : Code) (Q : Exit → St → Prop) (st : St) : Prop :=
  ∀ G a w, Rel G st a w → c.wp P (PostA m G w Q) a w
theorem PostA.trans {m : Nat} {G G1 : Ghost} {w w1 : World} {Q : Exit → St → Prop} (hs : SubM m G G1) (hl : Le w w1) {ex : Exit} {a' : Act} {w' : World} (h : PostA m G1 w1 Q ex a' w') : PostA m G w Q ex a' w' := by
  obtain ⟨G', st', h1, h2, h3, h4⟩ := h
  exact ⟨G', st', hs.trans h1, hl.trans h2, h3, h4⟩
theorem z451 {ops : Array Oper} {st : St} {G : Ghost} {a : Act} {w : World} (hR : Rel G st a w) {o : Oper} {j d : Nat} {want b : Bool} (hg : o.guard = some (j, want)) (hd : z397 ops j = some d) (hn : d < st.n)
    (hb : st.env d = .raw (.bool b)) : Region.wanted o (yielded ops a.tmps) = (b == want) := by
  have h1 := hR.env d
  rw [hb, z134] at h1
  have h2 : (ops[j]?).bind (·.dst) = some d := by
    unfold z397 at hd
    split at hd
    · rename_i o' ho';rw [ho'];exact hd
    · cases hd
  have h3 : a.tmps[d]? = some (.bool b) := by
    have hlt : d < a.tmps.size := by rw [hR.size];exact hn
    rw [Array.getD_eq_getD_getElem?, Array.getElem?_eq_getElem hlt] at h1
    rw [Array.getElem?_eq_getElem hlt]
    exact congrArg some h1
  simp only [Region.wanted, hg, yielded, h2, Option.bind_some, h3]
  cases b <;> cases want <;> rfl
theorem z333 {ops : Array Oper} {st : St} {G : Ghost} {a : Act} {w : World} (hR : Rel G st a w) {o : Oper} {j d : Nat} {want : Bool} {t : Array Value} (hg : o.guard = some (j, want)) (hd : z397 ops j = some d) (hn : d < st.n)
    (hb : st.env d = .raw (.tuple t)) : Region.wanted o (yielded ops a.tmps) = false := by
  have h1 := hR.env d
  rw [hb, z134] at h1
  have h2 : (ops[j]?).bind (·.dst) = some d := by
    unfold z397 at hd
    split at hd
    · rename_i o' ho';rw [ho'];exact hd
    · cases hd
  have h3 : a.tmps[d]? = some (.tuple t) := by
    have hlt : d < a.tmps.size := by rw [hR.size];exact hn
    rw [Array.getD_eq_getD_getElem?, Array.getElem?_eq_getElem hlt] at h1
    rw [Array.getElem?_eq_getElem hlt]
    exact congrArg some h1
  simp only [Region.wanted, hg, yielded, h2, Option.bind_some, h3]
  rfl
theorem skip_rel {st : St} {G : Ghost} {a : Act} {w : World} (hR : Rel G st a w) {o : Oper} (hd : z641 o st.n = true) : Rel G (st.app o.dst .gone []) (a.put o.dst undef) w :=
  hR.pure (fun d h => by simpa [z641, h, Nat.blt_eq] using hd) (by simp [V, undef]) (by simp)
theorem z300 {o : Oper} {st : St} (hd : z641 o st.n = true) : ∀ d, o.dst = some d → d < st.n := fun d h => by simpa [z641, h, Nat.blt_eq] using hd
theorem z599 {env : List (Nat × AC)} {d : Nat} {x : AC} (h : z120 env d = x) : z120 ((d, x) :: env) = z120 env := by
  rw [z246, ← h, z582]
theorem z665 (hT : z135 P T) {ops : Array Oper} {Q : Exit → Act → World → Prop} {n : Nat} : ∀ (l : List Oper) (env : List (Nat × AC)) (objs : List AObj) (K : LK), z384 T P ops n env objs l K → ∀ (m : Nat) (G : Ghost) (a : Act) (w : World), Rel G (mkSt n env objs) a w →
    (∀ G' env' objs' a' w', SubM m G G' → Le w w' → K env' objs' → Rel G' (mkSt n env' objs') a' w' → Q .normal a' w') → wpList P ops Q l a w := by
  intro l
  induction l with
  | nil => intro env objs K h m G a w hR hQ;exact wpList_nil (hQ G env objs a w (SubM.refl m G) (Le.refl w) h hR)
  | cons o rest ih =>
    intro env objs K h m G a w hR hQ
    simp only [z384] at h
    obtain ⟨hd, h⟩ := z83 h
    have run : ∀ env, Rel G (mkSt n env objs) a w → (vcOp T P (mkSt n env objs) o.op fun res fp => z484 o.dst env objs res fp fun env objs => z384 T P ops n env objs rest K) → o.wp P a w (wpList P ops Q rest) Q := by
      intro env hR hv
      obtain ⟨res, fp, hO, hfp, hk⟩ := z586 hT hv
      obtain ⟨env', objs', h1, h2, h3⟩ := z403 (n := n) hk
      refine hO.run Q _ G (mkSt n env objs) a w hR (fun p hp => ?_) (fun c hc => (hfp c hc).1) (z300 hd) fun G' a' w' hs hι hl hR' => ?_
      · simp only [St.reads, List.mem_map] at hp
        obtain ⟨t, _, rfl⟩ := hp;rfl
      · exact ih _ _ K h1 m G' a' w' (hR'.same h2 h3 rfl) fun G'' env'' objs'' a'' w'' hs' hl' hK hR'' => hQ G'' env'' objs'' a'' w'' (SubM.trans ⟨hs, fun o t _ e => hι o t e⟩ hs') (hl.trans hl') hK hR''
    have skip : ∀ env, Rel G (mkSt n env objs) a w → (z235 o.dst .gone env fun env => z384 T P ops n env objs rest K) → wpList P ops Q rest (a.put o.dst undef) w := fun env hR hv => by
      have hs := skip_rel hR hd
      cases hdst : o.dst with
      | none => rw [hdst] at hv hs;exact ih _ _ K hv m G _ w (hs.same rfl rfl rfl) hQ
      | some d => rw [hdst] at hv hs;exact ih _ _ K hv m G _ w (hs.same (z246 d .gone env) rfl rfl) hQ
    unfold wpList
    split at h
    · rename_i hg
      rw [if_pos (by simp [Region.wanted, hg])]
      exact .inl (run env hR h)
    · rename_i j want hg
      split at h
      · rename_i d hdj
        obtain ⟨hn, h⟩ := z83 h
        split at h
        · rename_i b hb
          have hw := z451 hR hg hdj (by show d < n;simpa [Nat.blt_eq] using hn) hb
          have hR' : Rel G (mkSt n ((d, .raw (.bool b)) :: env) objs) a w := hR.same (z599 hb) rfl rfl
          rw [hw]
          rcases z266 (z417 h) with ⟨rfl, hv⟩|⟨hne, hv⟩
          · simp;exact .inl (run _ hR' hv)
          · rw [if_neg (by simpa using hne)];exact skip _ hR' hv
        · rename_i t hb
          have hw := z333 hR hg hdj (by show d < n;simpa [Nat.blt_eq] using hn) hb
          rw [if_neg (by rw [hw];simp)]
          exact skip _ hR h
        · exact h.elim
      · exact h.elim
theorem z646 (hT : z135 P T) {m id n : Nat} {ops : Array Oper} {Q : Exit → St → Prop} {env : List (Nat × AC)} {objs : List AObj} (h : z384 T P ops n env objs ops.toList fun env objs => Q .normal (mkSt n env objs)) : AWP P m (.region id ops false) Q (mkSt n env objs) := fun G a w hR =>
  wp_region_list (z665 hT _ env objs _ h m G a w hR fun G' env' objs' _ _ hs hl hK hR' => ⟨G', _, hs, hl, hK, hR'⟩)
def z460 (Q1 : St → Prop) (Q : Exit → St → Prop) : Exit → St → Prop
  | .normal, st => Q1 st
  | ex, st => Q ex st
theorem z718 {m : Nat} {x y : Code} {Q : Exit → St → Prop} {st : St} (h : AWP P m x (z460 (AWP P m y Q) Q) st) : AWP P m (.seq x y) Q st := fun G a w hR =>
  wp_seq (wp_mono (h G a w hR) fun ex a' w' ⟨G', st', h1, h2, h3, h4⟩ => by
    cases ex with
    | normal => exact wp_mono (h3 G' a' w' h4) fun ex' a'' w'' hq => hq.trans h1 h2
    | _ => exact ⟨G', st', h1, h2, h3, h4⟩)
theorem awp_skip {m : Nat} {Q : Exit → St → Prop} {st : St} (h : Q .normal st) : AWP P m .skip Q st := fun G _ w hR => wp_skip ⟨G, st, SubM.refl m G, Le.refl w, h, hR⟩
theorem awp_ret {m : Nat} {Q : Exit → St → Prop} {st : St} (h : Q .ret st) : AWP P m .ret Q st := fun G _ w hR => wp_ret ⟨G, st, SubM.refl m G, Le.refl w, h, hR⟩
theorem awp_exit {m id : Nat} {Q : Exit → St → Prop} {st : St} (h : Q (.exit id) st) : AWP P m (.exit id) Q st := fun G _ w hR => wp_exit ⟨G, st, SubM.refl m G, Le.refl w, h, hR⟩
def z715 (id : Nat) (Q : Exit → St → Prop) : Exit → St → Prop
  | .exit i, st => match Nat.beq i id with
    | true => Q .normal st
    | false => Q (.exit i) st
  | ex, st => Q ex st
theorem z720 {m id : Nat} {c : Code} {Q : Exit → St → Prop} {st : St} (h : AWP P m c (z715 id Q) st) : AWP P m (.block id c) Q st := fun G a w hR =>
  wp_block (wp_mono (h G a w hR) fun ex a' w' ⟨G', st', h1, h2, h3, h4⟩ => by
    cases ex with
    | exit i =>
      simp only [z715] at h3
      simp only [Exit.inBlock]
      split at h3
      · rename_i hb;rw [if_pos (Nat.eq_of_beq_eq_true hb)];exact ⟨G', st', h1, h2, h3, h4⟩
      · rename_i hb
        rw [if_neg (by rintro rfl;rw [Nat.beq_refl] at hb;cases hb)];exact ⟨G', st', h1, h2, h3, h4⟩
    | _ => exact ⟨G', st', h1, h2, h3, h4⟩)
def vcIf (b : Bool) (A B : Prop) : Prop := match b with
  | true => A
  | false => B
theorem z24 {b : Bool} {A B : Prop} (h1 : b = true → A) (h2 : b = false → B) : vcIf b A B := by
  cases b
  · exact h2 rfl
  · exact h1 rfl
theorem z16 {p : Prop} [Decidable p] {A B : Prop} (h1 : p → A) (h2 : ¬ p → B) : vcIf (decide p) A B := by
  by_cases h : p
  · rw [decide_eq_true h];exact h1 h
  · rw [decide_eq_false h];exact h2 h
theorem awp_cond {m : Nat} {c : Operand} {x y : Code} {Q : Exit → St → Prop} {st : St} {b : Bool} (hc : st.ev c = .raw (.bool b)) (h : vcIf b (AWP P m x Q st) (AWP P m y Q st)) : AWP P m (.cond c x y) Q st := fun G a w hR => by
  have h1 := hR.ev c
  rw [hc, z134] at h1
  cases b with
  | true => exact wp_cond_true h1 (h G a w hR)
  | false => exact wp_cond_false h1 (h G a w hR)
def vc1 (T : Tab) (P : Program) (m : Nat) (c : Code) (n : Nat) (env : List (Nat × AC)) (objs : List AObj) (Q : Exit → St → Prop) : Prop := match c with
  | .region _ ops false => z384 T P ops n env objs ops.toList fun env objs => Q .normal (mkSt n env objs)
  | .seq a b => vc1 T P m a n env objs (z460 (AWP P m b Q) Q)
  | .cond c x y => match (mkSt n env objs).ev c with
    | .raw (.bool b) => vcIf b (AWP P m x Q (mkSt n env objs)) (AWP P m y Q (mkSt n env objs))
    | _ => False
  | .block id c => AWP P m c (z715 id Q) (mkSt n env objs)
  | .skip => Q .normal (mkSt n env objs)
  | .ret => Q .ret (mkSt n env objs)
  | .exit id => Q (.exit id) (mkSt n env objs)
  | c => AWP P m c Q (mkSt n env objs)
theorem AWP.step (hT : z135 P T) {m : Nat} (c : Code) (n : Nat) (env : List (Nat × AC)) (objs : List AObj) (Q : Exit → St → Prop) (h : vc1 T P m c n env objs Q) : AWP P m c Q (mkSt n env objs) := by
  induction c generalizing Q with
  | region id ops draw => cases draw with
    | true => exact h
    | false => exact z646 hT h
  | seq a b iha _ => exact z718 (iha _ h)
  | cond c x y =>
    simp only [vc1] at h
    split at h
    · rename_i b hb;exact awp_cond hb h
    · exact h.elim
  | block id c => exact z720 h
  | skip => exact awp_skip h
  | ret => exact awp_ret h
  | exit id => exact awp_exit h
  | _ => exact h
end Go.Gl

namespace Go.Gl
variable {P : Program} {T : Tab}
def Ghost.pick (G : Ghost) (π : List Nat) : Ghost where
  S := G.S
  U := G.U
  ι i := match π[i]? with
    | some o => G.ι o
    | none => none
  κ b := match G.κ b with
    | some (o, p) => match idx π o with
      | some i => some (i, p)
      | none => none
    | none => none
def z144 (M : Nat) : AObj → Prop
  | .cells _ es => ∀ e ∈ es, z131 M e = true
  | .fresh => True
  | .dead => True
structure Picks (π : List Nat) (st st' : St) : Prop where
  nodup : π.Nodup
  env : ∀ s, st'.env s = .any ∨ ((st'.env s).under π.length = true ∧ st.env s = (st'.env s).ren (z92 0 π))
  obj : ∀ i o, π[i]? = some o → st.objs o = z132 (z92 0 π) (st'.objs i) ∧ z144 π.length (st'.objs i)
  other : ∀ i, π.length ≤ i → st'.objs i = .fresh
  n : st'.n = st.n
theorem pick_V {G : Ghost} {π : List Nat} (hn : π.Nodup) {h : Nat → Option Obj} (x : AC) {l : Loc} {v : Value} {i o : Nat} (hio : π[i]? = some o) (hl : ∀ p, l = some p → p.1 = o) (hu : x.under π.length = true) (hv : V G h l (x.ren (z92 0 π)) v) :
    V (G.pick π) h (l.map fun p => (i, p.2)) x v := by
  have := z577 x π.length (z92 0 π) G (G.pick π) h h (fun p => (i, p.2)) (fun p => p.1 = o) (fun _ _ e => e) (fun j t hj e => by
    have hj' : π[j]? = some π[j] := List.getElem?_eq_getElem hj
    rw [z98 hj'] at e
    simp only [Ghost.pick, hj', e]) (fun _ _ _ => rfl) (fun _ _ _ h => h) (fun b p hp hk => ⟨by
      have hk' : G.κ b = some (o, p.2) := by rw [← hp];exact hk
      simp only [Ghost.pick, hk', z187 hn hio], rfl⟩) l v hl hu hv
  exact this
theorem z547 {G : Ghost} {π : List Nat} {h : Nat → Option Obj} (x : AC) {v : Value} (hu : x.under π.length = true) (hv : V G h none (x.ren (z92 0 π)) v) : V (G.pick π) h none x v := by
  have := z577 x π.length (z92 0 π) G (G.pick π) h h id (fun _ => False) (fun _ _ e => e) (fun j t hj e => by
    have hj' : π[j]? = some π[j] := List.getElem?_eq_getElem hj
    rw [z98 hj'] at e
    simp only [Ghost.pick, hj', e]) (fun _ _ _ => rfl) (fun _ _ _ h => h) (fun b p hp hk => hp.elim) none v (by simp) hu hv
  exact this
theorem Wf.pick {G : Ghost} {objs objs' : Nat → AObj} {w : World} {π : List Nat} (hW : Wf G objs w) (hn : π.Nodup)
    (obj : ∀ i o, π[i]? = some o → objs o = z132 (z92 0 π) (objs' i) ∧ z144 π.length (objs' i)) (other : ∀ i, π.length ≤ i → objs' i = .fresh) : Wf (G.pick π) objs' w where
  hS := hW.hS
  hU := hW.hU
  su := hW.su
  sk b p h := by
    cases hk : G.κ b with
    | none => simp [Ghost.pick, hk] at h
    | some q => exact hW.sk b q hk
  objs i := by
    by_cases hi : i < π.length
    · have hpi : π[i]? = some π[i] := List.getElem?_eq_getElem hi
      obtain ⟨h1, h2⟩ := obj i _ hpi
      have ho := hW.objs π[i]
      rw [h1] at ho
      have hιe : (G.pick π).ι i = G.ι π[i] := by simp only [Ghost.pick, hpi]
      cases hob : objs' i with
      | fresh => rw [hob] at ho;simp only [ObjRel, hιe];exact ho
      | dead => trivial
      | cells wd es =>
        rw [hob] at ho h2
        rcases ho with ⟨h3, h4⟩|⟨b, size, c, el, h3, h4, h5, h6, h7⟩
        · exact .inl ⟨by simpa using h3, by rw [hιe];exact h4⟩
        · refine .inr ⟨b, size, c, el, by rw [hιe];exact h3, by simp only [Ghost.pick, h4, z187 hn hpi], h5, h6, ?_⟩
          rw [z97] at h7 ⊢
          intro k e he
          obtain ⟨h8, h9⟩ := h7 k (renL (z92 0 π) e) (by simp [he])
          refine ⟨by rw [z149] at h8;simpa using h8, ?_⟩
          rw [z89] at h9 ⊢
          intro j x hx
          obtain ⟨v, hv1, hv2⟩ := h9 j (x.ren (z92 0 π)) (by rw [z149];simp [hx])
          refine ⟨v, hv1, ?_⟩
          have := pick_V hn x hpi (l := Loc.cell (some (π[i], [])) (0 + k * wd + j)) (by intro p hp;simp [Loc.cell] at hp;rw [← hp]) (z288.1 (h2 e (List.mem_of_getElem? he)) x (List.mem_of_getElem? hx)) hv2
          simpa [Loc.cell] using this
    · rw [other i (by omega)]
      have : π[i]? = none := List.getElem?_eq_none (by omega)
      simp only [ObjRel, Ghost.pick, this]
theorem Rel.pick {G : Ghost} {st st' : St} {a : Act} {w : World} {π : List Nat} (hR : Rel G st a w) (hp : Picks π st st') : Rel (G.pick π) st' a w where
  wf := hR.wf.pick hp.nodup hp.obj hp.other
  env s := by
    rcases hp.env s with h|⟨h1, h2⟩
    · rw [h];simp [V]
    · have := hR.env s
      rw [h2] at this
      exact z547 _ h1 this
  size := by rw [hp.n];exact hR.size
  defers := hR.defers
theorem SubM.pick {G : Ghost} {m : Nat} {π : List Nat} (h : ∀ i, i < m → π[i]? = some i) : SubM m G (G.pick π) :=
  ⟨⟨fun _ _ e => e, rfl⟩, fun o t ho e => by simp only [Ghost.pick, h o ho, e]⟩
def PickOk (m : Nat) (st st' : St) : Prop := ∃ π, (∀ i, i < m → π[i]? = some i) ∧ Picks π st st'
theorem AWP.pick {m : Nat} {c : Code} {Q : Exit → St → Prop} {st st' : St} (hp : PickOk m st st') (h : AWP P m c Q st') : AWP P m c Q st := fun G a w hR => by
  obtain ⟨π, h1, h2⟩ := hp
  exact wp_mono (h _ a w (hR.pick h2)) fun ex a' w' hq => hq.trans (SubM.pick h1) (Le.refl w)
def z600 (p : Nat → AC → Prop) : List (Nat × AC) → Prop
  | [] => True
  | (k, x) :: rest => p k x ∧ z600 p rest
theorem z366 (env : List (Nat × AC)) (p : Nat → AC → Prop) (h : z600 p env) (s : Nat) : z120 env s = .any ∨ p s (z120 env s) := by
  induction env with
  | nil => exact .inl rfl
  | cons kx rest ih =>
    obtain ⟨k, x⟩ := kx
    simp only [z120]
    cases hb : Nat.beq s k with
    | true => rw [Nat.eq_of_beq_eq_true hb];exact .inr h.1
    | false => exact ih h.2
def z351 (p : Nat → AObj → Prop) : Nat → List Nat → List AObj → Prop
  | _, [], [] => True
  | i, o :: os, x :: xs => p o x ∧ z351 p (i + 1) os xs
  | _, _, _ => False
theorem z229 {p : Nat → AObj → Prop} : ∀ (j : Nat) (os : List Nat) (xs : List AObj), z351 p j os xs → os.length = xs.length ∧ ∀ i o, os[i]? = some o → p o (z86 xs i) := by
  intro j os
  induction os generalizing j with
  | nil => intro xs h;cases xs with
    | nil => exact ⟨rfl, fun i o h => by simp at h⟩
    | cons x xs => exact h.elim
  | cons o os ih => intro xs h;cases xs with
    | nil => exact h.elim
    | cons x xs =>
      obtain ⟨h1, h2⟩ := ih (j + 1) xs h.2
      refine ⟨by simp [h1], fun i o' ho => ?_⟩
      cases i with
      | zero => simp at ho;subst ho;exact h.1
      | succ i => exact h2 i o' (by simpa using ho)
def z216 : Nat → Nat → List Nat → Bool
  | 0, _, _ => true
  | m + 1, i, o :: os => match Nat.beq o i with
    | true => z216 m (i + 1) os
    | false => false
  | _ + 1, _, [] => false
theorem z142 : ∀ (m i : Nat) (os : List Nat), z216 m i os = true → ∀ j, j < m → os[j]? = some (i + j) := by
  intro m
  induction m with
  | zero => intro i os _ j hj;omega
  | succ m ih =>
    intro i os h j hj
    cases os with
    | nil => simp [z216] at h
    | cons o os =>
      simp only [z216] at h
      split at h
      · rename_i hb
        cases j with
        | zero => simp [Nat.eq_of_beq_eq_true hb]
        | succ j =>
          have := ih (i + 1) os h j (by omega)
          simp only [List.getElem?_cons_succ, this]
          congr 1;omega
      · cases h
structure PickL (π : List Nat) (m n : Nat) (st : St) (env : List (Nat × AC)) (objs : List AObj) : Prop where
  n : st.n = n
  nodup : π.Nodup
  fix : z216 m 0 π = true
  env : z600 (fun s x => x.under π.length = true ∧ st.env s = x.ren (z92 0 π)) env
  obj : z351 (fun o x => z144 π.length x ∧ st.objs o = z132 (z92 0 π) x) 0 π objs
theorem PickL.ok {π : List Nat} {m n : Nat} {st : St} {env : List (Nat × AC)} {objs : List AObj} (h : PickL π m n st env objs) : PickOk m st (mkSt n env objs) := by
  obtain ⟨h1, h2⟩ := z229 0 π objs h.obj
  refine ⟨π, fun i hi => by have := z142 m 0 π h.fix i hi;simpa using this, h.nodup, fun s => z366 env _ h.env s, fun i o hio => ⟨(h2 i o hio).2, (h2 i o hio).1⟩, fun i hi => z110 (by omega), h.n.symm⟩
theorem least (p : Nat → Prop) (h : ∃ n, p n) : ∃ n, p n ∧ ∀ m, p m → n ≤ m := by
  obtain ⟨n, hn⟩ := h
  induction n using Nat.strongRecOn with
  | _ n ih =>
    by_cases hm : ∃ m, m < n ∧ p m
    · obtain ⟨m, h1, h2⟩ := hm;exact ih m h1 h2
    · exact ⟨n, hn, fun m hp => Nat.le_of_not_lt fun hlt => hm ⟨m, hlt, hp⟩⟩
open Classical in
noncomputable def z355 (p : Nat → Prop) : Nat := if h : ∃ n, p n then Classical.choose (least p h) else 0
theorem z180 {p : Nat → Prop} {n : Nat} (h : p n) : p (z355 p) ∧ z355 p ≤ n := by
  have he : ∃ n, p n := ⟨n, h⟩
  unfold z355
  rw [dif_pos he]
  have := Classical.choose_spec (least p he)
  exact ⟨this.1, this.2 n h⟩
theorem awp_loop' {α : Type} {m : Nat} {body : Code} {Q : Exit → St → Prop} {st : St} (I : α → List (Nat × AC) × List AObj) (ok : α → Prop) (μ : α → Nat) (x0 : α) (h0 : ok x0) (hinit : ∃ π, PickL π m st.n st (I x0).1 (I x0).2)
    (round : ∀ x, ok x → AWP P m body (z460 (fun st' => ∃ y π, ok y ∧ μ y < μ x ∧ PickL π m st.n st' (I y).1 (I y).2) Q) (mkSt st.n (I x).1 (I x).2)) : AWP P m (.loop body) Q st := fun G a w hR => by
  let J : Act → World → Nat → Prop := fun a' w' k => ∃ x, ok x ∧ μ x = k ∧ ∃ G', SubM m G G' ∧ Le w w' ∧ Rel G' (mkSt st.n (I x).1 (I x).2) a' w'
  refine wp_loop (fun a' w' => ∃ k, J a' w' k) (fun a' w' => z355 (J a' w')) ?_ ?_
  · obtain ⟨π, hp⟩ := hinit
    obtain ⟨π', h1, h2⟩ := hp.ok
    exact ⟨_, x0, h0, rfl, G.pick π', SubM.pick h1, Le.refl w, hR.pick h2⟩
  · rintro a' w' ⟨k, hk⟩
    obtain ⟨⟨x, hx, hμ, G', hs, hl, hR'⟩, _⟩ := z180 hk
    refine wp_mono (round x hx G' a' w' hR') fun ex a'' w'' hq => ?_
    cases ex with
    | normal =>
      obtain ⟨G'', st'', h1, h2, ⟨y, π, hy, hlt, hp⟩, h4⟩ := hq
      obtain ⟨π', h5, h6⟩ := hp.ok
      have hR'' := h4.pick h6
      have hJ' : J a'' w'' (μ y) := ⟨y, hy, rfl, _, (hs.trans h1).trans (SubM.pick h5), hl.trans h2, hR''⟩
      refine ⟨⟨_, hJ'⟩, ?_⟩
      have := (z180 hJ').2
      omega
    | _ => exact hq.trans hs hl
theorem z447 {α : Type} {m n : Nat} {env : List (Nat × AC)} {objs : List AObj} {body : Code} {Q : Exit → St → Prop} (I : α → List (Nat × AC) × List AObj) (ok : α → Prop) (μ : α → Nat) (x0 : α) (h0 : ok x0) (hinit : ∃ π, PickL π m n (mkSt n env objs) (I x0).1 (I x0).2)
    (round : ∀ x, ok x → AWP P m body (z460 (fun st' => ∃ y π, ok y ∧ μ y < μ x ∧ PickL π m n st' (I y).1 (I y).2) Q) (mkSt n (I x).1 (I x).2)) : AWP P m (.loop body) Q (mkSt n env objs) :=
  awp_loop' I ok μ x0 h0 hinit round
def AC.flat (x : AC) : Bool := match x with
  | .sref .. => false
  | .ptr .. => false
  | .fn .. => false
  | .agg _ => false
  | .tup _ => false
  | _ => true
def z251 : List AC → Bool
  | [] => true
  | x :: xs => match x.flat with
    | true => z251 xs
    | false => false
theorem z203 {xs : List AC} : z251 xs = true ↔ ∀ x ∈ xs, x.flat = true := by
  induction xs with
  | nil => simp [z251]
  | cons x xs ih =>
    simp only [z251]
    cases h : x.flat <;> simp [ih, h]
def Flat (es : List (List AC)) : Prop := ∀ e ∈ es, z251 e = true
theorem z10 : Flat [] := by simp [Flat]
theorem z41 {e : List AC} {es : List (List AC)} (h : z251 e = true) (k : Flat es) : Flat (e :: es) := by
  intro x hx
  rcases List.mem_cons.1 hx with rfl|hx
  · exact h
  · exact k x hx
theorem z7 {a b : List (List AC)} (h : Flat a) (k : Flat b) : Flat (a ++ b) := by
  intro x hx
  rcases List.mem_append.1 hx with hx|hx
  · exact h x hx
  · exact k x hx
theorem z4 {α : Type} {f : α → List AC} {l : List α} (h : ∀ a, z251 (f a) = true) : Flat (l.map f) := by
  intro x hx
  obtain ⟨a, _, rfl⟩ := List.mem_map.1 hx
  exact h a
theorem z5 {n : Nat} {e : List AC} (h : z251 e = true) : Flat (List.replicate n e) := by
  intro x hx
  rw [(List.mem_replicate.1 hx).2];exact h
theorem flat_ren {x : AC} (h : x.flat = true) (r : Nat → Nat) : x.ren r = x := by
  cases x <;> first|rfl|simp [AC.flat] at h
theorem z638 {x : AC} (h : x.flat = true) (M : Nat) : x.under M = true := by
  cases x <;> first|rfl|simp [AC.flat] at h
theorem z704 {xs : List AC} (h : z251 xs = true) (r : Nat → Nat) : renL r xs = xs := by
  rw [z149]
  conv => rhs;rw [← List.map_id xs]
  exact List.map_congr_left fun x hx => flat_ren (z203.1 h x hx) r
theorem z264 {xs : List AC} (h : z251 xs = true) (M : Nat) : z131 M xs = true :=
  z288.2 fun x hx => z638 (z203.1 h x hx) M
theorem Flat.ren {w : Nat} {es : List (List AC)} (h : Flat es) (r : Nat → Nat) : z132 r (.cells w es) = .cells w es := by
  simp only [z132, AObj.cells.injEq, true_and]
  conv => rhs;rw [← List.map_id es]
  exact List.map_congr_left fun x hx => z704 (h x hx) r
theorem z57 {M w : Nat} {r : Nat → Nat} {x : AObj} {es : List (List AC)} (h : x = .cells w es) (hf : Flat es) : z144 M (.cells w es) ∧ x = z132 r (.cells w es) :=
  ⟨fun e he => z264 (hf e he) M, by rw [hf.ren, h]⟩
theorem z84 {w : Nat} {a b : List (List AC)} (h : a = b) : AObj.cells w a = .cells w b := by rw [h]
def z294 (tmps : Array Value) : ResultVar → Sem Value
  | .tmp t => pure (tmps.getD t undef)
  | .cell a t => do loadVar t (← asAddr (tmps.getD a undef))
theorem z402 (fn : Func) (tmps : Array Value) : results fn tmps = (do
    let vs ← fn.results.mapM (z294 tmps)
    pure (if h : vs.size = 1 then vs[0] else .tuple vs)) := rfl
def z287 (T : Tab) (st : St) (rs : List ResultVar) (K : List AC → Prop) : Prop := match rs with
  | [] => K []
  | .tmp t :: rs => z287 T st rs fun xs => K (st.env t :: xs)
  | .cell x t :: rs => z382 (T t) fun i => z453 i st (st.env x) fun r _ => z287 T st rs fun xs => K (r :: xs)
theorem z478 {P : Program} {tmps : Array Value} {x t : Nat} {w : World} {u : Value} (h : (Instr.loadAt t (tmps.getD x undef)).run P w = .ok u w) : (z294 tmps (.cell x t)).run P w = .ok u w := by
  have e : z294 tmps (.cell x t) = (do loadVar t (← asAddr (tmps.getD x undef))) := rfl
  rw [e]
  unfold Instr.loadAt at h
  cases hv : tmps.getD x undef with
  | pointer o =>
    rw [hv] at h
    cases o with
    | some a => exact h
    | none => simp [Instr.sureAddr, stuck, Sem.run] at h
  | _ => rw [hv] at h;simp [Instr.sureAddr, stuck, Sem.run] at h
theorem z678 (hT : z135 P T) {G : Ghost} {st : St} {a : Act} {w : World} (hR : Rel G st a w) : ∀ (rs : List ResultVar) (K : List AC → Prop), z287 T st rs K →
    ∃ (xs : List AC) (vs : List Value), (rs.mapM (z294 a.tmps)).run P w = .ok vs w ∧ vs.length = xs.length ∧ (∀ (j : Nat) (x : AC), xs[j]? = some x → ∃ v, vs[j]? = some v ∧ V G (hp w) none x v) ∧ xs.length = rs.length ∧ K xs := by
  intro rs
  induction rs with
  | nil => intro K h;exact ⟨[], [], by simp, rfl, by simp, rfl, h⟩
  | cons r rs ih =>
    intro K h
    have key : ∀ (x : AC) (u : Value), (z294 a.tmps r).run P w = .ok u w → V G (hp w) none x u → (z287 T st rs fun xs => K (x :: xs)) → ∃ (xs : List AC) (vs : List Value), ((r :: rs).mapM (z294 a.tmps)).run P w = .ok vs w ∧ vs.length = xs.length ∧ (∀ (j : Nat) (x : AC), xs[j]? = some x → ∃ v, vs[j]? = some v ∧ V G (hp w) none x v) ∧ xs.length = (r :: rs).length ∧ K xs := by
      intro x u hu hx hk
      obtain ⟨xs, vs, h1, h2, h3, h4, h5⟩ := ih _ hk
      refine ⟨x :: xs, u :: vs, ?_, by simp [h2], fun j y hy => ?_, by simp [h4], h5⟩
      · rw [List.mapM_cons, Sem.run_bind, hu]
        simp only [Result.andThen, Sem.run_bind, h1]
        rfl
      · cases j with
        | zero => simp at hy;subst hy;exact ⟨u, by simp, hx⟩
        | succ j => simpa using h3 j y (by simpa using hy)
    cases r with
    | tmp t => exact key _ _ rfl (hR.env t) h
    | cell x t =>
      simp only [z287] at h
      obtain ⟨i, hi, h⟩ := z140 hT h
      obtain ⟨res, fp, h1, h2, h3⟩ := z593 hi h
      obtain ⟨u, hu, hv⟩ := h3 G st.objs w _ hR.wf (fun c hc => (h1 c hc).2) (hR.env x)
      exact key _ _ (z478 hu) hv h2
def z250 : List AC → AC
  | [x] => x
  | xs => .tup xs
def ACle (r r' : AC) : Prop := ∀ (G : Ghost) (h : Nat → Option Obj) (v : Value), V G h none r v → V G h none r' v
theorem ACle.refl (r : AC) : ACle r r := fun _ _ _ h => h
theorem ACle.of_eq {r r' : AC} (h : r = r') : ACle r r' := h ▸ ACle.refl r
def z100 (m : Nat) (st : St) (res : AC) (objs' : List AObj) (r : AC) : Prop :=
  ∃ π : List Nat, π.Nodup ∧ z216 m 0 π = true ∧ res.under π.length = true ∧ ACle r (res.ren (z92 0 π)) ∧ z351 (fun o x => z144 π.length x ∧ st.objs o = z132 (z92 0 π) x) 0 π objs'
def RetQ (T : Tab) (rs : List ResultVar) (m : Nat) (res : AC) (objs' : List AObj) (ex : Exit) (st : St) : Prop := match ex with
  | .normal => z287 T st rs fun xs => z100 m st res objs' (z250 xs)
  | .ret => z287 T st rs fun xs => z100 m st res objs' (z250 xs)
  | _ => False
theorem ret_ok (hT : z135 P T) {fn : Func} {m : Nat} {res : AC} {objs' : List AObj} {G : Ghost} {st : St} {a : Act} {w : World} (hR : Rel G st a w) (h : z287 T st fn.results.toList fun xs => z100 m st res objs' (z250 xs)) :
    ∃ v G', (results fn a.tmps).run P w = .ok v w ∧ SubM m G G' ∧ Wf G' (z86 objs') w ∧ V G' (hp w) none res v := by
  obtain ⟨xs, vs, h1, h2, h3, h4, π, hn, hf, hu, hr, ho⟩ := z678 hT hR _ _ h
  obtain ⟨ho1, ho2⟩ := z229 0 π objs' ho
  have hpick : Wf (G.pick π) (z86 objs') w := hR.wf.pick hn (fun i o hio => ⟨(ho2 i o hio).2, (ho2 i o hio).1⟩) (fun i hi => z110 (by omega))
  have hres : (results fn a.tmps).run P w = .ok (if h : vs.toArray.size = 1 then vs.toArray[0] else .tuple vs.toArray) w := by
    rw [z402, Array.mapM_eq_mapM_toList]
    simp [h1]
  have hV : V G (hp w) none (z250 xs) (if h : vs.toArray.size = 1 then vs.toArray[0] else .tuple vs.toArray) := by
    by_cases hl : vs.length = 1
    · obtain ⟨v, rfl⟩ := List.length_eq_one_iff.1 hl
      obtain ⟨x, rfl⟩ := List.length_eq_one_iff.1 (h2 ▸ hl)
      obtain ⟨v', hv1, hv2⟩ := h3 0 x (by simp)
      simp at hv1;subst hv1
      simpa [z250] using hv2
    · rw [dif_neg (by simpa using hl)]
      have : z250 xs = .tup xs := by
        unfold z250
        split
        · simp at h2;exact absurd h2 hl
        · rfl
      rw [this]
      simp only [V]
      refine ⟨_, rfl, by simp [h2], z89.2 fun j x hx => ?_⟩
      obtain ⟨v, hv1, hv2⟩ := h3 j x hx
      exact ⟨v, by simpa using hv1, hv2⟩
  have hV := hr _ _ _ hV
  exact ⟨_, G.pick π, hres, SubM.pick (fun i hi => by have := z142 m 0 π hf i hi;simpa using this), hpick, z547 _ hu hV⟩
def z166 : Nat → List AC → List (Nat × AC)
  | _, [] => []
  | k, x :: xs => (k, x) :: z166 (k + 1) xs
theorem numbered_eq' (k : Nat) (xs : List AC) (s : Nat) : z120 (z166 k xs) (k + s) = z92 .any xs s := by
  induction xs generalizing k s with
  | nil => rfl
  | cons x xs ih =>
    cases s with
    | zero => simp [z166, z120, z92]
    | succ s =>
      have : Nat.beq (k + (s + 1)) k = false := by
        cases hb : Nat.beq (k + (s + 1)) k with
        | false => rfl
        | true => have := Nat.eq_of_beq_eq_true hb;omega
      simp only [z166, z120, this, z92]
      rw [show k + (s + 1) = (k + 1) + s by omega]
      exact ih (k + 1) s
theorem z352 (xs : List AC) (s : Nat) : z120 (z166 0 xs) s = z92 .any xs s := by
  have := numbered_eq' 0 xs s
  rwa [Nat.zero_add] at this
theorem z58 (hT : z135 P T) {f : FuncId} {fn : Func} {c : Code} (hf : P.funcs[f]? = some fn) (hb : fn.body = some c) (hn : (fn.name == "runtime.NumGoroutine") = false) {args : List AC} {objs : List AObj} {res : AC} {objs' : List AObj}
    (n : Nat) (hnt : fn.ntmps = n) (hl : args.length ≤ n) (h : AWP P objs.length c (RetQ T fn.results.toList objs.length res objs') (mkSt n (z166 0 args) objs)) : CallsA P f args objs res objs' := by
  subst hnt
  refine ⟨⟨fn, c, hf, hn, hb⟩, fun G w vs hW hs hv => ?_⟩
  refine calls_of_wp hf hb (wp_mono (h G { tmps := vs ++ Array.replicate (fn.ntmps - vs.size) undef, defers := [] } w ⟨hW, fun s => ?_, by show _ = fn.ntmps;simp;omega, rfl⟩) fun ex a' w' hq => ?_)
  · show V G (hp w) none (z120 (z166 0 args) s) _
    rw [z352]
    by_cases hsl : s < args.length
    · have hx : args[s]? = some args[s] := List.getElem?_eq_getElem hsl
      obtain ⟨v, hv1, hv2⟩ := z89.1 hv s _ hx
      rw [Nat.zero_add] at hv1
      rw [z98 hx]
      have : (vs ++ Array.replicate (fn.ntmps - vs.size) undef).getD s undef = v := by
        rw [Array.getD_eq_getD_getElem?, Array.getElem?_append, if_pos (by omega), hv1];rfl
      rw [this];exact hv2
    · rw [z110 (by omega)];simp [V]
  · obtain ⟨G', st', h1, h2, h3, h4⟩ := hq
    have key : (z287 T st' fn.results.toList fun xs => z100 objs.length st' res objs' (z250 xs)) → ∃ v, (results fn a'.tmps).run P w' = .ok v w' ∧ ∃ G'' v', Ending.returned v = .returned v' ∧ G.Sub G'' ∧ (∀ o t, o < objs.length → G.ι o = some t → G''.ι o = some t) ∧ Le w w' ∧ Wf G'' (z86 objs') w' ∧ V G'' (hp w') none res v' := by
      intro hr
      obtain ⟨v, G'', h5, h6, h7, h8⟩ := ret_ok hT h4 hr
      have h9 := h1.trans h6
      exact ⟨v, h5, G'', v, rfl, h9.1, h9.2, h2, h7, h8⟩
    cases ex with
    | normal => exact ⟨h4.defers, key h3⟩
    | ret => exact ⟨h4.defers, key h3⟩
    | _ => exact h3.elim
end Go.Gl
namespace Go.Gl
variable {P : Program}
def z462 : List (Nat × TyI) → Nat → Option TyI
  | [], _ => none
  | (k, x) :: rest, t => match Nat.beq t k with
    | true => some x
    | false => z462 rest t
def tabAll (p : Nat → TyI → Prop) : List (Nat × TyI) → Prop
  | [] => True
  | (k, x) :: rest => p k x ∧ tabAll p rest
theorem tabOk_of {l : List (Nat × TyI)} (h : tabAll (TyOk P) l) : z135 P (z462 l) := by
  intro t i ht
  induction l with
  | nil => simp [z462] at ht
  | cons kx rest ih =>
    obtain ⟨k, x⟩ := kx
    simp only [z462] at ht
    split at ht
    · rename_i hb;cases ht;rw [Nat.eq_of_beq_eq_true hb];exact h.1
    · exact ih h.2 ht
theorem z94 {t : Nat} {i : TyI} (h1 : P.underlying t = some i.desc) (h2 : (P.info? t).map (fun j => (j.zero, j.size, j.bytes)) = some (some i.zero, i.size, i.bytes)) : TyOk P t i := by
  refine ⟨h1, ?_⟩
  cases hi : P.info? t with
  | none => rw [hi] at h2;cases h2
  | some j =>
    rw [hi] at h2
    simp only [Option.map_some, Option.some.injEq, Prod.mk.injEq] at h2
    exact ⟨j, rfl, h2.2.1, h2.2.2, h2.1⟩
end Go.Gl

namespace Go.Gl
section gen
variable {α : Type}
def apW (f : Nat → α) : List (Nat × α) → Nat → α
  | [] => f
  | p :: ps => apW (upd f p.1 p.2) ps
def keys (ws : List (Nat × α)) : List Nat := ws.map Prod.fst
theorem z127 (f : Nat → α) (ws : List (Nat × α)) (l : Nat) (h : l ∉ keys ws) : apW f ws l = f l := by
  induction ws generalizing f with
  | nil => rfl
  | cons p ps ih =>
    simp only [keys, List.map_cons, List.mem_cons, not_or] at h
    rw [apW, ih _ h.2, z114 _ _ h.1]
theorem z723 (f g : Nat → α) (ws : List (Nat × α)) (l : Nat) (h : l ∈ keys ws) : apW f ws l = apW g ws l := by
  induction ws generalizing f g with
  | nil => simp [keys] at h
  | cons p ps ih =>
    by_cases hp : l ∈ keys ps
    · exact ih _ _ hp
    · rw [apW, apW, z127 _ _ _ hp, z127 _ _ _ hp]
      have : l = p.1 := by
        simp only [keys, List.map_cons, List.mem_cons] at h
        exact h.resolve_right hp
      subst this
      rw [z90, z90]
theorem apW_comm (f : Nat → α) (a b : List (Nat × α)) (h : ∀ l, l ∈ keys a → l ∉ keys b) : apW (apW f a) b = apW (apW f b) a := by
  funext l
  by_cases ha : l ∈ keys a
  · rw [z127 _ _ _ (h l ha), z723 (apW f b) f a l ha]
  · by_cases hb : l ∈ keys b
    · rw [z127 (apW f b) _ _ ha, z723 (apW f a) f b l hb]
    · rw [z127 _ _ _ hb, z127 _ _ _ ha, z127 _ _ _ ha, z127 _ _ _ hb]
def runX (wr : Nat → List (Nat × α)) (f : Nat → α) (X : Nat → Bool) : Nat → Nat → α
  | 0 => f
  | k + 1 => match X k with
    | true => apW (runX wr f X k) (wr k)
    | false => runX wr f X k
variable {wr : Nat → List (Nat × α)} {f : Nat → α} {X : Nat → Bool}
theorem z258 {k : Nat} (h : X k = true) : runX wr f X (k + 1) = apW (runX wr f X k) (wr k) := by rw [runX, h]
theorem z306 {k : Nat} (h : X k = false) : runX wr f X (k + 1) = runX wr f X k := by rw [runX, h]
theorem runX_ge {l i : Nat} : ∀ n, i ≤ n → (∀ k, i ≤ k → k < n → l ∈ keys (wr k) → X k = false) → runX wr f X n l = runX wr f X i l := by
  intro n
  induction n with
  | zero => intro h _; have : i = 0 := by omega
            rw [this]
  | succ n ih =>
    intro h hk
    by_cases hn : i = n + 1
    · rw [hn]
    · have := ih (by omega) (fun k h1 h2 => hk k h1 (by omega))
      cases hX : X n with
      | true =>
        rw [z258 hX, z127 _ _ _ (fun hl => by have := hk n (by omega) (by omega) hl;rw [this] at hX;cases hX)]
        exact this
      | false => rw [z306 hX];exact this
theorem runX_all {l : Nat} : ∀ i, (∀ k, k < i → l ∈ keys (wr k) → X k = true) → runX wr f X i l = runX wr f (fun _ => true) i l := by
  intro i
  induction i with
  | zero => intro _;rfl
  | succ i ih =>
    intro hk
    have h1 := ih fun k h => hk k (by omega)
    rw [z258 (X := fun _ => true) rfl]
    by_cases hl : l ∈ keys (wr i)
    · rw [z258 (hk i (by omega) hl)]
      exact z723 _ _ _ _ hl
    · rw [z127 _ _ _ hl]
      cases hX : X i with
      | true => rw [z258 hX, z127 _ _ _ hl];exact h1
      | false => rw [z306 hX];exact h1
theorem z475 {l i n : Nat} (hi : i ≤ n) (h : ∀ k, k < n → l ∈ keys (wr k) → (k < i → X k = true) ∧ (i ≤ k → X k = false)) : runX wr f X n l = runX wr f (fun _ => true) i l := by
  rw [runX_ge n hi fun k h1 h2 hl => (h k h2 hl).2 h1]
  exact runX_all i fun k h1 hl => (h k (by omega) hl).1 h1
theorem z293 {X' : Nat → Bool} : ∀ i, (∀ k, k < i → X' k = X k) → runX wr f X' i = runX wr f X i := by
  intro i
  induction i with
  | zero => intro _;rfl
  | succ i ih =>
    intro h
    have h1 := ih fun k hk => h k (by omega)
    cases hX : X i with
    | true => rw [z258 hX, z258 (by rw [h i (by omega)];exact hX), h1]
    | false => rw [z306 hX, z306 (by rw [h i (by omega)];exact hX), h1]
theorem z589 {i : Nat} {X' : Nat → Bool} (hX : X i = false) (hX' : X' i = true) (hne : ∀ k, k ≠ i → X' k = X k) : ∀ n, i < n → (∀ l, l ∈ keys (wr i) → ∀ k, i < k → k < n → X k = true → l ∉ keys (wr k)) → runX wr f X' n = apW (runX wr f X n) (wr i) := by
  intro n
  induction n with
  | zero => intro h;omega
  | succ n ih =>
    intro h hk
    by_cases hn : i = n
    · subst hn
      rw [z306 hX, z258 hX', z293 i fun k hk => hne k (by omega)]
    · have h1 := ih (by omega) fun l hl k h1 h2 => hk l hl k h1 (by omega)
      have hne' := hne n (fun e => hn e.symm)
      cases hXn : X n with
      | true =>
        rw [z258 hXn, z258 (by rw [hne'];exact hXn), h1]
        exact apW_comm _ _ _ fun l hl => hk l hl n (by omega) (by omega) hXn
      | false => rw [z306 hXn, z306 (by rw [hne'];exact hXn), h1]
end gen
end Go.Gl

namespace Go.Gl
variable {P : Program} {T : Tab}
structure StepR where
  skip : Bool
  rd : List (Nat × AC)
  fp : List Ch
  res : AC
  deriving Inhabited
def wrE (O : Nat → Oper) (R : Nat → StepR) (i : Nat) : List (Nat × AC) := match (O i).dst with
  | some d => [(d, match (R i).skip with
    | true => .gone
    | false => (R i).res)]
  | none => []
def wrO (O : Nat → Oper) (R : Nat → StepR) (i : Nat) : List (Nat × AObj) := match (R i).skip, z136 (O i).op with
  | false, true => (R i).fp.map fun c => (c.o, c.post)
  | _, _ => []
def z594 (ops : Array Oper) (o : Oper) : List Nat := match o.guard with
  | some (j, _) => (z397 ops j).toList
  | none => []
def z349 (ops : Array Oper) (o : Oper) : List Nat := z482 o.op.operands.toList ++ z594 ops o
structure Apart (ops : Array Oper) (x y : Oper) (r s : StepR) (ord : Prop) : Prop where
  wr : ∀ d, x.dst = some d → d ∈ z349 ops y → ord
  ww : ∀ d, x.dst = some d → y.dst = some d → ord
  rw : ∀ d, d ∈ z349 ops x → y.dst = some d → ord
  obj : ∀ c c', r.skip = false → s.skip = false → c ∈ r.fp → c' ∈ s.fp → c.o = c'.o → (z136 x.op = true ∨ z136 y.op = true) → ord
structure StepOk (P : Program) (ops : Array Oper) (nt : Nat) (env : Nat → AC) (objs : Nat → AObj) (o : Oper) (r : StepR) : Prop where
  dst : ∀ d, o.dst = some d → d < nt
  keysR : r.rd.map Prod.fst = z482 o.op.operands.toList
  exec : r.skip = false → OpT P o r.rd r.fp r.res ∧ (∀ p ∈ r.rd, env p.1 = p.2) ∧ (∀ c ∈ r.fp, objs c.o = c.pre ∧ (z136 o.op = false → c.post = c.pre))
  guard : match o.guard with
    | none => r.skip = false
    | some (j, want) => ∃ d, z397 ops j = some d ∧ d < nt ∧ ((∃ b, env d = .raw (.bool b) ∧ r.skip = !(b == want)) ∨ ∃ t, env d = .raw (.tuple t) ∧ r.skip = true)
structure RegOk (P : Program) (ops : Array Oper) (nt : Nat) (env0 : Nat → AC) (objs0 : Nat → AObj) (O : Nat → Oper) (R : Nat → StepR) (ord : Nat → Nat → Prop) : Prop where
  at_ : ∀ i, i < ops.size → ops[i]? = some (O i)
  step : ∀ i, i < ops.size → StepOk P ops nt (runX (wrE O R) env0 (fun _ => true) i) (runX (wrO O R) objs0 (fun _ => true) i) (O i) (R i)
  apart : ∀ i j, i < j → j < ops.size → Apart ops (O i) (O j) (R i) (R j) (ord i j)
  ordE : ∀ i j, j < ops.size → ord i j → ∃ e ∈ (O j).after, Region.binds .any e = true ∧ e.on < j ∧ (i = e.on ∨ ord i e.on)
  edges : ∀ j, j < ops.size → ∀ e ∈ (O j).after, Region.binds .any e = true → e.on < j
variable {ops : Array Oper} {nt : Nat} {env0 : Nat → AC} {objs0 : Nat → AObj} {O : Nat → Oper} {R : Nat → StepR} {ord : Nat → Nat → Prop}
def z311 (ops : Array Oper) (O : Nat → Oper) (X : Nat → Bool) : Prop := ∀ j, j < ops.size → X j = true → ∀ e ∈ (O j).after, Region.binds .any e = true → X e.on = true
theorem z197 (H : RegOk P ops nt env0 objs0 O R ord) {X : Nat → Bool} (hX : z311 ops O X) : ∀ j, j < ops.size → X j = true → ∀ i, ord i j → X i = true := by
  intro j
  induction j using Nat.strongRecOn with
  | _ j ih =>
    intro hj hXj i ho
    obtain ⟨e, he, hb, hlt, h⟩ := H.ordE i j hj ho
    have hXe := hX j hj hXj e he hb
    rcases h with rfl|h
    · exact hXe
    · exact ih e.on hlt (by omega) hXe i h
theorem z481 (H : RegOk P ops nt env0 objs0 O R ord) {X : Nat → Bool} (hX : z311 ops O X) {j : Nat} (hj : j < ops.size) (hr : ∀ e ∈ (O j).after, Region.binds .any e = true → X e.on = true) : ∀ i, ord i j → X i = true := by
  intro i ho
  obtain ⟨e, he, hb, hlt, h⟩ := H.ordE i j hj ho
  have hXe := hr e he hb
  rcases h with rfl|h
  · exact hXe
  · exact z197 H hX e.on (by omega) hXe i h
theorem z325 {i l : Nat} : l ∈ keys (wrE O R i) ↔ (O i).dst = some l := by
  unfold wrE keys
  cases (O i).dst <;> simp [eq_comm]
theorem readT (H : RegOk P ops nt env0 objs0 O R ord) {X : Nat → Bool} (hX : z311 ops O X) {i : Nat} (hi : i < ops.size) (hXi : X i = false) (hr : ∀ e ∈ (O i).after, Region.binds .any e = true → X e.on = true) {l : Nat} (hl : l ∈ z349 ops (O i)) :
    runX (wrE O R) env0 X ops.size l = runX (wrE O R) env0 (fun _ => true) i l := by
  refine z475 (by omega) fun k hk hkl => ⟨fun h => ?_, fun h => ?_⟩
  · exact z481 H hX hi hr k ((H.apart k i h hi).wr l (z325.1 hkl) hl)
  · by_cases hki : k = i
    · rw [hki];exact hXi
    · cases hXk : X k with
      | false => rfl
      | true =>
        have := z197 H hX k hk hXk i ((H.apart i k (by omega) hk).rw l hl (z325.1 hkl))
        rw [hXi] at this;cases this
theorem z436 {i l : Nat} (h : l ∈ keys (wrO O R i)) : (R i).skip = false ∧ z136 (O i).op = true ∧ ∃ c ∈ (R i).fp, c.o = l := by
  unfold wrO keys at h
  split at h
  · rename_i h1 h2
    simp at h
    obtain ⟨c, hc, rfl⟩ := h
    exact ⟨h1, h2, c, hc, rfl⟩
  · simp at h
theorem readO (H : RegOk P ops nt env0 objs0 O R ord) {X : Nat → Bool} (hX : z311 ops O X) {i : Nat} (hi : i < ops.size) (hXi : X i = false) (hr : ∀ e ∈ (O i).after, Region.binds .any e = true → X e.on = true) (hs : (R i).skip = false) {c : Ch} (hc : c ∈ (R i).fp) :
    runX (wrO O R) objs0 X ops.size c.o = runX (wrO O R) objs0 (fun _ => true) i c.o := by
  refine z475 (by omega) fun k hk hkl => ?_
  obtain ⟨h1, h2, c', hc', he⟩ := z436 hkl
  refine ⟨fun h => ?_, fun h => ?_⟩
  · exact z481 H hX hi hr k ((H.apart k i h hi).obj c' c h1 hs hc' hc he (.inl h2))
  · by_cases hki : k = i
    · rw [hki];exact hXi
    · cases hXk : X k with
      | false => rfl
      | true =>
        have := z197 H hX k hk hXk i ((H.apart i k (by omega) hk).obj c c' hs h1 hc hc' he.symm (.inr h2))
        rw [hXi] at this;cases this
theorem addE (H : RegOk P ops nt env0 objs0 O R ord) {X X' : Nat → Bool} (hX : z311 ops O X) {i : Nat} (hi : i < ops.size) (hXi : X i = false) (hX' : X' i = true) (hne : ∀ k, k ≠ i → X' k = X k) :
    runX (wrE O R) env0 X' ops.size = apW (runX (wrE O R) env0 X ops.size) (wrE O R i) := by
  refine z589 hXi hX' hne _ hi fun l hl k h1 h2 hXk hkl => ?_
  have := z197 H hX k h2 hXk i ((H.apart i k h1 h2).ww l (z325.1 hl) (z325.1 hkl))
  rw [hXi] at this;cases this
theorem addO (H : RegOk P ops nt env0 objs0 O R ord) {X X' : Nat → Bool} (hX : z311 ops O X) {i : Nat} (hi : i < ops.size) (hXi : X i = false) (hX' : X' i = true) (hne : ∀ k, k ≠ i → X' k = X k) :
    runX (wrO O R) objs0 X' ops.size = apW (runX (wrO O R) objs0 X ops.size) (wrO O R i) := by
  refine z589 hXi hX' hne _ hi fun l hl k h1 h2 hXk hkl => ?_
  obtain ⟨h3, h4, c, hc, hcl⟩ := z436 hl
  obtain ⟨h5, h6, c', hc', hcl'⟩ := z436 hkl
  have := z197 H hX k h2 hXk i ((H.apart i k h1 h2).obj c c' h3 h5 hc hc' (by rw [hcl, hcl']) (.inl h4))
  rw [hXi] at this;cases this
theorem apW_fp (f : Nat → AObj) (fp : List Ch) : apW f (fp.map fun c => (c.o, c.post)) = z103 f fp := by
  induction fp generalizing f with
  | nil => rfl
  | cons c fp ih => exact ih _
theorem z724 (H : RegOk P ops nt env0 objs0 O R ord) {Q : Exit → Act → World → Prop} {next m : Nat} {G0 : Ghost} {w0 : World}
    (hQ : ∀ G a w, SubM m G0 G → Le w0 w → Rel G ⟨runX (wrE O R) env0 (fun _ => true) ops.size, runX (wrO O R) objs0 (fun _ => true) ops.size, next, nt⟩ a w → Q .normal a w) :
    ∀ (fuel : Nat) (listed : Array Bool) (G : Ghost) (a : Act) (w : World), listed.size = ops.size → ((List.range ops.size).countP fun i => !listed.getD i false) ≤ fuel → z311 ops O (fun i => listed.getD i false) → SubM m G0 G → Le w0 w →
      Rel G ⟨runX (wrE O R) env0 (fun i => listed.getD i false) ops.size, runX (wrO O R) objs0 (fun i => listed.getD i false) ops.size, next, nt⟩ a w → wpAny P .any ops Q fuel listed a w := by
  have allDone : ∀ (listed : Array Bool) (G : Ghost) (a : Act) (w : World), (∀ i, i < ops.size → listed.getD i false = true) → SubM m G0 G → Le w0 w →
      Rel G ⟨runX (wrE O R) env0 (fun i => listed.getD i false) ops.size, runX (wrO O R) objs0 (fun i => listed.getD i false) ops.size, next, nt⟩ a w → Q .normal a w := by
    intro listed G a w hall hs hl hR
    refine hQ G a w hs hl ?_
    rw [z293 (X := fun i => listed.getD i false) (X' := fun _ => true) ops.size fun k hk => (hall k hk).symm, z293 (X := fun i => listed.getD i false) (X' := fun _ => true) ops.size fun k hk => (hall k hk).symm]
    exact hR
  have noneReady : ∀ (listed : Array Bool), listed.size = ops.size → Region.ready .any ops listed = [] → ∀ i, i < ops.size → listed.getD i false = true := by
    intro listed hsz hr i
    induction i using Nat.strongRecOn with
    | _ i ih =>
      intro hi
      cases hX : listed.getD i false with
      | true => rfl
      | false =>
        exfalso
        have hmem : i ∈ Region.ready .any ops listed := by
          unfold Region.ready
          simp only [List.mem_filter, List.mem_range]
          refine ⟨hi, ?_⟩
          have h1 : listed.getD i true = false := by
            rw [Array.getD_eq_getD_getElem?, Array.getElem?_eq_getElem (by omega)] at hX ⊢;exact hX
          rw [h1, H.at_ i hi]
          simp only [Option.map_some, Option.getD_some, Bool.not_false, Bool.true_and, Array.all_eq_true']
          intro e he
          cases hb : Region.binds .any e with
          | false => rfl
          | true =>
            have hlt := H.edges i hi e he hb
            simp [ih e.on hlt (by omega)]
        rw [hr] at hmem;simp at hmem
  intro fuel
  induction fuel with
  | zero =>
    intro listed G a w hsz hcnt hcl hs hl hR
    have hall : ∀ i, i < ops.size → listed.getD i false = true := fun i hi => by
      have h0 := List.countP_eq_zero.1 (Nat.le_zero.1 hcnt) i (List.mem_range.2 hi)
      simpa using h0
    refine ⟨?_, allDone listed G a w hall hs hl hR⟩
    unfold Region.ready
    rw [List.filter_eq_nil_iff]
    intro i hi
    simp only [List.mem_range] at hi
    have h1 : listed.getD i true = true := by
      have := hall i hi
      rw [Array.getD_eq_getD_getElem?, Array.getElem?_eq_getElem (by omega)] at this ⊢;exact this
    simp [h1]
  | succ fuel ih =>
    intro listed G a w hsz hcnt hcl hs hl hR
    refine ⟨fun hr => allDone listed G a w (noneReady listed hsz hr) hs hl hR, fun i hi => ?_⟩
    unfold Region.ready at hi
    simp only [List.mem_filter, List.mem_range] at hi
    obtain ⟨hi, hready⟩ := hi
    rw [H.at_ i hi] at hready
    simp only [Option.map_some, Option.getD_some, Bool.and_eq_true, Bool.not_eq_true', Array.all_eq_true'] at hready
    obtain ⟨hli, hedges⟩ := hready
    have hXi : listed.getD i false = false := by
      rw [Array.getD_eq_getD_getElem?, Array.getElem?_eq_getElem (by omega)] at hli ⊢;exact hli
    have hed : ∀ e ∈ (O i).after, Region.binds .any e = true → listed.getD e.on false = true := by
      intro e he hb
      have := hedges e he
      simpa [hb] using this
    -- behind the operation
    have hX' : (listed.setIfInBounds i true).getD i false = true := by
      rw [Array.getD_eq_getD_getElem?, Array.getElem?_setIfInBounds]
      simp [hsz, hi]
    have hne : ∀ k, k ≠ i → (listed.setIfInBounds i true).getD k false = listed.getD k false := fun k hk => by
      rw [Array.getD_eq_getD_getElem?, Array.getD_eq_getD_getElem?, Array.getElem?_setIfInBounds]
      simp [Ne.symm hk]
    have hcnt' : ((List.range ops.size).countP fun k => !(listed.setIfInBounds i true).getD k false) ≤ fuel := by
      have key : ∀ (l : List Nat), l.Nodup → i ∈ l → (l.countP fun k => !(listed.setIfInBounds i true).getD k false) + 1 ≤ l.countP fun k => !listed.getD k false := by
        intro l
        induction l with
        | nil => intro _ h;simp at h
        | cons y ys ihl =>
          intro hnd hm
          obtain ⟨hn1, hn2⟩ := List.nodup_cons.1 hnd
          by_cases hy : y = i
          · subst hy
            rw [List.countP_cons_of_neg (by simp [hX']), List.countP_cons_of_pos (by simp [hXi])]
            have : ∀ l' : List Nat, y ∉ l' → (l'.countP fun k => !(listed.setIfInBounds y true).getD k false) = l'.countP fun k => !listed.getD k false := by
              intro l' hn
              refine List.countP_congr fun k hk => ?_
              rw [hne k (by rintro rfl;exact hn hk)]
            rw [this ys hn1]
            exact Nat.le_refl _
          · have hm' : i ∈ ys := by simpa [Ne.symm hy] using hm
            have := ihl hn2 hm'
            rw [List.countP_cons, List.countP_cons, hne y hy]
            omega
      have := key (List.range ops.size) List.nodup_range (List.mem_range.2 hi)
      omega
    have hcl' : z311 ops O (fun k => (listed.setIfInBounds i true).getD k false) := by
      intro j hj hXj e he hb
      by_cases hji : j = i
      · subst hji
        have hlt := H.edges j hj e he hb
        show (listed.setIfInBounds j true).getD e.on false = true
        rw [hne e.on (by omega)]
        exact hed e he hb
      · have hXj' : listed.getD j false = true := by rw [← hne j hji];exact hXj
        have := hcl j hj hXj' e he hb
        show (listed.setIfInBounds i true).getD e.on false = true
        by_cases hei : e.on = i
        · rw [hei];exact hX'
        · rw [hne e.on hei];exact this
    have hE := addE (env0 := env0) H hcl hi hXi (X' := fun k => (listed.setIfInBounds i true).getD k false) hX' hne
    have hO := addO (objs0 := objs0) H hcl hi hXi (X' := fun k => (listed.setIfInBounds i true).getD k false) hX' hne
    have hst := H.step i hi
    have go : ∀ G' a' w', SubM m G0 G' → Le w0 w' → Rel G' ⟨apW (runX (wrE O R) env0 (fun i => listed.getD i false) ops.size) (wrE O R i), apW (runX (wrO O R) objs0 (fun i => listed.getD i false) ops.size) (wrO O R i), next, nt⟩ a' w' → wpAny P .any ops Q fuel (listed.setIfInBounds i true) a' w' := by
      intro G' a' w' hs' hl' hR'
      refine ih (listed.setIfInBounds i true) G' a' w' (by simpa using hsz) hcnt' hcl' hs' hl' ?_
      rw [hE, hO];exact hR'
    have hdE : ∀ (v : AC), (match (R i).skip with|true => AC.gone|false => (R i).res) = v → ∀ f : Nat → AC, z305 f (O i).dst v = apW f (wrE O R i) := by
      intro v hv f
      unfold wrE z305
      cases (O i).dst with
      | none => rfl
      | some d => subst hv;rfl
    unfold wpOp
    rw [H.at_ i hi]
    dsimp only
    have run : (R i).skip = false → (O i).wp P a w (wpAny P .any ops Q fuel (listed.setIfInBounds i true)) Q := by
      intro hsk
      obtain ⟨h1, h2, h3⟩ := hst.exec hsk
      refine h1.run Q _ G _ a w hR (fun p hp => ?_) (fun c hc => ?_) hst.dst fun G' a' w' hg hι hl' hR' => ?_
      · have hk : p.1 ∈ z482 (O i).op.operands.toList := by rw [← hst.keysR];exact List.mem_map.2 ⟨p, hp, rfl⟩
        show runX (wrE O R) env0 _ ops.size p.1 = p.2
        rw [readT H hcl hi hXi hed (List.mem_append.2 (.inl hk))]
        exact h2 p hp
      · show runX (wrO O R) objs0 _ ops.size c.o = c.pre
        rw [readO H hcl hi hXi hed hsk hc]
        exact (h3 c hc).1
      · refine go G' a' w' (hs.trans ⟨hg, fun o t _ e => hι o t e⟩) (hl.trans hl') (hR'.same ?_ ?_ rfl)
        · exact (hdE (R i).res (by rw [hsk]) _).symm
        · show apW _ (wrO O R i) = z103 _ (R i).fp
          unfold wrO
          rw [hsk]
          cases hw : z136 (O i).op with
          | true => exact apW_fp _ _
          | false =>
            show _ = _
            refine (z130 _ _ fun c hc => ⟨?_, (h3 c hc).2 hw⟩).symm
            show runX (wrO O R) objs0 _ ops.size c.o = c.pre
            rw [readO H hcl hi hXi hed hsk hc]
            exact (h3 c hc).1
    have skip : (R i).skip = true → wpAny P .any ops Q fuel (listed.setIfInBounds i true) (a.put (O i).dst undef) w := by
      intro hsk
      refine go G _ w hs hl ?_
      have := hR.pure (dst := (O i).dst) (res := .gone) (v := undef) (fp := []) hst.dst (by simp [V, undef]) (by simp)
      refine this.same (hdE .gone (by rw [hsk]) _).symm ?_ rfl
      show apW _ (wrO O R i) = _
      unfold wrO
      rw [hsk];rfl
    have hg := hst.guard
    cases hgd : (O i).guard with
    | none =>
      rw [hgd] at hg
      rw [if_pos (by simp [Region.wanted, hgd])]
      exact .inl (run hg)
    | some jw =>
      obtain ⟨j, want⟩ := jw
      rw [hgd] at hg
      obtain ⟨d, hd1, hd2, hg⟩ := hg
      have hrd : d ∈ z349 ops (O i) := List.mem_append.2 (.inr (by simp [z594, hgd, hd1]))
      rcases hg with ⟨b, hd3, hd4⟩|⟨t, hd3, hd4⟩
      · have hb : runX (wrE O R) env0 (fun i => listed.getD i false) ops.size d = .raw (.bool b) := by
          rw [readT H hcl hi hXi hed hrd];exact hd3
        have hw := z451 hR hgd hd1 hd2 hb
        rw [hw]
        cases hbw : b == want with
        | true => simp;exact .inl (run (by rw [hd4, hbw];rfl))
        | false => simp;exact skip (by rw [hd4, hbw];rfl)
      · have hb : runX (wrE O R) env0 (fun i => listed.getD i false) ops.size d = .raw (.tuple t) := by
          rw [readT H hcl hi hXi hed hrd];exact hd3
        have hw := z333 hR hgd hd1 hd2 hb
        rw [hw]
        simp;exact skip hd4
end Go.Gl

namespace Go.Gl
variable {P : Program} {T : Tab}
structure Acc where
  rt : List Nat
  wt : List Nat
  oa : List Nat
  ow : Bool
def z230 : List Nat → List Nat → Bool
  | [], _ => false
  | x :: xs, ys => match inB ys x with
    | true => true
    | false => z230 xs ys
theorem z322 {xs ys : List Nat} {x : Nat} (h1 : x ∈ xs) (h2 : x ∈ ys) : z230 xs ys = true := by
  induction xs with
  | nil => simp at h1
  | cons y xs ih =>
    simp only [z230]
    cases hb : inB ys y with
    | true => rfl
    | false =>
      rcases List.mem_cons.1 h1 with rfl|h1
      · rw [z213.2 h2] at hb;cases hb
      · exact ih h1
def z319 (a b : Acc) : Bool := match z230 a.wt b.rt with
  | true => true
  | false => match z230 a.wt b.wt with
    | true => true
    | false => match z230 a.rt b.wt with
      | true => true
      | false => match a.ow || b.ow with
        | true => z230 a.oa b.oa
        | false => false
def z217 (bs : List Nat) : List Edge → Nat
  | [] => 0
  | e :: es => (match Region.binds .any e with
    | true => 2 ^ e.on ||| bs.getD e.on 0
    | false => 0) ||| z217 bs es
def z171 (j : Nat) : List Edge → Bool
  | [] => true
  | e :: es => match Region.binds .any e with
    | true => match Nat.blt e.on j with
      | true => z171 j es
      | false => false
    | false => z171 j es
def z375 : Nat → List Nat → List Oper → Option (List Nat)
  | _, bs, [] => some bs
  | j, bs, o :: os => match z171 j o.after.toList with
    | true => z375 (j + 1) (bs ++ [z217 bs o.after.toList]) os
    | false => none
def z302 (b : Nat) (y : Acc) : Nat → List Acc → Bool
  | _, [] => true
  | i, x :: xs => match z319 x y with
    | true => match b.testBit i with
      | true => z302 b y (i + 1) xs
      | false => false
    | false => z302 b y (i + 1) xs
def pairs (bs : List Nat) : List Acc → Nat → List Acc → Bool
  | _, _, [] => true
  | done, j, y :: ys => match z302 (bs.getD j 0) y 0 done with
    | true => pairs bs (done ++ [y]) (j + 1) ys
    | false => false
def z104 (ops : Array Oper) (accs : List Acc) : Bool := match z375 0 [] ops.toList with
  | some bs => pairs bs [] 0 accs
  | none => false
theorem z514 {b : Nat} {y : Acc} : ∀ (xs : List Acc) (i : Nat), z302 b y i xs = true → ∀ k x, xs[k]? = some x → z319 x y = true → b.testBit (i + k) = true := by
  intro xs
  induction xs with
  | nil => intro i _ k x h;simp at h
  | cons x0 xs ih =>
    intro i h k x hk hc
    simp only [z302] at h
    cases k with
    | zero =>
      simp at hk;subst hk
      rw [hc] at h
      dsimp only at h
      split at h
      · rename_i hb;simpa using hb
      · cases h
    | succ k =>
      have : z302 b y (i + 1) xs = true := by
        split at h
        · split at h
          · exact h
          · cases h
        · exact h
      have := ih (i + 1) this k x (by simpa using hk) hc
      rwa [show i + (k + 1) = i + 1 + k by omega]
theorem z623 {bs : List Nat} : ∀ (ys done : List Acc), pairs bs done done.length ys = true → ∀ i j x y, i < j → done.length ≤ j → (done ++ ys)[i]? = some x → (done ++ ys)[j]? = some y → z319 x y = true → (bs.getD j 0).testBit i = true := by
  intro ys
  induction ys with
  | nil =>
    intro done _ i j x y _ hj _ hy
    rw [List.append_nil, List.getElem?_eq_none hj] at hy;cases hy
  | cons y0 ys ih =>
    intro done h i j x y hij hj hx hy hc
    simp only [pairs] at h
    split at h
    · rename_i hag
      by_cases hjd : j = done.length
      · subst hjd
        rw [List.getElem?_append_right (Nat.le_refl _)] at hy
        simp at hy;subst hy
        rw [List.getElem?_append_left hij] at hx
        have := z514 done 0 hag i x hx hc
        rwa [Nat.zero_add] at this
      · have h2 := ih (done ++ [y0]) (by simpa using h) i j x y hij (by simp;omega) (by simpa using hx) (by simpa using hy) hc
        exact h2
    · cases h
theorem z441 {bs : List Nat} {i : Nat} : ∀ (es : List Edge), (z217 bs es).testBit i = true → ∃ e ∈ es, Region.binds .any e = true ∧ (i = e.on ∨ (bs.getD e.on 0).testBit i = true) := by
  intro es
  induction es with
  | nil => intro h;simp [z217] at h
  | cons e es ih =>
    intro h
    simp only [z217, Nat.testBit_or, Bool.or_eq_true] at h
    rcases h with h|h
    · split at h
      · rename_i hb
        rw [Nat.testBit_or, Bool.or_eq_true] at h
        refine ⟨e, by simp, hb, ?_⟩
        rcases h with h|h
        · left
          rw [Nat.testBit_two_pow] at h
          simpa [eq_comm] using h
        · exact .inr h
      · simp at h
    · obtain ⟨e', h1, h2⟩ := ih h
      exact ⟨e', by simp [h1], h2⟩
theorem z234 {j : Nat} : ∀ (es : List Edge), z171 j es = true → ∀ e ∈ es, Region.binds .any e = true → e.on < j := by
  intro es
  induction es with
  | nil => intro _ e h;simp at h
  | cons e0 es ih =>
    intro h e he hb
    simp only [z171] at h
    rcases List.mem_cons.1 he with rfl|he
    · rw [hb] at h
      dsimp only at h
      split at h
      · rename_i hl;simpa [Nat.blt_eq] using hl
      · cases h
    · refine ih ?_ e he hb
      split at h
      · split at h
        · exact h
        · cases h
      · exact h
theorem z513 : ∀ (os : List Oper) (bs : List Nat) (r : List Nat), z375 bs.length bs os = some r → (∀ k, k < bs.length → r[k]? = bs[k]?) ∧ r.length = bs.length + os.length ∧
    ∀ k o, os[k]? = some o → z171 (bs.length + k) o.after.toList = true ∧ ∃ bs', r[bs.length + k]? = some (z217 bs' o.after.toList) ∧ ∀ q, q < bs.length + k → bs'.getD q 0 = r.getD q 0 := by
  intro os
  induction os with
  | nil => intro bs r h;simp only [z375, Option.some.injEq] at h;subst h;exact ⟨fun _ _ => rfl, by simp, fun k o h => by simp at h⟩
  | cons o0 os ih =>
    intro bs r h
    simp only [z375] at h
    split at h
    · rename_i hb
      have hlen : (bs ++ [z217 bs o0.after.toList]).length = bs.length + 1 := by simp
      rw [← hlen] at h
      obtain ⟨h1, h2, h3⟩ := ih _ r h
      rw [hlen] at h1 h2 h3
      refine ⟨fun k hk => by rw [h1 k (by omega), List.getElem?_append_left hk], by simp [h2];omega, fun k o ho => ?_⟩
      cases k with
      | zero =>
        simp at ho;subst ho
        refine ⟨by simpa using hb, bs, ?_, fun q hq => ?_⟩
        · rw [Nat.add_zero, h1 _ (by omega)];simp
        · rw [List.getD_eq_getElem?_getD, List.getD_eq_getElem?_getD, h1 q (by omega), List.getElem?_append_left (by omega)]
      | succ k =>
        have := h3 k o (by simpa using ho)
        rw [show bs.length + (k + 1) = bs.length + 1 + k by omega]
        exact this
    · cases h
end Go.Gl

namespace Go.Gl
variable {P : Program} {T : Tab}
def z515 (ops : Array Oper) (o : Oper) (fp : List Ch) : Acc := ⟨z349 ops o, o.dst.toList, fp.map (·.o), z136 o.op⟩
def z377 (ops : Array Oper) (o : Oper) : Acc := ⟨z349 ops o, o.dst.toList, [], false⟩
def z223 (T : Tab) (P : Program) (ops : Array Oper) (n : Nat) (env : List (Nat × AC)) (objs : List AObj) (l : List Oper) (accs : List Acc) (K : LK) : Prop := match l with
  | [] => z104 ops accs = true ∧ K env objs
  | o :: rest => z99 (z641 o n) (match o.guard with
    | none => vcOp T P (mkSt n env objs) o.op fun res fp => z484 o.dst env objs res fp fun env objs => z223 T P ops n env objs rest (accs ++ [z515 ops o fp]) K
    | some (j, want) => match z397 ops j with
      | some d => z99 (Nat.blt d n) (match z120 env d with
        | .raw (.bool b) => vcG b fun b => z334 b want (vcOp T P (mkSt n ((d, .raw (.bool b)) :: env) objs) o.op fun res fp => z484 o.dst ((d, .raw (.bool b)) :: env) objs res fp fun env objs => z223 T P ops n env objs rest (accs ++ [z515 ops o fp]) K)
            (z235 o.dst .gone ((d, .raw (.bool b)) :: env) fun env => z223 T P ops n env objs rest (accs ++ [z377 ops o]) K)
        | .raw (.tuple _) => z235 o.dst .gone env fun env => z223 T P ops n env objs rest (accs ++ [z377 ops o]) K
        | _ => False)
      | none => False)
theorem z35 {ops : Array Oper} {accs : List Acc} {K : Prop} (h : z104 ops accs = true) (k : K) : z104 ops accs = true ∧ K := ⟨h, k⟩
def wr1E (o : Oper) (r : StepR) : List (Nat × AC) := match o.dst with
  | some d => [(d, match r.skip with
    | true => .gone
    | false => r.res)]
  | none => []
def wr1O (o : Oper) (r : StepR) : List (Nat × AObj) := match r.skip, z136 o.op with
  | false, true => r.fp.map fun c => (c.o, c.post)
  | _, _ => []
def acc1 (ops : Array Oper) (o : Oper) (r : StepR) : Acc := match r.skip with
  | true => z377 ops o
  | false => z515 ops o r.fp
inductive Chain (P : Program) (ops : Array Oper) (n : Nat) : (Nat → AC) → (Nat → AObj) → List Oper → List StepR → (Nat → AC) → (Nat → AObj) → Prop
  | nil (e : Nat → AC) (ob : Nat → AObj) : Chain P ops n e ob [] [] e ob
  | cons {e : Nat → AC} {ob : Nat → AObj} {o : Oper} {r : StepR} {l : List Oper} {rs : List StepR} {e' : Nat → AC} {ob' : Nat → AObj} (h : StepOk P ops n e ob o r)
      (t : Chain P ops n (apW e (wr1E o r)) (apW ob (wr1O o r)) l rs e' ob') : Chain P ops n e ob (o :: l) (r :: rs) e' ob'
theorem chain_of (hT : z135 P T) {ops : Array Oper} {n : Nat} : ∀ (l : List Oper) (env : List (Nat × AC)) (objs : List AObj) (accs : List Acc) (K : LK), z223 T P ops n env objs l accs K →
    ∃ rs env' objs', Chain P ops n (z120 env) (z86 objs) l rs (z120 env') (z86 objs') ∧ z104 ops (accs ++ (l.zip rs).map fun p => acc1 ops p.1 p.2) = true ∧ rs.length = l.length ∧ K env' objs' := by
  intro l
  induction l with
  | nil =>
    intro env objs accs K h
    obtain ⟨h1, h2⟩ := h
    exact ⟨[], env, objs, .nil _ _, by simpa using h1, rfl, h2⟩
  | cons o rest ih =>
    intro env objs accs K h
    simp only [z223] at h
    obtain ⟨hd, h⟩ := z83 h
    have run : ∀ env, (match o.guard with | none => True | some (j, want) => ∃ d b, z397 ops j = some d ∧ d < n ∧ z120 env d = .raw (.bool b) ∧ (b == want) = true) →
        (vcOp T P (mkSt n env objs) o.op fun res fp => z484 o.dst env objs res fp fun env objs => z223 T P ops n env objs rest (accs ++ [z515 ops o fp]) K) →
        ∃ rs env' objs', Chain P ops n (z120 env) (z86 objs) (o :: rest) rs (z120 env') (z86 objs') ∧ z104 ops (accs ++ ((o :: rest).zip rs).map fun p => acc1 ops p.1 p.2) = true ∧ rs.length = (o :: rest).length ∧ K env' objs' := by
      intro env hg hv
      obtain ⟨res, fp, hO, hfp, hk⟩ := z586 hT hv
      obtain ⟨env1, objs1, h1, h2, h3⟩ := z403 (n := n) hk
      obtain ⟨rs, env', objs', h4, h5, h6, h7⟩ := ih _ _ _ _ h1
      have h2' : z120 env1 = apW (z120 env) (wr1E o ⟨false, (mkSt n env objs).reads o.op.operands.toList, fp, res⟩) := by
        have : z120 env1 = z305 (z120 env) o.dst res := h2
        rw [this];unfold wr1E z305
        cases o.dst <;> rfl
      have h3' : z86 objs1 = apW (z86 objs) (wr1O o ⟨false, (mkSt n env objs).reads o.op.operands.toList, fp, res⟩) := by
        have : z86 objs1 = z103 (z86 objs) fp := h3
        rw [this];unfold wr1O
        cases hw : z136 o.op with
        | true => exact (apW_fp _ _).symm
        | false => exact z130 _ _ fun c hc => ⟨(hfp c hc).1, (hfp c hc).2 hw⟩
      rw [h2', h3'] at h4
      refine ⟨⟨false, (mkSt n env objs).reads o.op.operands.toList, fp, res⟩ :: rs, env', objs', .cons ⟨z300 (st := mkSt n env objs) hd, by simp [St.reads, Function.comp_def], fun _ => ⟨hO, fun p hp => ?_, fun c hc => hfp c hc⟩, ?_⟩ h4, ?_, by simp [h6], h7⟩
      · simp only [St.reads, List.mem_map] at hp
        obtain ⟨t, _, rfl⟩ := hp;rfl
      · split
        · rfl
        · rename_i j want hgd
          rw [hgd] at hg
          obtain ⟨d, b, g1, g2, g3, g4⟩ := hg
          exact ⟨d, g1, g2, .inl ⟨b, g3, by rw [g4];rfl⟩⟩
      · simpa [acc1] using h5
    have skp : ∀ env, (∀ r : StepR, r.skip = true → match o.guard with
        | none => r.skip = false
        | some (j, want) => ∃ d, z397 ops j = some d ∧ d < n ∧ ((∃ b, z120 env d = .raw (.bool b) ∧ r.skip = !(b == want)) ∨ ∃ t, z120 env d = .raw (.tuple t) ∧ r.skip = true)) →
        (z235 o.dst .gone env fun env => z223 T P ops n env objs rest (accs ++ [z377 ops o]) K) →
        ∃ rs env' objs', Chain P ops n (z120 env) (z86 objs) (o :: rest) rs (z120 env') (z86 objs') ∧ z104 ops (accs ++ ((o :: rest).zip rs).map fun p => acc1 ops p.1 p.2) = true ∧ rs.length = (o :: rest).length ∧ K env' objs' := by
      intro env hgd hv
      have hsk : ∃ env1, z120 env1 = apW (z120 env) (wr1E o ⟨true, (mkSt n env objs).reads o.op.operands.toList, [], .gone⟩) ∧ z223 T P ops n env1 objs rest (accs ++ [z377 ops o]) K := by
        unfold z235 at hv
        cases hdst : o.dst with
        | none => rw [hdst] at hv;exact ⟨env, by simp [wr1E, hdst, apW], hv⟩
        | some d' => rw [hdst] at hv;exact ⟨_, by simp [wr1E, hdst, apW, z246], hv⟩
      obtain ⟨env1, he1, hv⟩ := hsk
      obtain ⟨rs, env', objs', h4, h5, h6, h7⟩ := ih _ _ _ _ hv
      rw [he1] at h4
      refine ⟨⟨true, (mkSt n env objs).reads o.op.operands.toList, [], .gone⟩ :: rs, env', objs', .cons ⟨z300 (st := mkSt n env objs) hd, by simp [St.reads, Function.comp_def], (by intro h;cases h), hgd _ rfl⟩ h4, ?_, by simp [h6], h7⟩
      simpa [acc1] using h5
    split at h
    · rename_i hg
      exact run env (by rw [hg];trivial) h
    · rename_i j want hg
      split at h
      · rename_i d hdj
        obtain ⟨hn, h⟩ := z83 h
        have hn : d < n := by simpa [Nat.blt_eq] using hn
        split at h
        · rename_i b hb
          have he := z599 hb
          have hb' : z120 ((d, .raw (.bool b)) :: env) d = .raw (.bool b) := by rw [he];exact hb
          rw [← he]
          rcases z266 (z417 h) with ⟨rfl, hv⟩|⟨hne, hv⟩
          · exact run _ (by rw [hg];exact ⟨d, b, hdj, hn, hb', by simp⟩) hv
          · exact skp _ (fun r hr => by rw [hg];exact ⟨d, hdj, hn, .inl ⟨b, hb', by rw [hr];cases b <;> cases want <;> simp_all⟩⟩) hv
        · rename_i t hb
          exact skp env (fun r hr => by rw [hg];exact ⟨d, hdj, hn, .inr ⟨t, hb, hr⟩⟩) h
        · exact h.elim
      · exact h.elim
theorem z401 {α : Type} (wr : Nat → List (Nat × α)) (f : Nat → α) : ∀ i, runX wr f (fun _ => true) (i + 1) = runX (fun k => wr (k + 1)) (apW f (wr 0)) (fun _ => true) i := by
  intro i
  induction i with
  | zero => rfl
  | succ i ih => rw [z258 (wr := wr) (X := fun _ => true) rfl, ih];rfl
theorem z712 {ops : Array Oper} {n : Nat} {e : Nat → AC} {ob : Nat → AObj} {l : List Oper} {rs : List StepR} {e' : Nat → AC} {ob' : Nat → AObj} (h : Chain P ops n e ob l rs e' ob') :
    ∀ (O : Nat → Oper) (R : Nat → StepR), (∀ i o, l[i]? = some o → O i = o) → (∀ i r, rs[i]? = some r → R i = r) →
      (∀ i, i < l.length → StepOk P ops n (runX (wrE O R) e (fun _ => true) i) (runX (wrO O R) ob (fun _ => true) i) (O i) (R i)) ∧ runX (wrE O R) e (fun _ => true) l.length = e' ∧ runX (wrO O R) ob (fun _ => true) l.length = ob' := by
  induction h with
  | nil e ob => intro O R _ _;exact ⟨fun i hi => by simp at hi, rfl, rfl⟩
  | @cons e ob o r l rs e' ob' hs t ih =>
    intro O R hO hR
    have h0 : O 0 = o := hO 0 o (by simp)
    have hr0 : R 0 = r := hR 0 r (by simp)
    obtain ⟨h1, h2, h3⟩ := ih (fun k => O (k + 1)) (fun k => R (k + 1)) (fun i o' h => hO (i + 1) o' (by simpa using h)) (fun i r' h => hR (i + 1) r' (by simpa using h))
    have hE : ∀ i, runX (wrE O R) e (fun _ => true) (i + 1) = runX (wrE (fun k => O (k + 1)) fun k => R (k + 1)) (apW e (wr1E o r)) (fun _ => true) i := fun i => by
      rw [z401]
      have : wrE O R 0 = wr1E o r := by rw [← h0, ← hr0];rfl
      rw [this];rfl
    have hOb : ∀ i, runX (wrO O R) ob (fun _ => true) (i + 1) = runX (wrO (fun k => O (k + 1)) fun k => R (k + 1)) (apW ob (wr1O o r)) (fun _ => true) i := fun i => by
      rw [z401]
      have : wrO O R 0 = wr1O o r := by rw [← h0, ← hr0];rfl
      rw [this];rfl
    refine ⟨fun i hi => ?_, ?_, ?_⟩
    · cases i with
      | zero => rw [h0, hr0];exact hs
      | succ i => rw [hE, hOb];exact h1 i (by simpa using hi)
    · simp only [List.length_cons];rw [hE];exact h2
    · simp only [List.length_cons];rw [hOb];exact h3
theorem z569 {ops : Array Oper} {x y : Oper} {r s : StepR} {ord : Prop} (h : z319 (acc1 ops x r) (acc1 ops y s) = true → ord) : Apart ops x y r s ord := by
  have hw : ∀ (o : Oper) (r : StepR), (acc1 ops o r).rt = z349 ops o ∧ (acc1 ops o r).wt = o.dst.toList := fun o r => by
    unfold acc1;split <;> exact ⟨rfl, rfl⟩
  have c1 : z230 (acc1 ops x r).wt (acc1 ops y s).rt = true → z319 (acc1 ops x r) (acc1 ops y s) = true := fun h => by unfold z319;rw [h]
  have c2 : z230 (acc1 ops x r).wt (acc1 ops y s).wt = true → z319 (acc1 ops x r) (acc1 ops y s) = true := fun h => by unfold z319;rw [h];cases z230 (acc1 ops x r).wt (acc1 ops y s).rt <;> rfl
  have c3 : z230 (acc1 ops x r).rt (acc1 ops y s).wt = true → z319 (acc1 ops x r) (acc1 ops y s) = true := fun h => by unfold z319;rw [h];cases z230 (acc1 ops x r).wt (acc1 ops y s).rt <;> cases z230 (acc1 ops x r).wt (acc1 ops y s).wt <;> rfl
  have c4 : ((acc1 ops x r).ow || (acc1 ops y s).ow) = true → z230 (acc1 ops x r).oa (acc1 ops y s).oa = true → z319 (acc1 ops x r) (acc1 ops y s) = true := fun h h' => by unfold z319;rw [h, h'];cases z230 (acc1 ops x r).wt (acc1 ops y s).rt <;> cases z230 (acc1 ops x r).wt (acc1 ops y s).wt <;> cases z230 (acc1 ops x r).rt (acc1 ops y s).wt <;> rfl
  refine ⟨fun d h1 h2 => h (c1 ?_), fun d h1 h2 => h (c2 ?_), fun d h1 h2 => h (c3 ?_), fun c c' hr hs hc hc' he ho => h (c4 ?_ ?_)⟩
  · rw [(hw x r).2, (hw y s).1];exact z322 (x := d) (by simp [h1]) h2
  · rw [(hw x r).2, (hw y s).2];exact z322 (x := d) (by simp [h1]) (by simp [h2])
  · rw [(hw x r).1, (hw y s).2];exact z322 (x := d) h1 (by simp [h2])
  · unfold acc1;rw [hr, hs];simpa [z515] using ho
  · unfold acc1;rw [hr, hs]
    exact z322 (x := c.o) (List.mem_map.2 ⟨c, hc, rfl⟩) (List.mem_map.2 ⟨c', hc', he.symm⟩)
theorem awp_draw (hT : z135 P T) (hM : P.follows .mixedOrders = true) {m id n : Nat} {ops : Array Oper} {Q : Exit → St → Prop} {env : List (Nat × AC)} {objs : List AObj}
    (h : z223 T P ops n env objs ops.toList [] fun env objs => Q .normal (mkSt n env objs)) : AWP P m (.region id ops true) Q (mkSt n env objs) := fun G a w hR => by
  obtain ⟨rs, env', objs', hch, hok, hlen, hK⟩ := chain_of hT _ _ _ _ _ h
  rw [List.nil_append] at hok
  have hlen : rs.length = ops.size := by simpa using hlen
  have hO : ∀ (i : Nat) (o : Oper), ops.toList[i]? = some o → ops.toList.getD i default = o := fun i o h => by rw [List.getD_eq_getElem?_getD, h];rfl
  have hRr : ∀ (i : Nat) (r : StepR), rs[i]? = some r → rs.getD i default = r := fun i r h => by rw [List.getD_eq_getElem?_getD, h];rfl
  obtain ⟨h1, h2, h3⟩ := z712 hch (fun i => ops.toList.getD i default) (fun i => rs.getD i default) hO hRr
  rw [Array.length_toList] at h1 h2 h3
  unfold z104 at hok
  split at hok
  · rename_i bs hbs
    obtain ⟨_, hb2, hb3⟩ := z513 ops.toList [] bs hbs
    have hoi : ∀ i, i < ops.size → ops.toList[i]? = some (ops.toList.getD i default) := fun i hi => by
      rw [List.getD_eq_getElem?_getD, List.getElem?_eq_getElem (by simpa using hi)];rfl
    have hri : ∀ i, i < ops.size → rs[i]? = some (rs.getD i default) := fun i hi => by
      rw [List.getD_eq_getElem?_getD, List.getElem?_eq_getElem (by omega)];rfl
    have hacc : ∀ i, i < ops.size → ((ops.toList.zip rs).map fun p => acc1 ops p.1 p.2)[i]? = some (acc1 ops (ops.toList.getD i default) (rs.getD i default)) := fun i hi => by
      have := List.getElem?_zip_eq_some (z := (ops.toList.getD i default, rs.getD i default)).2 ⟨hoi i hi, hri i hi⟩
      rw [List.getElem?_map, this];rfl
    have H : RegOk P ops n (z120 env) (z86 objs) (fun i => ops.toList.getD i default) (fun i => rs.getD i default) (fun i j => (bs.getD j 0).testBit i = true) := by
      refine ⟨fun i hi => by simpa using hoi i hi, h1, fun i j hij hj => ?_, fun i j hj ho => ?_, fun j hj e he hb => ?_⟩
      · refine z569 fun hc => ?_
        exact z623 _ [] (by simpa using hok) i j _ _ hij (by simp) (by simpa using hacc i (by omega)) (by simpa using hacc j hj) hc
      · obtain ⟨hbl, bs', hbj, hbq⟩ := hb3 j _ (hoi j hj)
        simp only [List.length_nil, Nat.zero_add] at hbl hbj hbq
        have ho : (bs.getD j 0).testBit i = true := ho
        rw [List.getD_eq_getElem?_getD, hbj] at ho
        obtain ⟨e, he, hb, hor⟩ := z441 _ ho
        have hlt := z234 _ hbl e he hb
        refine ⟨e, by simpa using he, hb, hlt, hor.imp (fun h => h) fun h => ?_⟩
        rw [← hbq e.on hlt];exact h
      · obtain ⟨hbl, _⟩ := hb3 j _ (hoi j hj)
        simp only [List.length_nil, Nat.zero_add] at hbl
        exact z234 _ hbl e (by simpa using he) hb
    refine wp_region_any hM ?_
    have hgd : ∀ i, (Array.replicate ops.size false).getD i false = false := fun i => by
      rw [Array.getD_eq_getD_getElem?]
      by_cases hi : i < ops.size
      · rw [Array.getElem?_replicate, if_pos hi];rfl
      · rw [Array.getElem?_replicate, if_neg hi];rfl
    have hnone : ∀ {α : Type} (wr : Nat → List (Nat × α)) (f : Nat → α) (k : Nat), runX wr f (fun i => (Array.replicate ops.size false).getD i false) k = f := by
      intro α wr f k
      induction k with
      | zero => rfl
      | succ k ih => rw [z306 (hgd k), ih]
    refine z724 (next := objs.length) (m := m) (G0 := G) (w0 := w) H (fun G' a' w' hs hl hR' => ?_) ops.size _ G a _ (by simp) (by
      refine Nat.le_trans List.countP_le_length ?_
      simp) (fun j hj hXj => by
        have h0 : (Array.replicate ops.size false).getD j false = true := hXj
        rw [hgd j] at h0;cases h0) (SubM.refl m G) ⟨rfl, rfl, rfl, Nat.le_refl _⟩ ?_
    · exact ⟨G', mkSt n env' objs', hs, hl, hK, hR'.same h2.symm h3.symm rfl⟩
    · rw [hnone, hnone]
      exact ⟨⟨hR.wf.hS, hR.wf.hU, hR.wf.su, hR.wf.sk, hR.wf.objs⟩, hR.env, hR.size, hR.defers⟩
  · cases hok
def vcS (T : Tab) (P : Program) (m : Nat) (c : Code) (n : Nat) (env : List (Nat × AC)) (objs : List AObj) (Q : Exit → St → Prop) : Prop := match c with
  | .region _ ops true => z223 T P ops n env objs ops.toList [] fun env objs => Q .normal (mkSt n env objs)
  | .seq a b => vcS T P m a n env objs (z460 (AWP P m b Q) Q)
  | c => vc1 T P m c n env objs Q
def isStep : Code → Bool
  | .region .. => true
  | .seq a _ => isStep a
  | .cond .. => true
  | .block .. => true
  | .skip => true
  | .ret => true
  | .exit _ => true
  | _ => false
structure Ok (P : Program) (T : Tab) : Prop where
  tab : z135 P T
  mixed : P.follows .mixedOrders = true
theorem AWP.go (hT : Ok P T) {m : Nat} (c : Code) (n : Nat) (env : List (Nat × AC)) (objs : List AObj) (Q : Exit → St → Prop) (_hc : isStep c = true) (h : vcS T P m c n env objs Q) : AWP P m c Q (mkSt n env objs) := by
  induction c generalizing Q with
  | region id ops draw => cases draw with
    | true => exact awp_draw hT.tab hT.mixed h
    | false => exact AWP.step hT.tab _ n env objs Q h
  | seq a b iha _ => exact z718 (iha _ _hc h)
  | _ => exact AWP.step hT.tab _ n env objs Q h
end Go.Gl

namespace Go.Gl
variable {P : Program} {T : Tab} {st : St} {K : OpK}
theorem fill_set {α : Type} (f : α → List AC) (l : List α) (z : List AC) (k : Nat) (h : k < l.length) :
    ((l.take k).map f ++ List.replicate (l.length - k) z).set k (f l[k]) = (l.take (k + 1)).map f ++ List.replicate (l.length - (k + 1)) z := by
  apply List.ext_getElem?
  intro i
  have e1 : min k l.length = k := by omega
  have e2 : min (k + 1) l.length = k + 1 := by omega
  simp only [List.getElem?_set, List.getElem?_append, List.length_map, List.length_take, List.getElem?_map, List.getElem?_take, List.getElem?_replicate, List.length_append, List.length_replicate, e1, e2]
  by_cases h1 : k = i
  · subst h1
    rw [if_pos rfl, if_pos (by omega), if_pos (by omega), if_pos (by omega), List.getElem?_eq_getElem h]
    rfl
  · rw [if_neg h1]
    by_cases h2 : i < k
    · have h3 : i < k + 1 := by omega
      simp [h2, h3]
    · have h3 : ¬ i < k + 1 := by omega
      rw [if_neg h2, if_neg h3]
      by_cases h4 : i - k < l.length - k
      · have h5 : i - (k + 1) < l.length - (k + 1) := by omega
        rw [if_pos h4, if_pos h5]
      · have h5 : ¬ i - (k + 1) < l.length - (k + 1) := by omega
        rw [if_neg h4, if_neg h5]
theorem fill_get {α : Type} (f : α → List AC) (l : List α) (z : List AC) (k : Nat) (h : k < l.length) :
    ((l.take k).map f ++ List.replicate (l.length - k) z)[k]? = some z := by
  rw [List.getElem?_append_right (by simp;omega), List.getElem?_replicate, if_pos (by simp;omega)]
theorem z263 {α : Type} (f : α → List AC) (l : List α) (i : Nat) (h : i < l.length) : (l.map f)[i]? = some (f l[i]) := by simp [h]
theorem z11 {p : Prop} [Decidable p] {A B : Prop} (h1 : ¬ p → A) (h2 : p → B) : vcIf (!decide p) A B := by
  by_cases h : p
  · rw [decide_eq_true h];exact h2 h
  · rw [decide_eq_false h];exact h1 h
def z563 : AObj → Prop
  | .cells _ es => Flat es
  | .dead => True
  | .fresh => False
theorem z562 {x : AObj} (h : z563 x) (r : Nat → Nat) : z132 r x = x := by
  cases x with
  | cells w es => exact Flat.ren h r
  | _ => rfl
theorem z438 {x : AObj} (h : z563 x) (M : Nat) : z267 M x := by
  cases x with
  | cells w es => exact fun e he => z264 (h e he) M
  | dead => trivial
  | fresh => exact h.elim
def newsK (st : St) (k : Nat) (q : Nat) (K : List Nat → Prop) : Prop := match k with
  | 0 => K []
  | k + 1 => match st.objs q with
    | .fresh => newsK st k (q + 1) fun ν => K (q :: ν)
    | _ => False
theorem z628 {k q : Nat} {K : List Nat → Prop} (h : newsK st k q K) : ∃ ν, K ν ∧ ν.length = k ∧ ∀ o ∈ ν, z297 (st.objs o) = true := by
  induction k generalizing q K with
  | zero => exact ⟨[], h, rfl, by simp⟩
  | succ k ih =>
    simp only [newsK] at h
    split at h
    · rename_i hq
      obtain ⟨ν, h1, h2, h3⟩ := ih h
      refine ⟨q :: ν, h1, by simp [h2], fun o ho => ?_⟩
      rcases List.mem_cons.1 ho with rfl|ho
      · rw [hq];rfl
      · exact h3 o ho
    · exact h.elim
def z198 : List Nat → Bool
  | [] => true
  | x :: xs => match inB xs x with
    | true => false
    | false => z198 xs
theorem z150 {l : List Nat} (h : z198 l = true) : l.Nodup := by
  induction l with
  | nil => exact List.nodup_nil
  | cons x xs ih =>
    simp only [z198] at h
    split at h
    · cases h
    · rename_i hb
      refine List.nodup_cons.2 ⟨fun hm => ?_, ih h⟩
      rw [z213.2 hm] at hb;cases hb
mutual
def renK (r : Nat → Nat) (x : AC) (K : AC → Prop) : Prop := match x with
  | .any => K .any
  | .raw v => K (.raw v)
  | .list w n es => K (.list w n es)
  | .pt cs => K (.pt cs)
  | .sref o off len => z233 (r o) fun q => K (.sref q off len)
  | .ptr o i off => z233 (r o) fun q => K (.ptr q i off)
  | .own w es => K (.own w es)
  | .fn f a b => z543 r a fun a' => z543 r b fun b' => K (.fn f a' b')
  | .agg cs => z543 r cs fun cs' => K (.agg cs')
  | .tup cs => z543 r cs fun cs' => K (.tup cs')
termination_by structural x
def z543 (r : Nat → Nat) (xs : List AC) (K : List AC → Prop) : Prop := match xs with
  | [] => K []
  | x :: xs => renK r x fun x' => z543 r xs fun r' => K (x' :: r')
termination_by structural xs
end
mutual
theorem z348 (r : Nat → Nat) (x : AC) (K : AC → Prop) : renK r x K = K (x.ren r) := by
  match x with
  | .any => rfl
  | .raw _ => rfl
  | .list .. => rfl
  | .pt _ => rfl
  | .sref .. => simp only [renK, z126, AC.ren]
  | .ptr .. => simp only [renK, z126, AC.ren]
  | .own .. => rfl
  | .fn f a b => simp only [renK, AC.ren];rw [z273 r a];rw [z273 r b]
  | .agg cs => simp only [renK, AC.ren];rw [z273 r cs]
  | .tup cs => simp only [renK, AC.ren];rw [z273 r cs]
termination_by structural x
theorem z273 (r : Nat → Nat) (xs : List AC) (K : List AC → Prop) : z543 r xs K = K (renL r xs) := by
  match xs with
  | [] => rfl
  | x :: xs => simp only [z543, renL];rw [z348 r x];rw [z273 r xs]
termination_by structural xs
end
theorem z507 {f : FuncId} {first caps args args0 : List AC} {objs0 objs1 : List AObj} {res : AC} (π Bn : List Nat) (h : CallsA P f args0 objs0 res objs1) (hb : borL st.objs π Bn (first ++ (args ++ caps)) = args0) (hp : π.map (z113 st.objs π Bn) = objs0)
    (hπ : ∀ o ∈ π, z160 (st.objs o) = true) (hu : res.under objs1.length = true) (hf : ∀ x ∈ objs1, z563 x) (hpl : Bn = [] ∨ (res.plain = true ∧ ∀ x ∈ objs1, z244 x)) (hlen : π.length ≤ objs1.length)
    (k : z233 st.next fun q => newsK st (objs1.length - π.length) q fun ν => z99 (z198 (π ++ ν ++ Bn)) (renK (z92 0 (π ++ ν)) res fun res1 => K res1 (z189 st (π ++ ν) objs1 ++ Bn.map st.rd))) : z85 P st (.fn (.func f) first caps) args K := by
  rw [z126] at k
  obtain ⟨ν, k, h1, h2⟩ := z628 k
  obtain ⟨h3, k⟩ := z83 k
  rw [z348] at k
  have hmap : objs1.map (z132 (z92 0 (π ++ ν))) = objs1 := by
    conv => rhs;rw [← List.map_id objs1]
    exact List.map_congr_left fun x hx => z562 (hf x hx) _
  refine ⟨⟨π, Bn, ν, args0, objs0, res, objs1, res.ren (z92 0 (π ++ ν)), objs1⟩, ⟨h, hb, hp, z150 h3, hπ, h2, ?_, rfl, hmap, hu, fun x hx => z438 (hf x hx) _, hpl⟩, ?_⟩
  · simp [h1];omega
  · exact k
mutual
theorem z195 (x : AC) {r : Nat → Nat} (h : x.under 0 = true) : x.ren r = x := by
  match x with
  | .any => rfl
  | .raw _ => rfl
  | .list .. => rfl
  | .pt _ => rfl
  | .sref .. => simp [AC.under, Nat.blt_eq] at h
  | .ptr .. => simp [AC.under, Nat.blt_eq] at h
  | .own .. => rfl
  | .fn f a b =>
    simp only [AC.under] at h
    cases h1 : z131 0 a <;> rw [h1] at h
    · simp at h
    · simp only [AC.ren];rw [z173 a h1];rw [z173 b h]
  | .agg cs => simp only [AC.under] at h;simp only [AC.ren];rw [z173 cs h]
  | .tup cs => simp only [AC.under] at h;simp only [AC.ren];rw [z173 cs h]
termination_by structural x
theorem z173 (xs : List AC) {r : Nat → Nat} (h : z131 0 xs = true) : renL r xs = xs := by
  match xs with
  | [] => rfl
  | x :: xs =>
    simp only [z131] at h
    cases h1 : x.under 0 <;> rw [h1] at h
    · simp at h
    · simp only [renL];rw [z195 x h1];rw [z173 xs h]
termination_by structural xs
end
theorem z48 {f : FuncId} {first caps args args0 : List AC} {res : AC} (h : CallsA P f args0 [] res []) (hb : borL st.objs [] [] (first ++ (args ++ caps)) = args0) (hu : res.under 0 = true) (k : z279 res fun r => K r []) : z85 P st (.fn (.func f) first caps) args K := by
  refine z507 [] [] h hb rfl (by simp) hu (by simp) (.inl rfl) (Nat.le_refl _) ?_
  rw [z126]
  show z99 true _
  rw [z348]
  rw [z125] at k
  show K (res.ren (z92 0 [])) []
  rw [z195 res hu]
  exact k
end Go.Gl

namespace Go.Gl
variable {P : Program} {T : Tab}
def Reach (m : Nat) (st st' : St) : Prop := ∀ G a w, Rel G st a w → ∃ G', SubM m G G' ∧ Rel G' st' a w
theorem Reach.trans {m : Nat} {a b c : St} (h : Reach m a b) (k : Reach m b c) : Reach m a c := fun G ac w hR => by
  obtain ⟨G1, h1, h2⟩ := h G ac w hR
  obtain ⟨G2, h3, h4⟩ := k G1 ac w h2
  exact ⟨G2, h1.trans h3, h4⟩
theorem PickL.reach {π : List Nat} {m n : Nat} {st : St} {env : List (Nat × AC)} {objs : List AObj} (h : PickL π m n st env objs) : Reach m st (mkSt n env objs) := fun G a w hR => by
  obtain ⟨π', h1, h2⟩ := h.ok
  exact ⟨G.pick π', SubM.pick h1, hR.pick h2⟩
theorem AWP.reach {m : Nat} {c : Code} {Q : Exit → St → Prop} {st st' : St} (hp : Reach m st st') (h : AWP P m c Q st') : AWP P m c Q st := fun G a w hR => by
  obtain ⟨G', h1, h2⟩ := hp G a w hR
  exact wp_mono (h G' a w h2) fun ex a' w' hq => hq.trans h1 (Le.refl w)
theorem z719 {α : Type} {m n : Nat} {env : List (Nat × AC)} {objs : List AObj} {body : Code} {Q : Exit → St → Prop} (I : α → List (Nat × AC) × List AObj) (ok : α → Prop) (μ : α → Nat) (x0 : α) (h0 : ok x0) (hinit : Reach m (mkSt n env objs) (mkSt n (I x0).1 (I x0).2))
    (round : ∀ x, ok x → AWP P m body (z460 (fun st' => ∃ y, ok y ∧ μ y < μ x ∧ Reach m st' (mkSt n (I y).1 (I y).2)) Q) (mkSt n (I x).1 (I x).2)) : AWP P m (.loop body) Q (mkSt n env objs) := fun G a w hR => by
  let J : Act → World → Nat → Prop := fun a' w' k => ∃ x, ok x ∧ μ x = k ∧ ∃ G', SubM m G G' ∧ Le w w' ∧ Rel G' (mkSt n (I x).1 (I x).2) a' w'
  refine wp_loop (fun a' w' => ∃ k, J a' w' k) (fun a' w' => z355 (J a' w')) ?_ ?_
  · obtain ⟨G', h1, h2⟩ := hinit G a w hR
    exact ⟨_, x0, h0, rfl, G', h1, Le.refl w, h2⟩
  · rintro a' w' ⟨k, hk⟩
    obtain ⟨⟨x, hx, hμ, G', hs, hl, hR'⟩, _⟩ := z180 hk
    refine wp_mono (round x hx G' a' w' hR') fun ex a'' w'' hq => ?_
    cases ex with
    | normal =>
      obtain ⟨G'', st'', h1, h2, ⟨y, hy, hlt, hp⟩, h4⟩ := hq
      obtain ⟨G3, h5, h6⟩ := hp G'' a'' w'' h4
      have hJ' : J a'' w'' (μ y) := ⟨y, hy, rfl, G3, (hs.trans h1).trans h5, hl.trans h2, h6⟩
      refine ⟨⟨_, hJ'⟩, ?_⟩
      have := (z180 hJ').2
      omega
    | _ => exact hq.trans hs hl
noncomputable def Ghost.seal_ (G : Ghost) (h : Nat → Option Obj) (π Bn : List Nat) : Ghost := { G.sub h π Bn with U := G.U }
structure SealL (π Bn : List Nat) (m n : Nat) (st : St) (env : List (Nat × AC)) (objs : List AObj) : Prop where
  n : st.n = n
  nodup : z198 π = true
  dis : ∀ o ∈ π, o ∉ Bn
  fix : z216 m 0 π = true
  alive : ∀ o ∈ π, z160 (st.objs o) = true
  env : z600 (fun s x => bor st.objs π Bn (st.env s) = x) env
  obj : π.map (z113 st.objs π Bn) = objs
theorem SealL.reach {π Bn : List Nat} {m n : Nat} {st : St} {env : List (Nat × AC)} {objs : List AObj} (h : SealL π Bn m n st env objs) : Reach m st (mkSt n env objs) := fun G a w hR => by
  have hn := z150 h.nodup
  have hW := z725 (Bn := Bn) hR.wf hn h.dis h.alive
  rw [h.obj] at hW
  have hbor := z285 (π := π) (Bn := Bn) hR.wf
  have hW' : Wf (G.seal_ (hp w) π Bn) (z86 objs) w := by
    refine ⟨hW.hS, hR.wf.hU, fun b x hu => ?_, fun b p hk => ?_, fun o => ?_⟩
    · have hu : G.U b = some x := hu
      cases hkb : G.κ b with
      | none => show (G.sub (hp w) π Bn).S b = none;simp [Ghost.sub, hkb];exact hR.wf.su b x hu
      | some p => have := (hR.wf.sk b p hkb).2.1;rw [hu] at this;cases this
    · have hk' : (G.sub (hp w) π Bn).κ b = some p := hk
      obtain ⟨h1, _, h3⟩ := hW.sk b p hk'
      refine ⟨h1, ?_, h3⟩
      show G.U b = none
      cases hkb : G.κ b with
      | none => simp [Ghost.sub, hkb] at hk'
      | some q => exact (hR.wf.sk b q hkb).2.1
    · refine z196 (G := G.sub (hp w) π Bn) (h := hp w) (fun _ _ e => e) (fun _ _ e => e) rfl (fun b p _ hk => ⟨hk, rfl⟩) (hW.objs o)
  refine ⟨G.seal_ (hp w) π Bn, ⟨⟨fun b x e => hbor.S b x e, rfl⟩, fun o t ho e => ?_⟩, ⟨hW', fun s => ?_, by show _ = n;rw [← h.n];exact hR.size, hR.defers⟩⟩
  · have := z142 m 0 π h.fix o ho
    rw [Nat.zero_add] at this
    exact sub_ι (w := w) (Bn := Bn) (z187 hn this) e
  · rcases z366 env _ h.env s with he|he
    · show V _ _ none (z120 env s) _
      rw [he];simp [V]
    · show V _ _ none (z120 env s) _
      rw [← he]
      have := V_bor _ hbor _ (hR.env s)
      exact z177 (G := G.sub (hp w) π Bn) (G' := G.seal_ (hp w) π Bn) (fun _ _ e => e) (fun _ _ e => e) this
theorem z446 {objs : Nat → AObj} {π Bn : List Nat} {o w len : Nat} {es : List (List AC)} (ho : objs o = .cells w es) (h1 : idx π o = none) (h2 : inB Bn o = true) (hl : es.length = len) : bor objs π Bn (.sref o 0 len) = .list w len (z95 es) := by
  simp only [bor, h1, h2, ho]
  rw [if_pos (by omega)]
  rw [List.drop_zero, List.take_of_length_le (by rw [z190];simp [hl])]
theorem z459 {es : List (List AC)} (h : ∀ e ∈ es, ∀ x ∈ e, x.unown = x) : z95 es = es := by
  rw [z190]
  conv => rhs;rw [← List.map_id es]
  refine List.map_congr_left fun e he => ?_
  conv => rhs;rw [id, ← List.map_id e]
  exact List.map_congr_left fun x hx => h e he x hx
noncomputable def Ghost.absorb (G : Ghost) (o q pos : Nat) : Ghost := { G with κ := fun b => match G.κ b with
  | some (q', p) => if q' = q then some (o, p ++ [pos]) else some (q', p)
  | none => none }
theorem z648 (x : AC) {G : Ghost} {h : Nat → Option Obj} {l : Loc} {v : Value} (hf : x.flat = true) (hv : V G h l x v) : V G.bare h l x v := by
  cases x <;> first|(cases hf;done)|(simp only [V] at hv ⊢ <;> exact hv)|simp only [V]
theorem z519 {G : Ghost} {h : Nat → Option Obj} {l : Loc} {w : Nat} {es : List (List AC)} {c : Array Value} {off : Nat} (hf : Flat es) (hc : VLL G h l w es c off) : VLL G.bare h l w es c off := by
  rw [z97] at hc ⊢
  intro i e he
  obtain ⟨h1, h2⟩ := hc i e he
  refine ⟨h1, ?_⟩
  rw [z89] at h2 ⊢
  intro j x hx
  obtain ⟨v, hv1, hv2⟩ := h2 j x hx
  exact ⟨v, hv1, z648 x (z203.1 (hf e (List.mem_of_getElem? he)) x (List.mem_of_getElem? hx)) hv2⟩
theorem absorb_S {G : Ghost} {o q pos : Nat} : ∀ b x, G.S b = some x → (G.absorb o q pos).S b = some x := fun _ _ e => e
theorem Wf.absorb {G : Ghost} {objs : Nat → AObj} {w : World} (hW : Wf G objs w) {o q k j wd wd2 n : Nat} {es es2 : List (List AC)} {e : List AC} (ho : objs o = .cells wd es) (he : es[k]? = some e) (hj : e[j]? = some (.sref q 0 n)) (hq : objs q = .cells wd2 es2) (hn : es2.length = n) (hoq : o ≠ q) (hfl : Flat es2) :
    Wf (G.absorb o q (k * wd + j)) (upd (upd objs o (.cells wd (es.set k (e.set j (.own wd2 es2))))) q .dead) w := by
  obtain ⟨b, c, el, hι, hκ, hb, hc⟩ := hW.obj ho he
  have hκ' : ∀ b' p, p.1 ≠ q → G.κ b' = some p → (G.absorb o q (k * wd + j)).κ b' = some p := by
    rintro b' ⟨q', p⟩ hne hk
    simp only [Ghost.absorb, hk, if_neg hne]
  have hκq : ∀ b' p, p.1 = q → G.κ b' = some p → (G.absorb o q (k * wd + j)).κ b' = some (o, p.2 ++ [k * wd + j]) := by
    rintro b' ⟨q', p⟩ rfl hk
    simp only [Ghost.absorb, hk, if_true]
  refine ⟨hW.hS, hW.hU, hW.su, fun b' p hk => ?_, fun o' => ?_⟩
  · cases hkb : G.κ b' with
    | none => simp [Ghost.absorb, hkb] at hk
    | some p' => exact hW.sk b' p' hkb
  · by_cases h1 : o' = q
    · subst h1;rw [z90];trivial
    · rw [z114 _ _ h1]
      by_cases h2 : o' = o
      · subst h2
        rw [z90]
        refine .inr ⟨b, c.size, c, el, hι, hκ' b (o', []) (by simpa using h1) hκ, hb, rfl, ?_⟩
        have hkl : k < es.length := by
          rcases Nat.lt_or_ge k es.length with h|h
          · exact h
          · rw [List.getElem?_eq_none h] at he;cases he
        have hmv : ∀ (x : AC) (pos : Nat) (v : Value), V G (hp w) (some (o', [pos])) x v → V (G.absorb o' q (k * wd + j)) (hp w) (some (o', [pos])) x v := fun x pos v hv => by
          have := z222 x G (G.absorb o' q (k * wd + j)) (hp w) (hp w) id (fun p => p.1 = o') (fun _ _ e => e) (fun _ _ e => e) (fun _ _ _ => rfl) (fun _ _ _ h => h) (fun b' p hp hk => ⟨hκ' b' p (by rw [hp];exact h1) hk, rfl⟩) (some (o', [pos])) v (fun p hp => by cases hp;rfl) hv
          simpa using this
        rw [z97] at hc ⊢
        intro i e' he'
        by_cases hik : i = k
        · subst hik
          rw [List.getElem?_set_self hkl] at he'
          cases he'
          obtain ⟨h3, h4⟩ := hc i e he
          refine ⟨by simpa using h3, ?_⟩
          rw [z89] at h4 ⊢
          intro jj x hx
          by_cases hjj : jj = j
          · subst hjj
            have hjl : jj < e.length := by
              rcases Nat.lt_or_ge jj e.length with h|h
              · exact h
              · rw [List.getElem?_eq_none h] at hj;cases hj
            rw [List.getElem?_set_self hjl] at hx
            cases hx
            obtain ⟨v, hv1, hv2⟩ := h4 jj _ hj
            refine ⟨v, hv1, ?_⟩
            simp only [V] at hv2
            obtain ⟨cap, hcap, hv2⟩ := hv2
            simp only [V, Loc.cell, Option.map_some]
            rcases hv2 with ⟨h5, ad, rfl⟩|⟨b2, s2, w2, h5, h6, rfl⟩
            · have hn0 : n = 0 := by omega
              subst hn0
              have : es2 = [] := List.eq_nil_of_length_eq_zero hn
              subst this
              exact ⟨ad, 0, rfl, Nat.le_refl _, .inl ⟨rfl, rfl⟩⟩
            · have hobq := hW.objs q
              rw [hq] at hobq
              rcases hobq with ⟨_, h7⟩|⟨b3, s3, c3, el3, h7, h8, h9, h10, h11⟩
              · rw [h5] at h7;cases h7
              · rw [h5] at h7;cases h7
                rw [Nat.zero_mul]
                refine ⟨some ⟨b2, 0, none⟩, cap, by rw [hn], by omega, .inr ⟨b2, c3, el3, (o', [i * wd + jj]), rfl, by rw [Nat.zero_add], by have := hκq b2 (q, []) rfl h8;simpa using this, h9, by rw [h10];simpa using h6, ?_⟩⟩
                have := z153 es2 G.bare (G.absorb o' q (i * wd + jj)).bare (hp w) (hp w) (fun p => (o', p.2 ++ [i * wd + jj])) (fun p => p.1 = q) (fun _ _ e => e) (fun _ _ e => e) (fun _ _ _ => rfl) (fun _ _ _ h => h) (fun b' p hp hk => ⟨hκq b' p hp hk, rfl⟩) (some (q, [])) wd2 c3 0 (fun p hp _ => by cases hp;rfl) (z519 hfl h11)
                simpa [Nat.zero_add] using this
          · rw [List.getElem?_set_ne (Ne.symm hjj)] at hx
            obtain ⟨v, hv1, hv2⟩ := h4 jj x hx
            exact ⟨v, hv1, by simpa [Loc.cell] using hmv x _ v (by simpa [Loc.cell] using hv2)⟩
        · rw [List.getElem?_set_ne (Ne.symm hik)] at he'
          obtain ⟨h3, h4⟩ := hc i e' he'
          refine ⟨h3, ?_⟩
          rw [z89] at h4 ⊢
          intro jj x hx
          obtain ⟨v, hv1, hv2⟩ := h4 jj x hx
          exact ⟨v, hv1, by simpa [Loc.cell] using hmv x _ v (by simpa [Loc.cell] using hv2)⟩
      · rw [z114 _ _ h2]
        exact z196 absorb_S (fun _ _ e => e) rfl (fun b' p hp hk => ⟨hκ' b' p (by rw [hp];exact h1) hk, rfl⟩) (hW.objs o')
end Go.Gl

namespace Go.Gl
open Go.RowKit Go.WideShapes Go.ChangeShapes
variable {P : Program}
def z270 (w : Nat → Option Obj) : Ghost := { S := w, U := fun _ => none, ι := fun _ => none, κ := fun _ => none }
theorem Wf.start (W : World) : Wf (z270 (hp W)) (z86 []) W where
  hS _ _ h := h
  hU _ _ h := by cases h
  su _ _ h := by cases h
  sk _ _ h := by cases h
  objs o := by
    show ObjRel _ _ o (z86 [] o)
    have : z86 [] o = .fresh := by simp [z86, z92]
    rw [this];rfl
def CellsV (h : Nat → Option Obj) : List AC → List Value → Prop
  | [], [] => True
  | x :: xs, v :: vs => V (z270 h) h none x v ∧ CellsV h xs vs
  | _, _ => False
theorem CellsV.length {h : Nat → Option Obj} : {xs : List AC} → {vs : List Value} → CellsV h xs vs → xs.length = vs.length
  | [], [], _ => rfl
  | _ :: _, _ :: _, h => by simp [h.2.length]
  | [], _ :: _, h => h.elim
  | _ :: _, [], h => h.elim
theorem CellsV.append {h : Nat → Option Obj} : {xs xs' : List AC} → {vs vs' : List Value} → CellsV h xs vs → CellsV h xs' vs' → CellsV h (xs ++ xs') (vs ++ vs')
  | [], _, [], _, _, k => k
  | _ :: _, _, _ :: _, _, h, k => ⟨h.1, h.2.append k⟩
  | [], _, _ :: _, _, h, _ => h.elim
  | _ :: _, _, [], _, h, _ => h.elim
theorem CellsV.get {h : Nat → Option Obj} : {xs : List AC} → {vs : List Value} → CellsV h xs vs → ∀ (j : Nat) (x : AC), xs[j]? = some x → ∃ v, vs[j]? = some v ∧ V (z270 h) h none x v
  | [], _, _, j, x, e => by cases e
  | x :: xs, v :: vs, k, 0, y, e => by cases e;exact ⟨v, rfl, k.1⟩
  | x :: xs, v :: vs, k, j + 1, y, e => by simpa using k.2.get j y (by simpa using e)
  | _ :: _, [], k, _, _, _ => k.elim
theorem CellsV.VL {h : Nat → Option Obj} {xs : List AC} {vs : List Value} (k : CellsV h xs vs) {c : Array Value} {off : Nat} (hc : ∀ j, j < vs.length → c[off + j]? = vs[j]?) : Go.Gl.VL (z270 h) h none xs c off := by
  rw [z89]
  intro j x hx
  obtain ⟨v, hv, hV⟩ := k.get j x hx
  refine ⟨v, ?_, by simpa [Loc.cell] using hV⟩
  have : j < vs.length := by
    rcases Nat.lt_or_ge j vs.length with h|h
    · exact h
    · rw [List.getElem?_eq_none h] at hv;cases hv
  rw [hc j this, hv]
mutual
def AC.wt (x : AC) : Nat := match x with
  | .list _ _ es => AC.wtLL es + 1
  | .raw _ => 1
  | .any => 1
  | .pt _ => 1
  | .sref .. => 1
  | .ptr .. => 1
  | .own .. => 1
  | .fn .. => 1
  | .agg _ => 1
  | .tup _ => 1
termination_by structural x
def AC.wtL (xs : List AC) : Nat := match xs with
  | [] => 0
  | x :: xs => AC.wt x + AC.wtL xs
termination_by structural xs
def AC.wtLL (es : List (List AC)) : Nat := match es with
  | [] => 0
  | e :: es => AC.wtL e + AC.wtLL es
termination_by structural es
end
def z368 {H : Type} (b : DataW H → Nat) : List (DataW H) → Nat
  | [] => 0
  | d :: r => b d + z368 b r
structure Bulk {H : Type} (b : DataW H → Nat) : Prop where
  lit : ∀ l, 1 ≤ b (.lit l)
  nil : 1 ≤ b .nil
  slice : ∀ es sp, z368 b es + 1 ≤ b (.slice es sp)
  agg : ∀ ps, z368 b ps ≤ b (.agg ps)
theorem z650 {H : Type} {b : DataW H → Nat} : (es : List (List AC)) → (ds : List (DataW H)) → (∀ (i : Nat) (e : List AC), es[i]? = some e → ∃ d, ds[i]? = some d ∧ AC.wtL e ≤ b d) → AC.wtLL es ≤ z368 b ds
  | [], _, _ => Nat.zero_le _
  | e :: es, [], h => by obtain ⟨d, hd, _⟩ := h 0 e rfl;cases hd
  | e :: es, d :: ds, h => by
    obtain ⟨d', hd, h1⟩ := h 0 e rfl
    cases hd
    have := z650 es ds fun i e' he => h (i + 1) e' (by simpa using he)
    simp only [AC.wtLL, z368]
    omega
def Opens (P : Program) (t : TypeId) (R : List AC → Prop) (k : Nat) : Prop := ∀ (H : Type) (enc : TypeId × Value → H) (b : DataW H → Nat) (_ : Bulk b) (W : World) (cs : List Value) (x : DataW H × List MemPlace),
  DataW.trod enc P W 0 (fun _ => true) true k t cs = some x → ∃ xs, R xs ∧ CellsV (hp W) xs cs ∧ AC.wtL xs ≤ b x.1
theorem Opens.imp {t : TypeId} {R R' : List AC → Prop} {k : Nat} (h : Opens P t R k) (hi : ∀ xs, R xs → R' xs) : Opens P t R' k := fun H enc b hB W cs x hx => by
  obtain ⟨xs, h1, h2⟩ := h H enc b hB W cs x hx
  exact ⟨xs, hi _ h1, h2⟩
theorem z681 {t : TypeId} {q : IntKind} (ht : P.underlying t = some (.int q)) (k : Nat) : Opens P t (fun xs => ∃ n, xs = [.raw (.int q n)] ∧ (Lit.int q n).wf = true) k := fun H enc b hB W cs x hx => by
  cases k with
  | zero => simp [DataW.trod] at hx
  | succ k =>
    unfold DataW.trod at hx
    rw [ht] at hx
    split at hx <;> simp_all
    next n _ =>
      obtain ⟨⟨rfl, h⟩, rfl⟩ := hx
      exact ⟨_, ⟨_, rfl, h⟩, by simp [CellsV, V], by simpa [AC.wtL, AC.wt] using hB.lit _⟩
theorem z624 {t : TypeId} {R : List AC → Prop} : Opens P t R 0 := fun H enc b hB W cs x hx => by simp [DataW.trod] at hx
theorem z367 {α : Type} {p : Nat → α → Prop} : ∀ (n : Nat), (∀ i, i < n → ∃ a, p i a) → ∃ l : List α, l.length = n ∧ ∀ i a, l[i]? = some a → p i a
  | 0, _ => ⟨[], rfl, fun i a h => by cases h⟩
  | n + 1, h => by
    obtain ⟨l, h1, h2⟩ := z367 n fun i hi => h i (by omega)
    obtain ⟨a, ha⟩ := h n (by omega)
    refine ⟨l ++ [a], by simp [h1], fun i b hb => ?_⟩
    by_cases hi : i < l.length
    · exact h2 i b (by rwa [List.getElem?_append_left hi] at hb)
    · rw [List.getElem?_append_right (by omega)] at hb
      obtain rfl : i = n := by
        have := (List.getElem?_eq_some_iff.1 hb).1
        simp at this
        omega
      simp [h1] at hb
      exact hb ▸ ha
theorem z548 {t e : TypeId} {R : List AC → Prop} {n : Nat} (ht : P.underlying t = some (.slice e)) (hc : P.cellsOf e = n) (hn : 0 < n) {k : Nat} (h : Opens P e R k) :
    Opens P t (fun xs => ∃ es, xs = [.list n es.length es] ∧ es.length ≤ maxLen ∧ ∀ y ∈ es, R y) (k + 1) := fun H enc b hB W cs x hx => by
  rcases DataW.trod_slice ht hx with ⟨rfl, rfl⟩|⟨a, len, cap, elems, rest, m, hm, rfl, rfl, hb, hl, hmx, hlen, hel, _, _⟩
  · refine ⟨_, ⟨[], rfl, by simp [maxLen], fun y hy => by cases hy⟩, ⟨?_, trivial⟩, by simpa [AC.wtL, AC.wt, AC.wtLL] using hB.nil⟩
    simp only [V]
    exact ⟨none, 0, rfl, Nat.le_refl _, by simp, .inl (by simp)⟩
  · obtain rfl : k = m := by omega
    have hcell : ∀ (ad : Addr) v, W.cell? ad = some v → ad.spot = none ∧ ∃ c el fz, W.heap[ad.block]? = some (.cells c el fz) ∧ c[ad.off]? = some v := by
      intro ad v hv
      simp only [World.cell?] at hv
      split at hv
      · next c el fz hh =>
        cases hsp : ad.spot with
        | none => exact ⟨rfl, c, el, fz, hh, by simpa [hsp] using hv⟩
        | some _ => simp [hsp] at hv
      · cases hv
    have elem : ∀ i, i < len → ∃ (cs : List Value) (y : List AC), R y ∧ CellsV (hp W) y cs ∧ (∃ d, (elems.map (·.1))[i]? = some d ∧ AC.wtL y ≤ b d) ∧ cs.length = n ∧ ∀ j, j < n → W.cell? ((a.add (i * n)).add j) = cs[j]? := by
      intro i hi
      have h1 := hel i hi
      rw [hc, List.getElem?_eq_getElem (by omega), Option.bind_eq_some_iff] at h1
      obtain ⟨cs, h2, h3⟩ := h1
      obtain ⟨y, hy, hcy, hwt⟩ := h H enc b hB W cs _ h3
      obtain ⟨_, hcl, hcg⟩ := World.cells?_some h2
      exact ⟨cs, y, hy, hcy, ⟨_, by rw [List.getElem?_map, List.getElem?_eq_getElem (by omega)];rfl, hwt⟩, hcl, hcg⟩
    rcases Nat.eq_zero_or_pos len with rfl|hpos
    · refine ⟨_, ⟨[], rfl, by simp [maxLen], fun y hy => by cases hy⟩, ⟨?_, trivial⟩, by
        have := hB.slice (elems.map (·.1)) (rest.map (·.1))
        simp [AC.wtL, AC.wt, AC.wtLL]
        omega⟩
      simp only [V]
      exact ⟨some a, cap, rfl, Nat.zero_le _, by simp, .inl (by simp)⟩
    · obtain ⟨hsp, c, el, fz, hblk⟩ : a.spot = none ∧ ∃ c el fz, W.heap[a.block]? = some (.cells c el fz) := by
        obtain ⟨cs, y, _, _, _, hcl, hcg⟩ := elem 0 hpos
        have := hcg 0 hn
        rw [List.getElem?_eq_getElem (by omega)] at this
        obtain ⟨h1, c, el, fz, h2, _⟩ := hcell _ _ this
        exact ⟨by simpa [Addr.add] using h1, c, el, fz, by simpa [Addr.add] using h2⟩
      have hadd : ∀ i j, ((a.add i).add j) = ⟨a.block, a.off + (i + j), none⟩ := by
        intro i j
        obtain ⟨b, o, sp⟩ := a
        simp only at hsp
        subst hsp
        simp only [Addr.add]
        split <;> split <;> simp_all [Nat.add_assoc]
      obtain ⟨es, hes, hget⟩ := z367 (p := fun i y => (R y ∧ ∃ d, (elems.map (·.1))[i]? = some d ∧ AC.wtL y ≤ b d) ∧ y.length = n ∧ VL (z270 (hp W)) (hp W) none y c (a.off + i * n)) len (fun i hi => by
        obtain ⟨cs, y, hy, hcy, hwt, hcl, hcg⟩ := elem i hi
        refine ⟨y, ⟨hy, hwt⟩, by rw [hcy.length, hcl], hcy.VL fun j hj => ?_⟩
        have h1 := hcg j (by omega)
        rw [List.getElem?_eq_getElem hj] at h1 ⊢
        rw [hadd] at h1
        obtain ⟨_, c', _, _, h2, h3⟩ := hcell _ _ h1
        rw [hblk] at h2
        cases h2
        rw [← h3, Nat.add_assoc])
      refine ⟨_, ⟨es, rfl, by omega, fun y hy => ?_⟩, ⟨?_, trivial⟩, ?_⟩
      · obtain ⟨i, hi⟩ := List.getElem?_of_mem hy
        exact (hget i y hi).1.1
      · simp only [V]
        obtain ⟨bk, o, sp⟩ := a
        simp only at hsp
        subst hsp
        refine ⟨some ⟨bk, o, none⟩, cap, by rw [hes], by omega, trivial, .inr ⟨bk, o, c, el, fz, rfl, hblk, ?_⟩⟩
        rw [z97]
        exact fun i e he => (hget i e he).2
      · have := hB.slice (elems.map (·.1)) (rest.map (·.1))
        have := z650 es (elems.map (·.1)) fun i e he => (hget i e he).1.2
        simp [AC.wtL, AC.wt]
        omega
def ArgOk (P : Program) (t : TypeId) (R : AC → Nat → Prop) : Prop := ∀ (H : Type) (enc : TypeId × Value → H) (b : DataW H → Nat) (_ : Bulk b) (W : World) (r : _root_.Go.Reach) (b0 : Nat) (v : Value) (d : DataW H) (ps : List MemPlace),
  Value.okWide P W r b0 t v → DataW.Trod enc P W 0 (fun _ => true) true t v d ps → ∃ x m, R x m ∧ V (z270 (hp W)) (hp W) none x v ∧ m ≤ b d
theorem z576 {t e : TypeId} {R : List AC → Prop} (ht : P.underlying t = some (.slice e)) (h : ∀ k, Opens P t R k) : ArgOk P t fun x m => R [x] ∧ m = AC.wt x := fun H enc b hB W r b0 v d ps hv ⟨k, hk⟩ => by
  obtain ⟨a, len, cap, rfl⟩ := okWide_slice ht hv
  obtain ⟨xs, h1, h2, h3⟩ := h k H enc b hB W _ _ hk
  have hl := h2.length
  match xs, hl with
  | [x], _ => exact ⟨x, _, ⟨h1, rfl⟩, h2.1, by simpa [AC.wtL] using h3⟩
def ArgsOk (P : Program) : List TypeId → (List AC → Nat → Prop) → Prop
  | [], R => R [] 0
  | t :: ts, R => ∃ R1 R2, ArgOk P t R1 ∧ ArgsOk P ts R2 ∧ ∀ a m as n, R1 a m → R2 as n → R (a :: as) (m + n)
theorem z310 {H : Type} {enc : TypeId × Value → H} {b : DataW H → Nat} (hB : Bulk b) {W : World} {r : _root_.Go.Reach} {b0 : Nat} : (ts : List TypeId) → (vs : List Value) → (ds : List (DataW H)) → (ps : List MemPlace) → (R : List AC → Nat → Prop) → ArgsOk P ts R → 
    (∀ (j : Nat) t v, ts[j]? = some t → vs[j]? = some v → Value.okWide P W r b0 t v) → DataW.TrodAll enc P W 0 (fun _ => true) true ts vs ds ps → ∃ xs m, R xs m ∧ CellsV (hp W) xs vs ∧ m ≤ z368 b ds
  | [], [], [], _, R, h, _, _ => ⟨[], 0, h, trivial, Nat.zero_le _⟩
  | t :: ts, v :: vs, d :: ds, _, R, ⟨R1, R2, h1, h2, h3⟩, hv, ⟨p, q, h4, h5, _⟩ => by
    obtain ⟨x, m, hx, hV, hm⟩ := h1 H enc b hB W r b0 v d p (hv 0 t v rfl rfl) h4
    obtain ⟨xs, n, hxs, hVs, hn⟩ := z310 hB ts vs ds q R2 h2 (fun j t' v' e e' => hv (j + 1) t' v' (by simpa using e) (by simpa using e')) h5
    exact ⟨x :: xs, m + n, h3 x m xs n hx hxs, ⟨hV, hVs⟩, by simp only [z368];omega⟩
end Go.Gl

namespace Go.Gl
open Go.RowKit Go.WideShapes Go.ChangeShapes
variable {P : Program}
theorem below_of {G' : Ghost} {W W' : World} {o : Nat → AObj} (hle : Le W W') (hs : (z270 (hp W)).Sub G') (hw : Wf G' o W') : Below W.heap.size W W' where
  os := hle.os
  tape := hle.tape
  output := hle.output
  size := hle.size
  block k hk := by
    have h1 : (z270 (hp W)).S k = some W.heap[k] := by show W.heap[k]? = _;rw [Array.getElem?_eq_getElem hk]
    rw [hw.hS k _ (hs.S k _ h1), Array.getElem?_eq_getElem hk]
theorem z269 {H : Type} {enc : TypeId × Value → H} {W W' : World} (hl : laidOutB P = true) (hb : Below W.heap.size W W') {sp : Nat → Bool} : (ts : List TypeId) → (vs : List Value) → (ds : List (DataW H)) → (ps : List MemPlace) →
    (∀ t ∈ ts, P.readableRec t = true ∧ t < P.types.size) → (∀ p ∈ ps, p.block < W.heap.size) → (∀ p ∈ ps, sp p.block = true) →
    DataW.TrodAll enc P W 0 (fun _ => true) true ts vs ds ps → DataW.TrodAll enc P W' 0 sp true ts vs ds ps
  | [], [], [], _, _, _, _, h => h
  | t :: ts, v :: vs, d :: ds, _, ht, hlt, hs, ⟨p, q, h1, h2, e⟩ => by
    subst e
    exact ⟨p, q, WideElems.Trod_stays hl (ht t (by simp)).1 (ht t (by simp)).2 h1 (fun x hx => hb.same (hlt x (by simp [hx]))) (fun x hx => hs x (by simp [hx])),
      z269 hl hb ts vs ds q (fun t h => ht t (by simp [h])) (fun x hx => hlt x (by simp [hx])) (fun x hx => hs x (by simp [hx])) h2, rfl⟩
theorem post_of_below' {H : Type} {enc : TypeId × Value → H} {f : Func} {s : ChangeSpec} {apart fresh handsOn z105 : Bool} {W W' : World} {args : Array Value} {v : Value} {ds gs : List (DataW H)} {before pa pv : List MemPlace}
    (hW : DataW.Whole enc P f.params.toList s.vars apart W args.toList ds gs before)
    (hres : ∀ (b : Nat) (sp : Nat → Bool) (hd : Bool), DataW.TrodAll enc P W' b sp hd f.resultTypes.toList (v.resultList f.resultTypes.size) (s.fn H (ds ++ gs)).results [])
    (hargs : ∀ sp : Nat → Bool, (∀ p ∈ before, sp p.block = true) → DataW.TrodAll enc P W' 0 sp true f.params.toList args.toList (s.fn H (ds ++ gs)).args pa)
    (hvars : ∀ sp : Nat → Bool, (∀ p ∈ before, sp p.block = true) → DataW.TrodVars enc P W' sp s.vars (s.fn H (ds ++ gs)).vars pv)
    (hps : before = pa ++ pv) (hb : Below W.heap.size W W')
    (hok : ∀ (j : Nat) (t : TypeId) (r : Value), f.resultTypes[j]? = some t → (v.resultList f.resultTypes.size)[j]? = some r → Value.okWide P W' .any 0 t r) :
    s.post enc P f apart fresh handsOn z105 W args v W' := by
  have hlt : ∀ p ∈ before, p.block < W.heap.size := fun p hp => hW.lt p hp
  have hold : ∀ p ∈ before, (fun b => decide (b < W.heap.size)) p.block = true := fun p hp => by simpa using hlt p hp
  refine ⟨ds, gs, before, [], pa, pv, hW, hres _ _ _, hargs _ hold, hvars _ hold, World.keptBut_mono (fun p hp => ⟨hp, ?_⟩) (hb.frame (· ∈ before)), fun _ => ?_⟩
  · rw [hps, List.mem_append] at hp
    exact Or.inr hp
  · obtain ⟨_, _, _, _, _, hz, hn⟩ := hW
    refine ⟨hok, _, _, ([] ++ pa) ++ pv, ⟨[] ++ pa, pv, trodAll_append (hargs _ (fun _ _ => rfl)) (hres _ _ _), hvars _ (fun _ _ => rfl), rfl, ?_, ?_⟩, ?_⟩
    · intro b off hp
      have hin : MemPlace.cell b off ∈ before := by rw [hps];simpa using hp
      rw [hb.frozen (hlt _ hin)]
      exact hz b off hin
    · intro ha
      have := hn ha
      rw [hps] at this
      simpa using this
    · intro p hp _
      rw [hps]
      simpa using hp
theorem law_post {H : Type} {enc : TypeId × Value → H} {f : FuncId} {fn : Func} {s : ChangeSpec} {W : World} {args : Array Value} {ds gs : List (DataW H)} {before : List MemPlace} {R : List AC → Nat → Prop} {tb : TypeId} {r : _root_.Go.Reach} {b0 : Nat} {apart fresh handsOn z105 : Bool}
    {b : DataW H → Nat} (hB : Bulk b) (hl : laidOutB P = true) (hts : ∀ t ∈ fn.params.toList, P.readableRec t = true ∧ t < P.types.size)
    (hvars : s.vars = []) (hsp : ∀ ds : List (DataW H), ds.length = fn.params.size → s.fn H ds = { results := [.lit (.bool true)], args := ds }) (hres : fn.resultTypes = #[tb]) (hbool : P.underlying tb = some .bool)
    (hargs : ArgsOk P fn.params.toList R) (hC : ∀ xs m, R xs m → m ≤ z368 b ds → CallsA P f xs [] (.bool true) [])
    (hval : ∀ (j : Nat) t v, fn.params[j]? = some t → args[j]? = some v → Value.okWide P W r b0 t v)
    (hW : DataW.Whole enc P fn.params.toList s.vars apart W args.toList ds gs before) :
    Calls P f args W fun e W' => ∃ v, e = .returned v ∧ s.post enc P fn apart fresh handsOn z105 W args v W' := by
  have hW0 := hW
  obtain ⟨p, q, hA, hV, rfl, hz, hn⟩ := hW
  rw [hvars] at hV
  obtain ⟨rfl, rfl⟩ : gs = [] ∧ q = [] := by
    cases gs with
    | nil => exact ⟨rfl, hV⟩
    | cons _ _ => exact hV.elim
  obtain ⟨xs, m, hR, hcs, hm⟩ := z310 hB _ _ _ _ _ hargs (fun j t v e e' => hval j t v (by simpa using e) (by simpa using e')) hA
  have hlen : ds.length = fn.params.size := by
    have : ∀ (ts : List TypeId) (vs : List Value) (ds : List (DataW H)) (ps : List MemPlace), DataW.TrodAll enc P W 0 (fun _ => true) true ts vs ds ps → ds.length = ts.length := by
      intro ts
      induction ts with
      | nil => intro vs ds ps h;rw [(trodAll_nil h).2.1];rfl
      | cons t ts ih =>
        intro vs ds ps h
        obtain ⟨v, vs1, d, ds1, a, b, rfl, rfl, rfl, h1, h2⟩ := trodAll_cons h
        simp [ih _ _ _ h2]
    simpa using this _ _ _ _ hA
  have hsp' := hsp (ds ++ []) (by simpa using hlen)
  obtain ⟨_, hcall⟩ := hC xs m hR hm
  refine (hcall (z270 (hp W)) W args (Wf.start W) (by simpa using hcs.length.symm) (hcs.VL fun j _ => by simp)).mono fun e W' ⟨G', v, he, hs, _, hle, hw, hv⟩ => ?_
  subst he
  have hv : v = .bool true := by simpa [V] using hv
  subst hv
  have hb := below_of hle hs hw
  refine ⟨_, rfl, post_of_below' (pa := p) (pv := []) hW0 (fun _ _ _ => ?_) (fun sp hsp => ?_) (fun sp _ => ?_) rfl hb (ok_one hres rfl (okWide_bool_mk hbool _))⟩
  · rw [hsp', hres]
    exact trodAll_mk1 (shut_bool hbool _)
  · rw [hsp']
    simp only [List.append_nil] at hsp ⊢
    exact z269 hl hb _ _ _ _ hts (fun x hx => hW0.lt x (by simp [hx])) hsp hA
  · rw [hsp', hvars]
    rfl
theorem z336 {α : Type} {f : α → List AC} (h : ∀ a, ∀ x ∈ f a, x.unown = x) (l : List α) : z95 (l.map f) = l.map f :=
  z459 fun e he x hx => by
    obtain ⟨a, _, rfl⟩ := List.mem_map.1 he
    exact h a x hx
theorem bor_seal {objs : Nat → AObj} {π Bn : List Nat} {o w len : Nat} {es L : List (List AC)} (ho : objs o = .cells w es) (h1 : idx π o = none) (h2 : inB Bn o = true) (he : es = L) (hu : z95 L = L) (hl : L.length = len) : bor objs π Bn (.sref o 0 len) = .list w len L := by
  subst he
  rw [z446 ho h1 h2 hl, hu]
end Go.Gl

namespace Go.Gl
variable {P : Program}
theorem z26 {p : Prop} [Decidable p] {F : Bool → Prop} (h1 : p → F true) (h2 : ¬ p → F false) : vcG (decide p) F :=
  z36 (fun h => h1 (of_decide_eq_true h)) (fun h => h2 (of_decide_eq_false h))
theorem z18 {p : Prop} [Decidable p] {F : Bool → Prop} (h1 : ¬ p → F true) (h2 : p → F false) : vcG (!decide p) F := by
  by_cases h : p
  · rw [decide_eq_true h];exact h2 h
  · rw [decide_eq_false h];exact h1 h
theorem z25 {b : Bool} {F : Bool → Prop} (h1 : b = false → F true) (h2 : b = true → F false) : vcG (!b) F := by
  cases b
  · exact h1 rfl
  · exact h2 rfl
theorem z17 {b : Bool} {A B : Prop} (h1 : b = false → A) (h2 : b = true → B) : vcIf (!b) A B := by
  cases b
  · exact h1 rfl
  · exact h2 rfl
theorem z87 {m : Nat} {st : St} {res r : AC} (hm : z216 m 0 [] = true) (hu : res.under 0 = true) (h : r = res) : z100 m st res [] r :=
  ⟨[], List.nodup_nil, hm, hu, ACle.of_eq (by rw [z195 res hu, h]), trivial⟩
theorem z477 {m : Nat} {st : St} {res r : AC} (hm : z216 m 0 [] = true) (hu : res.under 0 = true) (h : ACle r res) : z100 m st res [] r :=
  ⟨[], List.nodup_nil, hm, hu, by rw [z195 res hu];exact h, trivial⟩
theorem z81 {m : Nat} {st : St} {b c : Bool} (hm : z216 m 0 [] = true) (h : c = b) : z100 m st (.raw (.bool c)) [] (.raw (.bool b)) := z87 hm rfl (by rw [h])
theorem z426 {m : Nat} {st : St} {b c : Int} (hm : z216 m 0 [] = true) (h : c = b) : z100 m st (.raw (.int .i64 c)) [] (.raw (.int .i64 b)) := z87 hm rfl (by rw [h])
theorem z91 {m : Nat} {st : St} {res r : AC} {objs' : List AObj} (π : List Nat) (h1 : π.Nodup) (h2 : z216 m 0 π = true) (h3 : res.under π.length = true) (h4 : r = res.ren (z92 0 π)) (h5 : z351 (fun o x => z144 π.length x ∧ st.objs o = z132 (z92 0 π) x) 0 π objs') : z100 m st res objs' r :=
  ⟨π, h1, h2, h3, ACle.of_eq h4, h5⟩
theorem z70 {M w : Nat} {r : Nat → Nat} {x : AObj} {e : List AC} (h : z131 M e = true) (hx : x = .cells w [renL r e]) : z144 M (.cells w [e]) ∧ x = z132 r (.cells w [e]) :=
  ⟨fun y hy => by rw [List.mem_singleton.1 hy];exact h, by rw [hx];rfl⟩
def idxS {α σ : Type} (p : α → σ → Bool) (nx : α → σ → σ) (l : List α) (s : σ) (k : Nat) : Int × σ := match l with
  | [] => (-1, s)
  | x :: r => if p x s then (k, nx x s) else idxS p nx r (nx x s) (k + 1)
def z108 {α : Type} (I : α → List (Nat × AC) × List AObj) (ok : α → Prop) (μ : α → Nat) (x : α) (m n : Nat) (st : St) : Prop := ∃ y π, ok y ∧ μ y < μ x ∧ PickL π m n st (I y).1 (I y).2
theorem z105 {α : Type} {I : α → List (Nat × AC) × List AObj} {ok : α → Prop} {μ : α → Nat} {x : α} {m n : Nat} {st : St} (y : α) (π : List Nat) (h1 : ok y) (h2 : μ y < μ x) (h3 : PickL π m n st (I y).1 (I y).2) : z108 I ok μ x m n st := ⟨y, π, h1, h2, h3⟩
theorem z116 {α : Type} {m n : Nat} {env : List (Nat × AC)} {objs : List AObj} {body : Code} {Q : Exit → St → Prop} (I : α → List (Nat × AC) × List AObj) (ok : α → Prop) (μ : α → Nat) (x0 : α) (h0 : ok x0) (hinit : ∃ π, PickL π m n (mkSt n env objs) (I x0).1 (I x0).2)
    (round : ∀ x, ok x → AWP P m body (z460 (fun st' => z108 I ok μ x m n st') Q) (mkSt n (I x).1 (I x).2)) : AWP P m (.loop body) Q (mkSt n env objs) :=
  z447 I ok μ x0 h0 hinit round
theorem z9 {α : Type} {f : α → List AC} {l : List α} {i : Nat} {K : List AC → Prop} (h : i < l.length) (k : ∀ h : i < l.length, K (f (l[i]'h))) : ∃ e, (l.map f)[(i : Int).toNat]? = some e ∧ K e := ⟨_, z263 _ _ _ h, k h⟩
theorem z28 {α : Type} {a : α} {K : α → Prop} (k : K a) : ∃ e, some a = some e ∧ K e := ⟨a, rfl, k⟩
theorem z146 {α : Type} (p : α → Bool) (l : List α) (k : Nat) (h : k < l.length) : (l.drop k).all p = (p l[k] && (l.drop (k + 1)).all p) := by
  rw [List.drop_eq_getElem_cons h, List.all_cons]
theorem z143 {α : Type} (p : α → Bool) (l : List α) (k : Nat) (h : l.length ≤ k) : (l.drop k).all p = true := by
  rw [List.drop_eq_nil_of_le h];rfl
theorem z601 {α : Type} (p : α → Bool) (l : List α) (k : Nat) (h : k < l.length) : (l.drop k).any p = (p l[k] || (l.drop (k + 1)).any p) := by
  rw [List.drop_eq_getElem_cons h, List.any_cons]
theorem z501 {α : Type} (p : α → Bool) (l : List α) (k : Nat) (h : l.length ≤ k) : (l.drop k).any p = false := by
  rw [List.drop_eq_nil_of_le h];rfl
theorem z27 {α : Type} {f : α → List AC} {l : List α} {i : Nat} {K : List AC → Prop} (h : i < l.length) (k : ∀ h : i < l.length, K (f (l[i]'h))) : ∃ e, (l.map f)[i]? = some e ∧ K e := ⟨_, z263 _ _ _ h, k h⟩
theorem z443 {P : Program} {st : St} {K : OpK} {f : FuncId} {first caps args args0 : List AC} {res : AC} (Bn : List Nat) (h : CallsA P f args0 [] res []) (hb : borL st.objs [] Bn (first ++ (args ++ caps)) = args0) (hu : res.under 0 = true) (hpl : res.plain = true) (hn : z198 Bn = true) (k : z279 res fun r => K r (Bn.map st.rd)) : z85 P st (.fn (.func f) first caps) args K := by
  refine z507 [] Bn h hb rfl (by simp) hu (by simp) (.inr ⟨hpl, by simp⟩) (Nat.le_refl _) ?_
  rw [z126]
  show z99 (z198 ([] ++ [] ++ Bn)) _
  rw [List.nil_append, List.nil_append, hn]
  show renK _ _ _
  rw [z348]
  rw [z125] at k
  show K (res.ren (z92 0 [])) _
  rw [z195 res hu]
  exact k
def z520 (M : Nat) (r : Nat → Nat) (x y : AObj) : Prop := z267 M x ∧ z132 r x = y
theorem z67 {M w : Nat} {r : Nat → Nat} {es : List (List AC)} (h : Flat es) : z520 M r (.cells w es) (.cells w es) :=
  ⟨fun e he => z264 (h e he) M, h.ren r⟩
theorem z71 {M w : Nat} {r : Nat → Nat} {e e' : List AC} (h : z131 M e = true) (he : renL r e = e') : z520 M r (.cells w [e]) (.cells w [e']) :=
  ⟨fun x hx => by rw [List.mem_singleton.1 hx];exact h, by simp [z132, he]⟩
theorem z68 {M : Nat} {r : Nat → Nat} : z520 M r .dead .dead := ⟨trivial, rfl⟩
def ObjsRen (M : Nat) (r : Nat → Nat) : List AObj → List AObj → Prop
  | [], ys => ys = []
  | x :: xs, ys => ∃ y zs, ys = y :: zs ∧ z520 M r x y ∧ ObjsRen M r xs zs
theorem z66 {M : Nat} {r : Nat → Nat} : ObjsRen M r [] [] := rfl
theorem z56 {M : Nat} {r : Nat → Nat} {x y : AObj} {xs ys : List AObj} (h : z520 M r x y) (k : ObjsRen M r xs ys) : ObjsRen M r (x :: xs) (y :: ys) := ⟨y, ys, rfl, h, k⟩
theorem ObjsRen.spec {M : Nat} {r : Nat → Nat} : ∀ {xs ys : List AObj}, ObjsRen M r xs ys → (∀ x ∈ xs, z267 M x) ∧ xs.map (z132 r) = ys := by
  intro xs
  induction xs with
  | nil => intro ys h;cases h;exact ⟨by simp, rfl⟩
  | cons x xs ih =>
    rintro ys ⟨y, zs, rfl, ⟨h1, h2⟩, h3⟩
    obtain ⟨h4, h5⟩ := ih h3
    refine ⟨fun z hz => ?_, by rw [List.map_cons, h2, h5]⟩
    rcases List.mem_cons.1 hz with rfl|hz
    · exact h1
    · exact h4 z hz
theorem z22 {objs : Nat → AObj} {π Bn : List Nat} {o w : Nat} {es : List (List AC)} (ho : objs o = .cells w es) (h : Flat es) : z113 objs π Bn o = .cells w es := by
  simp only [z113, ho, AObj.cells.injEq, true_and]
  conv => rhs;rw [← List.map_id es]
  refine List.map_congr_left fun e he => ?_
  conv => rhs;rw [id, ← List.map_id e]
  refine List.map_congr_left fun x hx => ?_
  have := z203.1 (h e he) x hx
  cases x <;> first|rfl|simp [AC.flat] at this
def PassOk (objs : Nat → AObj) (π Bn : List Nat) : List Nat → List AObj → Prop
  | [], ys => ys = []
  | o :: os, ys => ∃ y zs, ys = y :: zs ∧ z113 objs π Bn o = y ∧ PassOk objs π Bn os zs
theorem z15 {objs : Nat → AObj} {π Bn : List Nat} : PassOk objs π Bn [] [] := rfl
theorem z12 {objs : Nat → AObj} {π Bn : List Nat} {o : Nat} {os : List Nat} {y : AObj} {ys : List AObj} (h : z113 objs π Bn o = y) (k : PassOk objs π Bn os ys) : PassOk objs π Bn (o :: os) (y :: ys) := ⟨y, ys, rfl, h, k⟩
theorem PassOk.spec {objs : Nat → AObj} {π Bn : List Nat} : ∀ {os : List Nat} {ys : List AObj}, PassOk objs π Bn os ys → os.map (z113 objs π Bn) = ys := by
  intro os
  induction os with
  | nil => intro ys h;cases h;rfl
  | cons o os ih =>
    rintro ys ⟨y, zs, rfl, h1, h2⟩
    rw [List.map_cons, h1, ih h2]
def PlainObjs : List AObj → Prop
  | [] => True
  | x :: xs => z244 x ∧ PlainObjs xs
theorem PlainObjs.spec : ∀ {xs : List AObj}, PlainObjs xs → ∀ x ∈ xs, z244 x := by
  intro xs
  induction xs with
  | nil => intro _ x hx;cases hx
  | cons y xs ih =>
    intro h x hx
    rcases List.mem_cons.1 hx with rfl|hx
    · exact h.1
    · exact ih h.2 x hx
theorem z39 {α : Type} {f : α → List AC} (h : ∀ a, z161 (f a) = true) (l : List α) : z185 (l.map f) = true := by
  induction l with
  | nil => rfl
  | cons a l ih => simp only [List.map_cons, z185, h a, ih]
def allN (p : Nat → Bool) : List Nat → Bool
  | [] => true
  | x :: xs => match p x with
    | true => allN p xs
    | false => false
theorem z208 {p : Nat → Bool} {l : List Nat} (h : allN p l = true) : ∀ x ∈ l, p x = true := by
  induction l with
  | nil => intro x hx;cases hx
  | cons y l ih =>
    intro x hx
    simp only [allN] at h
    split at h
    · rename_i hy
      rcases List.mem_cons.1 hx with rfl|hx
      · exact hy
      · exact ih h x hx
    · cases h
theorem z29 {st : St} {K : OpK} {f : FuncId} {first caps args args0 : List AC} {objs0 objs1 objs1' : List AObj} {res : AC} (π Bn ν : List Nat) (h : CallsA P f args0 objs0 res objs1) (hb : borL st.objs π Bn (first ++ (args ++ caps)) = args0) (hp : PassOk st.objs π Bn π objs0)
    (hc : allN (fun o => z160 (st.objs o)) π = true) (hf : allN (fun o => z297 (st.objs o)) ν = true) (hn : z198 (π ++ ν ++ Bn) = true) (hl : Nat.beq objs1.length (π ++ ν).length = true) (hu : res.under objs1.length = true)
    (ho : ObjsRen objs1.length (z92 0 (π ++ ν)) objs1 objs1') (hpl : Bn = [] ∨ (res.plain = true ∧ PlainObjs objs1))
    (k : renK (z92 0 (π ++ ν)) res fun res1 => K res1 (z189 st (π ++ ν) objs1' ++ Bn.map st.rd)) : z85 P st (.fn (.func f) first caps) args K := by
  rw [z348] at k
  obtain ⟨h1, h2⟩ := ho.spec
  exact ⟨⟨π, Bn, ν, args0, objs0, res, objs1, res.ren (z92 0 (π ++ ν)), objs1'⟩, ⟨h, hb, hp.spec, z150 hn, z208 hc, z208 hf, Nat.eq_of_beq_eq_true hl, rfl, h2, hu, h1, hpl.imp id fun h => ⟨h.1, h.2.spec⟩⟩, k⟩
end Go.Gl

namespace Go.Gl
theorem z404 {α : Type} (f : α → Nat) {l : List α} {a : α} (h : a ∈ l) : f a ≤ (l.map f).sum := by
  induction l with
  | nil => cases h
  | cons b l ih =>
    simp only [List.map_cons, List.sum_cons]
    cases h with
    | head => omega
    | tail _ h => have := ih h;omega
inductive Tree where
  | mk (kind val : Int) (kids : List Tree)
def Tree.kind : Tree → Int | .mk k _ _ => k
def Tree.val : Tree → Int | .mk _ v _ => v
def Tree.kids : Tree → List Tree | .mk _ _ l => l
mutual
def Tree.cs : Tree → List AC
  | .mk k v l => [.int k, .int v, .list 3 l.length (Tree.css l)]
def Tree.css : List Tree → List (List AC)
  | [] => []
  | t :: l => Tree.cs t :: Tree.css l
end
mutual
def Tree.sz : Tree → Nat
  | .mk _ _ l => Tree.szs l
def Tree.szs : List Tree → Nat
  | [] => 0
  | t :: l => 1 + Tree.sz t + Tree.szs l
end
mutual
def Tree.mx : Tree → Prop
  | .mk _ _ l => l.length ≤ maxLen ∧ Tree.mxs l
def Tree.mxs (l : List Tree) : Prop := match l with
  | [] => True
  | t :: r => Tree.mx t ∧ Tree.mxs r
end
theorem Tree.css_eq (l : List Tree) : Tree.css l = l.map Tree.cs := by
  induction l with
  | nil => simp [Tree.css]
  | cons t l ih => simp [Tree.css, ih]
def Tree.cs' (t : Tree) : List AC := [.int t.kind, .int t.val, .list 3 t.kids.length (t.kids.map Tree.cs)]
theorem Tree.cs_eq : Tree.cs = Tree.cs' := by
  funext t
  cases t with
  | mk k v l => simp [Tree.cs, Tree.cs', Tree.css_eq, Tree.kind, Tree.val, Tree.kids]
theorem Tree.szs_eq (l : List Tree) : Tree.szs l = l.length + (l.map Tree.sz).sum := by
  induction l with
  | nil => simp [Tree.szs]
  | cons t l ih => simp [Tree.szs, ih];omega
theorem Tree.sz_eq (t : Tree) : t.sz = t.kids.length + (t.kids.map Tree.sz).sum := by
  cases t with
  | mk k v l => simp only [Tree.sz, Tree.kids, Tree.szs_eq]
theorem Tree.mxs_iff (l : List Tree) : Tree.mxs l ↔ ∀ t ∈ l, t.mx := by
  induction l with
  | nil => simp [Tree.mxs]
  | cons t l ih => simp [Tree.mxs, ih]
theorem Tree.mx_iff (t : Tree) : t.mx ↔ t.kids.length ≤ maxLen ∧ ∀ u ∈ t.kids, u.mx := by
  cases t with
  | mk k v l => simp only [Tree.mx, Tree.kids, Tree.mxs_iff]
theorem Tree.lst_eq (l : List Tree) : AC.list 3 l.length (l.map Tree.cs) = AC.list 3 l.length (l.map Tree.cs') := by rw [Tree.cs_eq]
noncomputable instance : DecidableEq Tree := Classical.typeDecidableEq Tree
theorem Tree.ind {p : Tree → Prop} (h : ∀ t, (∀ u ∈ t.kids, p u) → p t) (t : Tree) : p t :=
  Tree.rec (motive_1 := p) (motive_2 := fun l => ∀ u ∈ l, p u) (fun _ _ _ ih => h _ ih) (fun _ h => by cases h) (fun _ _ h1 h2 u hu => by
    cases hu with
    | head => exact h1
    | tail _ h => exact h2 u h) t
end Go.Gl

namespace Go.Gl
def z253 (k : Int) : Int := if k = 1 ∨ k = 2 then 0 else if k = 3 then 1 else if 4 ≤ k ∧ k ≤ 9 then 2 else -1
def z295 (k : Int) : Int := if k = 1 then 3 else if k = 2 then 2 else 0
mutual
def Tree.walkE (t : Tree) (d n : Int) : Int × Bool := match t with
  | .mk k v l => if d ≤ 6 ∧ n + 1 ≤ 15 ∧ 0 ≤ v ∧ v ≤ z295 k ∧ (l.length : Int) = z253 k then Tree.walkEs l (d + 1) (n + 1) else (n + 1, false)
def Tree.walkEs (l : List Tree) (d n : Int) : Int × Bool := match l with
  | [] => (n, true)
  | t :: r => if (Tree.walkE t d n).2 then Tree.walkEs r d (Tree.walkE t d n).1 else ((Tree.walkE t d n).1, false)
end
mutual
def Tree.shape (t : Tree) (d : Int) : Bool := match t with
  | .mk k v l => decide (1 ≤ d ∧ (l.length : Int) = z253 k ∧ 0 ≤ v ∧ v ≤ z295 k) && Tree.shapes l (d - 1)
def Tree.shapes (l : List Tree) (d : Int) : Bool := match l with
  | [] => true
  | t :: r => Tree.shape t d && Tree.shapes r d
end
mutual
def Tree.count (t : Tree) (d : Int) : Int := match t with
  | .mk _ _ l => if 0 < d then 1 + Tree.counts l (d - 1) else 1
def Tree.counts (l : List Tree) (d : Int) : Int := match l with
  | [] => 0
  | t :: r => Tree.count t d + Tree.counts r d
end
theorem Tree.rec2 {p : Tree → Prop} {q : List Tree → Prop} (h : ∀ k v l, q l → p (.mk k v l)) (h0 : q []) (h1 : ∀ t r, p t → q r → q (t :: r)) : (∀ t, p t) ∧ ∀ l, q l :=
  ⟨fun t => Tree.rec (motive_1 := p) (motive_2 := q) (fun k v l ih => h k v l ih) h0 (fun _ _ a b => h1 _ _ a b) t,
   fun l => Tree.rec_1 (motive_1 := p) (motive_2 := q) (fun k v l ih => h k v l ih) h0 (fun _ _ a b => h1 _ _ a b) l⟩
theorem Tree.count_pos : (∀ (t : Tree) d, 1 ≤ t.count d) ∧ ∀ (l : List Tree) d, 0 ≤ Tree.counts l d := by
  refine Tree.rec2 (p := fun t => ∀ d, 1 ≤ t.count d) (q := fun l => ∀ d, 0 ≤ Tree.counts l d) ?_ ?_ ?_
  · intro k v l ih d
    have := ih (d - 1)
    simp only [Tree.count];split <;> omega
  · intro d;simp [Tree.counts]
  · intro t r h1 h2 d
    have := h1 d;have := h2 d
    simp only [Tree.counts];omega
theorem Tree.walkE_spec : (∀ (t : Tree) d n, 0 ≤ n → n ≤ 15 → ((t.walkE d n).2 = true ↔ t.shape (7 - d) = true ∧ n + t.count (7 - d) ≤ 15) ∧ ((t.walkE d n).2 = true → (t.walkE d n).1 = n + t.count (7 - d)) ∧ n ≤ (t.walkE d n).1 ∧ (t.walkE d n).1 ≤ 16) ∧
    ∀ (l : List Tree) d n, 0 ≤ n → n ≤ 15 → ((Tree.walkEs l d n).2 = true ↔ Tree.shapes l (7 - d) = true ∧ n + Tree.counts l (7 - d) ≤ 15) ∧ ((Tree.walkEs l d n).2 = true → (Tree.walkEs l d n).1 = n + Tree.counts l (7 - d)) ∧ n ≤ (Tree.walkEs l d n).1 ∧ (Tree.walkEs l d n).1 ≤ 16 := by
  refine Tree.rec2 ?_ ?_ ?_
  · intro k v l ih d n h0 h1
    simp only [Tree.walkE, Tree.shape, Tree.count, Bool.and_eq_true, decide_eq_true_eq]
    have hc := Tree.count_pos.2 l (7 - d - 1)
    by_cases hb : d ≤ 6 ∧ n + 1 ≤ 15 ∧ 0 ≤ v ∧ v ≤ z295 k ∧ (l.length : Int) = z253 k
    · rw [if_pos hb, if_pos (by omega)]
      have := ih (d + 1) (n + 1) (by omega) hb.2.1
      rw [show 7 - (d + 1) = 7 - d - 1 by omega] at this
      obtain ⟨a1, a2, a3, a4⟩ := this
      refine ⟨?_, ?_, by omega, by omega⟩
      · rw [a1]
        constructor
        · rintro ⟨b1, b2⟩;exact ⟨⟨⟨by omega, hb.2.2.2.2, hb.2.2.1, hb.2.2.2.1⟩, b1⟩, by omega⟩
        · rintro ⟨b1, b2⟩;exact ⟨b1.2, by omega⟩
      · intro h;rw [a2 h];omega
    · rw [if_neg hb]
      refine ⟨⟨by simp, ?_⟩, by simp, by simp only;omega, by simp only;omega⟩
      rintro ⟨⟨⟨b1, b2, b3, b4⟩, b5⟩, b6⟩
      rw [if_pos (by omega)] at b6
      exact absurd ⟨by omega, by omega, b3, b4, b2⟩ hb
  · intro d n h0 h1
    simp [Tree.walkEs, Tree.shapes, Tree.counts];omega
  · intro t r iht ihr d n h0 h1
    simp only [Tree.walkEs, Tree.shapes, Tree.counts, Bool.and_eq_true]
    obtain ⟨a1, a2, a3, a4⟩ := iht d n h0 h1
    have hc := Tree.count_pos.2 r (7 - d)
    by_cases hb : (t.walkE d n).2 = true
    · rw [if_pos hb]
      have e := a2 hb
      obtain ⟨b1, b2, b3, b4⟩ := ihr d (t.walkE d n).1 (by omega) (by rw [e];exact (a1.1 hb).2)
      refine ⟨?_, fun h => by rw [b2 h, e];omega, by omega, b4⟩
      rw [b1, e]
      exact ⟨fun h => ⟨⟨(a1.1 hb).1, h.1⟩, by omega⟩, fun h => ⟨h.1.2, by omega⟩⟩
    · rw [if_neg hb]
      refine ⟨⟨by simp, fun h => absurd (a1.2 ⟨h.1.1, by omega⟩) hb⟩, by simp, a3, a4⟩
theorem Tree.walkE_eq (t : Tree) (d n : Int) : t.walkE d n = if d ≤ 6 ∧ n + 1 ≤ 15 ∧ 0 ≤ t.val ∧ t.val ≤ z295 t.kind ∧ (t.kids.length : Int) = z253 t.kind then Tree.walkEs t.kids (d + 1) (n + 1) else (n + 1, false) := by
  cases t;rfl
theorem Tree.walkEs_idx (d : Int) (l : List Tree) : ∀ n k, Tree.walkEs l d n = ((idxS (fun (x : Tree) s => !(x.walkE d s).2) (fun x s => (x.walkE d s).1) l n k).2, !decide (0 ≤ (idxS (fun (x : Tree) s => !(x.walkE d s).2) (fun x s => (x.walkE d s).1) l n k).1)) := by
  induction l with
  | nil => intro n k;simp [Tree.walkEs, idxS]
  | cons t l ih =>
    intro n k
    simp only [Tree.walkEs, idxS]
    cases h : (t.walkE d n).2
    · simp
    · simp only [if_true, Bool.not_true, Bool.false_eq_true, if_false];exact ih _ _
def Tree.exprB (t : Tree) : Bool := (t.walkE 1 0).2
theorem Tree.exprB_eq (t : Tree) : t.exprB = (t.shape 6 && decide (t.count 6 ≤ 15)) := by
  have h := (Tree.walkE_spec.1 t 1 0 (by omega) (by omega)).1
  rw [show (7 : Int) - 1 = 6 by omega, Int.zero_add] at h
  rw [Bool.eq_iff_iff, Bool.and_eq_true, decide_eq_true_eq]
  exact h
def b2i (b : Bool) : Int := if b then 1 else 0
mutual
def Tree.ev (v : List Int) (t : Tree) : Int := match t with
  | .mk k x l => if k = 1 then x else if k = 2 then v.getD x.toNat 0 else match Tree.evs v l with
    | [a] => b2i (decide (a = 0))
    | [a, b] => if k = 4 then b2i (decide (a ≠ 0 ∧ b ≠ 0)) else if k = 5 then b2i (decide (a ≠ 0 ∨ b ≠ 0)) else if k = 6 then b2i (decide (a = b)) else if k = 7 then b2i (decide (a < b)) else if k = 8 then (a + b) % 4 else (a - b + 4) % 4
    | _ => 0
def Tree.evs (v : List Int) (l : List Tree) : List Int := match l with
  | [] => []
  | t :: r => Tree.ev v t :: Tree.evs v r
end
def Tree.good (t : Tree) : Prop := ∃ d, t.shape d = true
theorem Tree.shapes_iff (l : List Tree) (d : Int) : Tree.shapes l d = true ↔ ∀ t ∈ l, t.shape d = true := by
  induction l with
  | nil => simp [Tree.shapes]
  | cons t l ih => simp [Tree.shapes, ih]
theorem Tree.good_of {t : Tree} (h : t.exprB = true) : t.good := by
  rw [Tree.exprB_eq, Bool.and_eq_true] at h
  exact ⟨_, h.1⟩
theorem Tree.good_iff {t : Tree} (h : t.good) : (t.kids.length : Int) = z253 t.kind ∧ 0 ≤ t.val ∧ t.val ≤ z295 t.kind ∧ ∀ u ∈ t.kids, u.good := by
  obtain ⟨d, h⟩ := h
  cases t with
  | mk k v l =>
    simp only [Tree.shape, Bool.and_eq_true, decide_eq_true_eq] at h
    exact ⟨h.1.2.1, h.1.2.2.1, h.1.2.2.2, fun u hu => ⟨_, (Tree.shapes_iff _ _).1 h.2 u hu⟩⟩
theorem z509 (b : Bool) : 0 ≤ b2i b ∧ b2i b ≤ 3 := by unfold b2i;split <;> omega
def ValsOk (v : List Int) : Prop := v.length = 3 ∧ ∀ x ∈ v, 0 ≤ x ∧ x ≤ 3
theorem ValsOk.get {v : List Int} (h : ValsOk v) (i : Nat) : 0 ≤ v.getD i 0 ∧ v.getD i 0 ≤ 3 := by
  rw [List.getD_eq_getElem?_getD]
  by_cases hi : i < v.length
  · rw [List.getElem?_eq_getElem hi]
    exact h.2 _ (List.getElem_mem _)
  · rw [List.getElem?_eq_none (by omega)];simp
theorem Tree.ev_range {v : List Int} (hv : ValsOk v) (t : Tree) : t.good → 0 ≤ t.ev v ∧ t.ev v ≤ 3 := by
  induction t using Tree.ind with|h t ih => ?_
  intro hg
  obtain ⟨h1, h2, h3, h4⟩ := Tree.good_iff hg
  cases t with
  | mk k x l =>
    simp only [Tree.kind, Tree.val, Tree.kids] at *
    simp only [Tree.ev]
    split
    · rename_i hk;subst hk;simp [z295] at h3;omega
    split
    · exact hv.get _
    · split
      · exact z509 _
      · rename_i a b hab
        repeat (first|(split;· first|exact z509 _|omega)|omega)
      · omega
end Go.Gl

namespace Go.Gl
variable {P : Program} {G : Ghost} {objs : Nat → AObj} {w : World} {π Bn : List Nat}
theorem z272 (hW0 : Wf G objs w) (hn : π.Nodup) (hd : ∀ o ∈ π, o ∉ Bn) (ha : ∀ o ∈ π, z160 (objs o) = true) :
    Wf (G.seal_ (hp w) π Bn) (z86 (π.map (z113 objs π Bn))) w ∧ G.Sub (G.seal_ (hp w) π Bn) ∧ (∀ o i t, idx π o = some i → G.ι o = some t → (G.seal_ (hp w) π Bn).ι i = some t) ∧
      ∀ x v, V G (hp w) none x v → V (G.seal_ (hp w) π Bn) (hp w) none (bor objs π Bn x) v := by
  have hW := z725 (Bn := Bn) hW0 hn hd ha
  have hbor := z285 (π := π) (Bn := Bn) hW0
  refine ⟨⟨hW.hS, hW0.hU, fun b x hu => ?_, fun b p hk => ?_, fun o => ?_⟩, ⟨fun b x e => hbor.S b x e, rfl⟩, fun o i t hi e => sub_ι (w := w) (Bn := Bn) hi e, fun x v hv => ?_⟩
  · have hu : G.U b = some x := hu
    cases hkb : G.κ b with
    | none => show (G.sub (hp w) π Bn).S b = none;simp [Ghost.sub, hkb];exact hW0.su b x hu
    | some p => have := (hW0.sk b p hkb).2.1;rw [hu] at this;cases this
  · have hk' : (G.sub (hp w) π Bn).κ b = some p := hk
    obtain ⟨h1, _, h3⟩ := hW.sk b p hk'
    refine ⟨h1, ?_, h3⟩
    show G.U b = none
    cases hkb : G.κ b with
    | none => simp [Ghost.sub, hkb] at hk'
    | some q => exact (hW0.sk b q hkb).2.1
  · exact z196 (G := G.sub (hp w) π Bn) (h := hp w) (fun _ _ e => e) (fun _ _ e => e) rfl (fun b p _ hk => ⟨hk, rfl⟩) (hW.objs o)
  · exact z177 (G := G.sub (hp w) π Bn) (G' := G.seal_ (hp w) π Bn) (fun _ _ e => e) (fun _ _ e => e) (V_bor _ hbor _ hv)
theorem CallsA.lend {f : FuncId} {args : List AC} {objs objs1 objs2 : List AObj} {res res2 : AC} (h : CallsA P f args objs res objs1) (π Bn : List Nat) (hn : z198 (π ++ Bn) = true) (ha : allN (fun o => z160 (z86 objs1 o)) π = true)
    (hf : z216 objs.length 0 π = true) (hr : bor (z86 objs1) π Bn res = res2) (hp' : PassOk (z86 objs1) π Bn π objs2) : CallsA P f args objs res2 objs2 := by
  refine ⟨h.1, fun G w vs hW hs hv => (h.2 G w vs hW hs hv).mono ?_⟩
  rintro e w' ⟨G', v, rfl, h1, h2, h3, h4, h5⟩
  have hnd := z150 hn
  obtain ⟨k1, k2, k3, k4⟩ := z272 (π := π) (Bn := Bn) h4 (List.nodup_append.1 hnd).1 (fun o ho hb => (List.nodup_append.1 hnd).2.2 o ho o hb rfl) (z208 ha)
  refine ⟨_, v, rfl, h1.trans k2, fun o t ho e => ?_, h3, by rw [← hp'.spec];exact k1, by rw [← hr];exact k4 _ _ h5⟩
  have := z142 objs.length 0 π hf o ho
  rw [Nat.zero_add] at this
  exact k3 o o t (z187 (List.nodup_append.1 hnd).1 this) (h2 o t ho e)
theorem CallsA.keep {f : FuncId} {args : List AC} {w n : Nat} {es : List (List AC)} (h : CallsA P f args [] (.sref 0 0 n) [.cells w es]) (hu : z95 es = es) (hl : es.length = n) : CallsA P f args [] (.list w n es) [] :=
  h.lend [] [0] rfl rfl rfl (bor_seal rfl rfl rfl rfl hu hl) z15
theorem z21 {α : Type} {f : α → List AC} {l : List α} {z : List AC} {k : Nat} {K : List AC → Prop} (h : k < l.length) (kk : K z) : ∃ e, ((l.take k).map f ++ List.replicate (l.length - k) z)[(k : Int).toNat + 0]? = some e ∧ K e :=
  ⟨z, fill_get _ _ _ _ h, kk⟩
theorem obj_fill {α : Type} {M w : Nat} {r : Nat → Nat} {f : α → List AC} {l : List α} {z e : List AC} {k j : Nat} {x : AObj} (hk : k < l.length) (hx : x = .cells w (((l.take k).map f ++ List.replicate (l.length - k) z).set j e)) (hj : j = k) (he : e = f l[k]) (hf : ∀ a, z251 (f a) = true) (hz : z251 z = true) :
    z144 M (.cells w ((l.take (k + 1)).map f ++ List.replicate (l.length - (k + 1)) z)) ∧ x = z132 r (.cells w ((l.take (k + 1)).map f ++ List.replicate (l.length - (k + 1)) z)) := by
  subst hj he
  exact z57 (by rw [hx, fill_set _ _ _ _ hk]) (z7 (z4 hf) (z5 hz))
theorem fill_end {α : Type} (f : α → List AC) (l : List α) (z : List AC) (k : Nat) (h : k = l.length) : (l.take k).map f ++ List.replicate (l.length - k) z = l.map f := by
  subst h;simp
theorem obj_app {α : Type} {M w : Nat} {r : Nat → Nat} {f : α → List AC} {l : List α} {e : List AC} {k : Nat} {x : AObj} (hk : k < l.length) (n : Nat) (hx : x = .cells w (((l.take k).map f).take n ++ [e])) (hn : n = k) (he : e = f l[k]) (hf : ∀ a, z251 (f a) = true) :
    z144 M (.cells w ((l.take (k + 1)).map f)) ∧ x = z132 r (.cells w ((l.take (k + 1)).map f)) := by
  subst hn he
  refine z57 ?_ (z4 hf)
  rw [hx, List.take_succ_eq_append_getElem hk, List.map_append, List.take_of_length_le (by simp;omega)]
  rfl
theorem z542 {m : Nat} {st : St} {o n w : Nat} {es es' : List (List AC)} (hm : z216 m 0 [o] = true) (hf : Flat es) (ho : st.objs o = .cells w es') (he : es' = es) : z100 m st (.sref 0 0 n) [.cells w es] (.sref o 0 n) :=
  ⟨[o], by simp, hm, rfl, ACle.refl _, ⟨z57 (by rw [ho, he]) hf, trivial⟩⟩
theorem z170 {α : Type} (f : α → Value) (l : List α) : z95 (l.map fun a => [AC.raw (f a)]) = l.map fun a => [AC.raw (f a)] :=
  z336 (fun a x hx => by cases hx with|head => rfl|tail _ h => cases h) l
end Go.Gl

namespace Go.Gl
variable {P : Program}
def z690 : List AC → Bool
  | [] => true
  | x :: xs => match x.flat && !x.isOwn with
    | true => z690 xs
    | false => false
theorem z689 {xs : List AC} : z690 xs = true ↔ ∀ x ∈ xs, x.flat = true ∧ x.isOwn = false := by
  induction xs with
  | nil => simp [z690]
  | cons x xs ih =>
    simp only [z690]
    cases h : (x.flat && !x.isOwn) <;> simp_all
def Leaf (es : List (List AC)) : Prop := ∀ e ∈ es, z690 e = true
theorem Leaf.flat {es : List (List AC)} (h : Leaf es) : Flat es := fun e he => z203.2 fun x hx => (z689.1 (h e he) x hx).1
def LocLe (x y : AC) : Prop := ∀ (G : Ghost) (h : Nat → Option Obj) (l : Loc) (v : Value), V G h l x v → V G h l y v
theorem nils_own {w : Nat} : LocLe .nils (.own w []) := fun G h l v hv => by
  simp only [V] at hv ⊢
  exact ⟨none, 0, hv, Nat.le_refl _, .inl ⟨trivial, rfl⟩⟩
theorem LocLe.refl (x : AC) : LocLe x x := fun _ _ _ _ h => h
theorem Reach.weaken {m n : Nat} {env : List (Nat × AC)} {objs objs' : List AObj} (o : Nat) {wd : Nat} {es es' : List (List AC)} (ho : z86 objs o = .cells wd es) (hl : es'.length = es.length)
    (hr : ∀ (i : Nat) (e' : List AC), es'[i]? = some e' → ∃ e : List AC, es[i]? = some e ∧ e'.length = e.length ∧ ∀ (j : Nat) (x' : AC), e'[j]? = some x' → ∃ x, e[j]? = some x ∧ LocLe x x')
    (hk : z372 objs [⟨o, .dead, .cells wd es'⟩] fun l => l = objs') : Reach m (mkSt n env objs) (mkSt n env objs') := fun G a w hR => by
  obtain ⟨l, rfl, hl'⟩ := z220 hk
  refine ⟨G, SubM.refl m G, ⟨?_, hR.env, hR.size, hR.defers⟩⟩
  show Wf G (z86 l) w
  rw [hl']
  refine ⟨hR.wf.hS, hR.wf.hU, hR.wf.su, hR.wf.sk, fun o' => ?_⟩
  show ObjRel G (hp w) o' (upd (z86 objs) o (.cells wd es') o')
  by_cases h : o' = o
  · subst h
    rw [z90]
    have := hR.wf.objs o'
    rw [show (mkSt n env objs).objs o' = .cells wd es from ho] at this
    rcases this with ⟨h1, h2⟩|⟨b, size, c, el, h1, h2, h3, h4, h5⟩
    · subst h1
      exact .inl ⟨List.eq_nil_of_length_eq_zero (by simpa using hl), h2⟩
    · refine .inr ⟨b, size, c, el, h1, h2, h3, h4, ?_⟩
      rw [z97] at h5 ⊢
      intro i e' he'
      obtain ⟨e, he, hle, hx⟩ := hr i e' he'
      obtain ⟨h6, h7⟩ := h5 i e he
      refine ⟨by rw [hle, h6], ?_⟩
      rw [z89] at h7 ⊢
      intro j x' hx'
      obtain ⟨x, hx1, hx2⟩ := hx j x' hx'
      obtain ⟨v, hv1, hv2⟩ := h7 j x hx1
      exact ⟨v, hv1, hx2 _ _ _ _ hv2⟩
  · rw [z114 _ _ h];exact hR.wf.objs o'
theorem z400 (id : Nat) {m : Nat} {ops : Array Oper} {d : Bool} {Q : Exit → St → Prop} {st : St} (h : AWP P m (.region id ops d) Q st) : AWP P m (.region id ops d) Q st := h
theorem z289 (id : Nat) {m : Nat} {ops : Array Oper} {d : Bool} {c : Code} {Q : Exit → St → Prop} {st : St} (h : AWP P m (.seq (.region id ops d) c) Q st) : AWP P m (.seq (.region id ops d) c) Q st := h
theorem get_set {es : List (List AC)} {i n : Nat} {r : List AC} {K : List AC → Prop} (h : n = i) (hi : i < es.length) (k : K r) : ∃ e, (es.set i r)[n]? = some e ∧ K e :=
  ⟨r, by subst h;exact List.getElem?_set_self hi, k⟩
theorem z20 {α : Type} {f : α → List AC} {l : List α} {x : Int} {K : List AC → Prop} (h : x.toNat < l.length) (k : ∀ h : x.toNat < l.length, K (f (l[x.toNat]'h))) : ∃ e, (l.map f)[x.toNat]? = some e ∧ K e := ⟨_, z263 _ _ _ h, k h⟩
theorem z128 {m : Nat} {st : St} {o n n' w : Nat} {es es' : List (List AC)} (hm : z216 m 0 [o] = true) (hf : Flat es) (hn : n' = n) (ho : st.objs o = .cells w es') (he : es' = es) : z100 m st (.sref 0 0 n) [.cells w es] (.sref o 0 n') := by
  subst hn;exact z542 hm hf ho he
theorem Reach.absorb {m n : Nat} {env : List (Nat × AC)} {objs objs' : List AObj} (o q k j : Nat) {wd wd2 len : Nat} {es es2 : List (List AC)} {e : List AC} (ho : z86 objs o = .cells wd es) (he : es[k]? = some e) (hj : e[j]? = some (.sref q 0 len)) (hq : z86 objs q = .cells wd2 es2) (hn : es2.length = len) (hoq : Nat.beq o q = false) (hfl : Flat es2)
    (hk : z372 objs [⟨o, .dead, .cells wd (es.set k (e.set j (.own wd2 es2)))⟩, ⟨q, .dead, .dead⟩] fun l => l = objs') : Reach m (mkSt n env objs) (mkSt n env objs') := fun G a w hR => by
  obtain ⟨l, rfl, hl⟩ := z220 hk
  have h4 := hR.wf.absorb (o := o) (q := q) ho he hj hq hn (by rintro rfl;rw [Nat.beq_refl] at hoq;cases hoq) hfl
  refine ⟨G.absorb o q (k * wd + j), ⟨⟨fun _ _ e => e, rfl⟩, fun o t _ e => e⟩, ⟨?_, fun s => z177 (G := G) (G' := G.absorb o q (k * wd + j)) (fun _ _ e => e) (fun _ _ e => e) (hR.env s), hR.size, hR.defers⟩⟩
  show Wf _ (z86 l) w
  rw [hl];exact h4
end Go.Gl

namespace Go.Gl
def build (N : Nat) (ps : List (Nat × Int)) : List (List Int) := (List.range N).map fun r => (ps.filter (fun p => p.1 == r)).map (·.2)
def z174 (r : List Int) : List AC := [.own 1 (r.map fun n => [AC.raw (.int .i64 n)])]
theorem z107 {α : Type} {l : List α} {i : Nat} {d : α} (h : i < l.length) : l.getD i d = l[i] := by
  rw [List.getD_eq_getElem?_getD, List.getElem?_eq_getElem h];rfl
section gen
variable {α : Type}
end gen
end Go.Gl

namespace Go.Gl
variable {P : Program}
mutual
theorem V_mvD (x : AC) (G G' : Ghost) (h h' : Nat → Option Obj) (f : Nat × List Nat → Nat × List Nat) (D : Nat × List Nat → Prop) (hS : ∀ b x, G.S b = some x → G'.S b = some x) (hι : ∀ o t, G.ι o = some t → G'.ι o = some t)
    (hf : ∀ o j q, D (o, q) → f (o, j :: q) = ((f (o, q)).1, j :: (f (o, q)).2)) (hD : ∀ o j q, D (o, q) → D (o, j :: q))
    (hκ : ∀ b p, D p → G.κ b = some p → G'.κ b = some (f p) ∧ h' b = h b) (l : Loc) (v : Value) (hl : ∀ p, l = some p → D p) (hv : V G h l x v) : V G' h' (l.map f) x v := by
  have hb : ∀ b p, False → G.bare.κ b = some p → G'.bare.κ b = some (id p) ∧ h' b = h b := fun _ _ h => h.elim
  match x with
  | .any => simp [V]
  | .raw _ => simpa [V] using hv
  | .list w n es =>
    simp only [V] at hv ⊢
    obtain ⟨a, cap, rfl, hcap, hn, hv⟩ := hv
    refine ⟨a, cap, rfl, hcap, hn, hv.imp id ?_⟩
    rintro ⟨b, off, c, el, fz, rfl, hb', hc⟩
    exact ⟨b, off, c, el, fz, rfl, hS _ _ hb', z450 es G.bare G'.bare h h' id (fun _ => False) hS (fun _ _ e => e) (fun _ _ _ _ => rfl) (fun _ _ _ h => h) hb none w c off (by simp) hc⟩
  | .pt cs =>
    simp only [V] at hv ⊢
    obtain ⟨b, off, c, el, fz, rfl, hb', hc⟩ := hv
    exact ⟨b, off, c, el, fz, rfl, hS _ _ hb', z378 cs G.bare G'.bare h h' id (fun _ => False) hS (fun _ _ e => e) (fun _ _ _ _ => rfl) (fun _ _ _ h => h) hb none c off (by simp) hc⟩
  | .sref o off len =>
    simp only [V] at hv ⊢
    obtain ⟨cap, hc, hv⟩ := hv
    refine ⟨cap, hc, hv.imp id ?_⟩
    rintro ⟨b, size, w, hb, h2⟩
    exact ⟨b, size, w, hι _ _ hb, h2⟩
  | .ptr o i off =>
    simp only [V] at hv ⊢
    obtain ⟨b, size, w, hb, h2⟩ := hv
    exact ⟨b, size, w, hι _ _ hb, h2⟩
  | .own w es =>
    simp only [V] at hv ⊢
    obtain ⟨a, cap, rfl, hcap, hv⟩ := hv
    refine ⟨a, cap, rfl, hcap, hv.imp id ?_⟩
    rintro ⟨b, c, el, p, rfl, rfl, hk, hb, hs, hc⟩
    obtain ⟨hk', hh'⟩ := hκ b p (hl p rfl) hk
    exact ⟨b, c, el, f p, rfl, rfl, hk', by rw [hh', hb], hs, z450 es G.bare G'.bare h h' f D hS (fun _ _ e => e) hf hD hκ (some p) w c 0 hl hc⟩
  | .fn g first caps =>
    simp only [V] at hv ⊢
    obtain ⟨xs, ys, rfl, h1, h2, h3, h4⟩ := hv
    exact ⟨xs, ys, rfl, h1, h2, z378 first G G' h h' f D hS hι hf hD hκ none xs 0 (by simp) h3, z378 caps G G' h h' f D hS hι hf hD hκ none ys 0 (by simp) h4⟩
  | .agg cs =>
    simp only [V] at hv ⊢
    obtain ⟨c, rfl, h1, h3⟩ := hv
    exact ⟨c, rfl, h1, z378 cs G G' h h' f D hS hι hf hD hκ none c 0 (by simp) h3⟩
  | .tup cs =>
    simp only [V] at hv ⊢
    obtain ⟨c, rfl, h1, h3⟩ := hv
    exact ⟨c, rfl, h1, z378 cs G G' h h' f D hS hι hf hD hκ none c 0 (by simp) h3⟩
termination_by structural x
theorem z378 (xs : List AC) (G G' : Ghost) (h h' : Nat → Option Obj) (f : Nat × List Nat → Nat × List Nat) (D : Nat × List Nat → Prop) (hS : ∀ b x, G.S b = some x → G'.S b = some x) (hι : ∀ o t, G.ι o = some t → G'.ι o = some t)
    (hf : ∀ o j q, D (o, q) → f (o, j :: q) = ((f (o, q)).1, j :: (f (o, q)).2)) (hD : ∀ o j q, D (o, q) → D (o, j :: q))
    (hκ : ∀ b p, D p → G.κ b = some p → G'.κ b = some (f p) ∧ h' b = h b) (l : Loc) (c : Array Value) (off : Nat) (hl : ∀ p, l = some p → D p) (hv : VL G h l xs c off) : VL G' h' (l.map f) xs c off := by
  match xs with
  | [] => simp [VL]
  | x :: xs =>
    simp only [VL] at hv ⊢
    obtain ⟨⟨v, hv1, hv2⟩, hv3⟩ := hv
    refine ⟨⟨v, hv1, ?_⟩, z378 xs G G' h h' f D hS hι hf hD hκ l c (off + 1) hl hv3⟩
    have := V_mvD x G G' h h' f D hS hι hf hD hκ (l.cell off) v (by
      intro p hp
      cases l with
      | none => simp [Loc.cell] at hp
      | some q => simp [Loc.cell] at hp;subst hp;exact hD _ _ _ (hl q rfl)) hv2
    cases l with
    | none => exact this
    | some q =>
      simp only [Loc.cell, Option.map_some] at this ⊢
      rw [hf q.1 off q.2 (hl q rfl)] at this
      exact this
termination_by structural xs
theorem z450 (es : List (List AC)) (G G' : Ghost) (h h' : Nat → Option Obj) (f : Nat × List Nat → Nat × List Nat) (D : Nat × List Nat → Prop) (hS : ∀ b x, G.S b = some x → G'.S b = some x) (hι : ∀ o t, G.ι o = some t → G'.ι o = some t)
    (hf : ∀ o j q, D (o, q) → f (o, j :: q) = ((f (o, q)).1, j :: (f (o, q)).2)) (hD : ∀ o j q, D (o, q) → D (o, j :: q))
    (hκ : ∀ b p, D p → G.κ b = some p → G'.κ b = some (f p) ∧ h' b = h b) (l : Loc) (w : Nat) (c : Array Value) (off : Nat) (hl : ∀ p, l = some p → D p) (hv : VLL G h l w es c off) : VLL G' h' (l.map f) w es c off := by
  match es with
  | [] => simp [VLL]
  | e :: es =>
    simp only [VLL] at hv ⊢
    obtain ⟨h1, h2, h3⟩ := hv
    exact ⟨h1, z378 e G G' h h' f D hS hι hf hD hκ l c off hl h2, z450 es G G' h h' f D hS hι hf hD hκ l w c (off + w) hl h3⟩
termination_by structural es
end
def z439 (κ : Nat → Option (Nat × List Nat)) (o q pos : Nat) (b : Nat) : Option (Nat × List Nat) := match κ b with
  | some (o', p) => if o' = o ∧ p.getLast? = some pos then some (q, p.dropLast) else some (o', p)
  | none => none
noncomputable def Ghost.exposeD (G : Ghost) (o q pos b0 size wd2 : Nat) : Ghost := { G with κ := z439 G.κ o q pos, ι := fun o' => if o' = q then some (b0, size, wd2) else G.ι o' }
theorem Wf.exposeD {G : Ghost} {objs : Nat → AObj} {w : World} (hW : Wf G objs w) {o q k j wd wd2 : Nat} {es es2 : List (List AC)} {e : List AC} (ho : objs o = .cells wd es) (he : es[k]? = some e) (hj : e[j]? = some (.own wd2 es2)) (hq : objs q = .fresh) :
    ∃ G', (∀ b x, G.S b = some x → G'.S b = some x) ∧ G'.U = G.U ∧ (∀ o t, G.ι o = some t → G'.ι o = some t) ∧ Wf G' (upd (upd objs o (.cells wd (es.set k (e.set j (.sref q 0 es2.length))))) q (.cells wd2 es2)) w := by
  have hoq : o ≠ q := by rintro rfl;rw [ho] at hq;cases hq
  obtain ⟨b, c, el, hι, hκ, hb, hc⟩ := hW.obj ho he
  have hιq : G.ι q = none := by have := hW.objs q;rw [hq] at this;exact this
  have hkl : k < es.length := (List.getElem?_eq_some_iff.1 he).1
  have hjl : j < e.length := (List.getElem?_eq_some_iff.1 hj).1
  rw [z97] at hc
  obtain ⟨hek, hcv⟩ := hc k e he
  rw [z89] at hcv
  obtain ⟨v0, hv0, hv0'⟩ := hcv j _ hj
  simp only [V, Loc.cell, Option.map_some] at hv0'
  obtain ⟨a, cap, rfl, hcap, hown⟩ := hv0'
  rcases hown with ⟨hes, hcap0⟩|⟨b0, c0, el0, p, ha, hp, hκ0, hb0, hsz, hc0⟩
  · -- no block
    subst hes hcap0
    refine ⟨G, fun _ _ e => e, rfl, fun _ _ e => e, hW.hS, hW.hU, hW.su, hW.sk, fun o' => ?_⟩
    by_cases h1 : o' = q
    · subst h1;rw [z90];exact .inl ⟨rfl, hιq⟩
    · rw [z114 _ _ h1]
      by_cases h2 : o' = o
      · subst h2
        rw [z90]
        refine .inr ⟨b, c.size, c, el, hι, hκ, hb, rfl, ?_⟩
        rw [z97]
        intro i e' he'
        by_cases hik : i = k
        · subst hik
          rw [List.getElem?_set_self hkl] at he'
          cases he'
          refine ⟨by simpa using hek, ?_⟩
          rw [z89]
          intro jj x hx
          by_cases hjj : jj = j
          · subst hjj
            rw [List.getElem?_set_self hjl] at hx
            cases hx
            exact ⟨_, hv0, by simp only [V];exact ⟨0, Nat.le_refl _, .inl ⟨rfl, a, rfl⟩⟩⟩
          · rw [List.getElem?_set_ne (Ne.symm hjj)] at hx
            exact hcv jj x hx
        · rw [List.getElem?_set_ne (Ne.symm hik)] at he'
          exact hc i e' he'
      · rw [z114 _ _ h2];exact hW.objs o'
  · subst ha
    cases hp
    rw [Nat.zero_add] at hκ0
    have hS : ∀ b' x, G.S b' = some x → (G.exposeD o q (k * wd + j) b0 c0.size wd2).S b' = some x := fun _ _ e => e
    have hιs : ∀ o' t, G.ι o' = some t → (G.exposeD o q (k * wd + j) b0 c0.size wd2).ι o' = some t := fun o' t e => by
      by_cases h : o' = q
      · subst h;rw [hιq] at e;cases e
      · simp only [Ghost.exposeD, if_neg h];exact e
    have hκ' : ∀ b' p', ¬(p'.1 = o ∧ p'.2.getLast? = some (k * wd + j)) → G.κ b' = some p' → (G.exposeD o q (k * wd + j) b0 c0.size wd2).κ b' = some p' := fun b' p' hne hk => by
      obtain ⟨p1, p2⟩ := p'
      simp only [Ghost.exposeD, z439, hk, if_neg hne]
    have hκm : ∀ b' p', p'.1 = o ∧ p'.2.getLast? = some (k * wd + j) → G.κ b' = some p' → (G.exposeD o q (k * wd + j) b0 c0.size wd2).κ b' = some (q, p'.2.dropLast) := fun b' p' hne hk => by
      obtain ⟨p1, p2⟩ := p'
      simp only [Ghost.exposeD, z439, hk, if_pos hne]
    refine ⟨G.exposeD o q (k * wd + j) b0 c0.size wd2, hS, rfl, hιs, hW.hS, hW.hU, hW.su, fun b' p' hk => ?_, fun o' => ?_⟩
    · cases hkb : G.κ b' with
      | none => simp [Ghost.exposeD, z439, hkb] at hk
      | some p => exact hW.sk _ _ hkb
    · by_cases h1 : o' = q
      · subst h1
        rw [z90]
        refine .inr ⟨b0, c0.size, c0, el0, by simp [Ghost.exposeD], by have := hκm b0 (o, [k * wd + j]) ⟨rfl, rfl⟩ hκ0;simpa using this, hb0, rfl, ?_⟩
        have := z450 es2 G.bare (G.exposeD o o' (k * wd + j) b0 c0.size wd2) (hp w) (hp w) (fun p => (o', p.2.dropLast)) (fun p => p.1 = o ∧ p.2.getLast? = some (k * wd + j)) hS (fun _ _ e => by cases e)
          (fun o1 j1 q1 h => by
            cases q1 with
            | nil => simp at h
            | cons y ys => simp [List.dropLast_cons_of_ne_nil])
          (fun o1 j1 q1 h => by
            cases q1 with
            | nil => simp at h
            | cons y ys => simpa using h)
          (fun b' p hp hk => ⟨hκm b' p hp hk, rfl⟩) (some (o, [0 + k * wd + j])) wd2 c0 0 (fun p hp => by cases hp;simp) hc0
        simpa using this
      · rw [z114 _ _ h1]
        by_cases h2 : o' = o
        · subst h2
          rw [z90]
          refine .inr ⟨b, c.size, c, el, hιs _ _ hι, hκ' b (o', []) (by simp) hκ, hb, rfl, ?_⟩
          have hmv : ∀ (x : AC) (pos : Nat) (v : Value), pos ≠ 0 + k * wd + j → V G (hp w) (some (o', [pos])) x v → V (G.exposeD o' q (k * wd + j) b0 c0.size wd2) (hp w) (some (o', [pos])) x v := fun x pos v hne hv => by
            have := z222 x G (G.exposeD o' q (k * wd + j) b0 c0.size wd2) (hp w) (hp w) id (fun p => p.2.getLast? = some pos) hS hιs (fun _ _ _ => rfl) (fun o'' j' q' h => by
              cases q' with
              | nil => simp at h
              | cons y ys => simpa using h) (fun b' p hp hk => ⟨hκ' b' p (by rintro ⟨_, h⟩;rw [hp] at h;cases h;exact hne (by omega)) hk, rfl⟩) (some (o', [pos])) v (fun p hp => by cases hp;rfl) hv
            simpa using this
          rw [z97]
          intro i e' he'
          by_cases hik : i = k
          · subst hik
            rw [List.getElem?_set_self hkl] at he'
            cases he'
            refine ⟨by simpa using hek, ?_⟩
            rw [z89]
            intro jj x hx
            by_cases hjj : jj = j
            · subst hjj
              rw [List.getElem?_set_self hjl] at hx
              cases hx
              refine ⟨_, hv0, ?_⟩
              simp only [V]
              exact ⟨cap, by omega, .inr ⟨b0, c0.size, wd2, by simp [Ghost.exposeD], by simpa using hsz, by simp⟩⟩
            · rw [List.getElem?_set_ne (Ne.symm hjj)] at hx
              obtain ⟨v, hv1, hv2⟩ := hcv jj x hx
              exact ⟨v, hv1, by simpa [Loc.cell] using hmv x _ v (by omega) (by simpa [Loc.cell] using hv2)⟩
          · rw [List.getElem?_set_ne (Ne.symm hik)] at he'
            obtain ⟨h3, h4⟩ := hc i e' he'
            refine ⟨h3, ?_⟩
            rw [z89] at h4 ⊢
            intro jj x hx
            obtain ⟨v, hv1, hv2⟩ := h4 jj x hx
            have hjw : jj < wd := by rw [← h3];exact (List.getElem?_eq_some_iff.1 hx).1
            have hne : 0 + i * wd + jj ≠ 0 + k * wd + j := by
              intro heq
              have hj' : j < wd := by rw [← hek];exact hjl
              rcases Nat.lt_or_gt_of_ne hik with hlt|hlt
              · have : (i + 1) * wd ≤ k * wd := Nat.mul_le_mul_right _ hlt
                rw [Nat.add_mul] at this;omega
              · have : (k + 1) * wd ≤ i * wd := Nat.mul_le_mul_right _ hlt
                rw [Nat.add_mul] at this;omega
            exact ⟨v, hv1, by simpa [Loc.cell] using hmv x _ v hne (by simpa [Loc.cell] using hv2)⟩
        · rw [z114 _ _ h2]
          exact z196 hS (fun _ _ e => hιs _ _ e) (by simp [Ghost.exposeD, h1]) (fun b' p hp hk => ⟨hκ' b' p (by rintro ⟨h, _⟩;exact h2 (hp.symm.trans h)) hk, rfl⟩) (hW.objs o')
theorem Reach.exposeD {m n : Nat} {env : List (Nat × AC)} {objs objs' : List AObj} (o k j : Nat) {wd wd2 : Nat} {es es2 : List (List AC)} {e : List AC} (ho : z86 objs o = .cells wd es) (he : es[k]? = some e) (hj : e[j]? = some (.own wd2 es2))
    (hk : z372 objs [⟨o, .dead, .cells wd (es.set k (e.set j (.sref objs.length 0 es2.length)))⟩, ⟨objs.length, .fresh, .cells wd2 es2⟩] fun l => l = objs') : Reach m (mkSt n env objs) (mkSt n env objs') := fun G a w hR => by
  obtain ⟨l, rfl, hl⟩ := z220 hk
  obtain ⟨G', h1, h2, h3, h4⟩ := hR.wf.exposeD (q := objs.length) ho he hj (z110 (Nat.le_refl _))
  refine ⟨G', ⟨⟨h1, h2⟩, fun o t _ e => h3 o t e⟩, ⟨?_, fun s => z177 h1 h3 (hR.env s), hR.size, hR.defers⟩⟩
  show Wf G' (z86 l) w
  rw [hl];exact h4
end Go.Gl

namespace Go.Gl
mutual
def Tree.co : Tree → List AC
  | .mk k v l => [.int k, .int v, .own 3 (Tree.cos l)]
def Tree.cos : List Tree → List (List AC)
  | [] => []
  | t :: l => Tree.co t :: Tree.cos l
end
theorem Tree.cos_eq (l : List Tree) : Tree.cos l = l.map Tree.co := by
  induction l with
  | nil => simp [Tree.cos]
  | cons t l ih => simp [Tree.cos, ih]
def Tree.co' (t : Tree) : List AC := [.int t.kind, .int t.val, .own 3 (t.kids.map Tree.co)]
theorem Tree.co_eq : Tree.co = Tree.co' := by
  funext t
  cases t with
  | mk k v l => simp [Tree.co, Tree.co', Tree.cos_eq, Tree.kind, Tree.val, Tree.kids]
theorem Tree.co_flat (t : Tree) : z251 (Tree.co t) = true := by rw [Tree.co_eq];rfl
def mixL (g : Nat → List AC) (F : List (List AC)) (i : Nat) : List (List AC) := (List.range i).map g ++ F.drop i
theorem z156 (g : Nat → List AC) (F : List (List AC)) : mixL g F 0 = F := by simp [mixL]
theorem z178 {g : Nat → List AC} {F : List (List AC)} {i j : Nat} {e : List AC} (h : i < F.length) (hj : j = i) (he : e = g i) : (mixL g F i).set j e = mixL g F (i + 1) := by
  subst hj he
  unfold mixL
  rw [List.set_append_right _ _ (by simp), List.length_map, List.length_range, Nat.sub_self, List.drop_eq_getElem_cons h, List.set_cons_zero, List.range_succ, List.map_append, List.append_assoc]
  rfl
theorem z179 {g : Nat → List AC} {F : List (List AC)} {i : Nat} (h : F.length ≤ i) : mixL g F i = (List.range i).map g := by
  unfold mixL;rw [List.drop_eq_nil_of_le h, List.append_nil]
theorem z544 {α : Type} (n : Nat) (e : α) : (List.range n).map (fun _ => e) = List.replicate n e := by
  induction n with
  | zero => rfl
  | succ n ih => rw [List.range_succ, List.map_append, ih];simp [List.replicate_succ']
def marks (k : Int) (n : Nat) : List Int := (List.range n).map fun i : Nat => k + i
theorem z80 {es : List (List AC)} {i n : Nat} {r : List AC} {K : List AC → Prop} (h : n = i) (hg : es[i]? = some r) (k : K r) : ∃ e, es[n]? = some e ∧ K e := ⟨r, by rw [h];exact hg, k⟩
end Go.Gl

