/- A part of the proofs over this program: GlRV, D20, D21, D22, D23, D24, D25, D26, D27, GlV. -/
import Derived.Test.YtknlmbniicacmaaGreatG0
import Derived.Test.YtknlmbniicacmaaGreatG1
import Derived.Test.YtknlmbniicacmaaGreatG2
set_option linter.all false
/- A ghost step: an object gets a new name, the old name is dead. -/
namespace Go.Gl

def mvF (o n : Nat) (p : Nat × List Nat) : Nat × List Nat := if p.1 = o then (n, p.2) else p
noncomputable def Ghost.rnm (G : Ghost) (o n : Nat) : Ghost := { G with ι := fun x => if x = n then G.ι o else G.ι x, κ := fun b => (G.κ b).map (mvF o n) }
theorem mvF_cons (o n o' j : Nat) (q : List Nat) : mvF o n (o', j :: q) = ((mvF o n (o', q)).1, j :: (mvF o n (o', q)).2) := by
  unfold mvF; dsimp only; split <;> rfl
theorem Wf.rnm {G : Ghost} {objs : Nat → AObj} {w : World} (hW : Wf G objs w) {o n wd : Nat} {es : List (List AC)} (ho : objs o = .cells wd es) (hn : objs n = .fresh) :
    Wf (G.rnm o n) (upd (upd objs n (.cells wd es)) o .dead) w ∧ ∀ x t, G.ι x = some t → (G.rnm o n).ι x = some t := by
  have hιn : G.ι n = none := by have := hW.objs n; rw [hn] at this; exact this
  have hon : o ≠ n := fun e => by rw [e, hn] at ho; cases ho
  have hι : ∀ x t, G.ι x = some t → (G.rnm o n).ι x = some t := fun x t e => by
    show (if x = n then G.ι o else G.ι x) = some t
    by_cases h : x = n
    · rw [h, hιn] at e; cases e
    · rw [if_neg h]; exact e
  have hmv : ∀ (es : List (List AC)) (l : Loc) (wd : Nat) (c : Array Value), VLL G (hp w) l wd es c 0 → VLL (G.rnm o n) (hp w) (l.map (mvF o n)) wd es c 0 := fun es l wd c hv =>
    z142 es G (G.rnm o n) (hp w) (hp w) (mvF o n) (fun _ => True) (fun _ _ e => e) hι (fun a b c => mvF_cons o n a b c) (fun _ _ _ h => h) (fun b p _ hk => ⟨by show (G.κ b).map (mvF o n) = _; rw [hk]; rfl, rfl⟩) l wd c 0 (fun _ _ _ => trivial) hv
  refine ⟨⟨hW.hS, hW.hU, hW.su, fun b p hk => ?_, fun x => ?_⟩, hι⟩
  · have hk : (G.κ b).map (mvF o n) = some p := hk
    cases h : G.κ b with
    | none => rw [h] at hk; cases hk
    | some p' => exact hW.sk b p' h
  · by_cases h1 : x = o
    · subst h1; rw [z60]; trivial
    · rw [z99 _ _ h1]
      by_cases h2 : x = n
      · subst h2
        rw [z60]
        have h := hW.objs o
        rw [ho] at h
        have hx : (G.rnm o x).ι x = G.ι o := by show (if x = x then G.ι o else G.ι x) = _; rw [if_pos rfl]
        rcases h with ⟨a, b⟩ | ⟨b, size, c, el, a1, a2, a3, a4, a5⟩
        · exact .inl ⟨a, by rw [hx]; exact b⟩
        · refine .inr ⟨b, size, c, el, by rw [hx]; exact a1, ?_, a3, a4, ?_⟩
          · show (G.κ b).map (mvF o x) = _; rw [a2]; unfold mvF; simp
          · have := hmv es (some (o, [])) wd c a5
            have e : Option.map (mvF o x) (some (o, [])) = some (x, []) := by unfold mvF; simp
            rwa [e] at this
      · rw [z99 _ _ h2]
        have h := hW.objs x
        have hx : (G.rnm o n).ι x = G.ι x := by show (if x = n then G.ι o else G.ι x) = _; rw [if_neg h2]
        cases hc : objs x with
        | fresh => rw [hc] at h; show (G.rnm o n).ι x = none; rw [hx]; exact h
        | dead => trivial
        | mp d es' =>
          rw [hc] at h
          obtain ⟨b, size, wx, c, ck, a1, a2, a3⟩ := h
          refine ⟨b, size, wx, c, ck, by rw [hx]; exact a1, ?_, a3⟩
          show (G.κ b).map (mvF o n) = _; rw [a2]; unfold mvF; simp [h1]
        | cells wd' es' =>
          rw [hc] at h
          rcases h with ⟨a, b⟩ | ⟨b, size, c, el, a1, a2, a3, a4, a5⟩
          · exact .inl ⟨a, by rw [hx]; exact b⟩
          · refine .inr ⟨b, size, c, el, by rw [hx]; exact a1, ?_, a3, a4, ?_⟩
            · show (G.κ b).map (mvF o n) = _; rw [a2]; unfold mvF; simp [h1]
            · have := hmv es' (some (x, [])) wd' c a5
              have e : Option.map (mvF o n) (some (x, [])) = some (x, []) := by unfold mvF; simp [h1]
              rwa [e] at this

def rnS (o n : Nat) (x : AC) : AC := match x with
  | .sref k off len => .sref (cond (Nat.beq k o) n k) off len
  | x => x
theorem rnS_V {G : Ghost} {h : Nat → Option Obj} {o n : Nat} (hι : ∀ x t, G.ι x = some t → (G.rnm o n).ι x = some t) {x : AC} {v : Value} (hv : V G h none x v) : V (G.rnm o n) h none (rnS o n x) v := by
  cases x with
  | sref k off len =>
    simp only [rnS, V] at hv ⊢
    obtain ⟨cap, h1, h2⟩ := hv
    refine ⟨cap, h1, h2.imp id ?_⟩
    rintro ⟨b, size, w, a1, a2⟩
    refine ⟨b, size, w, ?_, a2⟩
    cases hk : Nat.beq k o with
    | true =>
      have := Nat.eq_of_beq_eq_true hk
      subst this
      show (if n = n then G.ι k else _) = _
      rw [if_pos rfl]; exact a1
    | false => exact hι k _ a1
  | _ => exact z153 (G := G) (G' := G.rnm o n) (fun _ _ e => e) hι hv
theorem rnS_env (o n : Nat) (env : List (Nat × AC)) (s : Nat) : z123 (env.map fun p => (p.1, rnS o n p.2)) s = rnS o n (z123 env s) := by
  induction env with
  | nil => rfl
  | cons p env ih =>
    obtain ⟨k, x⟩ := p
    simp only [List.map_cons, z123]
    cases Nat.beq s k
    · exact ih
    · rfl
theorem Reach.rnm (o : Nat) {m n wd : Nat} {env : List (Nat × AC)} {objs : List AObj} {es : List (List AC)} (ho : z55 objs o = .cells wd es) : Reach m (mkSt n env objs) (mkSt n (env.map fun p => (p.1, rnS o objs.length p.2)) (objs.set o .dead ++ [.cells wd es])) := fun G a w hR => by
  have hol : o < objs.length := by
    rcases Nat.lt_or_ge o objs.length with h | h
    · exact h
    · have : z55 objs o = .fresh := z97 h
      rw [this] at ho; cases ho
  have hn : z55 objs objs.length = .fresh := z97 (Nat.le_refl _)
  obtain ⟨h1, h2⟩ := hR.wf.rnm (o := o) (n := objs.length) ho hn
  refine ⟨G.rnm o objs.length, ⟨⟨fun _ _ e => e, rfl⟩, fun x t _ e => h2 x t e⟩, ⟨?_, fun s => by
    show V _ _ none (z123 (env.map fun p => (p.1, rnS o objs.length p.2)) s) _
    rw [rnS_env]; exact rnS_V h2 (hR.env s), hR.size, hR.defers⟩⟩
  show Wf _ (z55 (objs.set o .dead ++ [.cells wd es])) w
  have e : z55 (objs.set o .dead ++ [.cells wd es]) = upd (upd (z55 objs) objs.length (.cells wd es)) o .dead := by
    funext x
    by_cases h1 : x = o
    · subst h1
      rw [z60]
      exact z77 (by rw [List.getElem?_append_left (by simpa using hol), List.getElem?_set_self hol])
    · rw [z99 _ _ h1]
      rcases Nat.lt_trichotomy x objs.length with h | h | h
      · rw [z99 _ _ (by omega)]
        have : z55 objs x = objs[x] := z77 (List.getElem?_eq_getElem h)
        rw [this]
        exact z77 (by rw [List.getElem?_append_left (by simpa using h), List.getElem?_set_ne (by omega), List.getElem?_eq_getElem h])
      · subst h
        rw [z60]
        exact z77 (by simp)
      · rw [z99 _ _ (by omega)]
        have : z55 objs x = .fresh := z97 (by omega)
        rw [this]
        exact z97 (by simp; omega)
  rw [e]; exact h1
end Go.Gl

/- Subformulas, each once, in postorder. -/
namespace Go.Gl
noncomputable def addT (o : List Tree) (t : Tree) : List Tree := if t ∈ o then o else o ++ [t]
mutual
noncomputable def Tree.subs (t : Tree) (o : List Tree) : List Tree := match t with
  | .mk k v l => addT (Tree.subss l o) (.mk k v l)
noncomputable def Tree.subss (l : List Tree) (o : List Tree) : List Tree := match l with
  | [] => o
  | t :: r => Tree.subss r (Tree.subs t o)
end
theorem Tree.subs_eq (t : Tree) (o : List Tree) : t.subs o = addT (Tree.subss t.kids o) t := by cases t; rw [Tree.subs]; rfl
theorem Tree.subss_snoc (l : List Tree) (t : Tree) : ∀ o, Tree.subss (l ++ [t]) o = t.subs (Tree.subss l o) := by
  induction l with
  | nil => intro o; simp [Tree.subss]
  | cons u l ih => intro o; simp only [List.cons_append, Tree.subss]; exact ih _
theorem Tree.subss_take {l : List Tree} {k : Nat} (h : k < l.length) (o : List Tree) : Tree.subss (l.take (k + 1)) o = l[k].subs (Tree.subss (l.take k) o) := by
  rw [List.take_succ_eq_append_getElem h, Tree.subss_snoc]
theorem addT_mem {o : List Tree} {t x : Tree} : x ∈ addT o t ↔ x ∈ o ∨ x = t := by
  unfold addT
  split
  · rename_i h
    constructor
    · exact .inl
    · rintro (h1 | rfl)
      · exact h1
      · exact h
  · simp
theorem addT_nodup {o : List Tree} {t : Tree} (h : o.Nodup) : (addT o t).Nodup := by
  unfold addT
  split
  · exact h
  · rename_i hn
    rw [List.nodup_append]
    exact ⟨h, by simp, fun a ha b hb => by rintro rfl; rw [List.mem_singleton.1 hb] at ha; exact hn ha⟩
theorem addT_len (o : List Tree) (t : Tree) : (addT o t).length ≤ o.length + 1 := by unfold addT; split <;> simp
theorem subs_props : ∀ t : Tree, ∀ o : List Tree, (o.Nodup → (t.subs o).Nodup) ∧ (∀ x ∈ o, x ∈ t.subs o) ∧ t ∈ t.subs o ∧ (t.subs o).length ≤ o.length + t.sz + 1 ∧ (∀ x ∈ t.subs o, x ∈ o ∨ x.sz ≤ t.sz) ∧ ((∀ x ∈ o, ∀ u ∈ x.kids, u ∈ o) → ∀ x ∈ t.subs o, ∀ u ∈ x.kids, u ∈ t.subs o) := by
  intro t
  induction t using Tree.ind with | h t ih => ?_
  have key : ∀ (l : List Tree), (∀ u ∈ l, u ∈ t.kids) → ∀ o : List Tree, (o.Nodup → (Tree.subss l o).Nodup) ∧ (∀ x ∈ o, x ∈ Tree.subss l o) ∧ (∀ u ∈ l, u ∈ Tree.subss l o) ∧ (Tree.subss l o).length ≤ o.length + (l.map fun u => u.sz + 1).sum ∧ (∀ x ∈ Tree.subss l o, x ∈ o ∨ ∃ u ∈ l, x.sz ≤ u.sz) ∧ ((∀ x ∈ o, ∀ u ∈ x.kids, u ∈ o) → ∀ x ∈ Tree.subss l o, ∀ u ∈ x.kids, u ∈ Tree.subss l o) := by
    intro l
    induction l with
    | nil => intro _ o; simp [Tree.subss]
    | cons u l ihl =>
      intro hl o
      obtain ⟨a1, a2, a3, a4, a5, a6⟩ := ih u (hl u (by simp)) o
      obtain ⟨b1, b2, b3, b4, b5, b6⟩ := ihl (fun x hx => hl x (List.mem_cons_of_mem _ hx)) (u.subs o)
      rw [Tree.subss]
      refine ⟨fun h => b1 (a1 h), fun x hx => b2 x (a2 x hx), fun x hx => ?_, ?_, fun x hx => ?_, fun h => b6 (a6 h)⟩
      · rcases List.mem_cons.1 hx with rfl | hx
        · exact b2 _ a3
        · exact b3 x hx
      · simp only [List.map_cons, List.sum_cons]; omega
      · rcases b5 x hx with h | ⟨y, hy, h⟩
        · rcases a5 x h with h | h
          · exact .inl h
          · exact .inr ⟨u, by simp, h⟩
        · exact .inr ⟨y, List.mem_cons_of_mem _ hy, h⟩
  intro o
  obtain ⟨b1, b2, b3, b4, b5, b6⟩ := key t.kids (fun _ h => h) o
  rw [Tree.subs_eq]
  have hsz := Tree.sz_eq t
  have hsum : (t.kids.map fun u => u.sz + 1).sum = t.kids.length + (t.kids.map Tree.sz).sum := by
    generalize t.kids = l
    induction l with
    | nil => rfl
    | cons a l ih => simp only [List.map_cons, List.sum_cons, List.length_cons, ih]; omega
  refine ⟨fun h => addT_nodup (b1 h), fun x hx => addT_mem.2 (.inl (b2 x hx)), addT_mem.2 (.inr rfl), ?_, fun x hx => ?_, fun h x hx u hu => addT_mem.2 (.inl ?_)⟩
  · have := addT_len (Tree.subss t.kids o) t
    omega
  · rcases addT_mem.1 hx with h | rfl
    · rcases b5 x h with h | ⟨u, hu, h⟩
      · exact .inl h
      · have := le_sum Tree.sz hu
        exact .inr (by omega)
    · exact .inr (Nat.le_refl _)
  · rcases addT_mem.1 hx with h2 | rfl
    · exact b6 h x h2 u hu
    · exact b3 u hu
def basicB (t : Tree) : Bool := decide (t.kind = 2 ∨ t.kind = 6 ∨ t.kind = 7 ∨ t.kind = 8)
/-- the basic formulas of a normal form -/
noncomputable def bscL (t : Tree) : List Tree := (t.subs []).filter basicB
/-- does a formula have few enough basic formulas? -/
noncomputable def bscB (t : Tree) : Bool := decide ((t.fmB = true ∧ (t.nrm false).fmB = true) ∧ (bscL (t.nrm false)).length ≤ 5)
end Go.Gl

/- Linear time: what a word satisfies; normal forms keep it. -/
namespace Go.Gl

def semOp (w : Nat → Int) (k v : Int) (ks : List (Nat → Prop)) (i : Nat) : Prop :=
  if k = 2 then hasB (w i) v = true
  else if k = 3 then ¬ (ks.getD 0 fun _ => False) i
  else if k = 4 then (ks.getD 0 fun _ => False) i ∧ (ks.getD 1 fun _ => False) i
  else if k = 5 then (ks.getD 0 fun _ => False) i ∨ (ks.getD 1 fun _ => False) i
  else if k = 6 then (ks.getD 0 fun _ => False) (i + 1)
  else if k = 7 then ∃ j, i ≤ j ∧ (ks.getD 1 fun _ => False) j ∧ ∀ m, i ≤ m → m < j → (ks.getD 0 fun _ => False) m
  else if k = 8 then ∀ j, i ≤ j → (ks.getD 1 fun _ => False) j ∨ ∃ m, i ≤ m ∧ m < j ∧ (ks.getD 0 fun _ => False) m
  else if k = 9 then ∃ j, i ≤ j ∧ (ks.getD 0 fun _ => False) j
  else if k = 10 then ∀ j, i ≤ j → (ks.getD 0 fun _ => False) j
  else True
mutual
/-- the word satisfies the formula from position i on -/
def Tree.sem (w : Nat → Int) (t : Tree) : Nat → Prop := match t with
  | .mk k v l => semOp w k v (Tree.sems w l)
def Tree.sems (w : Nat → Int) (l : List Tree) : List (Nat → Prop) := match l with
  | [] => []
  | t :: r => Tree.sem w t :: Tree.sems w r
end
section
variable (w : Nat → Int)
end

/-! assignments -/
mutual
/-- the value of a formula in normal form, given the values of the basic ones -/
def Tree.vl (σ : Tree → Bool) (t : Tree) : Bool := match t with
  | .mk k v l => if k = 1 then true else if k = 3 then !((Tree.vls σ l).getD 0 false) else if k = 4 then (Tree.vls σ l).getD 0 false && (Tree.vls σ l).getD 1 false else if k = 5 then (Tree.vls σ l).getD 0 false || (Tree.vls σ l).getD 1 false else σ (.mk k v l)
def Tree.vls (σ : Tree → Bool) (l : List Tree) : List Bool := match l with
  | [] => []
  | t :: r => Tree.vl σ t :: Tree.vls σ r
end
/-- negation stands before atoms and truth only -/
inductive NF : Tree → Prop
  | tr : NF (.mk 1 0 [])
  | at (v : Int) : NF (.mk 2 v [])
  | nt : NF (.mk 3 0 [.mk 1 0 []])
  | na (v : Int) : NF (.mk 3 0 [.mk 2 v []])
  | an {a b : Tree} : NF a → NF b → NF (.mk 4 0 [a, b])
  | or {a b : Tree} : NF a → NF b → NF (.mk 5 0 [a, b])
  | nx {a : Tree} : NF a → NF (.mk 6 0 [a])
  | un {a b : Tree} : NF a → NF b → NF (.mk 7 0 [a, b])
  | re {a b : Tree} : NF a → NF b → NF (.mk 8 0 [a, b])
theorem nrm_NF (t : Tree) : t.goodF → ∀ neg, NF (t.nrm neg) := by
  induction t using Tree.ind with | h t ih => ?_
  intro hg neg
  cases Tree.formF hg with
  | tr => rw [nrm_tr]; cases neg; exact .tr; exact .nt
  | «at» v _ _ => rw [nrm_at]; cases neg; exact .at v; exact .na v
  | un k a hk ha =>
    have h1 := ih a (by simp [Tree.kids]) ha
    rcases hk with rfl | rfl | rfl | rfl
    · rw [nrm_not]; exact h1 _
    · rw [nrm_next]; exact .nx (h1 _)
    · rw [nrm_ev]; cases neg; exact .un .tr (h1 _); exact .re .nt (h1 _)
    · rw [nrm_al]; cases neg; exact .re .nt (h1 _); exact .un .tr (h1 _)
  | bin k a b hk ha hb =>
    have h1 := ih a (by simp [Tree.kids]) ha neg
    have h2 := ih b (by simp [Tree.kids]) hb neg
    rw [nrm_bin _ _ _ _ _ hk]
    rcases hk with rfl | rfl | rfl | rfl <;> cases neg <;> first | exact .an h1 h2 | exact .or h1 h2 | exact .un h1 h2 | exact .re h1 h2
section
variable {σ : Tree → Bool}
theorem vl_tr : (Tree.mk 1 0 []).vl σ = true := by simp [Tree.vl]
theorem vl_not (v : Int) (a : Tree) : (Tree.mk 3 v [a]).vl σ = !a.vl σ := by simp [Tree.vl, Tree.vls]
theorem vl_and (v : Int) (a b : Tree) : (Tree.mk 4 v [a, b]).vl σ = (a.vl σ && b.vl σ) := by simp [Tree.vl, Tree.vls]
theorem vl_or (v : Int) (a b : Tree) : (Tree.mk 5 v [a, b]).vl σ = (a.vl σ || b.vl σ) := by simp [Tree.vl, Tree.vls]
theorem vl_at (v : Int) : (Tree.mk 2 v []).vl σ = σ (.mk 2 v []) := by simp [Tree.vl]
theorem vl_nx (v : Int) (l : List Tree) : (Tree.mk 6 v l).vl σ = σ (.mk 6 v l) := by simp [Tree.vl]
theorem vl_un (v : Int) (l : List Tree) : (Tree.mk 7 v l).vl σ = σ (.mk 7 v l) := by simp [Tree.vl]
theorem vl_re (v : Int) (l : List Tree) : (Tree.mk 8 v l).vl σ = σ (.mk 8 v l) := by simp [Tree.vl]
end
/-- the basic subformulas are in the list -/
inductive In (B : Tree → Prop) : Tree → Prop
  | tr : In B (.mk 1 0 [])
  | at (v : Int) : B (.mk 2 v []) → In B (.mk 2 v [])
  | nt : In B (.mk 3 0 [.mk 1 0 []])
  | na (v : Int) : B (.mk 2 v []) → In B (.mk 3 0 [.mk 2 v []])
  | an {a b : Tree} : In B a → In B b → In B (.mk 4 0 [a, b])
  | or {a b : Tree} : In B a → In B b → In B (.mk 5 0 [a, b])
  | nx {a : Tree} : B (.mk 6 0 [a]) → In B a → In B (.mk 6 0 [a])
  | un {a b : Tree} : B (.mk 7 0 [a, b]) → In B a → In B b → In B (.mk 7 0 [a, b])
  | re {a b : Tree} : B (.mk 8 0 [a, b]) → In B a → In B b → In B (.mk 8 0 [a, b])
end Go.Gl

/- The automaton of the assignments, as the reference makes it. -/
namespace Go.Gl

/-- the place of a formula -/
noncomputable def plc (B : List Tree) (t : Tree) : Int := match B.findIdx? (fun x => decide (x = t)) with
  | some i => i
  | none => -1
/-- an assignment by its number -/
noncomputable def sgB (B : List Tree) (s : Int) (t : Tree) : Bool := hasB s (plc B t)
theorem plc_mem {B : List Tree} {t : Tree} (h : t ∈ B) : 0 ≤ plc B t ∧ plc B t < B.length := by
  unfold plc
  split
  · rename_i i e
    obtain ⟨h1, _, _⟩ := List.findIdx?_eq_some_iff_getElem.1 e
    omega
  · rename_i e
    have := List.findIdx?_eq_none_iff.1 e t h
    simp at this
noncomputable def vlB (B : List Tree) (s : Int) (t : Tree) : Bool := t.vl (sgB B s)
noncomputable def kidV (B : List Tree) (s : Int) (t : Tree) (j : Nat) : Bool := vlB B s (t.kids.getD j dftT)
/-- may t follow s, as far as the formula f goes? -/
noncomputable def folV (B : List Tree) (s t : Int) (f : Tree) (now next : Bool) : Bool :=
  if f.kind = 6 then kidV B t f 0
  else if f.kind = 7 then kidV B s f 1 || (kidV B s f 0 && next)
  else if f.kind = 8 then kidV B s f 1 && (kidV B s f 0 || next)
  else now
noncomputable def folI (B : List Tree) (s t : Int) (i : Nat) : Bool := folV B s t (B.getD i dftT) (hasB s i) (hasB t i) == hasB s i
noncomputable def folB (B : List Tree) (s t : Int) : Bool := (List.range B.length).all fun i => folI B s t i
/-- the atoms, and those that hold -/
noncomputable def atoI (B : List Tree) (s : Int) (p : Nat × Nat) (i : Nat) : Nat × Nat := if (B.getD i dftT).kind = 2 then (p.1 ||| 2 ^ (B.getD i dftT).val.toNat, if hasB s i = true then p.2 ||| 2 ^ (B.getD i dftT).val.toNat else p.2) else p
noncomputable def letB (B : List Tree) (s : Int) : Nat × Nat := (List.range B.length).foldl (atoI B s) (0, 0)
noncomputable def untB (B : List Tree) : List Int := ((List.range B.length).filter fun i => decide ((B.getD i dftT).kind = 7)).map Int.ofNat
noncomputable def fulB (B : List Tree) (s : Int) (u : Int) : Bool := !hasB s u || kidV B s (B.getD u.toNat dftT) 1
noncomputable def phB (B : List Tree) (U : List Int) (s ph : Int) : Int × Bool :=
  if U.length = 0 then (0, true) else if fulB B s (U.getD ph.toNat 0) = true then ((ph + 1) % (U.length : Int), decide (ph = 0)) else (ph, false)
/-- a pair's place, the pair put in if it is not there -/
noncomputable def pairL (L : List (List Int)) (p : List Int) : List (List Int) := if p ∈ L then L else L ++ [p]
noncomputable def pairI (L : List (List Int)) (p : List Int) : Nat := L.idxOf p
structure Edg where
  src : Int
  care : Int
  val : Int
  dst : Int
structure TrS where
  L : List (List Int)
  acc : List Bool
  ed : List Edg
noncomputable def edgeS (B : List Tree) (s ph : Int) (i : Nat) (c v : Int) (x : List (List Int) × List Edg) (t : Nat) : List (List Int) × List Edg :=
  if folB B s t = true then (pairL x.1 [(t : Int), ph], x.2 ++ [⟨i, c, v, pairI x.1 [(t : Int), ph]⟩]) else x
noncomputable def roundS (B : List Tree) (U : List Int) (i : Nat) (x : TrS) : TrS :=
  let s := (x.L.getD i []).getD 0 0
  let q := phB B U s ((x.L.getD i []).getD 1 0)
  let c := letB B s
  let y := (List.range (2 ^ B.length)).foldl (edgeS B s q.1 i c.1 c.2) (x.L, x.ed)
  ⟨y.1, x.acc ++ [q.2], y.2⟩
noncomputable def goS (B : List Tree) (U : List Int) : Nat → Nat → TrS → Option TrS
  | 0, _, _ => none
  | f + 1, i, x => if i < x.L.length then (if 64 < x.L.length then none else goS B U f (i + 1) (roundS B U i x)) else some x
noncomputable def iniS (B : List Tree) (g : Tree) : List (List Int) := ((List.range (2 ^ B.length)).filter fun s => vlB B (s : Nat) g).map fun s : Nat => [(s : Int), 0]
end Go.Gl

/- The basic formulas of a normal form are closed; the reference's automaton. -/
namespace Go.Gl
theorem subs_all {p : Tree → Prop} (hk : ∀ x, p x → ∀ u ∈ x.kids, p u) : ∀ t : Tree, ∀ o : List Tree, p t → (∀ x ∈ o, p x) → ∀ x ∈ t.subs o, p x := by
  intro t
  induction t using Tree.ind with | h t ih => ?_
  have key : ∀ (l : List Tree), (∀ u ∈ l, u ∈ t.kids) → ∀ o : List Tree, (∀ u ∈ l, p u) → (∀ x ∈ o, p x) → ∀ x ∈ Tree.subss l o, p x := by
    intro l
    induction l with
    | nil => intro _ o _ ho; simpa [Tree.subss] using ho
    | cons u l ihl =>
      intro hl o hp ho
      rw [Tree.subss]
      exact ihl (fun x hx => hl x (List.mem_cons_of_mem _ hx)) _ (fun x hx => hp x (List.mem_cons_of_mem _ hx)) (ih u (hl u (by simp)) o (hp u (by simp)) ho)
  intro o ht ho x hx
  rw [Tree.subs_eq] at hx
  rcases addT_mem.1 hx with h | rfl
  · exact key t.kids (fun _ h => h) o (hk t ht) ho x h
  · exact ht
theorem NF.kids {t : Tree} (h : NF t) : ∀ u ∈ t.kids, NF u := by
  cases h with
  | tr => intro u hu; simp [Tree.kids] at hu
  | «at» v => intro u hu; simp [Tree.kids] at hu
  | nt => intro u hu; simp [Tree.kids] at hu; subst hu; exact .tr
  | na v => intro u hu; simp [Tree.kids] at hu; subst hu; exact .at v
  | an ha hb => intro u hu; simp [Tree.kids] at hu; rcases hu with rfl | rfl <;> assumption
  | or ha hb => intro u hu; simp [Tree.kids] at hu; rcases hu with rfl | rfl <;> assumption
  | nx ha => intro u hu; simp [Tree.kids] at hu; subst hu; assumption
  | un ha hb => intro u hu; simp [Tree.kids] at hu; rcases hu with rfl | rfl <;> assumption
  | re ha hb => intro u hu; simp [Tree.kids] at hu; rcases hu with rfl | rfl <;> assumption
theorem in_of {L : List Tree} (hcl : ∀ x ∈ L, ∀ u ∈ x.kids, u ∈ L) {t : Tree} (h : NF t) : t ∈ L → In (· ∈ L.filter basicB) t := by
  have bs : ∀ x, x ∈ L → basicB x = true → x ∈ L.filter basicB := fun x h1 h2 => List.mem_filter.2 ⟨h1, h2⟩
  induction h with
  | tr => intro _; exact .tr
  | «at» v => intro ht; exact .at v (bs _ ht (by simp [basicB, Tree.kind]))
  | nt => intro _; exact .nt
  | na v => intro ht; exact .na v (bs _ (hcl _ ht _ (by simp [Tree.kids])) (by simp [basicB, Tree.kind]))
  | an _ _ iha ihb => intro ht; exact .an (iha (hcl _ ht _ (by simp [Tree.kids]))) (ihb (hcl _ ht _ (by simp [Tree.kids])))
  | or _ _ iha ihb => intro ht; exact .or (iha (hcl _ ht _ (by simp [Tree.kids]))) (ihb (hcl _ ht _ (by simp [Tree.kids])))
  | nx _ iha => intro ht; exact .nx (bs _ ht (by simp [basicB, Tree.kind])) (iha (hcl _ ht _ (by simp [Tree.kids])))
  | un _ _ iha ihb => intro ht; exact .un (bs _ ht (by simp [basicB, Tree.kind])) (iha (hcl _ ht _ (by simp [Tree.kids]))) (ihb (hcl _ ht _ (by simp [Tree.kids])))
  | re _ _ iha ihb => intro ht; exact .re (bs _ ht (by simp [basicB, Tree.kind])) (iha (hcl _ ht _ (by simp [Tree.kids]))) (ihb (hcl _ ht _ (by simp [Tree.kids])))
theorem bscL_facts {u : Tree} (hg : u.goodF) (hn : NF u) : (bscL u).Nodup ∧ (∀ x ∈ bscL u, x.sz ≤ u.sz) ∧ (∀ x ∈ bscL u, In (· ∈ bscL u) x) ∧ (∀ x ∈ bscL u, basicB x = true) ∧ (∀ v, Tree.mk 2 v [] ∈ bscL u → 0 ≤ v ∧ v ≤ 2) ∧ In (· ∈ bscL u) u := by
  obtain ⟨h1, _, h3, _, h5, h6⟩ := subs_props u []
  have hcl := h6 (by simp)
  have hall := subs_all (p := fun x => NF x ∧ x.goodF) (fun x hx v hv => ⟨hx.1.kids v hv, (Tree.goodF_iff hx.2).2.2.2 v hv⟩) u [] ⟨hn, hg⟩ (by simp)
  unfold bscL
  generalize u.subs [] = L at *
  refine ⟨(h1 List.nodup_nil).filter _, fun x hx => ?_, fun x hx => ?_, fun x hx => (List.mem_filter.1 hx).2, fun v hv => ?_, in_of hcl hn h3⟩
  · rcases h5 x (List.mem_filter.1 hx).1 with h | h
    · simp at h
    · exact h
  · have hx := (List.mem_filter.1 hx).1
    exact in_of hcl (hall x hx).1 hx
  · have hx := (List.mem_filter.1 hv).1
    obtain ⟨_, a, b, _⟩ := Tree.goodF_iff (hall _ hx).2
    simp [Tree.val, Tree.kind, mostF] at a b
    exact ⟨a, b⟩
theorem iniS_len (B : List Tree) (g : Tree) : (iniS B g).length ≤ 2 ^ B.length := by
  unfold iniS
  rw [List.length_map]
  have := List.length_filter_le (fun s => vlB B (s : Nat) g) (List.range (2 ^ B.length))
  simpa using this
/-- a row of the automaton's states -/
def RowS (n : Nat) (U : List Int) (r : List Int) : Prop := ∃ (s ph : Nat), r = [(s : Int), (ph : Int)] ∧ s < 2 ^ n ∧ (U.length = 0 ∨ ph < U.length)
def numI (n : Nat) : List Int := (List.range n).map Int.ofNat
theorem numI_succ (n : Nat) : numI (n + 1) = numI n ++ [(n : Int)] := by
  unfold numI; rw [List.range_succ, List.map_append]; rfl
theorem numI_len (n : Nat) : (numI n).length = n := by simp [numI]
def iniK (B : List Tree) (V : Nat → Bool) (k : Nat) : List (List Int) := ((List.range k).filter V).map fun s : Nat => [(s : Int), 0]
theorem iniK_succ (B : List Tree) (V : Nat → Bool) (k : Nat) : iniK B V (k + 1) = iniK B V k ++ (if V k = true then [[(k : Int), 0]] else []) := by
  unfold iniK
  rw [List.range_succ, List.filter_append, List.map_append]
  congr 1
  by_cases h : V k = true
  · rw [if_pos h, List.filter_cons_of_pos h]; rfl
  · rw [if_neg h, List.filter_cons_of_neg h]; rfl
theorem iniK_len (B : List Tree) (V : Nat → Bool) (k : Nat) : (iniK B V k).length ≤ k := by
  unfold iniK
  rw [List.length_map]
  have := List.length_filter_le V (List.range k)
  simpa using this
theorem iniK_row (B : List Tree) (V : Nat → Bool) (k n : Nat) (U : List Int) (hk : k ≤ 2 ^ n) : ∀ r ∈ iniK B V k, RowS n U r := by
  intro r hr
  unfold iniK at hr
  obtain ⟨s, hs, rfl⟩ := List.mem_map.1 hr
  have := List.mem_range.1 (List.mem_filter.1 hs).1
  exact ⟨s, 0, rfl, by omega, by omega⟩
noncomputable def trS (B : List Tree) (g : Tree) : Option TrS := goS B (untB B) 65 0 ⟨iniS B g, [], []⟩
theorem phB_row {B : List Tree} {U : List Int} {s ph : Nat} (h : U.length = 0 ∨ ph < U.length) : ∃ q : Nat, (phB B U s ph).1 = q ∧ (U.length = 0 ∨ q < U.length) := by
  unfold phB
  by_cases h0 : U.length = 0
  · rw [if_pos h0]; exact ⟨0, rfl, .inl h0⟩
  · rw [if_neg h0]
    split
    · refine ⟨(ph + 1) % U.length, by simp, .inr (Nat.mod_lt _ (by omega))⟩
    · exact ⟨ph, rfl, h⟩
end Go.Gl

/- Bounds of the reference automaton. -/
namespace Go.Gl
theorem edge_len (B : List Tree) (s ph : Int) (i : Nat) (c v : Int) : ∀ (l : List Nat) (x : List (List Int) × List Edg), (l.foldl (edgeS B s ph i c v) x).2.length ≤ x.2.length + l.length
  | [], x => by simp
  | t :: l, x => by
    rw [List.foldl_cons, List.length_cons]
    have h := edge_len B s ph i c v l (edgeS B s ph i c v x t)
    have : (edgeS B s ph i c v x t).2.length ≤ x.2.length + 1 := by
      unfold edgeS
      split
      · simp
      · omega
    omega
theorem goS_len (B : List Tree) (U : List Int) : ∀ (f i : Nat) (x y : TrS), goS B U f i x = some y → y.acc.length ≤ x.acc.length + f ∧ y.ed.length ≤ x.ed.length + f * 2 ^ B.length
  | 0, i, x, y, h => by simp [goS] at h
  | f + 1, i, x, y, h => by
    rw [goS] at h
    split at h
    · split at h
      · cases h
      · have h1 := goS_len B U f (i + 1) (roundS B U i x) y h
        have h2 : (roundS B U i x).acc.length = x.acc.length + 1 := by simp [roundS]
        have h3 : (roundS B U i x).ed.length ≤ x.ed.length + 2 ^ B.length := by
          have := edge_len B ((x.L.getD i []).getD 0 0) (phB B U ((x.L.getD i []).getD 0 0) ((x.L.getD i []).getD 1 0)).1 i (letB B ((x.L.getD i []).getD 0 0)).1 (letB B ((x.L.getD i []).getD 0 0)).2 (List.range (2 ^ B.length)) (x.L, x.ed)
          rw [List.length_range] at this
          exact this
        rw [Nat.add_mul]
        omega
    · cases h
      rw [Nat.add_mul]
      omega
end Go.Gl

/- Breadth first search with predecessors; the way back. -/
namespace Go.Gl
def visP (u : Int) (x : List Int × List Int) (v : Int) : List Int × List Int := if v ∈ x.1 then x else (x.1 ++ [v], x.2.set v.toNat u)
def visPs (u : Int) (x : List Int × List Int) (l : List Int) : List Int × List Int := l.foldl (visP u) x
theorem visP_new {u : Int} {x : List Int × List Int} {v : Int} (h : v ∉ x.1) : visP u x v = (x.1 ++ [v], x.2.set v.toNat u) := by unfold visP; rw [if_neg h]
theorem visP_old {u : Int} {x : List Int × List Int} {v : Int} (h : v ∈ x.1) : visP u x v = x := by unfold visP; rw [if_pos h]
theorem visPs_take {u : Int} {x : List Int × List Int} {l : List Int} {k : Nat} (h : k < l.length) : visPs u x (l.take (k + 1)) = visP u (visPs u x (l.take k)) l[k] := by
  unfold visPs
  rw [List.take_succ_eq_append_getElem h, List.foldl_append]; rfl
theorem visP_fst (u : Int) (x : List Int × List Int) (v : Int) : (visP u x v).1 = visit x.1 v := by
  unfold visP visit; split <;> rfl
/-- predecessors stand before -/
structure PJ (N : Nat) (x : List Int × List Int) : Prop where
  len : x.2.length = N
  inn : InN N x.1
  nd : x.1.Nodup
  pre : ∀ k (h : k < x.1.length), x.2.getD (x.1[k]).toNat 0 = -1 ∨ ∃ j, ∃ h' : j < x.1.length, j < k ∧ x.2.getD (x.1[k]).toNat 0 = x.1[j]
theorem PJ.visP {N : Nat} {x : List Int × List Int} (h : PJ N x) {i : Nat} (hi : i < x.1.length) {u v : Int} (hu : u = x.1[i]) (hv : 0 ≤ v ∧ v < N) : PJ N (visP u x v) := by
  by_cases hm : v ∈ x.1
  · rw [visP_old hm]; exact h
  · rw [visP_new hm]
    refine ⟨by simp [h.len], fun y hy => ?_, ?_, fun k hk => ?_⟩
    · rcases List.mem_append.1 hy with h1 | h1
      · exact h.inn y h1
      · rw [List.mem_singleton.1 h1]; exact hv
    · rw [List.nodup_append]
      exact ⟨h.nd, by simp, fun a ha b hb => by rintro rfl; rw [List.mem_singleton.1 hb] at ha; exact hm ha⟩
    · have hk' : k < x.1.length + 1 := by simpa using hk
      have hl := h.len
      by_cases hkl : k < x.1.length
      · have e : (x.1 ++ [v])[k] = x.1[k] := List.getElem_append_left hkl
        dsimp only
        rw [e]
        have hne : v ≠ x.1[k] := fun e => hm (e ▸ List.getElem_mem hkl)
        have hin := h.inn _ (List.getElem_mem hkl)
        have e2 : (x.2.set v.toNat u).getD (x.1[k]).toNat 0 = x.2.getD (x.1[k]).toNat 0 := by
          rw [List.getD_eq_getElem?_getD, List.getElem?_set_ne (by omega), ← List.getD_eq_getElem?_getD]
        rw [e2]
        rcases h.pre k hkl with h1 | ⟨j, hj, h1, h2⟩
        · exact .inl h1
        · exact .inr ⟨j, by simp; omega, h1, by rw [h2, List.getElem_append_left hj]⟩
      · obtain rfl : k = x.1.length := by omega
        right
        refine ⟨i, by simp; omega, hi, ?_⟩
        dsimp only
        rw [List.getElem_append_left hi]
        simp only [List.getElem_append_right (Nat.le_refl _), Nat.sub_self, List.getElem_cons_zero]
        rw [z50 (by simp; omega), List.getElem_set_self, hu]
theorem PJ.visPs {N : Nat} {u : Int} (l : List Int) : ∀ {x : List Int × List Int} (_ : PJ N x) {i : Nat} (hi : i < x.1.length) (_ : u = x.1[i]) (_ : InN N l), PJ N (visPs u x l) ∧ ∃ h' : i < (Go.Gl.visPs u x l).1.length, (Go.Gl.visPs u x l).1[i] = u := by
  induction l with
  | nil => intro x h i hi hu hl; exact ⟨h, hi, hu.symm⟩
  | cons v l ih =>
    intro x h i hi hu hl
    have h1 := h.visP hi hu (hl v (by simp))
    obtain ⟨t, ht⟩ := visit_pre x.1 v
    have hf := visP_fst u x v
    rw [ht] at hf
    have hi1 : i < (Go.Gl.visP u x v).1.length := by rw [hf, List.length_append]; omega
    exact ih h1 hi1 (by simp only [hf, List.getElem_append_left hi]; exact hu) fun y hy => hl y (by simp [hy])
def srS (rows : List (List Int)) (ini : List Int) : Nat → List Int × List Int
  | 0 => (ini, List.replicate rows.length (-1))
  | i + 1 => if h : i < (srS rows ini i).1.length then visPs (srS rows ini i).1[i] (srS rows ini i) (rows.getD ((srS rows ini i).1[i]).toNat []) else srS rows ini i
def srQ (rows : List (List Int)) (ini : List Int) : List Int := (srS rows ini rows.length).1
def srP (rows : List (List Int)) (ini : List Int) : List Int := (srS rows ini rows.length).2
section
variable {rows : List (List Int)} {ini : List Int}
theorem srS_PJ (hr : ∀ r ∈ rows, InN rows.length r) (hi : InN rows.length ini) (hn : ini.Nodup) (i : Nat) : PJ rows.length (srS rows ini i) := by
  induction i with
  | zero =>
    refine ⟨by simp [srS], hi, hn, fun k hk => .inl ?_⟩
    have := hi _ (List.getElem_mem hk)
    show (List.replicate rows.length (-1)).getD _ 0 = _
    rw [z50 (by simp; have : (srS rows ini 0).1[k] = ini[k] := rfl; omega)]
    simp
  | succ i ih =>
    rw [srS]; split
    · rename_i h
      exact (PJ.visPs _ ih h rfl (row_in hr _)).1
    · exact ih
theorem srS_const {i j : Nat} (h : (srS rows ini i).1.length ≤ i) (hij : i ≤ j) : srS rows ini j = srS rows ini i := by
  induction j with
  | zero => obtain rfl : i = 0 := by omega
            rfl
  | succ j ih =>
    rcases Nat.lt_or_ge j i with h1 | h1
    · obtain rfl : i = j + 1 := by omega
      rfl
    · have e := ih h1
      rw [srS, dif_neg (by rw [e]; omega), e]
theorem srS_len (hr : ∀ r ∈ rows, InN rows.length r) (hi : InN rows.length ini) (hn : ini.Nodup) (i : Nat) : (srS rows ini i).1.length ≤ rows.length :=
  pigeon _ _ (srS_PJ hr hi hn i).nd (srS_PJ hr hi hn i).inn
theorem srS_end {i : Nat} (h : (srS rows ini i).1.length ≤ i) (hil : i ≤ rows.length) : srS rows ini i = (srQ rows ini, srP rows ini) := (srS_const h hil).symm
end
/-- the way back -/
def bkw (P : List Int) : Nat → Int → List Int → List Int
  | 0, v, tl => v :: tl
  | f + 1, v, tl => if 0 ≤ P.getD v.toNat 0 then bkw P f (P.getD v.toNat 0) (v :: tl) else v :: tl
def BackOk (P : List Int) : Nat → Int → Prop
  | 0, v => (0 ≤ v ∧ v < P.length) ∧ P.getD v.toNat 0 < 0
  | f + 1, v => (0 ≤ v ∧ v < P.length) ∧ (P.getD v.toNat 0 < 0 ∨ BackOk P f (P.getD v.toNat 0))
theorem BackOk.up {P : List Int} : ∀ {f : Nat} {v : Int}, BackOk P f v → BackOk P (f + 1) v
  | 0, _, h => ⟨h.1, .inl h.2⟩
  | _ + 1, _, h => ⟨h.1, h.2.imp id fun h => h.up⟩
theorem BackOk.le {P : List Int} {f g : Nat} {v : Int} (h : BackOk P f v) (hg : f ≤ g) : BackOk P g v := by
  induction g with
  | zero => obtain rfl : f = 0 := by omega
            exact h
  | succ g ih =>
    rcases Nat.lt_or_ge g f with h1 | h1
    · obtain rfl : f = g + 1 := by omega
      exact h
    · exact (ih h1).up
theorem PJ.back {N : Nat} {x : List Int × List Int} (h : PJ N x) : ∀ (k : Nat) (hk : k < x.1.length), BackOk x.2 k x.1[k] := by
  intro k
  induction k using Nat.strongRecOn with
  | ind k ih =>
    intro hk
    have hin := h.inn _ (List.getElem_mem hk)
    rw [← h.len] at hin
    rcases h.pre k hk with h1 | ⟨j, hj, h1, h2⟩
    · exact (show BackOk x.2 0 x.1[k] from ⟨hin, by omega⟩).le (Nat.zero_le _)
    · have h3 := (ih j h1 hj).le (show j ≤ k - 1 by omega)
      rw [← h2] at h3
      generalize x.1[k] = v at *
      obtain ⟨m, rfl⟩ : ∃ m, k = m + 1 := ⟨k - 1, by omega⟩
      exact ⟨hin, .inr h3⟩
theorem bkw_len (P : List Int) : ∀ (f : Nat) (v : Int) (tl : List Int), (bkw P f v tl).length ≤ f + 1 + tl.length
  | 0, v, tl => by rw [bkw, List.length_cons]; omega
  | f + 1, v, tl => by
    rw [bkw]; split
    · have := bkw_len P f (P.getD v.toNat 0) (v :: tl)
      simp only [List.length_cons] at this
      omega
    · rw [List.length_cons]; omega
end Go.Gl

/- Cycles and accepted traces, as the document finds them. -/
namespace Go.Gl
def cycT (rows : List (List Int)) (P : List Int) (v : Int) : List Int → List Int
  | [] => []
  | u :: t => if v ∈ rows.getD u.toNat [] then bkw P rows.length u [] else cycT rows P v t
def cycL (rows : List (List Int)) (v : Int) : List Int := if v ∈ rows.getD v.toNat [] then [v] else cycT rows (srP rows [v]) v (srQ rows [v])
def finT (rows : List (List Int)) (acc : List Bool) (P : List Int) : List Int → Option (List Int × List Int)
  | [] => none
  | u :: t => if acc.getD (u % acc.length).toNat false = true then (if 0 < (cycL rows u).length then some (bkw P rows.length u [], cycL rows u) else finT rows acc P t) else finT rows acc P t
def stL (l : List Int) (n : Nat) : List Int := l.map fun x => x / n
def finS (rows : List (List Int)) (ini : List Int) (acc : List Bool) : Option (List Int × List Int) := finT rows acc (srP rows ini) (srQ rows ini)
theorem cycT_len (rows : List (List Int)) (P : List Int) (v : Int) : ∀ l, (cycT rows P v l).length ≤ rows.length + 1
  | [] => Nat.zero_le _
  | u :: t => by
    rw [cycT]; split
    · exact bkw_len _ _ _ _
    · exact cycT_len rows P v t
theorem cycL_len (rows : List (List Int)) (v : Int) : (cycL rows v).length ≤ rows.length + 1 := by
  unfold cycL; split
  · simp
  · exact cycT_len _ _ _ _
theorem bkw_pos (P : List Int) : ∀ (f : Nat) (v : Int) (tl : List Int), 1 ≤ (bkw P f v tl).length
  | 0, v, tl => by rw [bkw, List.length_cons]; omega
  | f + 1, v, tl => by
    rw [bkw]; split
    · exact bkw_pos P f _ _
    · rw [List.length_cons]; omega
theorem bkw_nn {P : List Int} : ∀ (f : Nat) (v : Int) (tl : List Int), 0 ≤ v → (∀ x ∈ tl, 0 ≤ x) → ∀ x ∈ bkw P f v tl, 0 ≤ x
  | 0, v, tl, h0, h, x, hx => by
    rw [bkw] at hx
    rcases List.mem_cons.1 hx with rfl | h1
    · exact h0
    · exact h x h1
  | f + 1, v, tl, h0, h, x, hx => by
    rw [bkw] at hx
    split at hx
    · rename_i h2
      exact bkw_nn f _ _ h2 (fun y hy => by
        rcases List.mem_cons.1 hy with rfl | h1
        · exact h0
        · exact h y h1) x hx
    · rcases List.mem_cons.1 hx with rfl | h1
      · exact h0
      · exact h x h1
theorem cycT_nn (rows : List (List Int)) (P : List Int) (v : Int) : ∀ l : List Int, (∀ x ∈ l, 0 ≤ x) → ∀ x ∈ cycT rows P v l, 0 ≤ x
  | [], _, x, hx => by cases hx
  | u :: t, h, x, hx => by
    rw [cycT] at hx
    split at hx
    · exact bkw_nn _ _ _ (h u (by simp)) (fun y hy => by cases hy) x hx
    · exact cycT_nn rows P v t (fun y hy => h y (by simp [hy])) x hx
theorem srQ_in {rows : List (List Int)} {ini : List Int} (hr : ∀ r ∈ rows, InN rows.length r) (hi : InN rows.length ini) (hn : ini.Nodup) : InN rows.length (srQ rows ini) := (srS_PJ hr hi hn _).inn
theorem srP_len {rows : List (List Int)} {ini : List Int} (hr : ∀ r ∈ rows, InN rows.length r) (hi : InN rows.length ini) (hn : ini.Nodup) : (srP rows ini).length = rows.length := (srS_PJ hr hi hn _).len
theorem srQ_len {rows : List (List Int)} {ini : List Int} (hr : ∀ r ∈ rows, InN rows.length r) (hi : InN rows.length ini) (hn : ini.Nodup) : (srQ rows ini).length ≤ rows.length := srS_len hr hi hn _
theorem srQ_back {rows : List (List Int)} {ini : List Int} (hr : ∀ r ∈ rows, InN rows.length r) (hi : InN rows.length ini) (hn : ini.Nodup) (k : Nat) (hk : k < (srQ rows ini).length) : BackOk (srP rows ini) rows.length (srQ rows ini)[k] :=
  ((srS_PJ hr hi hn rows.length).back k hk).le (by have := srQ_len hr hi hn; omega)
theorem one_in {N : Nat} {v : Int} (h : 0 ≤ v ∧ v < N) : InN N [v] := fun x hx => by rw [List.mem_singleton.1 hx]; exact h
theorem cycL_nn {rows : List (List Int)} (hr : ∀ r ∈ rows, InN rows.length r) {v : Int} (hv : 0 ≤ v ∧ v < rows.length) : ∀ x ∈ cycL rows v, 0 ≤ x := by
  unfold cycL; split
  · intro x hx; rw [List.mem_singleton.1 hx]; exact hv.1
  · exact cycT_nn _ _ _ _ fun x hx => (srQ_in hr (one_in hv) (by simp) x hx).1
theorem visPs_le {M u : Int} (hu : u ≤ M) : ∀ (l : List Int) (x : List Int × List Int), (∀ y ∈ x.2, y ≤ M) → ∀ y ∈ (visPs u x l).2, y ≤ M
  | [], _, h => h
  | v :: l, x, h => by
    refine visPs_le hu l (visP u x v) fun y hy => ?_
    unfold visP at hy
    split at hy
    · exact h y hy
    · rcases List.mem_or_eq_of_mem_set hy with h1 | rfl
      · exact h y h1
      · exact hu
theorem srS_le {rows : List (List Int)} {ini : List Int} (hr : ∀ r ∈ rows, InN rows.length r) (hi : InN rows.length ini) (hn : ini.Nodup) (i : Nat) : ∀ y ∈ (srS rows ini i).2, y ≤ rows.length := by
  induction i with
  | zero =>
    intro y hy
    have := List.eq_of_mem_replicate (show y ∈ List.replicate rows.length (-1) from hy)
    omega
  | succ i ih =>
    rw [srS]; split
    · rename_i h
      have := (srS_PJ hr hi hn i).inn _ (List.getElem_mem h)
      exact visPs_le (by omega) _ _ ih
    · exact ih
theorem bkw_le {P : List Int} {M : Int} (hP : ∀ x ∈ P, x ≤ M) : ∀ (f : Nat) (v : Int) (tl : List Int), v ≤ M → 0 ≤ M → (∀ x ∈ tl, x ≤ M) → ∀ x ∈ bkw P f v tl, x ≤ M
  | 0, v, tl, h0, _, h, x, hx => by
    rw [bkw] at hx
    rcases List.mem_cons.1 hx with rfl | h1
    · exact h0
    · exact h x h1
  | f + 1, v, tl, h0, hM, h, x, hx => by
    have h2 : ∀ y ∈ v :: tl, y ≤ M := fun y hy => by
      rcases List.mem_cons.1 hy with rfl | h1
      · exact h0
      · exact h y h1
    rw [bkw] at hx
    split at hx
    · refine bkw_le hP f _ _ ?_ hM h2 x hx
      by_cases hl : v.toNat < P.length
      · rw [z50 hl]; exact hP _ (List.getElem_mem _)
      · rw [List.getD_eq_getElem?_getD, List.getElem?_eq_none (by omega)]; exact hM
    · exact h2 x hx
theorem cycT_le (rows : List (List Int)) {P : List Int} {M : Int} (hP : ∀ x ∈ P, x ≤ M) (hM : 0 ≤ M) (v : Int) : ∀ l : List Int, (∀ x ∈ l, x ≤ M) → ∀ x ∈ cycT rows P v l, x ≤ M
  | [], _, x, hx => by cases hx
  | u :: t, h, x, hx => by
    rw [cycT] at hx
    split at hx
    · exact bkw_le hP _ _ _ (h u (by simp)) hM (fun y hy => by cases hy) x hx
    · exact cycT_le rows hP hM v t (fun y hy => h y (by simp [hy])) x hx
theorem cycL_le {rows : List (List Int)} (hr : ∀ r ∈ rows, InN rows.length r) {v : Int} (hv : 0 ≤ v ∧ v < rows.length) : ∀ x ∈ cycL rows v, x ≤ rows.length := by
  unfold cycL; split
  · intro x hx; rw [List.mem_singleton.1 hx]; omega
  · exact cycT_le _ (srS_le hr (one_in hv) (by simp) _) (by omega) _ _ fun x hx => by
      have := srQ_in hr (one_in hv) (by simp) x hx
      omega
end Go.Gl

/- The least ranks, as the document computes them. -/
namespace Go.Gl
def rkStep (R : List Int) (z : Bool) (o v : Int) : Int := if o < R.getD v.toNat 0 + (if z = true then 1 else 0) then R.getD v.toNat 0 + (if z = true then 1 else 0) else o
def rkOf (R : List Int) (z : Bool) (row : List Int) : Int := row.foldl (rkStep R z) 0
def Bd (M : Int) (R : List Int) : Prop := ∀ x ∈ R, -1 ≤ x ∧ x ≤ M
theorem Bd.getD {M : Int} {R : List Int} (h : Bd M R) (hM : 0 ≤ M) (i : Nat) : -1 ≤ R.getD i 0 ∧ R.getD i 0 ≤ M := by
  by_cases hl : i < R.length
  · rw [z50 hl]; exact h _ (List.getElem_mem _)
  · rw [List.getD_eq_getElem?_getD, List.getElem?_eq_none (by omega)]; exact ⟨by show -1 ≤ (0 : Int); omega, hM⟩
theorem Bd.mono {M M' : Int} {R : List Int} (h : Bd M R) (hM : M ≤ M') : Bd M' R := fun x hx => by have := h x hx; omega
theorem Bd.set {M : Int} {R : List Int} (h : Bd M R) {i : Nat} {v : Int} (hv : -1 ≤ v ∧ v ≤ M) : Bd M (R.set i v) := fun x hx => by
  rcases List.mem_or_eq_of_mem_set hx with h1 | rfl
  · exact h x h1
  · exact hv
theorem rkStep_le {M : Int} {R : List Int} (h : Bd M R) (hM : 0 ≤ M) {z : Bool} {o v : Int} (ho : 0 ≤ o ∧ o ≤ M + 1) : 0 ≤ rkStep R z o v ∧ rkStep R z o v ≤ M + 1 := by
  have := h.getD hM v.toNat
  unfold rkStep
  cases z
  · simp only [if_neg (show ¬ false = true by simp)]
    split <;> omega
  · simp only [if_pos]
    split <;> omega
theorem rkFold_le {M : Int} {R : List Int} (h : Bd M R) (hM : 0 ≤ M) {z : Bool} : ∀ (row : List Int) (o : Int), 0 ≤ o ∧ o ≤ M + 1 → 0 ≤ row.foldl (rkStep R z) o ∧ row.foldl (rkStep R z) o ≤ M + 1
  | [], _, ho => ho
  | v :: row, _, ho => rkFold_le h hM row _ (rkStep_le h hM ho)
theorem rkOf_le {M : Int} {R : List Int} (h : Bd M R) (hM : 0 ≤ M) (z : Bool) (row : List Int) : 0 ≤ rkOf R z row ∧ rkOf R z row ≤ M + 1 := rkFold_le h hM row 0 ⟨by omega, by omega⟩
def relax (rows : List (List Int)) (acc : List Bool) (x : List Int × Bool) (u : Int) : List Int × Bool :=
  if x.1.getD u.toNat 0 < rkOf x.1 (acc.getD (u % acc.length).toNat false) (rows.getD u.toNat []) then (x.1.set u.toNat (rkOf x.1 (acc.getD (u % acc.length).toNat false) (rows.getD u.toNat [])), true) else x
def passR (rows : List (List Int)) (acc : List Bool) (nodes R : List Int) : List Int × Bool := nodes.reverse.foldl (relax rows acc) (R, false)
def roundsR (rows : List (List Int)) (acc : List Bool) (nodes : List Int) : Nat → List Int → Bool → List Int
  | 0, R, _ => R
  | f + 1, R, c => if c = true then roundsR rows acc nodes f (passR rows acc nodes R).1 (passR rows acc nodes R).2 else R
def zeroR (N : Nat) (nodes : List Int) : List Int := nodes.foldl (fun R u => R.set u.toNat 0) (List.replicate N (-1))
def makeR (rows : List (List Int)) (ini : List Int) (acc : List Bool) : List Int := roundsR rows acc (bfsL rows ini) ((bfsL rows ini).length + 2) (zeroR rows.length (bfsL rows ini)) true
theorem zeroR_take {N : Nat} {nodes : List Int} {k : Nat} (h : k < nodes.length) : zeroR N (nodes.take (k + 1)) = (zeroR N (nodes.take k)).set nodes[k].toNat 0 := by
  unfold zeroR
  rw [List.take_succ_eq_append_getElem h, List.foldl_append]; rfl
theorem zeroR_len (N : Nat) (nodes : List Int) : (zeroR N nodes).length = N := by
  unfold zeroR
  have : ∀ (l R : List Int), (l.foldl (fun R u => R.set u.toNat 0) R).length = R.length := by
    intro l
    induction l with
    | nil => intro R; rfl
    | cons u l ih => intro R; rw [List.foldl_cons, ih]; simp
  rw [this]; simp
theorem zeroR_bd (N : Nat) (nodes : List Int) : Bd 0 (zeroR N nodes) := by
  unfold zeroR
  have : ∀ (l R : List Int), Bd 0 R → Bd 0 (l.foldl (fun R u => R.set u.toNat 0) R) := by
    intro l
    induction l with
    | nil => intro R h; exact h
    | cons u l ih => intro R h; rw [List.foldl_cons]; exact ih _ (h.set ⟨by omega, by omega⟩)
  refine this _ _ fun x hx => ?_
  have := List.eq_of_mem_replicate hx
  omega
theorem relax_bd {rows : List (List Int)} {acc : List Bool} {x : List Int × Bool} {u M : Int} (h : Bd M x.1) (hM : 0 ≤ M) : Bd (M + 1) (relax rows acc x u).1 := by
  unfold relax
  split
  · exact (h.mono (by omega)).set (by have := rkOf_le h hM (acc.getD (u % acc.length).toNat false) (rows.getD u.toNat []); omega)
  · exact h.mono (by omega)
theorem relax_len (rows : List (List Int)) (acc : List Bool) (x : List Int × Bool) (u : Int) : (relax rows acc x u).1.length = x.1.length := by
  unfold relax
  split
  · simp
  · rfl
theorem pass_bd {rows : List (List Int)} {acc : List Bool} : ∀ (l : List Int) (x : List Int × Bool) {M : Int}, Bd M x.1 → 0 ≤ M → Bd (M + l.length) (l.foldl (relax rows acc) x).1
  | [], x, M, h, _ => by simpa using h
  | u :: l, x, M, h, hM => by
    rw [List.foldl_cons]
    have := pass_bd (rows := rows) (acc := acc) l (relax rows acc x u) (relax_bd h hM) (by omega)
    rw [List.length_cons]
    exact this.mono (by omega)
theorem pass_len {rows : List (List Int)} {acc : List Bool} : ∀ (l : List Int) (x : List Int × Bool), (l.foldl (relax rows acc) x).1.length = x.1.length
  | [], _ => rfl
  | u :: l, x => by rw [List.foldl_cons, pass_len l, relax_len]
theorem rounds_len {rows : List (List Int)} {acc : List Bool} {nodes : List Int} : ∀ (f : Nat) (R : List Int) (c : Bool), (roundsR rows acc nodes f R c).length = R.length
  | 0, _, _ => rfl
  | f + 1, R, c => by
    rw [roundsR]; split
    · rw [rounds_len f]; exact pass_len _ _
    · rfl
theorem rounds_bd {rows : List (List Int)} {acc : List Bool} {nodes : List Int} : ∀ (f : Nat) (R : List Int) (c : Bool) {M : Int}, Bd M R → 0 ≤ M → nodes.length ≤ 4000 → Bd (M + 4000 * f) (roundsR rows acc nodes f R c)
  | 0, _, _, M, h, _, _ => by rw [roundsR]; exact h.mono (by omega)
  | f + 1, R, c, M, h, hM, hl => by
    rw [roundsR]; split
    · have h1 := pass_bd (rows := rows) (acc := acc) nodes.reverse (R, false) h hM
      rw [List.length_reverse] at h1
      have := rounds_bd (rows := rows) (acc := acc) (nodes := nodes) f _ (passR rows acc nodes R).2 (M := M + 4000) (h1.mono (by omega)) (by omega) hl
      exact this.mono (by omega)
    · exact h.mono (by omega)
theorem makeR_len (rows : List (List Int)) (ini : List Int) (acc : List Bool) : (makeR rows ini acc).length = rows.length := by unfold makeR; rw [rounds_len, zeroR_len]
end Go.Gl

/- Ghost logic, part V: what reads as data of a type, is a value of a Lean type. -/
namespace Go.Gl
open Go.RowKit Go.WideShapes Go.ChangeShapes
variable {P : Program}

def OpensD {α : Type} (P : Program) (t : TypeId) (enc : α → List AC) (ok : α → Prop) : Prop := ∀ k, Opens P t (fun xs => ∃ a, xs = enc a ∧ ok a) k

theorem od_byte {t : TypeId} (ht : P.underlying t = some (.int .u8)) {enc : Int → List AC} (he : ∀ n, enc n = [.raw (.int .u8 n)]) : OpensD P t enc (fun n => (Lit.int .u8 n).wf = true) := fun k =>
  (opens_int ht k).imp fun xs ⟨n, h1, h2⟩ => ⟨n, h1.trans (he n).symm, h2⟩
theorem choose_map {α : Type} {enc : α → List AC} {ok : α → Prop} : (es : List (List AC)) → (∀ y ∈ es, ∃ a, y = enc a ∧ ok a) → ∃ l : List α, es = l.map enc ∧ ∀ a ∈ l, ok a
  | [], _ => ⟨[], rfl, fun _ h => by cases h⟩
  | e :: es, h => by
    obtain ⟨a, h1, h2⟩ := h e (by simp)
    obtain ⟨l, h3, h4⟩ := choose_map es fun y hy => h y (by simp [hy])
    exact ⟨a :: l, by rw [h1, h3]; rfl, fun b hb => by
      rcases List.mem_cons.1 hb with rfl | hb
      · exact h2
      · exact h4 b hb⟩

theorem opens_list {α : Type} {t e : TypeId} {enc : α → List AC} {ok : α → Prop} {n k : Nat} (ht : P.underlying t = some (.slice e)) (hc : P.cellsOf e = n) (hn : 0 < n) (h : Opens P e (fun xs => ∃ a, xs = enc a ∧ ok a) k) :
    Opens P t (fun xs => ∃ l : List α, xs = [.list n l.length (l.map enc)] ∧ l.length ≤ maxLen ∧ ∀ a ∈ l, ok a) (k + 1) :=
  (opens_slice ht hc hn h).imp fun xs ⟨es, h1, h2, h3⟩ => by
    obtain ⟨l, rfl, h4⟩ := choose_map es h3
    exact ⟨l, by rw [h1]; simp, by simpa using h2, h4⟩

theorem od_list {α : Type} {t e : TypeId} {enc : α → List AC} {ok : α → Prop} (n : Nat) (ht : P.underlying t = some (.slice e)) (hc : P.cellsOf e = n) (hn : 0 < n) (h : OpensD P e enc ok) {encL : List α → List AC} (he : ∀ l, encL l = [.list n l.length (l.map enc)]) :
    OpensD P t encL (fun l => l.length ≤ maxLen ∧ ∀ a ∈ l, ok a)
  | 0 => opens_zero
  | k + 1 => (opens_list ht hc hn (h k)).imp fun xs ⟨l, h1, h2⟩ => ⟨l, h1.trans (he l).symm, h2⟩

theorem OpensD.imp {α β : Type} {t : TypeId} {enc : α → List AC} {ok : α → Prop} {enc' : β → List AC} {ok' : β → Prop} (h : OpensD P t enc ok) (hi : ∀ a, ok a → ∃ b, enc a = enc' b ∧ ok' b) : OpensD P t enc' ok' := fun k =>
  (h k).imp fun xs ⟨a, h1, h2⟩ => by
    obtain ⟨b, h3, h4⟩ := hi a h2
    exact ⟨b, h1.trans h3, h4⟩

/-- an argument -/
def ArgD {α : Type} (P : Program) (t : TypeId) (enc : α → AC) (ok : α → Prop) : Prop := ArgOk P t fun x _ => ∃ a, x = enc a ∧ ok a

theorem ArgOk.imp {t : TypeId} {R R' : AC → Nat → Prop} (h : ArgOk P t R) (hi : ∀ x m, R x m → R' x m) : ArgOk P t R' := fun H enc b hB W r b0 v d ps hv hk => by
  obtain ⟨x, m, h1, h2⟩ := h H enc b hB W r b0 v d ps hv hk
  exact ⟨x, m, hi _ _ h1, h2⟩

theorem argD_list {α : Type} {t e : TypeId} {enc : α → List AC} {ok : α → Prop} {enc1 : α → AC} (ht : P.underlying t = some (.slice e)) (h : OpensD P t enc ok) (he : ∀ a, enc a = [enc1 a]) : ArgD P t enc1 ok :=
  (argOk_slice ht h).imp fun x m ⟨⟨a, h1, h2⟩, _⟩ => ⟨a, by rw [he] at h1; exact (List.cons.inj h1).1, h2⟩
theorem ArgD.imp {α β : Type} {t : TypeId} {enc : α → AC} {ok : α → Prop} {enc' : β → AC} {ok' : β → Prop} (h : ArgD P t enc ok) (hi : ∀ a, ok a → ∃ b, enc a = enc' b ∧ ok' b) : ArgD P t enc' ok' :=
  ArgOk.imp h fun x m ⟨a, h1, h2⟩ => by
    obtain ⟨b, h3, h4⟩ := hi a h2
    exact ⟨b, h1.trans h3, h4⟩

theorem ArgsOk.imp : {ts : List TypeId} → {R R' : List AC → Nat → Prop} → ArgsOk P ts R → (∀ xs m, R xs m → R' xs m) → ArgsOk P ts R'
  | [], _, _, h, hi => hi _ _ h
  | _ :: _, _, _, ⟨R1, R2, h1, h2, h3⟩, hi => ⟨R1, R2, h1, h2, fun a m as n ha has => hi _ _ (h3 a m as n ha has)⟩
theorem args_nil : ArgsOk P [] (fun xs _ => xs = []) := rfl
theorem args_cons {α : Type} {t : TypeId} {ts : List TypeId} {enc : α → AC} {ok : α → Prop} {R : List AC → Prop} (h : ArgD P t enc ok) (k : ArgsOk P ts (fun xs _ => R xs)) : ArgsOk P (t :: ts) (fun xs _ => ∃ a ys, xs = enc a :: ys ∧ ok a ∧ R ys) :=
  ⟨_, _, h, k, fun _ _ as _ ⟨b, h1, h2⟩ h3 => ⟨b, as, by rw [h1], h2, h3⟩⟩

theorem bulks_sizeOf {H : Type} : (l : List (DataW H)) → bulks SizeOf.sizeOf l + 1 ≤ SizeOf.sizeOf l
  | [] => by simp [bulks]
  | d :: r => by
    have := bulks_sizeOf r
    simp only [bulks, List.cons.sizeOf_spec]
    omega
theorem bulk_sizeOf {H : Type} : Bulk (H := H) SizeOf.sizeOf where
  lit l := by simp only [DataW.lit.sizeOf_spec]; omega
  nil := by simp
  slice es sp := by
    have := bulks_sizeOf es
    simp only [DataW.slice.sizeOf_spec]; omega
  agg ps := by
    have := bulks_sizeOf ps
    simp only [DataW.agg.sizeOf_spec]; omega
end Go.Gl

