/- A part of the proofs over this program: D15, D16, GlV. -/
import Derived.Test.YtknlmbniicacmaaGreatG0
import Derived.Test.YtknlmbniicacmaaGreatG1
import Derived.Test.YtknlmbniicacmaaGreatG2
set_option linter.all false
/- Partitions of the states of a graph: refinement, stability, the coarsest one, quotients. -/
namespace Go.Gl

theorem sortD_iff {l m : List Int} : sortD l = sortD m ↔ ∀ x, x ∈ l ↔ x ∈ m := by
  constructor
  · intro h x
    rw [← sortD_mem (l := l), h, sortD_mem]
  · intro h
    exact asc_ext (sortD_asc l) (sortD_asc m) (fun x => by rw [sortD_mem, sortD_mem]; exact h x)
theorem numK_getD {K : Type} [DecidableEq K] (κ : Nat → K) {n a b : Nat} (ha : a < n) (hb : b < n) : (numK κ n).1.getD a 0 = (numK κ n).1.getD b 0 ↔ κ a = κ b := by
  rw [z20 (by rw [numK_len]; exact ha), z20 (by rw [numK_len]; exact hb)]
  exact numK_iff n (Nat.le_refl _) a b ha hb

def keyN (nx : List (List Int)) (bl : List Int) (i : Nat) : List Int := bl.getD i 0 :: sortD ((nx.getD i []).map fun p : Int => bl.getD p.toNat 0)
def refN (nx : List (List Int)) (n : Nat) (bl : List Int) : List Int := (numK (keyN nx bl) n).1
theorem refN_iff {nx : List (List Int)} {n : Nat} {bl : List Int} {a b : Nat} (ha : a < n) (hb : b < n) : (refN nx n bl).getD a 0 = (refN nx n bl).getD b 0 ↔ bl.getD a 0 = bl.getD b 0 ∧ ∀ x, (∃ p : Int, p ∈ nx.getD a [] ∧ bl.getD p.toNat 0 = x) ↔ ∃ p : Int, p ∈ nx.getD b [] ∧ bl.getD p.toNat 0 = x := by
  unfold refN
  rw [numK_getD _ ha hb]
  unfold keyN
  simp only [List.cons.injEq, sortD_iff, List.mem_map]

/-- what is in one block has successors in the same blocks -/
def Stb (nx : List (List Int)) (n : Nat) (c : Nat → Int) : Prop := ∀ i j, i < n → j < n → c i = c j → ∀ p ∈ nx.getD i [], ∃ q ∈ nx.getD j [], c q.toNat = c p.toNat
theorem Stb.of_ref {nx : List (List Int)} {n : Nat} {bl : List Int} (h : refN nx n bl = bl) : Stb nx n (fun i => bl.getD i 0) := by
  intro i j hi hj e p hp
  have := ((refN_iff (nx := nx) (bl := bl) hi hj).1 (by rw [h]; exact e)).2 (bl.getD p.toNat 0)
  obtain ⟨q, hq, e⟩ := this.1 ⟨p, hp, rfl⟩
  exact ⟨q, hq, e⟩
def bisM (nx : List (List Int)) (n : Nat) (b : List Int) : Nat → List Int
  | 0 => b
  | k + 1 => refN nx n (bisM nx n b k)
theorem inN_lt {nx : List (List Int)} {n i : Nat} (hr : ∀ r ∈ nx, InN n r) {p : Int} (hp : p ∈ nx.getD i []) : p.toNat < n := by
  have := rowInN hr i p hp
  omega
theorem coarsest {nx : List (List Int)} {n : Nat} {c : Nat → Int} (hr : ∀ r ∈ nx, InN n r) (hs : Stb nx n c) {b : List Int} (h0 : ∀ i j, i < n → j < n → c i = c j → b.getD i 0 = b.getD j 0) : ∀ k i j, i < n → j < n → c i = c j → (bisM nx n b k).getD i 0 = (bisM nx n b k).getD j 0 := by
  intro k
  induction k with
  | zero => exact h0
  | succ k ih =>
    intro i j hi hj e
    refine (refN_iff hi hj).2 ⟨ih i j hi hj e, fun x => ⟨fun ⟨p, hp, e1⟩ => ?_, fun ⟨p, hp, e1⟩ => ?_⟩⟩
    · obtain ⟨q, hq, e2⟩ := hs i j hi hj e p hp
      exact ⟨q, hq, by rw [← e1]; exact ih _ _ (inN_lt hr hq) (inN_lt hr hp) e2⟩
    · obtain ⟨q, hq, e2⟩ := hs j i hj hi e.symm p hp
      exact ⟨q, hq, by rw [← e1]; exact ih _ _ (inN_lt hr hq) (inN_lt hr hp) e2⟩
/-- each step is finer -/
theorem bisM_finer {nx : List (List Int)} {n : Nat} {b : List Int} {i j : Nat} (hi : i < n) (hj : j < n) : ∀ k, (bisM nx n b k).getD i 0 = (bisM nx n b k).getD j 0 → b.getD i 0 = b.getD j 0 := by
  intro k
  induction k with
  | zero => exact id
  | succ k ih => exact fun h => ih ((refN_iff hi hj).1 h).1
/-- the partition into single states -/
def single (n : Nat) : List Int := (List.range n).map Int.ofNat
/-! first states -/
def fstB (bl : List Int) (n : Nat) : List Nat := (List.range n).filter fun i => decide (∀ k, k < i → bl.getD k 0 ≠ bl.getD i 0)
def mstD (bl : List Int) : Nat → Int
  | 0 => 0
  | i + 1 => if bl.getD i 0 = mstD bl i then mstD bl i + 1 else mstD bl i
theorem fstB_succ (bl : List Int) (n : Nat) : fstB bl (n + 1) = fstB bl n ++ (if ∀ k, k < n → bl.getD k 0 ≠ bl.getD n 0 then [n] else []) := by
  unfold fstB
  rw [List.range_succ, List.filter_append]
  congr 1
  by_cases h : ∀ k, k < n → bl.getD k 0 ≠ bl.getD n 0
  · rw [if_pos h, List.filter_cons_of_pos (by simpa using h)]; rfl
  · rw [if_neg h, List.filter_cons_of_neg (by rw [decide_eq_true_iff]; exact h)]; rfl
theorem fstB_in {bl : List Int} {n i : Nat} (h : i ∈ fstB bl n) : i < n := by
  unfold fstB at h
  exact List.mem_range.1 (List.mem_filter.1 h).1
theorem fstB_len (bl : List Int) (n : Nat) : (fstB bl n).length ≤ n := by
  unfold fstB
  have := List.length_filter_le (fun i => decide (∀ k, k < i → bl.getD k 0 ≠ bl.getD i 0)) (List.range n)
  simpa using this
/-- the blocks are z128 in the order of their first states -/
theorem fstB_spec {bl : List Int} {n : Nat} (hp : ∀ i, i < n → 0 ≤ bl.getD i 0 ∧ bl.getD i 0 ≤ mstD bl i) : ∀ i, i ≤ n → ((fstB bl i).length : Int) = mstD bl i ∧ (∀ b (h : b < (fstB bl i).length), bl.getD (fstB bl i)[b] 0 = (b : Int)) ∧ ∀ k, k < i → bl.getD k 0 < mstD bl i := by
  intro i
  induction i with
  | zero => exact fun _ => ⟨rfl, fun b h => absurd h (by simp [fstB]), fun k hk => by omega⟩
  | succ i ih =>
    intro hi
    obtain ⟨h1, h2, h3⟩ := ih (by omega)
    have hb := hp i (by omega)
    rw [fstB_succ, mstD]
    by_cases he : bl.getD i 0 = mstD bl i
    · have hn : ∀ k, k < i → bl.getD k 0 ≠ bl.getD i 0 := fun k hk => by have := h3 k hk; omega
      rw [if_pos hn, if_pos he]
      refine ⟨by simp; omega, fun b h => ?_, fun k hk => ?_⟩
      · rcases Nat.lt_or_ge b (fstB bl i).length with hb | hb
        · rw [List.getElem_append_left hb]; exact h2 b hb
        · have : b = (fstB bl i).length := by simp at h; omega
          subst this
          simp only [List.getElem_concat_length]
          omega
      · rcases Nat.lt_or_ge k i with h | h
        · have := h3 k h; omega
        · obtain rfl : k = i := by omega
          omega
    · have hlt : bl.getD i 0 < mstD bl i := by omega
      have hn : ¬ ∀ k, k < i → bl.getD k 0 ≠ bl.getD i 0 := fun hn => by
        have hx : (bl.getD i 0).toNat < (fstB bl i).length := by omega
        have := h2 _ hx
        exact hn _ (fstB_in (List.getElem_mem hx)) (by omega)
      rw [if_neg hn, if_neg he, List.append_nil]
      refine ⟨h1, h2, fun k hk => ?_⟩
      rcases Nat.lt_or_ge k i with h | h
      · exact h3 k h
      · obtain rfl : k = i := by omega
        exact hlt
/-- a numbering is a partition -/
theorem numF_mstD (same : Nat → Nat → Bool) (n : Nat) : ∀ i, i ≤ n → mstD (numF same n).1 i = ((numF same i).2 : Int) := by
  intro i
  induction i with
  | zero => intro _; rfl
  | succ i ih =>
    intro hi
    have ih := ih (by omega)
    have hl : i < (numF same n).1.length := by rw [z77]; omega
    rw [mstD, ih, z20 hl]
    rcases find_dec (p := same i) (i := i) with h | ⟨k, h1, h2, h3⟩
    · have e := z116 (same := same) (n := n) (i := i) (by omega) h
      rw [e.1, e.2, if_pos rfl]; omega
    · have e := z109 (same := same) (n := n) (i := i) (by omega) h1 h2 h3
      have hlt := numF_lt' (same := same) (n := n) (i := i) (k := k) (by omega) h1
      rw [e.1, e.2, if_neg (by omega)]
theorem numF_partD (same : Nat → Nat → Bool) (n : Nat) : ∀ i, i < n → 0 ≤ (numF same n).1.getD i 0 ∧ (numF same n).1.getD i 0 ≤ mstD (numF same n).1 i := fun i hi => by
  rw [numF_mstD same n i (by omega), z20 (by rw [z77]; exact hi)]
  rcases find_dec (p := same i) (i := i) with h | ⟨k, h1, h2, h3⟩
  · have e := z116 (same := same) (n := n) (i := i) hi h
    rw [e.1]; omega
  · have e := z109 (same := same) (n := n) (i := i) hi h1 h2 h3
    have hlt := numF_lt' (same := same) (n := n) (i := i) (k := k) (by omega) h1
    rw [e.1]; omega

/-- what a partition needs for its quotient -/
structure Part (bl : List Int) (n : Nat) : Prop where
  rng : ∀ i, i < n → 0 ≤ bl.getD i 0 ∧ bl.getD i 0 ≤ mstD bl i
namespace Part
variable {bl : List Int} {n : Nat}
theorem cnt (h : Part bl n) : ((fstB bl n).length : Int) = mstD bl n := (fstB_spec h.rng n (Nat.le_refl _)).1
theorem at_fst (h : Part bl n) {b : Nat} (hb : b < (fstB bl n).length) : bl.getD ((fstB bl n).getD b 0) 0 = (b : Int) := by
  rw [z20 hb]; exact (fstB_spec h.rng n (Nat.le_refl _)).2.1 b hb
theorem lt (h : Part bl n) {i : Nat} (hi : i < n) : (bl.getD i 0).toNat < (fstB bl n).length := by
  have h1 := (fstB_spec h.rng n (Nat.le_refl _)).2.2 i hi
  have h2 := h.cnt
  have h3 := h.rng i hi
  omega
theorem nat (h : Part bl n) {i : Nat} (hi : i < n) : (((bl.getD i 0).toNat : Nat) : Int) = bl.getD i 0 := Int.toNat_of_nonneg (h.rng i hi).1
theorem fst_lt (h : Part bl n) {b : Nat} (hb : b < (fstB bl n).length) : (fstB bl n).getD b 0 < n := by
  rw [z20 hb]; exact fstB_in (List.getElem_mem hb)
/-- the first state of a state's block -/
theorem rep (h : Part bl n) {i : Nat} (hi : i < n) : bl.getD ((fstB bl n).getD (bl.getD i 0).toNat 0) 0 = bl.getD i 0 := by
  rw [h.at_fst (h.lt hi), h.nat hi]
end Part

/-- the successors in the quotient -/
def quoN (nx : List (List Int)) (n : Nat) (bl : List Int) : List (List Int) := (fstB bl n).map fun i => visits [] ((nx.getD i []).map fun p : Int => bl.getD p.toNat 0)
theorem quoN_len (nx : List (List Int)) (n : Nat) (bl : List Int) : (quoN nx n bl).length = (fstB bl n).length := by simp [quoN]
theorem quoN_mem {nx : List (List Int)} {n : Nat} {bl : List Int} {b : Nat} (hb : b < (fstB bl n).length) {x : Int} : x ∈ (quoN nx n bl).getD b [] ↔ ∃ p : Int, p ∈ nx.getD ((fstB bl n).getD b 0) [] ∧ bl.getD p.toNat 0 = x := by
  unfold quoN
  rw [z20 (by simpa using hb), z20 hb, List.getElem_map, visits_mem, List.mem_map]
  simp
section
variable {nx : List (List Int)} {n : Nat} {bl : List Int} (hr : ∀ r ∈ nx, InN n r) (hp : Part bl n)
include hr hp
theorem quoN_in : ∀ r ∈ quoN nx n bl, InN (fstB bl n).length r := by
  intro r h x hx
  obtain ⟨b, hb, e⟩ := List.mem_iff_getElem.1 h
  have hb' : b < (fstB bl n).length := by rwa [quoN_len] at hb
  have : x ∈ (quoN nx n bl).getD b [] := by rw [z20 hb, e]; exact hx
  obtain ⟨p, hp', e⟩ := (quoN_mem hb').1 this
  have h1 := hp.lt (inN_lt hr hp')
  have h2 := hp.nat (inN_lt hr hp')
  omega
/-- the quotient by a stable partition simulates and is simulated -/
theorem quoN_step (hs : Stb nx n (fun i => bl.getD i 0)) {i : Nat} (hi : i < n) {x : Int} : x ∈ (quoN nx n bl).getD (bl.getD i 0).toNat [] ↔ ∃ p : Int, p ∈ nx.getD i [] ∧ bl.getD p.toNat 0 = x := by
  rw [quoN_mem (hp.lt hi)]
  have hf := hp.fst_lt (hp.lt hi)
  have e := hp.rep hi
  constructor
  · rintro ⟨p, h1, h2⟩
    obtain ⟨q, h3, h4⟩ := hs _ i hf hi e p h1
    exact ⟨q, h3, by rw [← h2]; exact h4⟩
  · rintro ⟨p, h1, h2⟩
    obtain ⟨q, h3, h4⟩ := hs i _ hi hf e.symm p h1
    exact ⟨q, h3, by rw [← h2]; exact h4⟩
end
end Go.Gl

/- The quotient by the coarsest partition cannot be made smaller; a stable partition preserves branching-time formulas. -/
namespace Go.Gl

section
variable {nx : List (List Int)} {n : Nat} {bl : List Int} (hr : ∀ r ∈ nx, InN n r) (hp : Part bl n) (hs : Stb nx n (fun i => bl.getD i 0))
include hr hp hs
end
end Go.Gl

/- Ghost logic, part V: what reads as data of a type, is a value of a Lean type. -/
namespace Go.Gl
open Go.RowKit Go.WideShapes Go.ChangeShapes
variable {P : Program}

def OpensD {α : Type} (P : Program) (t : TypeId) (enc : α → List AC) (ok : α → Prop) : Prop := ∀ k, Opens P t (fun xs => ∃ a, xs = enc a ∧ ok a) k

theorem od_byte {t : TypeId} (ht : P.underlying t = some (.int .u8)) {enc : Int → List AC} (he : ∀ n, enc n = [.raw (.int .u8 n)]) : OpensD P t enc (fun n => (Lit.int .u8 n).wf = true) := fun k =>
  (opens_int ht k).imp fun xs ⟨n, h1, h2⟩ => ⟨n, h1.trans (he n).symm, h2⟩
theorem choose_map {α : Type} {enc : α → List AC} {ok : α → Prop} : (es : List (List AC)) → (∀ y ∈ es, ∃ a, y = enc a ∧ ok a) → ∃ l : List α, es = l.map enc ∧ ∀ a ∈ l, ok a
  | [], _ => ⟨[], rfl, fun _ h => by cases h⟩
  | e :: es, h => by
    obtain ⟨a, h1, h2⟩ := h e (by simp)
    obtain ⟨l, h3, h4⟩ := choose_map es fun y hy => h y (by simp [hy])
    exact ⟨a :: l, by rw [h1, h3]; rfl, fun b hb => by
      rcases List.mem_cons.1 hb with rfl | hb
      · exact h2
      · exact h4 b hb⟩

theorem opens_list {α : Type} {t e : TypeId} {enc : α → List AC} {ok : α → Prop} {n k : Nat} (ht : P.underlying t = some (.slice e)) (hc : P.cellsOf e = n) (hn : 0 < n) (h : Opens P e (fun xs => ∃ a, xs = enc a ∧ ok a) k) :
    Opens P t (fun xs => ∃ l : List α, xs = [.list n l.length (l.map enc)] ∧ l.length ≤ maxLen ∧ ∀ a ∈ l, ok a) (k + 1) :=
  (opens_slice ht hc hn h).imp fun xs ⟨es, h1, h2, h3⟩ => by
    obtain ⟨l, rfl, h4⟩ := choose_map es h3
    exact ⟨l, by rw [h1]; simp, by simpa using h2, h4⟩

theorem od_list {α : Type} {t e : TypeId} {enc : α → List AC} {ok : α → Prop} (n : Nat) (ht : P.underlying t = some (.slice e)) (hc : P.cellsOf e = n) (hn : 0 < n) (h : OpensD P e enc ok) {encL : List α → List AC} (he : ∀ l, encL l = [.list n l.length (l.map enc)]) :
    OpensD P t encL (fun l => l.length ≤ maxLen ∧ ∀ a ∈ l, ok a)
  | 0 => opens_zero
  | k + 1 => (opens_list ht hc hn (h k)).imp fun xs ⟨l, h1, h2⟩ => ⟨l, h1.trans (he l).symm, h2⟩

theorem OpensD.imp {α β : Type} {t : TypeId} {enc : α → List AC} {ok : α → Prop} {enc' : β → List AC} {ok' : β → Prop} (h : OpensD P t enc ok) (hi : ∀ a, ok a → ∃ b, enc a = enc' b ∧ ok' b) : OpensD P t enc' ok' := fun k =>
  (h k).imp fun xs ⟨a, h1, h2⟩ => by
    obtain ⟨b, h3, h4⟩ := hi a h2
    exact ⟨b, h1.trans h3, h4⟩

/-- an argument -/
def ArgD {α : Type} (P : Program) (t : TypeId) (enc : α → AC) (ok : α → Prop) : Prop := ArgOk P t fun x _ => ∃ a, x = enc a ∧ ok a

theorem ArgOk.imp {t : TypeId} {R R' : AC → Nat → Prop} (h : ArgOk P t R) (hi : ∀ x m, R x m → R' x m) : ArgOk P t R' := fun H enc b hB W r b0 v d ps hv hk => by
  obtain ⟨x, m, h1, h2⟩ := h H enc b hB W r b0 v d ps hv hk
  exact ⟨x, m, hi _ _ h1, h2⟩

theorem argD_list {α : Type} {t e : TypeId} {enc : α → List AC} {ok : α → Prop} {enc1 : α → AC} (ht : P.underlying t = some (.slice e)) (h : OpensD P t enc ok) (he : ∀ a, enc a = [enc1 a]) : ArgD P t enc1 ok :=
  (argOk_slice ht h).imp fun x m ⟨⟨a, h1, h2⟩, _⟩ => ⟨a, by rw [he] at h1; exact (List.cons.inj h1).1, h2⟩
theorem ArgD.imp {α β : Type} {t : TypeId} {enc : α → AC} {ok : α → Prop} {enc' : β → AC} {ok' : β → Prop} (h : ArgD P t enc ok) (hi : ∀ a, ok a → ∃ b, enc a = enc' b ∧ ok' b) : ArgD P t enc' ok' :=
  ArgOk.imp h fun x m ⟨a, h1, h2⟩ => by
    obtain ⟨b, h3, h4⟩ := hi a h2
    exact ⟨b, h1.trans h3, h4⟩

theorem ArgsOk.imp : {ts : List TypeId} → {R R' : List AC → Nat → Prop} → ArgsOk P ts R → (∀ xs m, R xs m → R' xs m) → ArgsOk P ts R'
  | [], _, _, h, hi => hi _ _ h
  | _ :: _, _, _, ⟨R1, R2, h1, h2, h3⟩, hi => ⟨R1, R2, h1, h2, fun a m as n ha has => hi _ _ (h3 a m as n ha has)⟩
theorem args_nil : ArgsOk P [] (fun xs _ => xs = []) := rfl
theorem args_cons {α : Type} {t : TypeId} {ts : List TypeId} {enc : α → AC} {ok : α → Prop} {R : List AC → Prop} (h : ArgD P t enc ok) (k : ArgsOk P ts (fun xs _ => R xs)) : ArgsOk P (t :: ts) (fun xs _ => ∃ a ys, xs = enc a :: ys ∧ ok a ∧ R ys) :=
  ⟨_, _, h, k, fun _ _ as _ ⟨b, h1, h2⟩ h3 => ⟨b, as, by rw [h1], h2, h3⟩⟩

theorem bulks_sizeOf {H : Type} : (l : List (DataW H)) → bulks SizeOf.sizeOf l + 1 ≤ SizeOf.sizeOf l
  | [] => by simp [bulks]
  | d :: r => by
    have := bulks_sizeOf r
    simp only [bulks, List.cons.sizeOf_spec]
    omega
theorem bulk_sizeOf {H : Type} : Bulk (H := H) SizeOf.sizeOf where
  lit l := by simp only [DataW.lit.sizeOf_spec]; omega
  nil := by simp
  slice es sp := by
    have := bulks_sizeOf es
    simp only [DataW.slice.sizeOf_spec]; omega
  agg ps := by
    have := bulks_sizeOf ps
    simp only [DataW.agg.sizeOf_spec]; omega
end Go.Gl

