/- A part of the proofs over this program: D5, D6, GlZ1, GlAA, GlRS, D7, D8, D9, D10, D12, D13, GlRT, GlV. -/
import Derived.Test.YtkophaoifmofdaaG0
import Derived.Test.YtkophaoifmofdaaG1
import Derived.Sort.Grow
import Derived.Lib.SlicesCompact
set_option linter.all false
/- Numbering by first occurrence; what is lent. -/
namespace Go.Gl

def numF (same : Nat → Nat → Bool) : Nat → List Int × Nat
  | 0 => ([], 0)
  | i + 1 => match (List.range i).find? (same i) with
    | some k => ((numF same i).1 ++ [(numF same i).1.getD k 0], (numF same i).2)
    | none => ((numF same i).1 ++ [((numF same i).2 : Int)], (numF same i).2 + 1)
theorem numF_len (same : Nat → Nat → Bool) (n : Nat) : (numF same n).1.length = n := by
  induction n with
  | zero => rfl
  | succ i ih => simp only [numF]; split <;> simp [ih]
theorem numF_pre {same : Nat → Nat → Bool} {i n : Nat} (h : i ≤ n) : (numF same n).1.take i = (numF same i).1 := by
  induction n with
  | zero => obtain rfl : i = 0 := by omega
            rfl
  | succ n ih =>
    rcases Nat.lt_or_ge n i with h1 | h1
    · obtain rfl : i = n + 1 := by omega
      rw [List.take_of_length_le (by rw [numF_len]; omega)]
    · have hl := numF_len same n
      rw [← ih h1]
      simp only [numF]
      split <;> rw [List.take_append_of_le_length (by omega)]
theorem numF_at {same : Nat → Nat → Bool} {i k n : Nat} (h : k < i) (hi : i ≤ n) : (numF same i).1.getD k 0 = (numF same n).1[k]'(by rw [numF_len]; omega) := by
  rw [getD_at (by rw [numF_len]; exact h)]
  simp only [← numF_pre hi, List.getElem_take]
theorem numF_lt (same : Nat → Nat → Bool) (n : Nat) : (∀ x ∈ (numF same n).1, 0 ≤ x ∧ x < (numF same n).2) ∧ (numF same n).2 ≤ n := by
  induction n with
  | zero => exact ⟨fun x hx => (by cases hx), Nat.le_refl _⟩
  | succ i ih =>
    obtain ⟨h1, h2⟩ := ih
    simp only [numF]
    split
    · rename_i k hk
      have hki : k < i := List.mem_range.1 (List.mem_of_find?_eq_some hk)
      have := h1 _ (List.getElem_mem (l := (numF same i).1) (n := k) (by rw [numF_len]; exact hki))
      rw [getD_at (by rw [numF_len]; exact hki)]
      refine ⟨fun x hx => ?_, by dsimp only; omega⟩
      rcases List.mem_append.1 hx with hx | hx
      · exact h1 x hx
      · rw [List.mem_singleton.1 hx]; exact this
    · refine ⟨fun x hx => ?_, by dsimp only; omega⟩
      rcases List.mem_append.1 hx with hx | hx
      · have := h1 x hx
        dsimp only; omega
      · rw [List.mem_singleton.1 hx]; dsimp only; omega
theorem find_none {p : Nat → Bool} {i : Nat} (h : ∀ j, j < i → p j = false) : (List.range i).find? p = none := by
  rw [List.find?_eq_none]
  intro x hx
  rw [h x (List.mem_range.1 hx)]; simp
theorem find_some {p : Nat → Bool} {i k : Nat} (hk : k < i) (h : p k = true) (hn : ∀ j, j < k → p j = false) : (List.range i).find? p = some k := by
  induction i with
  | zero => omega
  | succ i ih =>
    rw [List.range_succ, List.find?_append]
    rcases Nat.lt_or_ge k i with h1 | h1
    · rw [ih h1]; rfl
    · obtain rfl : k = i := by omega
      rw [find_none hn]
      simp [h]
theorem numF_succ {same : Nat → Nat → Bool} {i n : Nat} (hi : i < n) : ∃ h : i < (numF same n).1.length, (numF same (i + 1)).1 = (numF same i).1 ++ [(numF same n).1[i]] := by
  have hl : i < (numF same n).1.length := by rw [numF_len]; exact hi
  refine ⟨hl, ?_⟩
  rw [← numF_pre (i := i + 1) (n := n) hi, ← numF_pre (i := i) (n := n) (by omega), List.take_succ_eq_append_getElem hl]
theorem numF_none {same : Nat → Nat → Bool} {i n : Nat} (hi : i < n) (h : ∀ j, j < i → same i j = false) : (numF same n).1[i]'(by rw [numF_len]; exact hi) = (numF same i).2 ∧ (numF same (i + 1)).2 = (numF same i).2 + 1 := by
  obtain ⟨hl, h1⟩ := numF_succ (same := same) hi
  simp only [numF, find_none h] at h1 ⊢
  have := List.append_cancel_left h1
  exact ⟨(List.cons.inj this).1.symm, trivial⟩
theorem numF_found {same : Nat → Nat → Bool} {i k n : Nat} (hi : i < n) (hk : k < i) (hs : same i k = true) (h : ∀ j, j < k → same i j = false) : (numF same n).1[i]'(by rw [numF_len]; exact hi) = (numF same n).1[k]'(by rw [numF_len]; omega) ∧ (numF same (i + 1)).2 = (numF same i).2 := by
  obtain ⟨hl, h1⟩ := numF_succ (same := same) hi
  simp only [numF, find_some hk hs h] at h1 ⊢
  have := List.append_cancel_left h1
  exact ⟨by rw [← (List.cons.inj this).1, numF_at (n := n) hk (by omega)], trivial⟩
theorem numF_lt' {same : Nat → Nat → Bool} {i k n : Nat} (hi : i ≤ n) (hk : k < i) : 0 ≤ (numF same n).1[k]'(by rw [numF_len]; omega) ∧ (numF same n).1[k]'(by rw [numF_len]; omega) < (numF same i).2 := by
  rw [← numF_at hk hi]
  refine (numF_lt same i).1 _ ?_
  rw [getD_at (by rw [numF_len]; exact hk)]
  exact List.getElem_mem _
theorem numF_congr {s1 s2 : Nat → Nat → Bool} {n : Nat} (h : ∀ i k, k < i → i < n → s1 i k = s2 i k) : numF s1 n = numF s2 n := by
  induction n with
  | zero => rfl
  | succ i ih =>
    have e := ih fun a b h1 h2 => h a b h1 (by omega)
    have : (List.range i).find? (s1 i) = (List.range i).find? (s2 i) := by
      have : ∀ l : List Nat, (∀ x ∈ l, x < i) → l.find? (s1 i) = l.find? (s2 i) := by
        intro l
        induction l with
        | nil => intro _; rfl
        | cons x l ih2 =>
          intro hx
          rw [List.find?_cons, List.find?_cons, h i x (hx x (by simp)) (by omega), ih2 fun y hy => hx y (by simp [hy])]
      exact this _ fun x hx => List.mem_range.1 hx
    simp only [numF, e, this]

theorem flat_set {es : List (List AC)} {i : Nat} {e : List AC} (h : Flat es) (he : flatL e = true) : Flat (es.set i e) := by
  intro x hx
  rcases List.mem_or_eq_of_mem_set hx with hx | rfl
  · exact h x hx
  · exact he
theorem fill_got {α : Type} {f : α → List AC} {l : List α} {z e : List AC} {i k : Nat} (hk : k < i) (hi : i < l.length) : (((l.take i).map f ++ List.replicate (l.length - i) z).set i e)[k]? = some (f l[k]) := by
  rw [List.getElem?_set_ne (by omega), List.getElem?_append_left (by simp; omega)]
  rw [List.getElem?_map, List.getElem?_take, if_pos hk, List.getElem?_eq_getElem (by omega)]; rfl
theorem take_got {α : Type} {f : α → List AC} {l : List α} {i k : Nat} (hk : k < i) (hi : i ≤ l.length) : ((l.take i).map f)[k]? = some (f l[k]) := by
  rw [List.getElem?_map, List.getElem?_take, if_pos hk, List.getElem?_eq_getElem (by omega)]; rfl

theorem app_last {A : List (List AC)} {e : List AC} {i : Nat} (h : A.length = i) : (A ++ [e])[i]? = some e := by
  subst h; simp
theorem app_len {α : Type} {f : α → List AC} {l : List α} {i n : Nat} (hi : i ≤ l.length) (hn : n = i) : (((l.take i).map f).take n).length = i := by
  subst hn; simp; omega
theorem app_fin {α : Type} {f : α → List AC} {l : List α} {i n : Nat} {e e' : List AC} (hi : i < l.length) (hn : n = i) (he : e' = f l[i]) : ((((l.take i).map f).take n) ++ [e]).set i e' = (l.take (i + 1)).map f := by
  subst hn he
  have hl : ((l.take n).map f).length = n := by simp; omega
  rw [List.take_of_length_le (by omega), List.set_append_right _ _ (by omega), hl, Nat.sub_self, List.set_cons_zero, List.take_succ_eq_append_getElem hi, List.map_append]
  rfl

/-- what is lent reads as data -/
theorem bor_list {objs : Nat → AObj} {π Bn : List Nat} {o w n : Nat} {es L : List (List AC)} (ho : objs o = .cells w es) (h1 : idx π o = none) (h2 : inB Bn o = true) (hl : es.length = n) (hu : unownLL es = L) : bor objs π Bn (.sref o 0 n) = .list w n L := by
  rw [bor_full ho h1 h2 hl, hu]
theorem bor_agg {objs : Nat → AObj} {π Bn : List Nat} {xs ys : List AC} (h : borL objs π Bn xs = ys) : bor objs π Bn (.agg xs) = .agg ys := by
  simp only [bor, h]
theorem bor_nil {objs : Nat → AObj} {π Bn : List Nat} : borL objs π Bn [] = [] := rfl
theorem bor_cons {objs : Nat → AObj} {π Bn : List Nat} {x y : AC} {xs ys : List AC} (h : bor objs π Bn x = y) (k : borL objs π Bn xs = ys) : borL objs π Bn (x :: xs) = y :: ys := by
  simp only [borL, h, k]

section
variable {P : Program}
theorem CallsA.keepT {f : FuncId} {args : List AC} {w n : Nat} {es L : List (List AC)} {y : AC} (h : CallsA P f args [] (.tup [.sref 0 0 n, y]) [.cells w es]) (hu : unownLL es = L) (hl : es.length = n) (hy : bor (objsFn [.cells w es]) [] [0] y = y) : CallsA P f args [] (.tup [.list w n L, y]) [] := by
  refine h.lend [] [0] rfl rfl rfl ?_ passOk_nil
  have := bor_list (objs := objsFn [.cells w es]) (π := []) (Bn := [0]) (o := 0) rfl rfl rfl hl hu
  simp only [bor, borL] at this hy ⊢
  rw [this, hy]

theorem Wf.phantoms {G : Ghost} {w0 : World} (hW : Wf G (objsFn []) w0) {l : List AObj} (h : ∀ x ∈ l, ∃ w, x = .cells w []) : Wf G (objsFn l) w0 := by
  refine ⟨hW.hS, hW.hU, hW.su, hW.sk, fun o => ?_⟩
  have hι : G.ι o = none := by
    have := hW.objs o
    have e : objsFn [] o = .fresh := by simp [objsFn, listFn]
    rw [e] at this; exact this
  show ObjRel G (hp w0) o (objsFn l o)
  rcases Nat.lt_or_ge o l.length with h1 | h1
  · obtain ⟨w, hw⟩ := h _ (List.getElem_mem h1)
    have : objsFn l o = .cells w [] := by
      rw [← hw]; unfold objsFn; exact listFn_some (List.getElem?_eq_getElem h1)
    rw [this]; exact .inl ⟨rfl, hι⟩
  · have : objsFn l o = .fresh := listFn_none h1
    rw [this]; exact hι

theorem CallsA.nils {f : FuncId} {args : List AC} {res res' : AC} {l : List AObj} (h : CallsA P f args [] res []) (hl : ∀ x ∈ l, ∃ w, x = .cells w []) (hr : ACle res res') : CallsA P f args [] res' l := by
  refine ⟨h.1, fun G w vs hW hs hv => (h.2 G w vs hW hs hv).mono ?_⟩
  rintro e w' ⟨G', v, rfl, h1, h2, h3, h4, h5⟩
  exact ⟨G', v, rfl, h1, h2, h3, h4.phantoms hl, hr _ _ _ h5⟩
end
theorem nil_sref {o : Nat} : ACle .nils (.sref o 0 0) := fun G h v hv => by
  simp only [V] at hv ⊢
  exact ⟨0, Nat.le_refl _, .inl ⟨rfl, none, hv⟩⟩
end Go.Gl

/- Reachable nodes. -/
namespace Go.Gl

inductive RP (rows : List (List Int)) (ini : List Int) : Int → Prop
  | base {x : Int} : x ∈ ini → RP rows ini x
  | step {x y : Int} : RP rows ini x → y ∈ rows.getD x.toNat [] → RP rows ini y

def InN (N : Nat) (l : List Int) : Prop := ∀ x ∈ l, 0 ≤ x ∧ x < N

/-- the cells of a list of truth values: which numbers a list holds -/
def mkB (N : Nat) (S : List Int) : List Bool := (List.range N).map fun v : Nat => decide ((v : Int) ∈ S)
theorem mkB_len (N : Nat) (S : List Int) : (mkB N S).length = N := by simp [mkB]
theorem mkB_nil (N : Nat) : mkB N [] = List.replicate N false := by
  apply List.ext_getElem (by simp [mkB])
  intro i h1 h2
  simp [mkB]
theorem mkB_congr {N : Nat} {S S' : List Int} (h : ∀ v : Nat, v < N → ((v : Int) ∈ S ↔ (v : Int) ∈ S')) : mkB N S = mkB N S' := by
  unfold mkB
  refine List.map_congr_left fun v hv => ?_
  simp only [decide_eq_decide]
  exact h v (List.mem_range.1 hv)
theorem mkB_get {N : Nat} {S : List Int} {v : Int} (h0 : 0 ≤ v) (h1 : v < N) : (mkB N S)[v.toNat]? = some (decide (v ∈ S)) := by
  unfold mkB
  rw [List.getElem?_map, List.getElem?_range (by omega)]
  simp [Int.toNat_of_nonneg h0]
theorem mkB_set {N : Nat} {S S' : List Int} {v : Int} (h0 : 0 ≤ v) (h1 : v < N) (hs : ∀ x, x ∈ S' ↔ x ∈ S ∨ x = v) : (mkB N S).set v.toNat true = mkB N S' := by
  apply List.ext_getElem (by simp [mkB])
  intro i h2 h3
  rw [List.getElem_set]
  simp only [mkB, List.getElem_map, List.getElem_range]
  have := hs i
  by_cases h : v.toNat = i
  · rw [if_pos h]
    have : (i : Int) = v := by omega
    symm; rw [decide_eq_true_eq]; exact (hs i).2 (.inr this)
  · rw [if_neg h]
    have h4 : ¬ (i : Int) = v := by omega
    simp only [decide_eq_decide]
    rw [this]; simp [h4]
section
variable {enc : Bool → List AC}
theorem get_mkB {N n : Nat} {S : List Int} {v : Int} {K : List AC → Prop} (h : n = v.toNat) (h0 : 0 ≤ v) (h1 : v < N) (k : K (enc (decide (v ∈ S)))) : ∃ e, ((mkB N S).map enc)[n]? = some e ∧ K e :=
  ⟨_, by rw [h, List.getElem?_map, mkB_get h0 h1]; rfl, k⟩
theorem set_mkB {N n : Nat} {S S' : List Int} {v : Int} (h : n = v.toNat) (h0 : 0 ≤ v) (h1 : v < N) (hs : ∀ x, x ∈ S' ↔ x ∈ S ∨ x = v) : ((mkB N S).map enc).set n (enc true) = (mkB N S').map enc := by
  rw [h, ← mkB_set h0 h1 hs, List.map_set]
end
noncomputable instance {rows : List (List Int)} {ini : List Int} {x : Int} : Decidable (RP rows ini x) := Classical.propDecidable _
noncomputable def reachB (rows : List (List Int)) (ini : List Int) : List Bool := (List.range rows.length).map fun v : Nat => decide (RP rows ini v)
theorem reachB_eq {rows : List (List Int)} {ini S : List Int} (h : ∀ v : Nat, v < rows.length → ((v : Int) ∈ S ↔ RP rows ini v)) : mkB rows.length S = reachB rows ini := by
  unfold mkB reachB
  refine List.map_congr_left fun v hv => ?_
  simp only [decide_eq_decide]
  exact h v (List.mem_range.1 hv)
theorem reachB_len (rows : List (List Int)) (ini : List Int) : (reachB rows ini).length = rows.length := by simp [reachB]

/-- how many numbers below n a list lacks -/
def cntU : Nat → List Int → Nat
  | 0, _ => 0
  | n + 1, S => cntU n S + (if (n : Int) ∈ S then 0 else 1)
theorem cntU_le {S S' : List Int} (h : ∀ x ∈ S, x ∈ S') (n : Nat) : cntU n S' ≤ cntU n S := by
  induction n with
  | zero => exact Nat.le_refl _
  | succ n ih =>
    simp only [cntU]
    by_cases h1 : (n : Int) ∈ S
    · rw [if_pos h1, if_pos (h _ h1)]; omega
    · rw [if_neg h1]; split <;> omega
theorem cntU_lt {S S' : List Int} {v : Int} (h : ∀ x ∈ S, x ∈ S') (hv : v ∉ S) (hv' : v ∈ S') (n : Nat) (h0 : 0 ≤ v) (h1 : v < n) : cntU n S' + 1 ≤ cntU n S := by
  induction n with
  | zero => omega
  | succ n ih =>
    simp only [cntU]
    by_cases h2 : v = n
    · subst h2
      rw [if_pos hv', if_neg hv]
      have := cntU_le h n
      omega
    · have := ih (by omega)
      by_cases h3 : (n : Int) ∈ S
      · rw [if_pos h3, if_pos (h _ h3)]; omega
      · rw [if_neg h3]; split <;> omega
theorem cntU_bound (n : Nat) (S : List Int) : cntU n S ≤ n := by
  induction n with
  | zero => exact Nat.le_refl _
  | succ n ih => simp only [cntU]; split <;> omega

/-- breadth first -/
def visit (out : List Int) (v : Int) : List Int := if v ∈ out then out else out ++ [v]
def visits (out l : List Int) : List Int := l.foldl visit out
def bfs (rows : List (List Int)) (ini : List Int) : Nat → List Int
  | 0 => visits [] ini
  | i + 1 => if h : i < (bfs rows ini i).length then visits (bfs rows ini i) (rows.getD ((bfs rows ini i)[i]).toNat []) else bfs rows ini i
def bfsL (rows : List (List Int)) (ini : List Int) : List Int := bfs rows ini rows.length

theorem visit_mem {out : List Int} {v x : Int} : x ∈ visit out v ↔ x ∈ out ∨ x = v := by
  unfold visit; split
  · rename_i h
    constructor
    · exact .inl
    · rintro (h1 | rfl) <;> assumption
  · simp
theorem visits_mem {out l : List Int} {x : Int} : x ∈ visits out l ↔ x ∈ out ∨ x ∈ l := by
  unfold visits
  induction l generalizing out with
  | nil => simp
  | cons v l ih => rw [List.foldl_cons, ih, visit_mem]; simp [or_assoc]
theorem visit_nodup {out : List Int} {v : Int} (h : out.Nodup) : (visit out v).Nodup := by
  unfold visit; split
  · exact h
  · rename_i hv
    rw [List.nodup_append]
    exact ⟨h, by simp, fun a ha b hb => by rintro rfl; rw [List.mem_singleton.1 hb] at ha; exact hv ha⟩
theorem visits_nodup {out l : List Int} (h : out.Nodup) : (visits out l).Nodup := by
  unfold visits
  induction l generalizing out with
  | nil => exact h
  | cons v l ih => exact ih (visit_nodup h)
theorem visit_pre (out : List Int) (v : Int) : ∃ t, visit out v = out ++ t := by
  unfold visit; split
  · exact ⟨[], by simp⟩
  · exact ⟨_, rfl⟩
theorem visits_pre (out l : List Int) : ∃ t, visits out l = out ++ t := by
  unfold visits
  induction l generalizing out with
  | nil => exact ⟨[], by simp⟩
  | cons v l ih =>
    obtain ⟨t, ht⟩ := visit_pre out v
    obtain ⟨t', ht'⟩ := ih (visit out v)
    exact ⟨t ++ t', by rw [List.foldl_cons, ht', ht, List.append_assoc]⟩
theorem visits_snoc (out l : List Int) (v : Int) : visits out (l ++ [v]) = visit (visits out l) v := by simp [visits]
theorem visits_take {out l : List Int} {k : Nat} (h : k < l.length) : visits out (l.take (k + 1)) = visit (visits out (l.take k)) l[k] := by
  rw [List.take_succ_eq_append_getElem h, visits_snoc]
theorem pigeon : ∀ (N : Nat) (l : List Int), l.Nodup → InN N l → l.length ≤ N
  | 0, l, _, h => by
    cases l with
    | nil => exact Nat.le_refl _
    | cons a l => have := h a (by simp); omega
  | N + 1, l, hn, h => by
    by_cases hN : (N : Int) ∈ l
    · have h1 := pigeon N (l.erase N) (hn.erase _) fun x hx => by
        have h2 := (hn.mem_erase_iff).1 hx
        have h3 := h x h2.2
        have h4 := h2.1
        omega
      rw [List.length_erase_of_mem hN] at h1
      have : 0 < l.length := List.length_pos_of_mem hN
      omega
    · have h1 := pigeon N l hn fun x hx => by
        have h3 := h x hx
        have h4 : x ≠ N := by rintro rfl; exact hN hx
        omega
      omega
theorem visits_in {N : Nat} {out l : List Int} (h : InN N out) (hl : InN N l) : InN N (visits out l) := fun x hx => by
  rcases visits_mem.1 hx with h1 | h1
  · exact h x h1
  · exact hl x h1

section
variable {rows : List (List Int)} {ini : List Int}
theorem row_in {N : Nat} (hr : ∀ r ∈ rows, InN N r) (v : Int) : InN N (rows.getD v.toNat []) := by
  by_cases h : v.toNat < rows.length
  · rw [getD_at h]; exact hr _ (List.getElem_mem _)
  · rw [List.getD_eq_getElem?_getD, List.getElem?_eq_none (by omega)]; intro x hx; cases hx
theorem bfs_in {N : Nat} (hr : ∀ r ∈ rows, InN N r) (hi : InN N ini) (i : Nat) : InN N (bfs rows ini i) := by
  induction i with
  | zero => exact visits_in (fun x hx => by cases hx) hi
  | succ i ih =>
    rw [bfs]; split
    · exact visits_in ih (row_in hr _)
    · exact ih
theorem bfs_nodup (i : Nat) : (bfs rows ini i).Nodup := by
  induction i with
  | zero => exact visits_nodup (by simp)
  | succ i ih =>
    rw [bfs]; split
    · exact visits_nodup ih
    · exact ih
theorem bfs_len (hr : ∀ r ∈ rows, InN rows.length r) (hi : InN rows.length ini) (i : Nat) : (bfs rows ini i).length ≤ rows.length :=
  pigeon _ _ (bfs_nodup i) (bfs_in hr hi i)
theorem bfs_const {i j : Nat} (h : (bfs rows ini i).length ≤ i) (hij : i ≤ j) : bfs rows ini j = bfs rows ini i := by
  induction j with
  | zero => obtain rfl : i = 0 := by omega
            rfl
  | succ j ih =>
    rcases Nat.lt_or_ge j i with h1 | h1
    · obtain rfl : i = j + 1 := by omega
      rfl
    · have e := ih h1
      rw [bfs, dif_neg (by rw [e]; omega), e]
theorem bfs_pre (i : Nat) : ∃ t, bfs rows ini (i + 1) = bfs rows ini i ++ t := by
  rw [bfs]; split
  · exact visits_pre _ _
  · exact ⟨[], by simp⟩
theorem bfs_RP (i : Nat) : ∀ x ∈ bfs rows ini i, RP rows ini x := by
  induction i with
  | zero =>
    intro x hx
    rcases visits_mem.1 hx with h | h
    · cases h
    · exact .base h
  | succ i ih =>
    intro x hx
    rw [bfs] at hx
    split at hx
    · rcases visits_mem.1 hx with h | h
      · exact ih x h
      · exact .step (ih _ (List.getElem_mem _)) h
    · exact ih x hx
theorem bfs_closed (i : Nat) : ∀ k, k < i → ∀ h : k < (bfs rows ini i).length, ∀ y ∈ rows.getD ((bfs rows ini i)[k]).toNat [], y ∈ bfs rows ini i := by
  induction i with
  | zero => intro k hk; omega
  | succ i ih =>
    intro k hk h y hy
    obtain ⟨t, ht⟩ := bfs_pre (rows := rows) (ini := ini) i
    by_cases hkl : k < (bfs rows ini i).length
    · have e : (bfs rows ini (i + 1))[k] = (bfs rows ini i)[k] := by
        simp only [ht, List.getElem_append_left hkl]
      rw [e] at hy
      rcases Nat.lt_or_ge k i with h1 | h1
      · rw [ht]; exact List.mem_append_left _ (ih k h1 hkl y hy)
      · obtain rfl : k = i := by omega
        rw [bfs, dif_pos hkl]
        exact visits_mem.2 (.inr hy)
    · rcases Nat.lt_or_ge i (bfs rows ini i).length with h1 | h1
      · omega
      · have e : bfs rows ini (i + 1) = bfs rows ini i := bfs_const h1 (by omega)
        rw [e] at h; omega
theorem bfs_mem (hr : ∀ r ∈ rows, InN rows.length r) (hi : InN rows.length ini) (x : Int) : x ∈ bfsL rows ini ↔ RP rows ini x := by
  refine ⟨bfs_RP _ x, fun h => ?_⟩
  have hl := bfs_len hr hi rows.length
  induction h with
  | base h =>
    have : ∀ i, ∀ x ∈ ini, x ∈ bfs rows ini i := by
      intro i
      induction i with
      | zero => intro x hx; exact visits_mem.2 (.inr hx)
      | succ i ih =>
        intro x hx
        obtain ⟨t, ht⟩ := bfs_pre (rows := rows) (ini := ini) i
        rw [ht]; exact List.mem_append_left _ (ih x hx)
    exact this _ _ h
  | step h1 h2 ih =>
    obtain ⟨k, hk, rfl⟩ := List.mem_iff_getElem.1 ih
    exact bfs_closed _ k (Nat.lt_of_lt_of_le hk hl) hk _ h2
theorem bfsL_end {i : Nat} (hr : ∀ r ∈ rows, InN rows.length r) (hi : InN rows.length ini) (h : (bfs rows ini i).length ≤ i) (hil : i ≤ rows.length) : bfs rows ini i = bfsL rows ini := (bfs_const h hil).symm
theorem bfs_reachB (hr : ∀ r ∈ rows, InN rows.length r) (hi : InN rows.length ini) : mkB rows.length (bfsL rows ini) = reachB rows ini := reachB_eq fun v _ => bfs_mem hr hi v
theorem RP.in {x : Int} (hr : ∀ r ∈ rows, InN rows.length r) (hi : InN rows.length ini) (h : RP rows ini x) : 0 ≤ x ∧ x < rows.length := by
  induction h with
  | base h => exact hi _ h
  | step _ h2 _ => exact row_in hr _ _ h2
end
theorem env_sref {r : Nat → Nat} {o o' a n n' : Nat} (h : n = n') (ho : o = r o') : AC.sref o a n = (AC.sref o' a n').ren r := by rw [h, ho]; rfl
end Go.Gl

/- Ghost logic, part Z1: calls whose names are found from the arguments. -/
namespace Go.Gl
variable {P : Program} {st : St} {K : OpK} {f : FuncId} {first caps args args0 : List AC} {objs0 objs1 objs1' : List AObj} {res : AC}

def addN (l : List Nat) (x : Nat) : List Nat := match inB l x with
  | true => l
  | false => l ++ [x]
mutual
/-- the objects that values name, each once, in order -/
def namesA (acc : List Nat) (x : AC) : List Nat := match x with
  | .sref o _ _ => addN acc o
  | .ptr o _ _ => addN acc o
  | .fn _ a b => namesAL (namesAL acc a) b
  | .agg cs => namesAL acc cs
  | .tup cs => namesAL acc cs
  | _ => acc
termination_by structural x
def namesAL (acc : List Nat) (xs : List AC) : List Nat := match xs with
  | [] => acc
  | x :: xs => namesAL (namesA acc x) xs
termination_by structural xs
end

def freshFrom : Nat → Nat → List Nat
  | _, 0 => []
  | s, n + 1 => s :: freshFrom (s + 1) n

/-- arguments are lent -/
theorem call_lend (h : CallsA P f args0 [] res objs1) (hb : borL st.objs [] (namesAL [] (first ++ (args ++ caps))) (first ++ (args ++ caps)) = args0)
    (hf : allN (fun o => isFresh (st.objs o)) (freshFrom st.next objs1.length) = true) (hn : nodupB (freshFrom st.next objs1.length ++ namesAL [] (first ++ (args ++ caps))) = true) (hl : Nat.beq objs1.length (freshFrom st.next objs1.length).length = true) (hu : res.under objs1.length = true)
    (ho : ObjsRen objs1.length (listFn 0 (freshFrom st.next objs1.length)) objs1 objs1') (hpl : namesAL [] (first ++ (args ++ caps)) = [] ∨ (res.plain = true ∧ PlainObjs objs1))
    (k : renK (listFn 0 (freshFrom st.next objs1.length)) res fun res1 => K res1 (zipCh st (freshFrom st.next objs1.length) objs1' ++ (namesAL [] (first ++ (args ++ caps))).map st.rd)) : vcCall P st (.fn (.func f) first caps) args K :=
  call_gen [] (namesAL [] (first ++ (args ++ caps))) (freshFrom st.next objs1.length) h hb passOk_nil rfl hf hn hl hu ho hpl k

/-- arguments are handed over by name -/
theorem call_pass (h : CallsA P f args0 objs0 res objs1) (hb : borL st.objs (namesAL [] (first ++ (args ++ caps))) [] (first ++ (args ++ caps)) = args0) (hp : PassOk st.objs (namesAL [] (first ++ (args ++ caps))) [] (namesAL [] (first ++ (args ++ caps))) objs0)
    (hc : allN (fun o => isCells (st.objs o)) (namesAL [] (first ++ (args ++ caps))) = true) (hn : nodupB (namesAL [] (first ++ (args ++ caps)) ++ [] ++ []) = true) (hl : Nat.beq objs1.length (namesAL [] (first ++ (args ++ caps)) ++ []).length = true) (hu : res.under objs1.length = true)
    (ho : ObjsRen objs1.length (listFn 0 (namesAL [] (first ++ (args ++ caps)) ++ [])) objs1 objs1')
    (k : renK (listFn 0 (namesAL [] (first ++ (args ++ caps)) ++ [])) res fun res1 => K res1 (zipCh st (namesAL [] (first ++ (args ++ caps)) ++ []) objs1' ++ [])) : vcCall P st (.fn (.func f) first caps) args K :=
  call_gen (namesAL [] (first ++ (args ++ caps))) [] [] h hb hp hc rfl hn hl hu ho (.inl rfl) k
end Go.Gl

/- Ghost logic, part AA: a library function that works in place, by its contract. -/
namespace Go.Gl
open Go.Sort
variable {P : Program}

theorem hp_put {w : World} {b : Nat} {n : Nat} {r : Array Int} {os : Array Obj} {c : Array Value} {el : TypeId} (hb : hp w b = some (.cells c el (0, 0))) :
    hp (grow (putRow (Value.int .i64) (Sort.ahead w n) b 0 r) os) b = some (.cells (putCells (Value.int .i64) 0 r c) el (0, 0)) := by
  have hlt : b < w.heap.size := (Array.getElem?_eq_some_iff.1 (show w.heap[b]? = _ from hb)).1
  have hb' : w.heap[b] = .cells c el (0, 0) := (Array.getElem?_eq_some_iff.1 (show w.heap[b]? = _ from hb)).2
  show (w.heap.modify b (onCells (putCells (Value.int .i64) 0 r)) ++ os)[b]? = _
  rw [Array.getElem?_append_left (by simpa using hlt), Array.getElem?_eq_getElem (by simpa using hlt), Array.getElem_modify]
  simp [hb', onCells]
theorem hp_old {w : World} {b k : Nat} {n : Nat} {r : Array Int} {os : Array Obj} {x : Obj} (hk : k ≠ b) (hx : w.heap[k]? = some x) :
    (grow (putRow (Value.int .i64) (Sort.ahead w n) b 0 r) os).heap[k]? = some x := by
  have hlt : k < w.heap.size := (Array.getElem?_eq_some_iff.1 hx).1
  have hx' : w.heap[k] = x := (Array.getElem?_eq_some_iff.1 hx).2
  show (w.heap.modify b (onCells (putCells (Value.int .i64) 0 r)) ++ os)[k]? = _
  rw [Array.getElem?_append_left (by simpa using hlt), Array.getElem?_eq_getElem (by simpa using hlt), Array.getElem_modify, if_neg (Ne.symm hk), hx']

theorem callsA_inplace {f : FuncId} {l r l' : List Int} {res : AC} (hlen : r.length = l.length) (hpos : 0 < l.length) (hl' : ∀ (i : Nat) (x : Int), l'[i]? = some x → r[i]? = some x) (hf : IsFunc P f)
    (hc : ∀ (blk cap : Nat) (w : World), Holds (Value.int .i64) w blk 0 l.toArray → blk < w.heap.size → l.length ≤ cap → Calls P f #[.slice (some ⟨blk, 0, none⟩) l.length cap] w fun e w' =>
      ∃ v, e = .returned v ∧ (∃ n os, w' = grow (putRow (Value.int .i64) (Sort.ahead w n) blk 0 r.toArray) os) ∧ ∀ (G : Ghost) (h : Nat → Option Obj) (size : Nat), G.ι 0 = some (blk, size, 1) → cap ≤ size → V G h none res v) :
    CallsA P f [.sref 0 0 l.length] [.cells 1 (l.map fun n => [AC.int n])] res [.cells 1 (l'.map fun n => [AC.int n])] := by
  refine ⟨hf, fun G w vs hW hs hv => ?_⟩
  simp only [VL] at hv
  obtain ⟨⟨v, hv1, hv2⟩, _⟩ := hv
  obtain rfl : vs = #[v] := by
    apply Array.ext_getElem?
    intro i
    rcases i with _ | i
    · rw [hv1]; rfl
    · rw [Array.getElem?_eq_none (by simp at hs; omega), Array.getElem?_eq_none (by simp)]
  simp only [V] at hv2
  obtain ⟨cap, hcap, hv2⟩ := hv2
  have ho := hW.objs 0
  have e0 : objsFn [.cells 1 (l.map fun n => [AC.int n])] 0 = .cells 1 (l.map fun n => [AC.int n]) := rfl
  rw [e0] at ho
  rcases hv2 with ⟨rfl, _⟩ | ⟨b, size, wd, hι, hsz, rfl⟩
  · omega
  rcases ho with ⟨h0, _⟩ | ⟨b', size', c, el, h1, h2, h3, h4, h5⟩
  · have := congrArg List.length h0
    simp at this
    rw [this] at hpos; simp at hpos
  rw [hι] at h1
  cases h1
  rw [VLL_iff] at h5
  have hcell : ∀ j (hj : j < l.length), c[j]? = some (.int .i64 l[j]) := fun j hj => by
    obtain ⟨_, h6⟩ := h5 j [AC.int l[j]] (by rw [List.getElem?_map, List.getElem?_eq_getElem hj]; rfl)
    rw [VL_iff] at h6
    obtain ⟨u, hu, hV⟩ := h6 0 _ rfl
    simp only [V] at hV
    subst hV
    simpa using hu
  have hbw : w.heap[b]? = some (.cells c el (0, 0)) := h3
  have hblt : b < w.heap.size := (Array.getElem?_eq_some_iff.1 hbw).1
  have hH : Holds (Value.int .i64) w b 0 l.toArray := fun j hj => by
    have hj' : j < l.length := by simpa using hj
    refine ⟨?_, by simp [World.frozen?, hbw]⟩
    simp only [World.cell?, hbw, Nat.zero_add]
    simpa [hj'] using hcell j hj'
  have hcsz : l.length ≤ c.size := by
    have := hcell (l.length - 1) (by omega)
    have := (Array.getElem?_eq_some_iff.1 this).1
    omega
  rw [Nat.zero_mul]
  refine (hc b cap w hH hblt hcap).mono ?_
  rintro e w' ⟨v', rfl, ⟨n, os, rfl⟩, hres⟩
  refine ⟨G, v', rfl, Ghost.Sub.refl G, fun _ _ _ h => h, ⟨rfl, rfl, rfl, ?_⟩, ⟨fun k x hk => ?_, fun k x hk => ?_, hW.su, fun k p hk => ?_, fun o => ?_⟩, hres G _ size hι (by simpa using hsz)⟩
  · show _ ≤ (w.heap.modify b _ ++ os).size
    simp
  · have hk2 := hW.hS k x hk
    refine hp_old ?_ hk2
    rintro rfl
    rw [(hW.sk _ _ h2).1] at hk; cases hk
  · have hk2 := hW.hU k x hk
    refine hp_old ?_ hk2
    rintro rfl
    rw [(hW.sk _ _ h2).2.1] at hk; cases hk
  · obtain ⟨s1, s2, s3⟩ := hW.sk k p hk
    refine ⟨s1, s2, ?_⟩
    show k < (w.heap.modify b _ ++ os).size
    simp; omega
  · rcases o with _ | o
    · refine .inr ⟨b, size, putCells (Value.int .i64) 0 r.toArray c, el, hι, h2, hp_put h3, by simp [putCells, h4], ?_⟩
      rw [VLL_iff]
      intro i e he
      rw [List.getElem?_map] at he
      cases hx : l'[i]? with
      | none => rw [hx] at he; cases he
      | some x =>
        rw [hx] at he
        cases he
        have hr := hl' i x hx
        have hil : i < r.length := (List.getElem?_eq_some_iff.1 hr).1
        refine ⟨rfl, ?_⟩
        rw [VL_iff]
        intro j y hy
        match j, hy with
        | 0, hy =>
          cases hy
          refine ⟨.int .i64 x, ?_, by simp [V]⟩
          have hr2 : r[i] = x := (List.getElem?_eq_some_iff.1 hr).2
          have hic : i < c.size := by omega
          simp [putCells, hil, hr2, hic]
        | j + 1, hy => simp at hy
    · have h6 := hW.objs (o + 1)
      exact h6
end Go.Gl

/- Ghost logic: a return whose value is settled (sealed and weakened) on the way out. -/
namespace Go.Gl
variable {P : Program} {T : Tab}

inductive F2 {α β : Type} (R : α → β → Prop) : List α → List β → Prop
  | nil : F2 R [] []
  | cons {x : α} {y : β} {xs : List α} {ys : List β} : R x y → F2 R xs ys → F2 R (x :: xs) (y :: ys)

/-! ## what tells less -/
theorem VL_le {xs ys : List AC} (h : F2 LocLe xs ys) : ∀ {G : Ghost} {hh : Nat → Option Obj} {l : Loc} {c : Array Value} {off : Nat}, VL G hh l xs c off → VL G hh l ys c off := by
  induction h with
  | nil => intro G hh l c off _; simp [VL]
  | cons h1 _ ih =>
    intro G hh l c off hv
    simp only [VL] at hv ⊢
    obtain ⟨⟨v, hv1, hv2⟩, hv3⟩ := hv
    exact ⟨⟨v, hv1, h1 _ _ _ _ hv2⟩, ih hv3⟩
theorem forall2_len {α β : Type} {R : α → β → Prop} {xs : List α} {ys : List β} (h : F2 R xs ys) : xs.length = ys.length := by
  induction h with
  | nil => rfl
  | cons _ _ ih => simp [ih]
theorem VLL_le {w : Nat} {xs ys : List (List AC)} (h : F2 (F2 LocLe) xs ys) : ∀ {G : Ghost} {hh : Nat → Option Obj} {l : Loc} {c : Array Value} {off : Nat}, VLL G hh l w xs c off → VLL G hh l w ys c off := by
  induction h with
  | nil => intro G hh l c off _; simp [VLL]
  | cons h1 _ ih =>
    intro G hh l c off hv
    simp only [VLL] at hv ⊢
    obtain ⟨hv1, hv2, hv3⟩ := hv
    exact ⟨by rw [← forall2_len h1, hv1], VL_le h1 hv2, ih hv3⟩
theorem LocLe.trans {x y z : AC} (h : LocLe x y) (k : LocLe y z) : LocLe x z := fun G hh l v hv => k G hh l v (h G hh l v hv)
theorem LocLe.of_eq {x y : AC} (h : x = y) : LocLe x y := h ▸ LocLe.refl x
theorem nils_list {w : Nat} : LocLe .nils (.list w 0 []) := fun G h l v hv => by
  simp only [V] at hv ⊢
  exact ⟨none, 0, hv, Nat.le_refl _, rfl, .inl trivial⟩
theorem agg_le {xs ys : List AC} (h : F2 LocLe xs ys) : LocLe (.agg xs) (.agg ys) := fun G hh l v hv => by
  simp only [V] at hv ⊢
  obtain ⟨c, rfl, h1, h2⟩ := hv
  exact ⟨c, rfl, by rw [h1, forall2_len h], VL_le h h2⟩
theorem tup_le {xs ys : List AC} (h : F2 LocLe xs ys) : LocLe (.tup xs) (.tup ys) := fun G hh l v hv => by
  simp only [V] at hv ⊢
  obtain ⟨c, rfl, h1, h2⟩ := hv
  exact ⟨c, rfl, by rw [h1, forall2_len h], VL_le h h2⟩
theorem list_le {w n n' : Nat} {xs ys : List (List AC)} (hn : n = n') (h : F2 (F2 LocLe) xs ys) : LocLe (.list w n xs) (.list w n' ys) := fun G hh l v hv => by
  subst hn
  simp only [V] at hv ⊢
  obtain ⟨a, cap, rfl, h1, h2, h3⟩ := hv
  refine ⟨a, cap, rfl, h1, by rw [← forall2_len h, h2], ?_⟩
  rcases h3 with rfl | ⟨b, off, c, el, fz, h4, h5, h6⟩
  · cases h; exact .inl rfl
  · exact .inr ⟨b, off, c, el, fz, h4, h5, VLL_le h h6⟩
theorem f2_refl (xs : List AC) : F2 LocLe xs xs := by
  induction xs with
  | nil => exact .nil
  | cons x xs ih => exact .cons (LocLe.refl x) ih
theorem f22_refl (xs : List (List AC)) : F2 (F2 LocLe) xs xs := by
  induction xs with
  | nil => exact .nil
  | cons x xs ih => exact .cons (f2_refl x) ih
theorem f2_of_eq {xs ys : List AC} (h : xs = ys) : F2 LocLe xs ys := h ▸ f2_refl xs
theorem f22_of_eq {xs ys : List (List AC)} (h : xs = ys) : F2 (F2 LocLe) xs ys := h ▸ f22_refl xs
theorem node_le {k v : Int} {x : AC} {l : List Tree} (h : LocLe x (.list 3 l.length (l.map Tree.cs))) : F2 LocLe [.int k, .int v, x] (Tree.cs (.mk k v l)) := by
  rw [Tree.cs_eq]
  exact .cons (LocLe.refl _) (.cons (LocLe.refl _) (.cons h .nil))
theorem node_le' {k v : Int} {x : AC} {l : List Tree} (h : LocLe x (.list 3 l.length (l.map Tree.cs))) : F2 LocLe [.int k, .int v, x] (Tree.cs' (.mk k v l)) :=
  .cons (LocLe.refl _) (.cons (LocLe.refl _) (.cons h .nil))

def ObjLe : AObj → AObj → Prop
  | .cells w es, .cells w' es' => w = w' ∧ F2 (F2 LocLe) es es'
  | .dead, .dead => True
  | _, _ => False
theorem ObjLe.mk {w : Nat} {es es' : List (List AC)} (h : F2 (F2 LocLe) es es') : ObjLe (.cells w es) (.cells w es') := ⟨rfl, h⟩
theorem ObjLe.box {w : Nat} {e e' : List AC} (h : F2 LocLe e e') : ObjLe (.cells w [e]) (.cells w [e']) := ⟨rfl, .cons h .nil⟩

theorem ObjRel.le {G : Ghost} {h : Nat → Option Obj} {o : Nat} {x y : AObj} (hl : ObjLe x y) (hx : ObjRel G h o x) : ObjRel G h o y := by
  cases x with
  | fresh => exact hl.elim
  | dead =>
    cases y with
    | dead => exact hx
    | _ => exact hl.elim
  | cells w es =>
    cases y with
    | cells w' es' =>
      obtain ⟨rfl, hl⟩ := hl
      rcases hx with ⟨h1, h2⟩ | ⟨b, size, c, el, h1, h2, h3, h4, h5⟩
      · subst h1; cases hl; exact .inl ⟨rfl, h2⟩
      · exact .inr ⟨b, size, c, el, h1, h2, h3, h4, VLL_le hl h5⟩
    | _ => exact hl.elim

theorem Wf.le {G : Ghost} {objs objs' : List AObj} {w : World} (h : Wf G (objsFn objs) w) (hl : F2 ObjLe objs objs') : Wf G (objsFn objs') w := by
  refine ⟨h.hS, h.hU, h.su, h.sk, fun o => ?_⟩
  have ho := h.objs o
  have key : ∀ {xs ys : List AObj} (k : Nat), F2 ObjLe xs ys → ObjLe (objsFn xs k) (objsFn ys k) ∨ objsFn xs k = objsFn ys k := by
    intro xs ys k hf
    induction hf generalizing k with
    | nil => exact .inr rfl
    | cons h1 _ ih =>
      cases k with
      | zero => exact .inl h1
      | succ k => exact ih k
  rcases key o hl with h1 | h1
  · exact ObjRel.le h1 ho
  · show ObjRel G (hp w) o (objsFn objs' o)
    rw [← h1]; exact ho

/-- arguments that tell more -/
theorem CallsA.arg {f : FuncId} {args args0 : List AC} {objs objs' : List AObj} {res : AC} (h : CallsA P f args objs res objs') (hl : F2 LocLe args0 args) : CallsA P f args0 objs res objs' :=
  ⟨h.1, fun G w vs hW hs hv => h.2 G w vs hW (by rw [← forall2_len hl, hs]) (VL_le hl hv)⟩
theorem CallsA.res {f : FuncId} {args : List AC} {objs objs' : List AObj} {res res' : AC} (h : CallsA P f args objs res objs') (hl : LocLe res res') : CallsA P f args objs res' objs' :=
  ⟨h.1, fun G w vs hW hs hv => (h.2 G w vs hW hs hv).mono fun e w' ⟨G', v, h1, h2, h3, h4, h5, h6⟩ => ⟨G', v, h1, h2, h3, h4, h5, hl _ _ _ _ h6⟩⟩

/-! ## the return -/
def RetS (m : Nat) (o : Nat → AObj) (res : AC) (objs' : List AObj) (r : AC) : Prop :=
  ∀ (G : Ghost) (w : World) (v : Value), Wf G o w → V G (hp w) none r v → ∃ G', SubM m G G' ∧ Wf G' (objsFn objs') w ∧ V G' (hp w) none res v

theorem RetS.of {m : Nat} {st : St} {res : AC} {objs' : List AObj} {r : AC} (h : RetOk m st res objs' r) : RetS m st.objs res objs' r := fun G w v hW hV => by
  obtain ⟨π, hn, hf, hu, hr, ho⟩ := h
  obtain ⟨ho1, ho2⟩ := objsAll_spec 0 π objs' ho
  have hpick : Wf (G.pick π) (objsFn objs') w := hW.pick hn (fun i o hio => ⟨(ho2 i o hio).2, (ho2 i o hio).1⟩) (fun i hi => listFn_none (by omega))
  exact ⟨G.pick π, SubM.pick (fun i hi => by have := fixed_spec m 0 π hf i hi; simpa using this), hpick, pick_V0 _ hu (hr _ _ _ hV)⟩

theorem RetS.lay (π Bn : List Nat) {m : Nat} {o : Nat → AObj} {res : AC} {objs' : List AObj} {r : AC} (hn : nodupB (π ++ Bn) = true) (ha : allN (fun x => isCells (o x)) π = true) (hf : fixed m 0 π = true)
    (h : RetS m (objsFn (π.map (passObj o π Bn))) res objs' (bor o π Bn r)) : RetS m o res objs' r := fun G w v hW hV => by
  have hnd := nodupB_iff hn
  obtain ⟨k1, k2, k3, k4⟩ := seal_core (π := π) (Bn := Bn) hW (List.nodup_append.1 hnd).1 (fun o ho hb => (List.nodup_append.1 hnd).2.2 o ho o hb rfl) (allN_spec ha)
  obtain ⟨G', h1, h2, h3⟩ := h _ w v k1 (k4 _ _ hV)
  refine ⟨G', SubM.trans ⟨k2, fun o t ho e => ?_⟩ h1, h2, h3⟩
  have := fixed_spec m 0 π hf o ho
  rw [Nat.zero_add] at this
  exact k3 o o t (idx_get (List.nodup_append.1 hnd).1 this) e

theorem RetS.done {m : Nat} {objs objs' : List AObj} {res r : AC} (h1 : LocLe r res) (h2 : F2 ObjLe objs objs') : RetS m (objsFn objs) res objs' r := fun G w v hW hV =>
  ⟨G, SubM.refl m G, hW.le h2, h1 _ _ _ _ hV⟩

def RetSQ (T : Tab) (rs : List ResultVar) (m : Nat) (res : AC) (objs' : List AObj) (ex : Exit) (st : St) : Prop := match ex with
  | .normal => vcRes T st rs fun xs => RetS m st.objs res objs' (resAC xs)
  | .ret => vcRes T st rs fun xs => RetS m st.objs res objs' (resAC xs)
  | _ => False

theorem rets_ok (hT : TabOk P T) {fn : Func} {m : Nat} {res : AC} {objs' : List AObj} {G : Ghost} {st : St} {a : Act} {w : World} (hR : Rel G st a w) (h : vcRes T st fn.results.toList fun xs => RetS m st.objs res objs' (resAC xs)) :
    ∃ v G', (results fn a.tmps).run P w = .ok v w ∧ SubM m G G' ∧ Wf G' (objsFn objs') w ∧ V G' (hp w) none res v := by
  obtain ⟨xs, vs, h1, h2, h3, _, h4⟩ := res_run hT hR _ _ h
  have hres : (results fn a.tmps).run P w = .ok (if h : vs.toArray.size = 1 then vs.toArray[0] else .tuple vs.toArray) w := by
    rw [results_eq, Array.mapM_eq_mapM_toList]
    simp [h1]
  have hV : V G (hp w) none (resAC xs) (if h : vs.toArray.size = 1 then vs.toArray[0] else .tuple vs.toArray) := by
    by_cases hl : vs.length = 1
    · obtain ⟨v, rfl⟩ := List.length_eq_one_iff.1 hl
      obtain ⟨x, rfl⟩ := List.length_eq_one_iff.1 (h2 ▸ hl)
      obtain ⟨v', hv1, hv2⟩ := h3 0 x (by simp)
      simp at hv1; subst hv1
      simpa [resAC] using hv2
    · rw [dif_neg (by simpa using hl)]
      have : resAC xs = .tup xs := by
        unfold resAC
        split
        · simp at h2; exact absurd h2 hl
        · rfl
      rw [this]
      simp only [V]
      refine ⟨_, rfl, by simp [h2], VL_iff.2 fun j x hx => ?_⟩
      obtain ⟨v, hv1, hv2⟩ := h3 j x hx
      exact ⟨v, by simpa using hv1, hv2⟩
  obtain ⟨G', h5, h6, h7⟩ := h4 G w _ hR.wf hV
  exact ⟨_, G', hres, h5, h6, h7⟩

theorem callsA_ofS (hT : TabOk P T) {f : FuncId} {fn : Func} {c : Code} (hf : P.funcs[f]? = some fn) (hb : fn.body = some c) (hn : (fn.name == "runtime.NumGoroutine") = false) {args : List AC} {objs : List AObj} {res : AC} {objs' : List AObj}
    (n : Nat) (hnt : fn.ntmps = n) (hl : args.length ≤ n) (h : AWP P objs.length c (RetSQ T fn.results.toList objs.length res objs') (mkSt n (numbered 0 args) objs)) : CallsA P f args objs res objs' := by
  subst hnt
  refine ⟨⟨fn, c, hf, hn, hb⟩, fun G w vs hW hs hv => ?_⟩
  refine calls_of_wp hf hb (wp_mono (h G { tmps := vs ++ Array.replicate (fn.ntmps - vs.size) undef, defers := [] } w ⟨hW, fun s => ?_, by show _ = fn.ntmps; simp; omega, rfl⟩) fun ex a' w' hq => ?_)
  · show V G (hp w) none (envFn (numbered 0 args) s) _
    rw [numbered_eq]
    by_cases hsl : s < args.length
    · have hx : args[s]? = some args[s] := List.getElem?_eq_getElem hsl
      obtain ⟨v, hv1, hv2⟩ := VL_iff.1 hv s _ hx
      rw [Nat.zero_add] at hv1
      rw [listFn_some hx]
      have : (vs ++ Array.replicate (fn.ntmps - vs.size) undef).getD s undef = v := by
        rw [Array.getD_eq_getD_getElem?, Array.getElem?_append, if_pos (by omega), hv1]; rfl
      rw [this]; exact hv2
    · rw [listFn_none (by omega)]; simp [V]
  · obtain ⟨G', st', h1, h2, h3, h4⟩ := hq
    have key : (vcRes T st' fn.results.toList fun xs => RetS objs.length st'.objs res objs' (resAC xs)) → ∃ v, (results fn a'.tmps).run P w' = .ok v w' ∧ ∃ G'' v', Ending.returned v = .returned v' ∧ G.Sub G'' ∧ (∀ o t, o < objs.length → G.ι o = some t → G''.ι o = some t) ∧ Le w w' ∧ Wf G'' (objsFn objs') w' ∧ V G'' (hp w') none res v' := by
      intro hr
      obtain ⟨v, G'', h5, h6, h7, h8⟩ := rets_ok hT h4 hr
      have h9 := h1.trans h6
      exact ⟨v, h5, G'', v, rfl, h9.1, h9.2, h2, h7, h8⟩
    cases ex with
    | normal => exact ⟨h4.defers, key h3⟩
    | ret => exact ⟨h4.defers, key h3⟩
    | _ => exact h3.elim

/-- a state that tells less -/
def envLe (f : Nat → AC) : List (Nat × AC) → Prop
  | [] => True
  | (s, x) :: r => LocLe (f s) x ∧ envLe f r
theorem envLe_spec {f : Nat → AC} {env : List (Nat × AC)} (h : envLe f env) (s : Nat) : LocLe (f s) (envFn env s) := by
  induction env with
  | nil => exact fun G hh l v _ => by simp [envFn, V]
  | cons y env ih =>
    obtain ⟨s', x⟩ := y
    obtain ⟨h1, h2⟩ := h
    simp only [envFn]
    cases hb : Nat.beq s s' with
    | true => rw [Nat.eq_of_beq_eq_true hb]; exact h1
    | false => exact ih h2
theorem SealW.reach (π Bn : List Nat) {m n : Nat} {st : St} {env : List (Nat × AC)} {objs : List AObj} (hst : st.n = n) (hn : nodupB (π ++ Bn) = true) (ha : allN (fun x => isCells (st.objs x)) π = true) (hf : fixed m 0 π = true)
    (he : envLe (fun s => bor st.objs π Bn (st.env s)) env) (ho : F2 ObjLe (π.map (passObj st.objs π Bn)) objs) : Reach m st (mkSt n env objs) := fun G a w hR => by
  have hnd := nodupB_iff hn
  obtain ⟨k1, k2, k3, k4⟩ := seal_core (π := π) (Bn := Bn) hR.wf (List.nodup_append.1 hnd).1 (fun o ho hb => (List.nodup_append.1 hnd).2.2 o ho o hb rfl) (allN_spec ha)
  refine ⟨_, ⟨k2, fun o t ho e => ?_⟩, ⟨k1.le ho, fun s => ?_, by rw [hR.size, hst]; rfl, hR.defers⟩⟩
  · have := fixed_spec m 0 π hf o ho
    rw [Nat.zero_add] at this
    exact k3 o o t (idx_get (List.nodup_append.1 hnd).1 this) e
  · exact envLe_spec he s _ _ _ _ (k4 _ _ (hR.env s))
theorem nils_sref {q : Nat} : LocLe .nils (.sref q 0 0) := fun G h l v hv => by
  simp only [V] at hv ⊢
  exact ⟨0, Nat.le_refl _, .inl ⟨rfl, none, hv⟩⟩
/-- an empty object more -/
theorem Reach.empty (w : Nat) {m n : Nat} {env : List (Nat × AC)} {objs : List AObj} (_hm : Nat.ble m objs.length = true) : Reach m (mkSt n env objs) (mkSt n env (objs ++ [.cells w []])) := fun G a wd hR => by
  refine ⟨G, SubM.refl m G, ⟨⟨hR.wf.hS, hR.wf.hU, hR.wf.su, hR.wf.sk, fun o => ?_⟩, hR.env, hR.size, hR.defers⟩⟩
  show ObjRel G (hp wd) o (listFn .fresh (objs ++ [.cells w []]) o)
  have ho : ObjRel G (hp wd) o (listFn .fresh objs o) := hR.wf.objs o
  rcases Nat.lt_trichotomy o objs.length with h | h | h
  · have h1 : (objs ++ [AObj.cells w []])[o]? = some objs[o] := by rw [List.getElem?_append_left h, List.getElem?_eq_getElem h]
    rw [listFn_some h1]
    rwa [listFn_some (List.getElem?_eq_getElem h)] at ho
  · subst h
    rw [listFn_some (x := AObj.cells w []) (by simp)]
    rw [listFn_none (Nat.le_refl _)] at ho
    exact .inl ⟨rfl, ho⟩
  · rw [listFn_none (by simp; omega)]
    rwa [listFn_none (by omega)] at ho

def AgainR {α : Type} (I : α → List (Nat × AC) × List AObj) (ok : α → Prop) (μ : α → Nat) (x : α) (m n : Nat) (st : St) : Prop := ∃ y, ok y ∧ μ y < μ x ∧ Reach m st (mkSt n (I y).1 (I y).2)
theorem againR {α : Type} {I : α → List (Nat × AC) × List AObj} {ok : α → Prop} {μ : α → Nat} {x : α} {m n : Nat} {st : St} (y : α) (h1 : ok y) (h2 : μ y < μ x) (h3 : Reach m st (mkSt n (I y).1 (I y).2)) : AgainR I ok μ x m n st := ⟨y, h1, h2, h3⟩
theorem loopR {α : Type} {m n : Nat} {env : List (Nat × AC)} {objs : List AObj} {body : Code} {Q : Exit → St → Prop} (I : α → List (Nat × AC) × List AObj) (ok : α → Prop) (μ : α → Nat) (x0 : α) (h0 : ok x0) (hinit : Reach m (mkSt n env objs) (mkSt n (I x0).1 (I x0).2))
    (round : ∀ x, ok x → AWP P m body (thenA (fun st' => AgainR I ok μ x m n st') Q) (mkSt n (I x).1 (I x).2)) : AWP P m (.loop body) Q (mkSt n env objs) := awp_loopR I ok μ x0 h0 hinit round
/-! sealing and passing on, up to telling less -/
theorem seal_le {objs : Nat → AObj} {π Bn : List Nat} {o w n : Nat} {es : List (List AC)} {y : AC} (h1 : idx π o = none) (h2 : inB Bn o = true) (ho : objs o = .cells w es) (hu : unownLL es = es) (hl : es.length = n) (h : LocLe (.list w n es) y) : LocLe (bor objs π Bn (.sref o 0 n)) y := by
  rw [bor_seal ho h1 h2 rfl hu hl]; exact h
theorem pass_le {objs : Nat → AObj} {π Bn : List Nat} {o w : Nat} {es es' : List (List AC)} (ho : objs o = .cells w es) (hf : Flat es) (h : F2 (F2 LocLe) es es') : ObjLe (passObj objs π Bn o) (.cells w es') := by
  rw [pass_flat ho hf]; exact ⟨rfl, h⟩
theorem unown_map {α : Type} {f : α → List AC} (h : ∀ a, unownL (f a) = f a) (l : List α) : unownLL (l.map f) = l.map f := by
  induction l with
  | nil => rfl
  | cons a l ih => simp only [List.map_cons, unownLL, h a, ih]
theorem unown_append {a b : List (List AC)} (h : unownLL a = a) (k : unownLL b = b) : unownLL (a ++ b) = a ++ b := by
  induction a with
  | nil => exact k
  | cons e a ih =>
    simp only [unownLL, List.cons.injEq] at h
    simp only [List.cons_append, unownLL, h.1, ih h.2]
theorem unown_take {a : List (List AC)} (h : unownLL a = a) (n : Nat) : unownLL (a.take n) = a.take n := by
  induction a generalizing n with
  | nil => simp [unownLL]
  | cons e a ih =>
    simp only [unownLL, List.cons.injEq] at h
    cases n with
    | zero => rfl
    | succ n => simp only [List.take_succ_cons, unownLL, h.1, ih h.2]
theorem flat_takeC {a : List (List AC)} (h : Flat a) (n : Nat) : Flat (a.take n) := fun e he => h e (List.mem_of_mem_take he)
theorem flat_setC {a : List (List AC)} (h : Flat a) (n : Nat) {e : List AC} (he : flatL e = true) : Flat (a.set n e) := fun x hx => by
  rcases List.mem_or_eq_of_mem_set hx with h1 | rfl
  · exact h x h1
  · exact he
theorem app_le {α : Type} {f : α → List AC} {l : List α} {k n : Nat} {e : List AC} (hn : n = k) (hk : k < l.length) (he : F2 LocLe e (f (l[k]'hk))) : F2 (F2 LocLe) (((l.take k).map f).take n ++ [e]) ((l.take (k + 1)).map f) := by
  subst hn
  rw [List.take_succ_eq_append_getElem hk, List.map_append, List.take_of_length_le (by simp; omega)]
  have : ∀ (a : List (List AC)) {b c : List AC}, F2 LocLe b c → F2 (F2 LocLe) (a ++ [b]) (a ++ [c]) := fun a b c h => by
    induction a with
    | nil => exact .cons h .nil
    | cons x a ih => exact .cons (f2_refl x) ih
  exact this _ he
theorem app_end {α : Type} {f : α → List AC} {l : List α} {k : Nat} (hk : l.length ≤ k) : (l.take k).map f = l.map f := by rw [List.take_of_length_le hk]
theorem int_le {a b : Int} (h : a = b) : LocLe (.int a) (.int b) := h ▸ LocLe.refl _
theorem end_le {α : Type} {w k : Nat} {f : α → List AC} {l : List α} (h : k = l.length) : LocLe (.list w k ((l.take k).map f)) (.list w l.length (l.map f)) := by
  subst h; rw [List.take_length]; exact LocLe.refl _
theorem kids_end_le {k : Nat} {l : List Tree} (h : k = l.length) : LocLe (.list 3 k ((l.take k).map Tree.cs')) (.list 3 l.length (l.map Tree.cs)) := by
  rw [Tree.cs_eq]; exact end_le h
theorem f22_cs {l : List Tree} : F2 (F2 LocLe) (l.map Tree.cs') (l.map Tree.cs) := by rw [Tree.cs_eq]; exact f22_refl _
theorem f22_cs' {l : List Tree} : F2 (F2 LocLe) (l.map Tree.cs) (l.map Tree.cs') := by rw [Tree.cs_eq]; exact f22_refl _
theorem Wf.empty {G : Ghost} {objs : List AObj} {wd : World} (w : Nat) (h : Wf G (objsFn objs) wd) : Wf G (objsFn (objs ++ [.cells w []])) wd := by
  refine ⟨h.hS, h.hU, h.su, h.sk, fun o => ?_⟩
  show ObjRel G (hp wd) o (listFn .fresh (objs ++ [.cells w []]) o)
  have ho : ObjRel G (hp wd) o (listFn .fresh objs o) := h.objs o
  rcases Nat.lt_trichotomy o objs.length with h | h | h
  · have h1 : (objs ++ [AObj.cells w []])[o]? = some objs[o] := by rw [List.getElem?_append_left h, List.getElem?_eq_getElem h]
    rw [listFn_some h1]
    rwa [listFn_some (List.getElem?_eq_getElem h)] at ho
  · subst h
    rw [listFn_some (x := AObj.cells w []) (by simp)]
    rw [listFn_none (Nat.le_refl _)] at ho
    exact .inl ⟨rfl, ho⟩
  · rw [listFn_none (by simp; omega)]
    rwa [listFn_none (by omega)] at ho
theorem RetS.empty (w : Nat) {m : Nat} {objs : List AObj} {res : AC} {objs' : List AObj} {r : AC} (h : RetS m (objsFn (objs ++ [.cells w []])) res objs' r) : RetS m (objsFn objs) res objs' r := fun G wd v hW hV => h G wd v (hW.empty w) hV
/-- what a call leaves, settled -/
theorem CallsA.settle {f : FuncId} {args : List AC} {objs objs1 objs2 : List AObj} {res res2 : AC} (h : CallsA P f args objs res objs1) (π Bn : List Nat) (hn : nodupB (π ++ Bn) = true) (ha : allN (fun o => isCells (objsFn objs1 o)) π = true)
    (hf : fixed objs.length 0 π = true) (hr : LocLe (bor (objsFn objs1) π Bn res) res2) (ho : F2 ObjLe (π.map (passObj (objsFn objs1) π Bn)) objs2) : CallsA P f args objs res2 objs2 := by
  refine ⟨h.1, fun G w vs hW hs hv => (h.2 G w vs hW hs hv).mono ?_⟩
  rintro e w' ⟨G', v, rfl, h1, h2, h3, h4, h5⟩
  have hnd := nodupB_iff hn
  obtain ⟨k1, k2, k3, k4⟩ := seal_core (π := π) (Bn := Bn) h4 (List.nodup_append.1 hnd).1 (fun o ho hb => (List.nodup_append.1 hnd).2.2 o ho o hb rfl) (allN_spec ha)
  refine ⟨_, v, rfl, h1.trans k2, fun o t ho e => ?_, h3, k1.le ho, hr _ _ _ _ (k4 _ _ h5)⟩
  have := fixed_spec objs.length 0 π hf o ho
  rw [Nat.zero_add] at this
  exact k3 o o t (idx_get (List.nodup_append.1 hnd).1 this) (h2 o t ho e)
theorem nils_of {l : List Tree} (h : l = []) : LocLe .nils (.list 3 l.length (l.map Tree.cs)) := by subst h; exact nils_list
theorem lst_le {α : Type} {w n : Nat} {f : α → List AC} {l : List α} (h : n = l.length) : LocLe (.list w n (l.map f)) (.list w l.length (l.map f)) := by subst h; exact LocLe.refl _
def borX (objs : Nat → AObj) (π Bn : List Nat) (x : AC) : AC := match x with
  | .own w' es' => .own w' es'
  | x => bor objs π Bn x
theorem passObj_cells {objs : Nat → AObj} {π Bn : List Nat} {o w : Nat} {es : List (List AC)} (ho : objs o = .cells w es) : passObj objs π Bn o = .cells w (es.map (·.map (borX objs π Bn))) := by
  simp only [passObj, ho]; rfl
theorem borX_flat {objs : Nat → AObj} {π Bn : List Nat} {es : List (List AC)} (h : Flat es) : es.map (·.map (borX objs π Bn)) = es := by
  have := pass_flat (objs := fun _ => .cells 0 es) (π := π) (Bn := Bn) (o := 0) rfl h
  conv => rhs; rw [← List.map_id es]
  refine List.map_congr_left fun e he => ?_
  conv => rhs; rw [id, ← List.map_id e]
  refine List.map_congr_left fun x hx => ?_
  have := flatL_iff.1 (h e he) x hx
  cases x <;> first | rfl | simp [AC.flat] at this
theorem pass_snoc {objs : Nat → AObj} {π Bn : List Nat} {o w : Nat} {A L : List (List AC)} {e : List AC} (ho : objs o = .cells w (A ++ [e])) (hf : Flat A) (h : F2 (F2 LocLe) (A ++ [e.map (borX objs π Bn)]) L) : ObjLe (passObj objs π Bn o) (.cells w L) := by
  rw [passObj_cells ho, List.map_append, borX_flat hf]
  exact ⟨rfl, h⟩
theorem pass_set {objs : Nat → AObj} {π Bn : List Nat} {o w i : Nat} {A L : List (List AC)} {e : List AC} (ho : objs o = .cells w (A.set i e)) (hf : Flat A) (h : F2 (F2 LocLe) (A.set i (e.map (borX objs π Bn))) L) : ObjLe (passObj objs π Bn o) (.cells w L) := by
  rw [passObj_cells ho, List.map_set, borX_flat hf]
  exact ⟨rfl, h⟩
theorem sealX_le {objs : Nat → AObj} {π Bn : List Nat} {o w n : Nat} {es : List (List AC)} {y : AC} (h1 : idx π o = none) (h2 : inB Bn o = true) (ho : objs o = .cells w es) (hu : unownLL es = es) (hl : es.length = n) (h : LocLe (.list w n es) y) : LocLe (borX objs π Bn (.sref o 0 n)) y := seal_le h1 h2 ho hu hl h
theorem flat_snoc_set {A : List (List AC)} {x y : List AC} {k : Nat} (hk : A.length = k) (hA : Flat A) (hy : flatL y = true) : Flat ((A ++ [x]).set k y) := by
  subst hk
  intro e he
  rw [List.set_append_right _ _ (Nat.le_refl _)] at he
  simp only [Nat.sub_self, List.set_cons_zero, List.mem_append, List.mem_singleton] at he
  rcases he with h | rfl
  · exact hA e h
  · exact hy
theorem snoc_set_le {A L : List (List AC)} {x y : List AC} {k : Nat} (hk : A.length = k) (h : F2 (F2 LocLe) (A ++ [y]) L) : F2 (F2 LocLe) ((A ++ [x]).set k y) L := by
  subst hk
  rw [List.set_append_right _ _ (Nat.le_refl _)]
  simpa using h
theorem seal_leU {objs : Nat → AObj} {π Bn : List Nat} {o w n : Nat} {es L : List (List AC)} {y : AC} (h1 : idx π o = none) (h2 : inB Bn o = true) (ho : objs o = .cells w es) (hu : unownLL es = L) (hl : es.length = n) (h : LocLe (.list w n L) y) : LocLe (bor objs π Bn (.sref o 0 n)) y := by
  rw [bor_full ho h1 h2 hl, hu]; exact h
theorem unown_app {a b a' b' : List (List AC)} (h : unownLL a = a') (k : unownLL b = b') : unownLL (a ++ b) = a' ++ b' := by
  subst h k
  induction a with
  | nil => rfl
  | cons e a ih => simp only [List.cons_append, unownLL, ih]
theorem unown_tk {a a' : List (List AC)} (h : unownLL a = a') (n : Nat) : unownLL (a.take n) = a'.take n := by
  subst h
  induction a generalizing n with
  | nil => simp [unownLL]
  | cons e a ih =>
    cases n with
    | zero => rfl
    | succ n => simp only [List.take_succ_cons, unownLL, ih]
theorem unown_st {a a' : List (List AC)} (h : unownLL a = a') (n : Nat) (e : List AC) : unownLL (a.set n e) = a'.set n (unownL e) := by
  subst h
  induction a generalizing n with
  | nil => simp [unownLL]
  | cons x a ih =>
    cases n with
    | zero => rfl
    | succ n => simp only [List.set_cons_succ, unownLL, ih]
/-- an element put in -/
theorem put_le {α : Type} {f : α → List AC} {l : List α} {i j : Nat} {e : List AC} {x : α} (hj : j = i) (he : F2 LocLe e (f x)) : F2 (F2 LocLe) ((l.map f).set j e) ((l.set i x).map f) := by
  subst hj
  rw [List.map_set]
  have : ∀ (l : List (List AC)) (j : Nat) {e e' : List AC}, F2 LocLe e e' → F2 (F2 LocLe) (l.set j e) (l.set j e') := fun l => by
    induction l with
    | nil => intro j _ _ _; exact .nil
    | cons x l ih =>
      intro j e e' h
      cases j with
      | zero => exact .cons h (f22_refl _)
      | succ j => exact .cons (f2_refl _) (ih j h)
  exact this _ _ he
theorem snoc_le {α : Type} {f : α → List AC} {l : List α} {n : Nat} {e : List AC} {x : α} (hn : l.length ≤ n) (he : F2 LocLe e (f x)) : F2 (F2 LocLe) ((l.map f).take n ++ [e]) ((l ++ [x]).map f) := by
  rw [List.take_of_length_le (by simpa using hn), List.map_append]
  have : ∀ (a : List (List AC)) {b c : List AC}, F2 LocLe b c → F2 (F2 LocLe) (a ++ [b]) (a ++ [c]) := fun a b c h => by
    induction a with
    | nil => exact .cons h .nil
    | cons x a ih => exact .cons (f2_refl x) ih
  exact this _ he
theorem RetS.mid (π Bn : List Nat) (objs1 : List AObj) (r1 : AC) {m : Nat} {o : Nat → AObj} {res : AC} {objs' : List AObj} {r : AC} (hn : nodupB (π ++ Bn) = true) (ha : allN (fun x => isCells (o x)) π = true) (hf : fixed m 0 π = true)
    (hr : LocLe (bor o π Bn r) r1) (ho : F2 ObjLe (π.map (passObj o π Bn)) objs1) (h : RetS m (objsFn objs1) res objs' r1) : RetS m o res objs' r :=
  RetS.lay π Bn hn ha hf fun G w v hW hV => h G w v (hW.le ho) (hr _ _ _ _ hV)
theorem f22_snoc (a : List (List AC)) {b c : List AC} (h : F2 LocLe b c) : F2 (F2 LocLe) (a ++ [b]) (a ++ [c]) := by
  induction a with
  | nil => exact .cons h .nil
  | cons x a ih => exact .cons (f2_refl x) ih
theorem app2_le {A : List (List AC)} {n : Nat} {e e' : List AC} (hn : A.length ≤ n) (h : F2 LocLe e e') : F2 (F2 LocLe) (A.take n ++ [e]) (A ++ [e']) := by
  rw [List.take_of_length_le hn]; exact f22_snoc A h
theorem app3_le {α : Type} {f : α → List AC} {l : List α} {e : List AC} {x : α} (h : F2 LocLe e (f x)) : F2 (F2 LocLe) (l.map f ++ [e]) ((l ++ [x]).map f) := by
  rw [List.map_append]; exact f22_snoc _ h
theorem pass_set2 {objs : Nat → AObj} {π Bn : List Nat} {o w i j : Nat} {A L : List (List AC)} {e x : List AC} (ho : objs o = .cells w ((A.set i x).set j e)) (hj : j = i) (hf : Flat A) (h : F2 (F2 LocLe) (A.set i (e.map (borX objs π Bn))) L) : ObjLe (passObj objs π Bn o) (.cells w L) := by
  subst hj
  rw [List.set_set] at ho
  exact pass_set ho hf h
theorem set2_le {A : List (List AC)} {i j : Nat} {e e' : List AC} (hj : j = i) (he : F2 LocLe e e') : F2 (F2 LocLe) (A.set j e) (A.set i e') := by
  subst hj
  induction A generalizing j with
  | nil => exact .nil
  | cons x l ih =>
    cases j with
    | zero => exact .cons he (f22_refl _)
    | succ j => exact .cons (f2_refl _) ih
theorem sref_leN {o n n' : Nat} (h : n = n') : LocLe (.sref o 0 n) (.sref o 0 n') := h ▸ LocLe.refl _
theorem appL_le {α : Type} {f : α → List AC} {l l2 : List α} {n : Nat} (hn : l.length ≤ n) : F2 (F2 LocLe) ((l.map f).take n ++ l2.map f) ((l ++ l2).map f) := by
  rw [List.take_of_length_le (by simpa using hn), List.map_append]; exact f22_refl _
/-- what a loop gathers -/
def cat {α : Type} (n : Nat) (f : Nat → List α) : List α := (List.range n).flatMap f
theorem cat_zero {α : Type} (f : Nat → List α) : cat 0 f = [] := rfl
theorem cat_succ {α : Type} (n : Nat) (f : Nat → List α) : cat (n + 1) f = cat n f ++ f n := by
  unfold cat; rw [List.range_succ, List.flatMap_append]; simp
theorem mem_cat {α : Type} {n : Nat} {f : Nat → List α} {x : α} (h : x ∈ cat n f) : ∃ i, i < n ∧ x ∈ f i := by
  unfold cat at h
  obtain ⟨i, hi, hx⟩ := List.mem_flatMap.1 h
  exact ⟨i, List.mem_range.1 hi, hx⟩
theorem cat_len {α : Type} {n c : Nat} {f : Nat → List α} (h : ∀ i, i < n → (f i).length ≤ c) : (cat n f).length ≤ n * c := by
  induction n with
  | zero => simp [cat]
  | succ n ih =>
    rw [cat_succ, List.length_append, Nat.add_mul]
    have := ih fun i hi => h i (by omega)
    have := h n (by omega)
    omega
theorem sealX_leU {objs : Nat → AObj} {π Bn : List Nat} {o w n : Nat} {es L : List (List AC)} {y : AC} (h1 : idx π o = none) (h2 : inB Bn o = true) (ho : objs o = .cells w es) (hu : unownLL es = L) (hl : es.length = n) (h : LocLe (.list w n L) y) : LocLe (borX objs π Bn (.sref o 0 n)) y := seal_leU h1 h2 ho hu hl h
end Go.Gl

/- Partitions: refinement, sorted lists without repetition. -/
namespace Go.Gl

/-! strictly ascending lists -/
def Asc (l : List Int) : Prop := l.Pairwise (· < ·)
theorem asc_ext : ∀ {a b : List Int}, Asc a → Asc b → (∀ x, x ∈ a ↔ x ∈ b) → a = b
  | [], b, _, _, h => by
    cases b with
    | nil => rfl
    | cons y b => have := (h y).2 (by simp); cases this
  | x :: a, [], _, _, h => by have := (h x).1 (by simp); cases this
  | x :: a, y :: b, ha, hb, h => by
    have ha1 := List.pairwise_cons.1 ha
    have hb1 := List.pairwise_cons.1 hb
    have hxy : x = y := by
      rcases List.mem_cons.1 ((h x).1 (by simp)) with e | hx
      · exact e
      · rcases List.mem_cons.1 ((h y).2 (by simp)) with e | hy
        · exact e.symm
        · have := hb1.1 x hx; have := ha1.1 y hy; omega
    subst hxy
    rw [asc_ext ha1.2 hb1.2 fun z => ?_]
    constructor
    · intro hz
      rcases List.mem_cons.1 ((h z).1 (by simp [hz])) with e | hz'
      · subst e; have := ha1.1 z hz; omega
      · exact hz'
    · intro hz
      rcases List.mem_cons.1 ((h z).2 (by simp [hz])) with e | hz'
      · subst e; have := hb1.1 z hz; omega
      · exact hz'

/-- a number enters a strictly ascending list -/
def insS (l : List Int) (n : Int) : List Int := match l with
  | [] => [n]
  | x :: r => if x = n then x :: r else if n < x then n :: x :: r else x :: insS r n
theorem insS_mem {l : List Int} {n x : Int} : x ∈ insS l n ↔ x ∈ l ∨ x = n := by
  induction l with
  | nil => simp [insS]
  | cons y r ih =>
    rw [insS]
    split
    · rename_i h; subst h; simp
      intro h; left; exact h
    · split
      · simp; constructor
        · rintro (h | h | h) <;> simp [h]
        · rintro ((h | h) | h) <;> simp [h]
      · rw [List.mem_cons, ih]; simp [or_assoc]
theorem insS_asc {l : List Int} {n : Int} (h : Asc l) : Asc (insS l n) := by
  induction l with
  | nil => simp [insS, Asc]
  | cons y r ih =>
    have h1 := List.pairwise_cons.1 h
    rw [insS]
    split
    · exact h
    · split
      · refine List.pairwise_cons.2 ⟨fun z hz => ?_, h⟩
        rcases List.mem_cons.1 hz with rfl | hz
        · assumption
        · have := h1.1 z hz; omega
      · refine List.pairwise_cons.2 ⟨fun z hz => ?_, ih h1.2⟩
        rcases insS_mem.1 hz with hz | rfl
        · exact h1.1 z hz
        · omega
theorem insS_len (l : List Int) (n : Int) : (insS l n).length ≤ l.length + 1 := by
  induction l with
  | nil => simp [insS]
  | cons y r ih =>
    rw [insS]
    split
    · simp
    · split
      · simp
      · simp; exact ih
theorem insS_old {l : List Int} {n : Int} (h : Asc l) (hn : n ∈ l) : insS l n = l :=
  asc_ext (insS_asc h) h fun x => by
    rw [insS_mem]
    constructor
    · rintro (h | rfl) <;> assumption
    · exact .inl
/-- insertion, said from the front -/
theorem insS_split {l : List Int} {n : Int} (h : Asc l) (hn : n ∉ l) : insS l n = l.filter (fun x => decide (x < n)) ++ n :: l.filter (fun x => decide (n < x)) := by
  refine asc_ext (insS_asc h) ?_ fun x => ?_
  · refine List.pairwise_append.2 ⟨h.filter _, List.pairwise_cons.2 ⟨fun z hz => ?_, h.filter _⟩, fun a ha b hb => ?_⟩
    · have := (List.mem_filter.1 hz).2; simpa using this
    · have h1 : a < n := by simpa using (List.mem_filter.1 ha).2
      rcases List.mem_cons.1 hb with rfl | hb
      · exact h1
      · have h2 : n < b := by simpa using (List.mem_filter.1 hb).2
        omega
  · rw [insS_mem, List.mem_append, List.mem_cons, List.mem_filter, List.mem_filter]
    constructor
    · rintro (h1 | h1)
      · rcases Int.lt_trichotomy x n with h2 | h2 | h2
        · exact .inl ⟨h1, by simpa using h2⟩
        · exact .inr (.inl h2)
        · exact .inr (.inr ⟨h1, by simpa using h2⟩)
      · exact .inr (.inl h1)
    · rintro (h1 | h1 | h1)
      · exact .inl h1.1
      · exact .inr h1
      · exact .inl h1.1

/-- sorting and compacting -/
theorem compact_asc {z : List Int} (hs : z.Pairwise (· ≤ ·)) : ∀ m, m ≤ z.length → Asc (Lib.compactUpTo z.toArray m) ∧ (∀ x, x ∈ Lib.compactUpTo z.toArray m ↔ x ∈ z.take m) ∧ (∀ h : 0 < m, ∀ x ∈ Lib.compactUpTo z.toArray m, ∀ h2 : m - 1 < z.length, x ≤ z[m - 1]) := by
  intro m
  induction m with
  | zero => intro _; exact ⟨by simp [Lib.compactUpTo, Asc], by simp [Lib.compactUpTo], fun h => by omega⟩
  | succ m ih =>
    intro hm
    obtain ⟨h1, h2, h3⟩ := ih (by omega)
    have hml : m < z.length := by omega
    have hm0 : z.toArray[m]! = z[m] := by simp [hml]
    rw [Lib.compactUpTo_succ]
    by_cases hk : Lib.keeps z.toArray m = true
    · rw [if_pos hk, hm0]
      have hlt : ∀ x ∈ Lib.compactUpTo z.toArray m, x < z[m] := by
        intro x hx
        rcases Nat.eq_zero_or_pos m with rfl | hp
        · simp [Lib.compactUpTo] at hx
        · have h4 := h3 hp x hx (by omega)
          have h5 : z[m - 1] ≤ z[m] := List.pairwise_iff_getElem.1 hs (m - 1) m (by omega) hml (by omega)
          have h6 : z[m - 1] ≠ z[m] := by
            unfold Lib.keeps at hk
            rw [decide_eq_true_eq] at hk
            rcases hk with h | h
            · omega
            · rw [hm0] at h
              have : z.toArray[m - 1]! = z[m - 1] := by simp [show m - 1 < z.length by omega]
              rw [this] at h
              exact fun e => h e.symm
          omega
      refine ⟨List.pairwise_append.2 ⟨h1, by simp, fun a ha b hb => by rw [List.mem_singleton.1 hb]; exact hlt a ha⟩, fun x => ?_, fun _ x hx h7 => ?_⟩
      · rw [List.mem_append, h2, List.mem_singleton, List.take_succ_eq_append_getElem hml, List.mem_append, List.mem_singleton]
      · simp only [Nat.add_sub_cancel]
        rcases List.mem_append.1 hx with hx | hx
        · have := hlt x hx; omega
        · rw [List.mem_singleton.1 hx]; exact Int.le_refl _
    · rw [if_neg hk, List.append_nil]
      have hp : 0 < m ∧ z[m - 1]'(by omega) = z[m] := by
        unfold Lib.keeps at hk
        rw [decide_eq_true_eq, not_or, Decidable.not_not, hm0] at hk
        refine ⟨by omega, ?_⟩
        have : z.toArray[m - 1]! = z[m - 1]'(by omega) := by simp [show m - 1 < z.length by omega]
        rw [this] at hk
        exact hk.2.symm
      refine ⟨h1, fun x => ?_, fun _ x hx h7 => ?_⟩
      · rw [h2, List.take_succ_eq_append_getElem hml, List.mem_append, List.mem_singleton]
        constructor
        · exact .inl
        · rintro (h | rfl)
          · exact h
          · rw [← hp.2]
            rw [List.mem_take_iff_getElem]
            exact ⟨m - 1, by omega, rfl⟩
      · simp only [Nat.add_sub_cancel]
        have := h3 hp.1 x hx (by omega)
        rw [hp.2] at this; exact this
def sortD (l : List Int) : List Int := Lib.compact (l.mergeSort fun x y => decide (x ≤ y))
theorem sorted_sort (l : List Int) : (l.mergeSort fun x y => decide (x ≤ y)).Pairwise (· ≤ ·) := by
  have := List.pairwise_mergeSort (le := fun x y : Int => decide (x ≤ y)) (fun a b c h1 h2 => by simp only [decide_eq_true_eq] at *; omega) (fun a b => by simp only [Bool.or_eq_true, decide_eq_true_eq]; omega) l
  simpa using this
theorem sortD_asc (l : List Int) : Asc (sortD l) := (compact_asc (sorted_sort l) _ (Nat.le_refl _)).1
theorem sortD_mem {l : List Int} {x : Int} : x ∈ sortD l ↔ x ∈ l := by
  unfold sortD Lib.compact
  rw [(compact_asc (sorted_sort l) _ (Nat.le_refl _)).2.1, List.take_length, List.mem_mergeSort]
theorem foldl_insS {l : List Int} {out : List Int} (h : Asc out) : Asc (l.foldl insS out) ∧ ∀ x, x ∈ l.foldl insS out ↔ x ∈ out ∨ x ∈ l := by
  induction l generalizing out with
  | nil => exact ⟨h, fun x => by simp⟩
  | cons n l ih =>
    obtain ⟨h1, h2⟩ := ih (insS_asc (n := n) h)
    exact ⟨h1, fun x => by rw [List.foldl_cons, h2, insS_mem]; simp [or_assoc]⟩
theorem sortD_eq (l : List Int) : l.foldl insS [] = sortD l := by
  obtain ⟨h1, h2⟩ := foldl_insS (l := l) (out := []) (by simp [Asc])
  exact asc_ext h1 (sortD_asc l) fun x => by rw [h2, sortD_mem]; simp
theorem foldl_insS_len (l out : List Int) : (l.foldl insS out).length ≤ out.length + l.length := by
  induction l generalizing out with
  | nil => simp
  | cons n l ih =>
    have := ih (insS out n)
    have := insS_len out n
    simp only [List.foldl_cons, List.length_cons]; omega

/-! numbering by keys -/
def numK {K : Type} [DecidableEq K] (κ : Nat → K) (n : Nat) : List Int × Nat := numF (fun i k => decide (κ k = κ i)) n
section
variable {K K' : Type} [DecidableEq K] [DecidableEq K'] {κ : Nat → K} {κ' : Nat → K'}
theorem find_dec {p : Nat → Bool} {i : Nat} : (∀ j, j < i → p j = false) ∨ ∃ k, k < i ∧ p k = true ∧ ∀ j, j < k → p j = false := by
  induction i with
  | zero => exact .inl fun j hj => by omega
  | succ i ih =>
    rcases ih with h | ⟨k, h1, h2, h3⟩
    · cases hp : p i with
      | true => exact .inr ⟨i, by omega, hp, h⟩
      | false =>
        refine .inl fun j hj => ?_
        rcases Nat.lt_or_ge j i with h1 | h1
        · exact h j h1
        · obtain rfl : j = i := by omega
          exact hp
    · exact .inr ⟨k, by omega, h2, h3⟩
theorem numK_len (n : Nat) : (numK κ n).1.length = n := numF_len _ _
theorem numK_iff {n : Nat} : ∀ (i : Nat) (hi : i ≤ n) (a b : Nat) (ha : a < i) (hb : b < i), (numK κ n).1[a]'(by rw [numK_len]; omega) = (numK κ n).1[b]'(by rw [numK_len]; omega) ↔ κ a = κ b := by
  intro i
  induction i with
  | zero => intro _ a b ha; omega
  | succ i ih =>
    intro hi a b ha hb
    have ih' := ih (by omega)
    have key : ∀ b (hb : b < i), (numK κ n).1[i]'(by rw [numK_len]; omega) = (numK κ n).1[b]'(by rw [numK_len]; omega) ↔ κ i = κ b := by
      intro b hb
      rcases find_dec (p := fun k => decide (κ k = κ i)) (i := i) with h | ⟨k, h1, h2, h3⟩
      · have e := (numF_none (same := fun i k => decide (κ k = κ i)) (n := n) (i := i) (by omega) h).1
        have hl := numF_lt' (same := fun i k => decide (κ k = κ i)) (i := i) (k := b) (n := n) (by omega) hb
        have hk : κ b ≠ κ i := by simpa using h b hb
        constructor
        · intro h5
          exfalso
          unfold numK at h5
          rw [e] at h5
          omega
        · intro h5; exact absurd h5.symm hk
      · have e := (numF_found (same := fun i k => decide (κ k = κ i)) (n := n) (i := i) (by omega) h1 h2 h3).1
        have hk : κ k = κ i := by simpa using h2
        have h6 := ih' k b h1 hb
        unfold numK at h6 ⊢
        rw [e, h6, hk]
    rcases Nat.lt_or_ge a i with h1 | h1
    · rcases Nat.lt_or_ge b i with h2 | h2
      · exact ih' a b h1 h2
      · obtain rfl : b = i := by omega
        rw [eq_comm, key a h1, eq_comm]
    · obtain rfl : a = i := by omega
      rcases Nat.lt_or_ge b a with h2 | h2
      · exact key b h2
      · obtain rfl : b = a := by omega
        simp
/-- a finer numbering has more numbers, or is the same -/
theorem numK_finer {n : Nat} (hf : ∀ a b, a < n → b < n → κ' a = κ' b → κ a = κ b) : ∀ i, i ≤ n → (numK κ i).2 ≤ (numK κ' i).2 ∧ ((numK κ' i).2 = (numK κ i).2 → (numK κ' i).1 = (numK κ i).1) ∧ ∀ j, i ≤ j → j ≤ n → (numK κ' i).2 - (numK κ i).2 ≤ (numK κ' j).2 - (numK κ j).2 := by
  have step : ∀ i, i < n → ((numK κ (i + 1)).2 = (numK κ i).2 + 1 ∧ (numK κ' (i + 1)).2 = (numK κ' i).2 + 1 ∧ (∀ j, j < i → κ j ≠ κ i) ∧ (∀ j, j < i → κ' j ≠ κ' i)) ∨ ((numK κ (i + 1)).2 = (numK κ i).2 ∧ ∃ k, k < i ∧ κ k = κ i ∧ (∀ j, j < k → κ j ≠ κ i) ∧ (((numK κ' (i + 1)).2 = (numK κ' i).2 + 1 ∧ ∀ j, j < i → κ' j ≠ κ' i) ∨ ((numK κ' (i + 1)).2 = (numK κ' i).2 ∧ ∃ k', k' < i ∧ κ' k' = κ' i ∧ ∀ j, j < k' → κ' j ≠ κ' i))) := by
    intro i hi
    rcases find_dec (p := fun k => decide (κ k = κ i)) (i := i) with h | ⟨k, h1, h2, h3⟩
    · have e := (numF_none (same := fun i k => decide (κ k = κ i)) (n := n) (i := i) hi h).2
      have hn : ∀ j, j < i → κ j ≠ κ i := fun j hj => by simpa using h j hj
      have h' : ∀ j, j < i → decide (κ' j = κ' i) = false := fun j hj => by
        rw [decide_eq_false_iff_not]
        exact fun e => hn j hj (hf j i (by omega) hi e)
      have e' := (numF_none (same := fun i k => decide (κ' k = κ' i)) (n := n) (i := i) hi h').2
      exact .inl ⟨e, e', hn, fun j hj => by simpa using h' j hj⟩
    · have e := (numF_found (same := fun i k => decide (κ k = κ i)) (n := n) (i := i) hi h1 h2 h3).2
      refine .inr ⟨e, k, h1, by simpa using h2, fun j hj => by simpa using h3 j hj, ?_⟩
      rcases find_dec (p := fun k => decide (κ' k = κ' i)) (i := i) with h' | ⟨k', h1', h2', h3'⟩
      · exact .inl ⟨(numF_none (same := fun i k => decide (κ' k = κ' i)) (n := n) (i := i) hi h').2, fun j hj => by simpa using h' j hj⟩
      · exact .inr ⟨(numF_found (same := fun i k => decide (κ' k = κ' i)) (n := n) (i := i) hi h1' h2' h3').2, k', h1', by simpa using h2', fun j hj => by simpa using h3' j hj⟩
  have mono : ∀ i, i ≤ n → (numK κ i).2 ≤ (numK κ' i).2 := by
    intro i
    induction i with
    | zero => intro _; exact Nat.le_refl _
    | succ i ih =>
      intro hi
      have := ih (by omega)
      rcases step i hi with ⟨h1, h2, _⟩ | ⟨h1, k, _, _, _, ⟨h2, _⟩ | ⟨h2, _⟩⟩ <;> omega
  have gap : ∀ i j, i ≤ j → j ≤ n → (numK κ' i).2 - (numK κ i).2 ≤ (numK κ' j).2 - (numK κ j).2 := by
    intro i j hij
    induction j with
    | zero => intro _; obtain rfl : i = 0 := by omega
              exact Nat.le_refl _
    | succ j ih =>
      intro hj
      rcases Nat.lt_or_ge j i with h | h
      · obtain rfl : i = j + 1 := by omega
        exact Nat.le_refl _
      · have h0 := ih h (by omega)
        have hm := mono j (by omega)
        rcases step j hj with ⟨h1, h2, _⟩ | ⟨h1, k, _, _, _, ⟨h2, _⟩ | ⟨h2, _⟩⟩ <;> omega
  intro i
  induction i with
  | zero => intro _; exact ⟨Nat.le_refl _, fun _ => rfl, fun j h1 h2 => gap 0 j h1 h2⟩
  | succ i ih =>
    intro hi
    obtain ⟨_, ih2, _⟩ := ih (by omega)
    refine ⟨mono _ hi, fun he => ?_, fun j h1 h2 => gap _ j h1 h2⟩
    have hg := gap i (i + 1) (by omega) hi
    have hm := mono i (by omega)
    have he0 : (numK κ' i).2 = (numK κ i).2 := by omega
    have e1 := ih2 he0
    obtain ⟨hl, s1⟩ := numF_succ (same := fun i k => decide (κ k = κ i)) (i := i) (n := n) hi
    obtain ⟨hl', s2⟩ := numF_succ (same := fun i k => decide (κ' k = κ' i)) (i := i) (n := n) hi
    show (numF _ (i + 1)).1 = (numF _ (i + 1)).1
    rw [s1, s2]
    have e1' : (numF (fun i k => decide (κ' k = κ' i)) i).1 = (numF (fun i k => decide (κ k = κ i)) i).1 := e1
    rw [e1']
    congr 2
    rcases step i hi with ⟨h1, h2, h3, h4⟩ | ⟨h1, k, hk1, hk2, hk3, ⟨h2, h4⟩ | ⟨h2, k', hk1', hk2', hk3'⟩⟩
    · have a1 := (numF_none (same := fun i k => decide (κ k = κ i)) (n := n) (i := i) hi (fun j hj => by simpa using h3 j hj)).1
      have a2 := (numF_none (same := fun i k => decide (κ' k = κ' i)) (n := n) (i := i) hi (fun j hj => by simpa using h4 j hj)).1
      rw [a1, a2]
      have : (numF (fun i k => decide (κ' k = κ' i)) i).2 = (numF (fun i k => decide (κ k = κ i)) i).2 := he0
      rw [this]
    · omega
    · have a1 := (numF_found (same := fun i k => decide (κ k = κ i)) (n := n) (i := i) hi hk1 (by simpa using hk2) (fun j hj => by simpa using hk3 j hj)).1
      have a2 := (numF_found (same := fun i k => decide (κ' k = κ' i)) (n := n) (i := i) hi hk1' (by simpa using hk2') (fun j hj => by simpa using hk3' j hj)).1
      rw [a1, a2]
      have b1 : (numF (fun i k => decide (κ' k = κ' i)) n).1[k']'(by rw [numF_len]; omega) = (numF (fun i k => decide (κ k = κ i)) n).1[k']'(by rw [numF_len]; omega) := by
        rw [← numF_at (i := i) hk1' (by omega), ← numF_at (i := i) hk1' (by omega), e1']
      rw [b1]
      exact (numK_iff (κ := κ) i (by omega) k' k hk1' hk1).2 (by rw [hk2]; exact hf k' i (by omega) hi hk2')
end
end Go.Gl

/- Branching-time formulas: what the program's walk computes, and what the reference computes. -/
namespace Go.Gl
def arityB (k : Int) : Int := if k = 1 ∨ k = 2 then 0 else if k = 3 ∨ k = 6 ∨ k = 8 ∨ k = 9 ∨ k = 11 then 1 else if k = 4 ∨ k = 5 ∨ k = 7 ∨ k = 10 then 2 else -1
def mostB (k : Int) : Int := if k = 2 then 2 else 0
mutual
def Tree.walkB (t : Tree) (d n : Int) : Int × Bool := match t with
  | .mk k v l => if d ≤ 6 ∧ n + 1 ≤ 12 ∧ 0 ≤ v ∧ v ≤ mostB k ∧ (l.length : Int) = arityB k then Tree.walkBs l (d + 1) (n + 1) else (n + 1, false)
def Tree.walkBs (l : List Tree) (d n : Int) : Int × Bool := match l with
  | [] => (n, true)
  | t :: r => if (Tree.walkB t d n).2 then Tree.walkBs r d (Tree.walkB t d n).1 else ((Tree.walkB t d n).1, false)
end
mutual
def Tree.shapeB (t : Tree) (d : Int) : Bool := match t with
  | .mk k v l => decide (1 ≤ d ∧ (l.length : Int) = arityB k ∧ 0 ≤ v ∧ v ≤ mostB k) && Tree.shapeBBs l (d - 1)
def Tree.shapeBBs (l : List Tree) (d : Int) : Bool := match l with
  | [] => true
  | t :: r => Tree.shapeB t d && Tree.shapeBBs r d
end
/-- the walk finds what the shape and the number of nodes say -/
theorem Tree.walkB_spec : (∀ (t : Tree) d n, 0 ≤ n → n ≤ 12 → ((t.walkB d n).2 = true ↔ t.shapeB (7 - d) = true ∧ n + t.count (7 - d) ≤ 12) ∧ ((t.walkB d n).2 = true → (t.walkB d n).1 = n + t.count (7 - d)) ∧ n ≤ (t.walkB d n).1 ∧ (t.walkB d n).1 ≤ 13) ∧
    ∀ (l : List Tree) d n, 0 ≤ n → n ≤ 12 → ((Tree.walkBs l d n).2 = true ↔ Tree.shapeBBs l (7 - d) = true ∧ n + Tree.counts l (7 - d) ≤ 12) ∧ ((Tree.walkBs l d n).2 = true → (Tree.walkBs l d n).1 = n + Tree.counts l (7 - d)) ∧ n ≤ (Tree.walkBs l d n).1 ∧ (Tree.walkBs l d n).1 ≤ 13 := by
  refine Tree.rec2 ?_ ?_ ?_
  · intro k v l ih d n h0 h1
    simp only [Tree.walkB, Tree.shapeB, Tree.count, Bool.and_eq_true, decide_eq_true_eq]
    have hc := Tree.count_pos.2 l (7 - d - 1)
    by_cases hb : d ≤ 6 ∧ n + 1 ≤ 12 ∧ 0 ≤ v ∧ v ≤ mostB k ∧ (l.length : Int) = arityB k
    · rw [if_pos hb, if_pos (by omega)]
      have := ih (d + 1) (n + 1) (by omega) hb.2.1
      rw [show 7 - (d + 1) = 7 - d - 1 by omega] at this
      obtain ⟨a1, a2, a3, a4⟩ := this
      refine ⟨?_, ?_, by omega, by omega⟩
      · rw [a1]
        constructor
        · rintro ⟨b1, b2⟩; exact ⟨⟨⟨by omega, hb.2.2.2.2, hb.2.2.1, hb.2.2.2.1⟩, b1⟩, by omega⟩
        · rintro ⟨b1, b2⟩; exact ⟨b1.2, by omega⟩
      · intro h; rw [a2 h]; omega
    · rw [if_neg hb]
      refine ⟨⟨by simp, ?_⟩, by simp, by simp only; omega, by simp only; omega⟩
      rintro ⟨⟨⟨b1, b2, b3, b4⟩, b5⟩, b6⟩
      rw [if_pos (by omega)] at b6
      exact absurd ⟨by omega, by omega, b3, b4, b2⟩ hb
  · intro d n h0 h1
    simp [Tree.walkBs, Tree.shapeBBs, Tree.counts]; omega
  · intro t r iht ihr d n h0 h1
    simp only [Tree.walkBs, Tree.shapeBBs, Tree.counts, Bool.and_eq_true]
    obtain ⟨a1, a2, a3, a4⟩ := iht d n h0 h1
    have hc := Tree.count_pos.2 r (7 - d)
    by_cases hb : (t.walkB d n).2 = true
    · rw [if_pos hb]
      have e := a2 hb
      obtain ⟨b1, b2, b3, b4⟩ := ihr d (t.walkB d n).1 (by omega) (by rw [e]; exact (a1.1 hb).2)
      refine ⟨?_, fun h => by rw [b2 h, e]; omega, by omega, b4⟩
      rw [b1, e]
      exact ⟨fun h => ⟨⟨(a1.1 hb).1, h.1⟩, by omega⟩, fun h => ⟨h.1.2, by omega⟩⟩
    · rw [if_neg hb]
      refine ⟨⟨by simp, fun h => absurd (a1.2 ⟨h.1.1, by omega⟩) hb⟩, by simp, a3, a4⟩

theorem Tree.walkB_eq (t : Tree) (d n : Int) : t.walkB d n = if d ≤ 6 ∧ n + 1 ≤ 12 ∧ 0 ≤ t.val ∧ t.val ≤ mostB t.kind ∧ (t.kids.length : Int) = arityB t.kind then Tree.walkBs t.kids (d + 1) (n + 1) else (n + 1, false) := by
  cases t; rfl
theorem Tree.walkBs_idx (d : Int) (l : List Tree) : ∀ n k, Tree.walkBs l d n = ((idxS (fun (x : Tree) s => !(x.walkB d s).2) (fun x s => (x.walkB d s).1) l n k).2, !decide (0 ≤ (idxS (fun (x : Tree) s => !(x.walkB d s).2) (fun x s => (x.walkB d s).1) l n k).1)) := by
  induction l with
  | nil => intro n k; simp [Tree.walkBs, idxS]
  | cons t l ih =>
    intro n k
    simp only [Tree.walkBs, idxS]
    cases h : (t.walkB d n).2
    · simp
    · simp only [if_true, Bool.not_true, Bool.false_eq_true, if_false]; exact ih _ _
def Tree.brB (t : Tree) : Bool := (t.walkB 1 0).2
theorem Tree.brB_eq (t : Tree) : t.brB = (t.shapeB 6 && decide (t.count 6 ≤ 12)) := by
  have h := (Tree.walkB_spec.1 t 1 0 (by omega) (by omega)).1
  rw [show (7 : Int) - 1 = 6 by omega, Int.zero_add] at h
  rw [Bool.eq_iff_iff, Bool.and_eq_true, decide_eq_true_eq]
  exact h
end Go.Gl

/- Fixed points over lists of truth values. -/
namespace Go.Gl

/-- a comes before b on the way from s -/
def ordB (s a b : Bool) : Prop := a = b ∨ a = s
theorem ordB.refl (s a : Bool) : ordB s a a := .inl rfl
theorem ordB.trans {s a b c : Bool} (h : ordB s a b) (k : ordB s b c) : ordB s a c := by
  unfold ordB at *
  cases s <;> cases a <;> cases b <;> cases c <;> simp_all
theorem ordB.antisymm {s a b : Bool} (h : ordB s a b) (k : ordB s b a) : a = b := by
  unfold ordB at *
  cases s <;> cases a <;> cases b <;> simp_all
def gB (S : List Bool) (i : Nat) : Bool := S.getD i false
structure FixR (s : Bool) (H : Nat → List Bool → Bool) (n : Nat) (R : List Bool) : Prop where
  len : R.length = n
  fix : ∀ i, i < n → gB R i = H i R
  least : ∀ T : List Bool, T.length = n → (∀ i, i < n → ordB s (H i T) (gB T i)) → ∀ i, i < n → ordB s (gB R i) (gB T i)
def MonoB (s : Bool) (H : Nat → List Bool → Bool) (n : Nat) : Prop := ∀ (S T : List Bool), S.length = n → T.length = n → (∀ j, j < n → ordB s (gB S j) (gB T j)) → ∀ i, i < n → ordB s (H i S) (H i T)
theorem FixR.unique {s : Bool} {H : Nat → List Bool → Bool} {n : Nat} {R R' : List Bool} (h : FixR s H n R) (k : FixR s H n R') : R = R' := by
  apply List.ext_getElem (by rw [h.len, k.len])
  intro i h1 h2
  have hi : i < n := by rw [← h.len]; exact h1
  have e1 := h.least R' k.len (fun i hi => by rw [k.fix i hi]; exact ordB.refl _ _) i hi
  have e2 := k.least R h.len (fun i hi => by rw [h.fix i hi]; exact ordB.refl _ _) i hi
  have := ordB.antisymm e1 e2
  unfold gB at this
  rwa [getD_at h1, getD_at h2] at this
open Classical in
noncomputable def lim (s : Bool) (H : Nat → List Bool → Bool) (n : Nat) : List Bool := if h : ∃ R, FixR s H n R then h.choose else []
theorem lim_eq {s : Bool} {H : Nat → List Bool → Bool} {n : Nat} {R : List Bool} (h : FixR s H n R) : lim s H n = R := by
  have hx : ∃ R, FixR s H n R := ⟨R, h⟩
  unfold lim
  rw [dif_pos hx]
  exact hx.choose_spec.unique h

/-- how many entries are still as at the start -/
def cntS (s : Bool) (S : List Bool) : Nat := (S.filter fun b => b == s).length
theorem cntS_le (s : Bool) (S : List Bool) : cntS s S ≤ S.length := List.length_filter_le _ _
theorem gB_set {S : List Bool} {i j : Nat} {b : Bool} (hi : i < S.length) : gB (S.set i b) j = if j = i then b else gB S j := by
  unfold gB
  by_cases h : j = i
  · subst h
    rw [if_pos rfl, getD_at (by simpa using hi)]; simp
  · rw [if_neg h]
    simp only [List.getD_eq_getElem?_getD]
    rw [List.getElem?_set_ne (Ne.symm h)]
theorem cntS_set {s : Bool} {S : List Bool} {i : Nat} (hi : i < S.length) (h : gB S i = s) : cntS s (S.set i (!s)) + 1 = cntS s S := by
  unfold gB at h
  rw [getD_at hi] at h
  induction S generalizing i with
  | nil => simp at hi
  | cons a S ih =>
    cases i with
    | zero =>
      simp only [List.getElem_cons_zero] at h
      subst h
      simp [cntS, List.filter_cons]
    | succ i =>
      have := ih (i := i) (by simpa using hi) (by simpa using h)
      unfold cntS at this ⊢
      rw [List.set_cons_succ, List.filter_cons, List.filter_cons]
      split <;> (try simp only [List.length_cons]) <;> omega
/-- what holds on the way -/
structure Way (s : Bool) (H : Nat → List Bool → Bool) (n : Nat) (S : List Bool) : Prop where
  len : S.length = n
  below : ∀ T : List Bool, T.length = n → (∀ i, i < n → ordB s (H i T) (gB T i)) → ∀ i, i < n → ordB s (gB S i) (gB T i)
  post : ∀ i, i < n → ordB s (gB S i) (H i S)
theorem Way.start {s : Bool} {H : Nat → List Bool → Bool} {n : Nat} : Way s H n (List.replicate n s) := by
  have e : ∀ i, i < n → gB (List.replicate n s) i = s := fun i hi => by unfold gB; rw [getD_at (by simpa using hi)]; simp
  exact ⟨by simp, fun T _ _ i hi => .inr (e i hi), fun i hi => .inr (e i hi)⟩
theorem Way.ends {s : Bool} {H : Nat → List Bool → Bool} {n : Nat} {S : List Bool} (h : Way s H n S) (hf : ∀ i, i < n → H i S = gB S i) : FixR s H n S := ⟨h.len, fun i hi => (hf i hi).symm, h.below⟩
/-- one entry takes a value v between itself and what H says of some set on the way -/
theorem Way.put {s : Bool} {H : Nat → List Bool → Bool} {n : Nat} (hm : MonoB s H n) {S : List Bool} (h : Way s H n S) {i : Nat} (hi : i < n) {v : Bool} (h1 : ordB s (gB S i) v) (h2 : ordB s v (H i S)) : Way s H n (S.set i v) ∧ (v ≠ gB S i → cntS s (S.set i v) + 1 = cntS s S) := by
  have hil : i < S.length := by rw [h.len]; exact hi
  have hle : ∀ j, j < n → ordB s (gB S j) (gB (S.set i v) j) := fun j _ => by
    rw [gB_set hil]; split
    · rename_i e; subst e; exact h1
    · exact ordB.refl _ _
  have hH := hm S (S.set i v) h.len (by simp [h.len]) hle
  refine ⟨⟨by simp [h.len], fun T hT hc j hj => ?_, fun j hj => ?_⟩, fun hne => ?_⟩
  · rw [gB_set hil]; split
    · rename_i e; subst e
      exact h2.trans ((hm S T h.len hT (h.below T hT hc) j hj).trans (hc j hj))
    · exact h.below T hT hc j hj
  · rw [gB_set hil]; split
    · rename_i e; subst e; exact h2.trans (hH j hj)
    · exact (h.post j hj).trans (hH j hj)
  · have hs : gB S i = s := by
      rcases h1 with e | e
      · exact absurd e.symm hne
      · exact e
    have hv : v = !s := by
      cases v <;> cases s <;> simp_all
    rw [hv]; exact cntS_set hil hs

/-- successors -/
def nxB (g : List (List Int)) (ev : Bool) (i : Nat) (S : List Bool) : Bool := if ev then (g.getD i []).all (fun t => gB S t.toNat) else (g.getD i []).any (fun t => gB S t.toNat)
theorem nxB_mono {g : List (List Int)} {ev s : Bool} {n : Nat} (hr : ∀ r ∈ g, InN n r) {S T : List Bool} (h : ∀ j, j < n → ordB s (gB S j) (gB T j)) (i : Nat) : ordB s (nxB g ev i S) (nxB g ev i T) := by
  have hrow : InN n (g.getD i []) := by
    by_cases hi : i < g.length
    · rw [getD_at hi]; exact hr _ (List.getElem_mem _)
    · rw [List.getD_eq_getElem?_getD, List.getElem?_eq_none (by omega)]; intro x hx; cases hx
  unfold nxB
  generalize g.getD i [] = row at hrow
  have key : ∀ row : List Int, InN n row → ordB s (row.all fun t => gB S t.toNat) (row.all fun t => gB T t.toNat) ∧ ordB s (row.any fun t => gB S t.toNat) (row.any fun t => gB T t.toNat) := by
    intro row
    induction row with
    | nil => intro _; exact ⟨ordB.refl _ _, ordB.refl _ _⟩
    | cons x r ih =>
      intro hx
      obtain ⟨h1, h2⟩ := ih fun y hy => hx y (by simp [hy])
      have h3 := hx x (by simp)
      have h4 := h x.toNat (by omega)
      simp only [List.all_cons, List.any_cons]
      revert h1 h2 h4
      generalize gB S x.toNat = a
      generalize gB T x.toNat = b
      generalize (r.all fun t => gB S t.toNat) = c
      generalize (r.all fun t => gB T t.toNat) = d
      generalize (r.any fun t => gB S t.toNat) = e
      generalize (r.any fun t => gB T t.toNat) = f
      unfold ordB
      cases s <;> cases a <;> cases b <;> cases c <;> cases d <;> cases e <;> cases f <;> simp
  obtain ⟨k1, k2⟩ := key row hrow
  cases ev
  · simpa using k2
  · simpa using k1
theorem ord_and {s a b c d : Bool} (h : ordB s a b) (k : ordB s c d) : ordB s (a && c) (b && d) := by
  unfold ordB at *; cases s <;> cases a <;> cases b <;> cases c <;> cases d <;> simp_all
theorem ord_or {s a b c d : Bool} (h : ordB s a b) (k : ordB s c d) : ordB s (a || c) (b || d) := by
  unfold ordB at *; cases s <;> cases a <;> cases b <;> cases c <;> cases d <;> simp_all
end Go.Gl

/- Which states satisfy a branching-time formula. -/
namespace Go.Gl
theorem Way.step {s : Bool} {H : Nat → List Bool → Bool} {n : Nat} (hm : MonoB s H n) {S S' : List Bool} (h : Way s H n S') (hS : S.length = n) (hle : ∀ j, j < n → ordB s (gB S j) (gB S' j)) {i : Nat} (hi : i < n) (hv : H i S = !s) (hg : gB S' i = s) : Way s H n (S'.set i (!s)) ∧ cntS s (S'.set i (!s)) + 1 = cntS s S' ∧ ∀ j, j < n → ordB s (gB S j) (gB (S'.set i (!s)) j) := by
  have hil : i < S'.length := by rw [h.len]; exact hi
  have h2 : ordB s (!s) (H i S') := by
    have := hm S S' hS h.len hle i hi
    rwa [hv] at this
  have hp := h.put hm hi (v := !s) (.inr hg) h2
  refine ⟨hp.1, hp.2 (by rw [hg]; cases s <;> simp), fun j hj => ?_⟩
  rw [gB_set hil]
  split
  · rename_i e
    subst e
    have := hle j hj
    rw [hg] at this
    rcases this with e | e
    · exact .inr e
    · exact .inr e
  · exact hle j hj
theorem lim_ex {s : Bool} {H : Nat → List Bool → Bool} {n : Nat} (hm : MonoB s H n) : ∀ (k : Nat) (S : List Bool), Way s H n S → cntS s S ≤ k → ∃ R, FixR s H n R := by
  intro k
  induction k with
  | zero =>
    intro S h hk
    by_cases hf : ∀ i, i < n → H i S = gB S i
    · exact ⟨S, h.ends hf⟩
    · exfalso
      simp only [Classical.not_forall] at hf
      obtain ⟨i, hi, hne⟩ := hf
      have := (h.put hm hi (h.post i hi) (ordB.refl s _)).2 hne
      omega
  | succ k ih =>
    intro S h hk
    by_cases hf : ∀ i, i < n → H i S = gB S i
    · exact ⟨S, h.ends hf⟩
    · simp only [Classical.not_forall] at hf
      obtain ⟨i, hi, hne⟩ := hf
      have hp := h.put hm hi (h.post i hi) (ordB.refl s _)
      have := hp.2 hne
      exact ih _ hp.1 (by omega)
theorem lim_len {s : Bool} {H : Nat → List Bool → Bool} {n : Nat} (hm : MonoB s H n) : (lim s H n).length = n := by
  obtain ⟨R, hR⟩ := lim_ex hm _ _ (Way.start (s := s) (H := H) (n := n)) (Nat.le_refl _)
  rw [lim_eq hR]; exact hR.len

def unH (g : List (List Int)) (ev : Bool) (a b : List Bool) (i : Nat) (S : List Bool) : Bool := gB b i || (gB a i && nxB g ev i S)
def alH (g : List (List Int)) (ev : Bool) (a : List Bool) (i : Nat) (S : List Bool) : Bool := gB a i && nxB g ev i S
theorem unH_mono {g : List (List Int)} {ev s : Bool} {n : Nat} (hr : ∀ r ∈ g, InN n r) (a b : List Bool) : MonoB s (unH g ev a b) n := fun _ _ _ _ h i _ => ord_or (ordB.refl _ _) (ord_and (ordB.refl _ _) (nxB_mono hr h i))
theorem alH_mono {g : List (List Int)} {ev s : Bool} {n : Nat} (hr : ∀ r ∈ g, InN n r) (a : List Bool) : MonoB s (alH g ev a) n := fun _ _ _ _ h i _ => ord_and (ordB.refl _ _) (nxB_mono hr h i)

def nxL (g : List (List Int)) (ev : Bool) (n : Nat) (S : List Bool) : List Bool := (List.range n).map fun i => nxB g ev i S
def hasB (ℓ a : Int) : Bool := decide (((((ℓ / 2 ^ a.toNat).toNat &&& (1 : Int).toNat : Nat) : Int)) = 1)
def ptB (L : List Int) (k v : Int) (a b : List Bool) (i : Nat) : Bool := if k = 2 then hasB (L.getD i 0) v else if k = 3 then !gB a i else if k = 4 then gB a i && gB b i else if k = 5 then gB a i || gB b i else true
noncomputable def opB (g : List (List Int)) (n : Nat) (L : List Int) (k v : Int) (ks : List (List Bool)) : List Bool :=
  if k = 6 then nxL g false n (ks.getD 0 []) else if k = 9 then nxL g true n (ks.getD 0 [])
  else if k = 7 then lim false (unH g false (ks.getD 0 []) (ks.getD 1 [])) n else if k = 10 then lim false (unH g true (ks.getD 0 []) (ks.getD 1 [])) n
  else if k = 8 then lim true (alH g false (ks.getD 0 [])) n else if k = 11 then lim true (alH g true (ks.getD 0 [])) n
  else (List.range n).map (ptB L k v (ks.getD 0 []) (ks.getD 1 []))
theorem opB_len {g : List (List Int)} {n : Nat} (hr : ∀ r ∈ g, InN n r) (L : List Int) (k v : Int) (ks : List (List Bool)) : (opB g n L k v ks).length = n := by
  unfold opB nxL
  split
  · simp
  split
  · simp
  split
  · exact lim_len (unH_mono hr _ _)
  split
  · exact lim_len (unH_mono hr _ _)
  split
  · exact lim_len (alH_mono hr _)
  split
  · exact lim_len (alH_mono hr _)
  simp
mutual
noncomputable def Tree.satB (g : List (List Int)) (n : Nat) (L : List Int) (t : Tree) : List Bool := match t with
  | .mk k v l => opB g n L k v (Tree.satBs g n L l)
noncomputable def Tree.satBs (g : List (List Int)) (n : Nat) (L : List Int) (l : List Tree) : List (List Bool) := match l with
  | [] => []
  | t :: r => Tree.satB g n L t :: Tree.satBs g n L r
end
theorem Tree.satBs_eq (g : List (List Int)) (n : Nat) (L : List Int) (l : List Tree) : Tree.satBs g n L l = l.map (Tree.satB g n L) := by
  induction l with
  | nil => simp [Tree.satBs]
  | cons t l ih => simp [Tree.satBs, ih]
theorem Tree.satB_eq (g : List (List Int)) (n : Nat) (L : List Int) (t : Tree) : t.satB g n L = opB g n L t.kind t.val (t.kids.map (Tree.satB g n L)) := by
  cases t; simp only [Tree.satB, Tree.satBs_eq, Tree.kind, Tree.val, Tree.kids]
theorem Tree.satB_len {g : List (List Int)} {n : Nat} (hr : ∀ r ∈ g, InN n r) (L : List Int) (t : Tree) : (t.satB g n L).length = n := by
  rw [Tree.satB_eq]; exact opB_len hr _ _ _ _

/-- the reference's until begins at the goal -/
theorem Way.goal {g : List (List Int)} {ev : Bool} {a b : List Bool} {n : Nat} (hb : b.length = n) : Way false (unH g ev a b) n b := by
  refine ⟨hb, fun T hT h i hi => ?_, fun i hi => ?_⟩
  · have := h i hi
    unfold unH ordB at this
    unfold ordB
    revert this
    cases gB b i <;> cases gB T i <;> simp
  · unfold unH ordB
    cases gB b i <;> simp
/-- the reference's always begins at what holds now -/
theorem Way.now {g : List (List Int)} {ev : Bool} {a : List Bool} {n : Nat} (ha : a.length = n) : Way true (alH g ev a) n a := by
  refine ⟨ha, fun T hT h i hi => ?_, fun i hi => ?_⟩
  · have := h i hi
    unfold alH ordB at this
    unfold ordB
    revert this
    cases gB a i <;> cases gB T i <;> simp
  · unfold alH ordB
    cases gB a i <;> simp
end Go.Gl

/- Laws of branching time. -/
namespace Go.Gl
def notL (n : Nat) (S : List Bool) : List Bool := (List.range n).map fun i => !gB S i
theorem notL_len (n : Nat) (S : List Bool) : (notL n S).length = n := by simp [notL]
theorem gB_map {n i : Nat} (f : Nat → Bool) (h : i < n) : gB ((List.range n).map f) i = f i := by
  unfold gB
  rw [getD_at (by simpa using h)]; simp
theorem gB_not {n i : Nat} (S : List Bool) (h : i < n) : gB (notL n S) i = !gB S i := gB_map _ h
theorem listB_ext {n : Nat} {S T : List Bool} (h1 : S.length = n) (h2 : T.length = n) (h : ∀ i, i < n → gB S i = gB T i) : S = T := by
  apply List.ext_getElem (by rw [h1, h2])
  intro i a b
  have := h i (by omega)
  unfold gB at this
  rwa [getD_at a, getD_at b] at this
theorem notL_notL {n : Nat} {S : List Bool} (h : S.length = n) : notL n (notL n S) = S :=
  listB_ext (notL_len _ _) h fun i hi => by rw [gB_not _ hi, gB_not _ hi, Bool.not_not]
theorem rowInN {g : List (List Int)} {n : Nat} (hr : ∀ r ∈ g, InN n r) (i : Nat) : InN n (g.getD i []) := by
  by_cases hi : i < g.length
  · rw [getD_at hi]; exact hr _ (List.getElem_mem _)
  · rw [List.getD_eq_getElem?_getD, List.getElem?_eq_none (by omega)]; intro x hx; cases hx
theorem nxB_not {g : List (List Int)} {n : Nat} (hr : ∀ r ∈ g, InN n r) (ev : Bool) (i : Nat) (S : List Bool) : nxB g ev i (notL n S) = !nxB g (!ev) i S := by
  have hrow := rowInN hr i
  unfold nxB
  generalize g.getD i [] = row at hrow
  have key : ∀ row : List Int, InN n row → (row.all fun t => gB (notL n S) t.toNat) = !(row.any fun t => gB S t.toNat) ∧ (row.any fun t => gB (notL n S) t.toNat) = !(row.all fun t => gB S t.toNat) := by
    intro row
    induction row with
    | nil => exact fun _ => ⟨rfl, rfl⟩
    | cons x r ih =>
      intro hrow
      obtain ⟨h1, h2⟩ := ih fun y hy => hrow y (by simp [hy])
      have h3 := hrow x (by simp)
      have h4 := gB_not S (show x.toNat < n by omega)
      simp only [List.all_cons, List.any_cons, h1, h2, h4]
      exact ⟨by simp, by simp⟩
  cases ev
  · simpa using (key row hrow).2
  · simpa using (key row hrow).1
theorem ord_not {s a b : Bool} : ordB (!s) (!a) (!b) ↔ ordB s a b := by
  unfold ordB; cases s <;> cases a <;> cases b <;> simp
theorem lim_dual {s : Bool} {H K : Nat → List Bool → Bool} {n : Nat} (hm : MonoB s H n) (hk : ∀ i X, i < n → X.length = n → K i (notL n X) = !H i X) : lim (!s) K n = notL n (lim s H n) := by
  obtain ⟨R, hR⟩ := lim_ex hm _ _ (Way.start (s := s) (H := H) (n := n)) (Nat.le_refl _)
  rw [lim_eq hR]
  refine lim_eq ⟨notL_len _ _, fun i hi => ?_, fun T hT h i hi => ?_⟩
  · rw [gB_not _ hi, hk i R hi hR.len, hR.fix i hi]
  · have := hR.least (notL n T) (notL_len _ _) (fun j hj => by
      have h1 := h j hj
      rw [← notL_notL hT, hk j _ hj (notL_len _ _), gB_not _ hj, ord_not] at h1
      exact h1) i hi
    rw [gB_not _ hi] at this
    rw [gB_not _ hi]
    exact ord_not.1 (by rwa [Bool.not_not, Bool.not_not])
theorem lim_fix {s : Bool} {H : Nat → List Bool → Bool} {n : Nat} (hm : MonoB s H n) {i : Nat} (hi : i < n) : gB (lim s H n) i = H i (lim s H n) := by
  obtain ⟨R, hR⟩ := lim_ex hm _ _ (Way.start (s := s) (H := H) (n := n)) (Nat.le_refl _)
  rw [lim_eq hR]; exact hR.fix i hi
theorem lim_mono {s : Bool} {H K : Nat → List Bool → Bool} {n : Nat} (hm : MonoB s H n) (hk : MonoB s K n) (h : ∀ i X, i < n → X.length = n → ordB s (H i X) (K i X)) {i : Nat} (hi : i < n) : ordB s (gB (lim s H n) i) (gB (lim s K n) i) := by
  obtain ⟨R, hR⟩ := lim_ex hm _ _ (Way.start (s := s) (H := H) (n := n)) (Nat.le_refl _)
  rw [lim_eq hR]
  exact hR.least _ (lim_len hk) (fun j hj => by rw [lim_fix hk hj]; exact h j _ hj (lim_len hk)) i hi

/-! the operators -/
section
variable {g : List (List Int)} {n : Nat} (L : List Int)
theorem sat_next (t : Tree) (v : Int) (i : Nat) (hi : i < n) : gB ((Tree.mk 6 v [t]).satB g n L) i = nxB g false i (t.satB g n L) := by
  rw [Tree.satB_eq]; exact gB_map _ hi
theorem sat_nextE (t : Tree) (v : Int) (i : Nat) (hi : i < n) : gB ((Tree.mk 9 v [t]).satB g n L) i = nxB g true i (t.satB g n L) := by
  rw [Tree.satB_eq]; exact gB_map _ hi
theorem sat_not (t : Tree) (v : Int) : (Tree.mk 3 v [t]).satB g n L = notL n (t.satB g n L) := by
  rw [Tree.satB_eq]; rfl
theorem sat_true (v : Int) (i : Nat) (hi : i < n) : gB ((Tree.mk 1 v []).satB g n L) i = true := by
  rw [Tree.satB_eq]; exact gB_map _ hi
theorem sat_and (t u : Tree) (v : Int) (i : Nat) (hi : i < n) : gB ((Tree.mk 4 v [t, u]).satB g n L) i = (gB (t.satB g n L) i && gB (u.satB g n L) i) := by
  rw [Tree.satB_eq]; exact gB_map _ hi
theorem sat_or (t u : Tree) (v : Int) (i : Nat) (hi : i < n) : gB ((Tree.mk 5 v [t, u]).satB g n L) i = (gB (t.satB g n L) i || gB (u.satB g n L) i) := by
  rw [Tree.satB_eq]; exact gB_map _ hi
theorem sat_until (t u : Tree) (v : Int) : (Tree.mk 7 v [t, u]).satB g n L = lim false (unH g false (t.satB g n L) (u.satB g n L)) n := by rw [Tree.satB_eq]; rfl
theorem sat_untilE (t u : Tree) (v : Int) : (Tree.mk 10 v [t, u]).satB g n L = lim false (unH g true (t.satB g n L) (u.satB g n L)) n := by rw [Tree.satB_eq]; rfl
theorem sat_always (t : Tree) (v : Int) : (Tree.mk 8 v [t]).satB g n L = lim true (alH g false (t.satB g n L)) n := by rw [Tree.satB_eq]; rfl
theorem sat_alwaysE (t : Tree) (v : Int) : (Tree.mk 11 v [t]).satB g n L = lim true (alH g true (t.satB g n L)) n := by rw [Tree.satB_eq]; rfl

variable (hr : ∀ r ∈ g, InN n r)
include hr
/-- on every path now and always: there is no path to the contrary -/
theorem dual_always (t : Tree) (a b c d : Int) {i : Nat} (hi : i < n) : gB ((Tree.mk 11 a [t]).satB g n L) i = !gB ((Tree.mk 7 b [.mk 1 c [], .mk 3 d [t]]).satB g n L) i := by
  rw [sat_alwaysE, sat_until, sat_not]
  have := lim_dual (alH_mono (s := true) (ev := true) hr (t.satB g n L)) (K := unH g false ((Tree.mk 1 c []).satB g n L) (notL n (t.satB g n L))) (fun i X hi hX => by
    unfold unH alH
    rw [gB_not _ hi, sat_true L _ i hi, nxB_not hr]
    cases gB (t.satB g n L) i <;> simp)
  rw [show (!true) = false from rfl] at this
  rw [this, gB_not _ hi, Bool.not_not]
theorem dual_next (t : Tree) (a b c : Int) {i : Nat} (hi : i < n) : gB ((Tree.mk 9 a [t]).satB g n L) i = !gB ((Tree.mk 6 b [.mk 3 c [t]]).satB g n L) i := by
  rw [sat_nextE L _ _ i hi, sat_next L _ _ i hi, sat_not, nxB_not hr, Bool.not_not]; rfl
theorem dual_eventually (t : Tree) (a b c d : Int) {i : Nat} (hi : i < n) : gB ((Tree.mk 10 a [.mk 1 b [], t]).satB g n L) i = !gB ((Tree.mk 8 c [.mk 3 d [t]]).satB g n L) i := by
  rw [sat_untilE, sat_always, sat_not]
  have := lim_dual (unH_mono (s := false) (ev := true) hr ((Tree.mk 1 b []).satB g n L) (t.satB g n L)) (K := alH g false (notL n (t.satB g n L))) (fun i X hi hX => by
    unfold unH alH
    rw [gB_not _ hi, sat_true L _ i hi, nxB_not hr]
    cases gB (t.satB g n L) i <;> simp)
  rw [show (!false) = true from rfl] at this
  rw [this, gB_not _ hi, Bool.not_not]
theorem until_weaker (t u : Tree) (a b c : Int) {i : Nat} (hi : i < n) (h : gB ((Tree.mk 10 a [.mk 1 b [], t]).satB g n L) i = true) : gB ((Tree.mk 10 a [.mk 1 b [], .mk 5 c [t, u]]).satB g n L) i = true := by
  rw [sat_untilE] at h ⊢
  have := lim_mono (unH_mono (s := false) (ev := true) hr ((Tree.mk 1 b []).satB g n L) (t.satB g n L)) (unH_mono (s := false) (ev := true) hr ((Tree.mk 1 b []).satB g n L) ((Tree.mk 5 c [t, u]).satB g n L)) (fun i X hi hX => by
    unfold unH
    rw [sat_or L _ _ _ i hi]
    refine ord_or ?_ (ordB.refl _ _)
    unfold ordB
    cases gB (t.satB g n L) i <;> cases gB (u.satB g n L) i <;> simp) hi
  rcases this with e | e
  · rw [← e]; exact h
  · rw [h] at e; cases e
/-- expansion -/
theorem exp_until (t u : Tree) (v : Int) {i : Nat} (hi : i < n) : gB ((Tree.mk 7 v [t, u]).satB g n L) i = (gB (u.satB g n L) i || (gB (t.satB g n L) i && nxB g false i ((Tree.mk 7 v [t, u]).satB g n L))) := by
  rw [sat_until]; exact lim_fix (unH_mono hr _ _) hi
theorem exp_untilE (t u : Tree) (v : Int) {i : Nat} (hi : i < n) : gB ((Tree.mk 10 v [t, u]).satB g n L) i = (gB (u.satB g n L) i || (gB (t.satB g n L) i && nxB g true i ((Tree.mk 10 v [t, u]).satB g n L))) := by
  rw [sat_untilE]; exact lim_fix (unH_mono hr _ _) hi
theorem exp_always (t : Tree) (v : Int) {i : Nat} (hi : i < n) : gB ((Tree.mk 8 v [t]).satB g n L) i = (gB (t.satB g n L) i && nxB g false i ((Tree.mk 8 v [t]).satB g n L)) := by
  rw [sat_always]; exact lim_fix (alH_mono hr _) hi
theorem exp_alwaysE (t : Tree) (v : Int) {i : Nat} (hi : i < n) : gB ((Tree.mk 11 v [t]).satB g n L) i = (gB (t.satB g n L) i && nxB g true i ((Tree.mk 11 v [t]).satB g n L)) := by
  rw [sat_alwaysE]; exact lim_fix (alH_mono hr _) hi
end
end Go.Gl

/- Sequences of draws. -/
namespace Go.Gl
theorem seq_ex {α : Type} (R : Nat → Int → α → Int → Prop) (p0 c : Int) : ∀ (m : Nat), (∀ k p, k < m → p0 ≤ p → p ≤ p0 + c * k → ∃ a p', R k p a p' ∧ p ≤ p' ∧ p' ≤ p + c) →
    ∃ (l : List α) (pf : Nat → Int), l.length = m ∧ pf 0 = p0 ∧ (∀ k (hk : k < l.length), R k (pf k) l[k] (pf (k + 1))) ∧ ∀ k, k ≤ m → p0 ≤ pf k ∧ pf k ≤ p0 + c * k := by
  intro m
  induction m with
  | zero =>
    intro _
    refine ⟨[], fun _ => p0, rfl, rfl, fun k hk => by simp at hk, fun k hk => ?_⟩
    have : k = 0 := by omega
    subst this; simp
  | succ m ih =>
    intro h
    obtain ⟨l, pf, h1, h2, h3, h4⟩ := ih fun k p hk => h k p (by omega)
    have h5 := h4 m (Nat.le_refl _)
    obtain ⟨a, p', h6, h7, h8⟩ := h m (pf m) (by omega) h5.1 h5.2
    refine ⟨l ++ [a], fun k => if k ≤ m then pf k else p', by simp [h1], by simp [h2], fun k hk => ?_, fun k hk => ?_⟩
    · by_cases hkm : k < m
      · simp only [if_pos (show k ≤ m by omega), if_pos (show k + 1 ≤ m by omega)]
        rw [List.getElem_append_left (by omega)]
        exact h3 k (by omega)
      · have : k = m := by simp at hk; omega
        subst this
        simp only [if_pos (Nat.le_refl _), if_neg (show ¬(k + 1 ≤ k) by omega)]
        rw [List.getElem_append_right (by omega)]
        simpa [h1] using h6
    · by_cases hkm : k ≤ m
      · simp only [if_pos hkm]; exact h4 k hkm
      · have : k = m + 1 := by omega
        subst this
        simp only [if_neg hkm]
        rw [show ((m + 1 : Nat) : Int) = m + 1 by omega, Int.mul_add]
        omega
end Go.Gl

/- More on what tells less. -/
namespace Go.Gl
theorem bool_le {a b : Bool} (h : a = b) : LocLe (.bool a) (.bool b) := h ▸ LocLe.refl _
end Go.Gl

/- Ghost logic, part V: what reads as data of a type, is a value of a Lean type. -/
namespace Go.Gl
open Go.RowKit Go.WideShapes Go.ChangeShapes
variable {P : Program}

def OpensD {α : Type} (P : Program) (t : TypeId) (enc : α → List AC) (ok : α → Prop) : Prop := ∀ k, Opens P t (fun xs => ∃ a, xs = enc a ∧ ok a) k

theorem od_int {t : TypeId} (ht : P.underlying t = some (.int .i64)) {enc : Int → List AC} (he : ∀ n, enc n = [.int n]) : OpensD P t enc (fun n => (Lit.int .i64 n).wf = true) := fun k =>
  (opens_int ht k).imp fun xs ⟨n, h1, h2⟩ => ⟨n, h1.trans (he n).symm, h2⟩
theorem od_byte {t : TypeId} (ht : P.underlying t = some (.int .u8)) {enc : Int → List AC} (he : ∀ n, enc n = [.raw (.int .u8 n)]) : OpensD P t enc (fun n => (Lit.int .u8 n).wf = true) := fun k =>
  (opens_int ht k).imp fun xs ⟨n, h1, h2⟩ => ⟨n, h1.trans (he n).symm, h2⟩
theorem od_bool {t : TypeId} (ht : P.underlying t = some .bool) {enc : Bool → List AC} (he : ∀ n, enc n = [.bool n]) : OpensD P t enc (fun _ => True) := fun k =>
  (opens_bool ht k).imp fun xs ⟨n, h1⟩ => ⟨n, h1.trans (he n).symm, trivial⟩

theorem choose_map {α : Type} {enc : α → List AC} {ok : α → Prop} : (es : List (List AC)) → (∀ y ∈ es, ∃ a, y = enc a ∧ ok a) → ∃ l : List α, es = l.map enc ∧ ∀ a ∈ l, ok a
  | [], _ => ⟨[], rfl, fun _ h => by cases h⟩
  | e :: es, h => by
    obtain ⟨a, h1, h2⟩ := h e (by simp)
    obtain ⟨l, h3, h4⟩ := choose_map es fun y hy => h y (by simp [hy])
    exact ⟨a :: l, by rw [h1, h3]; rfl, fun b hb => by
      rcases List.mem_cons.1 hb with rfl | hb
      · exact h2
      · exact h4 b hb⟩

theorem opens_list {α : Type} {t e : TypeId} {enc : α → List AC} {ok : α → Prop} {n k : Nat} (ht : P.underlying t = some (.slice e)) (hc : P.cellsOf e = n) (hn : 0 < n) (h : Opens P e (fun xs => ∃ a, xs = enc a ∧ ok a) k) :
    Opens P t (fun xs => ∃ l : List α, xs = [.list n l.length (l.map enc)] ∧ l.length ≤ maxLen ∧ ∀ a ∈ l, ok a) (k + 1) :=
  (opens_slice ht hc hn h).imp fun xs ⟨es, h1, h2, h3⟩ => by
    obtain ⟨l, rfl, h4⟩ := choose_map es h3
    exact ⟨l, by rw [h1]; simp, by simpa using h2, h4⟩

theorem od_list {α : Type} {t e : TypeId} {enc : α → List AC} {ok : α → Prop} (n : Nat) (ht : P.underlying t = some (.slice e)) (hc : P.cellsOf e = n) (hn : 0 < n) (h : OpensD P e enc ok) {encL : List α → List AC} (he : ∀ l, encL l = [.list n l.length (l.map enc)]) :
    OpensD P t encL (fun l => l.length ≤ maxLen ∧ ∀ a ∈ l, ok a)
  | 0 => opens_zero
  | k + 1 => (opens_list ht hc hn (h k)).imp fun xs ⟨l, h1, h2⟩ => ⟨l, h1.trans (he l).symm, h2⟩

theorem OpensD.imp {α β : Type} {t : TypeId} {enc : α → List AC} {ok : α → Prop} {enc' : β → List AC} {ok' : β → Prop} (h : OpensD P t enc ok) (hi : ∀ a, ok a → ∃ b, enc a = enc' b ∧ ok' b) : OpensD P t enc' ok' := fun k =>
  (h k).imp fun xs ⟨a, h1, h2⟩ => by
    obtain ⟨b, h3, h4⟩ := hi a h2
    exact ⟨b, h1.trans h3, h4⟩

theorem od_struct1 {α γ : Type} {t : TypeId} {F1 : Field} {e1 : α → List AC} {ok1 : α → Prop} {enc : γ → List AC} (mk : α → γ) (ht : P.underlying t = some (.struct #[F1])) (o1 : F1.offset = 0) (hs : P.cellsOf F1.type + 0 = P.cellsOf t)
    (h1 : OpensD P F1.type e1 ok1) (he : ∀ a, enc (mk a) = e1 a ++ []) : OpensD P t enc (fun x => ∃ a, x = mk a ∧ ok1 a)
  | 0 => opens_zero
  | k + 1 => opens_struct (fs := [F1]) ht (by simpa using hs) ⟨o1, _, _, h1 k, rfl (a := ([] : List AC)), by
      rintro _ _ ⟨a, rfl, h⟩ rfl
      exact ⟨mk a, (he a).symm, a, rfl, h⟩⟩

theorem od_struct2 {α β γ : Type} {t : TypeId} {F1 F2 : Field} {e1 : α → List AC} {ok1 : α → Prop} {e2 : β → List AC} {ok2 : β → Prop} {enc : γ → List AC} (mk : α → β → γ) (ht : P.underlying t = some (.struct #[F1, F2])) (o1 : F1.offset = 0) (o2 : F2.offset = 0 + P.cellsOf F1.type) (hs : P.cellsOf F1.type + (P.cellsOf F2.type + 0) = P.cellsOf t)
    (h1 : OpensD P F1.type e1 ok1) (h2 : OpensD P F2.type e2 ok2) (he : ∀ a b, enc (mk a b) = e1 a ++ (e2 b ++ [])) : OpensD P t enc (fun x => ∃ a b, x = mk a b ∧ ok1 a ∧ ok2 b)
  | 0 => opens_zero
  | k + 1 => opens_struct (fs := [F1, F2]) ht (by simpa using hs) ⟨o1, _, (fun xs => ∃ b, xs = e2 b ++ [] ∧ ok2 b), h1 k, ⟨o2, _, _, h2 k, rfl (a := ([] : List AC)), by
      rintro _ _ ⟨b, rfl, h⟩ rfl
      exact ⟨b, rfl, h⟩⟩, by
      rintro _ _ ⟨a, rfl, h⟩ ⟨b, rfl, h'⟩
      exact ⟨mk a b, (he a b).symm, a, b, rfl, h, h'⟩⟩

theorem od_struct3 {α β γ δ : Type} {t : TypeId} {F1 F2 F3 : Field} {e1 : α → List AC} {ok1 : α → Prop} {e2 : β → List AC} {ok2 : β → Prop} {e3 : γ → List AC} {ok3 : γ → Prop} {enc : δ → List AC} (mk : α → β → γ → δ) (ht : P.underlying t = some (.struct #[F1, F2, F3])) (o1 : F1.offset = 0) (o2 : F2.offset = 0 + P.cellsOf F1.type) (o3 : F3.offset = 0 + P.cellsOf F1.type + P.cellsOf F2.type)
    (hs : P.cellsOf F1.type + (P.cellsOf F2.type + (P.cellsOf F3.type + 0)) = P.cellsOf t) {k : Nat}
    (h1 : Opens P F1.type (fun xs => ∃ a, xs = e1 a ∧ ok1 a) k) (h2 : Opens P F2.type (fun xs => ∃ a, xs = e2 a ∧ ok2 a) k) (h3 : Opens P F3.type (fun xs => ∃ a, xs = e3 a ∧ ok3 a) k) (he : ∀ a b c, enc (mk a b c) = e1 a ++ (e2 b ++ (e3 c ++ []))) : Opens P t (fun xs => ∃ x, xs = enc x ∧ ∃ a b c, x = mk a b c ∧ ok1 a ∧ ok2 b ∧ ok3 c) (k + 1) :=
  opens_struct (fs := [F1, F2, F3]) ht (by simpa using hs) ⟨o1, _, (fun xs => ∃ b c, xs = e2 b ++ (e3 c ++ []) ∧ ok2 b ∧ ok3 c), h1, ⟨o2, _, (fun xs => ∃ b, xs = e3 b ++ [] ∧ ok3 b), h2, ⟨o3, _, _, h3, rfl (a := ([] : List AC)), by
      rintro _ _ ⟨b, rfl, h⟩ rfl
      exact ⟨b, rfl, h⟩⟩, by
      rintro _ _ ⟨b, rfl, h⟩ ⟨c, rfl, h'⟩
      exact ⟨b, c, rfl, h, h'⟩⟩, by
      rintro _ _ ⟨a, rfl, h⟩ ⟨b, c, rfl, h', h''⟩
      exact ⟨mk a b c, (he a b c).symm, a, b, c, rfl, h, h', h''⟩⟩

theorem OpensD.of_succ {α : Type} {t : TypeId} {enc : α → List AC} {ok : α → Prop} (h : ∀ k, Opens P t (fun xs => ∃ a, xs = enc a ∧ ok a) (k + 1)) : OpensD P t enc ok
  | 0 => opens_zero
  | k + 1 => h k

theorem od_struct4 {α β γ δ ε : Type} {t : TypeId} {F1 F2 F3 F4 : Field} {e1 : α → List AC} {ok1 : α → Prop} {e2 : β → List AC} {ok2 : β → Prop} {e3 : γ → List AC} {ok3 : γ → Prop} {e4 : δ → List AC} {ok4 : δ → Prop} {enc : ε → List AC} (mk : α → β → γ → δ → ε) (ht : P.underlying t = some (.struct #[F1, F2, F3, F4])) (o1 : F1.offset = 0) (o2 : F2.offset = 0 + P.cellsOf F1.type) (o3 : F3.offset = 0 + P.cellsOf F1.type + P.cellsOf F2.type)
    (o4 : F4.offset = 0 + P.cellsOf F1.type + P.cellsOf F2.type + P.cellsOf F3.type) (hs : P.cellsOf F1.type + (P.cellsOf F2.type + (P.cellsOf F3.type + (P.cellsOf F4.type + 0))) = P.cellsOf t) {k : Nat}
    (h1 : Opens P F1.type (fun xs => ∃ a, xs = e1 a ∧ ok1 a) k) (h2 : Opens P F2.type (fun xs => ∃ a, xs = e2 a ∧ ok2 a) k) (h3 : Opens P F3.type (fun xs => ∃ a, xs = e3 a ∧ ok3 a) k) (h4 : Opens P F4.type (fun xs => ∃ a, xs = e4 a ∧ ok4 a) k) (he : ∀ a b c d, enc (mk a b c d) = e1 a ++ (e2 b ++ (e3 c ++ (e4 d ++ [])))) : Opens P t (fun xs => ∃ x, xs = enc x ∧ ∃ a b c d, x = mk a b c d ∧ ok1 a ∧ ok2 b ∧ ok3 c ∧ ok4 d) (k + 1) :=
  opens_struct (fs := [F1, F2, F3, F4]) ht (by simpa using hs) ⟨o1, _, (fun xs => ∃ b c d, xs = e2 b ++ (e3 c ++ (e4 d ++ [])) ∧ ok2 b ∧ ok3 c ∧ ok4 d), h1, ⟨o2, _, (fun xs => ∃ c d, xs = e3 c ++ (e4 d ++ []) ∧ ok3 c ∧ ok4 d), h2, ⟨o3, _, (fun xs => ∃ b, xs = e4 b ++ [] ∧ ok4 b), h3, ⟨o4, _, _, h4, rfl (a := ([] : List AC)), by
      rintro _ _ ⟨b, rfl, h⟩ rfl
      exact ⟨b, rfl, h⟩⟩, by
      rintro _ _ ⟨b, rfl, h⟩ ⟨c, rfl, h'⟩
      exact ⟨b, c, rfl, h, h'⟩⟩, by
      rintro _ _ ⟨b, rfl, h⟩ ⟨c, d, rfl, h'⟩
      exact ⟨b, c, d, rfl, h, h'⟩⟩, by
      rintro _ _ ⟨a, rfl, h⟩ ⟨b, c, d, rfl, h'⟩
      exact ⟨mk a b c d, (he a b c d).symm, a, b, c, d, rfl, h, h'⟩⟩

/-- an argument -/
def ArgD {α : Type} (P : Program) (t : TypeId) (enc : α → AC) (ok : α → Prop) : Prop := ArgOk P t fun x _ => ∃ a, x = enc a ∧ ok a

theorem ArgOk.imp {t : TypeId} {R R' : AC → Nat → Prop} (h : ArgOk P t R) (hi : ∀ x m, R x m → R' x m) : ArgOk P t R' := fun H enc b hB W r b0 v d ps hv hk => by
  obtain ⟨x, m, h1, h2⟩ := h H enc b hB W r b0 v d ps hv hk
  exact ⟨x, m, hi _ _ h1, h2⟩

theorem argD_list {α : Type} {t e : TypeId} {enc : α → List AC} {ok : α → Prop} {enc1 : α → AC} (ht : P.underlying t = some (.slice e)) (h : OpensD P t enc ok) (he : ∀ a, enc a = [enc1 a]) : ArgD P t enc1 ok :=
  (argOk_slice ht h).imp fun x m ⟨⟨a, h1, h2⟩, _⟩ => ⟨a, by rw [he] at h1; exact (List.cons.inj h1).1, h2⟩
theorem argD_struct {α : Type} {t : TypeId} {fs : Array Field} {enc : α → List AC} {ok : α → Prop} (ht : P.underlying t = some (.struct fs)) (h : OpensD P t enc ok) : ArgD P t (fun a => .agg (enc a)) ok :=
  (argOk_struct ht h).imp fun x m ⟨xs, h1, ⟨a, h2, h3⟩, _⟩ => ⟨a, by rw [h1, h2], h3⟩
theorem argD_int {t : TypeId} (ht : P.underlying t = some (.int .i64)) : ArgD P t (fun n : Int => .int n) (fun n => (Lit.int .i64 n).wf = true) :=
  (argOk_int ht).imp fun x m ⟨n, h1, h2, _⟩ => ⟨n, h1, h2⟩
theorem argD_bool {t : TypeId} (ht : P.underlying t = some .bool) : ArgD P t (fun n : Bool => .bool n) (fun _ => True) :=
  (argOk_bool ht).imp fun x m ⟨n, h1, _⟩ => ⟨n, h1, trivial⟩
theorem ArgD.imp {α β : Type} {t : TypeId} {enc : α → AC} {ok : α → Prop} {enc' : β → AC} {ok' : β → Prop} (h : ArgD P t enc ok) (hi : ∀ a, ok a → ∃ b, enc a = enc' b ∧ ok' b) : ArgD P t enc' ok' :=
  ArgOk.imp h fun x m ⟨a, h1, h2⟩ => by
    obtain ⟨b, h3, h4⟩ := hi a h2
    exact ⟨b, h1.trans h3, h4⟩

theorem ArgsOk.imp : {ts : List TypeId} → {R R' : List AC → Nat → Prop} → ArgsOk P ts R → (∀ xs m, R xs m → R' xs m) → ArgsOk P ts R'
  | [], _, _, h, hi => hi _ _ h
  | _ :: _, _, _, ⟨R1, R2, h1, h2, h3⟩, hi => ⟨R1, R2, h1, h2, fun a m as n ha has => hi _ _ (h3 a m as n ha has)⟩
theorem args_nil : ArgsOk P [] (fun xs _ => xs = []) := rfl
theorem args_cons {α : Type} {t : TypeId} {ts : List TypeId} {enc : α → AC} {ok : α → Prop} {R : List AC → Prop} (h : ArgD P t enc ok) (k : ArgsOk P ts (fun xs _ => R xs)) : ArgsOk P (t :: ts) (fun xs _ => ∃ a ys, xs = enc a :: ys ∧ ok a ∧ R ys) :=
  ⟨_, _, h, k, fun _ _ as _ ⟨b, h1, h2⟩ h3 => ⟨b, as, by rw [h1], h2, h3⟩⟩

theorem bulks_sizeOf {H : Type} : (l : List (DataW H)) → bulks SizeOf.sizeOf l + 1 ≤ SizeOf.sizeOf l
  | [] => by simp [bulks]
  | d :: r => by
    have := bulks_sizeOf r
    simp only [bulks, List.cons.sizeOf_spec]
    omega
theorem bulk_sizeOf {H : Type} : Bulk (H := H) SizeOf.sizeOf where
  lit l := by simp only [DataW.lit.sizeOf_spec]; omega
  nil := by simp
  slice es sp := by
    have := bulks_sizeOf es
    simp only [DataW.slice.sizeOf_spec]; omega
  agg ps := by
    have := bulks_sizeOf ps
    simp only [DataW.agg.sizeOf_spec]; omega
end Go.Gl

