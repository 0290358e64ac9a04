/- A part of the proofs over this program: D25, D26, D28, D29, D30, D32, D27, D31, D33, D13, GlV. -/
import Derived.Test.YtknlmbniicacmaaGreatG0
import Derived.Test.YtknlmbniicacmaaGreatG1
import Derived.Test.YtknlmbniicacmaaGreatG2
set_option linter.all false
/- Breadth first search with predecessors; the way back. -/
namespace Go.Gl
def visP (u : Int) (x : List Int × List Int) (v : Int) : List Int × List Int := if v ∈ x.1 then x else (x.1 ++ [v], x.2.set v.toNat u)
def visPs (u : Int) (x : List Int × List Int) (l : List Int) : List Int × List Int := l.foldl (visP u) x
theorem visP_new {u : Int} {x : List Int × List Int} {v : Int} (h : v ∉ x.1) : visP u x v = (x.1 ++ [v], x.2.set v.toNat u) := by unfold visP; rw [if_neg h]
theorem visP_old {u : Int} {x : List Int × List Int} {v : Int} (h : v ∈ x.1) : visP u x v = x := by unfold visP; rw [if_pos h]
theorem visPs_take {u : Int} {x : List Int × List Int} {l : List Int} {k : Nat} (h : k < l.length) : visPs u x (l.take (k + 1)) = visP u (visPs u x (l.take k)) l[k] := by
  unfold visPs
  rw [List.take_succ_eq_append_getElem h, List.foldl_append]; rfl
theorem visP_fst (u : Int) (x : List Int × List Int) (v : Int) : (visP u x v).1 = visit x.1 v := by
  unfold visP visit; split <;> rfl
theorem visPs_fst (u : Int) (l : List Int) : ∀ x : List Int × List Int, (visPs u x l).1 = z83 x.1 l := by
  induction l with
  | nil => intro x; rfl
  | cons v l ih =>
    intro x
    show (visPs u (visP u x v) l).1 = z83 (visit x.1 v) l
    rw [ih, visP_fst]
/-- predecessors stand before -/
structure PJ (N : Nat) (x : List Int × List Int) : Prop where
  len : x.2.length = N
  inn : InN N x.1
  nd : x.1.Nodup
  pre : ∀ k (h : k < x.1.length), x.2.getD (x.1[k]).toNat 0 = -1 ∨ ∃ j, ∃ h' : j < x.1.length, j < k ∧ x.2.getD (x.1[k]).toNat 0 = x.1[j]
theorem PJ.visP {N : Nat} {x : List Int × List Int} (h : PJ N x) {i : Nat} (hi : i < x.1.length) {u v : Int} (hu : u = x.1[i]) (hv : 0 ≤ v ∧ v < N) : PJ N (visP u x v) := by
  by_cases hm : v ∈ x.1
  · rw [visP_old hm]; exact h
  · rw [visP_new hm]
    refine ⟨by simp [h.len], fun y hy => ?_, ?_, fun k hk => ?_⟩
    · rcases List.mem_append.1 hy with h1 | h1
      · exact h.inn y h1
      · rw [List.mem_singleton.1 h1]; exact hv
    · rw [List.nodup_append]
      exact ⟨h.nd, by simp, fun a ha b hb => by rintro rfl; rw [List.mem_singleton.1 hb] at ha; exact hm ha⟩
    · have hk' : k < x.1.length + 1 := by simpa using hk
      have hl := h.len
      by_cases hkl : k < x.1.length
      · have e : (x.1 ++ [v])[k] = x.1[k] := List.getElem_append_left hkl
        dsimp only
        rw [e]
        have hne : v ≠ x.1[k] := fun e => hm (e ▸ List.getElem_mem hkl)
        have hin := h.inn _ (List.getElem_mem hkl)
        have e2 : (x.2.set v.toNat u).getD (x.1[k]).toNat 0 = x.2.getD (x.1[k]).toNat 0 := by
          rw [List.getD_eq_getElem?_getD, List.getElem?_set_ne (by omega), ← List.getD_eq_getElem?_getD]
        rw [e2]
        rcases h.pre k hkl with h1 | ⟨j, hj, h1, h2⟩
        · exact .inl h1
        · exact .inr ⟨j, by simp; omega, h1, by rw [h2, List.getElem_append_left hj]⟩
      · obtain rfl : k = x.1.length := by omega
        right
        refine ⟨i, by simp; omega, hi, ?_⟩
        dsimp only
        rw [List.getElem_append_left hi]
        simp only [List.getElem_append_right (Nat.le_refl _), Nat.sub_self, List.getElem_cons_zero]
        rw [z30 (by simp; omega), List.getElem_set_self, hu]
theorem PJ.visPs {N : Nat} {u : Int} (l : List Int) : ∀ {x : List Int × List Int} (_ : PJ N x) {i : Nat} (hi : i < x.1.length) (_ : u = x.1[i]) (_ : InN N l), PJ N (visPs u x l) ∧ ∃ h' : i < (Go.Gl.visPs u x l).1.length, (Go.Gl.visPs u x l).1[i] = u := by
  induction l with
  | nil => intro x h i hi hu hl; exact ⟨h, hi, hu.symm⟩
  | cons v l ih =>
    intro x h i hi hu hl
    have h1 := h.visP hi hu (hl v (by simp))
    obtain ⟨t, ht⟩ := visit_pre x.1 v
    have hf := visP_fst u x v
    rw [ht] at hf
    have hi1 : i < (Go.Gl.visP u x v).1.length := by rw [hf, List.length_append]; omega
    exact ih h1 hi1 (by simp only [hf, List.getElem_append_left hi]; exact hu) fun y hy => hl y (by simp [hy])
def srS (rows : List (List Int)) (ini : List Int) : Nat → List Int × List Int
  | 0 => (ini, List.replicate rows.length (-1))
  | i + 1 => if h : i < (srS rows ini i).1.length then visPs (srS rows ini i).1[i] (srS rows ini i) (rows.getD ((srS rows ini i).1[i]).toNat []) else srS rows ini i
def srQ (rows : List (List Int)) (ini : List Int) : List Int := (srS rows ini rows.length).1
def srP (rows : List (List Int)) (ini : List Int) : List Int := (srS rows ini rows.length).2
section
variable {rows : List (List Int)} {ini : List Int}
theorem srS_PJ (hr : ∀ r ∈ rows, InN rows.length r) (hi : InN rows.length ini) (hn : ini.Nodup) (i : Nat) : PJ rows.length (srS rows ini i) := by
  induction i with
  | zero =>
    refine ⟨by simp [srS], hi, hn, fun k hk => .inl ?_⟩
    have := hi _ (List.getElem_mem hk)
    show (List.replicate rows.length (-1)).getD _ 0 = _
    rw [z30 (by simp; have : (srS rows ini 0).1[k] = ini[k] := rfl; omega)]
    simp
  | succ i ih =>
    rw [srS]; split
    · rename_i h
      exact (PJ.visPs _ ih h rfl (row_in hr _)).1
    · exact ih
theorem visits_nd {l : List Int} : ∀ {out : List Int}, (out ++ l).Nodup → z83 out l = out ++ l := by
  induction l with
  | nil => intro out _; simp [z83]
  | cons v l ih =>
    intro out h
    show z83 (visit out v) l = _
    have hv : v ∉ out := fun hm => by
      rw [List.nodup_append] at h
      exact h.2.2 v hm v (by simp) rfl
    have : visit out v = out ++ [v] := by unfold visit; rw [if_neg hv]
    rw [this, ih (by simpa using h)]
    simp
theorem srS_fst (hn : ini.Nodup) (i : Nat) : (srS rows ini i).1 = bfs rows ini i := by
  induction i with
  | zero =>
    show ini = z83 [] ini
    rw [visits_nd (by simpa using hn)]; rfl
  | succ i ih =>
    rw [srS, bfs]
    by_cases h : i < (srS rows ini i).1.length
    · have h2 : i < (bfs rows ini i).length := by rw [← ih]; exact h
      rw [dif_pos h, dif_pos h2, visPs_fst]
      simp only [ih]
    · have h2 : ¬ i < (bfs rows ini i).length := by rw [← ih]; exact h
      rw [dif_neg h, dif_neg h2, ih]
theorem srS_const {i j : Nat} (h : (srS rows ini i).1.length ≤ i) (hij : i ≤ j) : srS rows ini j = srS rows ini i := by
  induction j with
  | zero => obtain rfl : i = 0 := by omega
            rfl
  | succ j ih =>
    rcases Nat.lt_or_ge j i with h1 | h1
    · obtain rfl : i = j + 1 := by omega
      rfl
    · have e := ih h1
      rw [srS, dif_neg (by rw [e]; omega), e]
theorem srS_len (hr : ∀ r ∈ rows, InN rows.length r) (hi : InN rows.length ini) (hn : ini.Nodup) (i : Nat) : (srS rows ini i).1.length ≤ rows.length :=
  pigeon _ _ (srS_PJ hr hi hn i).nd (srS_PJ hr hi hn i).inn
theorem srS_end {i : Nat} (h : (srS rows ini i).1.length ≤ i) (hil : i ≤ rows.length) : srS rows ini i = (srQ rows ini, srP rows ini) := (srS_const h hil).symm
end
/-- the way back -/
def bkw (P : List Int) : Nat → Int → List Int → List Int
  | 0, v, tl => v :: tl
  | f + 1, v, tl => if 0 ≤ P.getD v.toNat 0 then bkw P f (P.getD v.toNat 0) (v :: tl) else v :: tl
def BackOk (P : List Int) : Nat → Int → Prop
  | 0, v => (0 ≤ v ∧ v < P.length) ∧ P.getD v.toNat 0 < 0
  | f + 1, v => (0 ≤ v ∧ v < P.length) ∧ (P.getD v.toNat 0 < 0 ∨ BackOk P f (P.getD v.toNat 0))
theorem BackOk.up {P : List Int} : ∀ {f : Nat} {v : Int}, BackOk P f v → BackOk P (f + 1) v
  | 0, _, h => ⟨h.1, .inl h.2⟩
  | _ + 1, _, h => ⟨h.1, h.2.imp id fun h => h.up⟩
theorem BackOk.le {P : List Int} {f g : Nat} {v : Int} (h : BackOk P f v) (hg : f ≤ g) : BackOk P g v := by
  induction g with
  | zero => obtain rfl : f = 0 := by omega
            exact h
  | succ g ih =>
    rcases Nat.lt_or_ge g f with h1 | h1
    · obtain rfl : f = g + 1 := by omega
      exact h
    · exact (ih h1).up
theorem PJ.back {N : Nat} {x : List Int × List Int} (h : PJ N x) : ∀ (k : Nat) (hk : k < x.1.length), BackOk x.2 k x.1[k] := by
  intro k
  induction k using Nat.strongRecOn with
  | ind k ih =>
    intro hk
    have hin := h.inn _ (List.getElem_mem hk)
    rw [← h.len] at hin
    rcases h.pre k hk with h1 | ⟨j, hj, h1, h2⟩
    · exact (show BackOk x.2 0 x.1[k] from ⟨hin, by omega⟩).le (Nat.zero_le _)
    · have h3 := (ih j h1 hj).le (show j ≤ k - 1 by omega)
      rw [← h2] at h3
      generalize x.1[k] = v at *
      obtain ⟨m, rfl⟩ : ∃ m, k = m + 1 := ⟨k - 1, by omega⟩
      exact ⟨hin, .inr h3⟩
theorem bkw_len (P : List Int) : ∀ (f : Nat) (v : Int) (tl : List Int), (bkw P f v tl).length ≤ f + 1 + tl.length
  | 0, v, tl => by rw [bkw, List.length_cons]; omega
  | f + 1, v, tl => by
    rw [bkw]; split
    · have := bkw_len P f (P.getD v.toNat 0) (v :: tl)
      simp only [List.length_cons] at this
      omega
    · rw [List.length_cons]; omega
end Go.Gl

/- Cycles and accepted traces, as the document finds them. -/
namespace Go.Gl
def cycT (rows : List (List Int)) (P : List Int) (v : Int) : List Int → List Int
  | [] => []
  | u :: t => if v ∈ rows.getD u.toNat [] then bkw P rows.length u [] else cycT rows P v t
def cycL (rows : List (List Int)) (v : Int) : List Int := if v ∈ rows.getD v.toNat [] then [v] else cycT rows (srP rows [v]) v (srQ rows [v])
def finT (rows : List (List Int)) (acc : List Bool) (P : List Int) : List Int → Option (List Int × List Int)
  | [] => none
  | u :: t => if acc.getD (u % acc.length).toNat false = true then (if 0 < (cycL rows u).length then some (bkw P rows.length u [], cycL rows u) else finT rows acc P t) else finT rows acc P t
def stL (l : List Int) (n : Nat) : List Int := l.map fun x => x / n
def finS (rows : List (List Int)) (ini : List Int) (acc : List Bool) : Option (List Int × List Int) := finT rows acc (srP rows ini) (srQ rows ini)
theorem cycT_len (rows : List (List Int)) (P : List Int) (v : Int) : ∀ l, (cycT rows P v l).length ≤ rows.length + 1
  | [] => Nat.zero_le _
  | u :: t => by
    rw [cycT]; split
    · exact bkw_len _ _ _ _
    · exact cycT_len rows P v t
theorem cycL_len (rows : List (List Int)) (v : Int) : (cycL rows v).length ≤ rows.length + 1 := by
  unfold cycL; split
  · simp
  · exact cycT_len _ _ _ _
theorem bkw_pos (P : List Int) : ∀ (f : Nat) (v : Int) (tl : List Int), 1 ≤ (bkw P f v tl).length
  | 0, v, tl => by rw [bkw, List.length_cons]; omega
  | f + 1, v, tl => by
    rw [bkw]; split
    · exact bkw_pos P f _ _
    · rw [List.length_cons]; omega
theorem bkw_nn {P : List Int} : ∀ (f : Nat) (v : Int) (tl : List Int), 0 ≤ v → (∀ x ∈ tl, 0 ≤ x) → ∀ x ∈ bkw P f v tl, 0 ≤ x
  | 0, v, tl, h0, h, x, hx => by
    rw [bkw] at hx
    rcases List.mem_cons.1 hx with rfl | h1
    · exact h0
    · exact h x h1
  | f + 1, v, tl, h0, h, x, hx => by
    rw [bkw] at hx
    split at hx
    · rename_i h2
      exact bkw_nn f _ _ h2 (fun y hy => by
        rcases List.mem_cons.1 hy with rfl | h1
        · exact h0
        · exact h y h1) x hx
    · rcases List.mem_cons.1 hx with rfl | h1
      · exact h0
      · exact h x h1
theorem cycT_nn (rows : List (List Int)) (P : List Int) (v : Int) : ∀ l : List Int, (∀ x ∈ l, 0 ≤ x) → ∀ x ∈ cycT rows P v l, 0 ≤ x
  | [], _, x, hx => by cases hx
  | u :: t, h, x, hx => by
    rw [cycT] at hx
    split at hx
    · exact bkw_nn _ _ _ (h u (by simp)) (fun y hy => by cases hy) x hx
    · exact cycT_nn rows P v t (fun y hy => h y (by simp [hy])) x hx
theorem srQ_in {rows : List (List Int)} {ini : List Int} (hr : ∀ r ∈ rows, InN rows.length r) (hi : InN rows.length ini) (hn : ini.Nodup) : InN rows.length (srQ rows ini) := (srS_PJ hr hi hn _).inn
theorem srP_len {rows : List (List Int)} {ini : List Int} (hr : ∀ r ∈ rows, InN rows.length r) (hi : InN rows.length ini) (hn : ini.Nodup) : (srP rows ini).length = rows.length := (srS_PJ hr hi hn _).len
theorem srQ_len {rows : List (List Int)} {ini : List Int} (hr : ∀ r ∈ rows, InN rows.length r) (hi : InN rows.length ini) (hn : ini.Nodup) : (srQ rows ini).length ≤ rows.length := srS_len hr hi hn _
theorem srQ_back {rows : List (List Int)} {ini : List Int} (hr : ∀ r ∈ rows, InN rows.length r) (hi : InN rows.length ini) (hn : ini.Nodup) (k : Nat) (hk : k < (srQ rows ini).length) : BackOk (srP rows ini) rows.length (srQ rows ini)[k] :=
  ((srS_PJ hr hi hn rows.length).back k hk).le (by have := srQ_len hr hi hn; omega)
theorem one_in {N : Nat} {v : Int} (h : 0 ≤ v ∧ v < N) : InN N [v] := fun x hx => by rw [List.mem_singleton.1 hx]; exact h
theorem cycL_nn {rows : List (List Int)} (hr : ∀ r ∈ rows, InN rows.length r) {v : Int} (hv : 0 ≤ v ∧ v < rows.length) : ∀ x ∈ cycL rows v, 0 ≤ x := by
  unfold cycL; split
  · intro x hx; rw [List.mem_singleton.1 hx]; exact hv.1
  · exact cycT_nn _ _ _ _ fun x hx => (srQ_in hr (one_in hv) (by simp) x hx).1
theorem visPs_le {M u : Int} (hu : u ≤ M) : ∀ (l : List Int) (x : List Int × List Int), (∀ y ∈ x.2, y ≤ M) → ∀ y ∈ (visPs u x l).2, y ≤ M
  | [], _, h => h
  | v :: l, x, h => by
    refine visPs_le hu l (visP u x v) fun y hy => ?_
    unfold visP at hy
    split at hy
    · exact h y hy
    · rcases List.mem_or_eq_of_mem_set hy with h1 | rfl
      · exact h y h1
      · exact hu
theorem srS_le {rows : List (List Int)} {ini : List Int} (hr : ∀ r ∈ rows, InN rows.length r) (hi : InN rows.length ini) (hn : ini.Nodup) (i : Nat) : ∀ y ∈ (srS rows ini i).2, y ≤ rows.length := by
  induction i with
  | zero =>
    intro y hy
    have := List.eq_of_mem_replicate (show y ∈ List.replicate rows.length (-1) from hy)
    omega
  | succ i ih =>
    rw [srS]; split
    · rename_i h
      have := (srS_PJ hr hi hn i).inn _ (List.getElem_mem h)
      exact visPs_le (by omega) _ _ ih
    · exact ih
theorem bkw_le {P : List Int} {M : Int} (hP : ∀ x ∈ P, x ≤ M) : ∀ (f : Nat) (v : Int) (tl : List Int), v ≤ M → 0 ≤ M → (∀ x ∈ tl, x ≤ M) → ∀ x ∈ bkw P f v tl, x ≤ M
  | 0, v, tl, h0, _, h, x, hx => by
    rw [bkw] at hx
    rcases List.mem_cons.1 hx with rfl | h1
    · exact h0
    · exact h x h1
  | f + 1, v, tl, h0, hM, h, x, hx => by
    have h2 : ∀ y ∈ v :: tl, y ≤ M := fun y hy => by
      rcases List.mem_cons.1 hy with rfl | h1
      · exact h0
      · exact h y h1
    rw [bkw] at hx
    split at hx
    · refine bkw_le hP f _ _ ?_ hM h2 x hx
      by_cases hl : v.toNat < P.length
      · rw [z30 hl]; exact hP _ (List.getElem_mem _)
      · rw [List.getD_eq_getElem?_getD, List.getElem?_eq_none (by omega)]; exact hM
    · exact h2 x hx
theorem cycT_le (rows : List (List Int)) {P : List Int} {M : Int} (hP : ∀ x ∈ P, x ≤ M) (hM : 0 ≤ M) (v : Int) : ∀ l : List Int, (∀ x ∈ l, x ≤ M) → ∀ x ∈ cycT rows P v l, x ≤ M
  | [], _, x, hx => by cases hx
  | u :: t, h, x, hx => by
    rw [cycT] at hx
    split at hx
    · exact bkw_le hP _ _ _ (h u (by simp)) hM (fun y hy => by cases hy) x hx
    · exact cycT_le rows hP hM v t (fun y hy => h y (by simp [hy])) x hx
theorem cycL_le {rows : List (List Int)} (hr : ∀ r ∈ rows, InN rows.length r) {v : Int} (hv : 0 ≤ v ∧ v < rows.length) : ∀ x ∈ cycL rows v, x ≤ rows.length := by
  unfold cycL; split
  · intro x hx; rw [List.mem_singleton.1 hx]; omega
  · exact cycT_le _ (srS_le hr (one_in hv) (by simp) _) (by omega) _ _ fun x hx => by
      have := srQ_in hr (one_in hv) (by simp) x hx
      omega
end Go.Gl

/- Strongly connected components by one search in depth. -/
namespace Go.Gl
structure TS where
  num : Nat → Int
  low : Nat → Int
  part : Nat → Int
  stk : List Nat
  cnt : Nat
  prt : Nat
def tEnter (u : Nat) (s : TS) : TS := { s with num := upd s.num u (s.cnt + 1), low := upd s.low u (s.cnt + 1), stk := s.stk ++ [u], cnt := s.cnt + 1 }
def tLow (u : Nat) (m : Int) (s : TS) : TS := { s with low := upd s.low u (min (s.low u) m) }
def tPop (u : Nat) (s : TS) : TS := { s with part := fun x => if x ∈ s.stk.dropWhile (· != u) then (s.prt : Int) else s.part x, stk := s.stk.takeWhile (· != u), prt := s.prt + 1 }
def tEnd (u : Nat) (s : TS) : TS := if s.low u = s.num u then tPop u s else s
def tEdgeW (rec : Nat → TS → TS) (u : Nat) (s : TS) (v : Int) : TS := if s.num v.toNat = 0 then tLow u ((rec v.toNat s).low v.toNat) (rec v.toNat s) else if s.part v.toNat < 0 then tLow u (s.num v.toNat) s else s
def tVisit (rows : List (List Int)) : Nat → Nat → TS → TS
  | 0, _, s => s
  | f + 1, u, s => tEnd u ((rows.getD u []).foldl (tEdgeW (tVisit rows f) u) (tEnter u s))
def tStart : TS := ⟨fun _ => 0, fun _ => 0, fun _ => -1, [], 0, 0⟩
def tTop (rows : List (List Int)) (s : TS) (u : Nat) : TS := if s.num u = 0 then tVisit rows rows.length u s else s
def tAll (rows : List (List Int)) : TS := (List.range rows.length).foldl (tTop rows) tStart

inductive RN (rows : List (List Int)) (x : Nat) : Nat → Prop
  | refl : RN rows x x
  | step {y z : Nat} : RN rows x y → (z : Int) ∈ rows.getD y [] → RN rows x z
theorem RN.trans {rows : List (List Int)} {x y z : Nat} (h : RN rows x y) (k : RN rows y z) : RN rows x z := by
  induction k with
  | refl => exact h
  | step _ e ih => exact .step ih e
theorem RN.edge {rows : List (List Int)} {x y : Nat} (h : (y : Int) ∈ rows.getD x []) : RN rows x y := .step .refl h
theorem RN.inv {rows : List (List Int)} {p : Nat → Prop} (hp : ∀ x y : Nat, p x → (y : Int) ∈ rows.getD x [] → p y) {x y : Nat} (h : RN rows x y) (hx : p x) : p y := by
  induction h with
  | refl => exact hx
  | step _ e ih => exact hp _ _ ih e

def unvN (N : Nat) (num : Nat → Int) : Nat := ((List.range N).filter fun x => decide (num x = 0)).length

/-- what holds between the steps; g: the nodes whose visit goes on -/
structure TI (rows : List (List Int)) (s : TS) (g : List Nat) : Prop where
  srt : s.stk.Pairwise fun x y => s.num x < s.num y
  stk : ∀ x, x ∈ s.stk ↔ s.num x ≠ 0 ∧ s.part x = -1
  lt : ∀ x, s.num x ≠ 0 → x < rows.length
  nn : ∀ x, 0 ≤ s.num x ∧ s.num x ≤ s.cnt
  pw : ∀ x, s.part x = -1 ∨ (0 ≤ s.part x ∧ s.part x < s.prt)
  unv : ∀ x, s.num x = 0 → s.part x = -1
  gs : ∀ x ∈ g, x ∈ s.stk
  blk : ∀ x y : Nat, s.num x ≠ 0 → x ∉ g → (y : Int) ∈ rows.getD x [] → s.num y ≠ 0
  up : ∀ x ∈ s.stk, ∀ y ∈ s.stk, s.num x ≤ s.num y → RN rows x y
  gr : ∀ y ∈ s.stk, ∃ x ∈ g, s.num x ≤ s.num y ∧ RN rows y x
  cl : ∀ x y : Nat, 0 ≤ s.part x → (y : Int) ∈ rows.getD x [] → 0 ≤ s.part y
  sc : ∀ x y : Nat, 0 ≤ s.part x → (s.part y = s.part x ↔ RN rows x y ∧ RN rows y x)
  ct : s.cnt + unvN rows.length s.num = rows.length

/-- what a visit does -/
structure TP (rows : List (List Int)) (s s' : TS) (g : List Nat) (u : Nat) : Prop where
  inv : TI rows s' g
  keep : ∀ x, s.num x ≠ 0 → s'.num x = s.num x ∧ s'.low x = s.low x ∧ s'.part x = s.part x
  pref : ∃ B, s'.stk = s.stk ++ B
  num : s'.num u = s.cnt + 1
  cnt : s.cnt < s'.cnt
  prt : s'.prt + s.cnt ≤ s.prt + s'.cnt
  low : s'.low u = s'.num u ∨ ∃ y ∈ s'.stk, s'.low u = s'.num y ∧ RN rows u y
  edge : ∀ x ∈ s'.stk, x ∉ s.stk → ∀ y ∈ s.stk, (y : Int) ∈ rows.getD x [] → s'.low u ≤ s.num y

structure TL (rows : List (List Int)) (s0 s : TS) (g : List Nat) (u : Nat) (dn : List Int) : Prop where
  inv : TI rows s (u :: g)
  keep : ∀ x, s0.num x ≠ 0 → s.num x = s0.num x ∧ s.low x = s0.low x ∧ s.part x = s0.part x
  pref : ∃ B, s.stk = s0.stk ++ u :: B
  num : s.num u = s0.cnt + 1
  cnt : s0.cnt < s.cnt
  prt : s.prt + s0.cnt + 1 ≤ s0.prt + s.cnt
  low : ∃ y ∈ s.stk, s.low u = s.num y ∧ RN rows u y
  lown : s.low u ≤ s.num u
  seen : ∀ y ∈ dn, s.num y.toNat ≠ 0
  edge1 : ∀ y ∈ dn, y.toNat ∈ s0.stk → s.low u ≤ s0.num y.toNat
  edge2 : ∀ x ∈ s.stk, x ∉ s0.stk → x ≠ u → ∀ y ∈ s0.stk, (y : Int) ∈ rows.getD x [] → s.low u ≤ s0.num y

section
variable {rows : List (List Int)} {s s' s0 : TS} {g : List Nat} {u v : Nat}

theorem TI.nd (h : TI rows s g) : s.stk.Nodup := h.srt.imp fun {a b} hab he => by rw [he] at hab; omega

theorem unv_upd {N : Nat} {num : Nat → Int} {u : Nat} {n : Int} (hu : u < N) (h0 : num u = 0) (hn : n ≠ 0) : unvN N (upd num u n) + 1 = unvN N num := by
  unfold unvN
  induction N with
  | zero => omega
  | succ N ih =>
    rw [List.range_succ, List.filter_append, List.filter_append, List.length_append, List.length_append]
    by_cases h : u = N
    · subst h
      have e : (List.range u).filter (fun x => decide (upd num u n x = 0)) = (List.range u).filter (fun x => decide (num x = 0)) := by
        refine List.filter_congr fun x hx => ?_
        have := List.mem_range.1 hx
        rw [z50 _ _ (by omega)]
      rw [e]
      simp [z20, h0, hn]
    · have := ih (by omega)
      have e : ([N].filter fun x => decide (upd num u n x = 0)) = ([N].filter fun x => decide (num x = 0)) := by
        simp only [List.filter_cons, List.filter_nil, z50 num n (show N ≠ u by omega)]
      rw [e]
      omega

theorem TI.enter (h : TI rows s g) (hu : s.num u = 0) (hN : u < rows.length) (hg : ∀ x ∈ g, RN rows x u) : TI rows (tEnter u s) (u :: g) := by
  have hus : u ∉ s.stk := fun hm => ((h.stk u).1 hm).1 hu
  have hne : ∀ x ∈ s.stk, x ≠ u := fun x hx e => hus (e ▸ hx)
  have hnum : ∀ x, x ≠ u → (tEnter u s).num x = s.num x := fun x hx => z50 _ _ hx
  have hnu : (tEnter u s).num u = s.cnt + 1 := z20 _ _ _
  have hst : ∀ x, x ∈ (tEnter u s).stk ↔ x ∈ s.stk ∨ x = u := fun x => by simp [tEnter]
  have hnz : ∀ x, s.num x ≠ 0 → (tEnter u s).num x ≠ 0 := fun x hx => by
    by_cases e : x = u
    · subst e; exact absurd hu hx
    · rw [hnum x e]; exact hx
  refine ⟨?_, fun x => ?_, fun x hx => ?_, fun x => ?_, h.pw, fun x hx => ?_, fun x hx => ?_, fun x y hx hxg he => ?_, fun x hx y hy hxy => ?_, fun y hy => ?_, h.cl, h.sc, ?_⟩
  · show (s.stk ++ [u]).Pairwise _
    rw [List.pairwise_append]
    refine ⟨h.srt.imp_of_mem fun ha hb hab => by rw [hnum _ (hne _ ha), hnum _ (hne _ hb)]; exact hab, by simp, fun a ha b hb => ?_⟩
    rw [List.mem_singleton.1 hb, hnum _ (hne a ha), hnu]
    have := (h.nn a).2
    omega
  · rw [hst]
    by_cases e : x = u
    · subst e
      have := (h.nn x).2
      simp only [or_true, true_iff]
      exact ⟨by rw [hnu]; omega, h.unv x hu⟩
    · rw [hnum x e]
      simp only [e, or_false]
      exact h.stk x
  · by_cases e : x = u
    · rw [e]; exact hN
    · rw [hnum x e] at hx; exact h.lt x hx
  · show 0 ≤ (tEnter u s).num x ∧ (tEnter u s).num x ≤ ((s.cnt + 1 : Nat) : Int)
    by_cases e : x = u
    · rw [e, hnu]; omega
    · rw [hnum x e]; have := h.nn x; omega
  · by_cases e : x = u
    · subst e; exact h.unv x hu
    · rw [hnum x e] at hx; exact h.unv x hx
  · rw [hst]
    rcases List.mem_cons.1 hx with e | hx
    · exact .inr e
    · exact .inl (h.gs x hx)
  · have e : x ≠ u := fun e => hxg (by simp [e])
    rw [hnum x e] at hx
    exact hnz y (h.blk x y hx (fun hm => hxg (by simp [hm])) he)
  · rcases (hst x).1 hx with hx1 | rfl
    · rcases (hst y).1 hy with hy1 | rfl
      · rw [hnum _ (hne x hx1), hnum _ (hne y hy1)] at hxy
        exact h.up x hx1 y hy1 hxy
      · obtain ⟨z, hz, _, hr⟩ := h.gr x hx1
        exact hr.trans (hg z hz)
    · rcases (hst y).1 hy with hy | rfl
      · rw [hnu, hnum _ (hne y hy)] at hxy
        have := (h.nn y).2
        omega
      · exact .refl
  · rcases (hst y).1 hy with hy | rfl
    · obtain ⟨z, hz, h1, hr⟩ := h.gr y hy
      exact ⟨z, by simp [hz], by rw [hnum _ (hne y hy), hnum _ (hne z (h.gs z hz))]; exact h1, hr⟩
    · exact ⟨y, by simp, Int.le_refl _, .refl⟩
  · have := unv_upd (num := s.num) (n := s.cnt + 1) hN hu (by omega)
    have h2 := h.ct
    show s.cnt + 1 + unvN rows.length (upd s.num u (s.cnt + 1)) = _
    omega

theorem TI.low {m : Int} (h : TI rows s g) : TI rows (tLow u m s) g := ⟨h.srt, h.stk, h.lt, h.nn, h.pw, h.unv, h.gs, h.blk, h.up, h.gr, h.cl, h.sc, h.ct⟩

theorem TL.start (h : TI rows s g) (hu : s.num u = 0) (hN : u < rows.length) (hg : ∀ x ∈ g, RN rows x u) : TL rows s (tEnter u s) g u [] := by
  have hne : ∀ x, s.num x ≠ 0 → x ≠ u := fun x hx e => hx (e ▸ hu)
  refine ⟨h.enter hu hN hg, fun x hx => ⟨z50 _ _ (hne x hx), z50 _ _ (hne x hx), rfl⟩, ⟨[], rfl⟩, z20 _ _ _, Nat.lt_succ_self _, ?_, ⟨u, by simp [tEnter], ?_, .refl⟩, ?_, by simp, by simp, fun x hx hx2 hxu => ?_⟩
  · show s.prt + s.cnt + 1 ≤ s.prt + (s.cnt + 1); omega
  · show upd s.low u _ u = upd s.num u _ u; rw [z20, z20]
  · show upd s.low u _ u ≤ upd s.num u _ u; rw [z20, z20]; exact Int.le_refl _
  · have : x ∈ s.stk ++ [u] := hx
    rcases List.mem_append.1 this with h1 | h1
    · exact absurd h1 hx2
    · exact absurd (List.mem_singleton.1 h1) hxu

theorem low_at (u : Nat) (m : Int) (s : TS) : (tLow u m s).low u = min (s.low u) m := z20 _ _ _
theorem low_ne {u x : Nat} (m : Int) (s : TS) (h : x ≠ u) : (tLow u m s).low x = s.low x := z50 _ _ h

theorem TL.edge {dn : List Int} {rec : Nat → TS → TS} (h : TL rows s0 s g u dn) (h0 : TI rows s0 g) (hu0 : s0.num u = 0) {v : Int} (hv : v ∈ rows.getD u []) (hvN : 0 ≤ v ∧ v < rows.length)
    (hrec : s.num v.toNat = 0 → TP rows s (rec v.toNat s) (u :: g) v.toNat) : TL rows s0 (tEdgeW rec u s v) g u (dn ++ [v]) := by
  obtain ⟨w, rfl⟩ : ∃ w : Nat, v = w := ⟨v.toNat, by omega⟩
  simp only [Int.toNat_natCast] at hrec
  have hs0 : ∀ x ∈ s0.stk, x ∈ s.stk := fun x hx => by obtain ⟨B, e⟩ := h.pref; rw [e]; simp [hx]
  have hnu : s.num u ≠ 0 := by rw [h.num]; omega
  unfold tEdgeW
  simp only [Int.toNat_natCast]
  by_cases hw : s.num w = 0
  · rw [if_pos hw]
    have hp := hrec hw
    generalize rec w s = s' at *
    obtain ⟨B, hB⟩ := h.pref
    obtain ⟨B', hB'⟩ := hp.pref
    have hls : ∀ x ∈ s.stk, x ∈ s'.stk := fun x hx => by rw [hB']; simp [hx]
    have hku := hp.keep u hnu
    refine ⟨hp.inv.low, fun x hx => ?_, ⟨B ++ B', ?_⟩, ?_, ?_, ?_, ?_, ?_, fun y hy => ?_, fun y hy hy2 => ?_, fun x hx hx2 hxu y hy he => ?_⟩
    · have hxu : x ≠ u := fun e => hx (e ▸ hu0)
      obtain ⟨a1, a2, a3⟩ := h.keep x hx
      obtain ⟨b1, b2, b3⟩ := hp.keep x (by rw [a1]; exact hx)
      exact ⟨b1.trans a1, by rw [low_ne _ _ hxu, b2, a2], b3.trans a3⟩
    · show s'.stk = _; rw [hB', hB]; simp
    · show s'.num u = _; rw [hku.1, h.num]
    · have := h.cnt; have := hp.cnt; show s0.cnt < s'.cnt; omega
    · have := h.prt; have := hp.prt; show s'.prt + s0.cnt + 1 ≤ s0.prt + s'.cnt; omega
    · rw [low_at]
      obtain ⟨y, hy, h1, h2⟩ := h.low
      have hyz : s.num y ≠ 0 := ((h.inv.stk y).1 hy).1
      have hyk := hp.keep y hyz
      rcases Int.le_total (s'.low u) (s'.low w) with hle | hle
      · exact ⟨y, hls y hy, by rw [Int.min_eq_left hle, hku.2.1, h1]; exact hyk.1.symm, h2⟩
      · rcases hp.low with h3 | ⟨z, hz, h3, h4⟩
        · have h5 := hp.num
          have h6 := (h.inv.nn y).2
          refine ⟨y, hls y hy, ?_, h2⟩
          show _ = s'.num y
          rw [hyk.1, ← h1, ← hku.2.1]
          have : s'.low u = s.num y := by rw [hku.2.1, h1]
          omega
        · exact ⟨z, hz, by rw [Int.min_eq_right hle]; exact h3, (RN.edge hv).trans h4⟩
    · rw [low_at]
      have := h.lown
      have e : (tLow u (s'.low w) s').num u = s.num u := hku.1
      rw [e, hku.2.1]; omega
    · rcases List.mem_append.1 hy with hy | hy
      · have h1 := h.seen y hy
        show s'.num _ ≠ 0
        rw [(hp.keep _ h1).1]; exact h1
      · rw [List.mem_singleton.1 hy]
        show s'.num w ≠ 0
        rw [hp.num]; omega
    · rw [low_at]
      rcases List.mem_append.1 hy with hy | hy
      · have := h.edge1 y hy hy2
        rw [hku.2.1]; omega
      · rw [List.mem_singleton.1 hy] at hy2
        have := ((h.inv.stk w).1 (hs0 w hy2)).1
        exact absurd hw this
    · rw [low_at]
      by_cases hxs : x ∈ s.stk
      · have := h.edge2 x hxs hx2 hxu y hy he
        rw [hku.2.1]; omega
      · have h1 := hp.edge x hx hxs y (hs0 y hy) he
        have h2 := (h.keep y ((h0.stk y).1 hy).1).1
        omega
  · rw [if_neg hw]
    have base : ∀ m : Int, (∃ y ∈ s.stk, m = s.num y ∧ RN rows u y) → (w ∈ s0.stk → m ≤ s0.num w) → TL rows s0 (tLow u m s) g u (dn ++ [(w : Int)]) := by
      intro m hm hmw
      refine ⟨h.inv.low, fun x hx => ?_, h.pref, h.num, h.cnt, h.prt, ?_, ?_, fun y hy => ?_, fun y hy hy2 => ?_, fun x hx hx2 hxu y hy he => ?_⟩
      · have hxu : x ≠ u := fun e => hx (e ▸ hu0)
        obtain ⟨a1, a2, a3⟩ := h.keep x hx
        exact ⟨a1, by rw [low_ne _ _ hxu, a2], a3⟩
      · rw [low_at]
        rcases Int.le_total (s.low u) m with hle | hle
        · rw [Int.min_eq_left hle]; exact h.low
        · rw [Int.min_eq_right hle]; exact hm
      · rw [low_at]; have := h.lown; show _ ≤ s.num u; omega
      · rcases List.mem_append.1 hy with hy | hy
        · exact h.seen y hy
        · rw [List.mem_singleton.1 hy]; exact hw
      · rw [low_at]
        rcases List.mem_append.1 hy with hy | hy
        · have := h.edge1 y hy hy2; omega
        · rw [List.mem_singleton.1 hy] at hy2 ⊢
          have := hmw hy2
          simp only [Int.toNat_natCast]; omega
      · rw [low_at]; have := h.edge2 x hx hx2 hxu y hy he; omega
    by_cases hpt : s.part w < 0
    · rw [if_pos hpt]
      have hws : w ∈ s.stk := (h.inv.stk w).2 ⟨hw, by have := h.inv.pw w; omega⟩
      refine base _ ⟨w, hws, rfl, .edge hv⟩ fun hm => ?_
      rw [(h.keep w ((h0.stk w).1 hm).1).1]
      exact Int.le_refl _
    · rw [if_neg hpt]
      refine ⟨h.inv, h.keep, h.pref, h.num, h.cnt, h.prt, h.low, h.lown, fun y hy => ?_, fun y hy hy2 => ?_, h.edge2⟩
      · rcases List.mem_append.1 hy with hy | hy
        · exact h.seen y hy
        · rw [List.mem_singleton.1 hy]; exact hw
      · rcases List.mem_append.1 hy with hy | hy
        · exact h.edge1 y hy hy2
        · rw [List.mem_singleton.1 hy] at hy2
          have h1 := ((h0.stk w).1 hy2)
          have h2 := (h.keep w h1.1).2.2
          have h3 := h1.2
          omega

theorem take_cut {A B : List Nat} {u : Nat} (h : u ∉ A) : (A ++ u :: B).takeWhile (· != u) = A ∧ (A ++ u :: B).dropWhile (· != u) = u :: B := by
  induction A with
  | nil => simp
  | cons a A ih =>
    have hau : a ≠ u := fun e => h (by simp [e])
    obtain ⟨h1, h2⟩ := ih fun hm => h (by simp [hm])
    have hb : (a != u) = true := by simpa using hau
    simp only [List.cons_append, List.takeWhile_cons, List.dropWhile_cons, hb, if_true, h1, h2, and_self]

theorem TL.fin (h : TL rows s0 s g u (rows.getD u [])) (h0 : TI rows s0 g) (hu0 : s0.num u = 0) : TP rows s0 (tEnd u s) g u := by
  obtain ⟨B, hB⟩ := h.pref
  have hs0 : ∀ x ∈ s0.stk, x ∈ s.stk := fun x hx => by rw [hB]; simp [hx]
  have hu_s0 : u ∉ s0.stk := fun hm => ((h0.stk u).1 hm).1 hu0
  have hus : u ∈ s.stk := by rw [hB]; simp
  have hk : ∀ x ∈ s0.stk, s.num x = s0.num x := fun x hx => (h.keep x ((h0.stk x).1 hx).1).1
  have hsrt := h.inv.srt
  rw [hB, List.pairwise_append, List.pairwise_cons] at hsrt
  have hblk : ∀ x y : Nat, s.num x ≠ 0 → x ∉ g → (y : Int) ∈ rows.getD x [] → s.num y ≠ 0 := fun x y hx hxg he => by
    by_cases e : x = u
    · subst e; have := h.seen _ he; simpa using this
    · exact h.inv.blk x y hx (by simp [e, hxg]) he
  have hnd := h.inv.nd
  rw [hB, List.nodup_append] at hnd
  have hedge : ∀ x ∈ s.stk, x ∉ s0.stk → ∀ y ∈ s0.stk, (y : Int) ∈ rows.getD x [] → s.low u ≤ s0.num y := fun x hx hx2 y hy he => by
    by_cases e : x = u
    · subst e; have := h.edge1 _ he (by simpa using hy); simpa using this
    · exact h.edge2 x hx hx2 e y hy he
  unfold tEnd
  by_cases hl : s.low u = s.num u
  · rw [if_pos hl]
    have hcut := take_cut (A := s0.stk) (B := B) hu_s0
    have hstk : (tPop u s).stk = s0.stk := by show s.stk.takeWhile _ = _; rw [hB]; exact hcut.1
    have hpart : ∀ x, (tPop u s).part x = if x ∈ u :: B then (s.prt : Int) else s.part x := fun x => by
      show (if x ∈ s.stk.dropWhile _ then _ else _) = _
      rw [hB, hcut.2]
    have hnum : ∀ x, (tPop u s).num x = s.num x := fun _ => rfl
    have hBs : ∀ x ∈ u :: B, x ∈ s.stk ∧ x ∉ s0.stk := fun x hx => ⟨by rw [hB]; exact List.mem_append_right _ hx, fun hm => hnd.2.2 x hm x hx rfl⟩
    have hBp : ∀ x ∈ u :: B, s.part x = -1 := fun x hx => ((h.inv.stk x).1 (hBs x hx).1).2
    have hgB : ∀ x ∈ u :: B, x ∉ g := fun x hx hm => (hBs x hx).2 (h0.gs x hm)
    have h0B : ∀ x ∈ s0.stk, x ∉ u :: B := fun x hx hm => (hBs x hm).2 hx
    have hcl : ∀ x y : Nat, 0 ≤ (tPop u s).part x → (y : Int) ∈ rows.getD x [] → 0 ≤ (tPop u s).part y := by
      intro x y hx he
      rw [hpart] at hx ⊢
      by_cases hyB : y ∈ u :: B
      · rw [if_pos hyB]; omega
      · rw [if_neg hyB]
        by_cases hxB : x ∈ u :: B
        · have hxs := (hBs x hxB).1
          have hy := hblk x y ((h.inv.stk x).1 hxs).1 (hgB x hxB) he
          rcases h.inv.pw y with h1 | h1
          · have hys : y ∈ s.stk := (h.inv.stk y).2 ⟨hy, h1⟩
            rw [hB] at hys
            rcases List.mem_append.1 hys with h2 | h2
            · have h3 := hedge x hxs (hBs x hxB).2 y h2 he
              have h4 := hsrt.2.2 y h2 u (by simp)
              rw [hk y h2] at h4
              omega
            · exact absurd h2 hyB
          · exact h1.1
        · rw [if_neg hxB] at hx
          exact h.inv.cl x y hx he
    have hreach : ∀ x y : Nat, 0 ≤ (tPop u s).part x → RN rows x y → 0 ≤ (tPop u s).part y := fun x y hx hr => hr.inv hcl hx
    have hreach0 : ∀ x y : Nat, 0 ≤ s.part x → RN rows x y → 0 ≤ s.part y := fun x y hx hr => hr.inv h.inv.cl hx
    have hdown : ∀ z ∈ u :: B, RN rows u z := fun z hz => by
      refine h.inv.up u hus z (hBs z hz).1 ?_
      rcases List.mem_cons.1 hz with rfl | hz
      · exact Int.le_refl _
      · have := hsrt.2.1.1 z hz; omega
    have hback : ∀ z ∈ u :: B, RN rows z u := fun z hz => by
      obtain ⟨x, hx, _, hr⟩ := h.inv.gr z (hBs z hz).1
      rcases List.mem_cons.1 hx with rfl | hx
      · exact hr
      · have h1 := hreach z x (by rw [hpart, if_pos hz]; omega) hr
        have hx0 := h0.gs x hx
        rw [hpart, if_neg (h0B x hx0)] at h1
        have := ((h.inv.stk x).1 (hs0 x hx0)).2
        omega
    refine ⟨⟨?_, fun x => ?_, h.inv.lt, h.inv.nn, fun x => ?_, fun x hx => ?_, fun x hx => ?_, hblk, fun x hx y hy hxy => ?_, fun y hy => ?_, hcl, fun x y hx => ?_, h.inv.ct⟩, fun x hx => ?_, ⟨[], by rw [hstk]; simp⟩, h.num, h.cnt, ?_, .inl hl, fun x hx hx2 => absurd (hstk ▸ hx) hx2⟩
    · rw [hstk]; exact hsrt.1
    · rw [hstk, hpart]
      constructor
      · intro hx
        rw [if_neg (h0B x hx)]
        exact (h.inv.stk x).1 (hs0 x hx)
      · rintro ⟨h1, h2⟩
        split at h2
        · omega
        · rename_i hxB
          have := (h.inv.stk x).2 ⟨h1, h2⟩
          rw [hB] at this
          rcases List.mem_append.1 this with h3 | h3
          · exact h3
          · exact absurd h3 hxB
    · rw [hpart]
      show _ ∨ _ ∧ _ < ((s.prt + 1 : Nat) : Int)
      split
      · right; omega
      · have := h.inv.pw x; omega
    · rw [hpart, if_neg]
      · exact h.inv.unv x hx
      · intro hm; exact ((h.inv.stk x).1 (hBs x hm).1).1 hx
    · rw [hstk]; exact h0.gs x hx
    · rw [hstk] at hx hy; exact h.inv.up x (hs0 x hx) y (hs0 y hy) hxy
    · rw [hstk] at hy
      obtain ⟨x, hx, h1, h2⟩ := h0.gr y hy
      exact ⟨x, hx, by rw [hnum, hnum, hk y hy, hk x (h0.gs x hx)]; exact h1, h2⟩
    · rw [hpart x, hpart y]
      rw [hpart] at hx
      by_cases hxB : x ∈ u :: B
      · rw [if_pos hxB]
        by_cases hyB : y ∈ u :: B
        · rw [if_pos hyB]
          exact ⟨fun _ => ⟨(hback x hxB).trans (hdown y hyB), (hback y hyB).trans (hdown x hxB)⟩, fun _ => rfl⟩
        · rw [if_neg hyB]
          constructor
          · intro e; have := h.inv.pw y; omega
          · rintro ⟨r1, r2⟩
            have h1 := hreach x y (by rw [hpart, if_pos hxB]; omega) r1
            rw [hpart, if_neg hyB] at h1
            have h2 := hreach0 y x h1 r2
            have := hBp x hxB
            omega
      · rw [if_neg hxB] at hx ⊢
        by_cases hyB : y ∈ u :: B
        · rw [if_pos hyB]
          constructor
          · intro e; have := h.inv.pw x; omega
          · rintro ⟨r1, _⟩
            have h2 := hreach0 x y hx r1
            have := hBp y hyB
            omega
        · rw [if_neg hyB]; exact h.inv.sc x y hx
    · obtain ⟨a1, a2, a3⟩ := h.keep x hx
      refine ⟨a1, a2, ?_⟩
      rw [hpart, if_neg]
      · exact a3
      · intro hm
        have h1 := hBp x hm
        exact (hBs x hm).2 ((h0.stk x).2 ⟨hx, by rw [← a3]; exact h1⟩)
    · have := h.prt; show s.prt + 1 + s0.cnt ≤ s0.prt + s.cnt; omega
  · rw [if_neg hl]
    have hlt : s.low u < s.num u := by have := h.lown; omega
    refine ⟨⟨h.inv.srt, h.inv.stk, h.inv.lt, h.inv.nn, h.inv.pw, h.inv.unv, fun x hx => h.inv.gs x (by simp [hx]), hblk, h.inv.up, fun y hy => ?_, h.inv.cl, h.inv.sc, h.inv.ct⟩, h.keep, ⟨u :: B, hB⟩, h.num, h.cnt, by have := h.prt; omega, .inr h.low, hedge⟩
    obtain ⟨x, hx, h1, h2⟩ := h.inv.gr y hy
    rcases List.mem_cons.1 hx with rfl | hx
    · obtain ⟨z, hz, h3, h4⟩ := h.low
      have hz0 : z ∈ s0.stk := by
        rw [hB] at hz
        rcases List.mem_append.1 hz with h5 | h5
        · exact h5
        · rcases List.mem_cons.1 h5 with rfl | h5
          · omega
          · have := hsrt.2.1.1 z h5; omega
      obtain ⟨t, ht, h5, h6⟩ := h0.gr z hz0
      refine ⟨t, ht, ?_, (h2.trans h4).trans h6⟩
      rw [hk t (h0.gs t ht)]
      have := hk z hz0
      omega
    · exact ⟨x, hx, h1, h2⟩
end

theorem unv_pos {N : Nat} {num : Nat → Int} {u : Nat} (hu : u < N) (h0 : num u = 0) : 0 < unvN N num := by
  unfold unvN
  exact List.length_pos_iff.2 (List.ne_nil_of_mem (List.mem_filter.2 ⟨List.mem_range.2 hu, by simpa using h0⟩))

theorem visit_ok {rows : List (List Int)} (hr : ∀ r ∈ rows, InN rows.length r) : ∀ (f : Nat) (s : TS) (g : List Nat) (u : Nat), unvN rows.length s.num ≤ f → TI rows s g → s.num u = 0 → u < rows.length → (∀ x ∈ g, RN rows x u) → TP rows s (tVisit rows f u s) g u
  | 0, s, g, u, hf, _, h0, hN, _ => by have := unv_pos (num := s.num) hN h0; omega
  | f + 1, s, g, u, hf, h, h0, hN, hg => by
    have fold : ∀ (l dn : List Int) (t : TS), (∀ v ∈ l, v ∈ rows.getD u []) → TL rows s t g u dn → TL rows s (l.foldl (tEdgeW (tVisit rows f) u) t) g u (dn ++ l) := by
      intro l
      induction l with
      | nil => intro dn t _ ht; simpa using ht
      | cons v l ih =>
        intro dn t hl ht
        have hv := hl v (by simp)
        have hvN := row_in hr u v hv
        have := ht.edge h h0 hv hvN (rec := tVisit rows f) fun hv0 => by
          refine visit_ok hr f t (u :: g) v.toNat ?_ ht.inv hv0 (by omega) fun x hx => ?_
          · have h1 := ht.cnt; have h2 := ht.inv.ct; have h3 := h.ct; omega
          · have he : RN rows u v.toNat := .edge (by rw [Int.toNat_of_nonneg hvN.1]; exact hv)
            rcases List.mem_cons.1 hx with rfl | hx
            · exact he
            · exact (hg x hx).trans he
        have h2 := ih (dn ++ [v]) _ (fun y hy => hl y (by simp [hy])) this
        rw [List.append_assoc] at h2
        exact h2
    have h1 := fold (rows.getD u []) [] _ (fun _ h => h) (TL.start h h0 hN hg)
    rw [List.nil_append] at h1
    exact h1.fin h h0

theorem TL_take {rows : List (List Int)} (hr : ∀ r ∈ rows, InN rows.length r) {f : Nat} {s : TS} {g : List Nat} {u : Nat} (hf : unvN rows.length s.num ≤ f + 1) (h : TI rows s g) (h0 : s.num u = 0) (hN : u < rows.length) (hg : ∀ x ∈ g, RN rows x u) :
    ∀ k, k ≤ (rows.getD u []).length → TL rows s (((rows.getD u []).take k).foldl (tEdgeW (tVisit rows f) u) (tEnter u s)) g u ((rows.getD u []).take k)
  | 0, _ => TL.start h h0 hN hg
  | k + 1, hk => by
    have ht := TL_take hr hf h h0 hN hg k (by omega)
    have hv : (rows.getD u [])[k] ∈ rows.getD u [] := List.getElem_mem _
    have hvN := row_in hr u _ hv
    rw [List.take_succ_eq_append_getElem hk, List.foldl_append]
    refine ht.edge h h0 hv hvN fun hv0 => ?_
    refine visit_ok hr f _ (u :: g) _ ?_ ht.inv hv0 (by omega) fun x hx => ?_
    · have h1 := ht.cnt; have h2 := ht.inv.ct; have h3 := h.ct; omega
    · have he : RN rows u ((rows.getD u [])[k]).toNat := .edge (by rw [Int.toNat_of_nonneg hvN.1]; exact hv)
      rcases List.mem_cons.1 hx with rfl | hx
      · exact he
      · exact (hg x hx).trans he

theorem TI.init (rows : List (List Int)) : TI rows tStart [] := by
  refine ⟨.nil, fun x => by simp [tStart], fun x hx => absurd rfl hx, fun x => by simp [tStart], fun x => .inl rfl, fun _ _ => rfl, by simp, fun x y hx => absurd rfl hx, by simp [tStart], by simp [tStart], fun x y hx => ?_, fun x y hx => ?_, ?_⟩
  · have : (0 : Int) ≤ -1 := hx; omega
  · have : (0 : Int) ≤ -1 := hx; omega
  · show 0 + unvN rows.length (fun _ => 0) = _
    unfold unvN
    rw [List.filter_eq_self.2 (by simp)]
    simp

structure TT (rows : List (List Int)) (s : TS) (k : Nat) : Prop where
  inv : TI rows s []
  vis : ∀ x, x < k → s.num x ≠ 0
  prt : s.prt ≤ s.cnt

theorem TT.step {rows : List (List Int)} (hr : ∀ r ∈ rows, InN rows.length r) {s : TS} {k : Nat} (hk : k < rows.length) (h : TT rows s k) : TT rows (tTop rows s k) (k + 1) := by
  unfold tTop
  by_cases h0 : s.num k = 0
  · rw [if_pos h0]
    have hp := visit_ok hr rows.length s [] k (by have := h.inv.ct; omega) h.inv h0 hk (by simp)
    refine ⟨hp.inv, fun x hx => ?_, ?_⟩
    · by_cases e : x = k
      · subst e; rw [hp.num]; omega
      · have h1 := h.vis x (by omega)
        rw [(hp.keep x h1).1]; exact h1
    · have := hp.prt; have := h.prt; omega
  · rw [if_neg h0]
    refine ⟨h.inv, fun x hx => ?_, h.prt⟩
    by_cases e : x = k
    · subst e; exact h0
    · exact h.vis x (by omega)

theorem tAll_pre {rows : List (List Int)} (hr : ∀ r ∈ rows, InN rows.length r) : ∀ k, k ≤ rows.length → TT rows ((List.range k).foldl (tTop rows) tStart) k
  | 0, _ => ⟨TI.init rows, fun x hx => by omega, Nat.le_refl _⟩
  | k + 1, hk => by
    rw [List.range_succ, List.foldl_append]
    exact (tAll_pre hr k (by omega)).step hr (by omega)

theorem tAll_ok {rows : List (List Int)} (hr : ∀ r ∈ rows, InN rows.length r) : (∀ x, x < rows.length → 0 ≤ (tAll rows).part x ∧ (tAll rows).part x < rows.length) ∧ ∀ x y, x < rows.length → ((tAll rows).part y = (tAll rows).part x ↔ RN rows x y ∧ RN rows y x) := by
  have h := tAll_pre hr rows.length (Nat.le_refl _)
  have hp : ∀ x, x < rows.length → 0 ≤ (tAll rows).part x := fun x hx => by
    have h1 := h.vis x hx
    rcases h.inv.pw x with h2 | h2
    · obtain ⟨z, hz, _⟩ := h.inv.gr x ((h.inv.stk x).2 ⟨h1, h2⟩)
      cases hz
    · exact h2.1
  refine ⟨fun x hx => ⟨hp x hx, ?_⟩, fun x y hx => h.inv.sc x y (hp x hx)⟩
  have h2 := h.inv.pw x
  have h3 := h.prt
  have h4 := h.inv.ct
  have h5 := hp x hx
  have h6 : (tAll rows).part x < (tAll rows).prt := by
    rcases h2 with h2 | h2
    · have : (tAll rows).part x = -1 := h2
      omega
    · exact h2.2
  have h7 : (tAll rows).prt ≤ (tAll rows).cnt := h3
  have h8 : (tAll rows).cnt + unvN rows.length (tAll rows).num = rows.length := h4
  omega

theorem RN.rp {rows : List (List Int)} {x y : Nat} (h : RN rows x y) : RP rows [(x : Int)] y := by
  induction h with
  | refl => exact .base (by simp)
  | step _ e ih => exact .step ih (by simpa using e)
theorem RP.rn {rows : List (List Int)} (hr : ∀ r ∈ rows, InN rows.length r) {x : Nat} {y : Int} (h : RP rows [(x : Int)] y) : 0 ≤ y ∧ RN rows x y.toNat := by
  induction h with
  | base hb => rw [List.mem_singleton.1 hb]; exact ⟨by omega, .refl⟩
  | step _ e ih =>
    have := row_in hr _ _ e
    exact ⟨this.1, .step ih.2 (by rw [Int.toNat_of_nonneg this.1]; exact e)⟩

/-- a node lies on a cycle when its component has another node, or it follows itself -/
theorem cyc_iff {rows : List (List Int)} (hr : ∀ r ∈ rows, InN rows.length r) {x : Nat} (hx : x < rows.length) : Cyc rows x ↔ (x : Int) ∈ rows.getD x [] ∨ ∃ y, y < rows.length ∧ y ≠ x ∧ RN rows x y ∧ RN rows y x := by
  constructor
  · rintro ⟨y, hy, h⟩
    have hyN := row_in hr _ _ hy
    obtain ⟨w, rfl⟩ : ∃ w : Nat, y = w := ⟨y.toNat, by omega⟩
    have h2 := (RP.rn hr h).2
    simp only [Int.toNat_natCast] at h2 hy
    by_cases e : w = x
    · subst e; exact .inl hy
    · exact .inr ⟨w, by omega, e, .edge hy, h2⟩
  · rintro (h | ⟨y, hy, hne, h1, h2⟩)
    · exact ⟨x, by simpa using h, .base (by simp)⟩
    · have key : ∀ z, RN rows x z → z = x ∨ ∃ w : Nat, (w : Int) ∈ rows.getD x [] ∧ RN rows w z := by
        intro z hz
        induction hz with
        | refl => exact .inl rfl
        | step _ e ih =>
          rcases ih with rfl | ⟨w, hw, ih⟩
          · exact .inr ⟨_, e, .refl⟩
          · exact .inr ⟨w, hw, .step ih e⟩
      rcases key y h1 with h3 | ⟨w, hw, h3⟩
      · exact absurd h3 hne
      · exact ⟨w, by simpa using hw, (h3.trans h2).rp⟩
end Go.Gl

/- Values renamed in the order in which they are met; which nodes lie on cycles. -/
namespace Go.Gl
def enumL : Nat → List Int → List (List Int × Int)
  | _, [] => []
  | k, p :: L => ([p], (k : Int)) :: enumL (k + 1) L
theorem enumL_len : ∀ (k : Nat) (L : List Int), (enumL k L).length = L.length
  | _, [] => rfl
  | k, p :: L => by rw [enumL, List.length_cons, enumL_len, List.length_cons]
theorem mget_enum (p : Int) : ∀ (k : Nat) (L : List Int), mget (enumL k L) [p] = if p ∈ L then some ((k + L.idxOf p : Nat) : Int) else none
  | _, [] => rfl
  | k, q :: L => by
    rw [enumL, mget, mget_enum p (k + 1) L]
    by_cases h : p = q
    · subst h; simp
    · have h2 : ¬ [p] = [q] := by simpa using h
      have h3 : ¬ q = p := fun e => h e.symm
      rw [if_neg h2]
      simp only [List.mem_cons, h, false_or, List.idxOf_cons]
      have h4 : (q == p) = false := by simpa using h3
      rw [h4]
      by_cases hm : p ∈ L
      · rw [if_pos hm, if_pos hm]
        simp only [cond_false]
        congr 2; omega
      · rw [if_neg hm, if_neg hm]
theorem mput_enum {p : Int} (n : Int) : ∀ (k : Nat) (L : List Int), p ∉ L → mput (enumL k L) [p] n = enumL k L ++ [([p], n)]
  | _, [], _ => rfl
  | k, q :: L, h => by
    have h1 : p ≠ q := fun e => h (by simp [e])
    rw [enumL, mput, if_neg (by simpa using h1), mput_enum n (k + 1) L (fun hm => h (by simp [hm]))]; rfl
theorem enumL_app (p : Int) : ∀ (k : Nat) (L : List Int), enumL k (L ++ [p]) = enumL k L ++ [([p], ((k + L.length : Nat) : Int))]
  | k, [] => rfl
  | k, q :: L => by
    rw [List.cons_append, enumL, enumL_app p (k + 1) L, enumL, List.cons_append, List.length_cons]
    congr 4; omega

/-- the names met up to a place, and the name of a place -/
def metL (P : List Int) (i : Nat) : List Int := z83 [] (P.take i)
def nmI (P : List Int) (i : Nat) : Int := (((metL P P.length).idxOf (P.getD i 0) : Nat) : Int)
theorem metL_succ {P : List Int} {i : Nat} (h : i < P.length) : metL P (i + 1) = visit (metL P i) P[i] := by
  unfold metL z83
  rw [List.take_succ_eq_append_getElem h, List.foldl_append]; rfl
theorem metL_pre {P : List Int} {i j : Nat} (h : i ≤ j) (hj : j ≤ P.length) : ∃ t, metL P j = metL P i ++ t := by
  induction j with
  | zero => obtain rfl : i = 0 := by omega
            exact ⟨[], by simp⟩
  | succ j ih =>
    rcases Nat.lt_or_ge j i with h1 | h1
    · obtain rfl : i = j + 1 := by omega
      exact ⟨[], by simp⟩
    · obtain ⟨t, ht⟩ := ih h1 (by omega)
      rw [metL_succ (by omega)]
      obtain ⟨t2, ht2⟩ := visit_pre (metL P j) P[j]
      exact ⟨t ++ t2, by rw [ht2, ht]; simp⟩
theorem metL_mem {P : List Int} {i : Nat} (h : i < P.length) : P[i] ∈ metL P (i + 1) := by
  rw [metL_succ h]; unfold visit; split
  · assumption
  · simp
theorem metL_all {P : List Int} {i : Nat} (h : i < P.length) : P[i] ∈ metL P P.length := by
  obtain ⟨t, ht⟩ := metL_pre (P := P) (i := i + 1) (j := P.length) h (Nat.le_refl _)
  rw [ht]; exact List.mem_append_left _ (metL_mem h)
theorem nmI_at {P : List Int} {i : Nat} (h : i < P.length) : nmI P i = (((metL P (i + 1)).idxOf P[i] : Nat) : Int) := by
  unfold nmI
  obtain ⟨t, ht⟩ := metL_pre (P := P) (i := i + 1) (j := P.length) h (Nat.le_refl _)
  rw [ht, z30 h, List.idxOf_append, if_pos (metL_mem h)]
theorem metL_len (P : List Int) : ∀ i, i ≤ P.length → (metL P i).length ≤ i
  | 0, _ => by simp [metL, z83]
  | i + 1, h => by
    have ih := metL_len P i (by omega)
    rw [metL_succ (by omega)]
    unfold visit; split
    · omega
    · rw [List.length_append, List.length_singleton]; omega
theorem nmI_lt {P : List Int} {i : Nat} (h : i < P.length) : 0 ≤ nmI P i ∧ nmI P i < P.length := by
  have h1 := List.idxOf_lt_length_of_mem (metL_all h)
  have h2 := metL_len P P.length (Nat.le_refl _)
  unfold nmI
  rw [z30 h]; omega
theorem nmI_eq {P : List Int} {i j : Nat} (hi : i < P.length) (hj : j < P.length) : nmI P i = nmI P j ↔ P[i] = P[j] := by
  unfold nmI
  rw [z30 hi, z30 hj]
  constructor
  · intro h
    have h1 := List.idxOf_lt_length_of_mem (metL_all hi)
    have e1 := List.getElem_idxOf h1
    have h2 := List.idxOf_lt_length_of_mem (metL_all hj)
    have e2 := List.getElem_idxOf h2
    rw [← e1, ← e2]
    congr 1; omega
  · intro h; rw [h]

/-- the components, renamed -/
def cmpL (rows : List (List Int)) : List Int := (List.range rows.length).map fun i => nmI ((List.range rows.length).map (tAll rows).part) i
theorem cmpL_len (rows : List (List Int)) : (cmpL rows).length = rows.length := by simp [cmpL]
theorem cmpL_at {rows : List (List Int)} {i : Nat} (h : i < rows.length) : (cmpL rows).getD i 0 = nmI ((List.range rows.length).map (tAll rows).part) i := by
  rw [z30 (by rw [cmpL_len]; exact h)]; simp [cmpL]
theorem cmpL_in {rows : List (List Int)} : InN rows.length (cmpL rows) := by
  intro x hx
  obtain ⟨i, hi, rfl⟩ := List.mem_map.1 hx
  have := nmI_lt (P := (List.range rows.length).map (tAll rows).part) (i := i) (by simpa using hi)
  simpa using this
theorem cmpL_eq {rows : List (List Int)} (hr : ∀ r ∈ rows, InN rows.length r) {x y : Nat} (hx : x < rows.length) (hy : y < rows.length) : (cmpL rows).getD y 0 = (cmpL rows).getD x 0 ↔ RN rows x y ∧ RN rows y x := by
  rw [cmpL_at hx, cmpL_at hy, nmI_eq (by simpa using hy) (by simpa using hx), ← (tAll_ok hr).2 x y hx]
  simp

/-- how often a value stands in the first places -/
def cntL (P : List Int) (i : Nat) (v : Nat) : Nat := (P.take i).countP fun p => decide (p = (v : Int))
theorem cntL_succ {P : List Int} {i : Nat} (h : i < P.length) (v : Nat) : cntL P (i + 1) v = cntL P i v + if P[i] = (v : Int) then 1 else 0 := by
  unfold cntL
  rw [List.take_succ_eq_append_getElem h, List.countP_append]
  by_cases e : P[i] = (v : Int) <;> simp [e]
theorem cntL_le (P : List Int) (i v : Nat) : cntL P i v ≤ i := by
  unfold cntL
  have := List.countP_le_length (p := fun p : Int => decide (p = (v : Int))) (l := P.take i)
  rw [List.length_take] at this; omega
theorem cntL_pos {P : List Int} {i j v : Nat} (hj : j < i) (hp : j < P.length) (e : P[j] = (v : Int)) : 0 < cntL P i v := by
  unfold cntL
  rw [List.countP_pos_iff]
  exact ⟨P[j], List.mem_take_iff_getElem.2 ⟨j, by omega, rfl⟩, by simp [e]⟩
theorem cntL_two {P : List Int} {v : Nat} : ∀ i, i ≤ P.length → (1 < cntL P i v ↔ ∃ a b, a < b ∧ ∃ h : b < i, ∃ h2 : b < P.length, ∃ h3 : a < P.length, P[a] = (v : Int) ∧ P[b] = (v : Int))
  | 0, _ => by simp [cntL]
  | i + 1, hi => by
    rw [cntL_succ (by omega)]
    constructor
    · intro h
      by_cases e : P[i] = (v : Int)
      · rw [if_pos e] at h
        have h0 : 0 < cntL P i v := by omega
        unfold cntL at h0
        rw [List.countP_pos_iff] at h0
        obtain ⟨x, hx, hx2⟩ := h0
        obtain ⟨a, ha, rfl⟩ := List.mem_take_iff_getElem.1 hx
        exact ⟨a, i, by omega, by omega, by omega, by omega, by simpa using hx2, e⟩
      · rw [if_neg e] at h
        obtain ⟨a, b, h1, h2, h3, h4, h5⟩ := (cntL_two (P := P) (v := v) i (by omega)).1 (by omega)
        exact ⟨a, b, h1, by omega, h3, h4, h5⟩
    · rintro ⟨a, b, h1, h2, h3, h4, h5, h6⟩
      by_cases hb : b = i
      · subst hb
        rw [if_pos h6]
        have := cntL_pos h1 h4 h5
        omega
      · have := (cntL_two (P := P) (v := v) i (by omega)).2 ⟨a, b, h1, by omega, h3, h4, h5, h6⟩
        omega
noncomputable def cycD (rows : List (List Int)) (x : Nat) : Bool := by classical exact decide (Cyc rows x)
theorem cycD_iff {rows : List (List Int)} {x : Nat} : cycD rows x = true ↔ Cyc rows x := by unfold cycD; simp
noncomputable def cycB (rows : List (List Int)) : List Bool := (List.range rows.length).map (cycD rows)
theorem cycB_len (rows : List (List Int)) : (cycB rows).length = rows.length := by simp [cycB]
theorem cyc_cnt {rows : List (List Int)} (hr : ∀ r ∈ rows, InN rows.length r) {x : Nat} (hx : x < rows.length) : cycD rows x = (decide (1 < cntL (cmpL rows) rows.length ((cmpL rows).getD x 0).toNat) || decide ((x : Int) ∈ rows.getD x [])) := by
  have hc := cmpL_in (rows := rows) _ (getD_mem (Q := cmpL rows) (k := x) (by rw [cmpL_len]; exact hx))
  have hv : (((cmpL rows).getD x 0).toNat : Int) = (cmpL rows).getD x 0 := Int.toNat_of_nonneg hc.1
  rw [Bool.eq_iff_iff, cycD_iff, cyc_iff hr hx, Bool.or_eq_true, decide_eq_true_iff, decide_eq_true_iff, cntL_two _ (by rw [cmpL_len]; exact Nat.le_refl _), hv]
  have hat : ∀ a (h : a < (cmpL rows).length), (cmpL rows)[a] = (cmpL rows).getD a 0 := fun a h => (z30 h).symm
  have hlen := cmpL_len rows
  constructor
  · rintro (h | ⟨y, hy, hne, h1, h2⟩)
    · exact .inr h
    · left
      have he := (cmpL_eq hr hx hy).2 ⟨h1, h2⟩
      rcases Nat.lt_or_gt_of_ne hne with h3 | h3
      · exact ⟨y, x, h3, hx, by omega, by omega, by rw [hat]; exact he, by rw [hat]⟩
      · exact ⟨x, y, h3, hy, by omega, by omega, by rw [hat], by rw [hat]; exact he⟩
  · rintro (⟨a, b, hab, h2, h3, h4, h5, h6⟩ | h)
    · right
      rw [hat] at h5 h6
      have ha := (cmpL_eq hr hx (show a < rows.length by omega)).1 h5
      have hb := (cmpL_eq hr hx (show b < rows.length by omega)).1 h6
      by_cases e : a = x
      · exact ⟨b, by omega, by omega, hb⟩
      · exact ⟨a, by omega, e, ha⟩
    · exact .inl h
end Go.Gl

/- A search that stops early finds what the whole search finds; the first accepted node on a cycle. -/
namespace Go.Gl
/-- the predecessors, as the program keeps them: -2 for a node not met -/
def frm (N : Nat) (Q P : List Int) : List Int := (List.range N).map fun v : Nat => if (v : Int) ∈ Q then P.getD v 0 else -2
theorem frm_len (N : Nat) (Q P : List Int) : (frm N Q P).length = N := by simp [frm]
theorem frm_nil (N : Nat) (P : List Int) : frm N [] P = List.replicate N (-2) := by
  apply List.ext_getElem (by simp [frm])
  intro i h1 h2
  simp [frm]
theorem frm_set {N : Nat} {Q P : List Int} {v u : Int} (hv : 0 ≤ v ∧ v < N) (hP : P.length = N) : (frm N Q P).set v.toNat u = frm N (Q ++ [v]) (P.set v.toNat u) := by
  apply List.ext_getElem (by simp [frm])
  intro i h1 h2
  have hi : i < N := by simpa [frm] using h2
  rw [List.getElem_set]
  by_cases e : v.toNat = i
  · have e2 : (i : Int) = v := by omega
    rw [if_pos e]
    simp only [frm, List.getElem_map, List.getElem_range]
    rw [if_pos (by simp [e2]), z30 (by simp; omega), List.getElem_set, if_pos e]
  · have e2 : (i : Int) ≠ v := by omega
    rw [if_neg e]
    simp only [frm, List.getElem_map, List.getElem_range, List.mem_append, List.mem_singleton, e2, or_false]
    split
    · rw [z30 (by omega), z30 (by simp; omega), List.getElem_set, if_neg e]
    · rfl

section
variable {rows : List (List Int)} {ini : List Int}
theorem visPs_pre (u : Int) (l : List Int) : ∀ x : List Int × List Int, ∃ t, (visPs u x l).1 = x.1 ++ t := by
  intro x; rw [visPs_fst]; exact visits_pre _ _
theorem srS_pre {i j : Nat} (h : i ≤ j) : ∃ t, (srS rows ini j).1 = (srS rows ini i).1 ++ t := by
  induction j with
  | zero => obtain rfl : i = 0 := by omega
            exact ⟨[], by simp⟩
  | succ j ih =>
    rcases Nat.lt_or_ge j i with h1 | h1
    · obtain rfl : i = j + 1 := by omega
      exact ⟨[], by simp⟩
    · obtain ⟨t, ht⟩ := ih h1
      rw [srS]; split
      · obtain ⟨t2, ht2⟩ := visPs_pre (srS rows ini j).1[j] (rows.getD ((srS rows ini j).1[j]).toNat []) (srS rows ini j)
        exact ⟨t ++ t2, by rw [ht2, ht]; simp⟩
      · exact ⟨t, ht⟩
theorem visPs_keep {u v : Int} (hv : 0 ≤ v) : ∀ (l : List Int) (x : List Int × List Int), (∀ y ∈ l, 0 ≤ y) → v ∈ x.1 → (visPs u x l).2.getD v.toNat 0 = x.2.getD v.toNat 0
  | [], _, _, _ => rfl
  | w :: l, x, hl, hm => by
    show (visPs u (visP u x w) l).2.getD v.toNat 0 = _
    have hm2 : v ∈ (visP u x w).1 := by rw [visP_fst]; exact visit_mem.2 (.inl hm)
    rw [visPs_keep hv l _ (fun y hy => hl y (by simp [hy])) hm2]
    by_cases h : w ∈ x.1
    · rw [visP_old h]
    · rw [visP_new h]
      have hw := hl w (by simp)
      have : v ≠ w := fun e => h (e ▸ hm)
      dsimp only
      rw [List.getD_eq_getElem?_getD, List.getElem?_set_ne (by omega), ← List.getD_eq_getElem?_getD]
theorem srS_keep (hr : ∀ r ∈ rows, InN rows.length r) {i j : Nat} (h : i ≤ j) {v : Int} (hv : 0 ≤ v) (hm : v ∈ (srS rows ini i).1) : (srS rows ini j).2.getD v.toNat 0 = (srS rows ini i).2.getD v.toNat 0 := by
  induction j with
  | zero => obtain rfl : i = 0 := by omega
            rfl
  | succ j ih =>
    rcases Nat.lt_or_ge j i with h1 | h1
    · obtain rfl : i = j + 1 := by omega
      rfl
    · obtain ⟨t, ht⟩ := srS_pre (rows := rows) (ini := ini) h1
      rw [srS]; split
      · rw [visPs_keep hv _ _ (fun y hy => (row_in hr _ y hy).1) (by rw [ht]; simp [hm])]
        exact ih h1
      · exact ih h1
theorem srS_bkw (hr : ∀ r ∈ rows, InN rows.length r) (hi : InN rows.length ini) (hn : ini.Nodup) {i : Nat} (hil : i ≤ rows.length) : ∀ (f : Nat) (v : Int) (tl : List Int), v ∈ (srS rows ini i).1 → bkw (srS rows ini i).2 f v tl = bkw (srP rows ini) f v tl
  | 0, _, _, _ => rfl
  | f + 1, v, tl, hm => by
    have hJ := srS_PJ hr hi hn i
    have hv := hJ.inn v hm
    have e : (srP rows ini).getD v.toNat 0 = (srS rows ini i).2.getD v.toNat 0 := srS_keep hr hil hv.1 hm
    rw [bkw, bkw, e]
    split
    · rename_i h
      refine srS_bkw hr hi hn hil f _ _ ?_
      obtain ⟨k, hk, rfl⟩ := List.mem_iff_getElem.1 hm
      rcases hJ.pre k hk with h1 | ⟨j, hj, _, h2⟩
      · omega
      · rw [h2]; exact List.getElem_mem _
    · rfl
/-- a shortest path to a node with a property -/
def shL (rows : List (List Int)) (ini : List Int) (G : Int → Bool) : List Int := match (srQ rows ini).find? G with
  | none => []
  | some v => bkw (srP rows ini) rows.length v []
theorem shL_found (hr : ∀ r ∈ rows, InN rows.length r) (hi : InN rows.length ini) (hn : ini.Nodup) {G : Int → Bool} {i : Nat} (hil : i < (srS rows ini i).1.length) (hG : G (srS rows ini i).1[i] = true) (hk : ∀ k (_ : k < i), G ((srS rows ini i).1[k]) = false) :
    shL rows ini G = bkw (srS rows ini i).2 rows.length (srS rows ini i).1[i] [] := by
  have hle : i ≤ rows.length := Nat.le_of_lt (Nat.lt_of_lt_of_le hil (srS_len hr hi hn i))
  obtain ⟨t, ht⟩ := srS_pre (rows := rows) (ini := ini) hle
  have : (srQ rows ini).find? G = some (srS rows ini i).1[i] := by
    show (srS rows ini rows.length).1.find? G = _
    rw [ht, List.find?_append]
    have : (srS rows ini i).1.find? G = some (srS rows ini i).1[i] := by
      rw [List.find?_eq_some_iff_getElem]
      exact ⟨hG, i, hil, rfl, fun j hj => by rw [hk j hj]; rfl⟩
    rw [this]; rfl
  unfold shL
  rw [this]
  exact (srS_bkw hr hi hn hle _ _ _ (List.getElem_mem _)).symm
theorem shL_none {G : Int → Bool} {i : Nat} (hil : (srS rows ini i).1.length ≤ i) (hle : i ≤ rows.length) (hk : ∀ k (h : k < (srS rows ini i).1.length), G ((srS rows ini i).1[k]) = false) : shL rows ini G = [] := by
  have e := srS_end (ini := ini) hil hle
  have : (srQ rows ini).find? G = none := by
    rw [List.find?_eq_none]
    intro x hx
    have e1 : (srS rows ini i).1 = srQ rows ini := by rw [e]
    rw [← e1] at hx
    obtain ⟨k, hk', rfl⟩ := List.mem_iff_getElem.1 hx
    rw [hk k hk']; simp
  unfold shL
  rw [this]

/-- the cycle through a node, as the program finds it -/
def aroL (rows : List (List Int)) (v : Int) : List Int := if v ∈ rows.getD v.toNat [] then [v] else shL rows [v] fun n => decide (n ≠ v) && decide (v ∈ rows.getD n.toNat [])
theorem aroL_eq (v : Int) : aroL rows v = cycL rows v := by
  unfold aroL cycL
  split
  · rfl
  · rename_i h
    unfold shL
    have key : ∀ l : List Int, (match l.find? (fun n => decide (n ≠ v) && decide (v ∈ rows.getD n.toNat [])) with | none => [] | some u => bkw (srP rows [v]) rows.length u []) = cycT rows (srP rows [v]) v l := by
      intro l
      induction l with
      | nil => rfl
      | cons u l ih =>
        rw [List.find?_cons, cycT]
        by_cases hu : v ∈ rows.getD u.toNat []
        · have hne : u ≠ v := fun e => by rw [e] at hu; exact h hu
          rw [decide_eq_true hu, decide_eq_true hne, if_pos hu]; rfl
        · rw [decide_eq_false hu, Bool.and_false, if_neg hu]
          exact ih
    exact key _
theorem RP.head {v u : Int} (h : RP rows [v] u) : u = v ∨ ∃ y, y ∈ rows.getD v.toNat [] ∧ RP rows [y] u := by
  induction h with
  | base hb => exact .inl (List.mem_singleton.1 hb)
  | step _ e ih =>
    rcases ih with rfl | ⟨y, hy, h2⟩
    · exact .inr ⟨_, e, .base (by simp)⟩
    · exact .inr ⟨y, hy, .step h2 e⟩
theorem cycL_iff (hr : ∀ r ∈ rows, InN rows.length r) {v : Int} (hv : 0 ≤ v ∧ v < rows.length) : 0 < (cycL rows v).length ↔ Cyc rows v := by
  have hq : ∀ x, x ∈ srQ rows [v] ↔ RP rows [v] x := fun x => by
    have := srS_fst (rows := rows) (ini := [v]) (by simp) rows.length
    show x ∈ (srS rows [v] rows.length).1 ↔ _
    rw [this]
    exact bfs_mem hr (one_in hv) x
  unfold cycL
  split
  · rename_i h
    exact ⟨fun _ => ⟨v, h, .base (by simp)⟩, fun _ => by simp⟩
  · rename_i h
    have key : ∀ l : List Int, 0 < (cycT rows (srP rows [v]) v l).length ↔ ∃ u ∈ l, v ∈ rows.getD u.toNat [] := by
      intro l
      induction l with
      | nil => simp [cycT]
      | cons u l ih =>
        rw [cycT]
        split
        · rename_i hu
          exact ⟨fun _ => ⟨u, by simp, hu⟩, fun _ => bkw_pos _ _ _ _⟩
        · rename_i hu
          rw [ih]
          constructor
          · rintro ⟨w, h1, h2⟩; exact ⟨w, by simp [h1], h2⟩
          · rintro ⟨w, h1, h2⟩
            rcases List.mem_cons.1 h1 with rfl | h1
            · exact absurd h2 hu
            · exact ⟨w, h1, h2⟩
    rw [key]
    constructor
    · rintro ⟨u, hu, hvu⟩
      rcases RP.head ((hq u).1 hu) with rfl | ⟨y, hy, h2⟩
      · exact absurd hvu h
      · exact ⟨y, hy, .step h2 hvu⟩
    · rintro ⟨y, hy, h1⟩
      cases h1 with
      | base hb => exact absurd (List.mem_singleton.1 hb ▸ hy) h
      | step h2 h3 => exact ⟨_, (hq _).2 (RP.trans (.base (by simp)) hy h2), h3⟩

/-- the first accepted node on a cycle: the way to it, and the cycle -/
noncomputable def lasL (rows : List (List Int)) (ini : List Int) (G : Int → Bool) : Option (List Int × List Int) := ((bfsL rows ini).find? fun v => G v && cycD rows v.toNat).map fun v => (bkw (srP rows ini) rows.length v [], cycL rows v)
theorem lasL_fin (hr : ∀ r ∈ rows, InN rows.length r) (hi : InN rows.length ini) (hn : ini.Nodup) (acc : List Bool) : lasL rows ini (fun v => acc.getD (v % acc.length).toNat false) = finS rows ini acc := by
  have e : bfsL rows ini = srQ rows ini := (srS_fst hn rows.length).symm
  have hin := srQ_in hr hi hn
  unfold lasL finS
  rw [e]
  generalize srQ rows ini = Q at *
  clear e
  induction Q with
  | nil => rfl
  | cons u Q ih =>
    have hu := hin u (by simp)
    have hc : cycD rows u.toNat = decide (0 < (cycL rows u).length) := by
      rw [Bool.eq_iff_iff, cycD_iff, decide_eq_true_iff, cycL_iff hr hu, Int.toNat_of_nonneg hu.1]
    have ih := ih fun x hx => hin x (by simp [hx])
    rw [List.find?_cons, finT]
    dsimp only
    rw [hc]
    by_cases ha : acc.getD (u % acc.length).toNat false = true
    · rw [if_pos ha, ha, Bool.true_and]
      by_cases hl : 0 < (cycL rows u).length
      · rw [if_pos hl, decide_eq_true hl]; rfl
      · rw [if_neg hl, decide_eq_false hl]
        exact ih
    · rw [if_neg ha, (Bool.not_eq_true _).mp ha, Bool.false_and]
      exact ih
/-- a shortest path to a node that is met -/
theorem shL_to (hn : ini.Nodup) {v : Int} (hv : v ∈ bfsL rows ini) : shL rows ini (fun n => decide (n = v)) = bkw (srP rows ini) rows.length v [] := by
  have e : bfsL rows ini = srQ rows ini := (srS_fst hn rows.length).symm
  rw [e] at hv
  unfold shL
  cases h : (srQ rows ini).find? (fun n => decide (n = v)) with
  | none => rw [List.find?_eq_none] at h; have := h v hv; simp at this
  | some u => have := List.find?_some h; rw [of_decide_eq_true this]
end
end Go.Gl

/- Reversal by swapping, and the way back as a chain. -/
namespace Go.Gl
theorem swp_len (l : List Int) (i j : Nat) : (swp l i j).length = l.length := by unfold swp; simp
theorem swp_at (l : List Int) {i j k : Nat} (hi : i < l.length) (hj : j < l.length) (hk : k < l.length) : (swp l i j)[k]'(by rw [swp_len]; exact hk) = if k = j then l[i] else if k = i then l[j] else l[k] := by
  unfold swp
  rw [List.getElem_set]
  by_cases h : j = k
  · rw [if_pos h, if_pos h.symm, z30 hi]
  · rw [if_neg h, if_neg (fun e => h e.symm), List.getElem_set]
    by_cases h2 : i = k
    · rw [if_pos h2, if_pos h2.symm, z30 hj]
    · rw [if_neg h2, if_neg (fun e => h2 e.symm)]
def chn (P : List Int) : Nat → Int → List Int
  | 0, v => [v]
  | f + 1, v => v :: if 0 ≤ P.getD v.toNat 0 then chn P f (P.getD v.toNat 0) else []
theorem bkw_chn (P : List Int) : ∀ (f : Nat) (v : Int) (tl : List Int), bkw P f v tl = (chn P f v).reverse ++ tl
  | 0, v, tl => rfl
  | f + 1, v, tl => by
    rw [bkw, chn]
    split
    · rw [bkw_chn P f]; simp
    · simp
theorem chn_pos (P : List Int) (f : Nat) (v : Int) : 1 ≤ (chn P f v).length := by cases f <;> simp [chn]
theorem revG_at : ∀ (f i j : Nat) (l : List Int), i + j + 1 = l.length → j + 1 ≤ 2 * f + 1 + i → ∀ k (h : k < (revG f i j l).length) (h' : k < l.length), (revG f i j l)[k] = if i ≤ k ∧ k ≤ j then l[l.length - 1 - k]'(by omega) else l[k]
  | 0, i, j, l, hij, hf, k, h, h' => by
    show l[k] = _
    split
    · congr 1; omega
    · rfl
  | f + 1, i, j, l, hij, hf, k, h, h' => by
    by_cases hlt : i < j
    · have e : revG (f + 1) i j l = revG f (i + 1) (j - 1) (swp l i j) := by rw [revG, if_pos hlt]
      have hk : k < (revG f (i + 1) (j - 1) (swp l i j)).length := by rw [← e]; exact h
      have ih := revG_at f (i + 1) (j - 1) (swp l i j) (by rw [swp_len]; omega) (by omega) k hk (by rw [swp_len]; exact h')
      have e2 : (revG (f + 1) i j l)[k] = (revG f (i + 1) (j - 1) (swp l i j))[k] := by simp only [e]
      rw [e2, ih]
      simp only [swp_len]
      by_cases h1 : i + 1 ≤ k ∧ k ≤ j - 1
      · rw [if_pos h1, if_pos (by omega), swp_at l (by omega) (by omega) (by omega), if_neg (by omega), if_neg (by omega)]
      · rw [if_neg h1, swp_at l (by omega) (by omega) h']
        by_cases h2 : k = j
        · rw [if_pos h2, if_pos (by omega)]; congr 1; omega
        · rw [if_neg h2]
          by_cases h3 : k = i
          · rw [if_pos h3, if_pos (by omega)]; congr 1; omega
          · rw [if_neg h3, if_neg (by omega)]
    · have e : revG (f + 1) i j l = l := by rw [revG, if_neg hlt]
      have e2 : (revG (f + 1) i j l)[k] = l[k] := by simp only [e]
      rw [e2]
      split
      · congr 1; omega
      · rfl
theorem rvs_eq (l : List Int) : rvs l = l.reverse := by
  by_cases h0 : l.length = 0
  · have : l = [] := List.eq_nil_of_length_eq_zero h0
    subst this; rfl
  · apply List.ext_getElem (by rw [rvs_len, List.length_reverse])
    intro k h1 h2
    have hk : k < l.length := by rw [rvs_len] at h1; exact h1
    have := revG_at l.length 0 (l.length - 1) l (by omega) (by omega) k h1 hk
    rw [List.getElem_reverse]
    refine this.trans ?_
    rw [if_pos (by omega)]
end Go.Gl

/- The least ranks, as the document computes them. -/
namespace Go.Gl
def Bd (M : Int) (R : List Int) : Prop := ∀ x ∈ R, -1 ≤ x ∧ x ≤ M
theorem Bd.getD {M : Int} {R : List Int} (h : Bd M R) (hM : 0 ≤ M) (i : Nat) : -1 ≤ R.getD i 0 ∧ R.getD i 0 ≤ M := by
  by_cases hl : i < R.length
  · rw [z30 hl]; exact h _ (List.getElem_mem _)
  · rw [List.getD_eq_getElem?_getD, List.getElem?_eq_none (by omega)]; exact ⟨by show -1 ≤ (0 : Int); omega, hM⟩
theorem Bd.mono {M M' : Int} {R : List Int} (h : Bd M R) (hM : M ≤ M') : Bd M' R := fun x hx => by have := h x hx; omega
theorem Bd.set {M : Int} {R : List Int} (h : Bd M R) {i : Nat} {v : Int} (hv : -1 ≤ v ∧ v ≤ M) : Bd M (R.set i v) := fun x hx => by
  rcases List.mem_or_eq_of_mem_set hx with h1 | rfl
  · exact h x h1
  · exact hv
end Go.Gl

/- The least ranks: how they are reached, and that they exist without an accepted cycle. -/
namespace Go.Gl
def wtA (acc : List Bool) (u : Int) : Int := if acc.getD (u % acc.length).toNat false = true then 1 else 0
/-- the most accepting nodes on a walk of k steps -/
def Wt (rows : List (List Int)) (acc : List Bool) : Nat → Int → Int
  | 0, _ => 0
  | k + 1, u => (rows.getD u.toNat []).foldl (fun o v => max o (Wt rows acc k v + wtA acc u)) 0
section
variable {rows : List (List Int)} {ini : List Int} {acc : List Bool}
def IncW (rows : List (List Int)) (acc : List Bool) (k : Nat) (u : Int) : Prop := Wt rows acc k u < Wt rows acc (k + 1) u
structure ChW (rows : List (List Int)) (acc : List Bool) (k : Nat) (c : Nat → Int) : Prop where
  step : ∀ i, i < k → c i ∈ rows.getD (c (i + 1)).toNat [] ∧ Wt rows acc (i + 2) (c (i + 1)) = Wt rows acc (i + 1) (c i) + wtA acc (c (i + 1))
  inc : ∀ i, i ≤ k → IncW rows acc i (c i)
theorem ChW.reach {k : Nat} {c : Nat → Int} (h : ChW rows acc k c) {i : Nat} : ∀ d, i + d ≤ k → RP rows [c (i + d)] (c i)
  | 0, _ => .base (by simp)
  | d + 1, hd => RP.trans (.base (by simp [Nat.add_assoc])) (h.step (i + d) (by omega)).1 (h.reach d (by omega))
theorem ChW.flat {k : Nat} {c : Nat → Int} (h : ChW rows acc k c) {j : Nat} : ∀ d, j + d ≤ k → (∀ l, j < l → l ≤ j + d → wtA acc (c l) = 0) → Wt rows acc (j + d + 1) (c (j + d)) = Wt rows acc (j + 1) (c j)
  | 0, _, _ => rfl
  | d + 1, hd, hl => by
    have h1 := (h.step (j + d) (by omega)).2
    have h2 := h.flat d (by omega) fun l h1 h2 => hl l h1 (by omega)
    have h3 := hl (j + d + 1) (by omega) (by omega)
    have e : j + (d + 1) = j + d + 1 := by omega
    rw [e, h1, h3, h2]; omega
end

section
variable {rows : List (List Int)} {ini : List Int} {acc : List Bool}
end
end Go.Gl

/- What the search for an accepted trace answers. -/
namespace Go.Gl
section
variable {rows : List (List Int)} {ini : List Int}
theorem lasL_some {G : Int → Bool} {p q : List Int} (h : lasL rows ini G = some (p, q)) : ∃ v, v ∈ bfsL rows ini ∧ G v = true ∧ cycD rows v.toNat = true ∧ p = bkw (srP rows ini) rows.length v [] ∧ q = cycL rows v := by
  unfold lasL at h
  rw [Option.map_eq_some_iff] at h
  obtain ⟨v, hv, he⟩ := h
  have h1 := List.find?_some hv
  have h2 := List.mem_of_find?_eq_some hv
  obtain ⟨h3, h4⟩ := Bool.and_eq_true_iff.1 h1
  cases he
  exact ⟨v, h2, h3, h4, rfl, rfl⟩
theorem lasL_bd (hr : ∀ r ∈ rows, InN rows.length r) (hi : InN rows.length ini) (hn : ini.Nodup) {G : Int → Bool} {p q : List Int} (h : lasL rows ini G = some (p, q)) :
    (∀ x ∈ p, 0 ≤ x ∧ x ≤ rows.length) ∧ (∀ x ∈ q, 0 ≤ x ∧ x ≤ rows.length) ∧ p.length ≤ rows.length + 1 ∧ q.length ≤ rows.length + 1 ∧ 1 ≤ p.length ∧ 1 ≤ q.length := by
  obtain ⟨v, hv, _, hc, rfl, rfl⟩ := lasL_some h
  have hvN := bfs_in hr hi _ v hv
  have h1 := bkw_len (srP rows ini) rows.length v []
  refine ⟨fun x hx => ⟨bkw_nn _ _ _ hvN.1 (by simp) x hx, bkw_le (srS_le hr hi hn rows.length) _ _ _ (by omega) (by omega) (by simp) x hx⟩, fun x hx => ⟨cycL_nn hr hvN x hx, cycL_le hr hvN x hx⟩, by rw [List.length_nil] at h1; omega, cycL_len _ _, bkw_pos _ _ _ _, ?_⟩
  have := (cycL_iff hr hvN).2 (by have := cycD_iff.1 hc; rwa [Int.toNat_of_nonneg hvN.1] at this)
  omega
end
end Go.Gl

/- Sequences of draws. -/
namespace Go.Gl
end Go.Gl

/- Ghost logic, part V: what reads as data of a type, is a value of a Lean type. -/
namespace Go.Gl
open Go.RowKit Go.WideShapes Go.ChangeShapes
variable {P : Program}

def OpensD {α : Type} (P : Program) (t : TypeId) (enc : α → List AC) (ok : α → Prop) : Prop := ∀ k, Opens P t (fun xs => ∃ a, xs = enc a ∧ ok a) k

theorem od_int {t : TypeId} (ht : P.underlying t = some (.int .i64)) {enc : Int → List AC} (he : ∀ n, enc n = [.int n]) : OpensD P t enc (fun n => (Lit.int .i64 n).wf = true) := fun k =>
  (opens_int ht k).imp fun xs ⟨n, h1, h2⟩ => ⟨n, h1.trans (he n).symm, h2⟩
theorem od_bool {t : TypeId} (ht : P.underlying t = some .bool) {enc : Bool → List AC} (he : ∀ n, enc n = [.bool n]) : OpensD P t enc (fun _ => True) := fun k =>
  (opens_bool ht k).imp fun xs ⟨n, h1⟩ => ⟨n, h1.trans (he n).symm, trivial⟩

theorem choose_map {α : Type} {enc : α → List AC} {ok : α → Prop} : (es : List (List AC)) → (∀ y ∈ es, ∃ a, y = enc a ∧ ok a) → ∃ l : List α, es = l.map enc ∧ ∀ a ∈ l, ok a
  | [], _ => ⟨[], rfl, fun _ h => by cases h⟩
  | e :: es, h => by
    obtain ⟨a, h1, h2⟩ := h e (by simp)
    obtain ⟨l, h3, h4⟩ := choose_map es fun y hy => h y (by simp [hy])
    exact ⟨a :: l, by rw [h1, h3]; rfl, fun b hb => by
      rcases List.mem_cons.1 hb with rfl | hb
      · exact h2
      · exact h4 b hb⟩

theorem opens_list {α : Type} {t e : TypeId} {enc : α → List AC} {ok : α → Prop} {n k : Nat} (ht : P.underlying t = some (.slice e)) (hc : P.cellsOf e = n) (hn : 0 < n) (h : Opens P e (fun xs => ∃ a, xs = enc a ∧ ok a) k) :
    Opens P t (fun xs => ∃ l : List α, xs = [.list n l.length (l.map enc)] ∧ l.length ≤ maxLen ∧ ∀ a ∈ l, ok a) (k + 1) :=
  (opens_slice ht hc hn h).imp fun xs ⟨es, h1, h2, h3⟩ => by
    obtain ⟨l, rfl, h4⟩ := choose_map es h3
    exact ⟨l, by rw [h1]; simp, by simpa using h2, h4⟩

theorem od_list {α : Type} {t e : TypeId} {enc : α → List AC} {ok : α → Prop} (n : Nat) (ht : P.underlying t = some (.slice e)) (hc : P.cellsOf e = n) (hn : 0 < n) (h : OpensD P e enc ok) {encL : List α → List AC} (he : ∀ l, encL l = [.list n l.length (l.map enc)]) :
    OpensD P t encL (fun l => l.length ≤ maxLen ∧ ∀ a ∈ l, ok a)
  | 0 => opens_zero
  | k + 1 => (opens_list ht hc hn (h k)).imp fun xs ⟨l, h1, h2⟩ => ⟨l, h1.trans (he l).symm, h2⟩

theorem OpensD.imp {α β : Type} {t : TypeId} {enc : α → List AC} {ok : α → Prop} {enc' : β → List AC} {ok' : β → Prop} (h : OpensD P t enc ok) (hi : ∀ a, ok a → ∃ b, enc a = enc' b ∧ ok' b) : OpensD P t enc' ok' := fun k =>
  (h k).imp fun xs ⟨a, h1, h2⟩ => by
    obtain ⟨b, h3, h4⟩ := hi a h2
    exact ⟨b, h1.trans h3, h4⟩

theorem od_struct2 {α β γ : Type} {t : TypeId} {F1 F2 : Field} {e1 : α → List AC} {ok1 : α → Prop} {e2 : β → List AC} {ok2 : β → Prop} {enc : γ → List AC} (mk : α → β → γ) (ht : P.underlying t = some (.struct #[F1, F2])) (o1 : F1.offset = 0) (o2 : F2.offset = 0 + P.cellsOf F1.type) (hs : P.cellsOf F1.type + (P.cellsOf F2.type + 0) = P.cellsOf t)
    (h1 : OpensD P F1.type e1 ok1) (h2 : OpensD P F2.type e2 ok2) (he : ∀ a b, enc (mk a b) = e1 a ++ (e2 b ++ [])) : OpensD P t enc (fun x => ∃ a b, x = mk a b ∧ ok1 a ∧ ok2 b)
  | 0 => opens_zero
  | k + 1 => opens_struct (fs := [F1, F2]) ht (by simpa using hs) ⟨o1, _, (fun xs => ∃ b, xs = e2 b ++ [] ∧ ok2 b), h1 k, ⟨o2, _, _, h2 k, rfl (a := ([] : List AC)), by
      rintro _ _ ⟨b, rfl, h⟩ rfl
      exact ⟨b, rfl, h⟩⟩, by
      rintro _ _ ⟨a, rfl, h⟩ ⟨b, rfl, h'⟩
      exact ⟨mk a b, (he a b).symm, a, b, rfl, h, h'⟩⟩

theorem od_struct3 {α β γ δ : Type} {t : TypeId} {F1 F2 F3 : Field} {e1 : α → List AC} {ok1 : α → Prop} {e2 : β → List AC} {ok2 : β → Prop} {e3 : γ → List AC} {ok3 : γ → Prop} {enc : δ → List AC} (mk : α → β → γ → δ) (ht : P.underlying t = some (.struct #[F1, F2, F3])) (o1 : F1.offset = 0) (o2 : F2.offset = 0 + P.cellsOf F1.type) (o3 : F3.offset = 0 + P.cellsOf F1.type + P.cellsOf F2.type)
    (hs : P.cellsOf F1.type + (P.cellsOf F2.type + (P.cellsOf F3.type + 0)) = P.cellsOf t) {k : Nat}
    (h1 : Opens P F1.type (fun xs => ∃ a, xs = e1 a ∧ ok1 a) k) (h2 : Opens P F2.type (fun xs => ∃ a, xs = e2 a ∧ ok2 a) k) (h3 : Opens P F3.type (fun xs => ∃ a, xs = e3 a ∧ ok3 a) k) (he : ∀ a b c, enc (mk a b c) = e1 a ++ (e2 b ++ (e3 c ++ []))) : Opens P t (fun xs => ∃ x, xs = enc x ∧ ∃ a b c, x = mk a b c ∧ ok1 a ∧ ok2 b ∧ ok3 c) (k + 1) :=
  opens_struct (fs := [F1, F2, F3]) ht (by simpa using hs) ⟨o1, _, (fun xs => ∃ b c, xs = e2 b ++ (e3 c ++ []) ∧ ok2 b ∧ ok3 c), h1, ⟨o2, _, (fun xs => ∃ b, xs = e3 b ++ [] ∧ ok3 b), h2, ⟨o3, _, _, h3, rfl (a := ([] : List AC)), by
      rintro _ _ ⟨b, rfl, h⟩ rfl
      exact ⟨b, rfl, h⟩⟩, by
      rintro _ _ ⟨b, rfl, h⟩ ⟨c, rfl, h'⟩
      exact ⟨b, c, rfl, h, h'⟩⟩, by
      rintro _ _ ⟨a, rfl, h⟩ ⟨b, c, rfl, h', h''⟩
      exact ⟨mk a b c, (he a b c).symm, a, b, c, rfl, h, h', h''⟩⟩

theorem OpensD.of_succ {α : Type} {t : TypeId} {enc : α → List AC} {ok : α → Prop} (h : ∀ k, Opens P t (fun xs => ∃ a, xs = enc a ∧ ok a) (k + 1)) : OpensD P t enc ok
  | 0 => opens_zero
  | k + 1 => h k

theorem od_struct4 {α β γ δ ε : Type} {t : TypeId} {F1 F2 F3 F4 : Field} {e1 : α → List AC} {ok1 : α → Prop} {e2 : β → List AC} {ok2 : β → Prop} {e3 : γ → List AC} {ok3 : γ → Prop} {e4 : δ → List AC} {ok4 : δ → Prop} {enc : ε → List AC} (mk : α → β → γ → δ → ε) (ht : P.underlying t = some (.struct #[F1, F2, F3, F4])) (o1 : F1.offset = 0) (o2 : F2.offset = 0 + P.cellsOf F1.type) (o3 : F3.offset = 0 + P.cellsOf F1.type + P.cellsOf F2.type)
    (o4 : F4.offset = 0 + P.cellsOf F1.type + P.cellsOf F2.type + P.cellsOf F3.type) (hs : P.cellsOf F1.type + (P.cellsOf F2.type + (P.cellsOf F3.type + (P.cellsOf F4.type + 0))) = P.cellsOf t) {k : Nat}
    (h1 : Opens P F1.type (fun xs => ∃ a, xs = e1 a ∧ ok1 a) k) (h2 : Opens P F2.type (fun xs => ∃ a, xs = e2 a ∧ ok2 a) k) (h3 : Opens P F3.type (fun xs => ∃ a, xs = e3 a ∧ ok3 a) k) (h4 : Opens P F4.type (fun xs => ∃ a, xs = e4 a ∧ ok4 a) k) (he : ∀ a b c d, enc (mk a b c d) = e1 a ++ (e2 b ++ (e3 c ++ (e4 d ++ [])))) : Opens P t (fun xs => ∃ x, xs = enc x ∧ ∃ a b c d, x = mk a b c d ∧ ok1 a ∧ ok2 b ∧ ok3 c ∧ ok4 d) (k + 1) :=
  opens_struct (fs := [F1, F2, F3, F4]) ht (by simpa using hs) ⟨o1, _, (fun xs => ∃ b c d, xs = e2 b ++ (e3 c ++ (e4 d ++ [])) ∧ ok2 b ∧ ok3 c ∧ ok4 d), h1, ⟨o2, _, (fun xs => ∃ c d, xs = e3 c ++ (e4 d ++ []) ∧ ok3 c ∧ ok4 d), h2, ⟨o3, _, (fun xs => ∃ b, xs = e4 b ++ [] ∧ ok4 b), h3, ⟨o4, _, _, h4, rfl (a := ([] : List AC)), by
      rintro _ _ ⟨b, rfl, h⟩ rfl
      exact ⟨b, rfl, h⟩⟩, by
      rintro _ _ ⟨b, rfl, h⟩ ⟨c, rfl, h'⟩
      exact ⟨b, c, rfl, h, h'⟩⟩, by
      rintro _ _ ⟨b, rfl, h⟩ ⟨c, d, rfl, h'⟩
      exact ⟨b, c, d, rfl, h, h'⟩⟩, by
      rintro _ _ ⟨a, rfl, h⟩ ⟨b, c, d, rfl, h'⟩
      exact ⟨mk a b c d, (he a b c d).symm, a, b, c, d, rfl, h, h'⟩⟩

/-- an argument -/
def ArgD {α : Type} (P : Program) (t : TypeId) (enc : α → AC) (ok : α → Prop) : Prop := ArgOk P t fun x _ => ∃ a, x = enc a ∧ ok a

theorem ArgOk.imp {t : TypeId} {R R' : AC → Nat → Prop} (h : ArgOk P t R) (hi : ∀ x m, R x m → R' x m) : ArgOk P t R' := fun H enc b hB W r b0 v d ps hv hk => by
  obtain ⟨x, m, h1, h2⟩ := h H enc b hB W r b0 v d ps hv hk
  exact ⟨x, m, hi _ _ h1, h2⟩

theorem argD_list {α : Type} {t e : TypeId} {enc : α → List AC} {ok : α → Prop} {enc1 : α → AC} (ht : P.underlying t = some (.slice e)) (h : OpensD P t enc ok) (he : ∀ a, enc a = [enc1 a]) : ArgD P t enc1 ok :=
  (argOk_slice ht h).imp fun x m ⟨⟨a, h1, h2⟩, _⟩ => ⟨a, by rw [he] at h1; exact (List.cons.inj h1).1, h2⟩
theorem argD_struct {α : Type} {t : TypeId} {fs : Array Field} {enc : α → List AC} {ok : α → Prop} (ht : P.underlying t = some (.struct fs)) (h : OpensD P t enc ok) : ArgD P t (fun a => .agg (enc a)) ok :=
  (argOk_struct ht h).imp fun x m ⟨xs, h1, ⟨a, h2, h3⟩, _⟩ => ⟨a, by rw [h1, h2], h3⟩
theorem ArgD.imp {α β : Type} {t : TypeId} {enc : α → AC} {ok : α → Prop} {enc' : β → AC} {ok' : β → Prop} (h : ArgD P t enc ok) (hi : ∀ a, ok a → ∃ b, enc a = enc' b ∧ ok' b) : ArgD P t enc' ok' :=
  ArgOk.imp h fun x m ⟨a, h1, h2⟩ => by
    obtain ⟨b, h3, h4⟩ := hi a h2
    exact ⟨b, h1.trans h3, h4⟩

theorem ArgsOk.imp : {ts : List TypeId} → {R R' : List AC → Nat → Prop} → ArgsOk P ts R → (∀ xs m, R xs m → R' xs m) → ArgsOk P ts R'
  | [], _, _, h, hi => hi _ _ h
  | _ :: _, _, _, ⟨R1, R2, h1, h2, h3⟩, hi => ⟨R1, R2, h1, h2, fun a m as n ha has => hi _ _ (h3 a m as n ha has)⟩
theorem args_nil : ArgsOk P [] (fun xs _ => xs = []) := rfl
theorem args_cons {α : Type} {t : TypeId} {ts : List TypeId} {enc : α → AC} {ok : α → Prop} {R : List AC → Prop} (h : ArgD P t enc ok) (k : ArgsOk P ts (fun xs _ => R xs)) : ArgsOk P (t :: ts) (fun xs _ => ∃ a ys, xs = enc a :: ys ∧ ok a ∧ R ys) :=
  ⟨_, _, h, k, fun _ _ as _ ⟨b, h1, h2⟩ h3 => ⟨b, as, by rw [h1], h2, h3⟩⟩

theorem bulks_sizeOf {H : Type} : (l : List (DataW H)) → bulks SizeOf.sizeOf l + 1 ≤ SizeOf.sizeOf l
  | [] => by simp [bulks]
  | d :: r => by
    have := bulks_sizeOf r
    simp only [bulks, List.cons.sizeOf_spec]
    omega
theorem bulk_sizeOf {H : Type} : Bulk (H := H) SizeOf.sizeOf where
  lit l := by simp only [DataW.lit.sizeOf_spec]; omega
  nil := by simp
  slice es sp := by
    have := bulks_sizeOf es
    simp only [DataW.slice.sizeOf_spec]; omega
  agg ps := by
    have := bulks_sizeOf ps
    simp only [DataW.agg.sizeOf_spec]; omega
end Go.Gl

