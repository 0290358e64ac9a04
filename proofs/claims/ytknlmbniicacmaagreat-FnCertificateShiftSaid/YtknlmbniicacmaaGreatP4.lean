/- A part of the proofs over this program: T147, T148, T149, T150, T151, T152, T34, T35, T39, T24. -/
import Derived.Test.YtknlmbniicacmaaGreatG0
import Derived.Test.YtknlmbniicacmaaGreatG1
import Derived.Test.YtknlmbniicacmaaGreatG2
import Derived.Test.YtknlmbniicacmaaGreatG3
import Derived.Test.YtknlmbniicacmaaGreatP0
import Derived.Test.YtknlmbniicacmaaGreatP1
import Derived.Test.YtknlmbniicacmaaGreatP2
import Derived.Test.YtknlmbniicacmaaGreatP3
set_option linter.all false
namespace Go.Proofs.YtknlmbniicacmaaGreat
open Go.Gl
attribute [local irreducible] z48 AWP z76 z84 z81 RetS z103

theorem l6HasG_ok (x a : Int) (h0 : 0 ≤ x) (h1 : x ≤ 31) (h2 : 0 ≤ a) (h3 : a ≤ 5) : CallsA Tryz.prog 283 [.int x, .int a] [] (.bool (hasB x a)) [] := by
  have ha : a = 0 ∨ a = 1 ∨ a = 2 ∨ a = 3 ∨ a = 4 ∨ a = 5 := by omega
  have h5 : 0 ≤ x / 2 ^ a.toNat ∧ x / 2 ^ a.toNat ≤ 31 := by
    rcases ha with rfl | rfl | rfl | rfl | rfl | rfl <;> simp <;> omega
  have hw : IntKind.u64.wrap a = a := by
    rcases ha with rfl | rfl | rfl | rfl | rfl | rfl <;> decide
  refine z14 z29 Tryz.func283 rfl rfl 11 Tryz.ntmps283 (by simp) ?_
  repeat' ((first | (apply AWP.go ok; rfl) | (apply And.intro; omega)) <;> conv => whnf)
  refine And.intro (by unfold bitsOk; omega) ?_
  conv => whnf
  repeat' (((apply AWP.go ok; rfl)) <;> conv => whnf)
  all_goals (refine RetS.lay [] [] rfl rfl rfl ?_; refine RetS.done ?_ ?_ <;> (repeat' (first | exact LocLe.refl _ | exact F2.nil)))
structure BasL (B : List Tree) : Prop where
  len : B.length ≤ 5
  nd : B.Nodup
  sz : ∀ x ∈ B, x.sz ≤ 1000
  cl : ∀ x ∈ B, In (· ∈ B) x
  bk : ∀ x ∈ B, basicB x = true
  av : ∀ v, Tree.mk 2 v [] ∈ B → 0 ≤ v ∧ v ≤ 2
theorem BasL.mx {B : List Tree} (h : BasL B) : ∀ x ∈ B, x.mx := fun x hx => mx_of_sz x (by have := h.sz x hx; unfold maxLen; omega)
set_option maxHeartbeats 3200000 in
theorem l7Value_ok (B : List Tree) (hB : BasL B) (s : Int) (s0 : 0 ≤ s) (s1 : s ≤ 31) (t : Tree) (h : In (· ∈ B) t) : t.sz ≤ 1000 → CallsA Tryz.prog 246 [lst 3 Tree.cs' B, .int s, z65 Tree.cs' t] [] (.bool (vlB B s t)) [] := by
  have basic : ∀ t, t ∈ B → basicB t = true → CallsA Tryz.prog 246 [lst 3 Tree.cs' B, .int s, z65 Tree.cs' t] [] (.bool (sgB B s t)) [] := fun t ht hb => by
    have hl := hB.len
    have cF := l5Find_ok B (by omega) hB.mx t (hB.mx t ht)
    have hp := plc_mem ht
    have cH := l6HasG_ok s (plc B t) s0 s1 hp.1 (by omega)
    have e : idxF (fun x => decide (x = t)) B = plc B t := rfl
    rw [e] at cF
    unfold sgB
    generalize plc B t = p at *
    unfold basicB at hb
    have hb := of_decide_eq_true hb
    rw [Tree.arg_eq t] at cF ⊢
    refine z14 z29 Tryz.func246 rfl rfl 62 Tryz.ntmps246 (by simp) ?_
    repeat' ((first | (apply AWP.go ok; rfl) | (apply And.intro; omega) | (((with_reducible apply z45; omega)); intro _) | ((apply z8) <;> intro _) | (apply z10 (cF); rfl; rfl) | (apply z10 (cH); rfl; rfl)) <;> conv => whnf)
    all_goals first | (exfalso; omega) | (refine RetS.lay [] [] rfl rfl rfl ?_; refine RetS.done ?_ ?_ <;> (repeat' (first | exact LocLe.refl _ | exact F2.nil)))
  unfold vlB
  induction h with
  | tr =>
    intro _
    rw [vl_tr]
    refine z14 z29 Tryz.func246 rfl rfl 62 Tryz.ntmps246 (by simp) ?_
    repeat' (((apply AWP.go ok; rfl)) <;> conv => whnf)
    all_goals (refine RetS.lay [] [] rfl rfl rfl ?_; refine RetS.done ?_ ?_ <;> (repeat' (first | exact LocLe.refl _ | exact F2.nil)))
  | «at» v hb => intro _; rw [vl_at]; exact basic _ hb (by simp [basicB, Tree.kind])
  | nt =>
    intro _
    rw [vl_not, vl_tr]
    have c1 : CallsA Tryz.prog 246 [lst 3 Tree.cs' B, .int s, z65 Tree.cs' (.mk 1 0 [])] [] (.bool true) [] := by
      refine z14 z29 Tryz.func246 rfl rfl 62 Tryz.ntmps246 (by simp) ?_
      repeat' (((apply AWP.go ok; rfl)) <;> conv => whnf)
      all_goals (refine RetS.lay [] [] rfl rfl rfl ?_; refine RetS.done ?_ ?_ <;> (repeat' (first | exact LocLe.refl _ | exact F2.nil)))
    rw [argU]
    refine z14 z29 Tryz.func246 rfl rfl 62 Tryz.ntmps246 (by simp) ?_
    repeat' ((first | (apply AWP.go ok; rfl) | (refine ⟨_, rfl, ?_⟩) | (apply And.intro; omega) | (apply z10 (c1); rfl; rfl)) <;> conv => whnf)
    all_goals (refine RetS.lay [] [] rfl rfl rfl ?_; refine RetS.done ?_ ?_ <;> (repeat' (first | exact LocLe.refl _ | exact F2.nil)))
  | na v hb =>
    intro _
    rw [vl_not, vl_at]
    have c1 := basic _ hb (by simp [basicB, Tree.kind])
    rw [argU]
    refine z14 z29 Tryz.func246 rfl rfl 62 Tryz.ntmps246 (by simp) ?_
    repeat' ((first | (apply AWP.go ok; rfl) | (refine ⟨_, rfl, ?_⟩) | (apply And.intro; omega) | (apply z10 (c1); rfl; rfl)) <;> conv => whnf)
    all_goals (refine RetS.lay [] [] rfl rfl rfl ?_; refine RetS.done ?_ ?_ <;> (repeat' (first | exact LocLe.refl _ | exact F2.nil)))
  | an _ _ iha ihb =>
    rename_i a b _ _
    intro hs
    rw [sz_two] at hs
    have ca := iha (by omega)
    have cb := ihb (by omega)
    rw [vl_and, argB]
    generalize a.vl (sgB B s) = x at *
    generalize b.vl (sgB B s) = y at *
    cases x
    all_goals
      refine z14 z29 Tryz.func246 rfl rfl 62 Tryz.ntmps246 (by simp) ?_
      repeat' ((first | (apply AWP.go ok; rfl) | (refine ⟨_, rfl, ?_⟩) | (apply And.intro; omega) | (apply z10 (ca); rfl; rfl) | (apply z10 (cb); rfl; rfl)) <;> conv => whnf)
      all_goals (refine RetS.lay [] [] rfl rfl rfl ?_; refine RetS.done ?_ ?_ <;> (repeat' (first | exact LocLe.refl _ | exact F2.nil)))
  | or _ _ iha ihb =>
    rename_i a b _ _
    intro hs
    rw [sz_two] at hs
    have ca := iha (by omega)
    have cb := ihb (by omega)
    rw [vl_or, argB]
    generalize a.vl (sgB B s) = x at *
    generalize b.vl (sgB B s) = y at *
    cases x
    all_goals
      refine z14 z29 Tryz.func246 rfl rfl 62 Tryz.ntmps246 (by simp) ?_
      repeat' ((first | (apply AWP.go ok; rfl) | (refine ⟨_, rfl, ?_⟩) | (apply And.intro; omega) | (apply z10 (ca); rfl; rfl) | (apply z10 (cb); rfl; rfl)) <;> conv => whnf)
      all_goals (refine RetS.lay [] [] rfl rfl rfl ?_; refine RetS.done ?_ ?_ <;> (repeat' (first | exact LocLe.refl _ | exact F2.nil)))
  | nx hb _ _ => intro _; rw [vl_nx]; exact basic _ hb (by simp [basicB, Tree.kind])
  | un hb _ _ _ _ => intro _; rw [vl_un]; exact basic _ hb (by simp [basicB, Tree.kind])
  | re hb _ _ _ _ => intro _; rw [vl_re]; exact basic _ hb (by simp [basicB, Tree.kind])
end Go.Proofs.YtknlmbniicacmaaGreat

namespace Go.Proofs.YtknlmbniicacmaaGreat
open Go.Gl
attribute [local irreducible] z48 AWP z76 z84 z81 RetS z103

theorem csU (k v : Int) (a : Tree) : Tree.cs' (.mk k v [a]) = [.int k, .int v, .list 3 1 [Tree.cs' a]] := AC.agg.inj (argU k v a)
theorem csB2 (k v : Int) (a b : Tree) : Tree.cs' (.mk k v [a, b]) = [.int k, .int v, .list 3 2 [Tree.cs' a, Tree.cs' b]] := AC.agg.inj (argB k v a b)
inductive FormB (B : List Tree) : Tree → Prop
  | at (v : Int) : FormB B (.mk 2 v [])
  | nx (a : Tree) (ha : In (· ∈ B) a) (sa : a.sz ≤ 1000) : FormB B (.mk 6 0 [a])
  | un (a b : Tree) (ha : In (· ∈ B) a) (hb : In (· ∈ B) b) (sa : a.sz ≤ 1000) (sb : b.sz ≤ 1000) : FormB B (.mk 7 0 [a, b])
  | re (a b : Tree) (ha : In (· ∈ B) a) (hb : In (· ∈ B) b) (sa : a.sz ≤ 1000) (sb : b.sz ≤ 1000) : FormB B (.mk 8 0 [a, b])
theorem BasL.form {B : List Tree} (h : BasL B) {x : Tree} (hx : x ∈ B) : FormB B x := by
  have h1 := h.cl x hx
  have h2 := h.bk x hx
  have h3 := h.sz x hx
  cases h1 with
  | tr => simp [basicB, Tree.kind] at h2
  | «at» v _ => exact .at v
  | nt => simp [basicB, Tree.kind] at h2
  | na v _ => simp [basicB, Tree.kind] at h2
  | an _ _ => simp [basicB, Tree.kind] at h2
  | or _ _ => simp [basicB, Tree.kind] at h2
  | nx _ ha => rw [sz_one] at h3; exact .nx _ ha (by omega)
  | un _ ha hb => rw [sz_two] at h3; exact .un _ _ ha hb (by omega) (by omega)
  | re _ ha hb => rw [sz_two] at h3; exact .re _ _ ha hb (by omega) (by omega)
theorem folB_true {B : List Tree} {s t : Int} (h : ∀ i, i < B.length → folI B s t i = true) : folB B s t = true := by
  unfold folB; rw [List.all_eq_true]; exact fun i hi => h i (List.mem_range.1 hi)
theorem folB_false {B : List Tree} {s t : Int} {i : Nat} (hi : i < B.length) (h : folI B s t i = false) : folB B s t = false := by
  unfold folB; rw [List.all_eq_false]; exact ⟨i, List.mem_range.2 hi, by rw [h]; simp⟩

set_option maxHeartbeats 6400000 in
theorem l7Follows_ok (B : List Tree) (hB : BasL B) (s t : Int) (s0 : 0 ≤ s) (s1 : s ≤ 31) (t0 : 0 ≤ t) (t1 : t ≤ 31) : CallsA Tryz.prog 249 [lst 3 Tree.cs' B, .int s, .int t] [] (.bool (folB B s t)) [] := by
  have hl := hB.len
  refine z14 z29 Tryz.func249 rfl rfl 85 Tryz.ntmps249 (by simp) ?_
  repeat' (((apply AWP.go ok; rfl)) <;> conv => whnf)
  refine z115 (fun i : Nat => ([(0, lst 3 Tree.cs' B), (1, .int s), (2, .int t), (7, .int i)], [])) (fun i => i ≤ B.length ∧ ∀ j, j < i → folI B s t j = true) (fun i => B.length - i) 0 ⟨Nat.zero_le _, fun j h => absurd h (Nat.not_lt_zero _)⟩ (by refine SealW.reach [] [] rfl rfl rfl rfl ?_ ?_ <;> (repeat' (first | exact LocLe.refl _ | exact F2.nil | exact True.intro | apply And.intro))) ?_
  rintro i ⟨hi, hj⟩
  by_cases hil : i < B.length
  · have gk : (B.map Tree.cs')[i]? = some (Tree.cs' (B.getD i dftT)) := by rw [List.getElem?_map, List.getElem?_eq_getElem hil, z50 hil]; rfl
    have hf := hB.form (x := B.getD i dftT) (by rw [z50 hil]; exact List.getElem_mem _)
    have cw := l6HasG_ok s i s0 s1 (by omega) (by omega)
    have cn := l6HasG_ok t i t0 t1 (by omega) (by omega)
    have hI : folI B s t i = (folV B s t (B.getD i dftT) (hasB s i) (hasB t i) == hasB s i) := rfl
    have hT : folI B s t i = true → ∀ j, j < i + 1 → folI B s t j = true := fun h j hji => by
      rcases Nat.lt_or_ge j i with h3 | h3
      · exact hj j h3
      · obtain rfl : j = i := by omega
        exact h
    have hF : folI B s t i = false → folB B s t = false := folB_false hil
    rw [hI] at hT hF
    clear hI hj
    generalize B.getD i dftT = f at *
    generalize hasB s i = x at *
    generalize hasB t i = y at *
    cases hf with
    | «at» v =>
      have hT2 := hT (by simp [folV, Tree.kind])
      clear hT hF
      cases x
      all_goals
        repeat' ((first | (apply AWP.go ok; rfl) | (refine z43 (i := i) rfl gk ?_) | (apply And.intro; first | omega | (unfold inI; omega)) | ((apply z8) <;> intro _) | (apply z10 (cw); rfl; rfl)) <;> conv => whnf)
        all_goals first | (exfalso; omega) | skip
        all_goals refine z49 (i + 1) ⟨by omega, hT2⟩ (by omega) (by refine SealW.reach [] [] rfl rfl rfl rfl ?_ ?_ <;> (repeat' (first | exact LocLe.refl _ | exact F2.nil | exact True.intro | apply And.intro)))
    | nx a ha sa =>
      have ca := l7Value_ok B hB t t0 t1 a ha sa
      have e : folV B s t (.mk 6 0 [a]) x y = vlB B t a := by simp [folV, kidV, Tree.kind, Tree.kids]
      rw [e] at hT hF
      rw [csU] at gk
      clear e
      generalize vlB B t a = z at *
      cases x <;> cases z
      all_goals first | have hT := hT rfl | (have hF := hF rfl; rw [hF])
      all_goals
        repeat' ((first | (apply AWP.go ok; rfl) | (refine z43 (i := i) rfl gk ?_) | (refine ⟨_, rfl, ?_⟩) | (apply And.intro; first | omega | (unfold inI; omega)) | ((apply z8) <;> intro _) | (apply z10 (cw); rfl; rfl) | (apply z10 (ca); rfl; rfl)) <;> conv => whnf)
        all_goals first | (exfalso; omega) | skip
        all_goals first | (refine z49 (i + 1) ⟨by omega, hT⟩ (by omega) (by refine SealW.reach [] [] rfl rfl rfl rfl ?_ ?_ <;> (repeat' (first | exact LocLe.refl _ | exact F2.nil | exact True.intro | apply And.intro)))) | (refine RetS.lay [] [] rfl rfl rfl ?_; refine RetS.done ?_ ?_ <;> (repeat' (first | exact LocLe.refl _ | exact F2.nil)))
    | un a b ha hb sa sb =>
      have ca := l7Value_ok B hB s s0 s1 a ha sa
      have cb := l7Value_ok B hB s s0 s1 b hb sb
      have e : folV B s t (.mk 7 0 [a, b]) x y = (vlB B s b || (vlB B s a && y)) := by simp [folV, kidV, Tree.kind, Tree.kids]
      rw [e] at hT hF
      rw [csB2] at gk
      clear e
      generalize vlB B s a = z at *
      generalize vlB B s b = u at *
      cases x <;> cases y <;> cases z <;> cases u
      all_goals first | have hT := hT rfl | (have hF := hF rfl; rw [hF])
      all_goals
        repeat' ((first | (apply AWP.go ok; rfl) | (refine z43 (i := i) rfl gk ?_) | (refine ⟨_, rfl, ?_⟩) | (apply And.intro; first | omega | (unfold inI; omega)) | ((apply z8) <;> intro _) | (apply z10 (cw); rfl; rfl) | (apply z10 (cn); rfl; rfl) | (apply z10 (ca); rfl; rfl) | (apply z10 (cb); rfl; rfl)) <;> conv => whnf)
        all_goals first | (exfalso; omega) | skip
        all_goals first | (refine z49 (i + 1) ⟨by omega, hT⟩ (by omega) (by refine SealW.reach [] [] rfl rfl rfl rfl ?_ ?_ <;> (repeat' (first | exact LocLe.refl _ | exact F2.nil | exact True.intro | apply And.intro)))) | (refine RetS.lay [] [] rfl rfl rfl ?_; refine RetS.done ?_ ?_ <;> (repeat' (first | exact LocLe.refl _ | exact F2.nil)))
    | re a b ha hb sa sb =>
      have ca := l7Value_ok B hB s s0 s1 a ha sa
      have cb := l7Value_ok B hB s s0 s1 b hb sb
      have e : folV B s t (.mk 8 0 [a, b]) x y = (vlB B s b && (vlB B s a || y)) := by simp [folV, kidV, Tree.kind, Tree.kids]
      rw [e] at hT hF
      rw [csB2] at gk
      clear e
      generalize vlB B s a = z at *
      generalize vlB B s b = u at *
      cases x <;> cases y <;> cases z <;> cases u
      all_goals first | have hT := hT rfl | (have hF := hF rfl; rw [hF])
      all_goals
        repeat' ((first | (apply AWP.go ok; rfl) | (refine z43 (i := i) rfl gk ?_) | (refine ⟨_, rfl, ?_⟩) | (apply And.intro; first | omega | (unfold inI; omega)) | ((apply z8) <;> intro _) | (apply z10 (cw); rfl; rfl) | (apply z10 (cn); rfl; rfl) | (apply z10 (ca); rfl; rfl) | (apply z10 (cb); rfl; rfl)) <;> conv => whnf)
        all_goals first | (exfalso; omega) | skip
        all_goals first | (refine z49 (i + 1) ⟨by omega, hT⟩ (by omega) (by refine SealW.reach [] [] rfl rfl rfl rfl ?_ ?_ <;> (repeat' (first | exact LocLe.refl _ | exact F2.nil | exact True.intro | apply And.intro)))) | (refine RetS.lay [] [] rfl rfl rfl ?_; refine RetS.done ?_ ?_ <;> (repeat' (first | exact LocLe.refl _ | exact F2.nil)))
  · obtain rfl : i = B.length := by omega
    rw [folB_true fun j hji => hj j hji]
    repeat' ((first | (apply AWP.go ok; rfl) | (apply And.intro; omega) | (((with_reducible apply z13; omega)); intro _) | ((apply z8) <;> intro _)) <;> conv => whnf)
    all_goals first | (exfalso; omega) | (refine RetS.lay [] [] rfl rfl rfl ?_; refine RetS.done ?_ ?_ <;> (repeat' (first | exact LocLe.refl _ | exact F2.nil)))
end Go.Proofs.YtknlmbniicacmaaGreat

namespace Go.Proofs.YtknlmbniicacmaaGreat
open Go.Gl
attribute [local irreducible] z48 AWP z76 z84 z81 RetS z103

theorem l7Fulfils_ok (B : List Tree) (hB : BasL B) (s : Int) (s0 : 0 ≤ s) (s1 : s ≤ 31) (u : Nat) (hu : u < B.length) (hk : (B.getD u dftT).kind = 7) : CallsA Tryz.prog 285 [lst 3 Tree.cs' B, .int s, .int u] [] (.bool (fulB B s u)) [] := by
  have hl := hB.len
  have gk : (B.map Tree.cs')[u]? = some (Tree.cs' (B.getD u dftT)) := by rw [List.getElem?_map, List.getElem?_eq_getElem hu, z50 hu]; rfl
  have hf := hB.form (x := B.getD u dftT) (by rw [z50 hu]; exact List.getElem_mem _)
  have cw := l6HasG_ok s u s0 s1 (by omega) (by omega)
  have e : fulB B s u = (!hasB s u || kidV B s (B.getD u dftT) 1) := rfl
  rw [e]
  generalize B.getD u dftT = f at *
  generalize hasB s u = x at *
  cases hf with
  | «at» v => simp [Tree.kind] at hk
  | nx a _ _ => simp [Tree.kind] at hk
  | re a b _ _ _ _ => simp [Tree.kind] at hk
  | un a b ha hb sa sb =>
    have cb := l7Value_ok B hB s s0 s1 b hb sb
    rw [csB2] at gk
    have e2 : kidV B s (.mk 7 0 [a, b]) 1 = vlB B s b := by simp [kidV, Tree.kids]
    rw [e2]
    clear e e2
    generalize vlB B s b = y at *
    cases x
    all_goals
      refine z14 z29 Tryz.func285 rfl rfl 23 Tryz.ntmps285 (by simp) ?_
      repeat' ((first | (apply AWP.go ok; rfl) | (refine z43 (i := u) rfl gk ?_) | (refine ⟨_, rfl, ?_⟩) | (apply And.intro; omega) | (apply z10 (cw); rfl; rfl) | (apply z10 (cb); rfl; rfl)) <;> conv => whnf)
      all_goals skip
      all_goals (refine RetS.lay [] [] rfl rfl rfl ?_; refine RetS.done ?_ ?_ <;> (repeat' (first | exact LocLe.refl _ | exact F2.nil)))

def untL (B : List Tree) (i : Nat) : List Int := ((List.range i).filter fun i => decide ((B.getD i dftT).kind = 7)).map Int.ofNat
theorem untL_succ (B : List Tree) (i : Nat) : untL B (i + 1) = untL B i ++ (if (B.getD i dftT).kind = 7 then [(i : Int)] else []) := by
  unfold untL
  rw [List.range_succ, List.filter_append, List.map_append]
  congr 1
  by_cases h : (B.getD i dftT).kind = 7
  · rw [if_pos h, List.filter_cons_of_pos (by simpa using h)]; rfl
  · rw [if_neg h, List.filter_cons_of_neg (by simpa using h)]; rfl
theorem untL_len (B : List Tree) (i : Nat) : (untL B i).length ≤ i := by
  unfold untL
  rw [List.length_map]
  have := List.length_filter_le (fun i => decide ((B.getD i dftT).kind = 7)) (List.range i)
  simpa using this
theorem l7Untils_ok (B : List Tree) (hl : B.length ≤ 1000) : CallsA Tryz.prog 245 [lst 3 Tree.cs' B] [] (ints (untB B)) [] := by
  refine z14 z29 Tryz.func245 rfl rfl 23 Tryz.ntmps245 (by simp) ?_
  repeat' (((apply AWP.go ok; rfl)) <;> conv => whnf)
  refine z115 (fun x : Nat × List Int => ([(0, lst 3 Tree.cs' B), (3, .sref 0 0 x.2.length), (4, .int x.1)], [.cells 1 (x.2.map enI)])) (fun x => x.1 ≤ B.length ∧ untL B x.1 = x.2) (fun x => B.length - x.1) (0, []) ⟨Nat.zero_le _, rfl⟩ (by refine SealW.reach [0] [] rfl rfl rfl rfl ?_ ?_ <;> (repeat' (first | exact LocLe.refl _ | exact F2.nil | apply F2.cons | ((refine z17 rfl ?_ ?_); (focus ((repeat' (exact z12)); done))) | exact True.intro | apply And.intro))) ?_
  rintro ⟨i, U⟩ ⟨hi, hU⟩
  dsimp only at hi hU ⊢
  have hul := untL_len B i
  rw [hU] at hul
  by_cases hil : i < B.length
  · have gk : (B.map Tree.cs')[i]? = some (Tree.cs' (B.getD i dftT)) := by rw [List.getElem?_map, List.getElem?_eq_getElem hil, z50 hil]; rfl
    have hs := untL_succ B i
    rw [hU] at hs
    generalize B.getD i dftT = f at *
    by_cases hk : f.kind = 7
    · rw [if_pos hk] at hs
      repeat' ((first | (apply AWP.go ok; rfl) | (refine z43 (i := i) rfl gk ?_) | (apply And.intro; first | omega | (unfold inI; omega) | ((try dsimp only); simp only [List.length_map, List.length_take, List.length_append, List.length_replicate, List.length_cons, List.length_nil]; omega) | exact ⟨rfl, z21 rfl z26⟩) | ((apply z8) <;> intro _)) <;> conv => whnf)
      all_goals first | (exfalso; omega) | skip
      all_goals refine z49 (i + 1, U ++ [(i : Int)]) ⟨by show i + 1 ≤ _; omega, hs⟩ (by show B.length - (i + 1) < B.length - i; omega) (by refine SealW.reach [2] [] rfl rfl rfl rfl ?_ ?_ <;> (repeat' (first | exact LocLe.refl _ | exact F2.nil | apply F2.cons | (refine z37 ?_; ((simp; done))) | ((refine z24 rfl ?_ ?_); (focus ((repeat' (first | exact z4 (fun _ => rfl) | apply z15)); done))) | (refine z64 ?_ ?_; (focus (omega))) | exact True.intro | apply And.intro)))
    · rw [if_neg hk, List.append_nil] at hs
      repeat' ((first | (apply AWP.go ok; rfl) | (refine z43 (i := i) rfl gk ?_) | (apply And.intro; first | omega | (unfold inI; omega)) | ((apply z8) <;> intro _)) <;> conv => whnf)
      all_goals first | (exfalso; omega) | skip
      all_goals refine z49 (i + 1, U) ⟨by show i + 1 ≤ _; omega, hs⟩ (by show B.length - (i + 1) < B.length - i; omega) (by refine SealW.reach [0] [] rfl rfl rfl rfl ?_ ?_ <;> (repeat' (first | exact LocLe.refl _ | exact F2.nil | apply F2.cons | exact z20 _ | ((refine z17 rfl ?_ ?_); (focus ((repeat' ((exact z4 (fun _ => rfl)))); done))) | exact True.intro | apply And.intro)))
  · obtain rfl : i = B.length := by omega
    have e : untB B = U := hU
    rw [e]
    repeat' ((first | (apply AWP.go ok; rfl) | (apply And.intro; omega) | (((with_reducible apply z13; omega)); intro _) | ((apply z8) <;> intro _)) <;> conv => whnf)
    all_goals first | (exfalso; omega) | (refine RetS.lay [] [0] rfl rfl rfl ?_; refine RetS.done ?_ ?_ <;> (repeat' (first | exact LocLe.refl _ | exact F2.nil | ((apply z27 rfl rfl rfl); (focus ((repeat ((exact z23 (fun _ => rfl) _))); done)); (focus (((simp; done)); done))))))
theorem untB_mem {B : List Tree} {x : Int} (h : x ∈ untB B) : ∃ u : Nat, x = u ∧ u < B.length ∧ (B.getD u dftT).kind = 7 := by
  unfold untB at h
  obtain ⟨u, hu, rfl⟩ := List.mem_map.1 h
  obtain ⟨h1, h2⟩ := List.mem_filter.1 hu
  exact ⟨u, rfl, List.mem_range.1 h1, of_decide_eq_true h2⟩
theorem l7Phase_ok (B : List Tree) (hB : BasL B) (s : Int) (s0 : 0 ≤ s) (s1 : s ≤ 31) (ph : Nat) (hp : (untB B).length = 0 ∨ ph < (untB B).length) : CallsA Tryz.prog 247 [lst 3 Tree.cs' B, ints (untB B), .int s, .int ph] [] (.tup [.int (phB B (untB B) s ph).1, .bool (phB B (untB B) s ph).2]) [] := by
  have hl := hB.len
  have hul : (untB B).length ≤ B.length := untL_len B B.length
  have hm := fun x => @untB_mem B x
  unfold phB
  generalize untB B = U at *
  by_cases h0 : U.length = 0
  · rw [if_pos h0]
    refine z14 z29 Tryz.func247 rfl rfl 28 Tryz.ntmps247 (by simp) ?_
    repeat' ((first | (apply AWP.go ok; rfl) | (apply And.intro; omega) | (((with_reducible apply z13; omega)); intro _) | ((apply z8) <;> intro _)) <;> conv => whnf)
    all_goals first | (exfalso; omega) | (refine RetS.lay [] [] rfl rfl rfl ?_; refine RetS.done ?_ ?_ <;> (repeat' (first | exact LocLe.refl _ | exact F2.nil)))
  · rw [if_neg h0]
    have hpl : ph < U.length := by omega
    have gu : (U.map enI)[ph]? = some (enI (U.getD ph 0)) := by rw [List.getElem?_map, List.getElem?_eq_getElem hpl, z50 hpl]; rfl
    obtain ⟨u, e, hu, hk⟩ := hm (U.getD ph 0) (by rw [z50 hpl]; exact List.getElem_mem _)
    rw [e] at gu
    have cf := l7Fulfils_ok B hB s s0 s1 u hu hk
    rw [Int.toNat_natCast, e]
    generalize fulB B s u = z at *
    cases z
    · refine z14 z29 Tryz.func247 rfl rfl 28 Tryz.ntmps247 (by simp) ?_
      repeat' ((first | (apply AWP.go ok; rfl) | (refine z43 (i := ph) rfl gu ?_) | (apply And.intro; omega) | ((apply z8) <;> intro _) | (apply z10 (cf); rfl; rfl)) <;> conv => whnf)
      all_goals first | (exfalso; omega) | (refine RetS.lay [] [] rfl rfl rfl ?_; refine RetS.done ?_ ?_ <;> (repeat' (first | exact LocLe.refl _ | exact F2.nil)))
    · refine z14 z29 Tryz.func247 rfl rfl 28 Tryz.ntmps247 (by simp) ?_
      repeat' ((first | (apply AWP.go ok; rfl) | (refine z43 (i := ph) rfl gu ?_) | (apply And.intro; first | omega | (unfold inI; omega)) | ((apply z8) <;> intro _) | (apply z10 (cf); rfl; rfl)) <;> conv => whnf)
      all_goals first | (exfalso; omega) | skip
      all_goals (refine RetS.lay [] [] rfl rfl rfl ?_; refine RetS.done ?_ ?_ <;> (repeat' (first | exact LocLe.refl _ | exact F2.nil)))
end Go.Proofs.YtknlmbniicacmaaGreat

namespace Go.Proofs.YtknlmbniicacmaaGreat
open Go.Gl
attribute [local irreducible] z48 AWP z76 z84 z81 RetS z103

theorem atoI_foldl {B : List Tree} {s : Int} (i : Nat) : (List.range (i + 1)).foldl (atoI B s) (0, 0) = atoI B s ((List.range i).foldl (atoI B s) (0, 0)) i := by
  rw [List.range_succ, List.foldl_append]; rfl
theorem orP_lt {c k : Nat} (h : c < 8) (hk : k ≤ 2) : c ||| 2 ^ k < 8 := by
  have : k = 0 ∨ k = 1 ∨ k = 2 := by omega
  rcases this with rfl | rfl | rfl <;> exact Nat.or_lt_two_pow (n := 3) h (by decide)
set_option maxHeartbeats 3200000 in
theorem l7Letter_ok (B : List Tree) (hB : BasL B) (s : Int) (s0 : 0 ≤ s) (s1 : s ≤ 31) : CallsA Tryz.prog 248 [lst 3 Tree.cs' B, .int s] [] (.tup [.int (letB B s).1, .int (letB B s).2]) [] := by
  have hl := hB.len
  refine z14 z29 Tryz.func248 rfl rfl 44 Tryz.ntmps248 (by simp) ?_
  repeat' (((apply AWP.go ok; rfl)) <;> conv => whnf)
  refine z115 (fun x : Nat × Nat × Nat => ([(0, lst 3 Tree.cs' B), (1, .int s), (6, .int x.2.1), (7, .int x.2.2), (8, .int x.1)], [])) (fun x => x.1 ≤ B.length ∧ (List.range x.1).foldl (atoI B s) (0, 0) = x.2 ∧ x.2.1 < 8 ∧ x.2.2 < 8) (fun x => B.length - x.1) (0, 0, 0) ⟨Nat.zero_le _, rfl, by decide, by decide⟩ (by refine SealW.reach [] [] rfl rfl rfl rfl ?_ ?_ <;> (repeat' (first | exact LocLe.refl _ | exact F2.nil | exact True.intro | apply And.intro))) ?_
  rintro ⟨i, c, v⟩ ⟨hi, hf, hc, hv⟩
  dsimp only at hi hf hc hv ⊢
  by_cases hil : i < B.length
  · have gk : (B.map Tree.cs')[i]? = some (Tree.cs' (B.getD i dftT)) := by rw [List.getElem?_map, List.getElem?_eq_getElem hil, z50 hil]; rfl
    have hmem : B.getD i dftT ∈ B := by rw [z50 hil]; exact List.getElem_mem _
    have hform := hB.form hmem
    have cw := l6HasG_ok s i s0 s1 (by omega) (by omega)
    have hs := atoI_foldl (B := B) (s := s) i
    rw [hf] at hs
    unfold atoI at hs
    dsimp only at hs
    by_cases hk : (B.getD i dftT).kind = 2
    · rw [if_pos hk] at hs
      have hvv : ∃ a : Nat, (B.getD i dftT).val = a ∧ a ≤ 2 := by
        generalize B.getD i dftT = f at *
        cases hform with
        | «at» v => have := hB.av v hmem; exact ⟨v.toNat, by simp [Tree.val]; omega, by omega⟩
        | nx a _ _ => simp [Tree.kind] at hk
        | un a b _ _ _ _ => simp [Tree.kind] at hk
        | re a b _ _ _ _ => simp [Tree.kind] at hk
      obtain ⟨a, ea, ha⟩ := hvv
      have gk2 : (B.map Tree.cs')[i]? = some [.int 2, .int a, .list 3 (B.getD i dftT).kids.length ((B.getD i dftT).kids.map Tree.cs)] := by rw [gk, ← hk, ← ea]; rfl
      have o1 := orP_lt hc ha
      have o2 := orP_lt hv ha
      have e := shl_eq a (by omega)
      have hp := pow_bound (show a < 3 by omega)
      have hw : IntKind.u64.wrap (a : Int) = a := by
        have : a = 0 ∨ a = 1 ∨ a = 2 := by omega
        rcases this with rfl | rfl | rfl <;> rfl
      rw [ea, Int.toNat_natCast] at hs
      clear gk hform hmem hk ea
      generalize hasB s i = z at *
      generalize (B.getD i dftT).kids = ks at *
      cases z
      · rw [if_neg (by simp)] at hs
        repeat' ((first | (apply AWP.go ok; rfl) | (refine z43 (i := i) rfl gk2 ?_) | (apply And.intro; first | omega | (unfold inI; omega)) | ((apply z8) <;> intro _)) <;> conv => whnf)
        all_goals first | (exfalso; omega) | skip
        refine And.intro (by rw [e]; unfold bitsOk; omega) ?_
        conv => whnf
        repeat' ((first | (apply AWP.go ok; rfl) | (apply And.intro; (unfold inI; omega)) | (apply z10 (cw); rfl; rfl)) <;> conv => whnf)
        all_goals skip
        all_goals refine z49 (i + 1, c ||| 2 ^ a, v) ⟨by show i + 1 ≤ _; omega, hs, o1, hv⟩ (by show B.length - (i + 1) < B.length - i; omega) (by refine SealW.reach [] [] rfl rfl rfl rfl ?_ ?_ <;> (repeat' (first | exact LocLe.refl _ | exact F2.nil | exact True.intro | apply And.intro)) <;> ((rw [e]; exact LocLe.refl _)))
      · rw [if_pos rfl] at hs
        repeat' ((first | (apply AWP.go ok; rfl) | (refine z43 (i := i) rfl gk2 ?_) | (apply And.intro; first | omega | (unfold inI; omega)) | ((apply z8) <;> intro _)) <;> conv => whnf)
        all_goals first | (exfalso; omega) | skip
        refine And.intro (by rw [e]; unfold bitsOk; omega) ?_
        conv => whnf
        repeat' ((first | (apply AWP.go ok; rfl) | (refine z43 (i := i) rfl gk2 ?_) | (apply And.intro; first | omega | (unfold inI; omega)) | (apply z10 (cw); rfl; rfl)) <;> conv => whnf)
        all_goals skip
        refine And.intro (by rw [e]; unfold bitsOk; omega) ?_
        conv => whnf
        repeat' ((first | (apply AWP.go ok; rfl) | (apply And.intro; (unfold inI; omega))) <;> conv => whnf)
        all_goals refine z49 (i + 1, c ||| 2 ^ a, v ||| 2 ^ a) ⟨by show i + 1 ≤ _; omega, hs, o1, o2⟩ (by show B.length - (i + 1) < B.length - i; omega) (by refine SealW.reach [] [] rfl rfl rfl rfl ?_ ?_ <;> (repeat' (first | exact LocLe.refl _ | exact F2.nil | exact True.intro | apply And.intro)) <;> ((rw [e]; exact LocLe.refl _)))
    · rw [if_neg hk] at hs
      generalize B.getD i dftT = f at *
      repeat' ((first | (apply AWP.go ok; rfl) | (refine z43 (i := i) rfl gk ?_) | (apply And.intro; first | omega | (unfold inI; omega)) | ((apply z8) <;> intro _) | (apply z10 (cw); rfl; rfl)) <;> conv => whnf)
      all_goals first | (exfalso; omega) | skip
      all_goals refine z49 (i + 1, c, v) ⟨by show i + 1 ≤ _; omega, hs, hc, hv⟩ (by show B.length - (i + 1) < B.length - i; omega) (by refine SealW.reach [] [] rfl rfl rfl rfl ?_ ?_ <;> (repeat' (first | exact LocLe.refl _ | exact F2.nil | exact True.intro | apply And.intro)))
  · obtain rfl : i = B.length := by omega
    have e : letB B s = (c, v) := hf
    rw [e]
    repeat' ((first | (apply AWP.go ok; rfl) | (apply And.intro; omega) | (((with_reducible apply z13; omega)); intro _) | ((apply z8) <;> intro _)) <;> conv => whnf)
    all_goals first | (exfalso; omega) | (refine RetS.lay [] [] rfl rfl rfl ?_; refine RetS.done ?_ ?_ <;> (repeat' (first | exact LocLe.refl _ | exact F2.nil)))
end Go.Proofs.YtknlmbniicacmaaGreat

namespace Go.Proofs.YtknlmbniicacmaaGreat
open Go.Gl
attribute [local irreducible] z48 AWP z76 z84 z81 RetS z103

theorem l7Pair_ok (L : List (List Int)) (hL : L.length ≤ 1000) (hr : ∀ r ∈ L, r.length ≤ 1000) (p : List Int) (hp : p.length ≤ 1000) : CallsA Tryz.prog 250 [.sref 0 0 L.length, .sref 1 0 p.length] [.cells 1 (L.map encL), .cells 1 (p.map enI)] (.tup [.sref 2 0 (pairL L p).length, .int (pairI L p)]) [.dead, .dead, .cells 1 ((pairL L p).map encL)] := by
  have hc : ∀ i (h : i < L.length), CallsA Tryz.prog 227 [ints L[i], ints p] [] (.bool (decide (L[i] = p))) [] := fun i h => l2Ints_ok _ _ (by have := hr _ (List.getElem_mem h); unfold maxLen; omega) (by unfold maxLen; omega)
  refine z14 z29 Tryz.func250 rfl rfl 27 Tryz.ntmps250 (by simp) ?_
  refine AWP.reach (Reach.rnm 0 rfl) ?_
  refine AWP.reach (Reach.rnm 1 rfl) ?_
  conv => whnf
  repeat' (((apply AWP.go ok; rfl)) <;> conv => whnf)
  refine z115 (fun i : Nat => ([(0, .sref 2 0 L.length), (1, .sref 3 0 p.length), (6, .int i)], [.dead, .dead, .cells 1 (L.map encL), .cells 1 (p.map enI)])) (fun i => i ≤ L.length ∧ ∀ j (h : j < L.length), j < i → L[j] ≠ p) (fun i => L.length - i) 0 ⟨Nat.zero_le _, fun j _ h => absurd h (Nat.not_lt_zero _)⟩ (by refine SealW.reach [0, 1, 2, 3] [] rfl rfl rfl rfl ?_ ?_ <;> (repeat' (first | exact LocLe.refl _ | exact F2.nil | apply F2.cons | exact z20 _ | ((refine z17 rfl ?_ ?_); (focus ((repeat' ((exact z4 (fun _ => rfl)))); done))) | exact True.intro | apply And.intro))) ?_
  rintro i ⟨hi, hj⟩
  by_cases hil : i < L.length
  · have gk : (L.map encL)[i]? = some (encL L[i]) := by rw [List.getElem?_map, List.getElem?_eq_getElem hil]; rfl
    have c1 := hc i hil
    by_cases he : L[i] = p
    · have e1 : pairL L p = L := by unfold pairL; rw [if_pos (by rw [← he]; exact List.getElem_mem hil)]
      have e2 : pairI L p = i := by
        unfold pairI
        have h1 : p ∈ L := by rw [← he]; exact List.getElem_mem hil
        have h2 := List.idxOf_lt_length_of_mem h1
        have h3 := List.getElem_idxOf h2
        rcases Nat.lt_trichotomy (L.idxOf p) i with h | h | h
        · exact absurd h3 (hj _ h2 h)
        · exact h
        · exfalso
          have := List.not_of_lt_findIdx (p := (· == p)) (xs := L) (i := i) (by simpa [List.idxOf] using h)
          simp [he] at this
      rw [e1, e2]
      rw [decide_eq_true he] at c1
      generalize L[i] = q at *
      repeat' ((first | (apply AWP.go ok; rfl) | (refine z43 (i := i) rfl gk ?_) | (apply And.intro; omega) | ((apply z8) <;> intro _) | (((apply z7 [] [3] [] (c1); (focus ((repeat' first | exact z130 | apply z105) <;> first | exact z162 rfl rfl rfl | rfl)); (focus ((repeat' exact z6) <;> fail)))); rfl; rfl; rfl; rfl; rfl; (focus ((repeat' exact z19) <;> fail)); ((refine .inr ⟨rfl, ?_⟩; repeat' exact True.intro)))) <;> conv => whnf)
      all_goals first | (exfalso; omega) | skip
      all_goals (refine RetS.lay [0, 1, 2] [] rfl rfl rfl ?_; refine RetS.done ?_ ?_ <;> (repeat' (first | exact LocLe.refl _ | exact F2.nil | apply F2.cons | exact z20 _ | ((refine z17 rfl ?_ ?_); (focus ((repeat' ((exact z4 (fun _ => rfl)))); done))) | exact True.intro)))
    · rw [decide_eq_false he] at c1
      have hj2 : ∀ j (h : j < L.length), j < i + 1 → L[j] ≠ p := fun j h hji => by
        rcases Nat.lt_or_ge j i with h3 | h3
        · exact hj j h h3
        · obtain rfl : j = i := by omega
          exact he
      generalize L[i] = q at *
      repeat' ((first | (apply AWP.go ok; rfl) | (refine z43 (i := i) rfl gk ?_) | (apply And.intro; first | omega | (unfold inI; omega)) | ((apply z8) <;> intro _) | (((apply z7 [] [3] [] (c1); (focus ((repeat' first | exact z130 | apply z105) <;> first | exact z162 rfl rfl rfl | rfl)); (focus ((repeat' exact z6) <;> fail)))); rfl; rfl; rfl; rfl; rfl; (focus ((repeat' exact z19) <;> fail)); ((refine .inr ⟨rfl, ?_⟩; repeat' exact True.intro)))) <;> conv => whnf)
      all_goals first | (exfalso; omega) | skip
      all_goals refine z49 (i + 1) ⟨by omega, hj2⟩ (by omega) (by refine SealW.reach [0, 1, 2, 3] [] rfl rfl rfl rfl ?_ ?_ <;> (repeat' (first | exact LocLe.refl _ | exact F2.nil | apply F2.cons | exact z20 _ | ((refine z17 rfl ?_ ?_); (focus ((repeat' ((exact z4 (fun _ => rfl)))); done))) | exact True.intro | apply And.intro)))
  · have hn : p ∉ L := fun h => by
      obtain ⟨j, hjl, e⟩ := List.mem_iff_getElem.1 h
      exact hj j hjl (by omega) e
    have e1 : pairL L p = L ++ [p] := by unfold pairL; rw [if_neg hn]
    have e2 : pairI L p = L.length := by unfold pairI; exact List.idxOf_eq_length hn
    rw [e1, e2]
    obtain rfl : i = L.length := by omega
    repeat' ((first | (apply AWP.go ok; rfl) | (apply And.intro; first | omega | ((try dsimp only); simp only [List.length_map, List.length_take, List.length_append, List.length_replicate, List.length_cons, List.length_nil]; omega) | exact ⟨rfl, z21 rfl z26⟩) | (((apply z13; omega)); intro _) | ((apply z8) <;> intro _)) <;> conv => whnf)
    all_goals first | (exfalso; omega) | skip
    all_goals (refine RetS.lay [0, 1, 5] [3] rfl rfl rfl ?_; refine RetS.done ?_ ?_ <;> (repeat' (first | exact LocLe.refl _ | exact F2.nil | apply F2.cons | (refine z37 ?_; ((simp; done))) | ((refine z24 rfl ?_ ?_); (focus ((repeat' (first | exact z4 (fun _ => rfl) | apply z15)); done))) | (refine z64 ?_ ?_; (focus (omega))) | ((apply z41 rfl rfl rfl); (focus ((repeat ((exact z23 (fun _ => rfl) _))); done)); (focus (((simp; done)); done))) | apply z85 | exact True.intro)))
end Go.Proofs.YtknlmbniicacmaaGreat

namespace Go.Proofs.YtknlmbniicacmaaGreat
open Go.Gl
attribute [local irreducible] z48 AWP z76 z84 z81 RetS z103

def eT (e : Edg) : Trans := ⟨e.src, e.care, e.val, e.dst⟩
noncomputable def trOut (n0 : Nat) (x : TrS) : Aut := ⟨numI n0, if x.L.length = 0 then [false] else x.acc, x.ed.map eT⟩
noncomputable def trO (t : Tree) : Option Aut := if bscB t = true then (trS (bscL (t.nrm false)) (t.nrm false)).map (trOut (iniS (bscL (t.nrm false)) (t.nrm false)).length) else none
noncomputable def trA (t : Tree) : Aut := (trO t).getD ⟨[], [], []⟩
noncomputable def tsB (t : Tree) : Bool := (trO t).isSome
theorem basL_of {t : Tree} (ht : t.fmB = true) (hn : (t.nrm false).fmB = true) (h5 : (bscL (t.nrm false)).length ≤ 5) (hs : t.sz ≤ 200) : BasL (bscL (t.nrm false)) ∧ In (· ∈ bscL (t.nrm false)) (t.nrm false) ∧ (t.nrm false).sz ≤ 1000 := by
  have hg := Tree.goodF_of ht
  have hz := Tree.nrm_sz t hg false
  obtain ⟨a1, a2, a3, a4, a5, a6⟩ := bscL_facts (Tree.goodF_of hn) (nrm_NF t hg false)
  exact ⟨⟨h5, a1, fun x hx => by have := a2 x hx; omega, a3, a4, a5⟩, a6, by omega⟩
theorem pow_5 {n : Nat} (h : n ≤ 5) : 1 ≤ 2 ^ n ∧ 2 ^ n ≤ 32 := by
  have : n = 0 ∨ n = 1 ∨ n = 2 ∨ n = 3 ∨ n = 4 ∨ n = 5 := by omega
  rcases this with rfl | rfl | rfl | rfl | rfl | rfl <;> decide
set_option maxHeartbeats 12800000 in
theorem trans_new (t : Tree) (hs : t.sz ≤ 200) : CallsA Tryz.prog 202 [z65 Tree.cs' t] [] (.tup [.agg [.sref 0 0 (trA t).ini.length, .sref 1 0 (trA t).acc.length, .sref 2 0 (trA t).ed.length], .bool (tsB t)]) [.cells 1 ((trA t).ini.map enI), .cells 1 ((trA t).acc.map enB), .cells 4 ((trA t).ed.map Trans.cs)] := by
  have cb := basicF_ok t hs
  have cn := normalForm_ok t (by omega)
  unfold trA tsB trO
  by_cases h : bscB t = true
  · obtain ⟨⟨ht, hn⟩, h5⟩ := of_decide_eq_true (show decide _ = true from h)
    obtain ⟨hB, hIn, hsz⟩ := basL_of ht hn h5 hs
    rw [if_pos h] at cb ⊢
    rw [h] at cb
    rw [if_pos ⟨ht, hn⟩, decide_eq_true ⟨ht, hn⟩] at cn
    clear h ht hn
    generalize t.nrm false = g at *
    generalize bscL g = B at *
    have hp := pow_5 h5
    have cU := l7Untils_ok B (by omega)
    have hi0 := iniS_len B g
    have hul : (untB B).length ≤ B.length := untL_len B B.length
    have e2 : ((1 : Int) * 2 ^ ((B.length : Int).toNat)) = ((2 ^ B.length : Nat) : Int) := by
      rw [Int.toNat_natCast, Int.one_mul]; norm_cast
    have hw : IntKind.u64.wrap (B.length : Int) = B.length := by
      have : B.length = 0 ∨ B.length = 1 ∨ B.length = 2 ∨ B.length = 3 ∨ B.length = 4 ∨ B.length = 5 := by omega
      rcases this with h | h | h | h | h | h <;> rw [h] <;> rfl
    rw [Tree.arg_eq t] at cb cn ⊢
    have cV := fun s a b => l7Value_ok B hB s a b g hIn hsz
    rw [Tree.arg_eq g] at cn cV
    refine z14 z29 Tryz.func202 rfl rfl 137 Tryz.ntmps202 (by simp) ?_
    repeat' ((first | (apply AWP.go ok; rfl) | (apply z38; kernel_rfl) | (apply And.intro; first | omega | (unfold inI; omega) | (dsimp only; omega) | ((try dsimp only); simp only [List.length_map, List.length_take, List.length_append, List.length_replicate, List.length_cons, List.length_nil]; omega) | exact z18 (fun _ => rfl) | exact ⟨rfl, z21 rfl z26⟩ | exact ⟨rfl, z18 (fun _ => rfl) _⟩ | exact ⟨⟨rfl, by omega⟩, z18 (fun _ => rfl) _⟩) | ((first | (with_reducible apply z13; omega) | (with_reducible apply z45; omega) | (apply z13; omega)); intro _) | (apply z71; omega) | apply z66 | (apply z83; omega; intro _) | ((first | apply z93 | apply z72 | apply z92 | apply z109 | apply z8 | apply z30 | apply z53 | apply z56) <;> intro _) | (apply z10 (cb); rfl; rfl) | (apply z10 (cn); rfl; rfl) | (apply z10 (cU); rfl; rfl)) <;> conv => whnf)
    all_goals first | (exfalso; omega) | (exfalso; contradiction) | skip
    refine AWP.reach (Reach.empty 1 rfl) ?_
    refine AWP.reach (Reach.empty 1 rfl) ?_
    refine AWP.reach (Reach.empty 4 rfl) ?_
    refine z115 (fun x : Nat × List (List Int) × List Int => ([(2, .ptr 0 none 0), (4, lst 3 Tree.cs' B), (6, .ptr 1 none 0), (8, .int ((2 ^ B.length : Nat) : Int)), (9, ints (untB B)), (10, .ptr 2 none 0), (11, .sref 3 0 x.2.1.length), (12, .int x.1)], [.cells 3 [[.nils, .nils, .nils]], .cells 3 [[.int g.kind, .int g.val, lst 3 Tree.cs' g.kids]], .cells 3 [[.sref 4 0 x.2.2.length, .sref 5 0 0, .sref 6 0 0]], .cells 1 (x.2.1.map encL), .cells 1 (x.2.2.map enI), .cells 1 [], .cells 4 []])) (fun x => x.1 ≤ 2 ^ B.length ∧ iniK B (fun s => vlB B (s : Nat) g) x.1 = x.2.1 ∧ numI x.2.1.length = x.2.2) (fun x => 2 ^ B.length - x.1) (0, [], []) ⟨Nat.zero_le _, rfl, rfl⟩ (by refine SealW.reach [1, 2, 3, 4, 5, 6, 7] [] rfl rfl rfl rfl ?_ ?_ <;> (repeat' (first | exact LocLe.refl _ | exact z31 | (refine z87 ?_; assumption) | exact z40 | exact F2.nil | apply F2.cons | exact z75 _ | exact z20 _ | exact z102 | exact f22_cs' | (refine z110 ?_; omega) | (refine z96 ?_; omega) | (refine z44 ?_; omega) | (refine z78 ?_; omega) | (refine z37 ?_; (first | omega | (simp; done) | (simp; omega))) | apply ObjLe.box | ((first | refine z24 rfl ?_ ?_ | refine z57 rfl rfl ?_ ?_ | refine z51 rfl ?_ ?_ | refine z17 rfl ?_ ?_); (focus ((repeat' (first | exact z12 | exact z9 rfl | exact z4 (fun _ => rfl) | exact z4 Tree.co_flat | exact z54 rfl z12 | apply z11 | apply z15 | (refine z58 ?_ _ rfl) | assumption)); done))) | (refine z17 rfl ?_ ?_; (focus (refine z36 ?_ ?_ rfl <;> first | (simp; omega) | (apply z15; exact z4 fun _ => rfl)))) | (refine z46 ?_ ?_; (focus (simp; omega))) | (refine z73 (by omega) (by omega) ?_) | (refine z95 (by omega) ?_) | (refine z86 (by omega) ?_) | (refine z88 ?_; (first | omega | (simp; done))) | (refine z64 ?_ ?_; (focus (first | omega | (simp; done)))) | (refine z90 ?_ ?_; (focus (simp; done))) | (refine z89 ?_) | ((first | apply z27 rfl rfl rfl | apply z41 rfl rfl rfl); (focus ((repeat (first | exact z23 (fun _ => rfl) _ | exact z47 _ | apply z52 | apply z61 | apply z69 | rfl)); done)); (focus ((first | rfl | (simp; omega) | (simp; done)); done))) | apply z42 | apply z85 | (apply z32; rfl) | (refine z32 ?_ ?_; (focus (simp; done))) | apply ObjLe.mk | exact True.intro | apply And.intro)) <;> ((rw [e2]; exact LocLe.refl _))) ?_
    rintro ⟨k, L, N⟩ ⟨hk, hL, hN⟩
    dsimp only at hk hL hN ⊢
    have hLl := iniK_len B (fun s => vlB B (s : Nat) g) k
    rw [hL] at hLl
    have nl := numI_len L.length
    have ns := numI_succ L.length
    rw [hN] at nl ns
    by_cases hkl : k < 2 ^ B.length
    · have hsu := iniK_succ B (fun s => vlB B (s : Nat) g) k
      rw [hL] at hsu
      have cv := cV k (by omega) (by omega)
      generalize vlB B (k : Nat) g = z at *
      cases z
      · rw [if_neg (by simp), List.append_nil] at hsu
        repeat' ((first | (apply AWP.go ok; rfl) | (apply z38; kernel_rfl) | (apply And.intro; first | omega | (unfold inI; omega) | (dsimp only; omega) | ((try dsimp only); simp only [List.length_map, List.length_take, List.length_append, List.length_replicate, List.length_cons, List.length_nil]; omega) | exact z18 (fun _ => rfl) | exact ⟨rfl, z21 rfl z26⟩ | exact ⟨rfl, z18 (fun _ => rfl) _⟩ | exact ⟨⟨rfl, by omega⟩, z18 (fun _ => rfl) _⟩) | ((first | (with_reducible apply z13; omega) | (with_reducible apply z45; omega) | (apply z13; omega)); intro _) | (apply z71; omega) | apply z66 | (apply z83; omega; intro _) | ((first | apply z93 | apply z72 | apply z92 | apply z109 | apply z8 | apply z30 | apply z53 | apply z56) <;> intro _) | (apply z10 (cv); rfl; rfl)) <;> conv => whnf)
        all_goals first | (exfalso; omega) | (exfalso; contradiction) | skip
        all_goals refine z49 (k + 1, L, N) ⟨by show k + 1 ≤ _; omega, hsu, hN⟩ (by show 2 ^ B.length - (k + 1) < 2 ^ B.length - k; omega) (by refine SealW.reach [0, 1, 2, 3, 4, 5, 6] [] rfl rfl rfl rfl ?_ ?_ <;> (repeat' (first | exact LocLe.refl _ | exact z31 | (refine z87 ?_; assumption) | exact z40 | exact F2.nil | apply F2.cons | exact z75 _ | exact z20 _ | exact z102 | exact f22_cs' | (refine z110 ?_; omega) | (refine z96 ?_; omega) | (refine z44 ?_; omega) | (refine z78 ?_; omega) | (refine z37 ?_; (first | omega | (simp; done) | (simp; omega))) | apply ObjLe.box | ((first | refine z24 rfl ?_ ?_ | refine z57 rfl rfl ?_ ?_ | refine z51 rfl ?_ ?_ | refine z17 rfl ?_ ?_); (focus ((repeat' (first | exact z12 | exact z9 rfl | exact z4 (fun _ => rfl) | exact z4 Tree.co_flat | exact z54 rfl z12 | apply z11 | apply z15 | (refine z58 ?_ _ rfl) | assumption)); done))) | (refine z17 rfl ?_ ?_; (focus (refine z36 ?_ ?_ rfl <;> first | (simp; omega) | (apply z15; exact z4 fun _ => rfl)))) | (refine z46 ?_ ?_; (focus (simp; omega))) | (refine z73 (by omega) (by omega) ?_) | (refine z95 (by omega) ?_) | (refine z86 (by omega) ?_) | (refine z88 ?_; (first | omega | (simp; done))) | (refine z64 ?_ ?_; (focus (first | omega | (simp; done)))) | (refine z90 ?_ ?_; (focus (simp; done))) | (refine z89 ?_) | ((first | apply z27 rfl rfl rfl | apply z41 rfl rfl rfl); (focus ((repeat (first | exact z23 (fun _ => rfl) _ | exact z47 _ | apply z52 | apply z61 | apply z69 | rfl)); done)); (focus ((first | rfl | (simp; omega) | (simp; done)); done))) | apply z42 | apply z85 | (apply z32; rfl) | (refine z32 ?_ ?_; (focus (simp; done))) | apply ObjLe.mk | exact True.intro | apply And.intro)))
      · rw [if_pos rfl] at hsu
        repeat' ((first | (apply AWP.go ok; rfl) | (apply z38; kernel_rfl) | (apply And.intro; first | omega | (unfold inI; omega) | (dsimp only; omega) | ((try dsimp only); simp only [List.length_map, List.length_take, List.length_append, List.length_replicate, List.length_cons, List.length_nil]; omega) | exact z18 (fun _ => rfl) | exact ⟨rfl, z21 rfl z26⟩ | exact ⟨rfl, z18 (fun _ => rfl) _⟩ | exact ⟨⟨rfl, by omega⟩, z18 (fun _ => rfl) _⟩) | ((first | (with_reducible apply z13; omega) | (with_reducible apply z45; omega) | (apply z13; omega)); intro _) | (apply z71; omega) | apply z66 | (apply z83; omega; intro _) | ((first | apply z93 | apply z72 | apply z92 | apply z109 | apply z8 | apply z30 | apply z53 | apply z56) <;> intro _) | (apply z10 (cv); rfl; rfl)) <;> conv => whnf)
        all_goals first | (exfalso; omega) | (exfalso; contradiction) | skip
        all_goals refine z49 (k + 1, L ++ [[(k : Int), 0]], N ++ [(L.length : Int)]) ⟨by show k + 1 ≤ _; omega, hsu, by show numI (L ++ [[(k : Int), 0]]).length = _; rw [List.length_append]; exact ns⟩ (by show 2 ^ B.length - (k + 1) < 2 ^ B.length - k; omega) (by refine SealW.reach [0, 1, 2, 11, 8, 5, 6] [9] rfl rfl rfl rfl ?_ ?_ <;> (repeat' (first | exact LocLe.refl _ | exact z31 | (refine z87 ?_; assumption) | exact z40 | exact F2.nil | apply F2.cons | exact z75 _ | exact z20 _ | exact z102 | exact f22_cs' | (refine z110 ?_; omega) | (refine z96 ?_; omega) | (refine z44 ?_; omega) | (refine z78 ?_; omega) | (refine z37 ?_; (first | omega | (simp; done) | (simp; omega))) | apply ObjLe.box | ((first | refine z24 rfl ?_ ?_ | refine z57 rfl rfl ?_ ?_ | refine z51 rfl ?_ ?_ | refine z17 rfl ?_ ?_); (focus ((repeat' (first | exact z12 | exact z9 rfl | exact z4 (fun _ => rfl) | exact z4 Tree.co_flat | exact z54 rfl z12 | apply z11 | apply z15 | (refine z58 ?_ _ rfl) | assumption)); done))) | (refine z17 rfl ?_ ?_; (focus (refine z36 ?_ ?_ rfl <;> first | (simp; omega) | (apply z15; exact z4 fun _ => rfl)))) | (refine z46 ?_ ?_; (focus (simp; omega))) | (refine z73 (by omega) (by omega) ?_) | (refine z95 (by omega) ?_) | (refine z86 (by omega) ?_) | (refine z88 ?_; (first | omega | (simp; done))) | (refine z64 ?_ ?_; (focus (first | omega | (simp; done)))) | (refine z90 ?_ ?_; (focus (simp; done))) | (refine z89 ?_) | ((first | apply z27 rfl rfl rfl | apply z41 rfl rfl rfl); (focus ((repeat (first | exact z23 (fun _ => rfl) _ | exact z47 _ | apply z52 | apply z61 | apply z69 | rfl)); done)); (focus ((first | rfl | (simp; omega) | (simp; done)); done))) | apply z42 | apply z85 | (apply z32; rfl) | (refine z32 ?_ ?_; (focus (simp; done))) | apply ObjLe.mk | exact True.intro | apply And.intro)))
    · obtain rfl : k = 2 ^ B.length := by omega
      have hrows := iniK_row B (fun s => vlB B (s : Nat) g) (2 ^ B.length) B.length (untB B) (Nat.le_refl _)
      rw [hL] at hrows
      have hL0 : iniS B g = L := hL
      have hR : goS B (untB B) 65 0 ⟨L, [], []⟩ = trS B g := by rw [← hL0]; rfl
      have hO : trOut L.length = fun x => ⟨N, if x.L.length = 0 then [false] else x.acc, x.ed.map eT⟩ := by unfold trOut; rw [hN]
      rw [hL0, hO]
      clear hO
      clear hL hkl cV cb cn cU hi0 ns hN hIn hsz hw e2 hk
      have hphase := fun (s ph : Nat) (h : s < 2 ^ B.length) (h2 : (untB B).length = 0 ∨ ph < (untB B).length) => l7Phase_ok B hB s (by omega) (by omega) ph h2
      have hletter := fun (s : Nat) (h : s < 2 ^ B.length) => l7Letter_ok B hB s (by omega) (by omega)
      have hfol := fun (s k : Nat) (h : s < 2 ^ B.length) (h2 : k < 2 ^ B.length) => l7Follows_ok B hB s k (by omega) (by omega) (by omega) (by omega)
      have hrowq := fun (s ph : Nat) (h : (untB B).length = 0 ∨ ph < (untB B).length) => phB_row (B := B) (s := s) h
      generalize trS B g = R at *
      have hRO : ∀ x, R = some x → Option.map (fun x : TrS => (⟨N, if x.L.length = 0 then [false] else x.acc, x.ed.map eT⟩ : Aut)) R = some ⟨N, if x.L.length = 0 then [false] else x.acc, x.ed.map eT⟩ := fun x h => by rw [h]; rfl
      have hRN : R = none → Option.map (fun x : TrS => (⟨N, if x.L.length = 0 then [false] else x.acc, x.ed.map eT⟩ : Aut)) R = none := fun h => by rw [h]; rfl
      generalize Option.map (fun x : TrS => (⟨N, if x.L.length = 0 then [false] else x.acc, x.ed.map eT⟩ : Aut)) R = O at *
      repeat' ((first | (apply AWP.go ok; rfl) | (apply z38; kernel_rfl) | (apply And.intro; first | omega | (unfold inI; omega) | (dsimp only; omega) | ((try dsimp only); simp only [List.length_map, List.length_take, List.length_append, List.length_replicate, List.length_cons, List.length_nil]; omega) | exact z18 (fun _ => rfl) | exact ⟨rfl, z21 rfl z26⟩ | exact ⟨rfl, z18 (fun _ => rfl) _⟩ | exact ⟨⟨rfl, by omega⟩, z18 (fun _ => rfl) _⟩) | ((first | (with_reducible apply z13; omega) | (with_reducible apply z45; omega) | (apply z13; omega)); intro _) | (apply z71; omega) | apply z66 | (apply z83; omega; intro _) | ((first | apply z93 | apply z72 | apply z92 | apply z109 | apply z8 | apply z30 | apply z53 | apply z56) <;> intro _)) <;> conv => whnf)
      all_goals first | (exfalso; omega) | (exfalso; contradiction) | skip
      refine z115 (fun x : Nat × TrS => ([(2, .ptr 0 none 0), (4, lst 3 Tree.cs' B), (8, .int ((2 ^ B.length : Nat) : Int)), (9, ints (untB B)), (10, .ptr 1 none 0), (11, .sref 2 0 x.2.L.length), (13, .int x.1)], [.cells 3 [[.nils, .nils, .nils]], .cells 3 [[.sref 3 0 N.length, .sref 4 0 x.2.acc.length, .sref 5 0 x.2.ed.length]], .cells 1 (x.2.L.map encL), .cells 1 (N.map enI), .cells 1 (x.2.acc.map enB), .cells 4 (x.2.ed.map fun e => Trans.cs (eT e))])) (fun x => x.1 ≤ 64 ∧ goS B (untB B) (65 - x.1) x.1 x.2 = R ∧ (∀ r ∈ x.2.L, RowS B.length (untB B) r) ∧ x.2.acc.length ≤ x.1 ∧ x.2.ed.length ≤ x.1 * 32 ∧ x.2.L.length ≤ 100) (fun x => 65 - x.1) (0, ⟨L, [], []⟩) ⟨by omega, hR, hrows, Nat.le_refl _, Nat.le_refl _, by show L.length ≤ 100; omega⟩ (by refine SealW.reach [0, 2, 3, 4, 5, 6] [] rfl rfl rfl rfl ?_ ?_ <;> (repeat' (first | exact LocLe.refl _ | exact z31 | (refine z87 ?_; assumption) | exact z40 | exact F2.nil | apply F2.cons | exact z75 _ | exact z20 _ | exact z102 | exact f22_cs' | (refine z110 ?_; omega) | (refine z96 ?_; omega) | (refine z44 ?_; omega) | (refine z78 ?_; omega) | (refine z37 ?_; (first | omega | (simp; done) | (simp; omega))) | apply ObjLe.box | ((first | refine z24 rfl ?_ ?_ | refine z57 rfl rfl ?_ ?_ | refine z51 rfl ?_ ?_ | refine z17 rfl ?_ ?_); (focus ((repeat' (first | exact z12 | exact z9 rfl | exact z4 (fun _ => rfl) | exact z4 Tree.co_flat | exact z54 rfl z12 | apply z11 | apply z15 | (refine z58 ?_ _ rfl) | assumption)); done))) | (refine z17 rfl ?_ ?_; (focus (refine z36 ?_ ?_ rfl <;> first | (simp; omega) | (apply z15; exact z4 fun _ => rfl)))) | (refine z46 ?_ ?_; (focus (simp; omega))) | (refine z73 (by omega) (by omega) ?_) | (refine z95 (by omega) ?_) | (refine z86 (by omega) ?_) | (refine z88 ?_; (first | omega | (simp; done))) | (refine z64 ?_ ?_; (focus (first | omega | (simp; done)))) | (refine z90 ?_ ?_; (focus (simp; done))) | (refine z89 ?_) | ((first | apply z27 rfl rfl rfl | apply z41 rfl rfl rfl); (focus ((repeat (first | exact z23 (fun _ => rfl) _ | exact z47 _ | apply z52 | apply z61 | apply z69 | rfl)); done)); (focus ((first | rfl | (simp; omega) | (simp; done)); done))) | apply z42 | apply z85 | (apply z32; rfl) | (refine z32 ?_ ?_; (focus (simp; done))) | apply ObjLe.mk | exact True.intro | apply And.intro))) ?_
      have hN100 : N.length ≤ 100 := by omega
      clear hL0 hR hrows hLl nl L
      rintro ⟨i, ⟨L, acc, ed⟩⟩ ⟨hi, hR, hrows, hacc, hed, hL⟩
      dsimp only at hi hR hrows hacc hed hL ⊢
      rw [show 65 - i = (64 - i) + 1 by omega, goS] at hR
      dsimp only at hR
      by_cases hil : i < L.length
      · rw [if_pos hil] at hR
        by_cases h64 : 64 < L.length
        · rw [if_pos h64] at hR
          have hO := hRN hR.symm
          subst hO
          repeat' ((first | (apply AWP.go ok; rfl) | (apply z38; kernel_rfl) | (apply And.intro; first | omega | (unfold inI; omega) | (dsimp only; omega) | ((try dsimp only); simp only [List.length_map, List.length_take, List.length_append, List.length_replicate, List.length_cons, List.length_nil]; omega) | exact z18 (fun _ => rfl) | exact ⟨rfl, z21 rfl z26⟩ | exact ⟨rfl, z18 (fun _ => rfl) _⟩ | exact ⟨⟨rfl, by omega⟩, z18 (fun _ => rfl) _⟩) | ((first | (with_reducible apply z13; omega) | (with_reducible apply z45; omega) | (apply z13; omega)); intro _) | (apply z71; omega) | apply z66 | (apply z83; omega; intro _) | ((first | apply z93 | apply z72 | apply z92 | apply z109 | apply z8 | apply z30 | apply z53 | apply z56) <;> intro _)) <;> conv => whnf)
          all_goals first | (exfalso; omega) | (exfalso; contradiction) | skip
          all_goals (refine RetS.empty 1 ?_; refine RetS.empty 1 ?_; refine RetS.empty 4 ?_; refine RetS.lay [6, 7, 8] [] rfl rfl rfl ?_; refine RetS.done ?_ ?_ <;> (repeat' (first | exact LocLe.refl _ | exact z31 | (refine z87 ?_; assumption) | exact z40 | exact F2.nil | apply F2.cons | exact z75 _ | exact z20 _ | exact z102 | exact f22_cs' | (refine z110 ?_; omega) | (refine z96 ?_; omega) | (refine z44 ?_; omega) | (refine z78 ?_; omega) | (refine z37 ?_; (first | omega | (simp; done) | (simp; omega))) | apply ObjLe.box | ((first | refine z24 rfl ?_ ?_ | refine z57 rfl rfl ?_ ?_ | refine z51 rfl ?_ ?_ | refine z17 rfl ?_ ?_); (focus ((repeat' (first | exact z12 | exact z9 rfl | exact z4 (fun _ => rfl) | exact z4 Tree.co_flat | exact z54 rfl z12 | apply z11 | apply z15 | (refine z58 ?_ _ rfl) | assumption)); done))) | (refine z17 rfl ?_ ?_; (focus (refine z36 ?_ ?_ rfl <;> first | (simp; omega) | (apply z15; exact z4 fun _ => rfl)))) | (refine z46 ?_ ?_; (focus (simp; omega))) | (refine z73 (by omega) (by omega) ?_) | (refine z95 (by omega) ?_) | (refine z86 (by omega) ?_) | (refine z88 ?_; (first | omega | (simp; done))) | (refine z64 ?_ ?_; (focus (first | omega | (simp; done)))) | (refine z90 ?_ ?_; (focus (simp; done))) | (refine z89 ?_) | ((first | apply z27 rfl rfl rfl | apply z41 rfl rfl rfl); (focus ((repeat (first | exact z23 (fun _ => rfl) _ | exact z47 _ | apply z52 | apply z61 | apply z69 | rfl)); done)); (focus ((first | rfl | (simp; omega) | (simp; done)); done))) | apply z42 | apply z85 | (apply z32; rfl) | (refine z32 ?_ ?_; (focus (simp; done))) | apply ObjLe.mk | exact True.intro | apply And.intro)))
        · rw [if_neg h64] at hR
          obtain ⟨s, ph, er, hs2, hph⟩ := hrows (L.getD i []) (by rw [z50 hil]; exact List.getElem_mem _)
          have gk : (L.map encL)[i]? = some (encL [(s : Int), (ph : Int)]) := by rw [List.getElem?_map, List.getElem?_eq_getElem hil, ← er, z50 hil]; rfl
          have cP := hphase s ph hs2 hph
          have cL := hletter s hs2
          obtain ⟨q, eq, hq⟩ := hrowq s ph hph
          have hRS : roundS B (untB B) i ⟨L, acc, ed⟩ = ⟨((List.range (2 ^ B.length)).foldl (edgeS B s q i (letB B s).1 (letB B s).2) (L, ed)).1, acc ++ [(phB B (untB B) s ph).2], ((List.range (2 ^ B.length)).foldl (edgeS B s q i (letB B s).1 (letB B s).2) (L, ed)).2⟩ := by
            unfold roundS
            dsimp only
            rw [er, ← eq]; rfl
          rw [hRS] at hR
          rw [eq] at cP
          have hfol := fun k h => hfol s k hs2 h
          generalize (phB B (untB B) s ph).2 = z at *
          generalize (letB B s).1 = c at *
          generalize (letB B s).2 = v at *
          clear hphase hletter hrowq hRS eq
          repeat' ((first | (apply AWP.go ok; rfl) | (apply z38; kernel_rfl) | (refine z43 (i := i) rfl gk ?_) | (refine ⟨_, rfl, ?_⟩) | (apply And.intro; first | omega | (unfold inI; omega) | (dsimp only; omega) | ((try dsimp only); simp only [List.length_map, List.length_take, List.length_append, List.length_replicate, List.length_cons, List.length_nil]; omega) | exact z18 (fun _ => rfl) | exact ⟨rfl, z21 rfl z26⟩ | exact ⟨rfl, z18 (fun _ => rfl) _⟩ | exact ⟨⟨rfl, by omega⟩, z18 (fun _ => rfl) _⟩) | ((first | (with_reducible apply z13; omega) | (with_reducible apply z45; omega) | (apply z13; omega)); intro _) | (apply z71; omega) | apply z66 | (apply z83; omega; intro _) | ((first | apply z93 | apply z72 | apply z92 | apply z109 | apply z8 | apply z30 | apply z53 | apply z56) <;> intro _) | (apply z10 (cP); rfl; rfl) | (apply z10 (cL); rfl; rfl)) <;> conv => whnf)
          all_goals first | (exfalso; omega) | (exfalso; contradiction) | skip
          have hrow0 : ∀ r ∈ L, r.length ≤ 1000 := fun r hr => by obtain ⟨_, _, e, _, _⟩ := hrows r hr; rw [e]; simp
          refine z115 (fun y : Nat × List (List Int) × List Edg => ([(2, .ptr 0 none 0), (4, lst 3 Tree.cs' B), (8, .int ((2 ^ B.length : Nat) : Int)), (9, ints (untB B)), (10, .ptr 1 none 0), (11, .sref 2 0 y.2.1.length), (13, .int i), (14, .int s), (15, .int q), (17, .int c), (18, .int v), (19, .int y.1)], [.cells 3 [[.nils, .nils, .nils]], .cells 3 [[.sref 3 0 N.length, .sref 4 0 (acc.length + 1), .sref 5 0 y.2.2.length]], .cells 1 (y.2.1.map encL), .cells 1 (N.map enI), .cells 1 ((acc ++ [z]).map enB), .cells 4 (y.2.2.map fun e => Trans.cs (eT e))])) (fun y => y.1 ≤ 2 ^ B.length ∧ (List.range y.1).foldl (edgeS B s q i c v) (L, ed) = y.2 ∧ (∀ r ∈ y.2.1, RowS B.length (untB B) r) ∧ y.2.1.length ≤ L.length + y.1 ∧ y.2.2.length ≤ ed.length + y.1) (fun y => 2 ^ B.length - y.1) (0, L, ed) ⟨Nat.zero_le _, rfl, hrows, Nat.le_refl _, Nat.le_refl _⟩ (by refine SealW.reach [0, 1, 2, 3, 7, 5] [] rfl rfl rfl rfl ?_ ?_ <;> (repeat' (first | exact LocLe.refl _ | exact z31 | (refine z87 ?_; assumption) | exact z40 | exact F2.nil | apply F2.cons | exact z75 _ | exact z20 _ | exact z102 | exact f22_cs' | (refine z110 ?_; omega) | (refine z96 ?_; omega) | (refine z44 ?_; omega) | (refine z78 ?_; omega) | (refine z37 ?_; (first | omega | (simp; done) | (simp; omega))) | apply ObjLe.box | ((first | refine z24 rfl ?_ ?_ | refine z57 rfl rfl ?_ ?_ | refine z51 rfl ?_ ?_ | refine z17 rfl ?_ ?_); (focus ((repeat' (first | exact z12 | exact z9 rfl | exact z4 (fun _ => rfl) | exact z4 Tree.co_flat | exact z54 rfl z12 | apply z11 | apply z15 | (refine z58 ?_ _ rfl) | assumption)); done))) | (refine z17 rfl ?_ ?_; (focus (refine z36 ?_ ?_ rfl <;> first | (simp; omega) | (apply z15; exact z4 fun _ => rfl)))) | (refine z46 ?_ ?_; (focus (simp; omega))) | (refine z73 (by omega) (by omega) ?_) | (refine z95 (by omega) ?_) | (refine z86 (by omega) ?_) | (refine z88 ?_; (first | omega | (simp; done))) | (refine z64 ?_ ?_; (focus (first | omega | (simp; done)))) | (refine z90 ?_ ?_; (focus (simp; done))) | (refine z89 ?_) | ((first | apply z27 rfl rfl rfl | apply z41 rfl rfl rfl); (focus ((repeat (first | exact z23 (fun _ => rfl) _ | exact z47 _ | apply z52 | apply z61 | apply z69 | rfl)); done)); (focus ((first | rfl | (simp; omega) | (simp; done)); done))) | apply z42 | apply z85 | (apply z32; rfl) | (refine z32 ?_ ?_; (focus (simp; done))) | apply ObjLe.mk | exact True.intro | apply And.intro))) ?_
          rintro ⟨k, L', ed'⟩ ⟨hk, hf, hrows', hLl, hel⟩
          dsimp only at hk hf hrows' hLl hel ⊢
          by_cases hkl : k < 2 ^ B.length
          · have cF := hfol k hkl
            have hfs : (List.range (k + 1)).foldl (edgeS B s q i c v) (L, ed) = edgeS B s q i c v (L', ed') k := by rw [List.range_succ, List.foldl_append, hf]; rfl
            have he : edgeS B s q i c v (L', ed') k = if folB B s k = true then (pairL L' [(k : Int), (q : Int)], ed' ++ [⟨i, c, v, pairI L' [(k : Int), (q : Int)]⟩]) else (L', ed') := rfl
            rw [he] at hfs
            clear he
            by_cases hb : folB B s k = true
            · rw [if_pos hb] at hfs
              rw [hb] at cF
              have cQ := l7Pair_ok L' (by omega) (fun r hr => by obtain ⟨_, _, e, _, _⟩ := hrows' r hr; rw [e]; simp) [(k : Int), (q : Int)] (by simp)
              have hpl : (pairL L' [(k : Int), (q : Int)]).length ≤ L'.length + 1 := by unfold pairL; split <;> simp
              have hpr : ∀ r ∈ pairL L' [(k : Int), (q : Int)], RowS B.length (untB B) r := fun r hr => by
                unfold pairL at hr
                split at hr
                · exact hrows' r hr
                · rcases List.mem_append.1 hr with h | h
                  · exact hrows' r h
                  · rw [List.mem_singleton.1 h]; exact ⟨k, q, rfl, hkl, hq⟩
              generalize pairL L' [(k : Int), (q : Int)] = L2 at *
              generalize pairI L' [(k : Int), (q : Int)] = n at *
              repeat' ((first | (apply AWP.go ok; rfl) | (apply z38; kernel_rfl) | (apply And.intro; first | omega | (unfold inI; omega) | (dsimp only; omega) | ((try dsimp only); simp only [List.length_map, List.length_take, List.length_append, List.length_replicate, List.length_cons, List.length_nil]; omega) | exact z18 (fun _ => rfl) | exact ⟨rfl, z21 rfl z26⟩ | exact ⟨rfl, z18 (fun _ => rfl) _⟩ | exact ⟨⟨rfl, by omega⟩, z18 (fun _ => rfl) _⟩) | ((first | (with_reducible apply z13; omega) | (with_reducible apply z45; omega) | (apply z13; omega)); intro _) | (apply z71; omega) | apply z66 | (apply z83; omega; intro _) | ((first | apply z93 | apply z72 | apply z92 | apply z109 | apply z8 | apply z30 | apply z53 | apply z56) <;> intro _) | (apply z10 (cF); rfl; rfl) | ((first | (apply z7 [2, 6] [] [7] (cQ); rfl; (focus ((repeat' first | exact z6 | apply z5) <;> first | rfl | (refine z33 rfl ?_; (first | exact z4 fun _ => rfl | exact z12 | exact z9 rfl | (apply z11 <;> exact z4 fun _ => rfl) | assumption)))))); rfl; rfl; rfl; rfl; rfl; (focus ((repeat' first | exact z19 | apply z16) <;> first | exact z104 | exact z25 rfl rfl | (refine z34 ?_; (first | exact z4 fun _ => rfl | exact z12 | exact z9 rfl | (apply z11 <;> exact z4 fun _ => rfl) | assumption)))); (first | exact .inl rfl | (refine .inr ⟨rfl, ?_⟩; repeat' first | exact True.intro | apply And.intro | exact rfl | exact z67 (fun _ => rfl) _)))) <;> conv => whnf)
              all_goals first | (exfalso; omega) | (exfalso; contradiction) | skip
              all_goals refine z49 (k + 1, L2, ed' ++ [⟨i, c, v, n⟩]) ⟨by show k + 1 ≤ _; omega, hfs, hpr, by show L2.length ≤ L.length + (k + 1); omega, by show (ed' ++ [_]).length ≤ ed.length + (k + 1); simp; omega⟩ (by show 2 ^ B.length - (k + 1) < 2 ^ B.length - k; omega) (by refine SealW.reach [0, 1, 7, 3, 4, 9] [] rfl rfl rfl rfl ?_ ?_ <;> (repeat' (first | exact LocLe.refl _ | exact z31 | (refine z87 ?_; assumption) | exact z40 | exact F2.nil | apply F2.cons | exact z75 _ | exact z20 _ | exact z102 | exact f22_cs' | (refine z110 ?_; omega) | (refine z96 ?_; omega) | (refine z44 ?_; omega) | (refine z78 ?_; omega) | (refine z37 ?_; (first | omega | (simp; done) | (simp; omega))) | apply ObjLe.box | ((first | refine z24 rfl ?_ ?_ | refine z57 rfl rfl ?_ ?_ | refine z51 rfl ?_ ?_ | refine z17 rfl ?_ ?_); (focus ((repeat' (first | exact z12 | exact z9 rfl | exact z4 (fun _ => rfl) | exact z4 Tree.co_flat | exact z54 rfl z12 | apply z11 | apply z15 | (refine z58 ?_ _ rfl) | assumption)); done))) | (refine z17 rfl ?_ ?_; (focus (refine z36 ?_ ?_ rfl <;> first | (simp; omega) | (apply z15; exact z4 fun _ => rfl)))) | (refine z46 ?_ ?_; (focus (simp; omega))) | (refine z73 (by omega) (by omega) ?_) | (refine z95 (by omega) ?_) | (refine z86 (by omega) ?_) | (refine z88 ?_; (first | omega | (simp; done))) | (refine z64 ?_ ?_; (focus (first | omega | (simp; done)))) | (refine z90 ?_ ?_; (focus (simp; done))) | (refine z89 ?_) | ((first | apply z27 rfl rfl rfl | apply z41 rfl rfl rfl); (focus ((repeat (first | exact z23 (fun _ => rfl) _ | exact z47 _ | apply z52 | apply z61 | apply z69 | rfl)); done)); (focus ((first | rfl | (simp; omega) | (simp; done)); done))) | apply z42 | apply z85 | (apply z32; rfl) | (refine z32 ?_ ?_; (focus (simp; done))) | apply ObjLe.mk | exact True.intro | apply And.intro)))
            · rw [if_neg hb] at hfs
              rw [(Bool.not_eq_true _).mp hb] at cF
              repeat' ((first | (apply AWP.go ok; rfl) | (apply z38; kernel_rfl) | (apply And.intro; first | omega | (unfold inI; omega) | (dsimp only; omega) | ((try dsimp only); simp only [List.length_map, List.length_take, List.length_append, List.length_replicate, List.length_cons, List.length_nil]; omega) | exact z18 (fun _ => rfl) | exact ⟨rfl, z21 rfl z26⟩ | exact ⟨rfl, z18 (fun _ => rfl) _⟩ | exact ⟨⟨rfl, by omega⟩, z18 (fun _ => rfl) _⟩) | ((first | (with_reducible apply z13; omega) | (with_reducible apply z45; omega) | (apply z13; omega)); intro _) | (apply z71; omega) | apply z66 | (apply z83; omega; intro _) | ((first | apply z93 | apply z72 | apply z92 | apply z109 | apply z8 | apply z30 | apply z53 | apply z56) <;> intro _) | (apply z10 (cF); rfl; rfl)) <;> conv => whnf)
              all_goals first | (exfalso; omega) | (exfalso; contradiction) | skip
              all_goals refine z49 (k + 1, L', ed') ⟨by show k + 1 ≤ _; omega, hfs, hrows', by show L'.length ≤ L.length + (k + 1); omega, by show ed'.length ≤ ed.length + (k + 1); omega⟩ (by show 2 ^ B.length - (k + 1) < 2 ^ B.length - k; omega) (by refine SealW.reach [0, 1, 2, 3, 4, 5] [] rfl rfl rfl rfl ?_ ?_ <;> (repeat' (first | exact LocLe.refl _ | exact z31 | (refine z87 ?_; assumption) | exact z40 | exact F2.nil | apply F2.cons | exact z75 _ | exact z20 _ | exact z102 | exact f22_cs' | (refine z110 ?_; omega) | (refine z96 ?_; omega) | (refine z44 ?_; omega) | (refine z78 ?_; omega) | (refine z37 ?_; (first | omega | (simp; done) | (simp; omega))) | apply ObjLe.box | ((first | refine z24 rfl ?_ ?_ | refine z57 rfl rfl ?_ ?_ | refine z51 rfl ?_ ?_ | refine z17 rfl ?_ ?_); (focus ((repeat' (first | exact z12 | exact z9 rfl | exact z4 (fun _ => rfl) | exact z4 Tree.co_flat | exact z54 rfl z12 | apply z11 | apply z15 | (refine z58 ?_ _ rfl) | assumption)); done))) | (refine z17 rfl ?_ ?_; (focus (refine z36 ?_ ?_ rfl <;> first | (simp; omega) | (apply z15; exact z4 fun _ => rfl)))) | (refine z46 ?_ ?_; (focus (simp; omega))) | (refine z73 (by omega) (by omega) ?_) | (refine z95 (by omega) ?_) | (refine z86 (by omega) ?_) | (refine z88 ?_; (first | omega | (simp; done))) | (refine z64 ?_ ?_; (focus (first | omega | (simp; done)))) | (refine z90 ?_ ?_; (focus (simp; done))) | (refine z89 ?_) | ((first | apply z27 rfl rfl rfl | apply z41 rfl rfl rfl); (focus ((repeat (first | exact z23 (fun _ => rfl) _ | exact z47 _ | apply z52 | apply z61 | apply z69 | rfl)); done)); (focus ((first | rfl | (simp; omega) | (simp; done)); done))) | apply z42 | apply z85 | (apply z32; rfl) | (refine z32 ?_ ?_; (focus (simp; done))) | apply ObjLe.mk | exact True.intro | apply And.intro)))
          · obtain rfl : k = 2 ^ B.length := by omega
            rw [hf] at hR
            have hed2 : ed'.length ≤ (i + 1) * 32 := by omega
            repeat' ((first | (apply AWP.go ok; rfl) | (apply z38; kernel_rfl) | (apply And.intro; first | omega | (unfold inI; omega) | (dsimp only; omega) | ((try dsimp only); simp only [List.length_map, List.length_take, List.length_append, List.length_replicate, List.length_cons, List.length_nil]; omega) | exact z18 (fun _ => rfl) | exact ⟨rfl, z21 rfl z26⟩ | exact ⟨rfl, z18 (fun _ => rfl) _⟩ | exact ⟨⟨rfl, by omega⟩, z18 (fun _ => rfl) _⟩) | ((first | (with_reducible apply z13; omega) | (with_reducible apply z45; omega) | (apply z13; omega)); intro _) | (apply z71; omega) | apply z66 | (apply z83; omega; intro _) | ((first | apply z93 | apply z72 | apply z92 | apply z109 | apply z8 | apply z30 | apply z53 | apply z56) <;> intro _)) <;> conv => whnf)
            all_goals first | (exfalso; omega) | (exfalso; contradiction) | skip
            all_goals refine z49 (i + 1, ⟨L', acc ++ [z], ed'⟩) ⟨by show i + 1 ≤ 64; omega, by rw [show 65 - (i + 1) = 64 - i by omega]; exact hR, hrows', by show (acc ++ [z]).length ≤ i + 1; simp; omega, hed2, by show L'.length ≤ 100; omega⟩ (by show 65 - (i + 1) < 65 - i; omega) (by refine SealW.reach [0, 1, 2, 3, 4, 5] [] rfl rfl rfl rfl ?_ ?_ <;> (repeat' (first | exact LocLe.refl _ | exact z31 | (refine z87 ?_; assumption) | exact z40 | exact F2.nil | apply F2.cons | exact z75 _ | exact z20 _ | exact z102 | exact f22_cs' | (refine z110 ?_; omega) | (refine z96 ?_; omega) | (refine z44 ?_; omega) | (refine z78 ?_; omega) | (refine z37 ?_; (first | omega | (simp; done) | (simp; omega))) | apply ObjLe.box | ((first | refine z24 rfl ?_ ?_ | refine z57 rfl rfl ?_ ?_ | refine z51 rfl ?_ ?_ | refine z17 rfl ?_ ?_); (focus ((repeat' (first | exact z12 | exact z9 rfl | exact z4 (fun _ => rfl) | exact z4 Tree.co_flat | exact z54 rfl z12 | apply z11 | apply z15 | (refine z58 ?_ _ rfl) | assumption)); done))) | (refine z17 rfl ?_ ?_; (focus (refine z36 ?_ ?_ rfl <;> first | (simp; omega) | (apply z15; exact z4 fun _ => rfl)))) | (refine z46 ?_ ?_; (focus (simp; omega))) | (refine z73 (by omega) (by omega) ?_) | (refine z95 (by omega) ?_) | (refine z86 (by omega) ?_) | (refine z88 ?_; (first | omega | (simp; done))) | (refine z64 ?_ ?_; (focus (first | omega | (simp; done)))) | (refine z90 ?_ ?_; (focus (simp; done))) | (refine z89 ?_) | ((first | apply z27 rfl rfl rfl | apply z41 rfl rfl rfl); (focus ((repeat (first | exact z23 (fun _ => rfl) _ | exact z47 _ | apply z52 | apply z61 | apply z69 | rfl)); done)); (focus ((first | rfl | (simp; omega) | (simp; done)); done))) | apply z42 | apply z85 | (apply z32; rfl) | (refine z32 ?_ ?_; (focus (simp; done))) | apply ObjLe.mk | exact True.intro | apply And.intro)))
      · rw [if_neg hil] at hR
        have hO := hRO _ hR.symm
        dsimp only at hO
        by_cases h0 : L.length = 0
        · rw [if_pos h0] at hO
          subst hO
          repeat' ((first | (apply AWP.go ok; rfl) | (apply z38; kernel_rfl) | (apply And.intro; first | omega | (unfold inI; omega) | (dsimp only; omega) | ((try dsimp only); simp only [List.length_map, List.length_take, List.length_append, List.length_replicate, List.length_cons, List.length_nil]; omega) | exact z18 (fun _ => rfl) | exact ⟨rfl, z21 rfl z26⟩ | exact ⟨rfl, z18 (fun _ => rfl) _⟩ | exact ⟨⟨rfl, by omega⟩, z18 (fun _ => rfl) _⟩) | ((first | (with_reducible apply z13; omega) | (with_reducible apply z45; omega) | (apply z13; omega)); intro _) | (apply z71; omega) | apply z66 | (apply z83; omega; intro _) | ((first | apply z93 | apply z72 | apply z92 | apply z109 | apply z8 | apply z30 | apply z53 | apply z56) <;> intro _)) <;> conv => whnf)
          all_goals first | (exfalso; omega) | (exfalso; contradiction) | skip
          all_goals (refine RetS.lay [3, 6, 5] [] rfl rfl rfl ?_; refine RetS.done ?_ ?_ <;> (repeat' (first | exact LocLe.refl _ | exact z31 | (refine z87 ?_; assumption) | exact z40 | exact F2.nil | apply F2.cons | exact z75 _ | exact z20 _ | exact z102 | exact f22_cs' | (refine z110 ?_; omega) | (refine z96 ?_; omega) | (refine z44 ?_; omega) | (refine z78 ?_; omega) | (refine z37 ?_; (first | omega | (simp; done) | (simp; omega))) | apply ObjLe.box | ((first | refine z24 rfl ?_ ?_ | refine z57 rfl rfl ?_ ?_ | refine z51 rfl ?_ ?_ | refine z17 rfl ?_ ?_); (focus ((repeat' (first | exact z12 | exact z9 rfl | exact z4 (fun _ => rfl) | exact z4 Tree.co_flat | exact z54 rfl z12 | apply z11 | apply z15 | (refine z58 ?_ _ rfl) | assumption)); done))) | (refine z17 rfl ?_ ?_; (focus (refine z36 ?_ ?_ rfl <;> first | (simp; omega) | (apply z15; exact z4 fun _ => rfl)))) | (refine z46 ?_ ?_; (focus (simp; omega))) | (refine z73 (by omega) (by omega) ?_) | (refine z95 (by omega) ?_) | (refine z86 (by omega) ?_) | (refine z88 ?_; (first | omega | (simp; done))) | (refine z64 ?_ ?_; (focus (first | omega | (simp; done)))) | (refine z90 ?_ ?_; (focus (simp; done))) | (refine z89 ?_) | ((first | apply z27 rfl rfl rfl | apply z41 rfl rfl rfl); (focus ((repeat (first | exact z23 (fun _ => rfl) _ | exact z47 _ | apply z52 | apply z61 | apply z69 | rfl)); done)); (focus ((first | rfl | (simp; omega) | (simp; done)); done))) | apply z42 | apply z85 | (apply z32; rfl) | (refine z32 ?_ ?_; (focus (simp; done))) | apply ObjLe.mk | exact True.intro | apply And.intro)))
          all_goals exact z82 (by show _ = List.map Trans.cs (List.map eT ed); rw [List.map_map]; rfl)
        · rw [if_neg h0] at hO
          subst hO
          repeat' ((first | (apply AWP.go ok; rfl) | (apply z38; kernel_rfl) | (apply And.intro; first | omega | (unfold inI; omega) | (dsimp only; omega) | ((try dsimp only); simp only [List.length_map, List.length_take, List.length_append, List.length_replicate, List.length_cons, List.length_nil]; omega) | exact z18 (fun _ => rfl) | exact ⟨rfl, z21 rfl z26⟩ | exact ⟨rfl, z18 (fun _ => rfl) _⟩ | exact ⟨⟨rfl, by omega⟩, z18 (fun _ => rfl) _⟩) | ((first | (with_reducible apply z13; omega) | (with_reducible apply z45; omega) | (apply z13; omega)); intro _) | (apply z71; omega) | apply z66 | (apply z83; omega; intro _) | ((first | apply z93 | apply z72 | apply z92 | apply z109 | apply z8 | apply z30 | apply z53 | apply z56) <;> intro _)) <;> conv => whnf)
          all_goals first | (exfalso; omega) | (exfalso; contradiction) | skip
          all_goals (refine RetS.lay [3, 4, 5] [] rfl rfl rfl ?_; refine RetS.done ?_ ?_ <;> (repeat' (first | exact LocLe.refl _ | exact z31 | (refine z87 ?_; assumption) | exact z40 | exact F2.nil | apply F2.cons | exact z75 _ | exact z20 _ | exact z102 | exact f22_cs' | (refine z110 ?_; omega) | (refine z96 ?_; omega) | (refine z44 ?_; omega) | (refine z78 ?_; omega) | (refine z37 ?_; (first | omega | (simp; done) | (simp; omega))) | apply ObjLe.box | ((first | refine z24 rfl ?_ ?_ | refine z57 rfl rfl ?_ ?_ | refine z51 rfl ?_ ?_ | refine z17 rfl ?_ ?_); (focus ((repeat' (first | exact z12 | exact z9 rfl | exact z4 (fun _ => rfl) | exact z4 Tree.co_flat | exact z54 rfl z12 | apply z11 | apply z15 | (refine z58 ?_ _ rfl) | assumption)); done))) | (refine z17 rfl ?_ ?_; (focus (refine z36 ?_ ?_ rfl <;> first | (simp; omega) | (apply z15; exact z4 fun _ => rfl)))) | (refine z46 ?_ ?_; (focus (simp; omega))) | (refine z73 (by omega) (by omega) ?_) | (refine z95 (by omega) ?_) | (refine z86 (by omega) ?_) | (refine z88 ?_; (first | omega | (simp; done))) | (refine z64 ?_ ?_; (focus (first | omega | (simp; done)))) | (refine z90 ?_ ?_; (focus (simp; done))) | (refine z89 ?_) | ((first | apply z27 rfl rfl rfl | apply z41 rfl rfl rfl); (focus ((repeat (first | exact z23 (fun _ => rfl) _ | exact z47 _ | apply z52 | apply z61 | apply z69 | rfl)); done)); (focus ((first | rfl | (simp; omega) | (simp; done)); done))) | apply z42 | apply z85 | (apply z32; rfl) | (refine z32 ?_ ?_; (focus (simp; done))) | apply ObjLe.mk | exact True.intro | apply And.intro)))
          all_goals exact z82 (by show _ = List.map Trans.cs (List.map eT ed); rw [List.map_map]; rfl)
  · rw [if_neg h] at cb ⊢
    rw [(Bool.not_eq_true _).mp h] at cb
    refine z14 z29 Tryz.func202 rfl rfl 137 Tryz.ntmps202 (by simp) ?_
    repeat' ((first | (apply AWP.go ok; rfl) | (apply z38; kernel_rfl) | (apply And.intro; first | omega | (unfold inI; omega) | (dsimp only; omega) | ((try dsimp only); simp only [List.length_map, List.length_take, List.length_append, List.length_replicate, List.length_cons, List.length_nil]; omega) | exact z18 (fun _ => rfl) | exact ⟨rfl, z21 rfl z26⟩ | exact ⟨rfl, z18 (fun _ => rfl) _⟩ | exact ⟨⟨rfl, by omega⟩, z18 (fun _ => rfl) _⟩) | ((first | (with_reducible apply z13; omega) | (with_reducible apply z45; omega) | (apply z13; omega)); intro _) | (apply z71; omega) | apply z66 | (apply z83; omega; intro _) | ((first | apply z93 | apply z72 | apply z92 | apply z109 | apply z8 | apply z30 | apply z53 | apply z56) <;> intro _) | (apply z10 (cb); rfl; rfl)) <;> conv => whnf)
    all_goals first | (exfalso; omega) | (exfalso; contradiction) | (refine RetS.empty 1 ?_; refine RetS.empty 1 ?_; refine RetS.empty 4 ?_; refine RetS.lay [2, 3, 4] [] rfl rfl rfl ?_; refine RetS.done ?_ ?_ <;> (repeat' (first | exact LocLe.refl _ | exact z31 | (refine z87 ?_; assumption) | exact z40 | exact F2.nil | apply F2.cons | exact z75 _ | exact z20 _ | exact z102 | exact f22_cs' | (refine z110 ?_; omega) | (refine z96 ?_; omega) | (refine z44 ?_; omega) | (refine z78 ?_; omega) | (refine z37 ?_; (first | omega | (simp; done) | (simp; omega))) | apply ObjLe.box | ((first | refine z24 rfl ?_ ?_ | refine z57 rfl rfl ?_ ?_ | refine z51 rfl ?_ ?_ | refine z17 rfl ?_ ?_); (focus ((repeat' (first | exact z12 | exact z9 rfl | exact z4 (fun _ => rfl) | exact z4 Tree.co_flat | exact z54 rfl z12 | apply z11 | apply z15 | (refine z58 ?_ _ rfl) | assumption)); done))) | (refine z17 rfl ?_ ?_; (focus (refine z36 ?_ ?_ rfl <;> first | (simp; omega) | (apply z15; exact z4 fun _ => rfl)))) | (refine z46 ?_ ?_; (focus (simp; omega))) | (refine z73 (by omega) (by omega) ?_) | (refine z95 (by omega) ?_) | (refine z86 (by omega) ?_) | (refine z88 ?_; (first | omega | (simp; done))) | (refine z64 ?_ ?_; (focus (first | omega | (simp; done)))) | (refine z90 ?_ ?_; (focus (simp; done))) | (refine z89 ?_) | ((first | apply z27 rfl rfl rfl | apply z41 rfl rfl rfl); (focus ((repeat (first | exact z23 (fun _ => rfl) _ | exact z47 _ | apply z52 | apply z61 | apply z69 | rfl)); done)); (focus ((first | rfl | (simp; omega) | (simp; done)); done))) | apply z42 | apply z85 | (apply z32; rfl) | (refine z32 ?_ ?_; (focus (simp; done))) | apply ObjLe.mk | exact True.intro | apply And.intro))) | skip
end Go.Proofs.YtknlmbniicacmaaGreat

namespace Go.Proofs.YtknlmbniicacmaaGreat
open Go.Gl
attribute [local irreducible] z48 AWP z76 z84 z81

end Go.Proofs.YtknlmbniicacmaaGreat

namespace Go.Proofs.YtknlmbniicacmaaGreat
open Go.Gl
attribute [local irreducible] z48 AWP z76 z84 z81

end Go.Proofs.YtknlmbniicacmaaGreat

namespace Go.Proofs.YtknlmbniicacmaaGreat
open Go.Gl
attribute [local irreducible] z48 AWP z76 z84 z81

structure Aut.ok (a : Aut) : Prop where
  mx : a.mx
  ini : a.ini.length ≤ 1048576
  acc : a.acc.length ≤ 1048576
  ed : a.ed.length ≤ 1048576
theorem Aut.ok_of {a : Aut} (h : a.mx) (h1 : a.s1 ≤ 1048576) (h2 : a.s2 ≤ 1048576) (h3 : a.s3 ≤ 1048576) : a.ok := ⟨h, h1, h2, h3⟩
end Go.Proofs.YtknlmbniicacmaaGreat

namespace Go.Proofs.YtknlmbniicacmaaGreat
open Go.Gl
attribute [local irreducible] z48 AWP z76 z84 z81

def onB (t : Trans) (n : Int) : Bool := decide (((n.toNat &&& t.care.toNat : Nat) : Int) = t.val)
/-- what one edge adds at one state and one successor -/
def pushE (n : Nat) (i : Nat) (ℓ to : Int) (e : Trans) : List (Nat × Int) := if onB e ℓ then [((i : Nat) * n + e.src.toNat, to * n + e.dst)] else []
def pushJ (n : Nat) (ed : List Trans) (i : Nat) (ℓ to : Int) : List (Nat × Int) := ed.flatMap (pushE n i ℓ to)
def pushI (n : Nat) (ed : List Trans) (nx : List (List Int)) (ls : List Int) (i : Nat) : List (Nat × Int) := (nx.getD i []).flatMap (pushJ n ed i (ls.getD i 0))
def pushS (g : Graph) (ls : List Int) (a : Aut) : List (Nat × Int) := (List.range g.st.length).flatMap (pushI a.acc.length a.ed g.nx ls)
/-- the successors of the nodes of the product -/
def z62 (g : Graph) (ls : List Int) (a : Aut) : List (List Int) := build (a.acc.length * g.st.length) (pushS g ls a)

theorem pushS_len (g : Graph) (hg : GB g) (ls : List Int) (a : Aut) (ha : AutP a) : (pushS g ls a).length ≤ 7372800 := by
  obtain ⟨⟨g1, g2⟩, g3, g4⟩ := hg
  have h1 : ∀ i ℓ to, (pushJ a.acc.length a.ed i ℓ to).length ≤ 2048 := fun i ℓ to => by
    have := flat_len (f := pushE a.acc.length i ℓ to) (c := 1) a.ed (fun e _ => by unfold pushE; split <;> simp)
    have := ha.2.1
    unfold pushJ; omega
  have h2 : ∀ i ∈ List.range g.st.length, (pushI a.acc.length a.ed g.nx ls i).length ≤ 122880 := fun i hi => by
    rw [List.mem_range] at hi
    unfold pushI
    rw [z50 (l := g.nx) (by omega)]
    have h3 := flat_len (f := pushJ a.acc.length a.ed i (ls.getD i 0)) (c := 2048) g.nx[i] (fun e _ => h1 _ _ _)
    have h4 := (g4 i (by omega) (by omega) hi).2.1
    have : g.nx[i].length * 2048 ≤ 60 * 2048 := Nat.mul_le_mul_right _ (by omega)
    omega
  have h5 := flat_len (f := pushI a.acc.length a.ed g.nx ls) (c := 122880) (List.range g.st.length) h2
  rw [List.length_range] at h5
  have : g.st.length * 122880 ≤ 60 * 122880 := Nat.mul_le_mul_right _ (by omega)
  unfold pushS; omega

theorem l8Product_new (g : Graph) (hg : GB g) (ls : List Int) (hls : ls.length = g.st.length) (hlr : ∀ x ∈ ls, 0 ≤ x ∧ x ≤ 7) (a : Aut) (ha : AutP a) : CallsA Tryz.prog 82 [.agg g.cs, ints ls, .agg a.cs] [] (.sref 0 0 (a.acc.length * g.st.length)) [.cells 1 ((z62 g ls a).map ownRow)] := by
  have hpl := pushS_len g hg ls a ha
  obtain ⟨⟨g1, g2⟩, g3, g4⟩ := hg
  obtain ⟨⟨a1, a2⟩, a3, _, a5⟩ := ha
  have hN := z131 (a := (a.acc.length : Int)) (b := (g.st.length : Int)) (A := 64) (B := 60) (by omega) (by omega) (by omega) (by omega)
  have hNn : ((a.acc.length * g.st.length : Nat) : Int) = (a.acc.length : Int) * g.st.length := by simp
  refine z22 z29 Tryz.func82 rfl rfl 93 Tryz.ntmps82 (by simp) ?_
  repeat' (first | (apply AWP.go ok; rfl; conv => whnf) | (apply And.intro; (first | (unfold inI; omega) | (dsimp only; omega)); conv => whnf))
  refine AWP.reach (Gl.Reach.weaken (es' := List.replicate (a.acc.length * g.st.length) [.own 1 []]) 2 rfl (by rw [List.length_replicate, List.length_replicate]; rfl) rows_weaken rfl) ?_
  conv => whnf
  have hrow : ∀ i (hi : i < g.nx.length), ∀ x ∈ g.nx[i], 0 ≤ x ∧ x ≤ g.st.length - 1 := fun i hi x hx => by
    obtain ⟨j, hj, rfl⟩ := List.mem_iff_getElem.1 hx
    exact ((g4 i hi hi (by omega)).2.2.2 j hj hj).1
  have hlen : ∀ i (hi : i < g.nx.length), g.nx[i].length ≤ 60 := fun i hi => by
    have := (g4 i hi hi (by omega)).2.1; omega
  refine z120 (fun x : Nat × List (Nat × Int) => ([(1, ints ls), (3, .ptr 0 none 0), (5, .ptr 1 none 0), (7, .int a.acc.length), (8, .sref 2 0 (a.acc.length * g.st.length)), (9, .int x.1)], [.cells 2 [[lst 2 State.cs g.st, lst 1 encL g.nx]], .cells 3 [[lst 1 enI a.ini, lst 1 enB a.acc, lst 4 Trans.cs a.ed]], .cells 1 ((build (a.acc.length * g.st.length) x.2).map ownRow)])) (fun x => x.1 ≤ g.st.length ∧ x.2 ++ ((List.range g.st.length).drop x.1).flatMap (pushI a.acc.length a.ed g.nx ls) = pushS g ls a) (fun x => g.st.length - x.1) (0, []) ⟨by omega, rfl⟩
    ⟨[0, 1, 2], rfl, by decide, rfl, ⟨⟨rfl, rfl⟩, ⟨rfl, rfl⟩, ⟨rfl, rfl⟩, ⟨rfl, rfl⟩, ⟨rfl, rfl⟩, ⟨rfl, rfl⟩, trivial⟩, ⟨z35 rfl rfl, z35 rfl rfl, z70 (z106 (rows_nil _).symm) (z4 fun _ => rfl), trivial⟩⟩ ?_
  rintro ⟨i, ps⟩ ⟨hi1, hi2⟩
  dsimp only at hi1 hi2 ⊢
  repeat' (first | (apply AWP.go ok; rfl; conv => whnf) | (apply z8 <;> intro _ <;> conv => whnf))
  · have hig : i < g.st.length := by omega
    rw [drop_flat _ _ _ (by simpa using hig), List.getElem_range] at hi2
    have hin : i < g.nx.length := by omega
    have hrow := hrow i hin
    have hlen := hlen i hin
    have hli := hlr ls[i] (List.getElem_mem _)
    have hpI : pushI a.acc.length a.ed g.nx ls i = g.nx[i].flatMap (pushJ a.acc.length a.ed i ls[i]) := by
      unfold pushI
      rw [z50 hin, z50 (by omega)]
    rw [hpI] at hi2
    refine z120 (fun x : Nat × List (Nat × Int) => ([(1, ints ls), (3, .ptr 0 none 0), (5, .ptr 1 none 0), (7, .int a.acc.length), (8, .sref 2 0 (a.acc.length * g.st.length)), (9, .int i), (10, .int x.1)], [.cells 2 [[lst 2 State.cs g.st, lst 1 encL g.nx]], .cells 3 [[lst 1 enI a.ini, lst 1 enB a.acc, lst 4 Trans.cs a.ed]], .cells 1 ((build (a.acc.length * g.st.length) x.2).map ownRow)])) (fun x => x.1 ≤ g.nx[i].length ∧ x.2 ++ ((g.nx[i].drop x.1).flatMap (pushJ a.acc.length a.ed i ls[i]) ++ ((List.range g.st.length).drop (i + 1)).flatMap (pushI a.acc.length a.ed g.nx ls)) = pushS g ls a) (fun x => g.nx[i].length - x.1) (0, ps) ⟨by omega, hi2⟩
      ⟨[0, 1, 2], rfl, by decide, rfl, ⟨⟨rfl, rfl⟩, ⟨rfl, rfl⟩, ⟨rfl, rfl⟩, ⟨rfl, rfl⟩, ⟨rfl, rfl⟩, ⟨rfl, rfl⟩, ⟨rfl, rfl⟩, trivial⟩, ⟨z35 rfl rfl, z35 rfl rfl, z70 rfl (z4 fun _ => rfl), trivial⟩⟩ ?_
    rintro ⟨j, ps⟩ ⟨hj1, hj2⟩
    dsimp only at hj1 hj2 ⊢
    repeat' (first | (apply AWP.go ok; rfl; conv => whnf) | (apply And.intro; (first | omega | (unfold inI; omega)); conv => whnf) | (with_reducible apply z13; omega; intro _; conv => whnf) | (apply z8 <;> intro _ <;> conv => whnf))
    · have hjn : j < g.nx[i].length := by omega
      rw [drop_flat _ _ _ hjn, List.append_assoc] at hj2
      have hto := hrow g.nx[i][j] (List.getElem_mem _)
      refine z120 (fun x : Nat × List (Nat × Int) => ([(1, ints ls), (3, .ptr 0 none 0), (5, .ptr 1 none 0), (7, .int a.acc.length), (8, .sref 2 0 (a.acc.length * g.st.length)), (9, .int i), (10, .int j), (11, .int x.1)], [.cells 2 [[lst 2 State.cs g.st, lst 1 encL g.nx]], .cells 3 [[lst 1 enI a.ini, lst 1 enB a.acc, lst 4 Trans.cs a.ed]], .cells 1 ((build (a.acc.length * g.st.length) x.2).map ownRow)])) (fun x => x.1 ≤ a.ed.length ∧ x.2 ++ ((a.ed.drop x.1).flatMap (pushE a.acc.length i ls[i] g.nx[i][j]) ++ ((g.nx[i].drop (j + 1)).flatMap (pushJ a.acc.length a.ed i ls[i]) ++ ((List.range g.st.length).drop (i + 1)).flatMap (pushI a.acc.length a.ed g.nx ls))) = pushS g ls a) (fun x => a.ed.length - x.1) (0, ps) ⟨by omega, hj2⟩
        ⟨[0, 1, 2], rfl, by decide, rfl, ⟨⟨rfl, rfl⟩, ⟨rfl, rfl⟩, ⟨rfl, rfl⟩, ⟨rfl, rfl⟩, ⟨rfl, rfl⟩, ⟨rfl, rfl⟩, ⟨rfl, rfl⟩, ⟨rfl, rfl⟩, trivial⟩, ⟨z35 rfl rfl, z35 rfl rfl, z70 rfl (z4 fun _ => rfl), trivial⟩⟩ ?_
      rintro ⟨k, ps⟩ ⟨hk1, hk2⟩
      dsimp only at hk1 hk2 ⊢
      have hm1 := z131 (a := (i : Int)) (b := (a.acc.length : Int)) (A := 60) (B := 64) (by omega) (by omega) (by omega) (by omega)
      have hm2 := z131 (a := g.nx[i][j]) (b := (a.acc.length : Int)) (A := 60) (B := 64) (by omega) (by omega) (by omega) (by omega)
      by_cases hke : k < a.ed.length
      · have he := a5 a.ed[k] (List.getElem_mem hke)
        unfold edgeP at he
        have hlt : i * a.acc.length + a.ed[k].src.toNat < (build (a.acc.length * g.st.length) ps).length := by
          rw [z119]
          have h1 : (i + 1) * a.acc.length ≤ g.st.length * a.acc.length := Nat.mul_le_mul_right _ hig
          rw [Nat.add_mul, Nat.one_mul, Nat.mul_comm g.st.length] at h1
          omega
        repeat' (first | ((fail_if_success apply stopAt 14); (fail_if_success apply z147 14); apply AWP.go ok; rfl; conv => whnf) | (apply z38; kernel_rfl; conv => whnf) | (apply And.intro; (first | omega | (unfold inI; omega)); conv => whnf) | (with_reducible apply z13; omega; intro _; conv => whnf) | (apply z8 <;> intro _ <;> conv => whnf) | (apply z10 (l7On_ok a.ed[k] ls[i] hli.1 hli.2 (a5 _ (List.getElem_mem _)).2.2.1); rfl; rfl; conv => whnf))
        · have hon : ((ls[i].toNat &&& a.ed[k].care.toNat : Nat) : Int) = a.ed[k].val := by assumption
          have hrl : (build (a.acc.length * g.st.length) ps)[i * a.acc.length + a.ed[k].src.toNat].length ≤ 1000000000 := by
            have h1 := build_row_le (N := a.acc.length * g.st.length) (ps := ps) hlt
            have h2 := congrArg List.length hk2
            rw [List.length_append] at h2
            omega
          have hin : ((i : Int) * a.acc.length + a.ed[k].src).toNat = i * a.acc.length + a.ed[k].src.toNat := by
            have e : ((i * a.acc.length : Nat) : Int) = (i : Int) * a.acc.length := by simp
            omega
          have hlt2 : ((i : Int) * a.acc.length + a.ed[k].src).toNat < a.acc.length * g.st.length := by
            rw [hin, ← z119 (a.acc.length * g.st.length) ps]; exact hlt
          have hmap : i * a.acc.length + a.ed[k].src.toNat < ((build (a.acc.length * g.st.length) ps).map ownRow).length := by rw [List.length_map]; exact hlt
          refine AWP.reach (Gl.Reach.expose (e := ownRow (build (a.acc.length * g.st.length) ps)[i * a.acc.length + a.ed[k].src.toNat]) 2 (i * a.acc.length + a.ed[k].src.toNat) 0 rfl (by rw [List.getElem?_map, List.getElem?_eq_getElem hlt]; rfl) rfl (leaf_map (fun _ => rfl) _) rfl) ?_
          conv => whnf
          (apply AWP.go ok; rfl; conv => whnf)
          repeat' (first | (apply z38; kernel_rfl; conv => whnf) | (apply get_set; exact hin; exact hmap; conv => whnf) | (apply And.intro; (first | omega | (unfold inI; omega) | ((try dsimp only); simp only [List.length_map, List.length_take, List.length_append, List.length_replicate, List.length_cons, List.length_nil]; omega) | exact ⟨rfl, z21 rfl z26⟩); conv => whnf) | (with_reducible apply z13; omega; intro _; conv => whnf))
          refine AWP.reach (Gl.Reach.absorb 2 5 (i * a.acc.length + a.ed[k].src.toNat) 0 rfl (getset hin (by rw [List.length_set]; exact hmap)) rfl rfl (by simp) rfl (z11 (fun e he => (z4 (fun _ => rfl)) e (List.mem_of_mem_take he)) (z54 rfl z12)) rfl) ?_
          conv => whnf
          repeat' (first | (apply AWP.go ok; rfl; conv => whnf) | (apply And.intro; ((unfold inI; omega)); conv => whnf))
          rw [drop_flat _ _ _ hke] at hk2
          have hpe : pushE a.acc.length i ls[i] g.nx[i][j] a.ed[k] = [(i * a.acc.length + a.ed[k].src.toNat, g.nx[i][j] * a.acc.length + a.ed[k].dst)] := by
            unfold pushE onB; rw [if_pos (decide_eq_true hon)]
          rw [hpe, List.append_assoc, ← List.append_assoc] at hk2
          exact z116 (k + 1, ps ++ [(i * a.acc.length + a.ed[k].src.toNat, g.nx[i][j] * a.acc.length + a.ed[k].dst)]) [0, 1, 2] ⟨by dsimp only; omega, hk2⟩ (by dsimp only; omega)
            ⟨rfl, by decide, rfl, ⟨⟨rfl, rfl⟩, ⟨rfl, rfl⟩, ⟨rfl, rfl⟩, ⟨rfl, rfl⟩, ⟨rfl, rfl⟩, ⟨rfl, rfl⟩, ⟨rfl, rfl⟩, ⟨rfl, rfl⟩, trivial⟩, ⟨z35 rfl rfl, z35 rfl rfl, z70 (z106 (rows_push' hlt hin (by simp))) (z4 fun _ => rfl), trivial⟩⟩
        · rename_i hon
          rw [drop_flat _ _ _ hke] at hk2
          have hpe : pushE a.acc.length i ls[i] g.nx[i][j] a.ed[k] = [] := by
            unfold pushE onB; rw [if_neg (by simpa using hon)]
          rw [hpe, List.nil_append] at hk2
          exact z116 (k + 1, ps) [0, 1, 2] ⟨by dsimp only; omega, hk2⟩ (by dsimp only; omega)
            ⟨rfl, by decide, rfl, ⟨⟨rfl, rfl⟩, ⟨rfl, rfl⟩, ⟨rfl, rfl⟩, ⟨rfl, rfl⟩, ⟨rfl, rfl⟩, ⟨rfl, rfl⟩, ⟨rfl, rfl⟩, ⟨rfl, rfl⟩, trivial⟩, ⟨z35 rfl rfl, z35 rfl rfl, z70 rfl (z4 fun _ => rfl), trivial⟩⟩
        · omega
      · repeat' (first | ((fail_if_success apply stopAt 14); (fail_if_success apply z147 14); apply AWP.go ok; rfl; conv => whnf) | (apply And.intro; (first | omega | (unfold inI; omega)); conv => whnf) | (with_reducible apply z13; omega; intro _; conv => whnf) | (apply z8 <;> intro _ <;> conv => whnf))
        · omega
        · rw [z129 _ _ _ (by omega), List.nil_append] at hk2
          exact z116 (j + 1, ps) [0, 1, 2] ⟨by dsimp only; omega, hk2⟩ (by dsimp only; omega)
            ⟨rfl, by decide, rfl, ⟨⟨rfl, rfl⟩, ⟨rfl, rfl⟩, ⟨rfl, rfl⟩, ⟨rfl, rfl⟩, ⟨rfl, rfl⟩, ⟨rfl, rfl⟩, ⟨rfl, rfl⟩, trivial⟩, ⟨z35 rfl rfl, z35 rfl rfl, z70 rfl (z4 fun _ => rfl), trivial⟩⟩
    · rw [z129 _ _ _ (by omega), List.nil_append] at hj2
      exact z116 (i + 1, ps) [0, 1, 2] ⟨by dsimp only; omega, hj2⟩ (by dsimp only; omega)
        ⟨rfl, by decide, rfl, ⟨⟨rfl, rfl⟩, ⟨rfl, rfl⟩, ⟨rfl, rfl⟩, ⟨rfl, rfl⟩, ⟨rfl, rfl⟩, ⟨rfl, rfl⟩, trivial⟩, ⟨z35 rfl rfl, z35 rfl rfl, z70 rfl (z4 fun _ => rfl), trivial⟩⟩
  · rw [z129 _ _ _ (by simp; omega), List.append_nil] at hi2
    subst hi2
    exact ret_new rfl (z4 fun _ => rfl) rfl rfl

theorem keepRows {f : FuncId} {args : List AC} {n : Nat} {l : List (List Int)} (h : CallsA Tryz.prog f args [] (.sref 0 0 n) [.cells 1 (l.map ownRow)]) (hl : l.length = n) : CallsA Tryz.prog f args [] (lst 1 encL l) [] := by
  refine h.lend [] [0] rfl rfl rfl ?_ z6
  rw [bor_full (w := 1) (es := l.map ownRow) rfl rfl rfl (by rw [List.length_map]; exact hl), z47, ← hl]; rfl

theorem l8Product_ok (g : Graph) (hg : GB g) (ls : List Int) (hls : ls.length = g.st.length) (hlr : ∀ x ∈ ls, 0 ≤ x ∧ x ≤ 7) (a : Aut) (ha : AutP a) : CallsA Tryz.prog 82 [.agg g.cs, ints ls, .agg a.cs] [] (lst 1 encL (z62 g ls a)) [] :=
  keepRows (l8Product_new g hg ls hls hlr a ha) (z119 _ _)
end Go.Proofs.YtknlmbniicacmaaGreat

