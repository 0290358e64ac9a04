/- A part of the proofs over this program: T147, T148, T149, T150, T151, T152, T34, T35, T39, T24, T25. -/
import Derived.Test.YtppafngcahgagaaGreatG0
import Derived.Test.YtppafngcahgagaaGreatG1
import Derived.Test.YtppafngcahgagaaGreatG2
import Derived.Test.YtppafngcahgagaaGreatG3
import Derived.Test.YtppafngcahgagaaGreatP0
import Derived.Test.YtppafngcahgagaaGreatP1
import Derived.Test.YtppafngcahgagaaGreatP2
import Derived.Test.YtppafngcahgagaaGreatP3
set_option linter.all false
namespace Go.Proofs.YtppafngcahgagaaGreat
open Go.Gl
attribute [local irreducible] z32 AWP z48 z55 z50 RetS z65

theorem l6HasG_ok (x a : Int) (h0 : 0 ≤ x) (h1 : x ≤ 31) (h2 : 0 ≤ a) (h3 : a ≤ 5) : CallsA Tryz.prog 147 [.int x, .int a] [] (.bool (hasB x a)) [] := by
  have ha : a = 0 ∨ a = 1 ∨ a = 2 ∨ a = 3 ∨ a = 4 ∨ a = 5 := by omega
  have h5 : 0 ≤ x / 2 ^ a.toNat ∧ x / 2 ^ a.toNat ≤ 31 := by
    rcases ha with rfl | rfl | rfl | rfl | rfl | rfl <;> simp <;> omega
  have hw : IntKind.u64.wrap a = a := by
    rcases ha with rfl | rfl | rfl | rfl | rfl | rfl <;> decide
  refine z10 z18 Tryz.func147 rfl rfl 11 Tryz.ntmps147 (by simp) ?_
  repeat' ((first | (apply AWP.go ok; rfl) | (apply And.intro; omega)) <;> conv => whnf)
  refine And.intro (by unfold bitsOk; omega) ?_
  conv => whnf
  repeat' (((apply AWP.go ok; rfl)) <;> conv => whnf)
  all_goals (refine RetS.lay [] [] rfl rfl rfl ?_; refine RetS.done ?_ ?_ <;> (repeat' (first | exact LocLe.refl _ | exact F2.nil)))
structure BasL (B : List Tree) : Prop where
  len : B.length ≤ 5
  nd : B.Nodup
  sz : ∀ x ∈ B, x.sz ≤ 1000
  cl : ∀ x ∈ B, In (· ∈ B) x
  bk : ∀ x ∈ B, basicB x = true
  av : ∀ v, Tree.mk 2 v [] ∈ B → 0 ≤ v ∧ v ≤ 2
theorem BasL.mx {B : List Tree} (h : BasL B) : ∀ x ∈ B, x.mx := fun x hx => mx_of_sz x (by have := h.sz x hx; unfold maxLen; omega)
set_option maxHeartbeats 3200000 in
theorem l7Value_ok (B : List Tree) (hB : BasL B) (s : Int) (s0 : 0 ≤ s) (s1 : s ≤ 31) (t : Tree) (h : In (· ∈ B) t) : t.sz ≤ 1000 → CallsA Tryz.prog 235 [lst 3 Tree.cs' B, .int s, z43 Tree.cs' t] [] (.bool (vlB B s t)) [] := by
  have basic : ∀ t, t ∈ B → basicB t = true → CallsA Tryz.prog 235 [lst 3 Tree.cs' B, .int s, z43 Tree.cs' t] [] (.bool (sgB B s t)) [] := fun t ht hb => by
    have hl := hB.len
    have cF := l5Find_ok B (by omega) hB.mx t (hB.mx t ht)
    have hp := plc_mem ht
    have cH := l6HasG_ok s (plc B t) s0 s1 hp.1 (by omega)
    have e : idxF (fun x => decide (x = t)) B = plc B t := rfl
    rw [e] at cF
    unfold sgB
    generalize plc B t = p at *
    unfold basicB at hb
    have hb := of_decide_eq_true hb
    rw [Tree.arg_eq t] at cF ⊢
    refine z10 z18 Tryz.func235 rfl rfl 62 Tryz.ntmps235 (by simp) ?_
    repeat' ((first | (apply AWP.go ok; rfl) | (apply And.intro; omega) | (((with_reducible apply z62; omega)); intro _) | ((apply z7) <;> intro _) | (apply z9 (cF); rfl; rfl) | (apply z9 (cH); rfl; rfl)) <;> conv => whnf)
    all_goals first | (exfalso; omega) | (refine RetS.lay [] [] rfl rfl rfl ?_; refine RetS.done ?_ ?_ <;> (repeat' (first | exact LocLe.refl _ | exact F2.nil)))
  unfold vlB
  induction h with
  | tr =>
    intro _
    rw [vl_tr]
    refine z10 z18 Tryz.func235 rfl rfl 62 Tryz.ntmps235 (by simp) ?_
    repeat' (((apply AWP.go ok; rfl)) <;> conv => whnf)
    all_goals (refine RetS.lay [] [] rfl rfl rfl ?_; refine RetS.done ?_ ?_ <;> (repeat' (first | exact LocLe.refl _ | exact F2.nil)))
  | «at» v hb => intro _; rw [vl_at]; exact basic _ hb (by simp [basicB, Tree.kind])
  | nt =>
    intro _
    rw [vl_not, vl_tr]
    have c1 : CallsA Tryz.prog 235 [lst 3 Tree.cs' B, .int s, z43 Tree.cs' (.mk 1 0 [])] [] (.bool true) [] := by
      refine z10 z18 Tryz.func235 rfl rfl 62 Tryz.ntmps235 (by simp) ?_
      repeat' (((apply AWP.go ok; rfl)) <;> conv => whnf)
      all_goals (refine RetS.lay [] [] rfl rfl rfl ?_; refine RetS.done ?_ ?_ <;> (repeat' (first | exact LocLe.refl _ | exact F2.nil)))
    rw [argU]
    refine z10 z18 Tryz.func235 rfl rfl 62 Tryz.ntmps235 (by simp) ?_
    repeat' ((first | (apply AWP.go ok; rfl) | (refine ⟨_, rfl, ?_⟩) | (apply And.intro; omega) | (apply z9 (c1); rfl; rfl)) <;> conv => whnf)
    all_goals (refine RetS.lay [] [] rfl rfl rfl ?_; refine RetS.done ?_ ?_ <;> (repeat' (first | exact LocLe.refl _ | exact F2.nil)))
  | na v hb =>
    intro _
    rw [vl_not, vl_at]
    have c1 := basic _ hb (by simp [basicB, Tree.kind])
    rw [argU]
    refine z10 z18 Tryz.func235 rfl rfl 62 Tryz.ntmps235 (by simp) ?_
    repeat' ((first | (apply AWP.go ok; rfl) | (refine ⟨_, rfl, ?_⟩) | (apply And.intro; omega) | (apply z9 (c1); rfl; rfl)) <;> conv => whnf)
    all_goals (refine RetS.lay [] [] rfl rfl rfl ?_; refine RetS.done ?_ ?_ <;> (repeat' (first | exact LocLe.refl _ | exact F2.nil)))
  | an _ _ iha ihb =>
    rename_i a b _ _
    intro hs
    rw [sz_two] at hs
    have ca := iha (by omega)
    have cb := ihb (by omega)
    rw [vl_and, argB]
    generalize a.vl (sgB B s) = x at *
    generalize b.vl (sgB B s) = y at *
    cases x
    all_goals
      refine z10 z18 Tryz.func235 rfl rfl 62 Tryz.ntmps235 (by simp) ?_
      repeat' ((first | (apply AWP.go ok; rfl) | (refine ⟨_, rfl, ?_⟩) | (apply And.intro; omega) | (apply z9 (ca); rfl; rfl) | (apply z9 (cb); rfl; rfl)) <;> conv => whnf)
      all_goals (refine RetS.lay [] [] rfl rfl rfl ?_; refine RetS.done ?_ ?_ <;> (repeat' (first | exact LocLe.refl _ | exact F2.nil)))
  | or _ _ iha ihb =>
    rename_i a b _ _
    intro hs
    rw [sz_two] at hs
    have ca := iha (by omega)
    have cb := ihb (by omega)
    rw [vl_or, argB]
    generalize a.vl (sgB B s) = x at *
    generalize b.vl (sgB B s) = y at *
    cases x
    all_goals
      refine z10 z18 Tryz.func235 rfl rfl 62 Tryz.ntmps235 (by simp) ?_
      repeat' ((first | (apply AWP.go ok; rfl) | (refine ⟨_, rfl, ?_⟩) | (apply And.intro; omega) | (apply z9 (ca); rfl; rfl) | (apply z9 (cb); rfl; rfl)) <;> conv => whnf)
      all_goals (refine RetS.lay [] [] rfl rfl rfl ?_; refine RetS.done ?_ ?_ <;> (repeat' (first | exact LocLe.refl _ | exact F2.nil)))
  | nx hb _ _ => intro _; rw [vl_nx]; exact basic _ hb (by simp [basicB, Tree.kind])
  | un hb _ _ _ _ => intro _; rw [vl_un]; exact basic _ hb (by simp [basicB, Tree.kind])
  | re hb _ _ _ _ => intro _; rw [vl_re]; exact basic _ hb (by simp [basicB, Tree.kind])
end Go.Proofs.YtppafngcahgagaaGreat

namespace Go.Proofs.YtppafngcahgagaaGreat
open Go.Gl
attribute [local irreducible] z32 AWP z48 z55 z50 RetS z65

theorem csU (k v : Int) (a : Tree) : Tree.cs' (.mk k v [a]) = [.int k, .int v, .list 3 1 [Tree.cs' a]] := AC.agg.inj (argU k v a)
theorem csB2 (k v : Int) (a b : Tree) : Tree.cs' (.mk k v [a, b]) = [.int k, .int v, .list 3 2 [Tree.cs' a, Tree.cs' b]] := AC.agg.inj (argB k v a b)
inductive FormB (B : List Tree) : Tree → Prop
  | at (v : Int) : FormB B (.mk 2 v [])
  | nx (a : Tree) (ha : In (· ∈ B) a) (sa : a.sz ≤ 1000) : FormB B (.mk 6 0 [a])
  | un (a b : Tree) (ha : In (· ∈ B) a) (hb : In (· ∈ B) b) (sa : a.sz ≤ 1000) (sb : b.sz ≤ 1000) : FormB B (.mk 7 0 [a, b])
  | re (a b : Tree) (ha : In (· ∈ B) a) (hb : In (· ∈ B) b) (sa : a.sz ≤ 1000) (sb : b.sz ≤ 1000) : FormB B (.mk 8 0 [a, b])
theorem BasL.form {B : List Tree} (h : BasL B) {x : Tree} (hx : x ∈ B) : FormB B x := by
  have h1 := h.cl x hx
  have h2 := h.bk x hx
  have h3 := h.sz x hx
  cases h1 with
  | tr => simp [basicB, Tree.kind] at h2
  | «at» v _ => exact .at v
  | nt => simp [basicB, Tree.kind] at h2
  | na v _ => simp [basicB, Tree.kind] at h2
  | an _ _ => simp [basicB, Tree.kind] at h2
  | or _ _ => simp [basicB, Tree.kind] at h2
  | nx _ ha => rw [sz_one] at h3; exact .nx _ ha (by omega)
  | un _ ha hb => rw [sz_two] at h3; exact .un _ _ ha hb (by omega) (by omega)
  | re _ ha hb => rw [sz_two] at h3; exact .re _ _ ha hb (by omega) (by omega)
theorem folB_true {B : List Tree} {s t : Int} (h : ∀ i, i < B.length → folI B s t i = true) : folB B s t = true := by
  unfold folB; rw [List.all_eq_true]; exact fun i hi => h i (List.mem_range.1 hi)
theorem folB_false {B : List Tree} {s t : Int} {i : Nat} (hi : i < B.length) (h : folI B s t i = false) : folB B s t = false := by
  unfold folB; rw [List.all_eq_false]; exact ⟨i, List.mem_range.2 hi, by rw [h]; simp⟩

set_option maxHeartbeats 6400000 in
theorem l7Follows_ok (B : List Tree) (hB : BasL B) (s t : Int) (s0 : 0 ≤ s) (s1 : s ≤ 31) (t0 : 0 ≤ t) (t1 : t ≤ 31) : CallsA Tryz.prog 238 [lst 3 Tree.cs' B, .int s, .int t] [] (.bool (folB B s t)) [] := by
  have hl := hB.len
  refine z10 z18 Tryz.func238 rfl rfl 85 Tryz.ntmps238 (by simp) ?_
  repeat' (((apply AWP.go ok; rfl)) <;> conv => whnf)
  refine z76 (fun i : Nat => ([(0, lst 3 Tree.cs' B), (1, .int s), (2, .int t), (7, .int i)], [])) (fun i => i ≤ B.length ∧ ∀ j, j < i → folI B s t j = true) (fun i => B.length - i) 0 ⟨Nat.zero_le _, fun j h => absurd h (Nat.not_lt_zero _)⟩ (by refine SealW.reach [] [] rfl rfl rfl rfl ?_ ?_ <;> (repeat' (first | exact LocLe.refl _ | exact F2.nil | exact True.intro | apply And.intro))) ?_
  rintro i ⟨hi, hj⟩
  by_cases hil : i < B.length
  · have gk : (B.map Tree.cs')[i]? = some (Tree.cs' (B.getD i dftT)) := by rw [List.getElem?_map, List.getElem?_eq_getElem hil, z25 hil]; rfl
    have hf := hB.form (x := B.getD i dftT) (by rw [z25 hil]; exact List.getElem_mem _)
    have cw := l6HasG_ok s i s0 s1 (by omega) (by omega)
    have cn := l6HasG_ok t i t0 t1 (by omega) (by omega)
    have hI : folI B s t i = (folV B s t (B.getD i dftT) (hasB s i) (hasB t i) == hasB s i) := rfl
    have hT : folI B s t i = true → ∀ j, j < i + 1 → folI B s t j = true := fun h j hji => by
      rcases Nat.lt_or_ge j i with h3 | h3
      · exact hj j h3
      · obtain rfl : j = i := by omega
        exact h
    have hF : folI B s t i = false → folB B s t = false := folB_false hil
    rw [hI] at hT hF
    clear hI hj
    generalize B.getD i dftT = f at *
    generalize hasB s i = x at *
    generalize hasB t i = y at *
    cases hf with
    | «at» v =>
      have hT2 := hT (by simp [folV, Tree.kind])
      clear hT hF
      cases x
      all_goals
        repeat' ((first | (apply AWP.go ok; rfl) | (refine z24 (i := i) rfl gk ?_) | (apply And.intro; first | omega | (unfold inI; omega)) | ((apply z7) <;> intro _) | (apply z9 (cw); rfl; rfl)) <;> conv => whnf)
        all_goals first | (exfalso; omega) | skip
        all_goals refine z31 (i + 1) ⟨by omega, hT2⟩ (by omega) (by refine SealW.reach [] [] rfl rfl rfl rfl ?_ ?_ <;> (repeat' (first | exact LocLe.refl _ | exact F2.nil | exact True.intro | apply And.intro)))
    | nx a ha sa =>
      have ca := l7Value_ok B hB t t0 t1 a ha sa
      have e : folV B s t (.mk 6 0 [a]) x y = vlB B t a := by simp [folV, kidV, Tree.kind, Tree.kids]
      rw [e] at hT hF
      rw [csU] at gk
      clear e
      generalize vlB B t a = z at *
      cases x <;> cases z
      all_goals first | have hT := hT rfl | (have hF := hF rfl; rw [hF])
      all_goals
        repeat' ((first | (apply AWP.go ok; rfl) | (refine z24 (i := i) rfl gk ?_) | (refine ⟨_, rfl, ?_⟩) | (apply And.intro; first | omega | (unfold inI; omega)) | ((apply z7) <;> intro _) | (apply z9 (cw); rfl; rfl) | (apply z9 (ca); rfl; rfl)) <;> conv => whnf)
        all_goals first | (exfalso; omega) | skip
        all_goals first | (refine z31 (i + 1) ⟨by omega, hT⟩ (by omega) (by refine SealW.reach [] [] rfl rfl rfl rfl ?_ ?_ <;> (repeat' (first | exact LocLe.refl _ | exact F2.nil | exact True.intro | apply And.intro)))) | (refine RetS.lay [] [] rfl rfl rfl ?_; refine RetS.done ?_ ?_ <;> (repeat' (first | exact LocLe.refl _ | exact F2.nil)))
    | un a b ha hb sa sb =>
      have ca := l7Value_ok B hB s s0 s1 a ha sa
      have cb := l7Value_ok B hB s s0 s1 b hb sb
      have e : folV B s t (.mk 7 0 [a, b]) x y = (vlB B s b || (vlB B s a && y)) := by simp [folV, kidV, Tree.kind, Tree.kids]
      rw [e] at hT hF
      rw [csB2] at gk
      clear e
      generalize vlB B s a = z at *
      generalize vlB B s b = u at *
      cases x <;> cases y <;> cases z <;> cases u
      all_goals first | have hT := hT rfl | (have hF := hF rfl; rw [hF])
      all_goals
        repeat' ((first | (apply AWP.go ok; rfl) | (refine z24 (i := i) rfl gk ?_) | (refine ⟨_, rfl, ?_⟩) | (apply And.intro; first | omega | (unfold inI; omega)) | ((apply z7) <;> intro _) | (apply z9 (cw); rfl; rfl) | (apply z9 (cn); rfl; rfl) | (apply z9 (ca); rfl; rfl) | (apply z9 (cb); rfl; rfl)) <;> conv => whnf)
        all_goals first | (exfalso; omega) | skip
        all_goals first | (refine z31 (i + 1) ⟨by omega, hT⟩ (by omega) (by refine SealW.reach [] [] rfl rfl rfl rfl ?_ ?_ <;> (repeat' (first | exact LocLe.refl _ | exact F2.nil | exact True.intro | apply And.intro)))) | (refine RetS.lay [] [] rfl rfl rfl ?_; refine RetS.done ?_ ?_ <;> (repeat' (first | exact LocLe.refl _ | exact F2.nil)))
    | re a b ha hb sa sb =>
      have ca := l7Value_ok B hB s s0 s1 a ha sa
      have cb := l7Value_ok B hB s s0 s1 b hb sb
      have e : folV B s t (.mk 8 0 [a, b]) x y = (vlB B s b && (vlB B s a || y)) := by simp [folV, kidV, Tree.kind, Tree.kids]
      rw [e] at hT hF
      rw [csB2] at gk
      clear e
      generalize vlB B s a = z at *
      generalize vlB B s b = u at *
      cases x <;> cases y <;> cases z <;> cases u
      all_goals first | have hT := hT rfl | (have hF := hF rfl; rw [hF])
      all_goals
        repeat' ((first | (apply AWP.go ok; rfl) | (refine z24 (i := i) rfl gk ?_) | (refine ⟨_, rfl, ?_⟩) | (apply And.intro; first | omega | (unfold inI; omega)) | ((apply z7) <;> intro _) | (apply z9 (cw); rfl; rfl) | (apply z9 (cn); rfl; rfl) | (apply z9 (ca); rfl; rfl) | (apply z9 (cb); rfl; rfl)) <;> conv => whnf)
        all_goals first | (exfalso; omega) | skip
        all_goals first | (refine z31 (i + 1) ⟨by omega, hT⟩ (by omega) (by refine SealW.reach [] [] rfl rfl rfl rfl ?_ ?_ <;> (repeat' (first | exact LocLe.refl _ | exact F2.nil | exact True.intro | apply And.intro)))) | (refine RetS.lay [] [] rfl rfl rfl ?_; refine RetS.done ?_ ?_ <;> (repeat' (first | exact LocLe.refl _ | exact F2.nil)))
  · obtain rfl : i = B.length := by omega
    rw [folB_true fun j hji => hj j hji]
    repeat' ((first | (apply AWP.go ok; rfl) | (apply And.intro; omega) | (((with_reducible apply z13; omega)); intro _) | ((apply z7) <;> intro _)) <;> conv => whnf)
    all_goals first | (exfalso; omega) | (refine RetS.lay [] [] rfl rfl rfl ?_; refine RetS.done ?_ ?_ <;> (repeat' (first | exact LocLe.refl _ | exact F2.nil)))
end Go.Proofs.YtppafngcahgagaaGreat

namespace Go.Proofs.YtppafngcahgagaaGreat
open Go.Gl
attribute [local irreducible] z32 AWP z48 z55 z50 RetS z65

theorem l7Fulfils_ok (B : List Tree) (hB : BasL B) (s : Int) (s0 : 0 ≤ s) (s1 : s ≤ 31) (u : Nat) (hu : u < B.length) (hk : (B.getD u dftT).kind = 7) : CallsA Tryz.prog 260 [lst 3 Tree.cs' B, .int s, .int u] [] (.bool (fulB B s u)) [] := by
  have hl := hB.len
  have gk : (B.map Tree.cs')[u]? = some (Tree.cs' (B.getD u dftT)) := by rw [List.getElem?_map, List.getElem?_eq_getElem hu, z25 hu]; rfl
  have hf := hB.form (x := B.getD u dftT) (by rw [z25 hu]; exact List.getElem_mem _)
  have cw := l6HasG_ok s u s0 s1 (by omega) (by omega)
  have e : fulB B s u = (!hasB s u || kidV B s (B.getD u dftT) 1) := rfl
  rw [e]
  generalize B.getD u dftT = f at *
  generalize hasB s u = x at *
  cases hf with
  | «at» v => simp [Tree.kind] at hk
  | nx a _ _ => simp [Tree.kind] at hk
  | re a b _ _ _ _ => simp [Tree.kind] at hk
  | un a b ha hb sa sb =>
    have cb := l7Value_ok B hB s s0 s1 b hb sb
    rw [csB2] at gk
    have e2 : kidV B s (.mk 7 0 [a, b]) 1 = vlB B s b := by simp [kidV, Tree.kids]
    rw [e2]
    clear e e2
    generalize vlB B s b = y at *
    cases x
    all_goals
      refine z10 z18 Tryz.func260 rfl rfl 23 Tryz.ntmps260 (by simp) ?_
      repeat' ((first | (apply AWP.go ok; rfl) | (refine z24 (i := u) rfl gk ?_) | (refine ⟨_, rfl, ?_⟩) | (apply And.intro; omega) | (apply z9 (cw); rfl; rfl) | (apply z9 (cb); rfl; rfl)) <;> conv => whnf)
      all_goals skip
      all_goals (refine RetS.lay [] [] rfl rfl rfl ?_; refine RetS.done ?_ ?_ <;> (repeat' (first | exact LocLe.refl _ | exact F2.nil)))

def untL (B : List Tree) (i : Nat) : List Int := ((List.range i).filter fun i => decide ((B.getD i dftT).kind = 7)).map Int.ofNat
theorem untL_succ (B : List Tree) (i : Nat) : untL B (i + 1) = untL B i ++ (if (B.getD i dftT).kind = 7 then [(i : Int)] else []) := by
  unfold untL
  rw [List.range_succ, List.filter_append, List.map_append]
  congr 1
  by_cases h : (B.getD i dftT).kind = 7
  · rw [if_pos h, List.filter_cons_of_pos (by simpa using h)]; rfl
  · rw [if_neg h, List.filter_cons_of_neg (by simpa using h)]; rfl
theorem untL_len (B : List Tree) (i : Nat) : (untL B i).length ≤ i := by
  unfold untL
  rw [List.length_map]
  have := List.length_filter_le (fun i => decide ((B.getD i dftT).kind = 7)) (List.range i)
  simpa using this
theorem l7Untils_ok (B : List Tree) (hl : B.length ≤ 1000) : CallsA Tryz.prog 234 [lst 3 Tree.cs' B] [] (ints (untB B)) [] := by
  refine z10 z18 Tryz.func234 rfl rfl 23 Tryz.ntmps234 (by simp) ?_
  repeat' (((apply AWP.go ok; rfl)) <;> conv => whnf)
  refine z76 (fun x : Nat × List Int => ([(0, lst 3 Tree.cs' B), (3, .sref 0 0 x.2.length), (4, .int x.1)], [.cells 1 (x.2.map enI)])) (fun x => x.1 ≤ B.length ∧ untL B x.1 = x.2) (fun x => B.length - x.1) (0, []) ⟨Nat.zero_le _, rfl⟩ (by refine SealW.reach [0] [] rfl rfl rfl rfl ?_ ?_ <;> (repeat' (first | exact LocLe.refl _ | exact F2.nil | apply F2.cons | ((refine z16 rfl ?_ ?_); (focus ((repeat' (exact z38)); done))) | exact True.intro | apply And.intro))) ?_
  rintro ⟨i, U⟩ ⟨hi, hU⟩
  dsimp only at hi hU ⊢
  have hul := untL_len B i
  rw [hU] at hul
  by_cases hil : i < B.length
  · have gk : (B.map Tree.cs')[i]? = some (Tree.cs' (B.getD i dftT)) := by rw [List.getElem?_map, List.getElem?_eq_getElem hil, z25 hil]; rfl
    have hs := untL_succ B i
    rw [hU] at hs
    generalize B.getD i dftT = f at *
    by_cases hk : f.kind = 7
    · rw [if_pos hk] at hs
      repeat' ((first | (apply AWP.go ok; rfl) | (refine z24 (i := i) rfl gk ?_) | (apply And.intro; first | omega | (unfold inI; omega) | ((try dsimp only); simp only [List.length_map, List.length_take, List.length_append, List.length_replicate, List.length_cons, List.length_nil]; omega) | exact ⟨rfl, z21 rfl z26⟩) | ((apply z7) <;> intro _)) <;> conv => whnf)
      all_goals first | (exfalso; omega) | skip
      all_goals refine z31 (i + 1, U ++ [(i : Int)]) ⟨by show i + 1 ≤ _; omega, hs⟩ (by show B.length - (i + 1) < B.length - i; omega) (by refine SealW.reach [2] [] rfl rfl rfl rfl ?_ ?_ <;> (repeat' (first | exact LocLe.refl _ | exact F2.nil | apply F2.cons | (refine z35 ?_; ((simp; done))) | ((refine z30 rfl ?_ ?_); (focus ((repeat' (first | exact z8 (fun _ => rfl) | apply z22)); done))) | (refine z73 ?_ ?_; (focus (omega))) | exact True.intro | apply And.intro)))
    · rw [if_neg hk, List.append_nil] at hs
      repeat' ((first | (apply AWP.go ok; rfl) | (refine z24 (i := i) rfl gk ?_) | (apply And.intro; first | omega | (unfold inI; omega)) | ((apply z7) <;> intro _)) <;> conv => whnf)
      all_goals first | (exfalso; omega) | skip
      all_goals refine z31 (i + 1, U) ⟨by show i + 1 ≤ _; omega, hs⟩ (by show B.length - (i + 1) < B.length - i; omega) (by refine SealW.reach [0] [] rfl rfl rfl rfl ?_ ?_ <;> (repeat' (first | exact LocLe.refl _ | exact F2.nil | apply F2.cons | exact z15 _ | ((refine z16 rfl ?_ ?_); (focus ((repeat' ((exact z8 (fun _ => rfl)))); done))) | exact True.intro | apply And.intro)))
  · obtain rfl : i = B.length := by omega
    have e : untB B = U := hU
    rw [e]
    repeat' ((first | (apply AWP.go ok; rfl) | (apply And.intro; omega) | (((with_reducible apply z13; omega)); intro _) | ((apply z7) <;> intro _)) <;> conv => whnf)
    all_goals first | (exfalso; omega) | (refine RetS.lay [] [0] rfl rfl rfl ?_; refine RetS.done ?_ ?_ <;> (repeat' (first | exact LocLe.refl _ | exact F2.nil | ((apply z37 rfl rfl rfl); (focus ((repeat ((exact z33 (fun _ => rfl) _))); done)); (focus (((simp; done)); done))))))
theorem untB_mem {B : List Tree} {x : Int} (h : x ∈ untB B) : ∃ u : Nat, x = u ∧ u < B.length ∧ (B.getD u dftT).kind = 7 := by
  unfold untB at h
  obtain ⟨u, hu, rfl⟩ := List.mem_map.1 h
  obtain ⟨h1, h2⟩ := List.mem_filter.1 hu
  exact ⟨u, rfl, List.mem_range.1 h1, of_decide_eq_true h2⟩
theorem l7Phase_ok (B : List Tree) (hB : BasL B) (s : Int) (s0 : 0 ≤ s) (s1 : s ≤ 31) (ph : Nat) (hp : (untB B).length = 0 ∨ ph < (untB B).length) : CallsA Tryz.prog 236 [lst 3 Tree.cs' B, ints (untB B), .int s, .int ph] [] (.tup [.int (phB B (untB B) s ph).1, .bool (phB B (untB B) s ph).2]) [] := by
  have hl := hB.len
  have hul : (untB B).length ≤ B.length := untL_len B B.length
  have hm := fun x => @untB_mem B x
  unfold phB
  generalize untB B = U at *
  by_cases h0 : U.length = 0
  · rw [if_pos h0]
    refine z10 z18 Tryz.func236 rfl rfl 28 Tryz.ntmps236 (by simp) ?_
    repeat' ((first | (apply AWP.go ok; rfl) | (apply And.intro; omega) | (((with_reducible apply z13; omega)); intro _) | ((apply z7) <;> intro _)) <;> conv => whnf)
    all_goals first | (exfalso; omega) | (refine RetS.lay [] [] rfl rfl rfl ?_; refine RetS.done ?_ ?_ <;> (repeat' (first | exact LocLe.refl _ | exact F2.nil)))
  · rw [if_neg h0]
    have hpl : ph < U.length := by omega
    have gu : (U.map enI)[ph]? = some (enI (U.getD ph 0)) := by rw [List.getElem?_map, List.getElem?_eq_getElem hpl, z25 hpl]; rfl
    obtain ⟨u, e, hu, hk⟩ := hm (U.getD ph 0) (by rw [z25 hpl]; exact List.getElem_mem _)
    rw [e] at gu
    have cf := l7Fulfils_ok B hB s s0 s1 u hu hk
    rw [Int.toNat_natCast, e]
    generalize fulB B s u = z at *
    cases z
    · refine z10 z18 Tryz.func236 rfl rfl 28 Tryz.ntmps236 (by simp) ?_
      repeat' ((first | (apply AWP.go ok; rfl) | (refine z24 (i := ph) rfl gu ?_) | (apply And.intro; omega) | ((apply z7) <;> intro _) | (apply z9 (cf); rfl; rfl)) <;> conv => whnf)
      all_goals first | (exfalso; omega) | (refine RetS.lay [] [] rfl rfl rfl ?_; refine RetS.done ?_ ?_ <;> (repeat' (first | exact LocLe.refl _ | exact F2.nil)))
    · refine z10 z18 Tryz.func236 rfl rfl 28 Tryz.ntmps236 (by simp) ?_
      repeat' ((first | (apply AWP.go ok; rfl) | (refine z24 (i := ph) rfl gu ?_) | (apply And.intro; first | omega | (unfold inI; omega)) | ((apply z7) <;> intro _) | (apply z9 (cf); rfl; rfl)) <;> conv => whnf)
      all_goals first | (exfalso; omega) | skip
      all_goals (refine RetS.lay [] [] rfl rfl rfl ?_; refine RetS.done ?_ ?_ <;> (repeat' (first | exact LocLe.refl _ | exact F2.nil)))
end Go.Proofs.YtppafngcahgagaaGreat

namespace Go.Proofs.YtppafngcahgagaaGreat
open Go.Gl
attribute [local irreducible] z32 AWP z48 z55 z50 RetS z65

theorem atoI_foldl {B : List Tree} {s : Int} (i : Nat) : (List.range (i + 1)).foldl (atoI B s) (0, 0) = atoI B s ((List.range i).foldl (atoI B s) (0, 0)) i := by
  rw [List.range_succ, List.foldl_append]; rfl
theorem orP_lt {c k : Nat} (h : c < 8) (hk : k ≤ 2) : c ||| 2 ^ k < 8 := by
  have : k = 0 ∨ k = 1 ∨ k = 2 := by omega
  rcases this with rfl | rfl | rfl <;> exact Nat.or_lt_two_pow (n := 3) h (by decide)
set_option maxHeartbeats 3200000 in
theorem l7Letter_ok (B : List Tree) (hB : BasL B) (s : Int) (s0 : 0 ≤ s) (s1 : s ≤ 31) : CallsA Tryz.prog 237 [lst 3 Tree.cs' B, .int s] [] (.tup [.int (letB B s).1, .int (letB B s).2]) [] := by
  have hl := hB.len
  refine z10 z18 Tryz.func237 rfl rfl 44 Tryz.ntmps237 (by simp) ?_
  repeat' (((apply AWP.go ok; rfl)) <;> conv => whnf)
  refine z76 (fun x : Nat × Nat × Nat => ([(0, lst 3 Tree.cs' B), (1, .int s), (6, .int x.2.1), (7, .int x.2.2), (8, .int x.1)], [])) (fun x => x.1 ≤ B.length ∧ (List.range x.1).foldl (atoI B s) (0, 0) = x.2 ∧ x.2.1 < 8 ∧ x.2.2 < 8) (fun x => B.length - x.1) (0, 0, 0) ⟨Nat.zero_le _, rfl, by decide, by decide⟩ (by refine SealW.reach [] [] rfl rfl rfl rfl ?_ ?_ <;> (repeat' (first | exact LocLe.refl _ | exact F2.nil | exact True.intro | apply And.intro))) ?_
  rintro ⟨i, c, v⟩ ⟨hi, hf, hc, hv⟩
  dsimp only at hi hf hc hv ⊢
  by_cases hil : i < B.length
  · have gk : (B.map Tree.cs')[i]? = some (Tree.cs' (B.getD i dftT)) := by rw [List.getElem?_map, List.getElem?_eq_getElem hil, z25 hil]; rfl
    have hmem : B.getD i dftT ∈ B := by rw [z25 hil]; exact List.getElem_mem _
    have hform := hB.form hmem
    have cw := l6HasG_ok s i s0 s1 (by omega) (by omega)
    have hs := atoI_foldl (B := B) (s := s) i
    rw [hf] at hs
    unfold atoI at hs
    dsimp only at hs
    by_cases hk : (B.getD i dftT).kind = 2
    · rw [if_pos hk] at hs
      have hvv : ∃ a : Nat, (B.getD i dftT).val = a ∧ a ≤ 2 := by
        generalize B.getD i dftT = f at *
        cases hform with
        | «at» v => have := hB.av v hmem; exact ⟨v.toNat, by simp [Tree.val]; omega, by omega⟩
        | nx a _ _ => simp [Tree.kind] at hk
        | un a b _ _ _ _ => simp [Tree.kind] at hk
        | re a b _ _ _ _ => simp [Tree.kind] at hk
      obtain ⟨a, ea, ha⟩ := hvv
      have gk2 : (B.map Tree.cs')[i]? = some [.int 2, .int a, .list 3 (B.getD i dftT).kids.length ((B.getD i dftT).kids.map Tree.cs)] := by rw [gk, ← hk, ← ea]; rfl
      have o1 := orP_lt hc ha
      have o2 := orP_lt hv ha
      have e := shl_eq a (by omega)
      have hp := pow_bound (show a < 3 by omega)
      have hw : IntKind.u64.wrap (a : Int) = a := by
        have : a = 0 ∨ a = 1 ∨ a = 2 := by omega
        rcases this with rfl | rfl | rfl <;> rfl
      rw [ea, Int.toNat_natCast] at hs
      clear gk hform hmem hk ea
      generalize hasB s i = z at *
      generalize (B.getD i dftT).kids = ks at *
      cases z
      · rw [if_neg (by simp)] at hs
        repeat' ((first | (apply AWP.go ok; rfl) | (refine z24 (i := i) rfl gk2 ?_) | (apply And.intro; first | omega | (unfold inI; omega)) | ((apply z7) <;> intro _)) <;> conv => whnf)
        all_goals first | (exfalso; omega) | skip
        refine And.intro (by rw [e]; unfold bitsOk; omega) ?_
        conv => whnf
        repeat' ((first | (apply AWP.go ok; rfl) | (apply And.intro; (unfold inI; omega)) | (apply z9 (cw); rfl; rfl)) <;> conv => whnf)
        all_goals skip
        all_goals refine z31 (i + 1, c ||| 2 ^ a, v) ⟨by show i + 1 ≤ _; omega, hs, o1, hv⟩ (by show B.length - (i + 1) < B.length - i; omega) (by refine SealW.reach [] [] rfl rfl rfl rfl ?_ ?_ <;> (repeat' (first | exact LocLe.refl _ | exact F2.nil | exact True.intro | apply And.intro)) <;> ((rw [e]; exact LocLe.refl _)))
      · rw [if_pos rfl] at hs
        repeat' ((first | (apply AWP.go ok; rfl) | (refine z24 (i := i) rfl gk2 ?_) | (apply And.intro; first | omega | (unfold inI; omega)) | ((apply z7) <;> intro _)) <;> conv => whnf)
        all_goals first | (exfalso; omega) | skip
        refine And.intro (by rw [e]; unfold bitsOk; omega) ?_
        conv => whnf
        repeat' ((first | (apply AWP.go ok; rfl) | (refine z24 (i := i) rfl gk2 ?_) | (apply And.intro; first | omega | (unfold inI; omega)) | (apply z9 (cw); rfl; rfl)) <;> conv => whnf)
        all_goals skip
        refine And.intro (by rw [e]; unfold bitsOk; omega) ?_
        conv => whnf
        repeat' ((first | (apply AWP.go ok; rfl) | (apply And.intro; (unfold inI; omega))) <;> conv => whnf)
        all_goals refine z31 (i + 1, c ||| 2 ^ a, v ||| 2 ^ a) ⟨by show i + 1 ≤ _; omega, hs, o1, o2⟩ (by show B.length - (i + 1) < B.length - i; omega) (by refine SealW.reach [] [] rfl rfl rfl rfl ?_ ?_ <;> (repeat' (first | exact LocLe.refl _ | exact F2.nil | exact True.intro | apply And.intro)) <;> ((rw [e]; exact LocLe.refl _)))
    · rw [if_neg hk] at hs
      generalize B.getD i dftT = f at *
      repeat' ((first | (apply AWP.go ok; rfl) | (refine z24 (i := i) rfl gk ?_) | (apply And.intro; first | omega | (unfold inI; omega)) | ((apply z7) <;> intro _) | (apply z9 (cw); rfl; rfl)) <;> conv => whnf)
      all_goals first | (exfalso; omega) | skip
      all_goals refine z31 (i + 1, c, v) ⟨by show i + 1 ≤ _; omega, hs, hc, hv⟩ (by show B.length - (i + 1) < B.length - i; omega) (by refine SealW.reach [] [] rfl rfl rfl rfl ?_ ?_ <;> (repeat' (first | exact LocLe.refl _ | exact F2.nil | exact True.intro | apply And.intro)))
  · obtain rfl : i = B.length := by omega
    have e : letB B s = (c, v) := hf
    rw [e]
    repeat' ((first | (apply AWP.go ok; rfl) | (apply And.intro; omega) | (((with_reducible apply z13; omega)); intro _) | ((apply z7) <;> intro _)) <;> conv => whnf)
    all_goals first | (exfalso; omega) | (refine RetS.lay [] [] rfl rfl rfl ?_; refine RetS.done ?_ ?_ <;> (repeat' (first | exact LocLe.refl _ | exact F2.nil)))
end Go.Proofs.YtppafngcahgagaaGreat

namespace Go.Proofs.YtppafngcahgagaaGreat
open Go.Gl
attribute [local irreducible] z32 AWP z48 z55 z50 RetS z65

theorem l7Pair_ok (L : List (List Int)) (hL : L.length ≤ 1000) (hr : ∀ r ∈ L, r.length ≤ 1000) (p : List Int) (hp : p.length ≤ 1000) : CallsA Tryz.prog 239 [.sref 0 0 L.length, .sref 1 0 p.length] [.cells 1 (L.map encL), .cells 1 (p.map enI)] (.tup [.sref 2 0 (pairL L p).length, .int (pairI L p)]) [.dead, .dead, .cells 1 ((pairL L p).map encL)] := by
  have hc : ∀ i (h : i < L.length), CallsA Tryz.prog 76 [ints L[i], ints p] [] (.bool (decide (L[i] = p))) [] := fun i h => l2Ints_ok _ _ (by have := hr _ (List.getElem_mem h); unfold maxLen; omega) (by unfold maxLen; omega)
  refine z10 z18 Tryz.func239 rfl rfl 27 Tryz.ntmps239 (by simp) ?_
  refine AWP.reach (Reach.rnm 0 rfl) ?_
  refine AWP.reach (Reach.rnm 1 rfl) ?_
  conv => whnf
  repeat' (((apply AWP.go ok; rfl)) <;> conv => whnf)
  refine z76 (fun i : Nat => ([(0, .sref 2 0 L.length), (1, .sref 3 0 p.length), (6, .int i)], [.dead, .dead, .cells 1 (L.map encL), .cells 1 (p.map enI)])) (fun i => i ≤ L.length ∧ ∀ j (h : j < L.length), j < i → L[j] ≠ p) (fun i => L.length - i) 0 ⟨Nat.zero_le _, fun j _ h => absurd h (Nat.not_lt_zero _)⟩ (by refine SealW.reach [0, 1, 2, 3] [] rfl rfl rfl rfl ?_ ?_ <;> (repeat' (first | exact LocLe.refl _ | exact F2.nil | apply F2.cons | exact z15 _ | ((refine z16 rfl ?_ ?_); (focus ((repeat' ((exact z8 (fun _ => rfl)))); done))) | exact True.intro | apply And.intro))) ?_
  rintro i ⟨hi, hj⟩
  by_cases hil : i < L.length
  · have gk : (L.map encL)[i]? = some (encL L[i]) := by rw [List.getElem?_map, List.getElem?_eq_getElem hil]; rfl
    have c1 := hc i hil
    by_cases he : L[i] = p
    · have e1 : pairL L p = L := by unfold pairL; rw [if_pos (by rw [← he]; exact List.getElem_mem hil)]
      have e2 : pairI L p = i := by
        unfold pairI
        have h1 : p ∈ L := by rw [← he]; exact List.getElem_mem hil
        have h2 := List.idxOf_lt_length_of_mem h1
        have h3 := List.getElem_idxOf h2
        rcases Nat.lt_trichotomy (L.idxOf p) i with h | h | h
        · exact absurd h3 (hj _ h2 h)
        · exact h
        · exfalso
          have := List.not_of_lt_findIdx (p := (· == p)) (xs := L) (i := i) (by simpa [List.idxOf] using h)
          simp [he] at this
      rw [e1, e2]
      rw [decide_eq_true he] at c1
      generalize L[i] = q at *
      repeat' ((first | (apply AWP.go ok; rfl) | (refine z24 (i := i) rfl gk ?_) | (apply And.intro; omega) | ((apply z7) <;> intro _) | (((apply z6 [] [3] [] (c1); (focus ((repeat' first | exact z86 | apply z57) <;> first | exact z119 rfl rfl rfl | rfl)); (focus ((repeat' exact z4) <;> fail)))); rfl; rfl; rfl; rfl; rfl; (focus ((repeat' exact z12) <;> fail)); ((refine .inr ⟨rfl, ?_⟩; repeat' exact True.intro)))) <;> conv => whnf)
      all_goals first | (exfalso; omega) | skip
      all_goals (refine RetS.lay [0, 1, 2] [] rfl rfl rfl ?_; refine RetS.done ?_ ?_ <;> (repeat' (first | exact LocLe.refl _ | exact F2.nil | apply F2.cons | exact z15 _ | ((refine z16 rfl ?_ ?_); (focus ((repeat' ((exact z8 (fun _ => rfl)))); done))) | exact True.intro)))
    · rw [decide_eq_false he] at c1
      have hj2 : ∀ j (h : j < L.length), j < i + 1 → L[j] ≠ p := fun j h hji => by
        rcases Nat.lt_or_ge j i with h3 | h3
        · exact hj j h h3
        · obtain rfl : j = i := by omega
          exact he
      generalize L[i] = q at *
      repeat' ((first | (apply AWP.go ok; rfl) | (refine z24 (i := i) rfl gk ?_) | (apply And.intro; first | omega | (unfold inI; omega)) | ((apply z7) <;> intro _) | (((apply z6 [] [3] [] (c1); (focus ((repeat' first | exact z86 | apply z57) <;> first | exact z119 rfl rfl rfl | rfl)); (focus ((repeat' exact z4) <;> fail)))); rfl; rfl; rfl; rfl; rfl; (focus ((repeat' exact z12) <;> fail)); ((refine .inr ⟨rfl, ?_⟩; repeat' exact True.intro)))) <;> conv => whnf)
      all_goals first | (exfalso; omega) | skip
      all_goals refine z31 (i + 1) ⟨by omega, hj2⟩ (by omega) (by refine SealW.reach [0, 1, 2, 3] [] rfl rfl rfl rfl ?_ ?_ <;> (repeat' (first | exact LocLe.refl _ | exact F2.nil | apply F2.cons | exact z15 _ | ((refine z16 rfl ?_ ?_); (focus ((repeat' ((exact z8 (fun _ => rfl)))); done))) | exact True.intro | apply And.intro)))
  · have hn : p ∉ L := fun h => by
      obtain ⟨j, hjl, e⟩ := List.mem_iff_getElem.1 h
      exact hj j hjl (by omega) e
    have e1 : pairL L p = L ++ [p] := by unfold pairL; rw [if_neg hn]
    have e2 : pairI L p = L.length := by unfold pairI; exact List.idxOf_eq_length hn
    rw [e1, e2]
    obtain rfl : i = L.length := by omega
    repeat' ((first | (apply AWP.go ok; rfl) | (apply And.intro; first | omega | ((try dsimp only); simp only [List.length_map, List.length_take, List.length_append, List.length_replicate, List.length_cons, List.length_nil]; omega) | exact ⟨rfl, z21 rfl z26⟩) | (((apply z13; omega)); intro _) | ((apply z7) <;> intro _)) <;> conv => whnf)
    all_goals first | (exfalso; omega) | skip
    all_goals (refine RetS.lay [0, 1, 5] [3] rfl rfl rfl ?_; refine RetS.done ?_ ?_ <;> (repeat' (first | exact LocLe.refl _ | exact F2.nil | apply F2.cons | (refine z35 ?_; ((simp; done))) | ((refine z30 rfl ?_ ?_); (focus ((repeat' (first | exact z8 (fun _ => rfl) | apply z22)); done))) | (refine z73 ?_ ?_; (focus (omega))) | ((apply z74 rfl rfl rfl); (focus ((repeat ((exact z33 (fun _ => rfl) _))); done)); (focus (((simp; done)); done))) | apply z111 | exact True.intro)))
end Go.Proofs.YtppafngcahgagaaGreat

namespace Go.Proofs.YtppafngcahgagaaGreat
open Go.Gl
attribute [local irreducible] z32 AWP z48 z55 z50 RetS z65

def eT (e : Edg) : Trans := ⟨e.src, e.care, e.val, e.dst⟩
noncomputable def trOut (n0 : Nat) (x : TrS) : Aut := ⟨numI n0, if x.L.length = 0 then [false] else x.acc, x.ed.map eT⟩
noncomputable def trO (t : Tree) : Option Aut := if bscB t = true then (trS (bscL (t.nrm false)) (t.nrm false)).map (trOut (iniS (bscL (t.nrm false)) (t.nrm false)).length) else none
noncomputable def trA (t : Tree) : Aut := (trO t).getD ⟨[], [], []⟩
noncomputable def trB (t : Tree) : Bool := (trO t).isSome
theorem basL_of {t : Tree} (ht : t.fmB = true) (hn : (t.nrm false).fmB = true) (h5 : (bscL (t.nrm false)).length ≤ 5) (hs : t.sz ≤ 200) : BasL (bscL (t.nrm false)) ∧ In (· ∈ bscL (t.nrm false)) (t.nrm false) ∧ (t.nrm false).sz ≤ 1000 := by
  have hg := Tree.goodF_of ht
  have hz := Tree.nrm_sz t hg false
  obtain ⟨a1, a2, a3, a4, a5, a6⟩ := bscL_facts (Tree.goodF_of hn) (nrm_NF t hg false)
  exact ⟨⟨h5, a1, fun x hx => by have := a2 x hx; omega, a3, a4, a5⟩, a6, by omega⟩
theorem pow_5 {n : Nat} (h : n ≤ 5) : 1 ≤ 2 ^ n ∧ 2 ^ n ≤ 32 := by
  have : n = 0 ∨ n = 1 ∨ n = 2 ∨ n = 3 ∨ n = 4 ∨ n = 5 := by omega
  rcases this with rfl | rfl | rfl | rfl | rfl | rfl <;> decide
set_option maxHeartbeats 12800000 in
theorem trans_new (t : Tree) (hs : t.sz ≤ 200) : CallsA Tryz.prog 197 [z43 Tree.cs' t] [] (.tup [.agg [.sref 0 0 (trA t).ini.length, .sref 1 0 (trA t).acc.length, .sref 2 0 (trA t).ed.length], .bool (trB t)]) [.cells 1 ((trA t).ini.map enI), .cells 1 ((trA t).acc.map enB), .cells 4 ((trA t).ed.map Trans.cs)] := by
  have cb := basicF_ok t hs
  have cn := normalForm_ok t (by omega)
  unfold trA trB trO
  by_cases h : bscB t = true
  · obtain ⟨⟨ht, hn⟩, h5⟩ := of_decide_eq_true (show decide _ = true from h)
    obtain ⟨hB, hIn, hsz⟩ := basL_of ht hn h5 hs
    rw [if_pos h] at cb ⊢
    rw [h] at cb
    rw [if_pos ⟨ht, hn⟩, decide_eq_true ⟨ht, hn⟩] at cn
    clear h ht hn
    generalize t.nrm false = g at *
    generalize bscL g = B at *
    have hp := pow_5 h5
    have cU := l7Untils_ok B (by omega)
    have hi0 := iniS_len B g
    have hul : (untB B).length ≤ B.length := untL_len B B.length
    have e2 : ((1 : Int) * 2 ^ ((B.length : Int).toNat)) = ((2 ^ B.length : Nat) : Int) := by
      rw [Int.toNat_natCast, Int.one_mul]; norm_cast
    have hw : IntKind.u64.wrap (B.length : Int) = B.length := by
      have : B.length = 0 ∨ B.length = 1 ∨ B.length = 2 ∨ B.length = 3 ∨ B.length = 4 ∨ B.length = 5 := by omega
      rcases this with h | h | h | h | h | h <;> rw [h] <;> rfl
    rw [Tree.arg_eq t] at cb cn ⊢
    have cV := fun s a b => l7Value_ok B hB s a b g hIn hsz
    rw [Tree.arg_eq g] at cn cV
    refine z10 z18 Tryz.func197 rfl rfl 137 Tryz.ntmps197 (by simp) ?_
    repeat' ((first | (apply AWP.go ok; rfl) | (apply And.intro; first | omega | (unfold inI; omega)) | (apply z9 (cb); rfl; rfl) | (apply z9 (cn); rfl; rfl) | (apply z9 (cU); rfl; rfl)) <;> conv => whnf)
    all_goals skip
    refine AWP.reach (Reach.empty 1 rfl) ?_
    refine AWP.reach (Reach.empty 1 rfl) ?_
    refine AWP.reach (Reach.empty 4 rfl) ?_
    refine z76 (fun x : Nat × List (List Int) × List Int => ([(2, .ptr 0 none 0), (4, lst 3 Tree.cs' B), (6, .ptr 1 none 0), (8, .int ((2 ^ B.length : Nat) : Int)), (9, ints (untB B)), (10, .ptr 2 none 0), (11, .sref 3 0 x.2.1.length), (12, .int x.1)], [.cells 3 [[.nils, .nils, .nils]], .cells 3 [[.int g.kind, .int g.val, lst 3 Tree.cs' g.kids]], .cells 3 [[.sref 4 0 x.2.2.length, .sref 5 0 0, .sref 6 0 0]], .cells 1 (x.2.1.map encL), .cells 1 (x.2.2.map enI), .cells 1 [], .cells 4 []])) (fun x => x.1 ≤ 2 ^ B.length ∧ iniK B (fun s => vlB B (s : Nat) g) x.1 = x.2.1 ∧ numI x.2.1.length = x.2.2) (fun x => 2 ^ B.length - x.1) (0, [], []) ⟨Nat.zero_le _, rfl, rfl⟩ (by refine SealW.reach [1, 2, 3, 4, 5, 6, 7] [] rfl rfl rfl rfl ?_ ?_ <;> (repeat' (first | exact LocLe.refl _ | exact z51 | exact F2.nil | apply F2.cons | (refine z95 ?_; omega) | apply ObjLe.box | ((refine z16 rfl ?_ ?_); (focus ((repeat' (exact z38)); done))) | exact True.intro | apply And.intro)) <;> ((rw [e2]; exact LocLe.refl _))) ?_
    rintro ⟨k, L, N⟩ ⟨hk, hL, hN⟩
    dsimp only at hk hL hN ⊢
    have hLl := iniK_len B (fun s => vlB B (s : Nat) g) k
    rw [hL] at hLl
    have nl := numI_len L.length
    have ns := numI_succ L.length
    rw [hN] at nl ns
    by_cases hkl : k < 2 ^ B.length
    · have hsu := iniK_succ B (fun s => vlB B (s : Nat) g) k
      rw [hL] at hsu
      have cv := cV k (by omega) (by omega)
      generalize vlB B (k : Nat) g = z at *
      cases z
      · rw [if_neg (by simp), List.append_nil] at hsu
        repeat' ((first | (apply AWP.go ok; rfl) | (apply And.intro; (unfold inI; omega)) | ((apply z7) <;> intro _) | (apply z9 (cv); rfl; rfl)) <;> conv => whnf)
        all_goals first | (exfalso; omega) | skip
        all_goals refine z31 (k + 1, L, N) ⟨by show k + 1 ≤ _; omega, hsu, hN⟩ (by show 2 ^ B.length - (k + 1) < 2 ^ B.length - k; omega) (by refine SealW.reach [0, 1, 2, 3, 4, 5, 6] [] rfl rfl rfl rfl ?_ ?_ <;> (repeat' (first | exact LocLe.refl _ | exact F2.nil | apply F2.cons | exact z15 _ | apply ObjLe.box | ((refine z16 rfl ?_ ?_); (focus ((repeat' (first | exact z38 | exact z8 (fun _ => rfl))); done))) | exact True.intro | apply And.intro)))
      · rw [if_pos rfl] at hsu
        repeat' ((first | (apply AWP.go ok; rfl) | (apply And.intro; first | (unfold inI; omega) | ((try dsimp only); simp only [List.length_map, List.length_take, List.length_append, List.length_replicate, List.length_cons, List.length_nil]; omega) | exact ⟨rfl, z21 rfl z26⟩) | ((apply z7) <;> intro _) | (apply z9 (cv); rfl; rfl)) <;> conv => whnf)
        all_goals first | (exfalso; omega) | skip
        all_goals refine z31 (k + 1, L ++ [[(k : Int), 0]], N ++ [(L.length : Int)]) ⟨by show k + 1 ≤ _; omega, hsu, by show numI (L ++ [[(k : Int), 0]]).length = _; rw [List.length_append]; exact ns⟩ (by show 2 ^ B.length - (k + 1) < 2 ^ B.length - k; omega) (by refine SealW.reach [0, 1, 2, 11, 8, 5, 6] [9] rfl rfl rfl rfl ?_ ?_ <;> (repeat' (first | exact LocLe.refl _ | exact F2.nil | apply F2.cons | (refine z35 ?_; ((simp; done))) | apply ObjLe.box | ((first | refine z30 rfl ?_ ?_ | refine z16 rfl ?_ ?_); (focus ((repeat' (first | exact z38 | exact z8 (fun _ => rfl) | apply z22)); done))) | (refine z73 ?_ ?_; (focus (omega))) | exact True.intro | apply And.intro)))
    · obtain rfl : k = 2 ^ B.length := by omega
      have hrows := iniK_row B (fun s => vlB B (s : Nat) g) (2 ^ B.length) B.length (untB B) (Nat.le_refl _)
      rw [hL] at hrows
      have hL0 : iniS B g = L := hL
      have hR : goS B (untB B) 65 0 ⟨L, [], []⟩ = trS B g := by rw [← hL0]; rfl
      have hO : trOut L.length = fun x => ⟨N, if x.L.length = 0 then [false] else x.acc, x.ed.map eT⟩ := by unfold trOut; rw [hN]
      rw [hL0, hO]
      clear hO
      clear hL hkl cV cb cn cU hi0 ns hN hIn hsz hw e2 hk
      have hphase := fun (s ph : Nat) (h : s < 2 ^ B.length) (h2 : (untB B).length = 0 ∨ ph < (untB B).length) => l7Phase_ok B hB s (by omega) (by omega) ph h2
      have hletter := fun (s : Nat) (h : s < 2 ^ B.length) => l7Letter_ok B hB s (by omega) (by omega)
      have hfol := fun (s k : Nat) (h : s < 2 ^ B.length) (h2 : k < 2 ^ B.length) => l7Follows_ok B hB s k (by omega) (by omega) (by omega) (by omega)
      have hrowq := fun (s ph : Nat) (h : (untB B).length = 0 ∨ ph < (untB B).length) => phB_row (B := B) (s := s) h
      generalize trS B g = R at *
      have hRO : ∀ x, R = some x → Option.map (fun x : TrS => (⟨N, if x.L.length = 0 then [false] else x.acc, x.ed.map eT⟩ : Aut)) R = some ⟨N, if x.L.length = 0 then [false] else x.acc, x.ed.map eT⟩ := fun x h => by rw [h]; rfl
      have hRN : R = none → Option.map (fun x : TrS => (⟨N, if x.L.length = 0 then [false] else x.acc, x.ed.map eT⟩ : Aut)) R = none := fun h => by rw [h]; rfl
      generalize Option.map (fun x : TrS => (⟨N, if x.L.length = 0 then [false] else x.acc, x.ed.map eT⟩ : Aut)) R = O at *
      repeat' ((first | (apply AWP.go ok; rfl) | ((apply z7) <;> intro _)) <;> conv => whnf)
      all_goals first | (exfalso; omega) | skip
      refine z76 (fun x : Nat × TrS => ([(2, .ptr 0 none 0), (4, lst 3 Tree.cs' B), (8, .int ((2 ^ B.length : Nat) : Int)), (9, ints (untB B)), (10, .ptr 1 none 0), (11, .sref 2 0 x.2.L.length), (13, .int x.1)], [.cells 3 [[.nils, .nils, .nils]], .cells 3 [[.sref 3 0 N.length, .sref 4 0 x.2.acc.length, .sref 5 0 x.2.ed.length]], .cells 1 (x.2.L.map encL), .cells 1 (N.map enI), .cells 1 (x.2.acc.map enB), .cells 4 (x.2.ed.map fun e => Trans.cs (eT e))])) (fun x => x.1 ≤ 64 ∧ goS B (untB B) (65 - x.1) x.1 x.2 = R ∧ (∀ r ∈ x.2.L, RowS B.length (untB B) r) ∧ x.2.acc.length ≤ x.1 ∧ x.2.ed.length ≤ x.1 * 32 ∧ x.2.L.length ≤ 100) (fun x => 65 - x.1) (0, ⟨L, [], []⟩) ⟨by omega, hR, hrows, Nat.le_refl _, Nat.le_refl _, by show L.length ≤ 100; omega⟩ (by refine SealW.reach [0, 2, 3, 4, 5, 6] [] rfl rfl rfl rfl ?_ ?_ <;> (repeat' (first | exact LocLe.refl _ | exact F2.nil | apply F2.cons | exact z15 _ | apply ObjLe.box | ((refine z16 rfl ?_ ?_); (focus ((repeat' (first | exact z38 | exact z8 (fun _ => rfl))); done))) | exact True.intro | apply And.intro))) ?_
      have hN100 : N.length ≤ 100 := by omega
      clear hL0 hR hrows hLl nl L
      rintro ⟨i, ⟨L, acc, ed⟩⟩ ⟨hi, hR, hrows, hacc, hed, hL⟩
      dsimp only at hi hR hrows hacc hed hL ⊢
      rw [show 65 - i = (64 - i) + 1 by omega, goS] at hR
      dsimp only at hR
      by_cases hil : i < L.length
      · rw [if_pos hil] at hR
        by_cases h64 : 64 < L.length
        · rw [if_pos h64] at hR
          have hO := hRN hR.symm
          subst hO
          repeat' ((first | (apply AWP.go ok; rfl) | (apply And.intro; omega) | ((first | (with_reducible apply z62; omega) | (apply z13; omega)); intro _) | ((apply z7) <;> intro _)) <;> conv => whnf)
          all_goals first | (exfalso; omega) | skip
          all_goals (refine RetS.empty 1 ?_; refine RetS.empty 1 ?_; refine RetS.empty 4 ?_; refine RetS.lay [6, 7, 8] [] rfl rfl rfl ?_; refine RetS.done ?_ ?_ <;> (repeat' (first | exact LocLe.refl _ | exact z51 | exact F2.nil | apply F2.cons | ((refine z16 rfl ?_ ?_); (focus ((repeat' (exact z38)); done))) | apply z40 | apply z111)))
        · rw [if_neg h64] at hR
          obtain ⟨s, ph, er, hs2, hph⟩ := hrows (L.getD i []) (by rw [z25 hil]; exact List.getElem_mem _)
          have gk : (L.map encL)[i]? = some (encL [(s : Int), (ph : Int)]) := by rw [List.getElem?_map, List.getElem?_eq_getElem hil, ← er, z25 hil]; rfl
          have cP := hphase s ph hs2 hph
          have cL := hletter s hs2
          obtain ⟨q, eq, hq⟩ := hrowq s ph hph
          have hRS : roundS B (untB B) i ⟨L, acc, ed⟩ = ⟨((List.range (2 ^ B.length)).foldl (edgeS B s q i (letB B s).1 (letB B s).2) (L, ed)).1, acc ++ [(phB B (untB B) s ph).2], ((List.range (2 ^ B.length)).foldl (edgeS B s q i (letB B s).1 (letB B s).2) (L, ed)).2⟩ := by
            unfold roundS
            dsimp only
            rw [er, ← eq]; rfl
          rw [hRS] at hR
          rw [eq] at cP
          have hfol := fun k h => hfol s k hs2 h
          generalize (phB B (untB B) s ph).2 = z at *
          generalize (letB B s).1 = c at *
          generalize (letB B s).2 = v at *
          clear hphase hletter hrowq hRS eq
          repeat' ((first | (apply AWP.go ok; rfl) | (refine z24 (i := i) rfl gk ?_) | (refine ⟨_, rfl, ?_⟩) | (apply And.intro; first | omega | ((try dsimp only); simp only [List.length_map, List.length_take, List.length_append, List.length_replicate, List.length_cons, List.length_nil]; omega) | exact ⟨rfl, z21 rfl z26⟩) | ((apply z7) <;> intro _) | (apply z9 (cP); rfl; rfl) | (apply z9 (cL); rfl; rfl)) <;> conv => whnf)
          all_goals first | (exfalso; omega) | skip
          have hrow0 : ∀ r ∈ L, r.length ≤ 1000 := fun r hr => by obtain ⟨_, _, e, _, _⟩ := hrows r hr; rw [e]; simp
          refine z76 (fun y : Nat × List (List Int) × List Edg => ([(2, .ptr 0 none 0), (4, lst 3 Tree.cs' B), (8, .int ((2 ^ B.length : Nat) : Int)), (9, ints (untB B)), (10, .ptr 1 none 0), (11, .sref 2 0 y.2.1.length), (13, .int i), (14, .int s), (15, .int q), (17, .int c), (18, .int v), (19, .int y.1)], [.cells 3 [[.nils, .nils, .nils]], .cells 3 [[.sref 3 0 N.length, .sref 4 0 (acc.length + 1), .sref 5 0 y.2.2.length]], .cells 1 (y.2.1.map encL), .cells 1 (N.map enI), .cells 1 ((acc ++ [z]).map enB), .cells 4 (y.2.2.map fun e => Trans.cs (eT e))])) (fun y => y.1 ≤ 2 ^ B.length ∧ (List.range y.1).foldl (edgeS B s q i c v) (L, ed) = y.2 ∧ (∀ r ∈ y.2.1, RowS B.length (untB B) r) ∧ y.2.1.length ≤ L.length + y.1 ∧ y.2.2.length ≤ ed.length + y.1) (fun y => 2 ^ B.length - y.1) (0, L, ed) ⟨Nat.zero_le _, rfl, hrows, Nat.le_refl _, Nat.le_refl _⟩ (by refine SealW.reach [0, 1, 2, 3, 7, 5] [] rfl rfl rfl rfl ?_ ?_ <;> (repeat' (first | exact LocLe.refl _ | exact F2.nil | apply F2.cons | exact z15 _ | apply ObjLe.box | ((first | refine z30 rfl ?_ ?_ | refine z16 rfl ?_ ?_); (focus ((repeat' (first | exact z8 (fun _ => rfl) | apply z22)); done))) | (refine z73 ?_ ?_; (focus (omega))) | exact True.intro | apply And.intro))) ?_
          rintro ⟨k, L', ed'⟩ ⟨hk, hf, hrows', hLl, hel⟩
          dsimp only at hk hf hrows' hLl hel ⊢
          by_cases hkl : k < 2 ^ B.length
          · have cF := hfol k hkl
            have hfs : (List.range (k + 1)).foldl (edgeS B s q i c v) (L, ed) = edgeS B s q i c v (L', ed') k := by rw [List.range_succ, List.foldl_append, hf]; rfl
            have he : edgeS B s q i c v (L', ed') k = if folB B s k = true then (pairL L' [(k : Int), (q : Int)], ed' ++ [⟨i, c, v, pairI L' [(k : Int), (q : Int)]⟩]) else (L', ed') := rfl
            rw [he] at hfs
            clear he
            by_cases hb : folB B s k = true
            · rw [if_pos hb] at hfs
              rw [hb] at cF
              have cQ := l7Pair_ok L' (by omega) (fun r hr => by obtain ⟨_, _, e, _, _⟩ := hrows' r hr; rw [e]; simp) [(k : Int), (q : Int)] (by simp)
              have hpl : (pairL L' [(k : Int), (q : Int)]).length ≤ L'.length + 1 := by unfold pairL; split <;> simp
              have hpr : ∀ r ∈ pairL L' [(k : Int), (q : Int)], RowS B.length (untB B) r := fun r hr => by
                unfold pairL at hr
                split at hr
                · exact hrows' r hr
                · rcases List.mem_append.1 hr with h | h
                  · exact hrows' r h
                  · rw [List.mem_singleton.1 h]; exact ⟨k, q, rfl, hkl, hq⟩
              generalize pairL L' [(k : Int), (q : Int)] = L2 at *
              generalize pairI L' [(k : Int), (q : Int)] = n at *
              repeat' ((first | (apply AWP.go ok; rfl) | (apply And.intro; first | omega | (unfold inI; omega) | ((try dsimp only); simp only [List.length_map, List.length_take, List.length_append, List.length_replicate, List.length_cons, List.length_nil]; omega) | exact ⟨rfl, z21 rfl z26⟩) | ((apply z7) <;> intro _) | (apply z9 (cF); rfl; rfl) | (((apply z6 [2, 6] [] [7] (cQ); rfl; (focus ((repeat' first | exact z4 | apply z5) <;> first | rfl | (refine pass_flat rfl ?_; ((exact z8 fun _ => rfl))))))); rfl; rfl; rfl; rfl; rfl; (focus ((repeat' first | exact z12 | apply z11) <;> first | exact ren_dead | (refine z23 ?_; ((exact z8 fun _ => rfl))))); (exact .inl rfl))) <;> conv => whnf)
              all_goals first | (exfalso; omega) | skip
              all_goals refine z31 (k + 1, L2, ed' ++ [⟨i, c, v, n⟩]) ⟨by show k + 1 ≤ _; omega, hfs, hpr, by show L2.length ≤ L.length + (k + 1); omega, by show (ed' ++ [_]).length ≤ ed.length + (k + 1); simp; omega⟩ (by show 2 ^ B.length - (k + 1) < 2 ^ B.length - k; omega) (by refine SealW.reach [0, 1, 7, 3, 4, 9] [] rfl rfl rfl rfl ?_ ?_ <;> (repeat' (first | exact LocLe.refl _ | exact F2.nil | apply F2.cons | exact z15 _ | (refine z35 ?_; ((simp; done))) | apply ObjLe.box | ((first | refine z30 rfl ?_ ?_ | refine z16 rfl ?_ ?_); (focus ((repeat' (first | exact z8 (fun _ => rfl) | apply z22)); done))) | (refine z73 ?_ ?_; (focus (omega))) | exact True.intro | apply And.intro)))
            · rw [if_neg hb] at hfs
              rw [(Bool.not_eq_true _).mp hb] at cF
              repeat' ((first | (apply AWP.go ok; rfl) | (apply And.intro; first | omega | (unfold inI; omega)) | ((apply z7) <;> intro _) | (apply z9 (cF); rfl; rfl)) <;> conv => whnf)
              all_goals first | (exfalso; omega) | skip
              all_goals refine z31 (k + 1, L', ed') ⟨by show k + 1 ≤ _; omega, hfs, hrows', by show L'.length ≤ L.length + (k + 1); omega, by show ed'.length ≤ ed.length + (k + 1); omega⟩ (by show 2 ^ B.length - (k + 1) < 2 ^ B.length - k; omega) (by refine SealW.reach [0, 1, 2, 3, 4, 5] [] rfl rfl rfl rfl ?_ ?_ <;> (repeat' (first | exact LocLe.refl _ | exact F2.nil | apply F2.cons | exact z15 _ | apply ObjLe.box | ((refine z16 rfl ?_ ?_); (focus ((repeat' ((exact z8 (fun _ => rfl)))); done))) | exact True.intro | apply And.intro)))
          · obtain rfl : k = 2 ^ B.length := by omega
            rw [hf] at hR
            have hed2 : ed'.length ≤ (i + 1) * 32 := by omega
            repeat' ((first | (apply AWP.go ok; rfl) | (apply And.intro; (unfold inI; omega)) | ((apply z7) <;> intro _)) <;> conv => whnf)
            all_goals first | (exfalso; omega) | skip
            all_goals refine z31 (i + 1, ⟨L', acc ++ [z], ed'⟩) ⟨by show i + 1 ≤ 64; omega, by rw [show 65 - (i + 1) = 64 - i by omega]; exact hR, hrows', by show (acc ++ [z]).length ≤ i + 1; simp; omega, hed2, by show L'.length ≤ 100; omega⟩ (by show 65 - (i + 1) < 65 - i; omega) (by refine SealW.reach [0, 1, 2, 3, 4, 5] [] rfl rfl rfl rfl ?_ ?_ <;> (repeat' (first | exact LocLe.refl _ | exact F2.nil | apply F2.cons | exact z15 _ | (refine z35 ?_; ((simp; done))) | apply ObjLe.box | ((refine z16 rfl ?_ ?_); (focus ((repeat' ((exact z8 (fun _ => rfl)))); done))) | exact True.intro | apply And.intro)))
      · rw [if_neg hil] at hR
        have hO := hRO _ hR.symm
        dsimp only at hO
        by_cases h0 : L.length = 0
        · rw [if_pos h0] at hO
          subst hO
          repeat' ((first | (apply AWP.go ok; rfl) | (apply And.intro; omega) | ((first | (with_reducible apply z62; omega) | (apply z13; omega)); intro _) | ((apply z7) <;> intro _)) <;> conv => whnf)
          all_goals first | (exfalso; omega) | skip
          all_goals (refine RetS.lay [3, 6, 5] [] rfl rfl rfl ?_; refine RetS.done ?_ ?_ <;> (repeat' (first | exact LocLe.refl _ | exact F2.nil | apply F2.cons | exact z15 _ | (refine z35 ?_; ((simp; done))) | apply ObjLe.box | ((refine z16 rfl ?_ ?_); (focus ((repeat' ((exact z8 (fun _ => rfl)))); done))) | apply z40 | apply z111)))
          all_goals exact z52 (by show _ = List.map Trans.cs (List.map eT ed); rw [List.map_map]; rfl)
        · rw [if_neg h0] at hO
          subst hO
          repeat' ((first | (apply AWP.go ok; rfl) | (apply And.intro; omega) | ((first | (with_reducible apply z62; omega) | (apply z13; omega)); intro _) | ((apply z7) <;> intro _)) <;> conv => whnf)
          all_goals first | (exfalso; omega) | skip
          all_goals (refine RetS.lay [3, 4, 5] [] rfl rfl rfl ?_; refine RetS.done ?_ ?_ <;> (repeat' (first | exact LocLe.refl _ | exact F2.nil | apply F2.cons | exact z15 _ | (refine z35 ?_; ((simp; done))) | ((refine z16 rfl ?_ ?_); (focus ((repeat' ((exact z8 (fun _ => rfl)))); done))) | apply z40 | apply z111)))
          all_goals exact z52 (by show _ = List.map Trans.cs (List.map eT ed); rw [List.map_map]; rfl)
  · rw [if_neg h] at cb ⊢
    rw [(Bool.not_eq_true _).mp h] at cb
    refine z10 z18 Tryz.func197 rfl rfl 137 Tryz.ntmps197 (by simp) ?_
    repeat' ((first | (apply AWP.go ok; rfl) | (apply z9 (cb); rfl; rfl)) <;> conv => whnf)
    all_goals (refine RetS.empty 1 ?_; refine RetS.empty 1 ?_; refine RetS.empty 4 ?_; refine RetS.lay [2, 3, 4] [] rfl rfl rfl ?_; refine RetS.done ?_ ?_ <;> (repeat' (first | exact LocLe.refl _ | exact z51 | exact F2.nil | apply F2.cons | ((refine z16 rfl ?_ ?_); (focus ((repeat' (exact z38)); done))) | apply z40 | apply z111)))
end Go.Proofs.YtppafngcahgagaaGreat

namespace Go.Proofs.YtppafngcahgagaaGreat
open Go.Gl
attribute [local irreducible] z32 AWP z48 z55 z50

end Go.Proofs.YtppafngcahgagaaGreat

namespace Go.Proofs.YtppafngcahgagaaGreat
open Go.Gl
attribute [local irreducible] z32 AWP z48 z55 z50

end Go.Proofs.YtppafngcahgagaaGreat

namespace Go.Proofs.YtppafngcahgagaaGreat
open Go.Gl
attribute [local irreducible] z32 AWP z48 z55 z50

structure Aut.ok (a : Aut) : Prop where
  mx : a.mx
  ini : a.ini.length ≤ 1048576
  acc : a.acc.length ≤ 1048576
  ed : a.ed.length ≤ 1048576
theorem Aut.ok_of {a : Aut} (h : a.mx) (h1 : a.s1 ≤ 1048576) (h2 : a.s2 ≤ 1048576) (h3 : a.s3 ≤ 1048576) : a.ok := ⟨h, h1, h2, h3⟩
end Go.Proofs.YtppafngcahgagaaGreat

namespace Go.Proofs.YtppafngcahgagaaGreat
open Go.Gl
attribute [local irreducible] z32 AWP z48 z55 z50

def onB (t : Trans) (n : Int) : Bool := decide (((n.toNat &&& t.care.toNat : Nat) : Int) = t.val)
/-- what one edge adds at one state and one successor -/
def pushE (n : Nat) (i : Nat) (ℓ to : Int) (e : Trans) : List (Nat × Int) := if onB e ℓ then [((i : Nat) * n + e.src.toNat, to * n + e.dst)] else []
def pushJ (n : Nat) (ed : List Trans) (i : Nat) (ℓ to : Int) : List (Nat × Int) := ed.flatMap (pushE n i ℓ to)
def pushI (n : Nat) (ed : List Trans) (nx : List (List Int)) (ls : List Int) (i : Nat) : List (Nat × Int) := (nx.getD i []).flatMap (pushJ n ed i (ls.getD i 0))
def pushS (g : Graph) (ls : List Int) (a : Aut) : List (Nat × Int) := (List.range g.st.length).flatMap (pushI a.acc.length a.ed g.nx ls)
/-- the successors of the nodes of the product -/
def z34 (g : Graph) (ls : List Int) (a : Aut) : List (List Int) := build (a.acc.length * g.st.length) (pushS g ls a)

theorem pushS_len (g : Graph) (hg : GB g) (ls : List Int) (a : Aut) (ha : AutP a) : (pushS g ls a).length ≤ 7372800 := by
  obtain ⟨⟨g1, g2⟩, g3, g4⟩ := hg
  have h1 : ∀ i ℓ to, (pushJ a.acc.length a.ed i ℓ to).length ≤ 2048 := fun i ℓ to => by
    have := flat_len (f := pushE a.acc.length i ℓ to) (c := 1) a.ed (fun e _ => by unfold pushE; split <;> simp)
    have := ha.2.1
    unfold pushJ; omega
  have h2 : ∀ i ∈ List.range g.st.length, (pushI a.acc.length a.ed g.nx ls i).length ≤ 122880 := fun i hi => by
    rw [List.mem_range] at hi
    unfold pushI
    rw [z25 (l := g.nx) (by omega)]
    have h3 := flat_len (f := pushJ a.acc.length a.ed i (ls.getD i 0)) (c := 2048) g.nx[i] (fun e _ => h1 _ _ _)
    have h4 := (g4 i (by omega) (by omega) hi).2.1
    have : g.nx[i].length * 2048 ≤ 60 * 2048 := Nat.mul_le_mul_right _ (by omega)
    omega
  have h5 := flat_len (f := pushI a.acc.length a.ed g.nx ls) (c := 122880) (List.range g.st.length) h2
  rw [List.length_range] at h5
  have : g.st.length * 122880 ≤ 60 * 122880 := Nat.mul_le_mul_right _ (by omega)
  unfold pushS; omega

theorem l8Product_new (g : Graph) (hg : GB g) (ls : List Int) (hls : ls.length = g.st.length) (hlr : ∀ x ∈ ls, 0 ≤ x ∧ x ≤ 7) (a : Aut) (ha : AutP a) : CallsA Tryz.prog 99 [.agg g.cs, ints ls, .agg a.cs] [] (.sref 0 0 (a.acc.length * g.st.length)) [.cells 1 ((z34 g ls a).map ownRow)] := by
  have hpl := pushS_len g hg ls a ha
  obtain ⟨⟨g1, g2⟩, g3, g4⟩ := hg
  obtain ⟨⟨a1, a2⟩, a3, _, a5⟩ := ha
  have hN := z100 (a := (a.acc.length : Int)) (b := (g.st.length : Int)) (A := 64) (B := 60) (by omega) (by omega) (by omega) (by omega)
  have hNn : ((a.acc.length * g.st.length : Nat) : Int) = (a.acc.length : Int) * g.st.length := by simp
  refine z14 z18 Tryz.func99 rfl rfl 93 Tryz.ntmps99 (by simp) ?_
  repeat' (first | (apply AWP.go ok; rfl; conv => whnf) | (apply And.intro; (first | (unfold inI; omega) | (dsimp only; omega)); conv => whnf))
  refine AWP.reach (Gl.Reach.weaken (es' := List.replicate (a.acc.length * g.st.length) [.own 1 []]) 2 rfl (by rw [List.length_replicate, List.length_replicate]; rfl) rows_weaken rfl) ?_
  conv => whnf
  have hrow : ∀ i (hi : i < g.nx.length), ∀ x ∈ g.nx[i], 0 ≤ x ∧ x ≤ g.st.length - 1 := fun i hi x hx => by
    obtain ⟨j, hj, rfl⟩ := List.mem_iff_getElem.1 hx
    exact ((g4 i hi hi (by omega)).2.2.2 j hj hj).1
  have hlen : ∀ i (hi : i < g.nx.length), g.nx[i].length ≤ 60 := fun i hi => by
    have := (g4 i hi hi (by omega)).2.1; omega
  refine z82 (fun x : Nat × List (Nat × Int) => ([(1, ints ls), (3, .ptr 0 none 0), (5, .ptr 1 none 0), (7, .int a.acc.length), (8, .sref 2 0 (a.acc.length * g.st.length)), (9, .int x.1)], [.cells 2 [[lst 2 State.cs g.st, lst 1 encL g.nx]], .cells 3 [[lst 1 enI a.ini, lst 1 enB a.acc, lst 4 Trans.cs a.ed]], .cells 1 ((build (a.acc.length * g.st.length) x.2).map ownRow)])) (fun x => x.1 ≤ g.st.length ∧ x.2 ++ ((List.range g.st.length).drop x.1).flatMap (pushI a.acc.length a.ed g.nx ls) = pushS g ls a) (fun x => g.st.length - x.1) (0, []) ⟨by omega, rfl⟩
    ⟨[0, 1, 2], rfl, by decide, rfl, ⟨⟨rfl, rfl⟩, ⟨rfl, rfl⟩, ⟨rfl, rfl⟩, ⟨rfl, rfl⟩, ⟨rfl, rfl⟩, ⟨rfl, rfl⟩, trivial⟩, ⟨z19 rfl rfl, z19 rfl rfl, z28 (z42 (rows_nil _).symm) (z8 fun _ => rfl), trivial⟩⟩ ?_
  rintro ⟨i, ps⟩ ⟨hi1, hi2⟩
  dsimp only at hi1 hi2 ⊢
  repeat' (first | (apply AWP.go ok; rfl; conv => whnf) | (apply z7 <;> intro _ <;> conv => whnf))
  · have hig : i < g.st.length := by omega
    rw [drop_flat _ _ _ (by simpa using hig), List.getElem_range] at hi2
    have hin : i < g.nx.length := by omega
    have hrow := hrow i hin
    have hlen := hlen i hin
    have hli := hlr ls[i] (List.getElem_mem _)
    have hpI : pushI a.acc.length a.ed g.nx ls i = g.nx[i].flatMap (pushJ a.acc.length a.ed i ls[i]) := by
      unfold pushI
      rw [z25 hin, z25 (by omega)]
    rw [hpI] at hi2
    refine z82 (fun x : Nat × List (Nat × Int) => ([(1, ints ls), (3, .ptr 0 none 0), (5, .ptr 1 none 0), (7, .int a.acc.length), (8, .sref 2 0 (a.acc.length * g.st.length)), (9, .int i), (10, .int x.1)], [.cells 2 [[lst 2 State.cs g.st, lst 1 encL g.nx]], .cells 3 [[lst 1 enI a.ini, lst 1 enB a.acc, lst 4 Trans.cs a.ed]], .cells 1 ((build (a.acc.length * g.st.length) x.2).map ownRow)])) (fun x => x.1 ≤ g.nx[i].length ∧ x.2 ++ ((g.nx[i].drop x.1).flatMap (pushJ a.acc.length a.ed i ls[i]) ++ ((List.range g.st.length).drop (i + 1)).flatMap (pushI a.acc.length a.ed g.nx ls)) = pushS g ls a) (fun x => g.nx[i].length - x.1) (0, ps) ⟨by omega, hi2⟩
      ⟨[0, 1, 2], rfl, by decide, rfl, ⟨⟨rfl, rfl⟩, ⟨rfl, rfl⟩, ⟨rfl, rfl⟩, ⟨rfl, rfl⟩, ⟨rfl, rfl⟩, ⟨rfl, rfl⟩, ⟨rfl, rfl⟩, trivial⟩, ⟨z19 rfl rfl, z19 rfl rfl, z28 rfl (z8 fun _ => rfl), trivial⟩⟩ ?_
    rintro ⟨j, ps⟩ ⟨hj1, hj2⟩
    dsimp only at hj1 hj2 ⊢
    repeat' (first | (apply AWP.go ok; rfl; conv => whnf) | (apply And.intro; (first | omega | (unfold inI; omega)); conv => whnf) | (with_reducible apply z13; omega; intro _; conv => whnf) | (apply z7 <;> intro _ <;> conv => whnf))
    · have hjn : j < g.nx[i].length := by omega
      rw [drop_flat _ _ _ hjn, List.append_assoc] at hj2
      have hto := hrow g.nx[i][j] (List.getElem_mem _)
      refine z82 (fun x : Nat × List (Nat × Int) => ([(1, ints ls), (3, .ptr 0 none 0), (5, .ptr 1 none 0), (7, .int a.acc.length), (8, .sref 2 0 (a.acc.length * g.st.length)), (9, .int i), (10, .int j), (11, .int x.1)], [.cells 2 [[lst 2 State.cs g.st, lst 1 encL g.nx]], .cells 3 [[lst 1 enI a.ini, lst 1 enB a.acc, lst 4 Trans.cs a.ed]], .cells 1 ((build (a.acc.length * g.st.length) x.2).map ownRow)])) (fun x => x.1 ≤ a.ed.length ∧ x.2 ++ ((a.ed.drop x.1).flatMap (pushE a.acc.length i ls[i] g.nx[i][j]) ++ ((g.nx[i].drop (j + 1)).flatMap (pushJ a.acc.length a.ed i ls[i]) ++ ((List.range g.st.length).drop (i + 1)).flatMap (pushI a.acc.length a.ed g.nx ls))) = pushS g ls a) (fun x => a.ed.length - x.1) (0, ps) ⟨by omega, hj2⟩
        ⟨[0, 1, 2], rfl, by decide, rfl, ⟨⟨rfl, rfl⟩, ⟨rfl, rfl⟩, ⟨rfl, rfl⟩, ⟨rfl, rfl⟩, ⟨rfl, rfl⟩, ⟨rfl, rfl⟩, ⟨rfl, rfl⟩, ⟨rfl, rfl⟩, trivial⟩, ⟨z19 rfl rfl, z19 rfl rfl, z28 rfl (z8 fun _ => rfl), trivial⟩⟩ ?_
      rintro ⟨k, ps⟩ ⟨hk1, hk2⟩
      dsimp only at hk1 hk2 ⊢
      have hm1 := z100 (a := (i : Int)) (b := (a.acc.length : Int)) (A := 60) (B := 64) (by omega) (by omega) (by omega) (by omega)
      have hm2 := z100 (a := g.nx[i][j]) (b := (a.acc.length : Int)) (A := 60) (B := 64) (by omega) (by omega) (by omega) (by omega)
      by_cases hke : k < a.ed.length
      · have he := a5 a.ed[k] (List.getElem_mem hke)
        unfold edgeP at he
        have hlt : i * a.acc.length + a.ed[k].src.toNat < (build (a.acc.length * g.st.length) ps).length := by
          rw [z71]
          have h1 : (i + 1) * a.acc.length ≤ g.st.length * a.acc.length := Nat.mul_le_mul_right _ hig
          rw [Nat.add_mul, Nat.one_mul, Nat.mul_comm g.st.length] at h1
          omega
        repeat' (first | ((fail_if_success apply z122 14); (fail_if_success apply z92 14); apply AWP.go ok; rfl; conv => whnf) | (apply z29; kernel_rfl; conv => whnf) | (apply And.intro; (first | omega | (unfold inI; omega)); conv => whnf) | (with_reducible apply z13; omega; intro _; conv => whnf) | (apply z7 <;> intro _ <;> conv => whnf) | (apply z9 (l7On_ok a.ed[k] ls[i] hli.1 hli.2 (a5 _ (List.getElem_mem _)).2.2.1); rfl; rfl; conv => whnf))
        · have hon : ((ls[i].toNat &&& a.ed[k].care.toNat : Nat) : Int) = a.ed[k].val := by assumption
          have hrl : (build (a.acc.length * g.st.length) ps)[i * a.acc.length + a.ed[k].src.toNat].length ≤ 1000000000 := by
            have h1 := build_row_le (N := a.acc.length * g.st.length) (ps := ps) hlt
            have h2 := congrArg List.length hk2
            rw [List.length_append] at h2
            omega
          have hin : ((i : Int) * a.acc.length + a.ed[k].src).toNat = i * a.acc.length + a.ed[k].src.toNat := by
            have e : ((i * a.acc.length : Nat) : Int) = (i : Int) * a.acc.length := by simp
            omega
          have hlt2 : ((i : Int) * a.acc.length + a.ed[k].src).toNat < a.acc.length * g.st.length := by
            rw [hin, ← z71 (a.acc.length * g.st.length) ps]; exact hlt
          have hmap : i * a.acc.length + a.ed[k].src.toNat < ((build (a.acc.length * g.st.length) ps).map ownRow).length := by rw [List.length_map]; exact hlt
          refine AWP.reach (Gl.Reach.expose (e := ownRow (build (a.acc.length * g.st.length) ps)[i * a.acc.length + a.ed[k].src.toNat]) 2 (i * a.acc.length + a.ed[k].src.toNat) 0 rfl (by rw [List.getElem?_map, List.getElem?_eq_getElem hlt]; rfl) rfl (leaf_map (fun _ => rfl) _) rfl) ?_
          conv => whnf
          (apply AWP.go ok; rfl; conv => whnf)
          repeat' (first | (apply z29; kernel_rfl; conv => whnf) | (apply get_set; exact hin; exact hmap; conv => whnf) | (apply And.intro; (first | omega | (unfold inI; omega) | ((try dsimp only); simp only [List.length_map, List.length_take, List.length_append, List.length_replicate, List.length_cons, List.length_nil]; omega) | exact ⟨rfl, z21 rfl z26⟩); conv => whnf) | (with_reducible apply z13; omega; intro _; conv => whnf))
          refine AWP.reach (Gl.Reach.absorb 2 5 (i * a.acc.length + a.ed[k].src.toNat) 0 rfl (getset hin (by rw [List.length_set]; exact hmap)) rfl rfl (by simp) rfl (z91 (fun e he => (z8 (fun _ => rfl)) e (List.mem_of_mem_take he)) (flat_cons rfl z38)) rfl) ?_
          conv => whnf
          repeat' (first | (apply AWP.go ok; rfl; conv => whnf) | (apply And.intro; ((unfold inI; omega)); conv => whnf))
          rw [drop_flat _ _ _ hke] at hk2
          have hpe : pushE a.acc.length i ls[i] g.nx[i][j] a.ed[k] = [(i * a.acc.length + a.ed[k].src.toNat, g.nx[i][j] * a.acc.length + a.ed[k].dst)] := by
            unfold pushE onB; rw [if_pos (decide_eq_true hon)]
          rw [hpe, List.append_assoc, ← List.append_assoc] at hk2
          exact z69 (k + 1, ps ++ [(i * a.acc.length + a.ed[k].src.toNat, g.nx[i][j] * a.acc.length + a.ed[k].dst)]) [0, 1, 2] ⟨by dsimp only; omega, hk2⟩ (by dsimp only; omega)
            ⟨rfl, by decide, rfl, ⟨⟨rfl, rfl⟩, ⟨rfl, rfl⟩, ⟨rfl, rfl⟩, ⟨rfl, rfl⟩, ⟨rfl, rfl⟩, ⟨rfl, rfl⟩, ⟨rfl, rfl⟩, ⟨rfl, rfl⟩, trivial⟩, ⟨z19 rfl rfl, z19 rfl rfl, z28 (z42 (rows_push' hlt hin (by simp))) (z8 fun _ => rfl), trivial⟩⟩
        · rename_i hon
          rw [drop_flat _ _ _ hke] at hk2
          have hpe : pushE a.acc.length i ls[i] g.nx[i][j] a.ed[k] = [] := by
            unfold pushE onB; rw [if_neg (by simpa using hon)]
          rw [hpe, List.nil_append] at hk2
          exact z69 (k + 1, ps) [0, 1, 2] ⟨by dsimp only; omega, hk2⟩ (by dsimp only; omega)
            ⟨rfl, by decide, rfl, ⟨⟨rfl, rfl⟩, ⟨rfl, rfl⟩, ⟨rfl, rfl⟩, ⟨rfl, rfl⟩, ⟨rfl, rfl⟩, ⟨rfl, rfl⟩, ⟨rfl, rfl⟩, ⟨rfl, rfl⟩, trivial⟩, ⟨z19 rfl rfl, z19 rfl rfl, z28 rfl (z8 fun _ => rfl), trivial⟩⟩
        · omega
      · repeat' (first | ((fail_if_success apply z122 14); (fail_if_success apply z92 14); apply AWP.go ok; rfl; conv => whnf) | (apply And.intro; (first | omega | (unfold inI; omega)); conv => whnf) | (with_reducible apply z13; omega; intro _; conv => whnf) | (apply z7 <;> intro _ <;> conv => whnf))
        · omega
        · rw [z98 _ _ _ (by omega), List.nil_append] at hk2
          exact z69 (j + 1, ps) [0, 1, 2] ⟨by dsimp only; omega, hk2⟩ (by dsimp only; omega)
            ⟨rfl, by decide, rfl, ⟨⟨rfl, rfl⟩, ⟨rfl, rfl⟩, ⟨rfl, rfl⟩, ⟨rfl, rfl⟩, ⟨rfl, rfl⟩, ⟨rfl, rfl⟩, ⟨rfl, rfl⟩, trivial⟩, ⟨z19 rfl rfl, z19 rfl rfl, z28 rfl (z8 fun _ => rfl), trivial⟩⟩
    · rw [z98 _ _ _ (by omega), List.nil_append] at hj2
      exact z69 (i + 1, ps) [0, 1, 2] ⟨by dsimp only; omega, hj2⟩ (by dsimp only; omega)
        ⟨rfl, by decide, rfl, ⟨⟨rfl, rfl⟩, ⟨rfl, rfl⟩, ⟨rfl, rfl⟩, ⟨rfl, rfl⟩, ⟨rfl, rfl⟩, ⟨rfl, rfl⟩, trivial⟩, ⟨z19 rfl rfl, z19 rfl rfl, z28 rfl (z8 fun _ => rfl), trivial⟩⟩
  · rw [z98 _ _ _ (by simp; omega), List.append_nil] at hi2
    subst hi2
    exact ret_new rfl (z8 fun _ => rfl) rfl rfl

theorem keepRows {f : FuncId} {args : List AC} {n : Nat} {l : List (List Int)} (h : CallsA Tryz.prog f args [] (.sref 0 0 n) [.cells 1 (l.map ownRow)]) (hl : l.length = n) : CallsA Tryz.prog f args [] (lst 1 encL l) [] := by
  refine h.lend [] [0] rfl rfl rfl ?_ z4
  rw [bor_full (w := 1) (es := l.map ownRow) rfl rfl rfl (by rw [List.length_map]; exact hl), rows_unown, ← hl]; rfl

theorem l8Product_ok (g : Graph) (hg : GB g) (ls : List Int) (hls : ls.length = g.st.length) (hlr : ∀ x ∈ ls, 0 ≤ x ∧ x ≤ 7) (a : Aut) (ha : AutP a) : CallsA Tryz.prog 99 [.agg g.cs, ints ls, .agg a.cs] [] (lst 1 encL (z34 g ls a)) [] :=
  keepRows (l8Product_new g hg ls hls hlr a ha) (z71 _ _)
end Go.Proofs.YtppafngcahgagaaGreat

namespace Go.Proofs.YtppafngcahgagaaGreat
open Go.Gl
attribute [local irreducible] z32 AWP z48 z55 z50

/-- the edges of each state -/
def z63 (a : Aut) : List (List Trans) := z96 a.acc.length (a.ed.map fun e => (e.src.toNat, e))
def encT (r : List Trans) : List AC := [.list 4 r.length (r.map Trans.cs)]
theorem ltr_lt (v : List Int) : ∀ (l : List Tree) (k n : Nat), n < 2 ^ k → ltr v l k n < 2 ^ (k + l.length) := by
  intro l
  induction l with
  | nil => intro k n h; simpa [ltr] using h
  | cons t l ih =>
    intro k n h
    rw [ltr]
    have e : k + (t :: l).length = k + 1 + l.length := by simp only [List.length_cons]; omega
    rw [e]
    refine ih (k + 1) _ ?_
    split
    · rw [Nat.pow_succ]; omega
    · exact or_lt h
theorem letter_range {l : List Tree} (hl : LabelsOk l) (s : State) : 0 ≤ z36 l s ∧ z36 l s ≤ 7 := by
  have := ltr_lt s.b l 0 0 (by decide)
  rw [hl.1] at this
  unfold z36
  have e : (2 : Nat) ^ (0 + 3) = 8 := by decide
  omega

def pE2 (n i q : Nat) (ℓ to : Int) (e : Trans) : List (Nat × Int) := if onB e ℓ then [(i * n + q, to * n + e.dst)] else []
def pTo (n : Nat) (row : List Trans) (i q : Nat) (ℓ to : Int) : List (Nat × Int) := row.flatMap (pE2 n i q ℓ to)
def pQ (n : Nat) (nxi : List Int) (rows : List (List Trans)) (i : Nat) (ℓ : Int) (q : Nat) : List (Nat × Int) := nxi.flatMap (pTo n (rows.getD q []) i q ℓ)
def pI2 (n : Nat) (nx : List (List Int)) (rows : List (List Trans)) (ls : List Int) (i : Nat) : List (Nat × Int) := (List.range n).flatMap (pQ n (nx.getD i []) rows i (ls.getD i 0))
def pS2 (g : Graph) (ls : List Int) (a : Aut) : List (Nat × Int) := (List.range g.st.length).flatMap (pI2 a.acc.length g.nx (z63 a) ls)

theorem edRows_get {a : Aut} {q : Nat} (h : q < a.acc.length) : (z63 a).getD q [] = a.ed.filter (fun e => e.src.toNat == q) := by
  unfold z63
  rw [z25 (by rw [z133]; exact h), buildG_get, List.filter_map, List.map_map]
  exact List.map_id _
theorem range_one {β : Type} {F : Nat → List β} {n q0 : Nat} (hq : q0 < n) (h : ∀ q, q < n → q ≠ q0 → F q = []) : (List.range n).flatMap F = F q0 := by
  have : ∀ m, (List.range m).flatMap F = if q0 < m ∧ m ≤ n then F q0 else if m ≤ n then [] else (List.range m).flatMap F := by
    intro m
    induction m with
    | zero => simp
    | succ m ih =>
      by_cases hm : m + 1 ≤ n
      · rw [List.range_succ, List.flatMap_append, ih, List.flatMap_cons, List.flatMap_nil, List.append_nil]
        by_cases h1 : q0 < m
        · rw [if_pos ⟨h1, by omega⟩, if_pos ⟨by omega, hm⟩, h m (by omega) (by omega), List.append_nil]
        · rw [if_neg (by omega), if_pos (by omega)]
          by_cases h2 : q0 = m
          · subst h2; rw [if_pos ⟨by omega, hm⟩]; rfl
          · rw [if_neg (by omega), if_pos hm, h m (by omega) (by omega)]; rfl
      · rw [if_neg (by omega), if_neg hm]
  rw [this n, if_pos ⟨hq, Nat.le_refl _⟩]
theorem range_none {β : Type} {F : Nat → List β} {n : Nat} (h : ∀ q, q < n → F q = []) : (List.range n).flatMap F = [] := by
  rw [List.flatMap_eq_nil_iff]
  intro q hq
  exact h q (List.mem_range.1 hq)

/-- the program's pushes fill the same rows -/
theorem pS2_rows (g : Graph) (ls : List Int) (a : Aut) (ha : AutP a) (r : Nat) : (pS2 g ls a).filter (fun p => p.1 == r) = (pushS g ls a).filter (fun p => p.1 == r) := by
  unfold pS2 pushS
  rw [List.filter_flatMap, List.filter_flatMap]
  refine flat_congr fun i hi => ?_
  unfold pI2 pushI
  rw [List.filter_flatMap, List.filter_flatMap]
  have hsrc : ∀ e ∈ a.ed, e.src.toNat < a.acc.length := fun e he => by
    have := (ha.2.2.2 e he).1; omega
  by_cases hr : i * a.acc.length ≤ r ∧ r < i * a.acc.length + a.acc.length
  · obtain ⟨q0, rfl⟩ : ∃ q0, r = i * a.acc.length + q0 := ⟨r - i * a.acc.length, by omega⟩
    have hq0 : q0 < a.acc.length := by omega
    rw [range_one hq0 (fun q hq hne => by
      unfold pQ
      rw [List.filter_flatMap]
      refine List.flatMap_eq_nil_iff.2 fun to _ => ?_
      unfold pTo
      rw [List.filter_flatMap]
      refine List.flatMap_eq_nil_iff.2 fun e _ => ?_
      unfold pE2
      split
      · simp; omega
      · rfl)]
    unfold pQ
    rw [List.filter_flatMap, edRows_get hq0]
    refine flat_congr fun to _ => ?_
    unfold pTo pushJ
    rw [List.filter_flatMap, List.filter_flatMap]
    induction a.ed with
    | nil => rfl
    | cons e es ih =>
      rw [List.flatMap_cons, ← ih, List.filter_cons]
      by_cases he : e.src.toNat = q0
      · rw [if_pos (by simpa using he), List.flatMap_cons]
        unfold pE2 pushE
        rw [he]
      · rw [if_neg (by simpa using he)]
        have : (pushE a.acc.length i (ls.getD i 0) to e).filter (fun p => p.1 == i * a.acc.length + q0) = [] := by
          unfold pushE
          split
          · simp; omega
          · rfl
        rw [this, List.nil_append]
  · rw [range_none (fun q hq => by
      unfold pQ
      rw [List.filter_flatMap]
      refine List.flatMap_eq_nil_iff.2 fun to _ => ?_
      unfold pTo
      rw [List.filter_flatMap]
      refine List.flatMap_eq_nil_iff.2 fun e _ => ?_
      unfold pE2
      split
      · simp; omega
      · rfl)]
    symm
    refine List.flatMap_eq_nil_iff.2 fun to _ => ?_
    unfold pushJ
    rw [List.filter_flatMap]
    refine List.flatMap_eq_nil_iff.2 fun e he => ?_
    have := hsrc e he
    unfold pushE
    split
    · simp; omega
    · rfl
theorem pS2_len (g : Graph) (hg : GB g) (ls : List Int) (a : Aut) (ha : AutP a) : (pS2 g ls a).length ≤ 1000000000 := by
  obtain ⟨⟨g1, g2⟩, g3, g4⟩ := hg
  have h2 : ∀ i ∈ List.range g.st.length, (pI2 a.acc.length g.nx (z63 a) ls i).length ≤ 7864320 := fun i hi => by
    rw [List.mem_range] at hi
    unfold pI2
    rw [z25 (l := g.nx) (by omega)]
    have h3 := flat_len (f := pQ a.acc.length g.nx[i] (z63 a) i (ls.getD i 0)) (c := 122880) (List.range a.acc.length) (fun q hq => by
      have h1 : ∀ to, (pTo a.acc.length ((z63 a).getD q []) i q (ls.getD i 0) to).length ≤ 2048 := fun to => by
        have h5 := flat_len (f := pE2 a.acc.length i q (ls.getD i 0) to) (c := 1) ((z63 a).getD q []) (fun e _ => by unfold pE2; split <;> simp)
        rw [edRows_get (List.mem_range.1 hq)] at h5 ⊢
        have := List.length_filter_le (fun e : Trans => e.src.toNat == q) a.ed
        have := ha.2.1
        unfold pTo; omega
      have h3 := flat_len (f := pTo a.acc.length ((z63 a).getD q []) i q (ls.getD i 0)) (c := 2048) g.nx[i] (fun to _ => h1 to)
      have h4 := (g4 i (by omega) (by omega) hi).2.1
      have : g.nx[i].length * 2048 ≤ 60 * 2048 := Nat.mul_le_mul_right _ (by omega)
      unfold pQ; omega)
    rw [List.length_range] at h3
    have : a.acc.length * 122880 ≤ 64 * 122880 := Nat.mul_le_mul_right _ ha.1.2
    omega
  have h5 := flat_len (f := pI2 a.acc.length g.nx (z63 a) ls) (c := 7864320) (List.range g.st.length) h2
  rw [List.length_range] at h5
  have : g.st.length * 7864320 ≤ 60 * 7864320 := Nat.mul_le_mul_right _ (by omega)
  unfold pS2; omega
theorem build_pS2 (g : Graph) (ls : List Int) (a : Aut) (ha : AutP a) : build (g.st.length * a.acc.length) (pS2 g ls a) = z34 g ls a := by
  unfold z34 build
  rw [Nat.mul_comm]
  refine List.map_congr_left fun r _ => ?_
  rw [pS2_rows g ls a ha r]

set_option maxHeartbeats 800000 in
theorem product_new (g : Graph) (hg : GB g) (l : List Tree) (hl : LabelsOk l) (a : Aut) (ha : AutP a) : CallsA Tryz.prog 97 [.agg g.cs, lst 3 Tree.cs' l, .agg a.cs] [] (.tup [.sref 0 0 (g.st.length * a.acc.length), ints a.ini]) [.cells 1 ((z34 g (g.st.map (z36 l)) a).map ownRow)] := by
  have hvals := hg.vals
  have hpl := pushS_len g hg (g.st.map (z36 l)) a ha
  have hini := ha.2.2.1.le (by omega)
  obtain ⟨⟨g1, g2⟩, g3, g4⟩ := hg
  obtain ⟨⟨a1, a2⟩, a3, a4, a5⟩ := ha
  have hN := z100 (a := (g.st.length : Int)) (b := (a.acc.length : Int)) (A := 60) (B := 64) (by omega) (by omega) (by omega) (by omega)
  refine z14 z18 Tryz.func97 rfl rfl 117 Tryz.ntmps97 (by simp) ?_
  repeat' (first | (apply AWP.go ok; rfl; conv => whnf) | (apply And.intro; ((dsimp only; omega)); conv => whnf))
  refine AWP.reach (Gl.Reach.weaken (es' := List.replicate a.acc.length [.own 4 []]) 2 rfl (by rw [List.length_replicate, List.length_replicate]; rfl) rows_weaken rfl) ?_
  conv => whnf
  refine z82 (fun k : Nat => ([(1, lst 3 Tree.cs' l), (3, .ptr 0 none 0), (5, .ptr 1 none 0), (8, .int a.acc.length), (9, .sref 2 0 a.acc.length), (26, lst 4 Trans.cs a.ed), (27, .int a.ed.length), (28, .int k)], [.cells 2 [[lst 2 State.cs g.st, lst 1 encL g.nx]], .cells 3 [[lst 1 enI a.ini, lst 1 enB a.acc, lst 4 Trans.cs a.ed]], .cells 1 ((z96 a.acc.length ((a.ed.take k).map fun e => (e.src.toNat, e))).map (ownG 4 Trans.cs))])) (fun k => k ≤ a.ed.length) (fun k => a.ed.length - k) 0 (by omega)
    ⟨[0, 1, 2], rfl, by decide, rfl, ⟨⟨rfl, rfl⟩, ⟨rfl, rfl⟩, ⟨rfl, rfl⟩, ⟨rfl, rfl⟩, ⟨rfl, rfl⟩, ⟨rfl, rfl⟩, ⟨rfl, rfl⟩, ⟨rfl, rfl⟩, trivial⟩, ⟨z19 rfl rfl, z19 rfl rfl, z28 (z42 (rowsG_nil _ _ _).symm) (z8 fun _ => rfl), trivial⟩⟩ ?_
  intro k hk
  have hN2 : ((g.st.length * a.acc.length : Nat) : Int) = (g.st.length : Int) * a.acc.length := by simp
  repeat' (first | ((fail_if_success apply z122 6); (fail_if_success apply z92 6); (fail_if_success apply z122 8); (fail_if_success apply z92 8); apply AWP.go ok; rfl; conv => whnf) | (apply And.intro; (omega); conv => whnf) | (with_reducible apply z13; omega; intro _; conv => whnf) | (apply z7 <;> intro _ <;> conv => whnf))
  · have hkl : k < a.ed.length := by assumption
    have he := a5 a.ed[k] (List.getElem_mem hkl)
    unfold edgeP at he
    have hlt : a.ed[k].src.toNat < (z96 a.acc.length ((a.ed.take k).map fun e => (e.src.toNat, e))).length := by rw [z133]; omega
    have hmap : a.ed[k].src.toNat < ((z96 a.acc.length ((a.ed.take k).map fun e => (e.src.toNat, e))).map (ownG 4 Trans.cs)).length := by rw [List.length_map]; exact hlt
    have hrl := buildG_row_le hlt
    rw [List.length_map, List.length_take] at hrl
    refine AWP.reach (Gl.Reach.expose (e := ownG 4 Trans.cs (z96 a.acc.length ((a.ed.take k).map fun e => (e.src.toNat, e)))[a.ed[k].src.toNat]) 2 a.ed[k].src.toNat 0 rfl (by rw [List.getElem?_map, List.getElem?_eq_getElem hlt]; rfl) rfl (leaf_map (fun _ => rfl) _) rfl) ?_
    conv => whnf
    (apply AWP.go ok; rfl; conv => whnf)
    repeat' (first | (apply z29; kernel_rfl; conv => whnf) | (apply get_set; exact Nat.add_zero _; exact hmap; conv => whnf) | (apply And.intro; (first | omega | ((try dsimp only); simp only [List.length_map, List.length_take, List.length_append, List.length_replicate, List.length_cons, List.length_nil]; omega) | exact ⟨rfl, z21 rfl z26⟩); conv => whnf))
    refine AWP.reach (Gl.Reach.absorb 2 6 a.ed[k].src.toNat 0 rfl (getset (Nat.add_zero _) (by rw [List.length_set]; exact hmap)) rfl rfl (by simp) rfl (z91 (fun e he => (z8 (fun _ => rfl)) e (List.mem_of_mem_take he)) (flat_cons rfl z38)) rfl) ?_
    conv => whnf
    repeat' (first | ((fail_if_success apply z122 6); (fail_if_success apply z92 6); (fail_if_success apply z122 8); (fail_if_success apply z92 8); apply AWP.go ok; rfl; conv => whnf) | (apply And.intro; ((unfold inI; omega)); conv => whnf))
    refine z69 (k + 1) [0, 1, 2] (by omega) (by omega)
      ⟨rfl, by decide, rfl, ⟨⟨rfl, rfl⟩, ⟨rfl, rfl⟩, ⟨rfl, rfl⟩, ⟨rfl, rfl⟩, ⟨rfl, rfl⟩, ⟨rfl, rfl⟩, ⟨rfl, rfl⟩, ⟨rfl, rfl⟩, trivial⟩, ⟨z19 rfl rfl, z19 rfl rfl, z28 (z42 ?_) (z8 fun _ => rfl), trivial⟩⟩
    have e1 : ((a.ed.take (k + 1)).map fun e => (e.src.toNat, e)) = ((a.ed.take k).map fun e => (e.src.toNat, e)) ++ [(a.ed[k].src.toNat, a.ed[k])] := by
      rw [List.take_succ_eq_append_getElem hkl, List.map_append]; rfl
    rw [e1]
    exact rowsG_push hlt (Nat.add_zero _) (by simp) rfl
  obtain rfl : k = a.ed.length := by omega
  refine AWP.reach (SealL.reach (π := [0, 1]) (Bn := [2]) (env := [(1, lst 3 Tree.cs' l), (3, .ptr 0 none 0), (5, .ptr 1 none 0), (8, .int a.acc.length), (9, lst 1 encT (z63 a))]) (objs := [.cells 2 [[lst 2 State.cs g.st, lst 1 encL g.nx]], .cells 3 [[lst 1 enI a.ini, lst 1 enB a.acc, lst 4 Trans.cs a.ed]]]) ⟨rfl, rfl, by simp, rfl, by intro o ho; simp at ho; rcases ho with rfl | rfl <;> rfl, ⟨rfl, rfl, rfl, rfl, ?_, trivial⟩, rfl⟩) ?_
  · show bor _ _ _ (.sref 2 0 a.acc.length) = _
    rw [bor_full (w := 1) (es := (z96 a.acc.length ((a.ed.take a.ed.length).map fun e => (e.src.toNat, e))).map (ownG 4 Trans.cs)) rfl rfl rfl (by rw [List.length_map, z133]), rowsG_unown (fun t => Trans.unown t), List.take_length]
    unfold lst z63
    rw [z133]; rfl
  conv => whnf
  repeat' (first | (apply AWP.go ok; rfl; conv => whnf) | (apply And.intro; (first | (unfold inI; omega) | (dsimp only; omega)); conv => whnf) | (apply z9 (label_ok g hvals g2 l hl); rfl; rfl; conv => whnf))
  refine AWP.reach (Gl.Reach.weaken (es' := List.replicate (g.st.length * a.acc.length) [.own 1 []]) 2 rfl (by rw [List.length_replicate, List.length_replicate]; rfl) rows_weaken rfl) ?_
  conv => whnf
  have hls : (g.st.map (z36 l)).length = g.st.length := by simp
  have hlr : ∀ x ∈ g.st.map (z36 l), 0 ≤ x ∧ x ≤ 7 := fun x hx => by
    obtain ⟨s, _, rfl⟩ := List.mem_map.1 hx
    exact letter_range hl s
  rw [← build_pS2 g _ a ⟨⟨a1, a2⟩, a3, a4, a5⟩]
  have hpl2 := pS2_len g ⟨⟨g1, g2⟩, g3, g4⟩ (g.st.map (z36 l)) a ⟨⟨a1, a2⟩, a3, a4, a5⟩
  generalize hlsd : g.st.map (z36 l) = ls at hls hlr hpl hpl2
  have hrow : ∀ i (hi : i < g.nx.length), ∀ x ∈ g.nx[i], 0 ≤ x ∧ x ≤ g.st.length - 1 := fun i hi x hx => by
    obtain ⟨j, hj, rfl⟩ := List.mem_iff_getElem.1 hx
    exact ((g4 i hi hi (by omega)).2.2.2 j hj hj).1
  have hlen : ∀ i (hi : i < g.nx.length), g.nx[i].length ≤ 60 := fun i hi => by
    have := (g4 i hi hi (by omega)).2.1; omega
  have hel : (z63 a).length = a.acc.length := z133 _ _
  have hed : ∀ q (hq : q < (z63 a).length), ∀ e ∈ (z63 a)[q], e ∈ a.ed := fun q hq e he => by
    rw [← z25 (d := []) hq, edRows_get (by omega)] at he; exact (List.mem_filter.1 he).1
  have hedl : ∀ q (hq : q < (z63 a).length), (z63 a)[q].length ≤ 2048 := fun q hq => by
    rw [← z25 (d := []) hq, edRows_get (by omega)]; exact Nat.le_trans (List.length_filter_le _ _) a3
  refine z82 (fun x : Nat × List (Nat × Int) => ([(3, .ptr 0 none 0), (5, .ptr 1 none 0), (8, .int a.acc.length), (9, lst 1 encT (z63 a)), (12, .sref 2 0 (g.st.length * a.acc.length)), (53, ints ls), (54, .int ls.length), (55, .int x.1)], [.cells 2 [[lst 2 State.cs g.st, lst 1 encL g.nx]], .cells 3 [[lst 1 enI a.ini, lst 1 enB a.acc, lst 4 Trans.cs a.ed]], .cells 1 ((build (g.st.length * a.acc.length) x.2).map ownRow)])) (fun x => x.1 ≤ ls.length ∧ x.2 ++ ((List.range g.st.length).drop x.1).flatMap (pI2 a.acc.length g.nx (z63 a) ls) = pS2 g ls a) (fun x => ls.length - x.1) (0, []) ⟨by omega, rfl⟩
    ⟨[0, 1, 2], rfl, by decide, rfl, ⟨⟨rfl, by rfl⟩, ⟨rfl, by rfl⟩, ⟨rfl, by rfl⟩, ⟨rfl, by rfl⟩, ⟨rfl, by rfl⟩, ⟨rfl, by rfl⟩, ⟨rfl, by rfl⟩, ⟨rfl, by rfl⟩, trivial⟩, ⟨z19 rfl rfl, z19 rfl rfl, z28 (z42 (rows_nil _).symm) (z8 fun _ => rfl), trivial⟩⟩ ?_
  rintro ⟨i, ps⟩ ⟨hi1, hi2⟩
  dsimp only at hi1 hi2 ⊢
  repeat' (first | (apply AWP.go ok; rfl; conv => whnf) | (apply And.intro; (omega); conv => whnf) | (with_reducible apply z13; omega; intro _; conv => whnf) | (apply z7 <;> intro _ <;> conv => whnf))
  · have hig : i < g.st.length := by omega
    rw [drop_flat _ _ _ (by simpa using hig), List.getElem_range] at hi2
    have hin : i < g.nx.length := by omega
    have hrow := hrow i hin
    have hlen := hlen i hin
    have hil : i < ls.length := by omega
    have hli := hlr ls[i] (List.getElem_mem _)
    have hpI : pI2 a.acc.length g.nx (z63 a) ls i = (List.range a.acc.length).flatMap (pQ a.acc.length g.nx[i] (z63 a) i ls[i]) := by
      unfold pI2
      rw [z25 (l := g.nx) hin, z25 (l := ls) hil]
    rw [hpI] at hi2
    have hm1 := z100 (a := (i : Int)) (b := (a.acc.length : Int)) (A := 60) (B := 64) (by omega) (by omega) (by omega) (by omega)
    refine z82 (fun x : Nat × List (Nat × Int) => ([(3, .ptr 0 none 0), (5, .ptr 1 none 0), (8, .int a.acc.length), (9, lst 1 encT (z63 a)), (12, .sref 2 0 (g.st.length * a.acc.length)), (53, ints ls), (54, .int ls.length), (55, .int i), (13, .int i), (14, .int ls[i]), (60, .int a.acc.length), (61, .int x.1)], [.cells 2 [[lst 2 State.cs g.st, lst 1 encL g.nx]], .cells 3 [[lst 1 enI a.ini, lst 1 enB a.acc, lst 4 Trans.cs a.ed]], .cells 1 ((build (g.st.length * a.acc.length) x.2).map ownRow)])) (fun x => x.1 ≤ a.acc.length ∧ x.2 ++ (((List.range a.acc.length).drop x.1).flatMap (pQ a.acc.length g.nx[i] (z63 a) i ls[i]) ++ ((List.range g.st.length).drop (i + 1)).flatMap (pI2 a.acc.length g.nx (z63 a) ls)) = pS2 g ls a) (fun x => a.acc.length - x.1) (0, ps) ⟨by omega, hi2⟩
      ⟨[0, 1, 2], rfl, by decide, rfl, ⟨⟨rfl, rfl⟩, ⟨rfl, rfl⟩, ⟨rfl, rfl⟩, ⟨rfl, rfl⟩, ⟨rfl, rfl⟩, ⟨rfl, rfl⟩, ⟨rfl, rfl⟩, ⟨rfl, rfl⟩, ⟨rfl, rfl⟩, ⟨rfl, rfl⟩, ⟨rfl, rfl⟩, ⟨rfl, rfl⟩, trivial⟩, ⟨z19 rfl rfl, z19 rfl rfl, z28 rfl (z8 fun _ => rfl), trivial⟩⟩ ?_
    rintro ⟨q, ps⟩ ⟨hq1, hq2⟩
    dsimp only at hq1 hq2 ⊢
    repeat' (first | (apply AWP.go ok; rfl; conv => whnf) | (apply And.intro; (first | omega | (unfold inI; omega)); conv => whnf) | (with_reducible apply z13; omega; intro _; conv => whnf) | (apply z7 <;> intro _ <;> conv => whnf))
    · have hqn : q < a.acc.length := by omega
      rw [drop_flat _ _ _ (by simpa using hqn), List.getElem_range, List.append_assoc] at hq2
      have hqe : q < (z63 a).length := by omega
      have hpQ : pQ a.acc.length g.nx[i] (z63 a) i ls[i] q = g.nx[i].flatMap (pTo a.acc.length (z63 a)[q] i q ls[i]) := by
        unfold pQ; rw [z25 hqe]
      rw [hpQ] at hq2
      have hedl := hedl q hqe
      have hlt : i * a.acc.length + q < g.st.length * a.acc.length := by
        have h1 : (i + 1) * a.acc.length ≤ g.st.length * a.acc.length := Nat.mul_le_mul_right _ hig
        rw [Nat.add_mul, Nat.one_mul] at h1
        omega
      refine z82 (fun x : Nat × List (Nat × Int) => ([(3, .ptr 0 none 0), (5, .ptr 1 none 0), (8, .int a.acc.length), (9, lst 1 encT (z63 a)), (12, .sref 2 0 (g.st.length * a.acc.length)), (53, ints ls), (54, .int ls.length), (55, .int i), (13, .int i), (14, .int ls[i]), (60, .int a.acc.length), (61, .int q), (15, .int q), (68, ints g.nx[i]), (69, .int g.nx[i].length), (70, .int x.1)], [.cells 2 [[lst 2 State.cs g.st, lst 1 encL g.nx]], .cells 3 [[lst 1 enI a.ini, lst 1 enB a.acc, lst 4 Trans.cs a.ed]], .cells 1 ((build (g.st.length * a.acc.length) x.2).map ownRow)])) (fun x => x.1 ≤ g.nx[i].length ∧ x.2 ++ ((g.nx[i].drop x.1).flatMap (pTo a.acc.length (z63 a)[q] i q ls[i]) ++ (((List.range a.acc.length).drop (q + 1)).flatMap (pQ a.acc.length g.nx[i] (z63 a) i ls[i]) ++ ((List.range g.st.length).drop (i + 1)).flatMap (pI2 a.acc.length g.nx (z63 a) ls))) = pS2 g ls a) (fun x => g.nx[i].length - x.1) (0, ps) ⟨by omega, hq2⟩
        ⟨[0, 1, 2], rfl, by decide, rfl, ⟨⟨rfl, rfl⟩, ⟨rfl, rfl⟩, ⟨rfl, rfl⟩, ⟨rfl, rfl⟩, ⟨rfl, rfl⟩, ⟨rfl, rfl⟩, ⟨rfl, rfl⟩, ⟨rfl, rfl⟩, ⟨rfl, rfl⟩, ⟨rfl, rfl⟩, ⟨rfl, rfl⟩, ⟨rfl, rfl⟩, ⟨rfl, rfl⟩, ⟨rfl, rfl⟩, ⟨rfl, rfl⟩, ⟨rfl, rfl⟩, trivial⟩, ⟨z19 rfl rfl, z19 rfl rfl, z28 rfl (z8 fun _ => rfl), trivial⟩⟩ ?_
      rintro ⟨j, ps⟩ ⟨hj1, hj2⟩
      dsimp only at hj1 hj2 ⊢
      repeat' (first | (apply AWP.go ok; rfl; conv => whnf) | (apply And.intro; (first | omega | (unfold inI; omega)); conv => whnf) | (with_reducible apply z13; omega; intro _; conv => whnf) | (apply z7 <;> intro _ <;> conv => whnf))
      · have hjn : j < g.nx[i].length := by omega
        rw [drop_flat _ _ _ hjn, List.append_assoc] at hj2
        have hto := hrow g.nx[i][j] (List.getElem_mem _)
        have hm2 := z100 (a := g.nx[i][j]) (b := (a.acc.length : Int)) (A := 60) (B := 64) (by omega) (by omega) (by omega) (by omega)
        refine z82 (fun x : Nat × List (Nat × Int) => ([(3, .ptr 0 none 0), (5, .ptr 1 none 0), (8, .int a.acc.length), (9, lst 1 encT (z63 a)), (12, .sref 2 0 (g.st.length * a.acc.length)), (53, ints ls), (54, .int ls.length), (55, .int i), (13, .int i), (14, .int ls[i]), (60, .int a.acc.length), (61, .int q), (15, .int q), (68, ints g.nx[i]), (69, .int g.nx[i].length), (70, .int j), (17, .int g.nx[i][j]), (77, lst 4 Trans.cs (z63 a)[q]), (78, .int (z63 a)[q].length), (79, .int x.1)], [.cells 2 [[lst 2 State.cs g.st, lst 1 encL g.nx]], .cells 3 [[lst 1 enI a.ini, lst 1 enB a.acc, lst 4 Trans.cs a.ed]], .cells 1 ((build (g.st.length * a.acc.length) x.2).map ownRow)])) (fun x => x.1 ≤ (z63 a)[q].length ∧ x.2 ++ (((z63 a)[q].drop x.1).flatMap (pE2 a.acc.length i q ls[i] g.nx[i][j]) ++ ((g.nx[i].drop (j + 1)).flatMap (pTo a.acc.length (z63 a)[q] i q ls[i]) ++ (((List.range a.acc.length).drop (q + 1)).flatMap (pQ a.acc.length g.nx[i] (z63 a) i ls[i]) ++ ((List.range g.st.length).drop (i + 1)).flatMap (pI2 a.acc.length g.nx (z63 a) ls)))) = pS2 g ls a) (fun x => (z63 a)[q].length - x.1) (0, ps) ⟨by omega, hj2⟩
          ⟨[0, 1, 2], rfl, by decide, rfl, ⟨⟨rfl, rfl⟩, ⟨rfl, rfl⟩, ⟨rfl, rfl⟩, ⟨rfl, rfl⟩, ⟨rfl, rfl⟩, ⟨rfl, rfl⟩, ⟨rfl, rfl⟩, ⟨rfl, rfl⟩, ⟨rfl, rfl⟩, ⟨rfl, rfl⟩, ⟨rfl, rfl⟩, ⟨rfl, rfl⟩, ⟨rfl, rfl⟩, ⟨rfl, rfl⟩, ⟨rfl, rfl⟩, ⟨rfl, rfl⟩, ⟨rfl, rfl⟩, ⟨rfl, rfl⟩, ⟨rfl, rfl⟩, ⟨rfl, rfl⟩, trivial⟩, ⟨z19 rfl rfl, z19 rfl rfl, z28 rfl (z8 fun _ => rfl), trivial⟩⟩ ?_
        rintro ⟨k, ps⟩ ⟨hk1, hk2⟩
        dsimp only at hk1 hk2 ⊢
        by_cases hke : k < (z63 a)[q].length
        · have he := a5 (z63 a)[q][k] (hed q hqe _ (List.getElem_mem hke))
          unfold edgeP at he
          have hlt' : i * a.acc.length + q < (build (g.st.length * a.acc.length) ps).length := by rw [z71]; exact hlt
          have hmap : i * a.acc.length + q < ((build (g.st.length * a.acc.length) ps).map ownRow).length := by rw [List.length_map]; exact hlt'
          have hrl : (build (g.st.length * a.acc.length) ps)[i * a.acc.length + q].length ≤ 1000000000 := by
            have h1 := build_row_le (N := g.st.length * a.acc.length) (ps := ps) hlt'
            have h2 := congrArg List.length hk2
            rw [List.length_append] at h2
            omega
          have hix : ((i : Int) * a.acc.length + q).toNat = i * a.acc.length + q := by
            have e : ((i * a.acc.length : Nat) : Int) = (i : Int) * a.acc.length := by simp
            omega
          have hlt2 : ((i : Int) * a.acc.length + q).toNat < g.st.length * a.acc.length := by rw [hix]; exact hlt
          rw [drop_flat _ _ _ hke] at hk2
          repeat' (first | ((fail_if_success apply z122 22); (fail_if_success apply z92 22); apply AWP.go ok; rfl; conv => whnf) | (apply And.intro; (first | omega | (unfold inI; omega)); conv => whnf) | (with_reducible apply z13; omega; intro _; conv => whnf) | (apply z7 <;> intro _ <;> conv => whnf) | (apply z9 (takes_ok (z63 a)[q][k] ls[i] hli.1 hli.2 he.2.2.1); rfl; rfl; conv => whnf))
          · have hon : ((ls[i].toNat &&& (z63 a)[q][k].care.toNat : Nat) : Int) = (z63 a)[q][k].val := by assumption
            refine AWP.reach (Gl.Reach.expose (e := ownRow (build (g.st.length * a.acc.length) ps)[i * a.acc.length + q]) 2 (i * a.acc.length + q) 0 rfl (by rw [List.getElem?_map, List.getElem?_eq_getElem hlt']; rfl) rfl (leaf_map (fun _ => rfl) _) rfl) ?_
            conv => whnf
            (apply AWP.go ok; rfl; conv => whnf)
            repeat' (first | (apply z29; kernel_rfl; conv => whnf) | (apply get_set; exact hix; exact hmap; conv => whnf) | (apply And.intro; (first | omega | (unfold inI; omega) | ((try dsimp only); simp only [List.length_map, List.length_take, List.length_append, List.length_replicate, List.length_cons, List.length_nil]; omega) | exact ⟨rfl, z21 rfl z26⟩); conv => whnf))
            refine AWP.reach (Gl.Reach.absorb 2 6 (i * a.acc.length + q) 0 rfl (getset hix (by rw [List.length_set]; exact hmap)) rfl rfl (by simp) rfl (z91 (fun e he => (z8 (fun _ => rfl)) e (List.mem_of_mem_take he)) (flat_cons rfl z38)) rfl) ?_
            conv => whnf
            repeat' (first | (apply AWP.go ok; rfl; conv => whnf) | (apply And.intro; ((unfold inI; omega)); conv => whnf))
            have hpe : pE2 a.acc.length i q ls[i] g.nx[i][j] (z63 a)[q][k] = [(i * a.acc.length + q, g.nx[i][j] * a.acc.length + (z63 a)[q][k].dst)] := by
              unfold pE2 onB; rw [if_pos (decide_eq_true hon)]
            rw [hpe, List.append_assoc, ← List.append_assoc] at hk2
            exact z69 (k + 1, ps ++ [(i * a.acc.length + q, g.nx[i][j] * a.acc.length + (z63 a)[q][k].dst)]) [0, 1, 2] ⟨by dsimp only; omega, hk2⟩ (by dsimp only; omega) ⟨rfl, by decide, rfl, ⟨⟨rfl, rfl⟩, ⟨rfl, rfl⟩, ⟨rfl, rfl⟩, ⟨rfl, rfl⟩, ⟨rfl, rfl⟩, ⟨rfl, rfl⟩, ⟨rfl, rfl⟩, ⟨rfl, rfl⟩, ⟨rfl, rfl⟩, ⟨rfl, rfl⟩, ⟨rfl, rfl⟩, ⟨rfl, rfl⟩, ⟨rfl, rfl⟩, ⟨rfl, rfl⟩, ⟨rfl, rfl⟩, ⟨rfl, rfl⟩, ⟨rfl, rfl⟩, ⟨rfl, rfl⟩, ⟨rfl, rfl⟩, ⟨rfl, rfl⟩, trivial⟩, ⟨z19 rfl rfl, z19 rfl rfl, z28 (z42 (rows_push' hlt' hix (by simp))) (z8 fun _ => rfl), trivial⟩⟩
          · have hon : ¬ ((ls[i].toNat &&& (z63 a)[q][k].care.toNat : Nat) : Int) = (z63 a)[q][k].val := by assumption
            have hpe : pE2 a.acc.length i q ls[i] g.nx[i][j] (z63 a)[q][k] = [] := by
              unfold pE2 onB; rw [if_neg (by simpa using hon)]
            rw [hpe, List.nil_append] at hk2
            exact z69 (k + 1, ps) [0, 1, 2] ⟨by dsimp only; omega, hk2⟩ (by dsimp only; omega) ⟨rfl, by decide, rfl, ⟨⟨rfl, rfl⟩, ⟨rfl, rfl⟩, ⟨rfl, rfl⟩, ⟨rfl, rfl⟩, ⟨rfl, rfl⟩, ⟨rfl, rfl⟩, ⟨rfl, rfl⟩, ⟨rfl, rfl⟩, ⟨rfl, rfl⟩, ⟨rfl, rfl⟩, ⟨rfl, rfl⟩, ⟨rfl, rfl⟩, ⟨rfl, rfl⟩, ⟨rfl, rfl⟩, ⟨rfl, rfl⟩, ⟨rfl, rfl⟩, ⟨rfl, rfl⟩, ⟨rfl, rfl⟩, ⟨rfl, rfl⟩, ⟨rfl, rfl⟩, trivial⟩, ⟨z19 rfl rfl, z19 rfl rfl, z28 rfl (z8 fun _ => rfl), trivial⟩⟩
          · omega
        · repeat' (first | ((fail_if_success apply z122 22); (fail_if_success apply z92 22); apply AWP.go ok; rfl; conv => whnf) | (apply And.intro; (first | omega | (unfold inI; omega)); conv => whnf) | (with_reducible apply z13; omega; intro _; conv => whnf) | (apply z7 <;> intro _ <;> conv => whnf))
          · omega
          · rw [z98 _ _ _ (by omega), List.nil_append] at hk2
            exact z69 (j + 1, ps) [0, 1, 2] ⟨by dsimp only; omega, hk2⟩ (by dsimp only; omega) ⟨rfl, by decide, rfl, ⟨⟨rfl, rfl⟩, ⟨rfl, rfl⟩, ⟨rfl, rfl⟩, ⟨rfl, rfl⟩, ⟨rfl, rfl⟩, ⟨rfl, rfl⟩, ⟨rfl, rfl⟩, ⟨rfl, rfl⟩, ⟨rfl, rfl⟩, ⟨rfl, rfl⟩, ⟨rfl, rfl⟩, ⟨rfl, rfl⟩, ⟨rfl, rfl⟩, ⟨rfl, rfl⟩, ⟨rfl, rfl⟩, ⟨rfl, rfl⟩, trivial⟩, ⟨z19 rfl rfl, z19 rfl rfl, z28 rfl (z8 fun _ => rfl), trivial⟩⟩
      · rw [z98 _ _ _ (by omega), List.nil_append] at hj2
        exact z69 (q + 1, ps) [0, 1, 2] ⟨by dsimp only; omega, hj2⟩ (by dsimp only; omega) ⟨rfl, by decide, rfl, ⟨⟨rfl, rfl⟩, ⟨rfl, rfl⟩, ⟨rfl, rfl⟩, ⟨rfl, rfl⟩, ⟨rfl, rfl⟩, ⟨rfl, rfl⟩, ⟨rfl, rfl⟩, ⟨rfl, rfl⟩, ⟨rfl, rfl⟩, ⟨rfl, rfl⟩, ⟨rfl, rfl⟩, ⟨rfl, rfl⟩, trivial⟩, ⟨z19 rfl rfl, z19 rfl rfl, z28 rfl (z8 fun _ => rfl), trivial⟩⟩
    · rw [z98 _ _ _ (by simp; omega), List.nil_append] at hq2
      exact z69 (i + 1, ps) [0, 1, 2] ⟨by dsimp only; omega, hq2⟩ (by dsimp only; omega) ⟨rfl, by decide, rfl, ⟨⟨rfl, rfl⟩, ⟨rfl, rfl⟩, ⟨rfl, rfl⟩, ⟨rfl, rfl⟩, ⟨rfl, rfl⟩, ⟨rfl, rfl⟩, ⟨rfl, rfl⟩, ⟨rfl, rfl⟩, trivial⟩, ⟨z19 rfl rfl, z19 rfl rfl, z28 rfl (z8 fun _ => rfl), trivial⟩⟩
  · rw [z98 _ _ _ (by simp; omega), List.append_nil] at hi2
    subst hi2
    repeat' (first | (apply AWP.go ok; rfl; conv => whnf) | (apply z9 (implClone_ok a.ini (by omega)); rfl; rfl; conv => whnf))
    exact z89 [2] (by decide) rfl rfl rfl ⟨z28 rfl (z8 fun _ => rfl), trivial⟩
end Go.Proofs.YtppafngcahgagaaGreat

