/- A part of the proofs over this program: T98, T67, T68, T195, T99, T125, T29, T94K. -/
import Derived.Test.YtknlmbniicacmaaGreatG0
import Derived.Test.YtknlmbniicacmaaGreatG1
import Derived.Test.YtknlmbniicacmaaGreatG2
import Derived.Test.YtknlmbniicacmaaGreatG3
import Derived.Test.YtknlmbniicacmaaGreatP0
import Derived.Test.YtknlmbniicacmaaGreatP1
import Derived.Test.YtknlmbniicacmaaGreatP2
import Derived.Test.YtknlmbniicacmaaGreatP3
import Derived.Test.YtknlmbniicacmaaGreatP4
import Derived.Test.YtknlmbniicacmaaGreatP5
import Derived.Test.YtknlmbniicacmaaGreatRows
import Derived.WalkKit
import Derived.ProofKit
import Derived.Deep.DeepHandedRow
import Derived.Lib.LaidTab
set_option linter.all false
namespace Go.Proofs.YtknlmbniicacmaaGreat
open Go.Gl
attribute [local irreducible] z35 AWP z65 z78 z74 RetS z97

theorem sub_take (l : List Int) (i : Nat) : List.take ((i : Int).toNat - Int.toNat 0) (List.drop (Int.toNat 0) (List.map enI l)) = List.map enI (l.take i) := by
  simp [List.map_take]
theorem sub_drop (l : List Int) (i : Nat) : List.take ((l.length : Int).toNat - (i : Int).toNat) (List.drop (i : Int).toNat (List.map enI l)) = List.map enI (l.drop i) := by
  rw [Int.toNat_natCast, Int.toNat_natCast, ← List.map_drop, List.take_of_length_le (by simp)]
theorem sub_drop' (l : List Int) (i : Nat) (w : Int) : List.take (0 + ((l.length : Int).toNat - (i : Int).toNat)) (List.take 0 (z67 []) ++ List.take ((l.length : Int).toNat - (i : Int).toNat) (z67 (List.drop (i : Int).toNat (List.map enI l)))) ++ z67 [[AC.raw (Value.int .i64 w)]] = List.map enI (l.drop i ++ [w]) := by
  rw [Int.toNat_natCast, Int.toNat_natCast, ← List.map_drop, unownLL_map (f := enI) (fun _ x hx => by rw [List.mem_singleton.1 hx]; rfl), List.take_zero, List.nil_append, Nat.zero_add, List.take_take, Nat.min_self, List.take_of_length_le (by simp), List.map_append]
  rfl
theorem stor_sub (l : List Int) (a b : Nat) : Stor (List.take a (List.drop b (l.map enI))) := fun e he => z16 (f := enI) (fun _ => rfl) e (List.mem_of_mem_drop (List.mem_of_mem_take he))

open Classical in
noncomputable def pickV (bs : List Int) (p n : Int) : Int := if h : BytesOk bs ∧ 0 ≤ p ∧ p ≤ 1000000000 ∧ n ≤ 1000000000 then Classical.choose (z69 bs h.1 p n h.2.1 h.2.2.1 h.2.2.2) else 0
theorem pickV_ok (bs : List Int) (hb : BytesOk bs) (p n : Int) (h0 : 0 ≤ p) (h1 : p ≤ 1000000000) (hn : n ≤ 1000000000) : (0 ≤ pickV bs p n ∧ (1 ≤ n → pickV bs p n < n)) ∧ CallsA Tryz.prog 73 [.ptr 0 none 0, .int n] [rdO bs p] (.int (pickV bs p n)) [rdO bs (p + 1)] := by
  unfold pickV
  rw [dif_pos ⟨hb, h0, h1, hn⟩]
  exact Classical.choose_spec (z69 bs hb p n h0 h1 hn)
open Classical in
noncomputable def numV (bs : List Int) (p : Int) : Int := if h : BytesOk bs ∧ 0 ≤ p ∧ p ≤ 1000000000 then Classical.choose (z113 bs h.1 p h.2.1 h.2.2 [0, 1, -1, 60] (by decide) (by decide)) else 0
theorem numV_ok (bs : List Int) (hb : BytesOk bs) (p : Int) (h0 : 0 ≤ p) (h1 : p ≤ 1000000000) : CallsA Tryz.prog 158 [.ptr 0 none 0, .sref 1 0 4] [rdO bs p, .cells 1 ([0, 1, -1, 60].map enI)] (.int (numV bs p)) [rdO bs (p + 1), .cells 1 ([0, 1, -1, 60].map enI)] := by
  unfold numV
  rw [dif_pos ⟨hb, h0, h1⟩]
  exact (Classical.choose_spec (z113 bs hb p h0 h1 [0, 1, -1, 60] (by decide) (by decide))).2

noncomputable def srchT (bs : List Int) (path : List Int) (n : Int) : Nat → Nat → Int → Option Nat × Int
  | 0, _, p => (none, p)
  | f + 1, i, p => if path.getD i 0 = n then (if pickV bs p 2 = 0 ∨ 8 < path.length then (some i, p + 1) else srchT bs path n f (i + 1) (p + 1)) else srchT bs path n f (i + 1) p
theorem srchT_p (bs : List Int) (path : List Int) (n : Int) : ∀ (f i : Nat) (p : Int), p ≤ (srchT bs path n f i p).2 ∧ (srchT bs path n f i p).2 ≤ p + f ∧ ∀ k, (srchT bs path n f i p).1 = some k → k < i + f := by
  intro f
  induction f with
  | zero => intro i p; simp [srchT]
  | succ f ih =>
    intro i p
    rw [srchT]
    split
    · split
      · refine ⟨by show p ≤ p + 1; omega, by show p + 1 ≤ _; omega, fun k hk => by cases hk; omega⟩
      · obtain ⟨h1, h2, h3⟩ := ih (i + 1) (p + 1)
        exact ⟨by omega, by omega, fun k hk => by have := h3 k hk; omega⟩
    · obtain ⟨h1, h2, h3⟩ := ih (i + 1) p
      exact ⟨by omega, by omega, fun k hk => by have := h3 k hk; omega⟩
noncomputable def stepN (bs : List Int) (rows : List (List Int)) (path : List Int) (p : Int) : Int := (rows.getD (path.getD (path.length - 1) 0).toNat []).getD (pickV bs p (rows.getD (path.getD (path.length - 1) 0).toNat []).length).toNat 0
noncomputable def endT (bs : List Int) (path : List Int) (i : Nat) (q : Int) : Trace × Int := if pickV bs q 12 = 0 then (⟨path.take i, path.drop i ++ [numV bs (q + 1)]⟩, q + 1 + 1) else (⟨path.take i, path.drop i⟩, q + 1)
noncomputable def walkT (bs : List Int) (rows : List (List Int)) : Nat → List Int → Int → Trace × Int
  | 0, path, p => (⟨path, []⟩, p)
  | f + 1, path, p => match srchT bs path (stepN bs rows path p) path.length 0 (p + 1) with
    | (some i, q) => endT bs path i q
    | (none, q) => if 70 < path.length + 1 then (⟨path ++ [stepN bs rows path p], []⟩, q) else walkT bs rows f (path ++ [stepN bs rows path p]) q
theorem walkT_p (bs : List Int) (rows : List (List Int)) : ∀ (f : Nat) (path : List Int) (p : Int), path.length + f ≤ 71 → p ≤ (walkT bs rows f path p).2 ∧ (walkT bs rows f path p).2 ≤ p + 80 * (f + 1) ∧ (walkT bs rows f path p).1.stem.length ≤ 80 ∧ (walkT bs rows f path p).1.loop.length ≤ 80 := by
  intro f
  induction f with
  | zero => intro path p h; simp only [walkT]; simp; omega
  | succ f ih =>
    intro path p h
    have hs := srchT_p bs path (stepN bs rows path p) path.length 0 (p + 1)
    rw [walkT]
    generalize srchT bs path (stepN bs rows path p) path.length 0 (p + 1) = r at *
    obtain ⟨r1, q⟩ := r
    obtain ⟨h1, h2, h3⟩ := hs
    simp only at h1 h2 h3
    cases r1 with
    | some i =>
      have := h3 i rfl
      dsimp only
      unfold endT
      split <;> simp only [List.length_take, List.length_drop, List.length_append, List.length_cons, List.length_nil] <;> omega
    | none =>
      dsimp only
      split
      · simp only [List.length_append, List.length_cons, List.length_nil]; omega
      · have := ih (path ++ [stepN bs rows path p]) q (by simp; omega)
        omega

structure PathI (n : Nat) (path : List Int) (p0 p : Int) : Prop where
  one : 1 ≤ path.length
  len : path.length ≤ 70
  el : ∀ x ∈ path, 0 ≤ x ∧ x < n
  lo : p0 ≤ p
  hi : p ≤ p0 + 80 * path.length

set_option maxHeartbeats 6400000 in
theorem l8Trace_ok (bs : List Int) (hb : BytesOk bs) (p : Int) (hp : few2 p) (g : Graph) (hg : g.d) : ∃ (t : Trace) (p' : Int), (t.stem.length ≤ 80 ∧ t.loop.length ≤ 80 ∧ p ≤ p' ∧ p' ≤ p + 6000) ∧ CallsA Tryz.prog 88 [.ptr 0 none 0, .agg g.cs] [rdO bs p] (.agg t.cs) [rdO bs p'] := by
  have cv := z121 g hg.mx
  by_cases hv : z125 g = true
  · have hG := (z90 g).1 hv
    have hnx : g.nx.length = g.st.length := hG.2.1
    have h60 := hG.1.2
    have h1 := hG.1.1
    have hrow : ∀ i (hi : i < g.nx.length), 1 ≤ g.nx[i].length ∧ g.nx[i].length ≤ 60 ∧ ∀ x ∈ g.nx[i], 0 ≤ x ∧ x < (g.st.length : Int) := fun i hi => by
      obtain ⟨a1, a2, _, a4⟩ := hG.2.2 i hi hi (by omega)
      refine ⟨a1, by omega, fun x hx => ?_⟩
      obtain ⟨j, hj, rfl⟩ := List.mem_iff_getElem.1 hx
      have := (a4 j hj hj).1
      omega
    have hw := walkT_p bs g.nx 70 [0] p (by simp)
    refine ⟨(walkT bs g.nx 70 [0] p).1, (walkT bs g.nx 70 [0] p).2, ⟨hw.2.2.1, hw.2.2.2, hw.1, by omega⟩, ?_⟩
    generalize hR : walkT bs g.nx 70 [0] p = R at *
    rw [hv] at cv
    refine z19 z26 Tryz.func88 rfl rfl 94 Tryz.ntmps88 (by simp) ?_
    repeat' ((first | (apply AWP.go ok; rfl) | (apply z11 (cv); rfl; rfl)) <;> conv => whnf)
    all_goals skip
    refine loopR (fun x : List Int × Int => ([(0, .ptr 0 none 0), (3, .ptr 1 none 0), (4, .ptr 2 none 0), (5, .sref 3 0 x.1.length)], [rdO bs x.2, .cells 2 [g.cs], .cells 2 [[.nils, .nils]], .cells 1 (x.1.map enI)])) (fun x => PathI g.st.length x.1 p x.2 ∧ walkT bs g.nx (71 - x.1.length) x.1 x.2 = R) (fun x => 71 - x.1.length) ([0], p) ⟨⟨by simp, by simp, by simp; omega, by simp, by show p ≤ p + 80 * 1; omega⟩, hR⟩ (by refine SealW.reach [0, 1, 2, 3] [] rfl rfl rfl rfl ?_ ?_ <;> (repeat' (first | exact LocLe.refl _ | exact F2.nil | apply F2.cons | apply ObjLe.box | exact True.intro | apply And.intro))) ?_
    rintro ⟨path, q⟩ ⟨hI, hw⟩
    obtain ⟨i1, i2, i3, i4, i5⟩ := hI
    simp only at i1 i2 i3 i4 i5 hw
    dsimp only
    have hla : path.length - 1 < path.length := by omega
    have gl : (path.map enI)[path.length - 1]? = some (enI (path.getD (path.length - 1) 0)) := by rw [List.getElem?_map, List.getElem?_eq_getElem hla, z20 hla]; rfl
    have hx := i3 (path.getD (path.length - 1) 0) (by rw [z20 hla]; exact List.getElem_mem _)
    rw [show 71 - path.length = (70 - path.length) + 1 by omega, walkT] at hw
    have est : stepN bs g.nx path q = (g.nx.getD (path.getD (path.length - 1) 0).toNat []).getD (pickV bs q (g.nx.getD (path.getD (path.length - 1) 0).toNat []).length).toNat 0 := rfl
    generalize path.getD (path.length - 1) 0 = x at *
    have hxn : x.toNat < g.nx.length := by omega
    have gr : (g.nx.map encL)[x.toNat]? = some (encL (g.nx.getD x.toNat [])) := by rw [List.getElem?_map, List.getElem?_eq_getElem hxn, z20 hxn]; rfl
    have hr := hrow x.toNat hxn
    rw [← z20 hxn (d := [])] at hr
    generalize g.nx.getD x.toNat [] = row at *
    obtain ⟨⟨v0, v1⟩, cp⟩ := pickV_ok bs hb q row.length (by omega) (by omega) (by omega)
    generalize pickV bs q row.length = v at *
    have hvr : v.toNat < row.length := by omega
    have gv : (row.map enI)[v.toNat]? = some (enI (row.getD v.toNat 0)) := by rw [List.getElem?_map, List.getElem?_eq_getElem hvr, z20 hvr]; rfl
    have hn := hr.2.2 (row.getD v.toNat 0) (by rw [z20 hvr]; exact List.getElem_mem _)
    generalize stepN bs g.nx path q = n at *
    subst est
    generalize row.getD v.toNat 0 = n at *
    have hsp := srchT_p bs path n path.length 0 (q + 1)
    generalize hS : srchT bs path n path.length 0 (q + 1) = SR at *
    repeat' ((first | (apply AWP.go ok; rfl) | (apply z30; kernel_rfl) | (refine z32 (i := path.length - 1) (by omega) gl ?_) | (refine z32 (i := x.toNat) rfl gr ?_) | (refine z32 (i := v.toNat) rfl gv ?_) | (apply And.intro; first | omega | (unfold inI; omega)) | (((apply z8 [0] [] [] (cp); rfl; (focus ((repeat' first | exact z6 | apply z7) <;> rfl)))); rfl; rfl; rfl; rfl; rfl; (focus ((repeat' first | exact z17 | apply z15) <;> exact z25 rfl rfl)); (exact .inl rfl))) <;> conv => whnf)
    all_goals skip
    refine loopR (fun x : Nat × Int => ([(0, .ptr 0 none 0), (3, .ptr 1 none 0), (4, .ptr 2 none 0), (5, .sref 3 0 path.length), (6, .int n), (7, .int x.1)], [rdO bs x.2, .cells 2 [g.cs], .cells 2 [[.nils, .nils]], .cells 1 (path.map enI)])) (fun x => x.1 ≤ path.length ∧ q + 1 ≤ x.2 ∧ x.2 ≤ q + 1 + x.1 ∧ srchT bs path n (path.length - x.1) x.1 x.2 = SR) (fun x => path.length - x.1) (0, q + 1) ⟨by simp, by simp, by simp, hS⟩ (by refine SealW.reach [0, 1, 2, 3] [] rfl rfl rfl rfl ?_ ?_ <;> (repeat' (first | exact LocLe.refl _ | exact F2.nil | apply F2.cons | exact z34 _ | apply ObjLe.box | ((refine z33 rfl ?_ ?_); (focus ((repeat' ((exact z12 (fun _ => rfl)))); done))) | exact True.intro | apply And.intro))) ?_
    rintro ⟨i, u⟩ ⟨j1, j2, j3, j4⟩
    simp only at j1 j2 j3 j4
    dsimp only
    by_cases hil : i < path.length
    · rw [show path.length - i = (path.length - i - 1) + 1 by omega, srchT, show path.length - i - 1 = path.length - (i + 1) by omega] at j4
      have gy : (path.map enI)[i]? = some (enI (path.getD i 0)) := by rw [List.getElem?_map, List.getElem?_eq_getElem hil, z20 hil]; rfl
      generalize path.getD i 0 = y at *
      obtain ⟨_, c2⟩ := pickV_ok bs hb u 2 (by omega) (by omega) (by omega)
      by_cases hy : y = n
      · rw [if_pos hy] at j4
        by_cases hf : pickV bs u 2 = 0 ∨ 8 < path.length
        · rw [if_pos hf] at j4
          subst j4
          dsimp only at hw
          subst hw
          generalize pickV bs u 2 = w at *
          obtain ⟨_, c3⟩ := pickV_ok bs hb (u + 1) 12 (by omega) (by omega) (by omega)
          have cn := numV_ok bs hb (u + 1 + 1) (by omega) (by omega)
          unfold endT
          clear hS hsp hR
          generalize pickV bs (u + 1) 12 = w3 at *
          generalize numV bs (u + 1 + 1) = w4 at *
          by_cases hw0 : w = 0
          all_goals
            repeat' ((first | ((fail_if_success apply stopAt 9); (fail_if_success apply z139 9); apply AWP.go ok; rfl) | (refine z32 (i := i) rfl gy ?_) | (apply And.intro; omega) | ((apply z10) <;> intro _) | (((apply z8 [0] [] [] (c2); rfl; (focus ((repeat' first | exact z6 | apply z7) <;> rfl)))); rfl; rfl; rfl; rfl; rfl; (focus ((repeat' first | exact z17 | apply z15) <;> exact z25 rfl rfl)); (exact .inl rfl))) <;> conv => whnf)
            all_goals first | (exfalso; omega) | skip
            refine AWP.reach (SealW.reach (env := [(0, .ptr 0 none 0), (4, .ptr 2 none 0), (5, ints path), (7, .int i)]) (objs := [rdO bs (u + 1), .cells 2 [g.cs], .cells 2 [[.nils, .nils]]]) [0, 1, 2] [3] rfl rfl rfl rfl ?_ ?_) ?_
            · (repeat' (first | exact LocLe.refl _ | ((apply z47 rfl rfl rfl); (focus ((repeat ((exact z36 (fun _ => rfl) _))); done)); (focus (((simp; done)); done))) | exact True.intro | apply And.intro))
            · (repeat' (first | exact LocLe.refl _ | exact F2.nil | apply F2.cons | apply ObjLe.box))
            conv => whnf
            by_cases h3 : w3 = 0
            · rw [if_pos h3]
              repeat' ((first | (apply AWP.go ok; rfl) | (apply z30; kernel_rfl) | (refine And.intro (stor_sub path _ _) ?_) | (refine And.intro (And.intro (by simp only [List.take_nil, List.nil_append, List.length_take, List.length_drop, List.length_map]; omega) (And.intro (by simp only [Nat.reducePow]; omega) (by omega))) ?_) | (apply And.intro; first | omega | (dsimp only; omega) | exact ⟨rfl, z18 rfl z23⟩) | ((apply z10) <;> intro _) | ((first | (apply z8 [0] [] [] (c3); rfl; (focus ((repeat' first | exact z6 | apply z7) <;> rfl))) | (apply z8 [0, 6] [] [] (cn); rfl; (focus ((repeat' first | exact z6 | apply z7) <;> rfl)))); rfl; rfl; rfl; rfl; rfl; (focus ((repeat' first | exact z17 | apply z15) <;> first | exact z25 rfl rfl | (refine z29 ?_; ((exact z12 fun _ => rfl))))); (exact .inl rfl))) <;> conv => whnf)
              all_goals first | (exfalso; omega) | skip
              all_goals (refine RetS.lay [0] [8] rfl rfl rfl ?_; refine RetS.done ?_ ?_ <;> (repeat' (first | exact LocLe.refl _ | exact F2.nil | apply F2.cons | apply ObjLe.box | ((apply z47 rfl rfl rfl); (focus ((repeat (first | apply z107 | apply z137 | rfl)); done)); (focus (((simp; done)); done))) | apply z75 | (refine z83 ?_ ?_; (focus (simp; done))))))
              all_goals first | refine z83 ?_ (f22_of_eq ?_) | refine f22_of_eq ?_
              all_goals first | exact sub_take path i | exact sub_drop' path i w4 | (show (i : Int).toNat - Int.toNat 0 = (List.take i path).length; rw [List.length_take]; omega)
            · rw [if_neg h3]
              repeat' ((first | (apply AWP.go ok; rfl) | (apply z30; kernel_rfl) | (apply And.intro; omega) | ((apply z10) <;> intro _) | (((apply z8 [0] [] [] (c3); rfl; (focus ((repeat' first | exact z6 | apply z7) <;> rfl)))); rfl; rfl; rfl; rfl; rfl; (focus ((repeat' first | exact z17 | apply z15) <;> exact z25 rfl rfl)); (exact .inl rfl))) <;> conv => whnf)
              all_goals first | (exfalso; omega) | skip
              all_goals (refine RetS.lay [0] [] rfl rfl rfl ?_; refine RetS.done ?_ ?_ <;> (repeat' (first | exact LocLe.refl _ | exact F2.nil | apply F2.cons | apply ObjLe.box | apply z75 | (refine z83 ?_ ?_; (focus (simp; done))))))
              all_goals first | refine z83 ?_ (f22_of_eq ?_) | refine f22_of_eq ?_
              all_goals first | exact sub_take path i | exact sub_drop path i | (show (i : Int).toNat - Int.toNat 0 = (List.take i path).length; rw [List.length_take]; omega)
        · rw [if_neg hf] at j4
          generalize pickV bs u 2 = w at *
          repeat' ((first | (apply AWP.go ok; rfl) | (apply z30; kernel_rfl) | (refine z32 (i := i) rfl gy ?_) | (apply And.intro; first | omega | (unfold inI; omega)) | ((apply z10) <;> intro _) | (((apply z8 [0] [] [] (c2); rfl; (focus ((repeat' first | exact z6 | apply z7) <;> rfl)))); rfl; rfl; rfl; rfl; rfl; (focus ((repeat' first | exact z17 | apply z15) <;> exact z25 rfl rfl)); (exact .inl rfl))) <;> conv => whnf)
          all_goals first | (exfalso; omega) | skip
          all_goals refine z79 (i + 1, u + 1) ⟨by omega, by show q + 1 ≤ u + 1; omega, by show u + 1 ≤ q + 1 + ((i + 1 : Nat) : Int); omega, j4⟩ (by show path.length - (i + 1) < path.length - i; omega) (by refine SealW.reach [0, 1, 2, 3] [] rfl rfl rfl rfl ?_ ?_ <;> (repeat' (first | exact LocLe.refl _ | exact F2.nil | apply F2.cons | exact z34 _ | apply ObjLe.box | ((refine z33 rfl ?_ ?_); (focus ((repeat' ((exact z12 (fun _ => rfl)))); done))) | exact True.intro | apply And.intro)))
      · rw [if_neg hy] at j4
        repeat' ((first | (apply AWP.go ok; rfl) | (refine z32 (i := i) rfl gy ?_) | (apply And.intro; first | omega | (unfold inI; omega)) | ((apply z10) <;> intro _)) <;> conv => whnf)
        all_goals first | (exfalso; omega) | skip
        all_goals refine z79 (i + 1, u) ⟨by omega, j2, by show u ≤ q + 1 + ((i + 1 : Nat) : Int); omega, j4⟩ (by show path.length - (i + 1) < path.length - i; omega) (by refine SealW.reach [0, 1, 2, 3] [] rfl rfl rfl rfl ?_ ?_ <;> (repeat' (first | exact LocLe.refl _ | exact F2.nil | apply F2.cons | exact z34 _ | apply ObjLe.box | ((refine z33 rfl ?_ ?_); (focus ((repeat' ((exact z12 (fun _ => rfl)))); done))) | exact True.intro | apply And.intro)))
    · have e : i = path.length := by omega
      subst e
      rw [show path.length - path.length = 0 by omega, srchT] at j4
      subst j4
      dsimp only at hw
      by_cases h70 : 70 < path.length + 1
      · rw [if_pos h70] at hw
        subst hw
        repeat' ((first | (apply AWP.go ok; rfl) | (apply And.intro; first | omega | ((try dsimp only); simp only [List.length_map, List.length_take, List.length_append, List.length_replicate, List.length_cons, List.length_nil]; omega) | exact ⟨rfl, z18 rfl z23⟩) | (((apply z13; omega)); intro _) | ((apply z10) <;> intro _)) <;> conv => whnf)
        all_goals first | (exfalso; omega) | skip
        all_goals (refine RetS.lay [0] [5, 6] rfl rfl rfl ?_; refine RetS.done ?_ ?_ <;> (repeat' (first | exact LocLe.refl _ | exact F2.nil | apply F2.cons | apply ObjLe.box | (refine z114 ?_ ?_; (focus (omega))) | ((apply z47 rfl rfl rfl); (focus ((repeat (first | exact z36 (fun _ => rfl) _ | apply z107 | apply z137 | rfl)); done)); (focus (((simp; done)); done))) | apply z75 | (refine z83 ?_ ?_; (focus (simp; done))))))
      · rw [if_neg h70] at hw
        repeat' ((first | (apply AWP.go ok; rfl) | (apply And.intro; first | omega | ((try dsimp only); simp only [List.length_map, List.length_take, List.length_append, List.length_replicate, List.length_cons, List.length_nil]; omega) | exact ⟨rfl, z18 rfl z23⟩) | (((apply z13; omega)); intro _) | ((apply z10) <;> intro _)) <;> conv => whnf)
        all_goals first | (exfalso; omega) | skip
        all_goals refine z79 (path ++ [n], u) ⟨⟨by simp, by simp; omega, fun z hz => by rcases List.mem_append.1 hz with h | h; exact i3 z h; rw [List.mem_singleton.1 h]; exact hn, by show p ≤ u; omega, by simp; omega⟩, by rw [← hw]; congr 1; simp⟩ (by show 71 - (path ++ [n]).length < 71 - path.length; simp; omega) (by refine SealW.reach [0, 1, 2, 5] [] rfl rfl rfl rfl ?_ ?_ <;> (repeat' (first | exact LocLe.refl _ | exact F2.nil | apply F2.cons | (refine z120 ?_; ((simp; done))) | apply ObjLe.box | ((refine z56 rfl ?_ ?_); (focus ((repeat' (first | exact z12 (fun _ => rfl) | apply z37)); done))) | (refine z114 ?_ ?_; (focus (omega))) | exact True.intro | apply And.intro)))
  · refine ⟨⟨[0], [0]⟩, p, ⟨by simp, by simp, by omega, by omega⟩, ?_⟩
    rw [(Bool.not_eq_true _).mp hv] at cv
    refine z19 z26 Tryz.func88 rfl rfl 94 Tryz.ntmps88 (by simp) ?_
    repeat' ((first | (apply AWP.go ok; rfl) | (apply z11 (cv); rfl; rfl)) <;> conv => whnf)
    all_goals skip
    all_goals (refine RetS.lay [0] [3, 4] rfl rfl rfl ?_; refine RetS.done ?_ ?_ <;> (repeat' (first | exact LocLe.refl _ | exact F2.nil | apply F2.cons | apply ObjLe.box)))
end Go.Proofs.YtknlmbniicacmaaGreat

namespace Go.Proofs.YtknlmbniicacmaaGreat
open Go.Gl
attribute [local irreducible] z35 AWP z65 z78 z74

theorem l8Pick_ok (bl places : List Int) (hl : places.length ≤ 1048576) (hp : InN bl.length places) (hb : bl.length ≤ 1048576) : CallsA Tryz.prog 93 [ints bl, ints places] [] (ints (places.map (pick bl))) [] := by
  refine keepI (n := places.length) ?_ (by simp)
  have hpl : (places.map (pick bl)).length = places.length := by simp
  refine z14 z26 Tryz.func93 rfl rfl 25 Tryz.ntmps93 (by simp) ?_
  repeat' ((first | (apply AWP.go ok; rfl) | (apply z30; kernel_rfl) | (apply And.intro; first | omega | (unfold inI; omega) | (dsimp only; omega) | ((try dsimp only); simp only [List.length_map, List.length_take, List.length_append, List.length_replicate, List.length_cons, List.length_nil]; omega) | exact z16 (fun _ => rfl) | exact ⟨rfl, z18 rfl z23⟩ | exact ⟨rfl, z16 (fun _ => rfl) _⟩ | exact ⟨⟨rfl, by omega⟩, z16 (fun _ => rfl) _⟩ | (unfold z38; omega) | (simp only [z52] at *; first | omega | (unfold inI; omega) | (unfold z38; omega))) | ((first | (with_reducible apply z13; omega) | (with_reducible apply z43; omega) | (apply z13; omega)); intro _) | (apply z48; omega) | apply z50 | (apply z68; omega; intro _) | ((first | apply z73 | apply z59 | apply z72 | apply z85 | apply z10 | apply z21 | apply z39 | apply z55) <;> intro _)) <;> conv => whnf)
  refine z100 (fun k : Nat => ([(0, ints bl), (1, ints places), (5, .sref 0 0 k), (6, .int k)], [.cells 1 (((places.map (pick bl)).take k).map enI)])) (fun k => k ≤ places.length) (fun k => places.length - k) 0 (by omega) ⟨[0], rfl, by decide, rfl, ⟨⟨rfl, rfl⟩, ⟨rfl, rfl⟩, ⟨rfl, rfl⟩, ⟨rfl, rfl⟩, trivial⟩, ⟨z41 rfl (z12 fun _ => rfl), trivial⟩⟩ ?_
  intro k hk
  have htl : (((places.map (pick bl)).take k).map enI).length = k := by simp; omega
  by_cases hkl : k < places.length
  · have hx := hp places[k] (List.getElem_mem _)
    have g0 := map_at (l := places) (i := k) hkl
    have g1 := map_at (l := bl) (i := places[k].toNat) (by omega)
    have hv : (places.map (pick bl))[k]'(by omega) = bl[places[k].toNat]'(by omega) := by
      simp only [List.getElem_map]; unfold pick; rw [z20 (by omega)]
    generalize bl[places[k].toNat]'(by omega) = v at *
    generalize places[k] = x at *
    repeat' ((first | (apply AWP.go ok; rfl) | (apply z30; kernel_rfl) | (refine z32 (i := k) rfl g0 ?_) | (refine z32 (i := x.toNat) rfl g1 ?_) | (apply And.intro; first | omega | (unfold inI; omega) | (dsimp only; omega) | ((try dsimp only); simp only [List.length_map, List.length_take, List.length_append, List.length_replicate, List.length_cons, List.length_nil]; omega) | exact z16 (fun _ => rfl) | exact ⟨rfl, z18 rfl z23⟩ | exact ⟨rfl, z16 (fun _ => rfl) _⟩ | exact ⟨⟨rfl, by omega⟩, z16 (fun _ => rfl) _⟩ | (unfold z38; omega) | (simp only [z52] at *; first | omega | (unfold inI; omega) | (unfold z38; omega))) | ((first | (with_reducible apply z13; omega) | (with_reducible apply z43; omega) | (apply z13; omega)); intro _) | (apply z48; omega) | apply z50 | (apply z68; omega; intro _) | ((first | apply z73 | apply z59 | apply z72 | apply z85 | apply z10 | apply z21 | apply z39 | apply z55) <;> intro _)) <;> conv => whnf)
    all_goals first | (exfalso; omega) | skip
    all_goals
      refine z84 (k + 1) [2] (by omega) (by omega) ⟨rfl, by decide, rfl, ⟨⟨rfl, rfl⟩, ⟨rfl, rfl⟩, ⟨rfl, rfl⟩, ⟨rfl, rfl⟩, trivial⟩, ⟨z41 (z64 ?_) (z12 fun _ => rfl), trivial⟩⟩
      rw [List.take_of_length_le (by omega), List.take_succ_eq_append_getElem (by omega), List.map_append, hv]; rfl
  · repeat' ((first | (apply AWP.go ok; rfl) | (apply z30; kernel_rfl) | (apply And.intro; first | omega | (unfold inI; omega) | (dsimp only; omega) | ((try dsimp only); simp only [List.length_map, List.length_take, List.length_append, List.length_replicate, List.length_cons, List.length_nil]; omega) | exact z16 (fun _ => rfl) | exact ⟨rfl, z18 rfl z23⟩ | exact ⟨rfl, z16 (fun _ => rfl) _⟩ | exact ⟨⟨rfl, by omega⟩, z16 (fun _ => rfl) _⟩ | (unfold z38; omega) | (simp only [z52] at *; first | omega | (unfold inI; omega) | (unfold z38; omega))) | ((first | (with_reducible apply z13; omega) | (with_reducible apply z43; omega) | (apply z13; omega)); intro _) | (apply z48; omega) | apply z50 | (apply z68; omega; intro _) | ((first | apply z73 | apply z59 | apply z72 | apply z85 | apply z10 | apply z21 | apply z39 | apply z55) <;> intro _)) <;> conv => whnf)
    all_goals first | (exfalso; omega) | skip
    obtain rfl : k = places.length := by omega
    exact z96 [0] (by decide) rfl rfl rfl ⟨z41 (z64 (by rw [List.take_of_length_le (by omega)])) (z12 fun _ => rfl), trivial⟩

def letB (l : List Int) : Bool := !(l.any fun n => !btw n 0 7)
theorem letters1_ok (n : Int) : CallsA Tryz.prog 236 [.int n] [] (.bool (!btw n 0 7)) [] := by
  refine z14 z26 Tryz.func236 rfl rfl 6 Tryz.ntmps236 (by simp) ?_
  repeat' ((first | (apply AWP.go ok; rfl) | (apply z30; kernel_rfl) | (apply And.intro; first | omega | (unfold inI; omega) | (dsimp only; omega) | ((try dsimp only); simp only [List.length_map, List.length_take, List.length_append, List.length_replicate, List.length_cons, List.length_nil]; omega) | exact z16 (fun _ => rfl) | exact ⟨rfl, z18 rfl z23⟩ | exact ⟨rfl, z16 (fun _ => rfl) _⟩ | exact ⟨⟨rfl, by omega⟩, z16 (fun _ => rfl) _⟩ | (unfold z38; omega) | (simp only [z52] at *; first | omega | (unfold inI; omega) | (unfold z38; omega))) | ((first | (with_reducible apply z13; omega) | (with_reducible apply z43; omega) | (apply z13; omega)); intro _) | (apply z48; omega) | apply z50 | (apply z68; omega; intro _) | ((first | apply z73 | apply z59 | apply z72 | apply z85 | apply z10 | apply z21 | apply z39 | apply z55) <;> intro _) | (apply z11 (in_ok n 0 7); rfl; rfl)) <;> conv => whnf)
  exact z24 rfl rfl
theorem letters_ok (l : List Int) (hl : l.length ≤ maxLen) : CallsA Tryz.prog 183 [ints l] [] (.bool (letB l)) [] := by
  have hk := containsFunc_int l hl (fun n => !btw n 0 7) 236 (fun x _ => letters1_ok x)
  refine z14 z26 Tryz.func183 rfl rfl 6 Tryz.ntmps183 (by simp) ?_
  repeat' ((first | (apply AWP.go ok; rfl) | (apply z30; kernel_rfl) | (apply And.intro; first | omega | (unfold inI; omega) | (dsimp only; omega) | ((try dsimp only); simp only [List.length_map, List.length_take, List.length_append, List.length_replicate, List.length_cons, List.length_nil]; omega) | exact z16 (fun _ => rfl) | exact ⟨rfl, z18 rfl z23⟩ | exact ⟨rfl, z16 (fun _ => rfl) _⟩ | exact ⟨⟨rfl, by omega⟩, z16 (fun _ => rfl) _⟩ | (unfold z38; omega) | (simp only [z52] at *; first | omega | (unfold inI; omega) | (unfold z38; omega))) | ((first | (with_reducible apply z13; omega) | (with_reducible apply z43; omega) | (apply z13; omega)); intro _) | (apply z48; omega) | apply z50 | (apply z68; omega; intro _) | ((first | apply z73 | apply z59 | apply z72 | apply z85 | apply z10 | apply z21 | apply z39 | apply z55) <;> intro _) | (apply z11 (hk); rfl; rfl)) <;> conv => whnf)
  exact z24 rfl rfl
def lasB (t : Trace) : Bool := letB t.stem && (letB t.loop && (decide (t.stem.length ≤ 80) && btw t.loop.length 1 80))
theorem implLasso_ok (t : Trace) (h1 : t.stem.length ≤ maxLen) (h2 : t.loop.length ≤ maxLen) : CallsA Tryz.prog 104 [.agg t.cs] [] (.bool (lasB t)) [] := by
  have k1 := letters_ok t.stem h1
  have k2 := letters_ok t.loop h2
  have k3 := in_ok (t.loop.length : Int) 1 80
  unfold maxLen at h1 h2
  unfold lasB
  generalize letB t.stem = a at *
  generalize letB t.loop = b at *
  refine z14 z26 Tryz.func104 rfl rfl 23 Tryz.ntmps104 (by simp) ?_
  cases a <;> cases b
  all_goals
    repeat' ((first | (apply AWP.go ok; rfl) | (apply z30; kernel_rfl) | (apply And.intro; first | omega | (unfold inI; omega) | (dsimp only; omega) | ((try dsimp only); simp only [List.length_map, List.length_take, List.length_append, List.length_replicate, List.length_cons, List.length_nil]; omega) | exact z16 (fun _ => rfl) | exact ⟨rfl, z18 rfl z23⟩ | exact ⟨rfl, z16 (fun _ => rfl) _⟩ | exact ⟨⟨rfl, by omega⟩, z16 (fun _ => rfl) _⟩ | (unfold z38; omega) | (simp only [z52] at *; first | omega | (unfold inI; omega) | (unfold z38; omega))) | ((first | (with_reducible apply z13; omega) | (with_reducible apply z43; omega) | (apply z13; omega)); intro _) | (apply z48; omega) | apply z50 | (apply z68; omega; intro _) | ((first | apply z73 | apply z59 | apply z72 | apply z85 | apply z10 | apply z21 | apply z39 | apply z55) <;> intro _) | (apply z11 (k1); rfl; rfl) | (apply z11 (k2); rfl; rfl) | (apply z11 (k3); rfl; rfl)) <;> conv => whnf)
    all_goals first | (exfalso; omega) | exact z24 rfl rfl | exact z24 rfl (by grind) | skip
end Go.Proofs.YtknlmbniicacmaaGreat

namespace Go.Proofs.YtknlmbniicacmaaGreat
open Go.Gl
attribute [local irreducible] z35 AWP z65 z78 z74

def z110 (L : List Int) (t : Trace) : Trace := ⟨t.stem.map (pick L), t.loop.map (pick L)⟩
noncomputable def twB (g : Graph) (l : List Tree) (t : Trace) : Bool := glB g l && (trB g t && lasB (z110 (g.st.map (z63 l)) t))
noncomputable def twT (g : Graph) (l : List Tree) (t : Trace) : Trace := if twB g l t then z110 (g.st.map (z63 l)) t else ⟨[], []⟩
theorem trB_in {g : Graph} {t : Trace} (h : trB g t = true) : InN g.st.length t.stem ∧ InN g.st.length t.loop ∧ t.stem.length + t.loop.length ≤ 8000 := by
  unfold trB at h
  rw [Bool.and_eq_true, Bool.and_eq_true, decide_eq_true_eq] at h
  have key : ∀ x ∈ t.all, 0 ≤ x ∧ x < g.st.length := fun x hx => by
    obtain ⟨i, hi, rfl⟩ := List.mem_iff_getElem.1 hx
    exact path_step h.2.1 i hi
  exact ⟨fun x hx => key x (List.mem_append_left _ hx), fun x hx => key x (List.mem_append_right _ hx), h.1.2⟩
theorem twT_le {g : Graph} {l : List Tree} {t : Trace} : (twT g l t).stem.length ≤ 80 ∧ (twT g l t).loop.length ≤ 80 := by
  unfold twT
  split
  · rename_i h
    unfold twB lasB at h
    simp only [Bool.and_eq_true, decide_eq_true_eq, z52] at h
    exact ⟨by omega, by omega⟩
  · simp

theorem agg2_nils {o p : Nat} {b : AC} : ACle (.tup [.agg [.nils, .nils], b]) (.tup [.agg [.sref o 0 0, .sref p 0 0], b]) := fun G hh v hv => by
  simp only [V, VL] at hv ⊢
  obtain ⟨c, rfl, hs, ⟨u, h1, c2, rfl, hs2, ⟨u1, h2, h3⟩, ⟨u2, h4, h5⟩, _⟩, hr⟩ := hv
  refine ⟨c, rfl, hs, ⟨_, h1, c2, rfl, hs2, ⟨u1, h2, ?_⟩, ⟨u2, h4, ?_⟩, trivial⟩, hr⟩
  · have := (nil_sref (o := o)) G hh u1 (by simpa [V] using h3)
    simpa [V] using this
  · have := (nil_sref (o := p)) G hh u2 (by simpa [V] using h5)
    simpa [V] using this

set_option maxHeartbeats 1600000 in
theorem implTraceWord_new (g : Graph) (hg : g.mx) (l : List Tree) (hl : Lmx l) (t : Trace) (h1 : t.stem.length ≤ 1048576) (h2 : t.loop.length ≤ 1048576) : CallsA Tryz.prog 26 [.agg g.cs, lst 3 Tree.cs' l, .agg t.cs] [] (.tup [.agg [.sref 0 0 (twT g l t).stem.length, .sref 1 0 (twT g l t).loop.length], .bool (twB g l t)]) [.cells 1 ((twT g l t).stem.map enI), .cells 1 ((twT g l t).loop.map enI)] := by
  have k1 := implTrace_ok g hg t h1 h2
  have k2 := labelsValid_ok l hl.1 hl.2
  by_cases hv : (trB g t && labelsB l) = true
  · obtain ⟨ht, hlb⟩ := Bool.and_eq_true_iff.1 hv
    have hgb : z125 g = true := by
      unfold trB at ht
      rw [Bool.and_eq_true, Bool.and_eq_true] at ht
      exact path_graph ht.2.1
    have hG := (z90 g).1 hgb
    have hL := LabelsOk.of hlb
    have k3 := label_ok g hG.vals hG.1.2 l hL
    obtain ⟨i1, i2, i3⟩ := trB_in ht
    have hLl : (g.st.map (z63 l)).length = g.st.length := by simp
    have h60 := hG.1.2
    have hglb : glB g l = true := by unfold glB; rw [hgb, hlb]; rfl
    have eb : twB g l t = lasB (z110 (g.st.map (z63 l)) t) := by unfold twB; rw [hglb, ht]; rfl
    have et : twT g l t = if lasB (z110 (g.st.map (z63 l)) t) then z110 (g.st.map (z63 l)) t else ⟨[], []⟩ := by unfold twT; rw [eb]
    rw [eb, et]
    generalize g.st.map (z63 l) = L at *
    have kp1 := picked_new L t.stem h1 (by rw [hLl]; exact i1) (by omega)
    have kp2 := picked_new L t.loop h2 (by rw [hLl]; exact i2) (by omega)
    have hw1 : (z110 L t).stem.length = t.stem.length := by simp [z110]
    have hw2 : (z110 L t).loop.length = t.loop.length := by simp [z110]
    have kl := implLasso_ok (z110 L t) (by unfold maxLen; omega) (by unfold maxLen; omega)
    have e1 : t.stem.map (pick L) = (z110 L t).stem := rfl
    have e2 : t.loop.map (pick L) = (z110 L t).loop := rfl
    rw [e1, ← hw1] at kp1
    rw [e2, ← hw2] at kp2
    rw [ht] at k1
    rw [hlb] at k2
    generalize hW : z110 L t = W at *
    by_cases hb : lasB W = true
    · rw [hb] at kl ⊢
      rw [if_pos rfl]
      refine z14 z26 Tryz.func26 rfl rfl 37 Tryz.ntmps26 (by simp) ?_
      repeat' ((first | (apply AWP.go ok; rfl) | (apply z30; kernel_rfl) | (apply And.intro; first | omega | (unfold inI; omega) | (dsimp only; omega) | ((try dsimp only); simp only [List.length_map, List.length_take, List.length_append, List.length_replicate, List.length_cons, List.length_nil]; omega) | exact z16 (fun _ => rfl) | exact ⟨rfl, z18 rfl z23⟩ | exact ⟨rfl, z16 (fun _ => rfl) _⟩ | exact ⟨⟨rfl, by omega⟩, z16 (fun _ => rfl) _⟩ | (unfold z38; omega) | (simp only [z52] at *; first | omega | (unfold inI; omega) | (unfold z38; omega))) | ((first | (with_reducible apply z13; omega) | (with_reducible apply z43; omega) | (apply z13; omega)); intro _) | (apply z48; omega) | apply z50 | (apply z68; omega; intro _) | ((first | apply z73 | apply z59 | apply z72 | apply z85 | apply z10 | apply z21 | apply z39 | apply z55) <;> intro _) | (apply z11 (k1); rfl; rfl) | (apply z11 (k2); rfl; rfl) | (apply z11 (k3); rfl; rfl) | ((first | (apply z8 [] [] [3] (kp1); rfl; (focus ((repeat' first | exact z6 | apply z7) <;> first | rfl | (refine z95 rfl ?_; (first | exact z12 fun _ => rfl | exact z49 | exact z31 rfl | (apply z58 <;> exact z12 fun _ => rfl) | assumption))))) | (apply z8 [] [] [4] (kp2); rfl; (focus ((repeat' first | exact z6 | apply z7) <;> first | rfl | (refine z95 rfl ?_; (first | exact z12 fun _ => rfl | exact z49 | exact z31 rfl | (apply z58 <;> exact z12 fun _ => rfl) | assumption))))) | (apply z8 [] [3, 4] [] (kl); (focus (exact z54 (bor_agg (z54 (z129 rfl rfl rfl) (z54 (z129 rfl rfl rfl) z94))) z94)); (focus ((repeat' first | exact z6 | apply z7) <;> first | rfl | (refine z95 rfl ?_; (first | exact z12 fun _ => rfl | exact z49 | exact z31 rfl | (apply z58 <;> exact z12 fun _ => rfl) | assumption)))))); rfl; rfl; rfl; rfl; rfl; (focus ((repeat' first | exact z17 | apply z15) <;> first | exact ren_dead | exact z25 rfl rfl | (refine z29 ?_; (first | exact z12 fun _ => rfl | exact z49 | exact z31 rfl | (apply z58 <;> exact z12 fun _ => rfl) | assumption)))); (first | exact .inl rfl | (refine .inr ⟨rfl, ?_⟩; repeat' first | exact True.intro | apply And.intro | exact rfl | exact z98 (fun _ => rfl) _)))) <;> conv => whnf)
      all_goals first | (exfalso; omega) | (exfalso; simp_all; done) | skip
      all_goals exact z96 [3, 4] (by decide) rfl rfl rfl ⟨z41 rfl (z12 fun _ => rfl), z41 rfl (z12 fun _ => rfl), trivial⟩
    · rw [(Bool.not_eq_true _).mp hb] at kl ⊢
      rw [if_neg (by simp)]
      refine CallsA.nils (res := .tup [.agg [.nils, .nils], .bool false]) ?_ (by simp) agg2_nils
      refine z14 z26 Tryz.func26 rfl rfl 37 Tryz.ntmps26 (by simp) ?_
      repeat' ((first | (apply AWP.go ok; rfl) | (apply z30; kernel_rfl) | (apply And.intro; first | omega | (unfold inI; omega) | (dsimp only; omega) | ((try dsimp only); simp only [List.length_map, List.length_take, List.length_append, List.length_replicate, List.length_cons, List.length_nil]; omega) | exact z16 (fun _ => rfl) | exact ⟨rfl, z18 rfl z23⟩ | exact ⟨rfl, z16 (fun _ => rfl) _⟩ | exact ⟨⟨rfl, by omega⟩, z16 (fun _ => rfl) _⟩ | (unfold z38; omega) | (simp only [z52] at *; first | omega | (unfold inI; omega) | (unfold z38; omega))) | ((first | (with_reducible apply z13; omega) | (with_reducible apply z43; omega) | (apply z13; omega)); intro _) | (apply z48; omega) | apply z50 | (apply z68; omega; intro _) | ((first | apply z73 | apply z59 | apply z72 | apply z85 | apply z10 | apply z21 | apply z39 | apply z55) <;> intro _) | (apply z11 (k1); rfl; rfl) | (apply z11 (k2); rfl; rfl) | (apply z11 (k3); rfl; rfl) | ((first | (apply z8 [] [] [3] (kp1); rfl; (focus ((repeat' first | exact z6 | apply z7) <;> first | rfl | (refine z95 rfl ?_; (first | exact z12 fun _ => rfl | exact z49 | exact z31 rfl | (apply z58 <;> exact z12 fun _ => rfl) | assumption))))) | (apply z8 [] [] [4] (kp2); rfl; (focus ((repeat' first | exact z6 | apply z7) <;> first | rfl | (refine z95 rfl ?_; (first | exact z12 fun _ => rfl | exact z49 | exact z31 rfl | (apply z58 <;> exact z12 fun _ => rfl) | assumption))))) | (apply z8 [] [3, 4] [] (kl); (focus (exact z54 (bor_agg (z54 (z129 rfl rfl rfl) (z54 (z129 rfl rfl rfl) z94))) z94)); (focus ((repeat' first | exact z6 | apply z7) <;> first | rfl | (refine z95 rfl ?_; (first | exact z12 fun _ => rfl | exact z49 | exact z31 rfl | (apply z58 <;> exact z12 fun _ => rfl) | assumption)))))); rfl; rfl; rfl; rfl; rfl; (focus ((repeat' first | exact z17 | apply z15) <;> first | exact ren_dead | exact z25 rfl rfl | (refine z29 ?_; (first | exact z12 fun _ => rfl | exact z49 | exact z31 rfl | (apply z58 <;> exact z12 fun _ => rfl) | assumption)))); (first | exact .inl rfl | (refine .inr ⟨rfl, ?_⟩; repeat' first | exact True.intro | apply And.intro | exact rfl | exact z98 (fun _ => rfl) _)))) <;> conv => whnf)
      all_goals first | (exfalso; omega) | exact z57 rfl rfl rfl | (exfalso; simp_all; done) | skip
  · have hv := (Bool.not_eq_true _).mp hv
    have eb : twB g l t = false := by
      unfold twB glB
      revert hv
      cases trB g t <;> cases labelsB l <;> cases z125 g <;> simp
    have et : twT g l t = ⟨[], []⟩ := by unfold twT; rw [eb]; rfl
    rw [eb, et]
    generalize trB g t = b1 at *
    generalize labelsB l = b2 at *
    refine CallsA.nils (res := .tup [.agg [.nils, .nils], .bool false]) ?_ (by simp) agg2_nils
    refine z14 z26 Tryz.func26 rfl rfl 37 Tryz.ntmps26 (by simp) ?_
    cases b1 <;> cases b2 <;> first | (exfalso; revert hv; decide) | skip
    all_goals
      repeat' ((first | (apply AWP.go ok; rfl) | (apply z30; kernel_rfl) | (apply And.intro; first | omega | (unfold inI; omega) | (dsimp only; omega) | ((try dsimp only); simp only [List.length_map, List.length_take, List.length_append, List.length_replicate, List.length_cons, List.length_nil]; omega) | exact z16 (fun _ => rfl) | exact ⟨rfl, z18 rfl z23⟩ | exact ⟨rfl, z16 (fun _ => rfl) _⟩ | exact ⟨⟨rfl, by omega⟩, z16 (fun _ => rfl) _⟩ | (unfold z38; omega) | (simp only [z52] at *; first | omega | (unfold inI; omega) | (unfold z38; omega))) | ((first | (with_reducible apply z13; omega) | (with_reducible apply z43; omega) | (apply z13; omega)); intro _) | (apply z48; omega) | apply z50 | (apply z68; omega; intro _) | ((first | apply z73 | apply z59 | apply z72 | apply z85 | apply z10 | apply z21 | apply z39 | apply z55) <;> intro _) | (apply z11 (k1); rfl; rfl) | (apply z11 (k2); rfl; rfl)) <;> conv => whnf)
      all_goals first | (exfalso; omega) | exact z57 rfl rfl rfl | (exfalso; simp_all; done) | skip

end Go.Proofs.YtknlmbniicacmaaGreat

namespace Go.Proofs.YtknlmbniicacmaaGreat
open Go.Gl
attribute [local irreducible] z35 AWP z65 z78 z74 RetS z97

/-- the image of a trace -/
noncomputable def qtB (g : Graph) (bl : List Int) (t : Trace) : Bool := bvB g bl && trB g t
noncomputable def qtR (g : Graph) (bl : List Int) (t : Trace) : Trace := if qtB g bl t then z110 bl t else ⟨[], []⟩
theorem qtR_le {g : Graph} {bl : List Int} {t : Trace} : (qtR g bl t).stem.length ≤ 8000 ∧ (qtR g bl t).loop.length ≤ 8000 := by
  unfold qtR
  split
  · rename_i h
    unfold qtB at h
    have := (trB_in (Bool.and_eq_true_iff.1 h).2).2.2
    simp only [z110, List.length_map]
    omega
  · simp

set_option maxHeartbeats 1600000 in
theorem implQuotientTrace_ok (g : Graph) (hg : g.mx) (bl : List Int) (hb : bl.length ≤ 1048576) (t : Trace) (h1 : t.stem.length ≤ 1048576) (h2 : t.loop.length ≤ 1048576) : CallsA Tryz.prog 20 [.agg g.cs, ints bl, .agg t.cs] [] (.tup [.agg (qtR g bl t).cs, .bool (qtB g bl t)]) [] := by
  have k1 := implBlocksValid_ok g hg bl hb
  have k2 := implTrace_ok g hg t h1 h2
  unfold qtR
  unfold qtB
  by_cases hv : bvB g bl = true
  · rw [hv] at k1 ⊢
    have hbl := (bvB_iff.1 hv).2.2
    by_cases ht : trB g t = true
    · rw [ht] at k2 ⊢
      obtain ⟨i1, i2, i3⟩ := trB_in ht
      have kp1 := picked_new bl t.stem h1 (by rw [hbl]; exact i1) hb
      have kp2 := picked_new bl t.loop h2 (by rw [hbl]; exact i2) hb
      have e1 : (t.stem.map (pick bl)).length = t.stem.length := by simp
      have e2 : (t.loop.map (pick bl)).length = t.loop.length := by simp
      rw [if_pos (by decide)]
      refine z19 z26 Tryz.func20 rfl rfl 28 Tryz.ntmps20 (by simp) ?_
      repeat' ((first | (apply AWP.go ok; rfl) | (apply z30; kernel_rfl) | (apply z11 (k1); rfl; rfl) | (apply z11 (k2); rfl; rfl) | ((first | (apply z8 [] [] [3] (kp1); rfl; (focus ((repeat' exact z6) <;> fail))) | (apply z8 [] [] [4] (kp2); rfl; (focus ((repeat' exact z6) <;> fail)))); rfl; rfl; rfl; rfl; rfl; (focus ((repeat' first | exact z17 | apply z15) <;> (refine z29 ?_; ((exact z12 fun _ => rfl))))); (exact .inl rfl))) <;> conv => whnf)
      all_goals skip
      all_goals (refine RetS.lay [] [3, 4] rfl rfl rfl ?_; refine RetS.done ?_ ?_ <;> (repeat' (first | exact LocLe.refl _ | exact F2.nil | apply F2.cons | (refine lst_le ?_; omega) | ((apply z47 rfl rfl rfl); (focus ((repeat ((exact z36 (fun _ => rfl) _))); done)); (focus (((simp; done)); done))) | apply z75 | apply tup_le)))
    · rw [(Bool.not_eq_true _).mp ht] at k2 ⊢
      rw [if_neg (by decide)]
      refine z19 z26 Tryz.func20 rfl rfl 28 Tryz.ntmps20 (by simp) ?_
      repeat' ((first | (apply AWP.go ok; rfl) | (apply z11 (k1); rfl; rfl) | (apply z11 (k2); rfl; rfl)) <;> conv => whnf)
      all_goals (refine RetS.lay [] [] rfl rfl rfl ?_; refine RetS.done ?_ ?_ <;> (repeat' (first | exact LocLe.refl _ | exact z61 | exact F2.nil | apply F2.cons | apply z75 | apply tup_le)))
  · rw [(Bool.not_eq_true _).mp hv] at k1 ⊢
    rw [if_neg (by rw [Bool.false_and]; decide), Bool.false_and]
    refine z19 z26 Tryz.func20 rfl rfl 28 Tryz.ntmps20 (by simp) ?_
    generalize trB g t = b at *
    repeat' ((first | (apply AWP.go ok; rfl) | (apply z11 (k1); rfl; rfl)) <;> conv => whnf)
    all_goals (refine RetS.lay [] [] rfl rfl rfl ?_; refine RetS.done ?_ ?_ <;> (repeat' (first | exact LocLe.refl _ | exact z61 | exact F2.nil | apply F2.cons | apply z75 | apply tup_le)))

set_option maxHeartbeats 1600000 in
theorem specQuotientTrace_ok (g : Graph) (hg : g.mx) (bl : List Int) (hb : bl.length ≤ 1048576) (hg2 : g.st.length ≤ 100) (t : Trace) (h1 : t.stem.length ≤ 1048576) (h2 : t.loop.length ≤ 1048576) : CallsA Tryz.prog 21 [.agg g.cs, ints bl, .agg t.cs] [] (.tup [.agg (qtR g bl t).cs, .bool (qtB g bl t)]) [] := by
  have k1 := specBlocksValid_ok g hg bl hb (by omega)
  have k2 := specTrace_ok g hg t h1 h2
  unfold qtR
  unfold qtB
  by_cases hv : bvB g bl = true
  · rw [hv] at k1 ⊢
    have hbl := (bvB_iff.1 hv).2.2
    by_cases ht : trB g t = true
    · rw [ht] at k2 ⊢
      obtain ⟨i1, i2, i3⟩ := trB_in ht
      have kp1 := l8Pick_ok bl t.stem h1 (by rw [hbl]; exact i1) hb
      have kp2 := l8Pick_ok bl t.loop h2 (by rw [hbl]; exact i2) hb
      have e1 : (t.stem.map (pick bl)).length = t.stem.length := by simp
      have e2 : (t.loop.map (pick bl)).length = t.loop.length := by simp
      rw [if_pos (by decide)]
      refine z19 z26 Tryz.func21 rfl rfl 28 Tryz.ntmps21 (by simp) ?_
      repeat' ((first | (apply AWP.go ok; rfl) | (apply z30; kernel_rfl) | (apply z11 (k1); rfl; rfl) | (apply z11 (k2); rfl; rfl) | (apply z11 (kp1); rfl; rfl) | (apply z11 (kp2); rfl; rfl)) <;> conv => whnf)
      all_goals skip
      all_goals (refine RetS.lay [] [] rfl rfl rfl ?_; refine RetS.done ?_ ?_ <;> (repeat' (first | exact LocLe.refl _ | exact F2.nil)))
    · rw [(Bool.not_eq_true _).mp ht] at k2 ⊢
      rw [if_neg (by decide)]
      refine z19 z26 Tryz.func21 rfl rfl 28 Tryz.ntmps21 (by simp) ?_
      repeat' ((first | (apply AWP.go ok; rfl) | (apply z11 (k1); rfl; rfl) | (apply z11 (k2); rfl; rfl)) <;> conv => whnf)
      all_goals (refine RetS.lay [] [] rfl rfl rfl ?_; refine RetS.done ?_ ?_ <;> (repeat' (first | exact LocLe.refl _ | exact z61 | exact F2.nil | apply F2.cons | apply z75 | apply tup_le)))
  · rw [(Bool.not_eq_true _).mp hv] at k1 ⊢
    rw [if_neg (by rw [Bool.false_and]; decide), Bool.false_and]
    refine z19 z26 Tryz.func21 rfl rfl 28 Tryz.ntmps21 (by simp) ?_
    generalize trB g t = b at *
    repeat' ((first | (apply AWP.go ok; rfl) | (apply z11 (k1); rfl; rfl)) <;> conv => whnf)
    all_goals (refine RetS.lay [] [] rfl rfl rfl ?_; refine RetS.done ?_ ?_ <;> (repeat' (first | exact LocLe.refl _ | exact z61 | exact F2.nil | apply F2.cons | apply z75 | apply tup_le)))

theorem drawQT_ok (bs : List Int) (hb : CodeOk bs) : ∃ (g : Graph) (B : List Int) (t : Trace), (g.d ∧ B.length ≤ 101 ∧ t.stem.length ≤ 80 ∧ t.loop.length ≤ 80) ∧ CallsA Tryz.prog 19 [lst 1 enU bs] [] (.tup [.agg g.cs, ints B, .agg t.cs]) [] := by
  have co := l16Open_ok bs hb.len
  obtain ⟨M, n, p1, ⟨a1, a2, a3, a4, a5⟩, c1⟩ := l10Labels_new (bs.take 2000) hb.take 0 ⟨by omega, by omega⟩
  obtain ⟨g0, g, p2, p3, c2, c3, hg, _, _⟩ := mutG_ok (bs.take 2000) hb.take p1 ⟨by omega, by omega⟩
  have hl : Lab.d (M.take n) := ⟨by simp; omega, fun t ht => a3 t (List.mem_of_mem_take ht)⟩
  obtain ⟨B, p4, ⟨b1, b2, b3⟩, c4⟩ := l10Blocks_ok (bs.take 2000) hb.take p3 (by omega) (by omega) g hg (M.take n) hl
  obtain ⟨t, p5, ⟨t1, t2, t3, t4⟩, c5⟩ := l8Trace_ok (bs.take 2000) hb.take p4 ⟨by omega, by omega⟩ g hg
  generalize hL : M.take n = L at *
  refine ⟨g, B, t, ⟨hg, b1, t1, t2⟩, ?_⟩
  generalize bs.take 2000 = b0 at *
  obtain ⟨x, y, z, rfl⟩ := len3 a2
  have hn : n = 0 ∨ n = 1 ∨ n = 2 ∨ n = 3 := by simp at a1; omega
  rcases hn with rfl | rfl | rfl | rfl
  all_goals
    refine z19 z26 Tryz.func19 rfl rfl 26 Tryz.ntmps19 (by simp) ?_
    repeat' ((first | ((fail_if_success apply stopAt 4); (fail_if_success apply z139 4); apply AWP.go ok; rfl) | ((first | (apply z8 [] [] [2] (co); rfl; (focus ((repeat' exact z6) <;> fail))) | (apply z8 [2] [] [3] (c1); rfl; (focus ((repeat' first | exact z6 | apply z7) <;> rfl))) | (apply z8 [2] [] [] (c2); rfl; (focus ((repeat' first | exact z6 | apply z7) <;> rfl))) | (apply z8 [2] [] [] (c3); rfl; (focus ((repeat' first | exact z6 | apply z7) <;> rfl)))); rfl; rfl; rfl; rfl; rfl; (focus ((repeat' first | exact z17 | apply z15) <;> first | exact z25 rfl rfl | (refine z29 ?_; ((exact z12 fun _ => rfl))))); (exact .inl rfl))) <;> conv => whnf)
    all_goals skip
    refine AWP.reach (SealW.reach (env := [(2, .ptr 0 none 0), (4, .ptr 1 none 0), (5, .ptr 2 none 0), (6, lst 3 Tree.cs' L), (7, .ptr 3 none 0)]) (objs := [.cells 2 [[.nils, .nils]], .cells 2 [[.nils, .nils]], rdO b0 p3, .cells 2 [g.cs]]) [0, 1, 2, 4] [3] rfl rfl rfl rfl ?_ ?_) ?_
    · subst hL; (repeat' (first | exact LocLe.refl _ | exact True.intro | apply And.intro))
    · (repeat' (first | exact LocLe.refl _ | exact F2.nil | apply F2.cons | apply ObjLe.box))
    conv => whnf
    repeat' ((first | (apply AWP.go ok; rfl) | (apply z30; kernel_rfl) | ((first | (apply z8 [2] [] [] (c4); rfl; (focus ((repeat' first | exact z6 | apply z7) <;> rfl))) | (apply z8 [2] [] [] (c5); rfl; (focus ((repeat' first | exact z6 | apply z7) <;> rfl)))); rfl; rfl; rfl; rfl; rfl; (focus ((repeat' first | exact z17 | apply z15) <;> exact z25 rfl rfl)); (exact .inl rfl))) <;> conv => whnf)
    all_goals (refine RetS.lay [] [] rfl rfl rfl ?_; refine RetS.done ?_ ?_ <;> (repeat' (first | exact LocLe.refl _ | exact F2.nil)))
end Go.Proofs.YtknlmbniicacmaaGreat

namespace Go.Proofs.YtknlmbniicacmaaGreat
open Go.Gl
attribute [local irreducible] z35 AWP z65 z78 z74 RetS z97

theorem same_ok (a : List Int) (ha : a.length ≤ maxLen) : CallsA Tryz.prog 107 [ints a, ints a] [] (.bool true) [] := by
  unfold maxLen at ha
  refine z19 z26 Tryz.func107 rfl rfl 26 Tryz.ntmps107 (by simp) ?_
  repeat' ((first | (apply AWP.go ok; rfl) | ((apply z21) <;> intro _)) <;> conv => whnf)
  all_goals first | (exfalso; omega) | skip
  refine loopR (fun k : Nat => ([(0, ints a), (1, ints a), (12, .int a.length), (13, .int k)], [])) (fun k => k ≤ a.length) (fun k => a.length - k) 0 (by simp) (by refine SealW.reach [] [] rfl rfl rfl rfl ?_ ?_ <;> (repeat' (first | exact LocLe.refl _ | exact F2.nil | exact True.intro | apply And.intro))) ?_
  intro k hk1
  by_cases hkl : k < a.length
  · have gx : (a.map enI)[k]? = some (enI a[k]) := by rw [List.getElem?_map, List.getElem?_eq_getElem hkl]; rfl
    generalize a[k] = x at *
    repeat' ((first | (apply AWP.go ok; rfl) | (apply z30; kernel_rfl) | (refine z32 (i := k) rfl gx ?_) | (apply And.intro; first | omega | (unfold inI; omega)) | ((first | apply z10 | apply z21) <;> intro _)) <;> conv => whnf)
    all_goals first | (exfalso; omega) | skip
    all_goals refine z79 (k + 1) (by omega) (by omega) (by refine SealW.reach [] [] rfl rfl rfl rfl ?_ ?_ <;> (repeat' (first | exact LocLe.refl _ | exact F2.nil | exact True.intro | apply And.intro)))
  · repeat' ((first | (apply AWP.go ok; rfl) | (apply z30; kernel_rfl) | (apply And.intro; omega) | (((with_reducible apply z13; omega)); intro _) | ((first | apply z10 | apply z21) <;> intro _)) <;> conv => whnf)
    all_goals first | (exfalso; omega) | skip
    all_goals (refine RetS.lay [] [] rfl rfl rfl ?_; refine RetS.done ?_ ?_ <;> (repeat' (first | exact LocLe.refl _ | exact F2.nil)))
theorem lassoSame_ok (t : Trace) (h1 : t.stem.length ≤ maxLen) (h2 : t.loop.length ≤ maxLen) : CallsA Tryz.prog 28 [.agg t.cs, .agg t.cs] [] (.bool true) [] := by
  have c1 := same_ok t.stem h1
  have c2 := same_ok t.loop h2
  refine z19 z26 Tryz.func28 rfl rfl 17 Tryz.ntmps28 (by simp) ?_
  repeat' ((first | (apply AWP.go ok; rfl) | (apply z11 (c1); rfl; rfl) | (apply z11 (c2); rfl; rfl)) <;> conv => whnf)
  all_goals (refine RetS.lay [] [] rfl rfl rfl ?_; refine RetS.done ?_ ?_ <;> (repeat' (first | exact LocLe.refl _ | exact F2.nil)))

end Go.Proofs.YtknlmbniicacmaaGreat

namespace Go.Proofs.YtknlmbniicacmaaGreat
open Go.Gl
attribute [local irreducible] z35 AWP z65 z78 z74 RetS z97

theorem lsT_quo {g : Graph} {l : List Tree} {bl : List Int} {u : Nat} (hu : u < (fstB bl g.st.length).length) : lsT (quoG g bl) l u = lsT g l ((fstB bl g.st.length).getD u 0) := by
  unfold lsT; rw [quoG_st hu]
end Go.Proofs.YtknlmbniicacmaaGreat

namespace Go.Proofs.YtknlmbniicacmaaGreat
open Go.Gl
attribute [local irreducible] z35 AWP z65 z78 z74

section
open Go.ChangeShapes Go.WideShapes Go.ChangeAt Go.RowKit
theorem and_mk {a b : Bool} (h : a = true) (k : b = true) : (a && b) = true := by rw [h, k]; rfl
theorem own : ownKnob Tryz.prog.godebug = none := by kernel_rfl
theorem laidOut_ok : laidOutB Tryz.prog = true := by kernel_rfl
end
end Go.Proofs.YtknlmbniicacmaaGreat

namespace Go.Proofs.YtknlmbniicacmaaGreat
open Go.Gl
attribute [local irreducible] z35 AWP z65 z78 z74

theorem ad_code : ArgD Tryz.prog 22 (lst 1 enU) CodeOk :=
  (argD_list (enc1 := lst 1 enU) Tryz.underlying22 (od_list 1 (encL := fun l => [lst 1 enU l]) Tryz.underlying22 (by kernel_rfl) (by decide) (od_byte (enc := enU) Tryz.underlying5 (fun _ => rfl)) (fun _ => rfl)) (fun _ => rfl)).imp fun l h => ⟨l, rfl, h.1, fun x hx => by
    have := h.2 x hx
    have h1 : IntKind.min .u8 = 0 := by decide
    have h2 : IntKind.max .u8 = 255 := by decide
    simpa [Lit.wf, h1, h2] using this⟩
end Go.Proofs.YtknlmbniicacmaaGreat

