/- A part of the proofs over this program: T61, T62, T62J, T63. -/
import Derived.Test.YtcannajfdnipkaaGreatG0
import Derived.Test.YtcannajfdnipkaaGreatG1
import Derived.Test.YtcannajfdnipkaaGreatG2
import Derived.Test.YtcannajfdnipkaaGreatP0
import Derived.Test.YtcannajfdnipkaaGreatP1
import Derived.Test.YtcannajfdnipkaaGreatP2
import Derived.Test.YtcannajfdnipkaaGreatP3
import Derived.Test.YtcannajfdnipkaaGreatP4
import Derived.Test.YtcannajfdnipkaaGreatP8
set_option linter.all false
namespace Go.Proofs.YtcannajfdnipkaaGreat
open Go.Gl
attribute [local irreducible] vcCall AWP RetOk Again ordOk

set_option maxHeartbeats 4000000 in
theorem l11States_new (g : Graph) (hG : GB g) (L : List Int) (hL : L.length = g.st.length) (hLr : ∀ x ∈ L, 0 ≤ x ∧ x ≤ 7) (t : Tree) : ∀ d, t.shapeB d = true → CallsA Tryz.prog 33 [.agg g.cs, ints L, argAgg Tree.cs' t] [] (.sref 0 0 g.st.length) [.cells 1 ((t.satB g.nx g.st.length L).map enB)] := by
  induction t using Tree.ind with | h t ih => ?_
  intro d hs
  rw [shapeB_eq, Bool.and_eq_true, decide_eq_true_eq, List.all_eq_true] at hs
  obtain ⟨⟨_, hs2, hs4, hs5⟩, hs3⟩ := hs
  have h60 := hG.1.2
  have hgl := hG.2.1
  have hin := hG.inN
  have cc : ∀ u ∈ t.kids, CallsA Tryz.prog 33 [.agg g.cs, ints L, argAgg Tree.cs' u] [] (lst 1 enB (u.satB g.nx g.st.length L)) [] := fun u hu => keepBL (ih u hu _ (hs3 u hu)) (Tree.satB_len hin L u)
  clear ih
  have hLg : ∀ i, i < L.length → 0 ≤ L.getD i 0 ∧ L.getD i 0 ≤ 7 := fun i hi => by rw [getD_at hi]; exact hLr _ (List.getElem_mem _)
  have hLe : ∀ i, i < L.length → (L.map enI)[i]? = some (enI (L.getD i 0)) := fun i hi => by rw [getD_at hi, List.getElem?_map, List.getElem?_eq_getElem hi]; rfl
  have hkl := arityB_kind hs2
  have hRl : (t.satB g.nx g.st.length L).length = g.st.length := Tree.satB_len hin L t
  have hRe := Tree.satB_eq g.nx g.st.length L t
  unfold opB at hRe
  have hklen : ∀ k ∈ t.kids.map (Tree.satB g.nx g.st.length L), k.length = g.st.length := fun k hk => by
    obtain ⟨u, hu, rfl⟩ := List.mem_map.1 hk
    exact Tree.satB_len hin L u
  have hkl2 : (t.kids.map (Tree.satB g.nx g.st.length L)).length = t.kids.length := by simp
  have hkat : ∀ i (hi : i < t.kids.length) (h2 : i < (t.kids.map (Tree.satB g.nx g.st.length L)).length), ((t.kids.map (Tree.satB g.nx g.st.length L)))[i] = t.kids[i].satB g.nx g.st.length L := fun i hi _ => by simp
  generalize hks : t.kids.map (Tree.satB g.nx g.st.length L) = ks at *
  generalize hR : t.satB g.nx g.st.length L = R at *
  have hl2 : t.kids.length ≤ 2 := by omega
  rw [Tree.arg_eq]
  refine callsA_of tabOk Tryz.func33 rfl rfl 133 Tryz.ntmps33 (by simp) ?_
  repeat' (first | (apply AWP.go ok; rfl; conv => whnf) | (apply ord_mk; kernel_rfl; conv => whnf) | (apply And.intro; (first | omega | (unfold inI; omega) | (dsimp only; omega) | (unfold bitsOk; omega) | ((try dsimp only); simp only [List.length_map, List.length_take, List.length_append, List.length_replicate, List.length_cons, List.length_nil]; omega) | (simp only [btw_iff] at *; first | omega | (unfold inI; omega) | (unfold bitsOk; omega)) | exact stor_map (fun _ => rfl) | exact ⟨rfl, stor_cons rfl stor_nil⟩ | exact ⟨rfl, stor_map (fun _ => rfl) _⟩ | exact ⟨⟨rfl, by omega⟩, stor_map (fun _ => rfl) _⟩); conv => whnf) | (with_reducible apply get_mapN; omega; intro _; conv => whnf) | (with_reducible apply get_mapI; omega; intro _; conv => whnf) | (apply get_mapN; omega; intro _; conv => whnf) | (apply get_fill; omega; conv => whnf) | (apply ex_some; conv => whnf) | (apply get_map; omega; intro _; conv => whnf) | (apply vcG_dec <;> intro _ <;> conv => whnf) | (apply vcG_ndec <;> intro _ <;> conv => whnf) | (apply vcG_not <;> intro _ <;> conv => whnf) | (apply vcG_mk <;> intro _ <;> conv => whnf) | (apply vcIf_dec <;> intro _ <;> conv => whnf) | (apply vcIf_ndec <;> intro _ <;> conv => whnf) | (apply vcIf_not <;> intro _ <;> conv => whnf) | (apply vcIf_mk <;> intro _ <;> conv => whnf))
  refine loopA (fun i : Nat => ([(1, ints L), (3, .ptr 0 none 0), (5, .ptr 1 none 0), (7, .sref 2 0 i), (8, .int i)], [.cells 2 [[lst 2 State.cs g.st, lst 1 encL g.nx]], .cells 3 [[.int t.kind, .int t.val, lst 3 Tree.cs' t.kids]], .cells 1 ((ks.take i).map encBL)])) (fun i => i ≤ t.kids.length) (fun i => t.kids.length - i) 0 (by omega) ⟨[0, 1, 2], rfl, by decide, rfl, ⟨⟨rfl, rfl⟩, ⟨rfl, rfl⟩, ⟨rfl, rfl⟩, ⟨rfl, rfl⟩, ⟨rfl, rfl⟩, trivial⟩, ⟨obj_box rfl rfl, obj_box rfl rfl, obj_flat rfl (flat_map fun _ => rfl), trivial⟩⟩ ?_
  intro i hi
  have htl : ((ks.take i).map encBL).length = i := by simp; omega
  by_cases hil : i < t.kids.length
  · have ci := cc t.kids[i] (List.getElem_mem _)
    have hka := hkat i hil (by omega)
    rw [← hka] at ci
    repeat' (first | (apply AWP.go ok; rfl; conv => whnf) | (apply ord_mk; kernel_rfl; conv => whnf) | (apply And.intro; (first | omega | (unfold inI; omega) | (dsimp only; omega) | (unfold bitsOk; omega) | ((try dsimp only); simp only [List.length_map, List.length_take, List.length_append, List.length_replicate, List.length_cons, List.length_nil]; omega) | (simp only [btw_iff] at *; first | omega | (unfold inI; omega) | (unfold bitsOk; omega)) | exact stor_map (fun _ => rfl) | exact ⟨rfl, stor_cons rfl stor_nil⟩ | exact ⟨rfl, stor_map (fun _ => rfl) _⟩ | exact ⟨⟨rfl, by omega⟩, stor_map (fun _ => rfl) _⟩); conv => whnf) | (with_reducible apply get_mapN; omega; intro _; conv => whnf) | (with_reducible apply get_mapI; omega; intro _; conv => whnf) | (apply get_mapN; omega; intro _; conv => whnf) | (apply get_fill; omega; conv => whnf) | (apply ex_some; conv => whnf) | (apply get_map; omega; intro _; conv => whnf) | (apply vcG_dec <;> intro _ <;> conv => whnf) | (apply vcG_ndec <;> intro _ <;> conv => whnf) | (apply vcG_not <;> intro _ <;> conv => whnf) | (apply vcG_mk <;> intro _ <;> conv => whnf) | (apply vcIf_dec <;> intro _ <;> conv => whnf) | (apply vcIf_ndec <;> intro _ <;> conv => whnf) | (apply vcIf_not <;> intro _ <;> conv => whnf) | (apply vcIf_mk <;> intro _ <;> conv => whnf) | (apply call_data (ci); rfl; rfl; conv => whnf))
    all_goals first | (exfalso; omega) | skip
    refine again (i + 1) [0, 1, 4] (by omega) (by omega) ⟨rfl, by decide, rfl, ⟨⟨rfl, rfl⟩, ⟨rfl, rfl⟩, ⟨rfl, rfl⟩, ⟨rfl, rfl⟩, ⟨rfl, rfl⟩, trivial⟩, ⟨obj_box rfl rfl, obj_box rfl rfl, obj_flat (cells_congr ?_) (flat_map fun _ => rfl), trivial⟩⟩
    rw [List.take_succ_eq_append_getElem (show i < ks.length by omega), List.map_append, List.take_of_length_le (by rw [htl]; exact Nat.le_refl _)]
    rfl
  rw [show ks.take i = ks from List.take_of_length_le (by omega)]
  have hik : i = ks.length := by omega
  subst hik
  clear htl hi
  generalize hn : g.st.length = n at *
  rcases hkl with ⟨hk, hl⟩ | ⟨hk, hl⟩ | ⟨hk, hl⟩ | ⟨hk, hl⟩ | ⟨hk, hl⟩ | ⟨hk, hl⟩ | ⟨hk, hl⟩ | ⟨hk, hl⟩ | ⟨hk, hl⟩ | ⟨hk, hl⟩ | ⟨hk, hl⟩
  · rw [if_neg (by omega), if_neg (by omega), if_neg (by omega), if_neg (by omega), if_neg (by omega), if_neg (by omega)] at hRe
    repeat' (first | (apply AWP.go ok; rfl; conv => whnf) | (apply ord_mk; kernel_rfl; conv => whnf) | (apply And.intro; (first | omega | (unfold inI; omega) | (dsimp only; omega) | (unfold bitsOk; omega) | ((try dsimp only); simp only [List.length_map, List.length_take, List.length_append, List.length_replicate, List.length_cons, List.length_nil]; omega) | (simp only [btw_iff] at *; first | omega | (unfold inI; omega) | (unfold bitsOk; omega)) | exact stor_map (fun _ => rfl) | exact ⟨rfl, stor_cons rfl stor_nil⟩ | exact ⟨rfl, stor_map (fun _ => rfl) _⟩ | exact ⟨⟨rfl, by omega⟩, stor_map (fun _ => rfl) _⟩); conv => whnf) | (with_reducible apply get_mapN; omega; intro _; conv => whnf) | (with_reducible apply get_mapI; omega; intro _; conv => whnf) | (apply get_mapN; omega; intro _; conv => whnf) | (apply get_fill; omega; conv => whnf) | (apply ex_some; conv => whnf) | (apply get_map; omega; intro _; conv => whnf) | (apply vcG_dec <;> intro _ <;> conv => whnf) | (apply vcG_ndec <;> intro _ <;> conv => whnf) | (apply vcG_not <;> intro _ <;> conv => whnf) | (apply vcG_mk <;> intro _ <;> conv => whnf) | (apply vcIf_dec <;> intro _ <;> conv => whnf) | (apply vcIf_ndec <;> intro _ <;> conv => whnf) | (apply vcIf_not <;> intro _ <;> conv => whnf) | (apply vcIf_mk <;> intro _ <;> conv => whnf))
    all_goals first | (exfalso; omega) | skip
    refine loopA (fun i : Nat => ([(1, ints L), (5, .ptr 1 none 0), (7, .sref 2 0 (ks).length), (9, .sref 3 0 i), (10, .int i)], [.cells 2 [[lst 2 State.cs g.st, lst 1 encL g.nx]], .cells 3 [[.int t.kind, .int t.val, lst 3 Tree.cs' t.kids]], .cells 1 ((ks).map encBL), .cells 1 (((List.range n).take i).map fun j => enB (gB R j))])) (fun i => i ≤ n) (fun i => n - i) 0 (by omega) ⟨[0, 1, 2, 3], rfl, by decide, rfl, ⟨⟨rfl, rfl⟩, ⟨rfl, rfl⟩, ⟨rfl, rfl⟩, ⟨rfl, rfl⟩, ⟨rfl, rfl⟩, trivial⟩, ⟨obj_box rfl rfl, obj_box rfl rfl, obj_flat rfl (flat_map fun _ => rfl), obj_flat rfl (flat_map fun _ => rfl), trivial⟩⟩ ?_
    intro i hi
    by_cases hil : i < n
    · have hir : i < (List.range n).length := by simpa using hil
      have hv : gB R i = true := by
        rw [hRe, gB_range _ _ _ hil]; unfold ptB; rw [if_neg (by omega), if_neg (by omega), if_neg (by omega), if_neg (by omega)]
      skip
      repeat' (first | (apply AWP.go ok; rfl; conv => whnf) | (apply ord_mk; kernel_rfl; conv => whnf) | (apply And.intro; (first | omega | (unfold inI; omega) | (dsimp only; omega) | (unfold bitsOk; omega) | ((try dsimp only); simp only [List.length_map, List.length_take, List.length_append, List.length_replicate, List.length_cons, List.length_nil]; omega) | (simp only [btw_iff] at *; first | omega | (unfold inI; omega) | (unfold bitsOk; omega)) | exact stor_map (fun _ => rfl) | exact ⟨rfl, stor_cons rfl stor_nil⟩ | exact ⟨rfl, stor_map (fun _ => rfl) _⟩ | exact ⟨⟨rfl, by omega⟩, stor_map (fun _ => rfl) _⟩); conv => whnf) | (with_reducible apply get_mapN; omega; intro _; conv => whnf) | (with_reducible apply get_mapI; omega; intro _; conv => whnf) | (apply get_mapN; omega; intro _; conv => whnf) | (apply get_fill; omega; conv => whnf) | (apply ex_some; conv => whnf) | (apply get_map; omega; intro _; conv => whnf) | (apply vcG_dec <;> intro _ <;> conv => whnf) | (apply vcG_ndec <;> intro _ <;> conv => whnf) | (apply vcG_not <;> intro _ <;> conv => whnf) | (apply vcG_mk <;> intro _ <;> conv => whnf) | (apply vcIf_dec <;> intro _ <;> conv => whnf) | (apply vcIf_ndec <;> intro _ <;> conv => whnf) | (apply vcIf_not <;> intro _ <;> conv => whnf) | (apply vcIf_mk <;> intro _ <;> conv => whnf))
      all_goals first | (exfalso; omega) | skip
      all_goals
        refine again (i + 1) [0, 1, 2, 5] (by omega) (by omega) ⟨rfl, by decide, rfl, ⟨⟨rfl, rfl⟩, ⟨rfl, rfl⟩, ⟨rfl, rfl⟩, ⟨rfl, rfl⟩, ⟨rfl, rfl⟩, trivial⟩, ⟨obj_box rfl rfl, obj_box rfl rfl, obj_flat rfl (flat_map fun _ => rfl), obj_flat (cells_congr ?_) (flat_map fun _ => rfl), trivial⟩⟩
        rw [List.take_of_length_le (by simp; omega), List.take_succ_eq_append_getElem hir, List.map_append, List.map_singleton, List.getElem_range, hv]
        rfl
    · repeat' (first | (apply AWP.go ok; rfl; conv => whnf) | (apply ord_mk; kernel_rfl; conv => whnf) | (apply And.intro; (first | omega | (unfold inI; omega) | (dsimp only; omega) | (unfold bitsOk; omega) | ((try dsimp only); simp only [List.length_map, List.length_take, List.length_append, List.length_replicate, List.length_cons, List.length_nil]; omega) | (simp only [btw_iff] at *; first | omega | (unfold inI; omega) | (unfold bitsOk; omega)) | exact stor_map (fun _ => rfl) | exact ⟨rfl, stor_cons rfl stor_nil⟩ | exact ⟨rfl, stor_map (fun _ => rfl) _⟩ | exact ⟨⟨rfl, by omega⟩, stor_map (fun _ => rfl) _⟩); conv => whnf) | (with_reducible apply get_mapN; omega; intro _; conv => whnf) | (with_reducible apply get_mapI; omega; intro _; conv => whnf) | (apply get_mapN; omega; intro _; conv => whnf) | (apply get_fill; omega; conv => whnf) | (apply ex_some; conv => whnf) | (apply get_map; omega; intro _; conv => whnf) | (apply vcG_dec <;> intro _ <;> conv => whnf) | (apply vcG_ndec <;> intro _ <;> conv => whnf) | (apply vcG_not <;> intro _ <;> conv => whnf) | (apply vcG_mk <;> intro _ <;> conv => whnf) | (apply vcIf_dec <;> intro _ <;> conv => whnf) | (apply vcIf_ndec <;> intro _ <;> conv => whnf) | (apply vcIf_not <;> intro _ <;> conv => whnf) | (apply vcIf_mk <;> intro _ <;> conv => whnf))
      all_goals first | (exfalso; omega) | skip
      all_goals
        have hin2 : i = n := by omega
        subst hin2
        refine ret_objs [3] (by decide) rfl rfl rfl ⟨obj_flat (cells_congr ?_) (flat_map fun _ => rfl), trivial⟩
        rw [List.take_of_length_le (by simp), ← hRl]
        exact map_gBs R
  · rw [if_neg (by omega), if_neg (by omega), if_neg (by omega), if_neg (by omega), if_neg (by omega), if_neg (by omega)] at hRe
    repeat' (first | (apply AWP.go ok; rfl; conv => whnf) | (apply ord_mk; kernel_rfl; conv => whnf) | (apply And.intro; (first | omega | (unfold inI; omega) | (dsimp only; omega) | (unfold bitsOk; omega) | ((try dsimp only); simp only [List.length_map, List.length_take, List.length_append, List.length_replicate, List.length_cons, List.length_nil]; omega) | (simp only [btw_iff] at *; first | omega | (unfold inI; omega) | (unfold bitsOk; omega)) | exact stor_map (fun _ => rfl) | exact ⟨rfl, stor_cons rfl stor_nil⟩ | exact ⟨rfl, stor_map (fun _ => rfl) _⟩ | exact ⟨⟨rfl, by omega⟩, stor_map (fun _ => rfl) _⟩); conv => whnf) | (with_reducible apply get_mapN; omega; intro _; conv => whnf) | (with_reducible apply get_mapI; omega; intro _; conv => whnf) | (apply get_mapN; omega; intro _; conv => whnf) | (apply get_fill; omega; conv => whnf) | (apply ex_some; conv => whnf) | (apply get_map; omega; intro _; conv => whnf) | (apply vcG_dec <;> intro _ <;> conv => whnf) | (apply vcG_ndec <;> intro _ <;> conv => whnf) | (apply vcG_not <;> intro _ <;> conv => whnf) | (apply vcG_mk <;> intro _ <;> conv => whnf) | (apply vcIf_dec <;> intro _ <;> conv => whnf) | (apply vcIf_ndec <;> intro _ <;> conv => whnf) | (apply vcIf_not <;> intro _ <;> conv => whnf) | (apply vcIf_mk <;> intro _ <;> conv => whnf))
    all_goals first | (exfalso; omega) | skip
    refine loopA (fun i : Nat => ([(1, ints L), (5, .ptr 1 none 0), (7, .sref 2 0 (ks).length), (9, .sref 3 0 i), (10, .int i)], [.cells 2 [[lst 2 State.cs g.st, lst 1 encL g.nx]], .cells 3 [[.int t.kind, .int t.val, lst 3 Tree.cs' t.kids]], .cells 1 ((ks).map encBL), .cells 1 (((List.range n).take i).map fun j => enB (gB R j))])) (fun i => i ≤ n) (fun i => n - i) 0 (by omega) ⟨[0, 1, 2, 3], rfl, by decide, rfl, ⟨⟨rfl, rfl⟩, ⟨rfl, rfl⟩, ⟨rfl, rfl⟩, ⟨rfl, rfl⟩, ⟨rfl, rfl⟩, trivial⟩, ⟨obj_box rfl rfl, obj_box rfl rfl, obj_flat rfl (flat_map fun _ => rfl), obj_flat rfl (flat_map fun _ => rfl), trivial⟩⟩ ?_
    intro i hi
    by_cases hil : i < n
    · have hir : i < (List.range n).length := by simpa using hil
      have hv : gB R i = hasB (L.getD i 0) t.val := by
        rw [hRe, gB_range _ _ _ hil]; unfold ptB; rw [if_pos hk]
      have g0 := hLe i (by omega)
      unfold mostB at hs5
      rw [if_pos hk] at hs5
      have c6 := l6Has_ok (L.getD i 0) t.val (hLg i (by omega)).1 (hLg i (by omega)).2 hs4 hs5
      repeat' (first | (apply AWP.go ok; rfl; conv => whnf) | (apply ord_mk; kernel_rfl; conv => whnf) | (refine get_eq (i := i) rfl g0 ?_; conv => whnf) | (apply And.intro; (first | omega | (unfold inI; omega) | (dsimp only; omega) | (unfold bitsOk; omega) | ((try dsimp only); simp only [List.length_map, List.length_take, List.length_append, List.length_replicate, List.length_cons, List.length_nil]; omega) | (simp only [btw_iff] at *; first | omega | (unfold inI; omega) | (unfold bitsOk; omega)) | exact stor_map (fun _ => rfl) | exact ⟨rfl, stor_cons rfl stor_nil⟩ | exact ⟨rfl, stor_map (fun _ => rfl) _⟩ | exact ⟨⟨rfl, by omega⟩, stor_map (fun _ => rfl) _⟩); conv => whnf) | (with_reducible apply get_mapN; omega; intro _; conv => whnf) | (with_reducible apply get_mapI; omega; intro _; conv => whnf) | (apply get_mapN; omega; intro _; conv => whnf) | (apply get_fill; omega; conv => whnf) | (apply ex_some; conv => whnf) | (apply get_map; omega; intro _; conv => whnf) | (apply vcG_dec <;> intro _ <;> conv => whnf) | (apply vcG_ndec <;> intro _ <;> conv => whnf) | (apply vcG_not <;> intro _ <;> conv => whnf) | (apply vcG_mk <;> intro _ <;> conv => whnf) | (apply vcIf_dec <;> intro _ <;> conv => whnf) | (apply vcIf_ndec <;> intro _ <;> conv => whnf) | (apply vcIf_not <;> intro _ <;> conv => whnf) | (apply vcIf_mk <;> intro _ <;> conv => whnf) | (apply call_data (c6); rfl; rfl; conv => whnf))
      all_goals first | (exfalso; omega) | skip
      all_goals
        refine again (i + 1) [0, 1, 2, 5] (by omega) (by omega) ⟨rfl, by decide, rfl, ⟨⟨rfl, rfl⟩, ⟨rfl, rfl⟩, ⟨rfl, rfl⟩, ⟨rfl, rfl⟩, ⟨rfl, rfl⟩, trivial⟩, ⟨obj_box rfl rfl, obj_box rfl rfl, obj_flat rfl (flat_map fun _ => rfl), obj_flat (cells_congr ?_) (flat_map fun _ => rfl), trivial⟩⟩
        rw [List.take_of_length_le (by simp; omega), List.take_succ_eq_append_getElem hir, List.map_append, List.map_singleton, List.getElem_range, hv]
        rfl
    · repeat' (first | (apply AWP.go ok; rfl; conv => whnf) | (apply ord_mk; kernel_rfl; conv => whnf) | (apply And.intro; (first | omega | (unfold inI; omega) | (dsimp only; omega) | (unfold bitsOk; omega) | ((try dsimp only); simp only [List.length_map, List.length_take, List.length_append, List.length_replicate, List.length_cons, List.length_nil]; omega) | (simp only [btw_iff] at *; first | omega | (unfold inI; omega) | (unfold bitsOk; omega)) | exact stor_map (fun _ => rfl) | exact ⟨rfl, stor_cons rfl stor_nil⟩ | exact ⟨rfl, stor_map (fun _ => rfl) _⟩ | exact ⟨⟨rfl, by omega⟩, stor_map (fun _ => rfl) _⟩); conv => whnf) | (with_reducible apply get_mapN; omega; intro _; conv => whnf) | (with_reducible apply get_mapI; omega; intro _; conv => whnf) | (apply get_mapN; omega; intro _; conv => whnf) | (apply get_fill; omega; conv => whnf) | (apply ex_some; conv => whnf) | (apply get_map; omega; intro _; conv => whnf) | (apply vcG_dec <;> intro _ <;> conv => whnf) | (apply vcG_ndec <;> intro _ <;> conv => whnf) | (apply vcG_not <;> intro _ <;> conv => whnf) | (apply vcG_mk <;> intro _ <;> conv => whnf) | (apply vcIf_dec <;> intro _ <;> conv => whnf) | (apply vcIf_ndec <;> intro _ <;> conv => whnf) | (apply vcIf_not <;> intro _ <;> conv => whnf) | (apply vcIf_mk <;> intro _ <;> conv => whnf))
      all_goals first | (exfalso; omega) | skip
      all_goals
        have hin2 : i = n := by omega
        subst hin2
        refine ret_objs [3] (by decide) rfl rfl rfl ⟨obj_flat (cells_congr ?_) (flat_map fun _ => rfl), trivial⟩
        rw [List.take_of_length_le (by simp), ← hRl]
        exact map_gBs R
  · obtain ⟨a, rfl⟩ := len1 (hkl2.trans hl)
    have ha := hklen a (by simp)
    rw [if_neg (by omega), if_neg (by omega), if_neg (by omega), if_neg (by omega), if_neg (by omega), if_neg (by omega)] at hRe
    repeat' (first | (apply AWP.go ok; rfl; conv => whnf) | (apply ord_mk; kernel_rfl; conv => whnf) | (apply And.intro; (first | omega | (unfold inI; omega) | (dsimp only; omega) | (unfold bitsOk; omega) | ((try dsimp only); simp only [List.length_map, List.length_take, List.length_append, List.length_replicate, List.length_cons, List.length_nil]; omega) | (simp only [btw_iff] at *; first | omega | (unfold inI; omega) | (unfold bitsOk; omega)) | exact stor_map (fun _ => rfl) | exact ⟨rfl, stor_cons rfl stor_nil⟩ | exact ⟨rfl, stor_map (fun _ => rfl) _⟩ | exact ⟨⟨rfl, by omega⟩, stor_map (fun _ => rfl) _⟩); conv => whnf) | (with_reducible apply get_mapN; omega; intro _; conv => whnf) | (with_reducible apply get_mapI; omega; intro _; conv => whnf) | (apply get_mapN; omega; intro _; conv => whnf) | (apply get_fill; omega; conv => whnf) | (apply ex_some; conv => whnf) | (apply get_map; omega; intro _; conv => whnf) | (apply vcG_dec <;> intro _ <;> conv => whnf) | (apply vcG_ndec <;> intro _ <;> conv => whnf) | (apply vcG_not <;> intro _ <;> conv => whnf) | (apply vcG_mk <;> intro _ <;> conv => whnf) | (apply vcIf_dec <;> intro _ <;> conv => whnf) | (apply vcIf_ndec <;> intro _ <;> conv => whnf) | (apply vcIf_not <;> intro _ <;> conv => whnf) | (apply vcIf_mk <;> intro _ <;> conv => whnf))
    all_goals first | (exfalso; omega) | skip
    refine loopA (fun i : Nat => ([(1, ints L), (5, .ptr 1 none 0), (7, .sref 2 0 ([a]).length), (9, .sref 3 0 i), (10, .int i)], [.cells 2 [[lst 2 State.cs g.st, lst 1 encL g.nx]], .cells 3 [[.int t.kind, .int t.val, lst 3 Tree.cs' t.kids]], .cells 1 (([a]).map encBL), .cells 1 (((List.range n).take i).map fun j => enB (gB R j))])) (fun i => i ≤ n) (fun i => n - i) 0 (by omega) ⟨[0, 1, 2, 3], rfl, by decide, rfl, ⟨⟨rfl, rfl⟩, ⟨rfl, rfl⟩, ⟨rfl, rfl⟩, ⟨rfl, rfl⟩, ⟨rfl, rfl⟩, trivial⟩, ⟨obj_box rfl rfl, obj_box rfl rfl, obj_flat rfl (flat_map fun _ => rfl), obj_flat rfl (flat_map fun _ => rfl), trivial⟩⟩ ?_
    intro i hi
    by_cases hil : i < n
    · have hir : i < (List.range n).length := by simpa using hil
      have hv : gB R i = !gB a i := by
        rw [hRe, gB_range _ _ _ hil]; unfold ptB; rw [if_neg (by omega), if_pos hk]; rfl
      have g1 := map_gB (S := a) (i := i) (by omega)
      repeat' (first | (apply AWP.go ok; rfl; conv => whnf) | (apply ord_mk; kernel_rfl; conv => whnf) | (refine get_eq (i := i) rfl g1 ?_; conv => whnf) | (refine get_eq (i := 0) rfl rfl ?_; conv => whnf) | (apply And.intro; (first | omega | (unfold inI; omega) | (dsimp only; omega) | (unfold bitsOk; omega) | ((try dsimp only); simp only [List.length_map, List.length_take, List.length_append, List.length_replicate, List.length_cons, List.length_nil]; omega) | (simp only [btw_iff] at *; first | omega | (unfold inI; omega) | (unfold bitsOk; omega)) | exact stor_map (fun _ => rfl) | exact ⟨rfl, stor_cons rfl stor_nil⟩ | exact ⟨rfl, stor_map (fun _ => rfl) _⟩ | exact ⟨⟨rfl, by omega⟩, stor_map (fun _ => rfl) _⟩); conv => whnf) | (with_reducible apply get_mapN; omega; intro _; conv => whnf) | (with_reducible apply get_mapI; omega; intro _; conv => whnf) | (apply get_mapN; omega; intro _; conv => whnf) | (apply get_fill; omega; conv => whnf) | (apply ex_some; conv => whnf) | (apply get_map; omega; intro _; conv => whnf) | (apply vcG_dec <;> intro _ <;> conv => whnf) | (apply vcG_ndec <;> intro _ <;> conv => whnf) | (apply vcG_not <;> intro _ <;> conv => whnf) | (apply vcG_mk <;> intro _ <;> conv => whnf) | (apply vcIf_dec <;> intro _ <;> conv => whnf) | (apply vcIf_ndec <;> intro _ <;> conv => whnf) | (apply vcIf_not <;> intro _ <;> conv => whnf) | (apply vcIf_mk <;> intro _ <;> conv => whnf))
      all_goals first | (exfalso; omega) | skip
      all_goals
        refine again (i + 1) [0, 1, 2, 5] (by omega) (by omega) ⟨rfl, by decide, rfl, ⟨⟨rfl, rfl⟩, ⟨rfl, rfl⟩, ⟨rfl, rfl⟩, ⟨rfl, rfl⟩, ⟨rfl, rfl⟩, trivial⟩, ⟨obj_box rfl rfl, obj_box rfl rfl, obj_flat rfl (flat_map fun _ => rfl), obj_flat (cells_congr ?_) (flat_map fun _ => rfl), trivial⟩⟩
        rw [List.take_of_length_le (by simp; omega), List.take_succ_eq_append_getElem hir, List.map_append, List.map_singleton, List.getElem_range, hv]
        rfl
    · repeat' (first | (apply AWP.go ok; rfl; conv => whnf) | (apply ord_mk; kernel_rfl; conv => whnf) | (apply And.intro; (first | omega | (unfold inI; omega) | (dsimp only; omega) | (unfold bitsOk; omega) | ((try dsimp only); simp only [List.length_map, List.length_take, List.length_append, List.length_replicate, List.length_cons, List.length_nil]; omega) | (simp only [btw_iff] at *; first | omega | (unfold inI; omega) | (unfold bitsOk; omega)) | exact stor_map (fun _ => rfl) | exact ⟨rfl, stor_cons rfl stor_nil⟩ | exact ⟨rfl, stor_map (fun _ => rfl) _⟩ | exact ⟨⟨rfl, by omega⟩, stor_map (fun _ => rfl) _⟩); conv => whnf) | (with_reducible apply get_mapN; omega; intro _; conv => whnf) | (with_reducible apply get_mapI; omega; intro _; conv => whnf) | (apply get_mapN; omega; intro _; conv => whnf) | (apply get_fill; omega; conv => whnf) | (apply ex_some; conv => whnf) | (apply get_map; omega; intro _; conv => whnf) | (apply vcG_dec <;> intro _ <;> conv => whnf) | (apply vcG_ndec <;> intro _ <;> conv => whnf) | (apply vcG_not <;> intro _ <;> conv => whnf) | (apply vcG_mk <;> intro _ <;> conv => whnf) | (apply vcIf_dec <;> intro _ <;> conv => whnf) | (apply vcIf_ndec <;> intro _ <;> conv => whnf) | (apply vcIf_not <;> intro _ <;> conv => whnf) | (apply vcIf_mk <;> intro _ <;> conv => whnf))
      all_goals first | (exfalso; omega) | skip
      all_goals
        have hin2 : i = n := by omega
        subst hin2
        refine ret_objs [3] (by decide) rfl rfl rfl ⟨obj_flat (cells_congr ?_) (flat_map fun _ => rfl), trivial⟩
        rw [List.take_of_length_le (by simp), ← hRl]
        exact map_gBs R
  · obtain ⟨a, b, rfl⟩ := len2 (hkl2.trans hl)
    have ha := hklen a (by simp)
    have hb := hklen b (by simp)
    rw [if_neg (by omega), if_neg (by omega), if_neg (by omega), if_neg (by omega), if_neg (by omega), if_neg (by omega)] at hRe
    repeat' (first | (apply AWP.go ok; rfl; conv => whnf) | (apply ord_mk; kernel_rfl; conv => whnf) | (apply And.intro; (first | omega | (unfold inI; omega) | (dsimp only; omega) | (unfold bitsOk; omega) | ((try dsimp only); simp only [List.length_map, List.length_take, List.length_append, List.length_replicate, List.length_cons, List.length_nil]; omega) | (simp only [btw_iff] at *; first | omega | (unfold inI; omega) | (unfold bitsOk; omega)) | exact stor_map (fun _ => rfl) | exact ⟨rfl, stor_cons rfl stor_nil⟩ | exact ⟨rfl, stor_map (fun _ => rfl) _⟩ | exact ⟨⟨rfl, by omega⟩, stor_map (fun _ => rfl) _⟩); conv => whnf) | (with_reducible apply get_mapN; omega; intro _; conv => whnf) | (with_reducible apply get_mapI; omega; intro _; conv => whnf) | (apply get_mapN; omega; intro _; conv => whnf) | (apply get_fill; omega; conv => whnf) | (apply ex_some; conv => whnf) | (apply get_map; omega; intro _; conv => whnf) | (apply vcG_dec <;> intro _ <;> conv => whnf) | (apply vcG_ndec <;> intro _ <;> conv => whnf) | (apply vcG_not <;> intro _ <;> conv => whnf) | (apply vcG_mk <;> intro _ <;> conv => whnf) | (apply vcIf_dec <;> intro _ <;> conv => whnf) | (apply vcIf_ndec <;> intro _ <;> conv => whnf) | (apply vcIf_not <;> intro _ <;> conv => whnf) | (apply vcIf_mk <;> intro _ <;> conv => whnf))
    all_goals first | (exfalso; omega) | skip
    refine loopA (fun i : Nat => ([(1, ints L), (5, .ptr 1 none 0), (7, .sref 2 0 ([a, b]).length), (9, .sref 3 0 i), (10, .int i)], [.cells 2 [[lst 2 State.cs g.st, lst 1 encL g.nx]], .cells 3 [[.int t.kind, .int t.val, lst 3 Tree.cs' t.kids]], .cells 1 (([a, b]).map encBL), .cells 1 (((List.range n).take i).map fun j => enB (gB R j))])) (fun i => i ≤ n) (fun i => n - i) 0 (by omega) ⟨[0, 1, 2, 3], rfl, by decide, rfl, ⟨⟨rfl, rfl⟩, ⟨rfl, rfl⟩, ⟨rfl, rfl⟩, ⟨rfl, rfl⟩, ⟨rfl, rfl⟩, trivial⟩, ⟨obj_box rfl rfl, obj_box rfl rfl, obj_flat rfl (flat_map fun _ => rfl), obj_flat rfl (flat_map fun _ => rfl), trivial⟩⟩ ?_
    intro i hi
    by_cases hil : i < n
    · have hir : i < (List.range n).length := by simpa using hil
      have hv : gB R i = (gB a i && gB b i) := by
        rw [hRe, gB_range _ _ _ hil]; unfold ptB; rw [if_neg (by omega), if_neg (by omega), if_pos hk]; rfl
      have g1 := map_gB (S := a) (i := i) (by omega)
      have g2 := map_gB (S := b) (i := i) (by omega)
      generalize gB a i = p at hv g1
      generalize gB b i = q at hv g2
      cases p <;> cases q
      all_goals
        repeat' (first | (apply AWP.go ok; rfl; conv => whnf) | (apply ord_mk; kernel_rfl; conv => whnf) | (refine get_eq (i := i) rfl g2 ?_; conv => whnf) | (refine get_eq (i := i) rfl g1 ?_; conv => whnf) | (refine get_eq (i := 1) rfl rfl ?_; conv => whnf) | (refine get_eq (i := 0) rfl rfl ?_; conv => whnf) | (apply And.intro; (first | omega | (unfold inI; omega) | (dsimp only; omega) | (unfold bitsOk; omega) | ((try dsimp only); simp only [List.length_map, List.length_take, List.length_append, List.length_replicate, List.length_cons, List.length_nil]; omega) | (simp only [btw_iff] at *; first | omega | (unfold inI; omega) | (unfold bitsOk; omega)) | exact stor_map (fun _ => rfl) | exact ⟨rfl, stor_cons rfl stor_nil⟩ | exact ⟨rfl, stor_map (fun _ => rfl) _⟩ | exact ⟨⟨rfl, by omega⟩, stor_map (fun _ => rfl) _⟩); conv => whnf) | (with_reducible apply get_mapN; omega; intro _; conv => whnf) | (with_reducible apply get_mapI; omega; intro _; conv => whnf) | (apply get_mapN; omega; intro _; conv => whnf) | (apply get_fill; omega; conv => whnf) | (apply ex_some; conv => whnf) | (apply get_map; omega; intro _; conv => whnf) | (apply vcG_dec <;> intro _ <;> conv => whnf) | (apply vcG_ndec <;> intro _ <;> conv => whnf) | (apply vcG_not <;> intro _ <;> conv => whnf) | (apply vcG_mk <;> intro _ <;> conv => whnf) | (apply vcIf_dec <;> intro _ <;> conv => whnf) | (apply vcIf_ndec <;> intro _ <;> conv => whnf) | (apply vcIf_not <;> intro _ <;> conv => whnf) | (apply vcIf_mk <;> intro _ <;> conv => whnf))
        all_goals first | (exfalso; omega) | skip
        all_goals
          refine again (i + 1) [0, 1, 2, 5] (by omega) (by omega) ⟨rfl, by decide, rfl, ⟨⟨rfl, rfl⟩, ⟨rfl, rfl⟩, ⟨rfl, rfl⟩, ⟨rfl, rfl⟩, ⟨rfl, rfl⟩, trivial⟩, ⟨obj_box rfl rfl, obj_box rfl rfl, obj_flat rfl (flat_map fun _ => rfl), obj_flat (cells_congr ?_) (flat_map fun _ => rfl), trivial⟩⟩
          rw [List.take_of_length_le (by simp; omega), List.take_succ_eq_append_getElem hir, List.map_append, List.map_singleton, List.getElem_range, hv]
          rfl
    · repeat' (first | (apply AWP.go ok; rfl; conv => whnf) | (apply ord_mk; kernel_rfl; conv => whnf) | (apply And.intro; (first | omega | (unfold inI; omega) | (dsimp only; omega) | (unfold bitsOk; omega) | ((try dsimp only); simp only [List.length_map, List.length_take, List.length_append, List.length_replicate, List.length_cons, List.length_nil]; omega) | (simp only [btw_iff] at *; first | omega | (unfold inI; omega) | (unfold bitsOk; omega)) | exact stor_map (fun _ => rfl) | exact ⟨rfl, stor_cons rfl stor_nil⟩ | exact ⟨rfl, stor_map (fun _ => rfl) _⟩ | exact ⟨⟨rfl, by omega⟩, stor_map (fun _ => rfl) _⟩); conv => whnf) | (with_reducible apply get_mapN; omega; intro _; conv => whnf) | (with_reducible apply get_mapI; omega; intro _; conv => whnf) | (apply get_mapN; omega; intro _; conv => whnf) | (apply get_fill; omega; conv => whnf) | (apply ex_some; conv => whnf) | (apply get_map; omega; intro _; conv => whnf) | (apply vcG_dec <;> intro _ <;> conv => whnf) | (apply vcG_ndec <;> intro _ <;> conv => whnf) | (apply vcG_not <;> intro _ <;> conv => whnf) | (apply vcG_mk <;> intro _ <;> conv => whnf) | (apply vcIf_dec <;> intro _ <;> conv => whnf) | (apply vcIf_ndec <;> intro _ <;> conv => whnf) | (apply vcIf_not <;> intro _ <;> conv => whnf) | (apply vcIf_mk <;> intro _ <;> conv => whnf))
      all_goals first | (exfalso; omega) | skip
      all_goals
        have hin2 : i = n := by omega
        subst hin2
        refine ret_objs [3] (by decide) rfl rfl rfl ⟨obj_flat (cells_congr ?_) (flat_map fun _ => rfl), trivial⟩
        rw [List.take_of_length_le (by simp), ← hRl]
        exact map_gBs R
  · obtain ⟨a, b, rfl⟩ := len2 (hkl2.trans hl)
    have ha := hklen a (by simp)
    have hb := hklen b (by simp)
    rw [if_neg (by omega), if_neg (by omega), if_neg (by omega), if_neg (by omega), if_neg (by omega), if_neg (by omega)] at hRe
    repeat' (first | (apply AWP.go ok; rfl; conv => whnf) | (apply ord_mk; kernel_rfl; conv => whnf) | (apply And.intro; (first | omega | (unfold inI; omega) | (dsimp only; omega) | (unfold bitsOk; omega) | ((try dsimp only); simp only [List.length_map, List.length_take, List.length_append, List.length_replicate, List.length_cons, List.length_nil]; omega) | (simp only [btw_iff] at *; first | omega | (unfold inI; omega) | (unfold bitsOk; omega)) | exact stor_map (fun _ => rfl) | exact ⟨rfl, stor_cons rfl stor_nil⟩ | exact ⟨rfl, stor_map (fun _ => rfl) _⟩ | exact ⟨⟨rfl, by omega⟩, stor_map (fun _ => rfl) _⟩); conv => whnf) | (with_reducible apply get_mapN; omega; intro _; conv => whnf) | (with_reducible apply get_mapI; omega; intro _; conv => whnf) | (apply get_mapN; omega; intro _; conv => whnf) | (apply get_fill; omega; conv => whnf) | (apply ex_some; conv => whnf) | (apply get_map; omega; intro _; conv => whnf) | (apply vcG_dec <;> intro _ <;> conv => whnf) | (apply vcG_ndec <;> intro _ <;> conv => whnf) | (apply vcG_not <;> intro _ <;> conv => whnf) | (apply vcG_mk <;> intro _ <;> conv => whnf) | (apply vcIf_dec <;> intro _ <;> conv => whnf) | (apply vcIf_ndec <;> intro _ <;> conv => whnf) | (apply vcIf_not <;> intro _ <;> conv => whnf) | (apply vcIf_mk <;> intro _ <;> conv => whnf))
    all_goals first | (exfalso; omega) | skip
    refine loopA (fun i : Nat => ([(1, ints L), (5, .ptr 1 none 0), (7, .sref 2 0 ([a, b]).length), (9, .sref 3 0 i), (10, .int i)], [.cells 2 [[lst 2 State.cs g.st, lst 1 encL g.nx]], .cells 3 [[.int t.kind, .int t.val, lst 3 Tree.cs' t.kids]], .cells 1 (([a, b]).map encBL), .cells 1 (((List.range n).take i).map fun j => enB (gB R j))])) (fun i => i ≤ n) (fun i => n - i) 0 (by omega) ⟨[0, 1, 2, 3], rfl, by decide, rfl, ⟨⟨rfl, rfl⟩, ⟨rfl, rfl⟩, ⟨rfl, rfl⟩, ⟨rfl, rfl⟩, ⟨rfl, rfl⟩, trivial⟩, ⟨obj_box rfl rfl, obj_box rfl rfl, obj_flat rfl (flat_map fun _ => rfl), obj_flat rfl (flat_map fun _ => rfl), trivial⟩⟩ ?_
    intro i hi
    by_cases hil : i < n
    · have hir : i < (List.range n).length := by simpa using hil
      have hv : gB R i = (gB a i || gB b i) := by
        rw [hRe, gB_range _ _ _ hil]; unfold ptB; rw [if_neg (by omega), if_neg (by omega), if_neg (by omega), if_pos hk]; rfl
      have g1 := map_gB (S := a) (i := i) (by omega)
      have g2 := map_gB (S := b) (i := i) (by omega)
      generalize gB a i = p at hv g1
      generalize gB b i = q at hv g2
      cases p <;> cases q
      all_goals
        repeat' (first | (apply AWP.go ok; rfl; conv => whnf) | (apply ord_mk; kernel_rfl; conv => whnf) | (refine get_eq (i := i) rfl g2 ?_; conv => whnf) | (refine get_eq (i := i) rfl g1 ?_; conv => whnf) | (refine get_eq (i := 1) rfl rfl ?_; conv => whnf) | (refine get_eq (i := 0) rfl rfl ?_; conv => whnf) | (apply And.intro; (first | omega | (unfold inI; omega) | (dsimp only; omega) | (unfold bitsOk; omega) | ((try dsimp only); simp only [List.length_map, List.length_take, List.length_append, List.length_replicate, List.length_cons, List.length_nil]; omega) | (simp only [btw_iff] at *; first | omega | (unfold inI; omega) | (unfold bitsOk; omega)) | exact stor_map (fun _ => rfl) | exact ⟨rfl, stor_cons rfl stor_nil⟩ | exact ⟨rfl, stor_map (fun _ => rfl) _⟩ | exact ⟨⟨rfl, by omega⟩, stor_map (fun _ => rfl) _⟩); conv => whnf) | (with_reducible apply get_mapN; omega; intro _; conv => whnf) | (with_reducible apply get_mapI; omega; intro _; conv => whnf) | (apply get_mapN; omega; intro _; conv => whnf) | (apply get_fill; omega; conv => whnf) | (apply ex_some; conv => whnf) | (apply get_map; omega; intro _; conv => whnf) | (apply vcG_dec <;> intro _ <;> conv => whnf) | (apply vcG_ndec <;> intro _ <;> conv => whnf) | (apply vcG_not <;> intro _ <;> conv => whnf) | (apply vcG_mk <;> intro _ <;> conv => whnf) | (apply vcIf_dec <;> intro _ <;> conv => whnf) | (apply vcIf_ndec <;> intro _ <;> conv => whnf) | (apply vcIf_not <;> intro _ <;> conv => whnf) | (apply vcIf_mk <;> intro _ <;> conv => whnf))
        all_goals first | (exfalso; omega) | skip
        all_goals
          refine again (i + 1) [0, 1, 2, 5] (by omega) (by omega) ⟨rfl, by decide, rfl, ⟨⟨rfl, rfl⟩, ⟨rfl, rfl⟩, ⟨rfl, rfl⟩, ⟨rfl, rfl⟩, ⟨rfl, rfl⟩, trivial⟩, ⟨obj_box rfl rfl, obj_box rfl rfl, obj_flat rfl (flat_map fun _ => rfl), obj_flat (cells_congr ?_) (flat_map fun _ => rfl), trivial⟩⟩
          rw [List.take_of_length_le (by simp; omega), List.take_succ_eq_append_getElem hir, List.map_append, List.map_singleton, List.getElem_range, hv]
          rfl
    · repeat' (first | (apply AWP.go ok; rfl; conv => whnf) | (apply ord_mk; kernel_rfl; conv => whnf) | (apply And.intro; (first | omega | (unfold inI; omega) | (dsimp only; omega) | (unfold bitsOk; omega) | ((try dsimp only); simp only [List.length_map, List.length_take, List.length_append, List.length_replicate, List.length_cons, List.length_nil]; omega) | (simp only [btw_iff] at *; first | omega | (unfold inI; omega) | (unfold bitsOk; omega)) | exact stor_map (fun _ => rfl) | exact ⟨rfl, stor_cons rfl stor_nil⟩ | exact ⟨rfl, stor_map (fun _ => rfl) _⟩ | exact ⟨⟨rfl, by omega⟩, stor_map (fun _ => rfl) _⟩); conv => whnf) | (with_reducible apply get_mapN; omega; intro _; conv => whnf) | (with_reducible apply get_mapI; omega; intro _; conv => whnf) | (apply get_mapN; omega; intro _; conv => whnf) | (apply get_fill; omega; conv => whnf) | (apply ex_some; conv => whnf) | (apply get_map; omega; intro _; conv => whnf) | (apply vcG_dec <;> intro _ <;> conv => whnf) | (apply vcG_ndec <;> intro _ <;> conv => whnf) | (apply vcG_not <;> intro _ <;> conv => whnf) | (apply vcG_mk <;> intro _ <;> conv => whnf) | (apply vcIf_dec <;> intro _ <;> conv => whnf) | (apply vcIf_ndec <;> intro _ <;> conv => whnf) | (apply vcIf_not <;> intro _ <;> conv => whnf) | (apply vcIf_mk <;> intro _ <;> conv => whnf))
      all_goals first | (exfalso; omega) | skip
      all_goals
        have hin2 : i = n := by omega
        subst hin2
        refine ret_objs [3] (by decide) rfl rfl rfl ⟨obj_flat (cells_congr ?_) (flat_map fun _ => rfl), trivial⟩
        rw [List.take_of_length_le (by simp), ← hRl]
        exact map_gBs R
  · obtain ⟨a, rfl⟩ := len1 (hkl2.trans hl)
    have ha := hklen a (by simp)
    rw [if_pos hk] at hRe
    have cf := l11Next_new g hG a (ha.trans hn.symm) (decide (t.kind = 9))
    rw [hn, show nxL g.nx (decide (t.kind = 9)) n a = R from by rw [hRe, decide_eq_false (by omega)]; rfl] at cf
    repeat' (first | (apply AWP.go ok; rfl; conv => whnf) | (apply ord_mk; kernel_rfl; conv => whnf) | (refine get_eq (i := 1) rfl rfl ?_; conv => whnf) | (refine get_eq (i := 0) rfl rfl ?_; conv => whnf) | (apply And.intro; (first | omega | (unfold inI; omega) | (dsimp only; omega) | (unfold bitsOk; omega) | ((try dsimp only); simp only [List.length_map, List.length_take, List.length_append, List.length_replicate, List.length_cons, List.length_nil]; omega) | (simp only [btw_iff] at *; first | omega | (unfold inI; omega) | (unfold bitsOk; omega)) | exact stor_map (fun _ => rfl) | exact ⟨rfl, stor_cons rfl stor_nil⟩ | exact ⟨rfl, stor_map (fun _ => rfl) _⟩ | exact ⟨⟨rfl, by omega⟩, stor_map (fun _ => rfl) _⟩); conv => whnf) | (with_reducible apply get_mapN; omega; intro _; conv => whnf) | (with_reducible apply get_mapI; omega; intro _; conv => whnf) | (apply get_mapN; omega; intro _; conv => whnf) | (apply get_fill; omega; conv => whnf) | (apply ex_some; conv => whnf) | (apply get_map; omega; intro _; conv => whnf) | (apply vcG_dec <;> intro _ <;> conv => whnf) | (apply vcG_ndec <;> intro _ <;> conv => whnf) | (apply vcG_not <;> intro _ <;> conv => whnf) | (apply vcG_mk <;> intro _ <;> conv => whnf) | (apply vcIf_dec <;> intro _ <;> conv => whnf) | (apply vcIf_ndec <;> intro _ <;> conv => whnf) | (apply vcIf_not <;> intro _ <;> conv => whnf) | (apply vcIf_mk <;> intro _ <;> conv => whnf) | (apply call_gen [] [] [3] (cf); rfl; (focus ((repeat' (first | exact passOk_nil | apply passOk_cons)) <;> (first | rfl | (refine pass_flat rfl ?_; (first | exact flat_nil | exact flat_replicate rfl | exact flat_map (fun _ => rfl) | exact flat_map Tree.co_flat | (apply flat_append <;> (first | exact flat_replicate rfl | exact flat_map (fun _ => rfl))) | assumption))))); rfl; rfl; rfl; rfl; rfl; (focus ((repeat' (first | exact rens_nil | apply rens_cons)) <;> (first | exact ren_dead | exact ren_box rfl rfl | (refine ren_flat ?_; (first | exact flat_nil | exact flat_replicate rfl | exact flat_map (fun _ => rfl) | exact flat_map Tree.co_flat | (apply flat_append <;> (first | exact flat_replicate rfl | exact flat_map (fun _ => rfl))) | assumption))))); (first | exact .inl rfl | (refine .inr ⟨rfl, ?_⟩; repeat' (first | exact True.intro | apply And.intro | exact rfl | exact plainLL_map (fun _ => rfl) _))); conv => whnf))
    all_goals first | (exfalso; omega) | skip
    all_goals exact ret_objs [3] (by decide) rfl rfl rfl ⟨obj_flat rfl (flat_map fun _ => rfl), trivial⟩
  · obtain ⟨a, b, rfl⟩ := len2 (hkl2.trans hl)
    have ha := hklen a (by simp)
    have hb := hklen b (by simp)
    rw [if_neg (by omega), if_neg (by omega), if_pos hk] at hRe
    have cf := l11Until_new g hG a b (ha.trans hn.symm) (hb.trans hn.symm) (decide (t.kind = 10))
    rw [hn, show lim false (unH g.nx (decide (t.kind = 10)) a b) n = R from by rw [hRe, decide_eq_false (by omega)]; rfl] at cf
    repeat' (first | (apply AWP.go ok; rfl; conv => whnf) | (apply ord_mk; kernel_rfl; conv => whnf) | (refine get_eq (i := 1) rfl rfl ?_; conv => whnf) | (refine get_eq (i := 0) rfl rfl ?_; conv => whnf) | (apply And.intro; (first | omega | (unfold inI; omega) | (dsimp only; omega) | (unfold bitsOk; omega) | ((try dsimp only); simp only [List.length_map, List.length_take, List.length_append, List.length_replicate, List.length_cons, List.length_nil]; omega) | (simp only [btw_iff] at *; first | omega | (unfold inI; omega) | (unfold bitsOk; omega)) | exact stor_map (fun _ => rfl) | exact ⟨rfl, stor_cons rfl stor_nil⟩ | exact ⟨rfl, stor_map (fun _ => rfl) _⟩ | exact ⟨⟨rfl, by omega⟩, stor_map (fun _ => rfl) _⟩); conv => whnf) | (with_reducible apply get_mapN; omega; intro _; conv => whnf) | (with_reducible apply get_mapI; omega; intro _; conv => whnf) | (apply get_mapN; omega; intro _; conv => whnf) | (apply get_fill; omega; conv => whnf) | (apply ex_some; conv => whnf) | (apply get_map; omega; intro _; conv => whnf) | (apply vcG_dec <;> intro _ <;> conv => whnf) | (apply vcG_ndec <;> intro _ <;> conv => whnf) | (apply vcG_not <;> intro _ <;> conv => whnf) | (apply vcG_mk <;> intro _ <;> conv => whnf) | (apply vcIf_dec <;> intro _ <;> conv => whnf) | (apply vcIf_ndec <;> intro _ <;> conv => whnf) | (apply vcIf_not <;> intro _ <;> conv => whnf) | (apply vcIf_mk <;> intro _ <;> conv => whnf) | (apply call_gen [] [] [3] (cf); rfl; (focus ((repeat' (first | exact passOk_nil | apply passOk_cons)) <;> (first | rfl | (refine pass_flat rfl ?_; (first | exact flat_nil | exact flat_replicate rfl | exact flat_map (fun _ => rfl) | exact flat_map Tree.co_flat | (apply flat_append <;> (first | exact flat_replicate rfl | exact flat_map (fun _ => rfl))) | assumption))))); rfl; rfl; rfl; rfl; rfl; (focus ((repeat' (first | exact rens_nil | apply rens_cons)) <;> (first | exact ren_dead | exact ren_box rfl rfl | (refine ren_flat ?_; (first | exact flat_nil | exact flat_replicate rfl | exact flat_map (fun _ => rfl) | exact flat_map Tree.co_flat | (apply flat_append <;> (first | exact flat_replicate rfl | exact flat_map (fun _ => rfl))) | assumption))))); (first | exact .inl rfl | (refine .inr ⟨rfl, ?_⟩; repeat' (first | exact True.intro | apply And.intro | exact rfl | exact plainLL_map (fun _ => rfl) _))); conv => whnf))
    all_goals first | (exfalso; omega) | skip
    all_goals exact ret_objs [3] (by decide) rfl rfl rfl ⟨obj_flat rfl (flat_map fun _ => rfl), trivial⟩
  · obtain ⟨a, rfl⟩ := len1 (hkl2.trans hl)
    have ha := hklen a (by simp)
    rw [if_neg (by omega), if_neg (by omega), if_neg (by omega), if_neg (by omega), if_pos hk] at hRe
    have cf := l11Always_new g hG a (ha.trans hn.symm) (decide (t.kind = 11))
    rw [hn, show lim true (alH g.nx (decide (t.kind = 11)) a) n = R from by rw [hRe, decide_eq_false (by omega)]; rfl] at cf
    repeat' (first | (apply AWP.go ok; rfl; conv => whnf) | (apply ord_mk; kernel_rfl; conv => whnf) | (refine get_eq (i := 1) rfl rfl ?_; conv => whnf) | (refine get_eq (i := 0) rfl rfl ?_; conv => whnf) | (apply And.intro; (first | omega | (unfold inI; omega) | (dsimp only; omega) | (unfold bitsOk; omega) | ((try dsimp only); simp only [List.length_map, List.length_take, List.length_append, List.length_replicate, List.length_cons, List.length_nil]; omega) | (simp only [btw_iff] at *; first | omega | (unfold inI; omega) | (unfold bitsOk; omega)) | exact stor_map (fun _ => rfl) | exact ⟨rfl, stor_cons rfl stor_nil⟩ | exact ⟨rfl, stor_map (fun _ => rfl) _⟩ | exact ⟨⟨rfl, by omega⟩, stor_map (fun _ => rfl) _⟩); conv => whnf) | (with_reducible apply get_mapN; omega; intro _; conv => whnf) | (with_reducible apply get_mapI; omega; intro _; conv => whnf) | (apply get_mapN; omega; intro _; conv => whnf) | (apply get_fill; omega; conv => whnf) | (apply ex_some; conv => whnf) | (apply get_map; omega; intro _; conv => whnf) | (apply vcG_dec <;> intro _ <;> conv => whnf) | (apply vcG_ndec <;> intro _ <;> conv => whnf) | (apply vcG_not <;> intro _ <;> conv => whnf) | (apply vcG_mk <;> intro _ <;> conv => whnf) | (apply vcIf_dec <;> intro _ <;> conv => whnf) | (apply vcIf_ndec <;> intro _ <;> conv => whnf) | (apply vcIf_not <;> intro _ <;> conv => whnf) | (apply vcIf_mk <;> intro _ <;> conv => whnf) | (apply call_gen [] [] [3] (cf); rfl; (focus ((repeat' (first | exact passOk_nil | apply passOk_cons)) <;> (first | rfl | (refine pass_flat rfl ?_; (first | exact flat_nil | exact flat_replicate rfl | exact flat_map (fun _ => rfl) | exact flat_map Tree.co_flat | (apply flat_append <;> (first | exact flat_replicate rfl | exact flat_map (fun _ => rfl))) | assumption))))); rfl; rfl; rfl; rfl; rfl; (focus ((repeat' (first | exact rens_nil | apply rens_cons)) <;> (first | exact ren_dead | exact ren_box rfl rfl | (refine ren_flat ?_; (first | exact flat_nil | exact flat_replicate rfl | exact flat_map (fun _ => rfl) | exact flat_map Tree.co_flat | (apply flat_append <;> (first | exact flat_replicate rfl | exact flat_map (fun _ => rfl))) | assumption))))); (first | exact .inl rfl | (refine .inr ⟨rfl, ?_⟩; repeat' (first | exact True.intro | apply And.intro | exact rfl | exact plainLL_map (fun _ => rfl) _))); conv => whnf))
    all_goals first | (exfalso; omega) | skip
    all_goals exact ret_objs [3] (by decide) rfl rfl rfl ⟨obj_flat rfl (flat_map fun _ => rfl), trivial⟩
  · obtain ⟨a, rfl⟩ := len1 (hkl2.trans hl)
    have ha := hklen a (by simp)
    rw [if_neg (by omega), if_pos hk] at hRe
    have cf := l11Next_new g hG a (ha.trans hn.symm) (decide (t.kind = 9))
    rw [hn, show nxL g.nx (decide (t.kind = 9)) n a = R from by rw [hRe, decide_eq_true hk]; rfl] at cf
    repeat' (first | (apply AWP.go ok; rfl; conv => whnf) | (apply ord_mk; kernel_rfl; conv => whnf) | (refine get_eq (i := 1) rfl rfl ?_; conv => whnf) | (refine get_eq (i := 0) rfl rfl ?_; conv => whnf) | (apply And.intro; (first | omega | (unfold inI; omega) | (dsimp only; omega) | (unfold bitsOk; omega) | ((try dsimp only); simp only [List.length_map, List.length_take, List.length_append, List.length_replicate, List.length_cons, List.length_nil]; omega) | (simp only [btw_iff] at *; first | omega | (unfold inI; omega) | (unfold bitsOk; omega)) | exact stor_map (fun _ => rfl) | exact ⟨rfl, stor_cons rfl stor_nil⟩ | exact ⟨rfl, stor_map (fun _ => rfl) _⟩ | exact ⟨⟨rfl, by omega⟩, stor_map (fun _ => rfl) _⟩); conv => whnf) | (with_reducible apply get_mapN; omega; intro _; conv => whnf) | (with_reducible apply get_mapI; omega; intro _; conv => whnf) | (apply get_mapN; omega; intro _; conv => whnf) | (apply get_fill; omega; conv => whnf) | (apply ex_some; conv => whnf) | (apply get_map; omega; intro _; conv => whnf) | (apply vcG_dec <;> intro _ <;> conv => whnf) | (apply vcG_ndec <;> intro _ <;> conv => whnf) | (apply vcG_not <;> intro _ <;> conv => whnf) | (apply vcG_mk <;> intro _ <;> conv => whnf) | (apply vcIf_dec <;> intro _ <;> conv => whnf) | (apply vcIf_ndec <;> intro _ <;> conv => whnf) | (apply vcIf_not <;> intro _ <;> conv => whnf) | (apply vcIf_mk <;> intro _ <;> conv => whnf) | (apply call_gen [] [] [3] (cf); rfl; (focus ((repeat' (first | exact passOk_nil | apply passOk_cons)) <;> (first | rfl | (refine pass_flat rfl ?_; (first | exact flat_nil | exact flat_replicate rfl | exact flat_map (fun _ => rfl) | exact flat_map Tree.co_flat | (apply flat_append <;> (first | exact flat_replicate rfl | exact flat_map (fun _ => rfl))) | assumption))))); rfl; rfl; rfl; rfl; rfl; (focus ((repeat' (first | exact rens_nil | apply rens_cons)) <;> (first | exact ren_dead | exact ren_box rfl rfl | (refine ren_flat ?_; (first | exact flat_nil | exact flat_replicate rfl | exact flat_map (fun _ => rfl) | exact flat_map Tree.co_flat | (apply flat_append <;> (first | exact flat_replicate rfl | exact flat_map (fun _ => rfl))) | assumption))))); (first | exact .inl rfl | (refine .inr ⟨rfl, ?_⟩; repeat' (first | exact True.intro | apply And.intro | exact rfl | exact plainLL_map (fun _ => rfl) _))); conv => whnf))
    all_goals first | (exfalso; omega) | skip
    all_goals exact ret_objs [3] (by decide) rfl rfl rfl ⟨obj_flat rfl (flat_map fun _ => rfl), trivial⟩
  · obtain ⟨a, b, rfl⟩ := len2 (hkl2.trans hl)
    have ha := hklen a (by simp)
    have hb := hklen b (by simp)
    rw [if_neg (by omega), if_neg (by omega), if_neg (by omega), if_pos hk] at hRe
    have cf := l11Until_new g hG a b (ha.trans hn.symm) (hb.trans hn.symm) (decide (t.kind = 10))
    rw [hn, show lim false (unH g.nx (decide (t.kind = 10)) a b) n = R from by rw [hRe, decide_eq_true hk]; rfl] at cf
    repeat' (first | (apply AWP.go ok; rfl; conv => whnf) | (apply ord_mk; kernel_rfl; conv => whnf) | (refine get_eq (i := 1) rfl rfl ?_; conv => whnf) | (refine get_eq (i := 0) rfl rfl ?_; conv => whnf) | (apply And.intro; (first | omega | (unfold inI; omega) | (dsimp only; omega) | (unfold bitsOk; omega) | ((try dsimp only); simp only [List.length_map, List.length_take, List.length_append, List.length_replicate, List.length_cons, List.length_nil]; omega) | (simp only [btw_iff] at *; first | omega | (unfold inI; omega) | (unfold bitsOk; omega)) | exact stor_map (fun _ => rfl) | exact ⟨rfl, stor_cons rfl stor_nil⟩ | exact ⟨rfl, stor_map (fun _ => rfl) _⟩ | exact ⟨⟨rfl, by omega⟩, stor_map (fun _ => rfl) _⟩); conv => whnf) | (with_reducible apply get_mapN; omega; intro _; conv => whnf) | (with_reducible apply get_mapI; omega; intro _; conv => whnf) | (apply get_mapN; omega; intro _; conv => whnf) | (apply get_fill; omega; conv => whnf) | (apply ex_some; conv => whnf) | (apply get_map; omega; intro _; conv => whnf) | (apply vcG_dec <;> intro _ <;> conv => whnf) | (apply vcG_ndec <;> intro _ <;> conv => whnf) | (apply vcG_not <;> intro _ <;> conv => whnf) | (apply vcG_mk <;> intro _ <;> conv => whnf) | (apply vcIf_dec <;> intro _ <;> conv => whnf) | (apply vcIf_ndec <;> intro _ <;> conv => whnf) | (apply vcIf_not <;> intro _ <;> conv => whnf) | (apply vcIf_mk <;> intro _ <;> conv => whnf) | (apply call_gen [] [] [3] (cf); rfl; (focus ((repeat' (first | exact passOk_nil | apply passOk_cons)) <;> (first | rfl | (refine pass_flat rfl ?_; (first | exact flat_nil | exact flat_replicate rfl | exact flat_map (fun _ => rfl) | exact flat_map Tree.co_flat | (apply flat_append <;> (first | exact flat_replicate rfl | exact flat_map (fun _ => rfl))) | assumption))))); rfl; rfl; rfl; rfl; rfl; (focus ((repeat' (first | exact rens_nil | apply rens_cons)) <;> (first | exact ren_dead | exact ren_box rfl rfl | (refine ren_flat ?_; (first | exact flat_nil | exact flat_replicate rfl | exact flat_map (fun _ => rfl) | exact flat_map Tree.co_flat | (apply flat_append <;> (first | exact flat_replicate rfl | exact flat_map (fun _ => rfl))) | assumption))))); (first | exact .inl rfl | (refine .inr ⟨rfl, ?_⟩; repeat' (first | exact True.intro | apply And.intro | exact rfl | exact plainLL_map (fun _ => rfl) _))); conv => whnf))
    all_goals first | (exfalso; omega) | skip
    all_goals exact ret_objs [3] (by decide) rfl rfl rfl ⟨obj_flat rfl (flat_map fun _ => rfl), trivial⟩
  · obtain ⟨a, rfl⟩ := len1 (hkl2.trans hl)
    have ha := hklen a (by simp)
    rw [if_neg (by omega), if_neg (by omega), if_neg (by omega), if_neg (by omega), if_neg (by omega), if_pos hk] at hRe
    have cf := l11Always_new g hG a (ha.trans hn.symm) (decide (t.kind = 11))
    rw [hn, show lim true (alH g.nx (decide (t.kind = 11)) a) n = R from by rw [hRe, decide_eq_true hk]; rfl] at cf
    repeat' (first | (apply AWP.go ok; rfl; conv => whnf) | (apply ord_mk; kernel_rfl; conv => whnf) | (refine get_eq (i := 1) rfl rfl ?_; conv => whnf) | (refine get_eq (i := 0) rfl rfl ?_; conv => whnf) | (apply And.intro; (first | omega | (unfold inI; omega) | (dsimp only; omega) | (unfold bitsOk; omega) | ((try dsimp only); simp only [List.length_map, List.length_take, List.length_append, List.length_replicate, List.length_cons, List.length_nil]; omega) | (simp only [btw_iff] at *; first | omega | (unfold inI; omega) | (unfold bitsOk; omega)) | exact stor_map (fun _ => rfl) | exact ⟨rfl, stor_cons rfl stor_nil⟩ | exact ⟨rfl, stor_map (fun _ => rfl) _⟩ | exact ⟨⟨rfl, by omega⟩, stor_map (fun _ => rfl) _⟩); conv => whnf) | (with_reducible apply get_mapN; omega; intro _; conv => whnf) | (with_reducible apply get_mapI; omega; intro _; conv => whnf) | (apply get_mapN; omega; intro _; conv => whnf) | (apply get_fill; omega; conv => whnf) | (apply ex_some; conv => whnf) | (apply get_map; omega; intro _; conv => whnf) | (apply vcG_dec <;> intro _ <;> conv => whnf) | (apply vcG_ndec <;> intro _ <;> conv => whnf) | (apply vcG_not <;> intro _ <;> conv => whnf) | (apply vcG_mk <;> intro _ <;> conv => whnf) | (apply vcIf_dec <;> intro _ <;> conv => whnf) | (apply vcIf_ndec <;> intro _ <;> conv => whnf) | (apply vcIf_not <;> intro _ <;> conv => whnf) | (apply vcIf_mk <;> intro _ <;> conv => whnf) | (apply call_gen [] [] [3] (cf); rfl; (focus ((repeat' (first | exact passOk_nil | apply passOk_cons)) <;> (first | rfl | (refine pass_flat rfl ?_; (first | exact flat_nil | exact flat_replicate rfl | exact flat_map (fun _ => rfl) | exact flat_map Tree.co_flat | (apply flat_append <;> (first | exact flat_replicate rfl | exact flat_map (fun _ => rfl))) | assumption))))); rfl; rfl; rfl; rfl; rfl; (focus ((repeat' (first | exact rens_nil | apply rens_cons)) <;> (first | exact ren_dead | exact ren_box rfl rfl | (refine ren_flat ?_; (first | exact flat_nil | exact flat_replicate rfl | exact flat_map (fun _ => rfl) | exact flat_map Tree.co_flat | (apply flat_append <;> (first | exact flat_replicate rfl | exact flat_map (fun _ => rfl))) | assumption))))); (first | exact .inl rfl | (refine .inr ⟨rfl, ?_⟩; repeat' (first | exact True.intro | apply And.intro | exact rfl | exact plainLL_map (fun _ => rfl) _))); conv => whnf))
    all_goals first | (exfalso; omega) | skip
    all_goals exact ret_objs [3] (by decide) rfl rfl rfl ⟨obj_flat rfl (flat_map fun _ => rfl), trivial⟩
end Go.Proofs.YtcannajfdnipkaaGreat

namespace Go.Proofs.YtcannajfdnipkaaGreat
open Go.Gl
attribute [local irreducible] vcCall AWP RetOk Again ordOk

theorem ltr_ltB (v : List Int) : ∀ (l : List Tree) (k n : Nat), n < 2 ^ k → ltr v l k n < 2 ^ (k + l.length) := by
  intro l
  induction l with
  | nil => intro k n h; simpa [ltr] using h
  | cons t l ih =>
    intro k n h
    rw [ltr]
    have e : k + (t :: l).length = k + 1 + l.length := by simp only [List.length_cons]; omega
    rw [e]
    refine ih (k + 1) _ ?_
    split
    · rw [Nat.pow_succ]; omega
    · exact or_lt h
theorem letter_rangeB {l : List Tree} (hl : LabelsOk l) (s : State) : 0 ≤ letterZ l s ∧ letterZ l s ≤ 7 := by
  have := ltr_ltB s.b l 0 0 (by decide)
  rw [hl.1] at this
  unfold letterZ
  have e : (2 : Nat) ^ (0 + 3) = 8 := by decide
  omega

noncomputable def brL (g : Graph) (l : List Tree) (t : Tree) : List Bool := if (glB g l && t.brB) = true then t.satB g.nx g.st.length (g.st.map (letterZ l)) else []
theorem brL_le (g : Graph) (l : List Tree) (t : Tree) : (brL g l t).length ≤ 60 := by
  unfold brL
  split
  · rename_i h
    have h1 := (Bool.and_eq_true_iff.1 h).1
    have hG := (graphB_iff g).1 (by unfold glB at h1; exact (Bool.and_eq_true_iff.1 h1).1)
    rw [Tree.satB_len hG.inN]; exact hG.1.2
  · simp
theorem br_shape {t : Tree} (h : t.brB = true) : t.shapeB 6 = true := by
  rw [Tree.brB_eq, Bool.and_eq_true] at h; exact h.1

theorem implBranching_new (g : Graph) (hg : g.mx) (l : List Tree) (hl : Lmx l) (t : Tree) (ht : t.mx) : CallsA Tryz.prog 24 [.agg g.cs, lst 3 Tree.cs' l, argAgg Tree.cs' t] [] (.tup [.sref 0 0 (brL g l t).length, .bool (glB g l && t.brB)]) [.cells 1 ((brL g l t).map enB)] := by
  have k1 := graphValid_ok g hg
  have k2 := labelsValid_ok l hl.1 hl.2
  have k3 := implBrValid_ok t ht
  by_cases hgl : (glB g l && t.brB) = true
  · obtain ⟨h1, hab⟩ := Bool.and_eq_true_iff.1 hgl
    have h2 := h1
    unfold glB at h2
    obtain ⟨hgb, hlb⟩ := Bool.and_eq_true_iff.1 h2
    have hG := (graphB_iff g).1 hgb
    have hL := LabelsOk.of hlb
    have k4 := label_ok g hG.vals hG.1.2 l hL
    have hLr : ∀ x ∈ g.st.map (letterZ l), 0 ≤ x ∧ x ≤ 7 := fun x hx => by
      obtain ⟨s, _, rfl⟩ := List.mem_map.1 hx
      exact letter_rangeB hL s
    have k5 := satisfy_new g hG (g.st.map (letterZ l)) (by simp) hLr t 6 (br_shape hab)
    have e : brL g l t = t.satB g.nx g.st.length (g.st.map (letterZ l)) := by unfold brL; rw [if_pos hgl]
    rw [← e] at k5
    have hlen : (brL g l t).length = g.st.length := by rw [e]; exact Tree.satB_len hG.inN _ _
    rw [← hlen] at k5
    generalize g.st.map (letterZ l) = L at *
    generalize brL g l t = R at *
    rw [hgb] at k1
    rw [hlb] at k2
    rw [hab] at k3
    rw [hgl]
    rw [Tree.arg_eq] at k3 k5 ⊢
    refine callsA_of tabOk Tryz.func24 rfl rfl 27 Tryz.ntmps24 (by simp) ?_
    repeat' (first | (apply AWP.go ok; rfl; conv => whnf) | (apply ord_mk; kernel_rfl; conv => whnf) | (apply And.intro; (first | omega | (unfold inI; omega) | (dsimp only; omega) | (unfold bitsOk; omega) | ((try dsimp only); simp only [List.length_map, List.length_take, List.length_append, List.length_replicate, List.length_cons, List.length_nil]; omega) | (simp only [btw_iff] at *; first | omega | (unfold inI; omega) | (unfold bitsOk; omega)) | exact stor_map (fun _ => rfl) | exact ⟨rfl, stor_cons rfl stor_nil⟩ | exact ⟨rfl, stor_map (fun _ => rfl) _⟩ | exact ⟨⟨rfl, by omega⟩, stor_map (fun _ => rfl) _⟩); conv => whnf) | (with_reducible apply get_mapN; omega; intro _; conv => whnf) | (with_reducible apply get_mapI; omega; intro _; conv => whnf) | (apply get_mapN; omega; intro _; conv => whnf) | (apply get_fill; omega; conv => whnf) | (apply ex_some; conv => whnf) | (apply get_map; omega; intro _; conv => whnf) | (apply vcG_dec <;> intro _ <;> conv => whnf) | (apply vcG_ndec <;> intro _ <;> conv => whnf) | (apply vcG_not <;> intro _ <;> conv => whnf) | (apply vcG_mk <;> intro _ <;> conv => whnf) | (apply vcIf_dec <;> intro _ <;> conv => whnf) | (apply vcIf_ndec <;> intro _ <;> conv => whnf) | (apply vcIf_not <;> intro _ <;> conv => whnf) | (apply vcIf_mk <;> intro _ <;> conv => whnf) | (apply call_data (k1); rfl; rfl; conv => whnf) | (apply call_data (k2); rfl; rfl; conv => whnf) | (apply call_data (k3); rfl; rfl; conv => whnf) | (apply call_data (k4); rfl; rfl; conv => whnf) | (apply call_gen [] [] [2] (k5); rfl; (focus ((repeat' (first | exact passOk_nil | apply passOk_cons)) <;> (first | rfl | (refine pass_flat rfl ?_; (first | exact flat_nil | exact flat_replicate rfl | exact flat_map (fun _ => rfl) | exact flat_map Tree.co_flat | (apply flat_append <;> (first | exact flat_replicate rfl | exact flat_map (fun _ => rfl))) | assumption))))); rfl; rfl; rfl; rfl; rfl; (focus ((repeat' (first | exact rens_nil | apply rens_cons)) <;> (first | exact ren_dead | exact ren_box rfl rfl | (refine ren_flat ?_; (first | exact flat_nil | exact flat_replicate rfl | exact flat_map (fun _ => rfl) | exact flat_map Tree.co_flat | (apply flat_append <;> (first | exact flat_replicate rfl | exact flat_map (fun _ => rfl))) | assumption))))); (first | exact .inl rfl | (refine .inr ⟨rfl, ?_⟩; repeat' (first | exact True.intro | apply And.intro | exact rfl | exact plainLL_map (fun _ => rfl) _))); conv => whnf))
    all_goals first | (exfalso; omega) | (exfalso; simp_all; done) | skip
    all_goals exact ret_objs [2] (by decide) rfl rfl rfl ⟨obj_flat rfl (flat_map fun _ => rfl), trivial⟩
  · have e : brL g l t = [] := by unfold brL; rw [if_neg hgl]
    have hgl := (Bool.not_eq_true _).mp hgl
    have hgl2 := hgl
    rw [e, hgl]
    unfold glB at hgl2
    refine CallsA.nils (res := .tup [.nils, .bool false]) ?_ (by simp) (tup_sref nil_sref)
    rw [Tree.arg_eq] at k3 ⊢
    generalize graphB g = b1 at *
    generalize labelsB l = b2 at *
    generalize t.brB = b3 at *
    refine callsA_of tabOk Tryz.func24 rfl rfl 27 Tryz.ntmps24 (by simp) ?_
    cases b1 <;> cases b2 <;> cases b3 <;> first | (exfalso; revert hgl2; decide) | skip
    all_goals
      repeat' (first | (apply AWP.go ok; rfl; conv => whnf) | (apply ord_mk; kernel_rfl; conv => whnf) | (apply And.intro; (first | omega | (unfold inI; omega) | (dsimp only; omega) | (unfold bitsOk; omega) | ((try dsimp only); simp only [List.length_map, List.length_take, List.length_append, List.length_replicate, List.length_cons, List.length_nil]; omega) | (simp only [btw_iff] at *; first | omega | (unfold inI; omega) | (unfold bitsOk; omega)) | exact stor_map (fun _ => rfl) | exact ⟨rfl, stor_cons rfl stor_nil⟩ | exact ⟨rfl, stor_map (fun _ => rfl) _⟩ | exact ⟨⟨rfl, by omega⟩, stor_map (fun _ => rfl) _⟩); conv => whnf) | (with_reducible apply get_mapN; omega; intro _; conv => whnf) | (with_reducible apply get_mapI; omega; intro _; conv => whnf) | (apply get_mapN; omega; intro _; conv => whnf) | (apply get_fill; omega; conv => whnf) | (apply ex_some; conv => whnf) | (apply get_map; omega; intro _; conv => whnf) | (apply vcG_dec <;> intro _ <;> conv => whnf) | (apply vcG_ndec <;> intro _ <;> conv => whnf) | (apply vcG_not <;> intro _ <;> conv => whnf) | (apply vcG_mk <;> intro _ <;> conv => whnf) | (apply vcIf_dec <;> intro _ <;> conv => whnf) | (apply vcIf_ndec <;> intro _ <;> conv => whnf) | (apply vcIf_not <;> intro _ <;> conv => whnf) | (apply vcIf_mk <;> intro _ <;> conv => whnf) | (apply call_data (k1); rfl; rfl; conv => whnf) | (apply call_data (k2); rfl; rfl; conv => whnf) | (apply call_data (k3); rfl; rfl; conv => whnf))
      all_goals first | exact ret_data rfl rfl rfl | (exfalso; simp_all; done)

theorem specBranching_ok (g : Graph) (hg : g.mx) (l : List Tree) (hl : Lmx l) (t : Tree) (ht : t.mx) : CallsA Tryz.prog 19 [.agg g.cs, lst 3 Tree.cs' l, argAgg Tree.cs' t] [] (.tup [lst 1 enB (brL g l t), .bool (glB g l && t.brB)]) [] := by
  have k0 := specLabelGraph_ok g hg l hl
  have k1 := specBrValid_ok t ht
  by_cases hgl : (glB g l && t.brB) = true
  · obtain ⟨h1, hab⟩ := Bool.and_eq_true_iff.1 hgl
    have h2 := h1
    unfold glB at h2
    obtain ⟨hgb, hlb⟩ := Bool.and_eq_true_iff.1 h2
    have hG := (graphB_iff g).1 hgb
    have hL := LabelsOk.of hlb
    have hLr : ∀ x ∈ g.st.map (letterZ l), 0 ≤ x ∧ x ≤ 7 := fun x hx => by
      obtain ⟨s, _, rfl⟩ := List.mem_map.1 hx
      exact letter_rangeB hL s
    have k5 := l11States_new g hG (g.st.map (letterZ l)) (by simp) hLr t 6 (br_shape hab)
    have e : brL g l t = t.satB g.nx g.st.length (g.st.map (letterZ l)) := by unfold brL; rw [if_pos hgl]
    rw [← e] at k5
    have hlen : (brL g l t).length = g.st.length := by rw [e]; exact Tree.satB_len hG.inN _ _
    have k5 := keepBL k5 hlen
    rw [if_pos h1, h1] at k0
    rw [hab] at k1
    rw [hgl]
    generalize g.st.map (letterZ l) = L at *
    generalize brL g l t = R at *
    rw [Tree.arg_eq] at k1 k5 ⊢
    refine callsA_of tabOk Tryz.func19 rfl rfl 28 Tryz.ntmps19 (by simp) ?_
    repeat' (first | (apply AWP.go ok; rfl; conv => whnf) | (apply ord_mk; kernel_rfl; conv => whnf) | (apply And.intro; (first | omega | (unfold inI; omega) | (dsimp only; omega) | (unfold bitsOk; omega) | ((try dsimp only); simp only [List.length_map, List.length_take, List.length_append, List.length_replicate, List.length_cons, List.length_nil]; omega) | (simp only [btw_iff] at *; first | omega | (unfold inI; omega) | (unfold bitsOk; omega)) | exact stor_map (fun _ => rfl) | exact ⟨rfl, stor_cons rfl stor_nil⟩ | exact ⟨rfl, stor_map (fun _ => rfl) _⟩ | exact ⟨⟨rfl, by omega⟩, stor_map (fun _ => rfl) _⟩); conv => whnf) | (with_reducible apply get_mapN; omega; intro _; conv => whnf) | (with_reducible apply get_mapI; omega; intro _; conv => whnf) | (apply get_mapN; omega; intro _; conv => whnf) | (apply get_fill; omega; conv => whnf) | (apply ex_some; conv => whnf) | (apply get_map; omega; intro _; conv => whnf) | (apply vcG_dec <;> intro _ <;> conv => whnf) | (apply vcG_ndec <;> intro _ <;> conv => whnf) | (apply vcG_not <;> intro _ <;> conv => whnf) | (apply vcG_mk <;> intro _ <;> conv => whnf) | (apply vcIf_dec <;> intro _ <;> conv => whnf) | (apply vcIf_ndec <;> intro _ <;> conv => whnf) | (apply vcIf_not <;> intro _ <;> conv => whnf) | (apply vcIf_mk <;> intro _ <;> conv => whnf) | (apply call_data (k0); rfl; rfl; conv => whnf) | (apply call_data (k1); rfl; rfl; conv => whnf) | (apply call_data (k5); rfl; rfl; conv => whnf))
    all_goals first | (exfalso; omega) | (exfalso; simp_all; done) | skip
    all_goals exact ret_data rfl rfl rfl
  · have e : brL g l t = [] := by unfold brL; rw [if_neg hgl]
    have hgl := (Bool.not_eq_true _).mp hgl
    have hgl2 := hgl
    rw [e, hgl]
    generalize glB g l = b1 at *
    generalize t.brB = b3 at *
    rw [Tree.arg_eq] at k1 ⊢
    refine callsA_of tabOk Tryz.func19 rfl rfl 28 Tryz.ntmps19 (by simp) ?_
    cases b1 <;> cases b3 <;> first | (exfalso; revert hgl2; decide) | skip
    all_goals
      repeat' (first | (apply AWP.go ok; rfl; conv => whnf) | (apply ord_mk; kernel_rfl; conv => whnf) | (apply And.intro; (first | omega | (unfold inI; omega) | (dsimp only; omega) | (unfold bitsOk; omega) | ((try dsimp only); simp only [List.length_map, List.length_take, List.length_append, List.length_replicate, List.length_cons, List.length_nil]; omega) | (simp only [btw_iff] at *; first | omega | (unfold inI; omega) | (unfold bitsOk; omega)) | exact stor_map (fun _ => rfl) | exact ⟨rfl, stor_cons rfl stor_nil⟩ | exact ⟨rfl, stor_map (fun _ => rfl) _⟩ | exact ⟨⟨rfl, by omega⟩, stor_map (fun _ => rfl) _⟩); conv => whnf) | (with_reducible apply get_mapN; omega; intro _; conv => whnf) | (with_reducible apply get_mapI; omega; intro _; conv => whnf) | (apply get_mapN; omega; intro _; conv => whnf) | (apply get_fill; omega; conv => whnf) | (apply ex_some; conv => whnf) | (apply get_map; omega; intro _; conv => whnf) | (apply vcG_dec <;> intro _ <;> conv => whnf) | (apply vcG_ndec <;> intro _ <;> conv => whnf) | (apply vcG_not <;> intro _ <;> conv => whnf) | (apply vcG_mk <;> intro _ <;> conv => whnf) | (apply vcIf_dec <;> intro _ <;> conv => whnf) | (apply vcIf_ndec <;> intro _ <;> conv => whnf) | (apply vcIf_not <;> intro _ <;> conv => whnf) | (apply vcIf_mk <;> intro _ <;> conv => whnf) | (apply call_data (k0); rfl; rfl; conv => whnf) | (apply call_data (k1); rfl; rfl; conv => whnf))
      all_goals first | exact ret_le rfl rfl (tup_le2 sref_le) | (exfalso; simp_all; done) | skip
end Go.Proofs.YtcannajfdnipkaaGreat

namespace Go.Proofs.YtcannajfdnipkaaGreat
open Go.Gl
attribute [local irreducible] vcCall AWP RetOk Again ordOk

structure BrOk (t : Tree) : Prop where
  mx : t.mx
  sz : t.sz ≤ 1048576
theorem BrOk.of {t : Tree} (h : t.mx) (h1 : t.sz ≤ 1048576) : BrOk t := ⟨h, h1⟩
theorem szBrT (t : Tree) (h : t.mx) (n : Int) (h0 : 0 ≤ n) (h1 : n ≤ 1048576) : CallsA Tryz.prog 6 [argAgg Tree.cs' t, .int n] [] (.int (bud n t.sz)) [] := szBr_ok t h n h0 h1
theorem toBrS {t : Tree} (h : BrOk t) : CallsA Tryz.prog 10 [argAgg Tree.cs' t] [] (argAgg Tree.cs' t) [] := toBr_ok t h.sz
theorem eqBrT {t : Tree} (h : BrOk t) : CallsA Tryz.prog 14 [argAgg Tree.cs' t, argAgg Tree.cs' t] [] (.bool true) [] := by
  have := eqBr_ok t h.mx t h.mx
  rwa [decide_eq_true rfl] at this
theorem od_br : OpensD Tryz.prog 29 Tree.cs' Tree.mx :=
  tree_ok (tI := 3) (tS := 27) Tryz.underlying29 rfl rfl rfl Tryz.underlying3 Tryz.underlying27 (by kernel_rfl) (by kernel_rfl) (by kernel_rfl) rfl rfl rfl
theorem ad_branch : ArgD Tryz.prog 29 (argAgg Tree.cs') Tree.mx := argD_struct Tryz.underlying29 od_br
end Go.Proofs.YtcannajfdnipkaaGreat

namespace Go.Proofs.YtcannajfdnipkaaGreat
open Go.Gl
attribute [local irreducible] vcCall AWP RetOk Again ordOk

noncomputable def cbZ (g : Graph) (l : List Tree) (t : Tree) : Int := if (glB g l && t.brB) = true then (if gB (brL g l t) 0 then 0 else 1) else 3
theorem brL_pos {g : Graph} {l : List Tree} {t : Tree} (h : (glB g l && t.brB) = true) : 0 < (brL g l t).length := by
  have h1 := (Bool.and_eq_true_iff.1 h).1
  have hG := (graphB_iff g).1 (by unfold glB at h1; exact (Bool.and_eq_true_iff.1 h1).1)
  unfold brL
  rw [if_pos h, Tree.satB_len hG.inN]
  exact hG.1.1
theorem implCheckBr_ok (g : Graph) (hg : g.mx) (l : List Tree) (hl : Lmx l) (t : Tree) (ht : t.mx) : CallsA Tryz.prog 11 [.agg g.cs, lst 3 Tree.cs' l, argAgg Tree.cs' t] [] (.int (cbZ g l t)) [] := by
  have k := keepB (implBranching_new g hg l hl t ht) rfl rfl
  by_cases h : (glB g l && t.brB) = true
  · have g1 := map_gB (S := brL g l t) (i := 0) (brL_pos h)
    have e : cbZ g l t = if gB (brL g l t) 0 then 0 else 1 := by unfold cbZ; rw [if_pos h]
    rw [h] at k
    rw [e]
    generalize gB (brL g l t) 0 = p at *
    generalize brL g l t = R at *
    rw [Tree.arg_eq] at k ⊢
    refine callsA_of tabOk Tryz.func11 rfl rfl 23 Tryz.ntmps11 (by simp) ?_
    cases p
    all_goals
      repeat' (first | (apply AWP.go ok; rfl; conv => whnf) | (apply ord_mk; kernel_rfl; conv => whnf) | (refine get_eq (i := 0) rfl g1 ?_; conv => whnf) | (apply And.intro; (first | omega | (unfold inI; omega) | (dsimp only; omega) | (unfold bitsOk; omega) | ((try dsimp only); simp only [List.length_map, List.length_take, List.length_append, List.length_replicate, List.length_cons, List.length_nil]; omega) | (simp only [btw_iff] at *; first | omega | (unfold inI; omega) | (unfold bitsOk; omega)) | exact stor_map (fun _ => rfl) | exact ⟨rfl, stor_cons rfl stor_nil⟩ | exact ⟨rfl, stor_map (fun _ => rfl) _⟩ | exact ⟨⟨rfl, by omega⟩, stor_map (fun _ => rfl) _⟩); conv => whnf) | (with_reducible apply get_mapN; omega; intro _; conv => whnf) | (with_reducible apply get_mapI; omega; intro _; conv => whnf) | (apply get_mapN; omega; intro _; conv => whnf) | (apply get_fill; omega; conv => whnf) | (apply ex_some; conv => whnf) | (apply get_map; omega; intro _; conv => whnf) | (apply vcG_dec <;> intro _ <;> conv => whnf) | (apply vcG_ndec <;> intro _ <;> conv => whnf) | (apply vcG_not <;> intro _ <;> conv => whnf) | (apply vcG_mk <;> intro _ <;> conv => whnf) | (apply vcIf_dec <;> intro _ <;> conv => whnf) | (apply vcIf_ndec <;> intro _ <;> conv => whnf) | (apply vcIf_not <;> intro _ <;> conv => whnf) | (apply vcIf_mk <;> intro _ <;> conv => whnf) | (apply call_data (k); rfl; rfl; conv => whnf))
      all_goals first | (exfalso; omega) | exact ret_data rfl rfl rfl | (exfalso; simp_all; done)
  · have e : cbZ g l t = 3 := by unfold cbZ; rw [if_neg h]
    rw [(Bool.not_eq_true _).mp h] at k
    rw [e]
    generalize brL g l t = R at *
    rw [Tree.arg_eq] at k ⊢
    refine callsA_of tabOk Tryz.func11 rfl rfl 23 Tryz.ntmps11 (by simp) ?_
    repeat' (first | (apply AWP.go ok; rfl; conv => whnf) | (apply ord_mk; kernel_rfl; conv => whnf) | (apply And.intro; (first | omega | (unfold inI; omega) | (dsimp only; omega) | (unfold bitsOk; omega) | ((try dsimp only); simp only [List.length_map, List.length_take, List.length_append, List.length_replicate, List.length_cons, List.length_nil]; omega) | (simp only [btw_iff] at *; first | omega | (unfold inI; omega) | (unfold bitsOk; omega)) | exact stor_map (fun _ => rfl) | exact ⟨rfl, stor_cons rfl stor_nil⟩ | exact ⟨rfl, stor_map (fun _ => rfl) _⟩ | exact ⟨⟨rfl, by omega⟩, stor_map (fun _ => rfl) _⟩); conv => whnf) | (with_reducible apply get_mapN; omega; intro _; conv => whnf) | (with_reducible apply get_mapI; omega; intro _; conv => whnf) | (apply get_mapN; omega; intro _; conv => whnf) | (apply get_fill; omega; conv => whnf) | (apply ex_some; conv => whnf) | (apply get_map; omega; intro _; conv => whnf) | (apply vcG_dec <;> intro _ <;> conv => whnf) | (apply vcG_ndec <;> intro _ <;> conv => whnf) | (apply vcG_not <;> intro _ <;> conv => whnf) | (apply vcG_mk <;> intro _ <;> conv => whnf) | (apply vcIf_dec <;> intro _ <;> conv => whnf) | (apply vcIf_ndec <;> intro _ <;> conv => whnf) | (apply vcIf_not <;> intro _ <;> conv => whnf) | (apply vcIf_mk <;> intro _ <;> conv => whnf) | (apply call_data (k); rfl; rfl; conv => whnf))
    all_goals first | (exfalso; omega) | exact ret_data rfl rfl rfl | (exfalso; simp_all; done)
theorem specCheckBr_ok (g : Graph) (hg : g.mx) (l : List Tree) (hl : Lmx l) (t : Tree) (ht : t.mx) : CallsA Tryz.prog 7 [.agg g.cs, lst 3 Tree.cs' l, argAgg Tree.cs' t] [] (.int (cbZ g l t)) [] := by
  have k := specBranching_ok g hg l hl t ht
  by_cases h : (glB g l && t.brB) = true
  · have g1 := map_gB (S := brL g l t) (i := 0) (brL_pos h)
    have e : cbZ g l t = if gB (brL g l t) 0 then 0 else 1 := by unfold cbZ; rw [if_pos h]
    rw [h] at k
    rw [e]
    generalize gB (brL g l t) 0 = p at *
    generalize brL g l t = R at *
    rw [Tree.arg_eq] at k ⊢
    refine callsA_of tabOk Tryz.func7 rfl rfl 21 Tryz.ntmps7 (by simp) ?_
    cases p
    all_goals
      repeat' (first | (apply AWP.go ok; rfl; conv => whnf) | (apply ord_mk; kernel_rfl; conv => whnf) | (refine get_eq (i := 0) rfl g1 ?_; conv => whnf) | (apply And.intro; (first | omega | (unfold inI; omega) | (dsimp only; omega) | (unfold bitsOk; omega) | ((try dsimp only); simp only [List.length_map, List.length_take, List.length_append, List.length_replicate, List.length_cons, List.length_nil]; omega) | (simp only [btw_iff] at *; first | omega | (unfold inI; omega) | (unfold bitsOk; omega)) | exact stor_map (fun _ => rfl) | exact ⟨rfl, stor_cons rfl stor_nil⟩ | exact ⟨rfl, stor_map (fun _ => rfl) _⟩ | exact ⟨⟨rfl, by omega⟩, stor_map (fun _ => rfl) _⟩); conv => whnf) | (with_reducible apply get_mapN; omega; intro _; conv => whnf) | (with_reducible apply get_mapI; omega; intro _; conv => whnf) | (apply get_mapN; omega; intro _; conv => whnf) | (apply get_fill; omega; conv => whnf) | (apply ex_some; conv => whnf) | (apply get_map; omega; intro _; conv => whnf) | (apply vcG_dec <;> intro _ <;> conv => whnf) | (apply vcG_ndec <;> intro _ <;> conv => whnf) | (apply vcG_not <;> intro _ <;> conv => whnf) | (apply vcG_mk <;> intro _ <;> conv => whnf) | (apply vcIf_dec <;> intro _ <;> conv => whnf) | (apply vcIf_ndec <;> intro _ <;> conv => whnf) | (apply vcIf_not <;> intro _ <;> conv => whnf) | (apply vcIf_mk <;> intro _ <;> conv => whnf) | (apply call_data (k); rfl; rfl; conv => whnf))
      all_goals first | (exfalso; omega) | exact ret_data rfl rfl rfl | (exfalso; simp_all; done)
  · have e : cbZ g l t = 3 := by unfold cbZ; rw [if_neg h]
    rw [(Bool.not_eq_true _).mp h] at k
    rw [e]
    generalize brL g l t = R at *
    rw [Tree.arg_eq] at k ⊢
    refine callsA_of tabOk Tryz.func7 rfl rfl 21 Tryz.ntmps7 (by simp) ?_
    repeat' (first | (apply AWP.go ok; rfl; conv => whnf) | (apply ord_mk; kernel_rfl; conv => whnf) | (apply And.intro; (first | omega | (unfold inI; omega) | (dsimp only; omega) | (unfold bitsOk; omega) | ((try dsimp only); simp only [List.length_map, List.length_take, List.length_append, List.length_replicate, List.length_cons, List.length_nil]; omega) | (simp only [btw_iff] at *; first | omega | (unfold inI; omega) | (unfold bitsOk; omega)) | exact stor_map (fun _ => rfl) | exact ⟨rfl, stor_cons rfl stor_nil⟩ | exact ⟨rfl, stor_map (fun _ => rfl) _⟩ | exact ⟨⟨rfl, by omega⟩, stor_map (fun _ => rfl) _⟩); conv => whnf) | (with_reducible apply get_mapN; omega; intro _; conv => whnf) | (with_reducible apply get_mapI; omega; intro _; conv => whnf) | (apply get_mapN; omega; intro _; conv => whnf) | (apply get_fill; omega; conv => whnf) | (apply ex_some; conv => whnf) | (apply get_map; omega; intro _; conv => whnf) | (apply vcG_dec <;> intro _ <;> conv => whnf) | (apply vcG_ndec <;> intro _ <;> conv => whnf) | (apply vcG_not <;> intro _ <;> conv => whnf) | (apply vcG_mk <;> intro _ <;> conv => whnf) | (apply vcIf_dec <;> intro _ <;> conv => whnf) | (apply vcIf_ndec <;> intro _ <;> conv => whnf) | (apply vcIf_not <;> intro _ <;> conv => whnf) | (apply vcIf_mk <;> intro _ <;> conv => whnf) | (apply call_data (k); rfl; rfl; conv => whnf))
    all_goals first | (exfalso; omega) | exact ret_data rfl rfl rfl | (exfalso; simp_all; done)
end Go.Proofs.YtcannajfdnipkaaGreat

