/- A part of the proofs over this program: T64, T65, T66, T67, T68, T69. -/
import Derived.Test.YtcannajfdnipkaaG0
import Derived.Test.YtcannajfdnipkaaG1
import Derived.Test.YtcannajfdnipkaaG2
import Derived.Test.YtcannajfdnipkaaP0
import Derived.Test.YtcannajfdnipkaaP1
import Derived.Test.YtcannajfdnipkaaP2
import Derived.Test.YtcannajfdnipkaaP3
set_option linter.all false
namespace Go.Proofs.Ytcannajfdnipkaa
open Go.Gl
attribute [local irreducible] vcCall AWP RetOk Again ordOk

theorem growNil_new (n : Nat) (h0 : 0 < n) (h1 : n ≤ 1048576) : CallsA Try.prog 141 [.nils, .int n] [] (.sref 0 0 0) [.cells 1 (List.replicate n [.int 0])] := by
  refine callsA_of tabOk Try.func141 rfl rfl 27 Try.ntmps141 (by simp) ?_
  repeat' (first | (apply AWP.go ok; rfl; conv => whnf) | (apply ord_mk; kernel_rfl; conv => whnf) | (apply And.intro; (first | omega | (unfold inI; omega) | (dsimp only; omega) | (unfold bitsOk; omega) | ((try dsimp only); simp only [List.length_map, List.length_take, List.length_append, List.length_replicate, List.length_cons, List.length_nil]; omega) | (simp only [btw_iff] at *; first | omega | (unfold inI; omega) | (unfold bitsOk; omega)) | exact stor_map (fun _ => rfl) | exact ⟨rfl, stor_cons rfl stor_nil⟩ | exact ⟨rfl, stor_map (fun _ => rfl) _⟩ | exact ⟨⟨rfl, by omega⟩, stor_map (fun _ => rfl) _⟩); conv => whnf) | (with_reducible apply get_mapN; omega; intro _; conv => whnf) | (with_reducible apply get_mapI; omega; intro _; conv => whnf) | (apply get_mapN; omega; intro _; conv => whnf) | (apply get_fill; omega; conv => whnf) | (apply ex_some; conv => whnf) | (apply get_map; omega; intro _; conv => whnf) | (apply vcG_dec <;> intro _ <;> conv => whnf) | (apply vcG_ndec <;> intro _ <;> conv => whnf) | (apply vcG_not <;> intro _ <;> conv => whnf) | (apply vcG_mk <;> intro _ <;> conv => whnf) | (apply vcIf_dec <;> intro _ <;> conv => whnf) | (apply vcIf_ndec <;> intro _ <;> conv => whnf) | (apply vcIf_not <;> intro _ <;> conv => whnf) | (apply vcIf_mk <;> intro _ <;> conv => whnf))
  all_goals first | (exfalso; omega) | skip
  exact ret_objs [0] (by decide) rfl rfl rfl ⟨obj_flat (cells_congr (by rw [show ((n : Int) - (((0 : Nat) : Int) - ((0 : Nat) : Int))).toNat = n by omega])) (flat_replicate rfl), trivial⟩

def szK (a b : List Int) : Nat → Nat
  | 0 => 0
  | 1 => a.length
  | _ => a.length + b.length
def clK (a b : List Int) : Nat → List (List AC)
  | 0 => List.replicate (a.length + b.length) [.int 0]
  | 1 => a.map enI
  | _ => (a ++ b).map enI
theorem clK_flat (a b : List Int) (k : Nat) : Flat (clK a b k) := by
  match k with
  | 0 => exact flat_replicate rfl
  | 1 => exact flat_map fun _ => rfl
  | _ + 2 => exact flat_map fun _ => rfl

theorem concat_new (a b : List Int) (h0 : 0 < a.length + b.length) (h1 : a.length + b.length ≤ 1048576) : CallsA Try.prog 99 [lst 1 encL [a, b]] [] (.sref 0 0 (a.length + b.length)) [.cells 1 ((a ++ b).map enI)] := by
  have cg := growNil_new (a.length + b.length) h0 h1
  have e0 : szK a b 0 = 0 := rfl
  have e1 : szK a b 1 = a.length := rfl
  have e2 : szK a b 2 = a.length + b.length := rfl
  have hc1 : (clK a b 1).length = szK a b 1 := by simp [clK, szK]
  refine callsA_of tabOk Try.func99 rfl rfl 36 Try.ntmps99 (by simp) ?_
  repeat' (first | (apply AWP.go ok; rfl; conv => whnf) | (apply ord_mk; kernel_rfl; conv => whnf) | (apply And.intro; (first | omega | (unfold inI; omega) | (dsimp only; omega) | (unfold bitsOk; omega) | ((try dsimp only); simp only [List.length_map, List.length_take, List.length_append, List.length_replicate, List.length_cons, List.length_nil]; omega) | (simp only [btw_iff] at *; first | omega | (unfold inI; omega) | (unfold bitsOk; omega)) | exact stor_map (fun _ => rfl) | exact ⟨rfl, stor_cons rfl stor_nil⟩ | exact ⟨rfl, stor_map (fun _ => rfl) _⟩ | exact ⟨⟨rfl, by omega⟩, stor_map (fun _ => rfl) _⟩); conv => whnf) | (with_reducible apply get_mapN; omega; intro _; conv => whnf) | (with_reducible apply get_mapI; omega; intro _; conv => whnf) | (apply get_mapN; omega; intro _; conv => whnf) | (apply get_fill; omega; conv => whnf) | (apply ex_some; conv => whnf) | (apply get_map; omega; intro _; conv => whnf) | (apply vcG_dec <;> intro _ <;> conv => whnf) | (apply vcG_ndec <;> intro _ <;> conv => whnf) | (apply vcG_not <;> intro _ <;> conv => whnf) | (apply vcG_mk <;> intro _ <;> conv => whnf) | (apply vcIf_dec <;> intro _ <;> conv => whnf) | (apply vcIf_ndec <;> intro _ <;> conv => whnf) | (apply vcIf_not <;> intro _ <;> conv => whnf) | (apply vcIf_mk <;> intro _ <;> conv => whnf))
  refine loopA (fun k : Nat => ([(0, lst 1 encL [a, b]), (3, .int (szK a b k)), (9, lst 1 encL [a, b]), (10, .int (2 : Nat)), (11, .int k)], [])) (fun k => k ≤ 2) (fun k => 2 - k) 0 (by omega) ⟨[], rfl, by decide, rfl, ⟨⟨rfl, rfl⟩, ⟨rfl, rfl⟩, ⟨rfl, rfl⟩, ⟨rfl, rfl⟩, ⟨rfl, rfl⟩, trivial⟩, trivial⟩ ?_
  intro k hk
  have hk3 : k = 0 ∨ k = 1 ∨ k = 2 := by omega
  rcases hk3 with rfl | rfl | rfl
  · repeat' (first | (apply AWP.go ok; rfl; conv => whnf) | (apply ord_mk; kernel_rfl; conv => whnf) | (refine get_eq (i := 0) rfl rfl ?_; conv => whnf) | (apply And.intro; (first | omega | (unfold inI; omega) | (dsimp only; omega) | (unfold bitsOk; omega) | ((try dsimp only); simp only [List.length_map, List.length_take, List.length_append, List.length_replicate, List.length_cons, List.length_nil]; omega) | (simp only [btw_iff] at *; first | omega | (unfold inI; omega) | (unfold bitsOk; omega)) | exact stor_map (fun _ => rfl) | exact ⟨rfl, stor_cons rfl stor_nil⟩ | exact ⟨rfl, stor_map (fun _ => rfl) _⟩ | exact ⟨⟨rfl, by omega⟩, stor_map (fun _ => rfl) _⟩); conv => whnf) | (with_reducible apply get_mapN; omega; intro _; conv => whnf) | (with_reducible apply get_mapI; omega; intro _; conv => whnf) | (apply get_mapN; omega; intro _; conv => whnf) | (apply get_fill; omega; conv => whnf) | (apply ex_some; conv => whnf) | (apply get_map; omega; intro _; conv => whnf) | (apply vcG_dec <;> intro _ <;> conv => whnf) | (apply vcG_ndec <;> intro _ <;> conv => whnf) | (apply vcG_not <;> intro _ <;> conv => whnf) | (apply vcG_mk <;> intro _ <;> conv => whnf) | (apply vcIf_dec <;> intro _ <;> conv => whnf) | (apply vcIf_ndec <;> intro _ <;> conv => whnf) | (apply vcIf_not <;> intro _ <;> conv => whnf) | (apply vcIf_mk <;> intro _ <;> conv => whnf))
    all_goals first | (exfalso; omega) | skip
    all_goals exact again 1 [] (by omega) (by omega) ⟨rfl, by decide, rfl, ⟨⟨rfl, rfl⟩, ⟨rfl, env_int (by omega)⟩, ⟨rfl, rfl⟩, ⟨rfl, rfl⟩, ⟨rfl, rfl⟩, trivial⟩, trivial⟩
  · repeat' (first | (apply AWP.go ok; rfl; conv => whnf) | (apply ord_mk; kernel_rfl; conv => whnf) | (refine get_eq (i := 1) rfl rfl ?_; conv => whnf) | (apply And.intro; (first | omega | (unfold inI; omega) | (dsimp only; omega) | (unfold bitsOk; omega) | ((try dsimp only); simp only [List.length_map, List.length_take, List.length_append, List.length_replicate, List.length_cons, List.length_nil]; omega) | (simp only [btw_iff] at *; first | omega | (unfold inI; omega) | (unfold bitsOk; omega)) | exact stor_map (fun _ => rfl) | exact ⟨rfl, stor_cons rfl stor_nil⟩ | exact ⟨rfl, stor_map (fun _ => rfl) _⟩ | exact ⟨⟨rfl, by omega⟩, stor_map (fun _ => rfl) _⟩); conv => whnf) | (with_reducible apply get_mapN; omega; intro _; conv => whnf) | (with_reducible apply get_mapI; omega; intro _; conv => whnf) | (apply get_mapN; omega; intro _; conv => whnf) | (apply get_fill; omega; conv => whnf) | (apply ex_some; conv => whnf) | (apply get_map; omega; intro _; conv => whnf) | (apply vcG_dec <;> intro _ <;> conv => whnf) | (apply vcG_ndec <;> intro _ <;> conv => whnf) | (apply vcG_not <;> intro _ <;> conv => whnf) | (apply vcG_mk <;> intro _ <;> conv => whnf) | (apply vcIf_dec <;> intro _ <;> conv => whnf) | (apply vcIf_ndec <;> intro _ <;> conv => whnf) | (apply vcIf_not <;> intro _ <;> conv => whnf) | (apply vcIf_mk <;> intro _ <;> conv => whnf))
    all_goals first | (exfalso; omega) | skip
    all_goals exact again 2 [] (by omega) (by omega) ⟨rfl, by decide, rfl, ⟨⟨rfl, rfl⟩, ⟨rfl, env_int (by omega)⟩, ⟨rfl, rfl⟩, ⟨rfl, rfl⟩, ⟨rfl, rfl⟩, trivial⟩, trivial⟩
  · rw [← e2] at cg
    repeat' (first | (apply AWP.go ok; rfl; conv => whnf) | (apply ord_mk; kernel_rfl; conv => whnf) | (apply And.intro; (first | omega | (unfold inI; omega) | (dsimp only; omega) | (unfold bitsOk; omega) | ((try dsimp only); simp only [List.length_map, List.length_take, List.length_append, List.length_replicate, List.length_cons, List.length_nil]; omega) | (simp only [btw_iff] at *; first | omega | (unfold inI; omega) | (unfold bitsOk; omega)) | exact stor_map (fun _ => rfl) | exact ⟨rfl, stor_cons rfl stor_nil⟩ | exact ⟨rfl, stor_map (fun _ => rfl) _⟩ | exact ⟨⟨rfl, by omega⟩, stor_map (fun _ => rfl) _⟩); conv => whnf) | (with_reducible apply get_mapN; omega; intro _; conv => whnf) | (with_reducible apply get_mapI; omega; intro _; conv => whnf) | (apply get_mapN; omega; intro _; conv => whnf) | (apply get_fill; omega; conv => whnf) | (apply ex_some; conv => whnf) | (apply get_map; omega; intro _; conv => whnf) | (apply vcG_dec <;> intro _ <;> conv => whnf) | (apply vcG_ndec <;> intro _ <;> conv => whnf) | (apply vcG_not <;> intro _ <;> conv => whnf) | (apply vcG_mk <;> intro _ <;> conv => whnf) | (apply vcIf_dec <;> intro _ <;> conv => whnf) | (apply vcIf_ndec <;> intro _ <;> conv => whnf) | (apply vcIf_not <;> intro _ <;> conv => whnf) | (apply vcIf_mk <;> intro _ <;> conv => whnf) | (apply call_gen [] [] [0] (cg); rfl; (focus ((repeat' (first | exact passOk_nil | apply passOk_cons)) <;> (first | rfl | (refine pass_flat rfl ?_; (first | exact flat_nil | exact flat_replicate rfl | exact flat_map (fun _ => rfl) | exact flat_map Tree.co_flat | (apply flat_append <;> (first | exact flat_replicate rfl | exact flat_map (fun _ => rfl))) | assumption))))); rfl; rfl; rfl; rfl; rfl; (focus ((repeat' (first | exact rens_nil | apply rens_cons)) <;> (first | exact ren_dead | exact ren_box rfl rfl | (refine ren_flat ?_; (first | exact flat_nil | exact flat_replicate rfl | exact flat_map (fun _ => rfl) | exact flat_map Tree.co_flat | (apply flat_append <;> (first | exact flat_replicate rfl | exact flat_map (fun _ => rfl))) | assumption))))); (first | exact .inl rfl | (refine .inr ⟨rfl, ?_⟩; repeat' (first | exact True.intro | apply And.intro | exact rfl | exact plainLL_map (fun _ => rfl) _))); conv => whnf))
    all_goals first | (exfalso; omega) | skip
    refine loopA (fun k : Nat => ([(6, .sref 0 0 (szK a b k)), (25, lst 1 encL [a, b]), (26, .int (2 : Nat)), (27, .int k)], [.cells 1 (clK a b k)])) (fun k => k ≤ 2) (fun k => 2 - k) 0 (by omega) ⟨[0], rfl, by decide, rfl, ⟨⟨rfl, rfl⟩, ⟨rfl, rfl⟩, ⟨rfl, rfl⟩, ⟨rfl, rfl⟩, trivial⟩, ⟨obj_flat rfl (clK_flat a b 0), trivial⟩⟩ ?_
    intro k hk
    have hk3 : k = 0 ∨ k = 1 ∨ k = 2 := by omega
    rcases hk3 with rfl | rfl | rfl
    · repeat' (first | (apply AWP.go ok; rfl; conv => whnf) | (apply ord_mk; kernel_rfl; conv => whnf) | (refine get_eq (i := 0) rfl rfl ?_; conv => whnf) | (apply And.intro; (first | omega | (unfold inI; omega) | (dsimp only; omega) | (unfold bitsOk; omega) | ((try dsimp only); simp only [List.length_map, List.length_take, List.length_append, List.length_replicate, List.length_cons, List.length_nil]; omega) | (simp only [btw_iff] at *; first | omega | (unfold inI; omega) | (unfold bitsOk; omega)) | exact stor_map (fun _ => rfl) | exact ⟨rfl, stor_cons rfl stor_nil⟩ | exact ⟨rfl, stor_map (fun _ => rfl) _⟩ | exact ⟨⟨rfl, by omega⟩, stor_map (fun _ => rfl) _⟩); conv => whnf) | (with_reducible apply get_mapN; omega; intro _; conv => whnf) | (with_reducible apply get_mapI; omega; intro _; conv => whnf) | (apply get_mapN; omega; intro _; conv => whnf) | (apply get_fill; omega; conv => whnf) | (apply ex_some; conv => whnf) | (apply get_map; omega; intro _; conv => whnf) | (apply vcG_dec <;> intro _ <;> conv => whnf) | (apply vcG_ndec <;> intro _ <;> conv => whnf) | (apply vcG_not <;> intro _ <;> conv => whnf) | (apply vcG_mk <;> intro _ <;> conv => whnf) | (apply vcIf_dec <;> intro _ <;> conv => whnf) | (apply vcIf_ndec <;> intro _ <;> conv => whnf) | (apply vcIf_not <;> intro _ <;> conv => whnf) | (apply vcIf_mk <;> intro _ <;> conv => whnf))
      all_goals first | (exfalso; omega) | skip
      all_goals exact again 1 [1] (by omega) (by omega) ⟨rfl, by decide, rfl, ⟨⟨rfl, congrArg (AC.sref 1 0) (show szK a b 0 + a.length = szK a b 1 by omega)⟩, ⟨rfl, rfl⟩, ⟨rfl, rfl⟩, ⟨rfl, rfl⟩, trivial⟩, ⟨obj_flat (cells_congr (by rw [e0, List.take_zero]; rfl)) (clK_flat a b 1), trivial⟩⟩
    · repeat' (first | (apply AWP.go ok; rfl; conv => whnf) | (apply ord_mk; kernel_rfl; conv => whnf) | (refine get_eq (i := 1) rfl rfl ?_; conv => whnf) | (apply And.intro; (first | omega | (unfold inI; omega) | (dsimp only; omega) | (unfold bitsOk; omega) | ((try dsimp only); simp only [List.length_map, List.length_take, List.length_append, List.length_replicate, List.length_cons, List.length_nil]; omega) | (simp only [btw_iff] at *; first | omega | (unfold inI; omega) | (unfold bitsOk; omega)) | exact stor_map (fun _ => rfl) | exact ⟨rfl, stor_cons rfl stor_nil⟩ | exact ⟨rfl, stor_map (fun _ => rfl) _⟩ | exact ⟨⟨rfl, by omega⟩, stor_map (fun _ => rfl) _⟩); conv => whnf) | (with_reducible apply get_mapN; omega; intro _; conv => whnf) | (with_reducible apply get_mapI; omega; intro _; conv => whnf) | (apply get_mapN; omega; intro _; conv => whnf) | (apply get_fill; omega; conv => whnf) | (apply ex_some; conv => whnf) | (apply get_map; omega; intro _; conv => whnf) | (apply vcG_dec <;> intro _ <;> conv => whnf) | (apply vcG_ndec <;> intro _ <;> conv => whnf) | (apply vcG_not <;> intro _ <;> conv => whnf) | (apply vcG_mk <;> intro _ <;> conv => whnf) | (apply vcIf_dec <;> intro _ <;> conv => whnf) | (apply vcIf_ndec <;> intro _ <;> conv => whnf) | (apply vcIf_not <;> intro _ <;> conv => whnf) | (apply vcIf_mk <;> intro _ <;> conv => whnf))
      all_goals first | (exfalso; omega) | skip
      all_goals exact again 2 [1] (by omega) (by omega) ⟨rfl, by decide, rfl, ⟨⟨rfl, congrArg (AC.sref 1 0) (show szK a b 1 + b.length = szK a b 2 by omega)⟩, ⟨rfl, rfl⟩, ⟨rfl, rfl⟩, ⟨rfl, rfl⟩, trivial⟩, ⟨obj_flat (cells_congr (by rw [List.take_of_length_le (by omega)]; exact (List.map_append ..).symm)) (clK_flat a b 2), trivial⟩⟩
    · repeat' (first | (apply AWP.go ok; rfl; conv => whnf) | (apply ord_mk; kernel_rfl; conv => whnf) | (apply And.intro; (first | omega | (unfold inI; omega) | (dsimp only; omega) | (unfold bitsOk; omega) | ((try dsimp only); simp only [List.length_map, List.length_take, List.length_append, List.length_replicate, List.length_cons, List.length_nil]; omega) | (simp only [btw_iff] at *; first | omega | (unfold inI; omega) | (unfold bitsOk; omega)) | exact stor_map (fun _ => rfl) | exact ⟨rfl, stor_cons rfl stor_nil⟩ | exact ⟨rfl, stor_map (fun _ => rfl) _⟩ | exact ⟨⟨rfl, by omega⟩, stor_map (fun _ => rfl) _⟩); conv => whnf) | (with_reducible apply get_mapN; omega; intro _; conv => whnf) | (with_reducible apply get_mapI; omega; intro _; conv => whnf) | (apply get_mapN; omega; intro _; conv => whnf) | (apply get_fill; omega; conv => whnf) | (apply ex_some; conv => whnf) | (apply get_map; omega; intro _; conv => whnf) | (apply vcG_dec <;> intro _ <;> conv => whnf) | (apply vcG_ndec <;> intro _ <;> conv => whnf) | (apply vcG_not <;> intro _ <;> conv => whnf) | (apply vcG_mk <;> intro _ <;> conv => whnf) | (apply vcIf_dec <;> intro _ <;> conv => whnf) | (apply vcIf_ndec <;> intro _ <;> conv => whnf) | (apply vcIf_not <;> intro _ <;> conv => whnf) | (apply vcIf_mk <;> intro _ <;> conv => whnf))
      all_goals first | (exfalso; omega) | skip
      all_goals exact ret_objs [0] (by decide) rfl rfl rfl ⟨obj_flat rfl (flat_map fun _ => rfl), trivial⟩
end Go.Proofs.Ytcannajfdnipkaa

namespace Go.Proofs.Ytcannajfdnipkaa
open Go.Gl
attribute [local irreducible] vcCall AWP RetOk Again ordOk

noncomputable def stepP (g : Graph) (p : List Int) (i : Nat) : Bool := (decide (0 ≤ p.getD i 0) && decide (p.getD i 0 < g.st.length)) && (decide (i = 0) || decide (p.getD i 0 ∈ g.nx.getD (p.getD (i - 1) 0).toNat []))
noncomputable def pathB (g : Graph) (p : List Int) : Bool := graphB g && (decide (1 ≤ p.length) && (List.range p.length).all (stepP g p))
theorem pathB_false {g : Graph} {p : List Int} {i : Nat} (hi : i < p.length) (h : stepP g p i = false) : pathB g p = false := by
  unfold pathB
  have : (List.range p.length).all (stepP g p) = false := by
    rw [List.all_eq_false]
    exact ⟨i, List.mem_range.2 hi, by simp [h]⟩
  rw [this]; simp
theorem pathB_true {g : Graph} {p : List Int} (hg : graphB g = true) (h0 : 1 ≤ p.length) (h : ∀ i, i < p.length → stepP g p i = true) : pathB g p = true := by
  unfold pathB
  have : (List.range p.length).all (stepP g p) = true := by
    rw [List.all_eq_true]
    exact fun i hi => h i (List.mem_range.1 hi)
  rw [this, hg, decide_eq_true h0]; rfl
theorem stepP_0 (g : Graph) (p : List Int) (h : 0 < p.length) : stepP g p 0 = (decide (0 ≤ p[0]) && decide (p[0] < g.st.length)) := by
  unfold stepP; rw [getD_at h]; simp
theorem stepP_s (g : Graph) (p : List Int) (j : Nat) (h : j + 1 < p.length) (h2 : p[j].toNat < g.nx.length) : stepP g p (j + 1) = (decide (0 ≤ p[j + 1]) && decide (p[j + 1] < g.st.length) && decide (p[j + 1] ∈ g.nx[p[j].toNat])) := by
  unfold stepP
  rw [getD_at h, Nat.add_sub_cancel, getD_at (show j < p.length by omega), getD_at h2]; simp
theorem stepP_in {g : Graph} {p : List Int} {j : Nat} (h : j < p.length) (k : stepP g p j = true) : 0 ≤ p[j] ∧ p[j] < g.st.length := by
  unfold stepP at k
  rw [getD_at h] at k
  simp only [Bool.and_eq_true, decide_eq_true_eq] at k
  exact k.1
theorem upto_succ {P : Nat → Prop} {i : Nat} (h : ∀ j, j < i → P j) (k : P i) : ∀ j, j < i + 1 → P j := fun j hj => by
  rcases Nat.lt_or_ge j i with h3 | h3
  · exact h j h3
  · obtain rfl : j = i := by omega
    exact k

set_option maxHeartbeats 1600000 in
theorem implPath_ok (g : Graph) (hg : g.mx) (p : List Int) (hp : p.length ≤ maxLen) : CallsA Try.prog 100 [.agg g.cs, ints p] [] (.bool (pathB g p)) [] := by
  have k1 := graphValid_ok g hg
  unfold maxLen at hp
  by_cases hgb : graphB g = true
  · have hG := (graphB_iff g).1 hgb
    have hgl := hG.2.1
    have h60 := hG.1.2
    have hrl := hg.2.2
    rw [hgb] at k1
    by_cases h0 : p.length = 0
    · have e : pathB g p = false := by unfold pathB; rw [decide_eq_false (show ¬ 1 ≤ p.length by omega)]; simp
      rw [e]
      refine callsA_of tabOk Try.func100 rfl rfl 48 Try.ntmps100 (by simp) ?_
      repeat' (first | (apply AWP.go ok; rfl; conv => whnf) | (apply ord_mk; kernel_rfl; conv => whnf) | (apply And.intro; (first | omega | (unfold inI; omega) | (dsimp only; omega) | (unfold bitsOk; omega) | ((try dsimp only); simp only [List.length_map, List.length_take, List.length_append, List.length_replicate, List.length_cons, List.length_nil]; omega) | (simp only [btw_iff] at *; first | omega | (unfold inI; omega) | (unfold bitsOk; omega)) | exact stor_map (fun _ => rfl) | exact ⟨rfl, stor_cons rfl stor_nil⟩ | exact ⟨rfl, stor_map (fun _ => rfl) _⟩ | exact ⟨⟨rfl, by omega⟩, stor_map (fun _ => rfl) _⟩); conv => whnf) | (with_reducible apply get_mapN; omega; intro _; conv => whnf) | (with_reducible apply get_mapI; omega; intro _; conv => whnf) | (apply get_mapN; omega; intro _; conv => whnf) | (apply get_fill; omega; conv => whnf) | (apply ex_some; conv => whnf) | (apply get_map; omega; intro _; conv => whnf) | (apply vcG_dec <;> intro _ <;> conv => whnf) | (apply vcG_ndec <;> intro _ <;> conv => whnf) | (apply vcG_not <;> intro _ <;> conv => whnf) | (apply vcG_mk <;> intro _ <;> conv => whnf) | (apply vcIf_dec <;> intro _ <;> conv => whnf) | (apply vcIf_ndec <;> intro _ <;> conv => whnf) | (apply vcIf_not <;> intro _ <;> conv => whnf) | (apply vcIf_mk <;> intro _ <;> conv => whnf) | (apply call_data (k1); rfl; rfl; conv => whnf))
      all_goals first | (exfalso; omega) | exact ret_bool rfl rfl | (exfalso; simp_all; done) | skip
    refine callsA_of tabOk Try.func100 rfl rfl 48 Try.ntmps100 (by simp) ?_
    repeat' (first | (apply AWP.go ok; rfl; conv => whnf) | (apply ord_mk; kernel_rfl; conv => whnf) | (apply And.intro; (first | omega | (unfold inI; omega) | (dsimp only; omega) | (unfold bitsOk; omega) | ((try dsimp only); simp only [List.length_map, List.length_take, List.length_append, List.length_replicate, List.length_cons, List.length_nil]; omega) | (simp only [btw_iff] at *; first | omega | (unfold inI; omega) | (unfold bitsOk; omega)) | exact stor_map (fun _ => rfl) | exact ⟨rfl, stor_cons rfl stor_nil⟩ | exact ⟨rfl, stor_map (fun _ => rfl) _⟩ | exact ⟨⟨rfl, by omega⟩, stor_map (fun _ => rfl) _⟩); conv => whnf) | (with_reducible apply get_mapN; omega; intro _; conv => whnf) | (with_reducible apply get_mapI; omega; intro _; conv => whnf) | (apply get_mapN; omega; intro _; conv => whnf) | (apply get_fill; omega; conv => whnf) | (apply ex_some; conv => whnf) | (apply get_map; omega; intro _; conv => whnf) | (apply vcG_dec <;> intro _ <;> conv => whnf) | (apply vcG_ndec <;> intro _ <;> conv => whnf) | (apply vcG_not <;> intro _ <;> conv => whnf) | (apply vcG_mk <;> intro _ <;> conv => whnf) | (apply vcIf_dec <;> intro _ <;> conv => whnf) | (apply vcIf_ndec <;> intro _ <;> conv => whnf) | (apply vcIf_not <;> intro _ <;> conv => whnf) | (apply vcIf_mk <;> intro _ <;> conv => whnf) | (apply call_data (k1); rfl; rfl; conv => whnf))
    all_goals first | (exfalso; omega) | (exfalso; simp_all; done) | skip
    refine loopA (fun i : Nat => ([(1, ints p), (2, .ptr 0 none 0), (15, ints p), (16, .int p.length), (17, .int i)], [.cells 2 [[lst 2 State.cs g.st, lst 1 encL g.nx]]])) (fun i => i ≤ p.length ∧ ∀ j, j < i → stepP g p j = true) (fun i => p.length - i) 0 ⟨by omega, fun j hj => by omega⟩ ⟨[0], rfl, by decide, rfl, ⟨⟨rfl, rfl⟩, ⟨rfl, rfl⟩, ⟨rfl, rfl⟩, ⟨rfl, rfl⟩, ⟨rfl, rfl⟩, trivial⟩, ⟨obj_box rfl rfl, trivial⟩⟩ ?_
    rintro i ⟨hi, hs⟩
    by_cases hil : i < p.length
    · have g0 : (p.map enI)[i]? = some (enI p[i]) := by rw [List.getElem?_map, List.getElem?_eq_getElem hil]; rfl
      have c1 := in_ok p[i] 0 ((g.st.length : Int) - 1)
      cases i with
      | zero =>
        have hst := stepP_0 g p hil
        generalize p[0] = x at *
        repeat' (first | (apply AWP.go ok; rfl; conv => whnf) | (apply ord_mk; kernel_rfl; conv => whnf) | (refine get_eq (i := 0) rfl g0 ?_; conv => whnf) | (apply And.intro; (first | omega | (unfold inI; omega) | (dsimp only; omega) | (unfold bitsOk; omega) | ((try dsimp only); simp only [List.length_map, List.length_take, List.length_append, List.length_replicate, List.length_cons, List.length_nil]; omega) | (simp only [btw_iff] at *; first | omega | (unfold inI; omega) | (unfold bitsOk; omega)) | exact stor_map (fun _ => rfl) | exact ⟨rfl, stor_cons rfl stor_nil⟩ | exact ⟨rfl, stor_map (fun _ => rfl) _⟩ | exact ⟨⟨rfl, by omega⟩, stor_map (fun _ => rfl) _⟩); conv => whnf) | (with_reducible apply get_mapN; omega; intro _; conv => whnf) | (with_reducible apply get_mapI; omega; intro _; conv => whnf) | (apply get_mapN; omega; intro _; conv => whnf) | (apply get_fill; omega; conv => whnf) | (apply ex_some; conv => whnf) | (apply get_map; omega; intro _; conv => whnf) | (apply vcG_dec <;> intro _ <;> conv => whnf) | (apply vcG_ndec <;> intro _ <;> conv => whnf) | (apply vcG_not <;> intro _ <;> conv => whnf) | (apply vcG_mk <;> intro _ <;> conv => whnf) | (apply vcIf_dec <;> intro _ <;> conv => whnf) | (apply vcIf_ndec <;> intro _ <;> conv => whnf) | (apply vcIf_not <;> intro _ <;> conv => whnf) | (apply vcIf_mk <;> intro _ <;> conv => whnf) | (apply call_data (c1); rfl; rfl; conv => whnf))
        all_goals (try simp only [btw_iff, btw_no] at *)
        all_goals first
          | (exfalso; omega)
          | exact ret_bool rfl (pathB_false hil (by rw [hst]; grind))
          | exact again 1 [0] ⟨by omega, upto_succ hs (by rw [hst]; grind)⟩ (by omega) ⟨rfl, by decide, rfl, ⟨⟨rfl, rfl⟩, ⟨rfl, rfl⟩, ⟨rfl, rfl⟩, ⟨rfl, rfl⟩, ⟨rfl, rfl⟩, trivial⟩, ⟨obj_box rfl rfl, trivial⟩⟩
      | succ j =>
        have hy := stepP_in (show j < p.length by omega) (hs j (by omega))
        have hst := stepP_s g p j hil (by omega)
        have g1 : (p.map enI)[j]? = some (enI p[j]) := by rw [List.getElem?_map, List.getElem?_eq_getElem (by omega)]; rfl
        have c2 := containsInt_ok g.nx[p[j].toNat] (hrl _ (List.getElem_mem _)) p[j + 1]
        have g2 : (g.nx.map encL)[p[j].toNat]? = some (encL (g.nx[p[j].toNat]'(by omega))) := by rw [List.getElem?_map, List.getElem?_eq_getElem (by omega)]; rfl
        generalize g.nx[p[j].toNat] = row at *
        generalize p[j] = y at *
        generalize p[j + 1] = x at *
        repeat' (first | (apply AWP.go ok; rfl; conv => whnf) | (apply ord_mk; kernel_rfl; conv => whnf) | (refine get_eq (i := y.toNat) rfl g2 ?_; conv => whnf) | (refine get_eq (i := j) (by omega) g1 ?_; conv => whnf) | (refine get_eq (i := j + 1) (by first | rfl | omega) g0 ?_; conv => whnf) | (apply And.intro; (first | omega | (unfold inI; omega) | (dsimp only; omega) | (unfold bitsOk; omega) | ((try dsimp only); simp only [List.length_map, List.length_take, List.length_append, List.length_replicate, List.length_cons, List.length_nil]; omega) | (simp only [btw_iff] at *; first | omega | (unfold inI; omega) | (unfold bitsOk; omega)) | exact stor_map (fun _ => rfl) | exact ⟨rfl, stor_cons rfl stor_nil⟩ | exact ⟨rfl, stor_map (fun _ => rfl) _⟩ | exact ⟨⟨rfl, by omega⟩, stor_map (fun _ => rfl) _⟩); conv => whnf) | (with_reducible apply get_mapN; omega; intro _; conv => whnf) | (with_reducible apply get_mapI; omega; intro _; conv => whnf) | (apply get_mapN; omega; intro _; conv => whnf) | (apply get_fill; omega; conv => whnf) | (apply ex_some; conv => whnf) | (apply get_map; omega; intro _; conv => whnf) | (apply vcG_dec <;> intro _ <;> conv => whnf) | (apply vcG_ndec <;> intro _ <;> conv => whnf) | (apply vcG_not <;> intro _ <;> conv => whnf) | (apply vcG_mk <;> intro _ <;> conv => whnf) | (apply vcIf_dec <;> intro _ <;> conv => whnf) | (apply vcIf_ndec <;> intro _ <;> conv => whnf) | (apply vcIf_not <;> intro _ <;> conv => whnf) | (apply vcIf_mk <;> intro _ <;> conv => whnf) | (apply call_data (c1); rfl; rfl; conv => whnf) | (apply call_data (c2); rfl; rfl; conv => whnf))
        all_goals (try simp only [btw_iff, btw_no] at *)
        all_goals first
          | (exfalso; omega)
          | exact ret_bool rfl (pathB_false hil (by rw [hst]; grind))
          | exact again (j + 2) [0] ⟨by omega, upto_succ hs (by rw [hst]; grind)⟩ (by omega) ⟨rfl, by decide, rfl, ⟨⟨rfl, rfl⟩, ⟨rfl, rfl⟩, ⟨rfl, rfl⟩, ⟨rfl, rfl⟩, ⟨rfl, rfl⟩, trivial⟩, ⟨obj_box rfl rfl, trivial⟩⟩
          | skip
    · repeat' (first | (apply AWP.go ok; rfl; conv => whnf) | (apply ord_mk; kernel_rfl; conv => whnf) | (apply And.intro; (first | omega | (unfold inI; omega) | (dsimp only; omega) | (unfold bitsOk; omega) | ((try dsimp only); simp only [List.length_map, List.length_take, List.length_append, List.length_replicate, List.length_cons, List.length_nil]; omega) | (simp only [btw_iff] at *; first | omega | (unfold inI; omega) | (unfold bitsOk; omega)) | exact stor_map (fun _ => rfl) | exact ⟨rfl, stor_cons rfl stor_nil⟩ | exact ⟨rfl, stor_map (fun _ => rfl) _⟩ | exact ⟨⟨rfl, by omega⟩, stor_map (fun _ => rfl) _⟩); conv => whnf) | (with_reducible apply get_mapN; omega; intro _; conv => whnf) | (with_reducible apply get_mapI; omega; intro _; conv => whnf) | (apply get_mapN; omega; intro _; conv => whnf) | (apply get_fill; omega; conv => whnf) | (apply ex_some; conv => whnf) | (apply get_map; omega; intro _; conv => whnf) | (apply vcG_dec <;> intro _ <;> conv => whnf) | (apply vcG_ndec <;> intro _ <;> conv => whnf) | (apply vcG_not <;> intro _ <;> conv => whnf) | (apply vcG_mk <;> intro _ <;> conv => whnf) | (apply vcIf_dec <;> intro _ <;> conv => whnf) | (apply vcIf_ndec <;> intro _ <;> conv => whnf) | (apply vcIf_not <;> intro _ <;> conv => whnf) | (apply vcIf_mk <;> intro _ <;> conv => whnf))
      all_goals first | (exfalso; omega) | skip
      exact ret_bool rfl (pathB_true hgb (by omega) fun j hj => hs j (by omega))
  · have hgb := (Bool.not_eq_true _).mp hgb
    have e : pathB g p = false := by unfold pathB; rw [hgb]; rfl
    rw [hgb] at k1
    rw [e]
    refine callsA_of tabOk Try.func100 rfl rfl 48 Try.ntmps100 (by simp) ?_
    repeat' (first | (apply AWP.go ok; rfl; conv => whnf) | (apply ord_mk; kernel_rfl; conv => whnf) | (apply And.intro; (first | omega | (unfold inI; omega) | (dsimp only; omega) | (unfold bitsOk; omega) | ((try dsimp only); simp only [List.length_map, List.length_take, List.length_append, List.length_replicate, List.length_cons, List.length_nil]; omega) | (simp only [btw_iff] at *; first | omega | (unfold inI; omega) | (unfold bitsOk; omega)) | exact stor_map (fun _ => rfl) | exact ⟨rfl, stor_cons rfl stor_nil⟩ | exact ⟨rfl, stor_map (fun _ => rfl) _⟩ | exact ⟨⟨rfl, by omega⟩, stor_map (fun _ => rfl) _⟩); conv => whnf) | (with_reducible apply get_mapN; omega; intro _; conv => whnf) | (with_reducible apply get_mapI; omega; intro _; conv => whnf) | (apply get_mapN; omega; intro _; conv => whnf) | (apply get_fill; omega; conv => whnf) | (apply ex_some; conv => whnf) | (apply get_map; omega; intro _; conv => whnf) | (apply vcG_dec <;> intro _ <;> conv => whnf) | (apply vcG_ndec <;> intro _ <;> conv => whnf) | (apply vcG_not <;> intro _ <;> conv => whnf) | (apply vcG_mk <;> intro _ <;> conv => whnf) | (apply vcIf_dec <;> intro _ <;> conv => whnf) | (apply vcIf_ndec <;> intro _ <;> conv => whnf) | (apply vcIf_not <;> intro _ <;> conv => whnf) | (apply vcIf_mk <;> intro _ <;> conv => whnf) | (apply call_data (k1); rfl; rfl; conv => whnf))
    all_goals first | exact ret_bool rfl rfl | (exfalso; simp_all; done) | skip
set_option maxHeartbeats 1600000 in
theorem specPath_ok (g : Graph) (hg : g.mx) (p : List Int) (hp : p.length ≤ maxLen) : CallsA Try.prog 130 [.agg g.cs, ints p] [] (.bool (pathB g p)) [] := by
  have k1 := specGraphValid_ok g hg
  unfold maxLen at hp
  by_cases hgb : graphB g = true
  · have hG := (graphB_iff g).1 hgb
    have hgl := hG.2.1
    have h60 := hG.1.2
    have hrl := hg.2.2
    rw [hgb] at k1
    by_cases h0 : p.length = 0
    · have e : pathB g p = false := by unfold pathB; rw [decide_eq_false (show ¬ 1 ≤ p.length by omega)]; simp
      rw [e]
      refine callsA_of tabOk Try.func130 rfl rfl 56 Try.ntmps130 (by simp) ?_
      repeat' (first | (apply AWP.go ok; rfl; conv => whnf) | (apply ord_mk; kernel_rfl; conv => whnf) | (apply And.intro; (first | omega | (unfold inI; omega) | (dsimp only; omega) | (unfold bitsOk; omega) | ((try dsimp only); simp only [List.length_map, List.length_take, List.length_append, List.length_replicate, List.length_cons, List.length_nil]; omega) | (simp only [btw_iff] at *; first | omega | (unfold inI; omega) | (unfold bitsOk; omega)) | exact stor_map (fun _ => rfl) | exact ⟨rfl, stor_cons rfl stor_nil⟩ | exact ⟨rfl, stor_map (fun _ => rfl) _⟩ | exact ⟨⟨rfl, by omega⟩, stor_map (fun _ => rfl) _⟩); conv => whnf) | (with_reducible apply get_mapN; omega; intro _; conv => whnf) | (with_reducible apply get_mapI; omega; intro _; conv => whnf) | (apply get_mapN; omega; intro _; conv => whnf) | (apply get_fill; omega; conv => whnf) | (apply ex_some; conv => whnf) | (apply get_map; omega; intro _; conv => whnf) | (apply vcG_dec <;> intro _ <;> conv => whnf) | (apply vcG_ndec <;> intro _ <;> conv => whnf) | (apply vcG_not <;> intro _ <;> conv => whnf) | (apply vcG_mk <;> intro _ <;> conv => whnf) | (apply vcIf_dec <;> intro _ <;> conv => whnf) | (apply vcIf_ndec <;> intro _ <;> conv => whnf) | (apply vcIf_not <;> intro _ <;> conv => whnf) | (apply vcIf_mk <;> intro _ <;> conv => whnf) | (apply call_data (k1); rfl; rfl; conv => whnf))
      all_goals first | (exfalso; omega) | exact ret_bool rfl rfl | (exfalso; simp_all; done) | skip
    refine callsA_of tabOk Try.func130 rfl rfl 56 Try.ntmps130 (by simp) ?_
    repeat' (first | (apply AWP.go ok; rfl; conv => whnf) | (apply ord_mk; kernel_rfl; conv => whnf) | (apply And.intro; (first | omega | (unfold inI; omega) | (dsimp only; omega) | (unfold bitsOk; omega) | ((try dsimp only); simp only [List.length_map, List.length_take, List.length_append, List.length_replicate, List.length_cons, List.length_nil]; omega) | (simp only [btw_iff] at *; first | omega | (unfold inI; omega) | (unfold bitsOk; omega)) | exact stor_map (fun _ => rfl) | exact ⟨rfl, stor_cons rfl stor_nil⟩ | exact ⟨rfl, stor_map (fun _ => rfl) _⟩ | exact ⟨⟨rfl, by omega⟩, stor_map (fun _ => rfl) _⟩); conv => whnf) | (with_reducible apply get_mapN; omega; intro _; conv => whnf) | (with_reducible apply get_mapI; omega; intro _; conv => whnf) | (apply get_mapN; omega; intro _; conv => whnf) | (apply get_fill; omega; conv => whnf) | (apply ex_some; conv => whnf) | (apply get_map; omega; intro _; conv => whnf) | (apply vcG_dec <;> intro _ <;> conv => whnf) | (apply vcG_ndec <;> intro _ <;> conv => whnf) | (apply vcG_not <;> intro _ <;> conv => whnf) | (apply vcG_mk <;> intro _ <;> conv => whnf) | (apply vcIf_dec <;> intro _ <;> conv => whnf) | (apply vcIf_ndec <;> intro _ <;> conv => whnf) | (apply vcIf_not <;> intro _ <;> conv => whnf) | (apply vcIf_mk <;> intro _ <;> conv => whnf) | (apply call_data (k1); rfl; rfl; conv => whnf))
    all_goals first | (exfalso; omega) | (exfalso; simp_all; done) | skip
    refine loopA (fun i : Nat => ([(1, ints p), (2, .ptr 0 none 0), (5, .int i)], [.cells 2 [[lst 2 State.cs g.st, lst 1 encL g.nx]]])) (fun i => i ≤ p.length ∧ ∀ j, j < i → stepP g p j = true) (fun i => p.length - i) 0 ⟨by omega, fun j hj => by omega⟩ ⟨[0], rfl, by decide, rfl, ⟨⟨rfl, rfl⟩, ⟨rfl, rfl⟩, ⟨rfl, rfl⟩, trivial⟩, ⟨obj_box rfl rfl, trivial⟩⟩ ?_
    rintro i ⟨hi, hs⟩
    by_cases hil : i < p.length
    · have g0 : (p.map enI)[i]? = some (enI p[i]) := by rw [List.getElem?_map, List.getElem?_eq_getElem hil]; rfl
      cases i with
      | zero =>
        have hst := stepP_0 g p hil
        generalize p[0] = x at *
        repeat' (first | (apply AWP.go ok; rfl; conv => whnf) | (apply ord_mk; kernel_rfl; conv => whnf) | (refine get_eq (i := 0) rfl g0 ?_; conv => whnf) | (apply And.intro; (first | omega | (unfold inI; omega) | (dsimp only; omega) | (unfold bitsOk; omega) | ((try dsimp only); simp only [List.length_map, List.length_take, List.length_append, List.length_replicate, List.length_cons, List.length_nil]; omega) | (simp only [btw_iff] at *; first | omega | (unfold inI; omega) | (unfold bitsOk; omega)) | exact stor_map (fun _ => rfl) | exact ⟨rfl, stor_cons rfl stor_nil⟩ | exact ⟨rfl, stor_map (fun _ => rfl) _⟩ | exact ⟨⟨rfl, by omega⟩, stor_map (fun _ => rfl) _⟩); conv => whnf) | (with_reducible apply get_mapN; omega; intro _; conv => whnf) | (with_reducible apply get_mapI; omega; intro _; conv => whnf) | (apply get_mapN; omega; intro _; conv => whnf) | (apply get_fill; omega; conv => whnf) | (apply ex_some; conv => whnf) | (apply get_map; omega; intro _; conv => whnf) | (apply vcG_dec <;> intro _ <;> conv => whnf) | (apply vcG_ndec <;> intro _ <;> conv => whnf) | (apply vcG_not <;> intro _ <;> conv => whnf) | (apply vcG_mk <;> intro _ <;> conv => whnf) | (apply vcIf_dec <;> intro _ <;> conv => whnf) | (apply vcIf_ndec <;> intro _ <;> conv => whnf) | (apply vcIf_not <;> intro _ <;> conv => whnf) | (apply vcIf_mk <;> intro _ <;> conv => whnf))
        all_goals (try simp only [btw_iff, btw_no] at *)
        all_goals first
          | (exfalso; omega)
          | exact ret_bool rfl (pathB_false hil (by rw [hst]; grind))
          | exact again 1 [0] ⟨by omega, upto_succ hs (by rw [hst]; grind)⟩ (by omega) ⟨rfl, by decide, rfl, ⟨⟨rfl, rfl⟩, ⟨rfl, rfl⟩, ⟨rfl, rfl⟩, trivial⟩, ⟨obj_box rfl rfl, trivial⟩⟩
      | succ j =>
        have hy := stepP_in (show j < p.length by omega) (hs j (by omega))
        have hst := stepP_s g p j hil (by omega)
        have g1 : (p.map enI)[j]? = some (enI p[j]) := by rw [List.getElem?_map, List.getElem?_eq_getElem (by omega)]; rfl
        have c2 := l4In_ok g.nx[p[j].toNat] (hrl _ (List.getElem_mem _)) p[j + 1]
        have g2 : (g.nx.map encL)[p[j].toNat]? = some (encL (g.nx[p[j].toNat]'(by omega))) := by rw [List.getElem?_map, List.getElem?_eq_getElem (by omega)]; rfl
        generalize g.nx[p[j].toNat] = row at *
        generalize p[j] = y at *
        generalize p[j + 1] = x at *
        repeat' (first | (apply AWP.go ok; rfl; conv => whnf) | (apply ord_mk; kernel_rfl; conv => whnf) | (refine get_eq (i := y.toNat) rfl g2 ?_; conv => whnf) | (refine get_eq (i := j) (by omega) g1 ?_; conv => whnf) | (refine get_eq (i := j + 1) (by first | rfl | omega) g0 ?_; conv => whnf) | (apply And.intro; (first | omega | (unfold inI; omega) | (dsimp only; omega) | (unfold bitsOk; omega) | ((try dsimp only); simp only [List.length_map, List.length_take, List.length_append, List.length_replicate, List.length_cons, List.length_nil]; omega) | (simp only [btw_iff] at *; first | omega | (unfold inI; omega) | (unfold bitsOk; omega)) | exact stor_map (fun _ => rfl) | exact ⟨rfl, stor_cons rfl stor_nil⟩ | exact ⟨rfl, stor_map (fun _ => rfl) _⟩ | exact ⟨⟨rfl, by omega⟩, stor_map (fun _ => rfl) _⟩); conv => whnf) | (with_reducible apply get_mapN; omega; intro _; conv => whnf) | (with_reducible apply get_mapI; omega; intro _; conv => whnf) | (apply get_mapN; omega; intro _; conv => whnf) | (apply get_fill; omega; conv => whnf) | (apply ex_some; conv => whnf) | (apply get_map; omega; intro _; conv => whnf) | (apply vcG_dec <;> intro _ <;> conv => whnf) | (apply vcG_ndec <;> intro _ <;> conv => whnf) | (apply vcG_not <;> intro _ <;> conv => whnf) | (apply vcG_mk <;> intro _ <;> conv => whnf) | (apply vcIf_dec <;> intro _ <;> conv => whnf) | (apply vcIf_ndec <;> intro _ <;> conv => whnf) | (apply vcIf_not <;> intro _ <;> conv => whnf) | (apply vcIf_mk <;> intro _ <;> conv => whnf) | (apply call_data (c2); rfl; rfl; conv => whnf))
        all_goals (try simp only [btw_iff, btw_no] at *)
        all_goals first
          | (exfalso; omega)
          | exact ret_bool rfl (pathB_false hil (by rw [hst]; grind))
          | exact again (j + 2) [0] ⟨by omega, upto_succ hs (by rw [hst]; grind)⟩ (by omega) ⟨rfl, by decide, rfl, ⟨⟨rfl, rfl⟩, ⟨rfl, rfl⟩, ⟨rfl, rfl⟩, trivial⟩, ⟨obj_box rfl rfl, trivial⟩⟩
          | skip
    · repeat' (first | (apply AWP.go ok; rfl; conv => whnf) | (apply ord_mk; kernel_rfl; conv => whnf) | (apply And.intro; (first | omega | (unfold inI; omega) | (dsimp only; omega) | (unfold bitsOk; omega) | ((try dsimp only); simp only [List.length_map, List.length_take, List.length_append, List.length_replicate, List.length_cons, List.length_nil]; omega) | (simp only [btw_iff] at *; first | omega | (unfold inI; omega) | (unfold bitsOk; omega)) | exact stor_map (fun _ => rfl) | exact ⟨rfl, stor_cons rfl stor_nil⟩ | exact ⟨rfl, stor_map (fun _ => rfl) _⟩ | exact ⟨⟨rfl, by omega⟩, stor_map (fun _ => rfl) _⟩); conv => whnf) | (with_reducible apply get_mapN; omega; intro _; conv => whnf) | (with_reducible apply get_mapI; omega; intro _; conv => whnf) | (apply get_mapN; omega; intro _; conv => whnf) | (apply get_fill; omega; conv => whnf) | (apply ex_some; conv => whnf) | (apply get_map; omega; intro _; conv => whnf) | (apply vcG_dec <;> intro _ <;> conv => whnf) | (apply vcG_ndec <;> intro _ <;> conv => whnf) | (apply vcG_not <;> intro _ <;> conv => whnf) | (apply vcG_mk <;> intro _ <;> conv => whnf) | (apply vcIf_dec <;> intro _ <;> conv => whnf) | (apply vcIf_ndec <;> intro _ <;> conv => whnf) | (apply vcIf_not <;> intro _ <;> conv => whnf) | (apply vcIf_mk <;> intro _ <;> conv => whnf))
      all_goals first | (exfalso; omega) | skip
      exact ret_bool rfl (pathB_true hgb (by omega) fun j hj => hs j (by omega))
  · have hgb := (Bool.not_eq_true _).mp hgb
    have e : pathB g p = false := by unfold pathB; rw [hgb]; rfl
    rw [hgb] at k1
    rw [e]
    refine callsA_of tabOk Try.func130 rfl rfl 56 Try.ntmps130 (by simp) ?_
    repeat' (first | (apply AWP.go ok; rfl; conv => whnf) | (apply ord_mk; kernel_rfl; conv => whnf) | (apply And.intro; (first | omega | (unfold inI; omega) | (dsimp only; omega) | (unfold bitsOk; omega) | ((try dsimp only); simp only [List.length_map, List.length_take, List.length_append, List.length_replicate, List.length_cons, List.length_nil]; omega) | (simp only [btw_iff] at *; first | omega | (unfold inI; omega) | (unfold bitsOk; omega)) | exact stor_map (fun _ => rfl) | exact ⟨rfl, stor_cons rfl stor_nil⟩ | exact ⟨rfl, stor_map (fun _ => rfl) _⟩ | exact ⟨⟨rfl, by omega⟩, stor_map (fun _ => rfl) _⟩); conv => whnf) | (with_reducible apply get_mapN; omega; intro _; conv => whnf) | (with_reducible apply get_mapI; omega; intro _; conv => whnf) | (apply get_mapN; omega; intro _; conv => whnf) | (apply get_fill; omega; conv => whnf) | (apply ex_some; conv => whnf) | (apply get_map; omega; intro _; conv => whnf) | (apply vcG_dec <;> intro _ <;> conv => whnf) | (apply vcG_ndec <;> intro _ <;> conv => whnf) | (apply vcG_not <;> intro _ <;> conv => whnf) | (apply vcG_mk <;> intro _ <;> conv => whnf) | (apply vcIf_dec <;> intro _ <;> conv => whnf) | (apply vcIf_ndec <;> intro _ <;> conv => whnf) | (apply vcIf_not <;> intro _ <;> conv => whnf) | (apply vcIf_mk <;> intro _ <;> conv => whnf) | (apply call_data (k1); rfl; rfl; conv => whnf))
    all_goals first | exact ret_bool rfl rfl | (exfalso; simp_all; done) | skip
end Go.Proofs.Ytcannajfdnipkaa

namespace Go.Proofs.Ytcannajfdnipkaa
open Go.Gl
attribute [local irreducible] vcCall AWP RetOk Again ordOk

structure Trace where
  stem : List Int
  loop : List Int
deriving DecidableEq
def Trace.cs (t : Trace) : List AC := [ints t.stem, ints t.loop]
def Trace.all (t : Trace) : List Int := t.stem ++ t.loop
noncomputable def trB (g : Graph) (t : Trace) : Bool := decide (1 ≤ t.loop.length ∧ t.stem.length + t.loop.length ≤ 8000) && (pathB g t.all && (decide (t.all.getD 0 0 = 0) && decide (t.loop.getD 0 0 ∈ g.nx.getD ((t.loop.getD (t.loop.length - 1) 0).toNat) [])))

theorem path_step {g : Graph} {p : List Int} (h : pathB g p = true) (i : Nat) (hi : i < p.length) : 0 ≤ p[i] ∧ p[i] < g.st.length := by
  unfold pathB at h
  rw [Bool.and_eq_true, Bool.and_eq_true, List.all_eq_true] at h
  exact stepP_in hi (h.2.2 i (List.mem_range.2 hi))
theorem path_graph {g : Graph} {p : List Int} (h : pathB g p = true) : graphB g = true := by
  unfold pathB at h
  exact (Bool.and_eq_true_iff.1 h).1
theorem map_at {l : List Int} {i : Nat} (h : i < l.length) : (l.map enI)[i]? = some (enI l[i]) := by rw [List.getElem?_map, List.getElem?_eq_getElem h]; rfl
theorem row_at {l : List (List Int)} {i : Nat} (h : i < l.length) : (l.map encL)[i]? = some (encL l[i]) := by rw [List.getElem?_map, List.getElem?_eq_getElem h]; rfl

theorem l8All_new (t : Trace) (h1 : t.stem.length ≤ 1048576) (h2 : t.loop.length ≤ 1048576) : CallsA Try.prog 129 [.agg t.cs] [] (.sref 0 0 (t.stem.length + t.loop.length)) [.cells 1 (t.all.map enI)] := by
  refine callsA_of tabOk Try.func129 rfl rfl 10 Try.ntmps129 (by simp) ?_
  repeat' (first | (apply AWP.go ok; rfl; conv => whnf) | (apply ord_mk; kernel_rfl; conv => whnf) | (apply And.intro; (first | omega | (unfold inI; omega) | (dsimp only; omega) | (unfold bitsOk; omega) | ((try dsimp only); simp only [List.length_map, List.length_take, List.length_append, List.length_replicate, List.length_cons, List.length_nil]; omega) | (simp only [btw_iff] at *; first | omega | (unfold inI; omega) | (unfold bitsOk; omega)) | exact stor_map (fun _ => rfl) | exact ⟨rfl, stor_cons rfl stor_nil⟩ | exact ⟨rfl, stor_map (fun _ => rfl) _⟩ | exact ⟨⟨rfl, by omega⟩, stor_map (fun _ => rfl) _⟩); conv => whnf) | (with_reducible apply get_mapN; omega; intro _; conv => whnf) | (with_reducible apply get_mapI; omega; intro _; conv => whnf) | (apply get_mapN; omega; intro _; conv => whnf) | (apply get_fill; omega; conv => whnf) | (apply ex_some; conv => whnf) | (apply get_map; omega; intro _; conv => whnf) | (apply vcG_dec <;> intro _ <;> conv => whnf) | (apply vcG_ndec <;> intro _ <;> conv => whnf) | (apply vcG_not <;> intro _ <;> conv => whnf) | (apply vcG_mk <;> intro _ <;> conv => whnf) | (apply vcIf_dec <;> intro _ <;> conv => whnf) | (apply vcIf_ndec <;> intro _ <;> conv => whnf) | (apply vcIf_not <;> intro _ <;> conv => whnf) | (apply vcIf_mk <;> intro _ <;> conv => whnf))
  all_goals exact ret_objs [3] (by decide) rfl (by first | rfl | exact congrArg (AC.sref 3 0) (by omega)) (by first | rfl | exact congrArg (AC.sref 3 0) (show 0 + t.stem.length + t.loop.length = t.stem.length + t.loop.length by omega)) ⟨obj_flat (cells_congr (by unfold Trace.all; rw [List.take_of_length_le (by simp), List.map_append]; simp)) (flat_map fun _ => rfl), trivial⟩

structure TrF (g : Graph) (t : Trace) (x y p0 : Int) (row : List Int) : Prop where
  hx : 0 ≤ x ∧ x < g.st.length
  gp : (t.all.map enI)[0]? = some (enI p0)
  ga : (t.all.map enI)[t.all.length - 1]? = some (enI x)
  gx : (t.loop.map enI)[t.loop.length - 1]? = some (enI x)
  gl : (t.loop.map enI)[0]? = some (enI y)
  gr : (g.nx.map encL)[x.toNat]? = some (encL row)
  rm : row.length ≤ maxLen
  e : trB g t = (decide (p0 = 0) && decide (y ∈ row))
theorem trF {g : Graph} (hg : g.mx) {t : Trace} (hs : 1 ≤ t.loop.length ∧ t.stem.length + t.loop.length ≤ 8000) (hb : pathB g t.all = true) : ∃ x y p0 row, TrF g t x y p0 row := by
  have hG := (graphB_iff g).1 (path_graph hb)
  have hal : t.all.length = t.stem.length + t.loop.length := by unfold Trace.all; simp
  have hl : t.loop.length - 1 < t.loop.length := by omega
  have ha : t.all.length - 1 < t.all.length := by omega
  have h0 : 0 < t.loop.length := by omega
  have hp := path_step hb _ ha
  have ex : t.all[t.all.length - 1] = t.loop[t.loop.length - 1] := by
    have : t.all[t.all.length - 1]? = t.loop[t.loop.length - 1]? := by
      rw [hal]
      unfold Trace.all
      rw [List.getElem?_append_right (by omega)]
      congr 1; omega
    rw [List.getElem?_eq_getElem ha, List.getElem?_eq_getElem hl] at this
    exact Option.some.inj this
  have hxn : (t.loop[t.loop.length - 1]).toNat < g.nx.length := by
    rw [ex] at hp; have := hG.2.1; omega
  refine ⟨t.loop[t.loop.length - 1], t.loop[0], t.all[0], g.nx[(t.loop[t.loop.length - 1]).toNat], ?_⟩
  refine ⟨by rw [← ex]; exact hp, map_at (by omega), by rw [← ex]; exact map_at ha, map_at hl, map_at h0, row_at hxn, hg.2.2 _ (List.getElem_mem _), ?_⟩
  unfold trB
  rw [decide_eq_true hs, hb, getD_at (show 0 < t.all.length by omega), getD_at h0, getD_at hl, getD_at hxn]; rfl

set_option maxHeartbeats 1600000 in
theorem implTrace_ok (g : Graph) (hg : g.mx) (t : Trace) (h1 : t.stem.length ≤ 1048576) (h2 : t.loop.length ≤ 1048576) : CallsA Try.prog 48 [.agg g.cs, .agg t.cs] [] (.bool (trB g t)) [] := by
  have hal : t.all.length = t.stem.length + t.loop.length := by unfold Trace.all; simp
  by_cases hs : 1 ≤ t.loop.length ∧ t.stem.length + t.loop.length ≤ 8000
  · have kn := concat_new t.stem t.loop (by omega) (by omega)
    have k1 := implPath_ok g hg t.all (by unfold maxLen; omega)
    by_cases hb : pathB g t.all = true
    · obtain ⟨x, y, p0, row, F⟩ := trF hg hs hb
      have c2 := containsInt_ok row F.rm y
      have hx := F.hx
      have gp := F.gp
      have gx := F.gx
      have gl := F.gl
      have gr := F.gr
      rw [hb] at k1
      rw [F.e]
      unfold Trace.all at *
      refine callsA_of tabOk Try.func48 rfl rfl 52 Try.ntmps48 (by simp) ?_
      repeat' (first | ((fail_if_success apply stopAt 5); (fail_if_success apply stopAtS 5); apply AWP.go ok; rfl; conv => whnf) | (apply ord_mk; kernel_rfl; conv => whnf) | (apply And.intro; (first | omega | (unfold inI; omega) | (dsimp only; omega) | (unfold bitsOk; omega) | ((try dsimp only); simp only [List.length_map, List.length_take, List.length_append, List.length_replicate, List.length_cons, List.length_nil]; omega) | (simp only [btw_iff] at *; first | omega | (unfold inI; omega) | (unfold bitsOk; omega)) | exact stor_map (fun _ => rfl) | exact ⟨rfl, stor_cons rfl stor_nil⟩ | exact ⟨rfl, stor_map (fun _ => rfl) _⟩ | exact ⟨⟨rfl, by omega⟩, stor_map (fun _ => rfl) _⟩); conv => whnf) | (with_reducible apply get_mapN; omega; intro _; conv => whnf) | (with_reducible apply get_mapI; omega; intro _; conv => whnf) | (apply get_mapN; omega; intro _; conv => whnf) | (apply get_fill; omega; conv => whnf) | (apply ex_some; conv => whnf) | (apply get_map; omega; intro _; conv => whnf) | (apply vcG_dec <;> intro _ <;> conv => whnf) | (apply vcG_ndec <;> intro _ <;> conv => whnf) | (apply vcG_not <;> intro _ <;> conv => whnf) | (apply vcG_mk <;> intro _ <;> conv => whnf) | (apply vcIf_dec <;> intro _ <;> conv => whnf) | (apply vcIf_ndec <;> intro _ <;> conv => whnf) | (apply vcIf_not <;> intro _ <;> conv => whnf) | (apply vcIf_mk <;> intro _ <;> conv => whnf) | (apply call_gen [] [2] [3] (kn); (focus (exact bor_cons (bor_list rfl rfl rfl rfl rfl) bor_nil)); (focus ((repeat' (first | exact passOk_nil | apply passOk_cons)) <;> (first | rfl | (refine pass_flat rfl ?_; (first | exact flat_nil | exact flat_replicate rfl | exact flat_map (fun _ => rfl) | exact flat_map Tree.co_flat | (apply flat_append <;> (first | exact flat_replicate rfl | exact flat_map (fun _ => rfl))) | assumption))))); rfl; rfl; rfl; rfl; rfl; (focus ((repeat' (first | exact rens_nil | apply rens_cons)) <;> (first | exact ren_dead | exact ren_box rfl rfl | (refine ren_flat ?_; (first | exact flat_nil | exact flat_replicate rfl | exact flat_map (fun _ => rfl) | exact flat_map Tree.co_flat | (apply flat_append <;> (first | exact flat_replicate rfl | exact flat_map (fun _ => rfl))) | assumption))))); (first | exact .inl rfl | (refine .inr ⟨rfl, ?_⟩; repeat' (first | exact True.intro | apply And.intro | exact rfl | exact plainLL_map (fun _ => rfl) _))); conv => whnf))
      all_goals first | (exfalso; omega) | skip
      refine AWP.reach (SealL.reach (π := [0, 1]) (Bn := [3]) (env := [(2, .ptr 0 none 0), (3, .ptr 1 none 0), (5, .int t.loop.length), (6, ints (t.stem ++ t.loop))]) (objs := [.cells 2 [[lst 2 State.cs g.st, lst 1 encL g.nx]], .cells 2 [[ints t.stem, ints t.loop]]]) ⟨rfl, rfl, by simp, rfl, fun o ho => by simp at ho; rcases ho with rfl | rfl <;> rfl, ⟨rfl, rfl, rfl, bor_intsN rfl rfl rfl (by simp), trivial⟩, rfl⟩) ?_
      conv => whnf
      repeat' (first | (apply AWP.go ok; rfl; conv => whnf) | (apply ord_mk; kernel_rfl; conv => whnf) | (refine get_eq (i := x.toNat) rfl gr ?_; conv => whnf) | (refine get_eq (i := t.loop.length - 1) (by omega) gx ?_; conv => whnf) | (refine get_eq (i := 0) rfl gl ?_; conv => whnf) | (refine get_eq (i := 0) rfl gp ?_; conv => whnf) | (apply And.intro; (first | omega | (unfold inI; omega) | (dsimp only; omega) | (unfold bitsOk; omega) | ((try dsimp only); simp only [List.length_map, List.length_take, List.length_append, List.length_replicate, List.length_cons, List.length_nil]; omega) | (simp only [btw_iff] at *; first | omega | (unfold inI; omega) | (unfold bitsOk; omega)) | exact stor_map (fun _ => rfl) | exact ⟨rfl, stor_cons rfl stor_nil⟩ | exact ⟨rfl, stor_map (fun _ => rfl) _⟩ | exact ⟨⟨rfl, by omega⟩, stor_map (fun _ => rfl) _⟩); conv => whnf) | (with_reducible apply get_mapN; omega; intro _; conv => whnf) | (with_reducible apply get_mapI; omega; intro _; conv => whnf) | (apply get_mapN; omega; intro _; conv => whnf) | (apply get_fill; omega; conv => whnf) | (apply ex_some; conv => whnf) | (apply get_map; omega; intro _; conv => whnf) | (apply vcG_dec <;> intro _ <;> conv => whnf) | (apply vcG_ndec <;> intro _ <;> conv => whnf) | (apply vcG_not <;> intro _ <;> conv => whnf) | (apply vcG_mk <;> intro _ <;> conv => whnf) | (apply vcIf_dec <;> intro _ <;> conv => whnf) | (apply vcIf_ndec <;> intro _ <;> conv => whnf) | (apply vcIf_not <;> intro _ <;> conv => whnf) | (apply vcIf_mk <;> intro _ <;> conv => whnf) | (apply call_data (k1); rfl; rfl; conv => whnf) | (apply call_data (c2); rfl; rfl; conv => whnf))
      all_goals first | (exfalso; omega) | exact ret_bool rfl (by grind) | (exfalso; simp_all; done) | skip
    · have e : trB g t = false := by unfold trB; rw [(Bool.not_eq_true _).mp hb]; simp
      rw [(Bool.not_eq_true _).mp hb] at k1
      rw [e]
      unfold Trace.all at *
      refine callsA_of tabOk Try.func48 rfl rfl 52 Try.ntmps48 (by simp) ?_
      repeat' (first | ((fail_if_success apply stopAt 5); (fail_if_success apply stopAtS 5); apply AWP.go ok; rfl; conv => whnf) | (apply ord_mk; kernel_rfl; conv => whnf) | (apply And.intro; (first | omega | (unfold inI; omega) | (dsimp only; omega) | (unfold bitsOk; omega) | ((try dsimp only); simp only [List.length_map, List.length_take, List.length_append, List.length_replicate, List.length_cons, List.length_nil]; omega) | (simp only [btw_iff] at *; first | omega | (unfold inI; omega) | (unfold bitsOk; omega)) | exact stor_map (fun _ => rfl) | exact ⟨rfl, stor_cons rfl stor_nil⟩ | exact ⟨rfl, stor_map (fun _ => rfl) _⟩ | exact ⟨⟨rfl, by omega⟩, stor_map (fun _ => rfl) _⟩); conv => whnf) | (with_reducible apply get_mapN; omega; intro _; conv => whnf) | (with_reducible apply get_mapI; omega; intro _; conv => whnf) | (apply get_mapN; omega; intro _; conv => whnf) | (apply get_fill; omega; conv => whnf) | (apply ex_some; conv => whnf) | (apply get_map; omega; intro _; conv => whnf) | (apply vcG_dec <;> intro _ <;> conv => whnf) | (apply vcG_ndec <;> intro _ <;> conv => whnf) | (apply vcG_not <;> intro _ <;> conv => whnf) | (apply vcG_mk <;> intro _ <;> conv => whnf) | (apply vcIf_dec <;> intro _ <;> conv => whnf) | (apply vcIf_ndec <;> intro _ <;> conv => whnf) | (apply vcIf_not <;> intro _ <;> conv => whnf) | (apply vcIf_mk <;> intro _ <;> conv => whnf) | (apply call_gen [] [2] [3] (kn); (focus (exact bor_cons (bor_list rfl rfl rfl rfl rfl) bor_nil)); (focus ((repeat' (first | exact passOk_nil | apply passOk_cons)) <;> (first | rfl | (refine pass_flat rfl ?_; (first | exact flat_nil | exact flat_replicate rfl | exact flat_map (fun _ => rfl) | exact flat_map Tree.co_flat | (apply flat_append <;> (first | exact flat_replicate rfl | exact flat_map (fun _ => rfl))) | assumption))))); rfl; rfl; rfl; rfl; rfl; (focus ((repeat' (first | exact rens_nil | apply rens_cons)) <;> (first | exact ren_dead | exact ren_box rfl rfl | (refine ren_flat ?_; (first | exact flat_nil | exact flat_replicate rfl | exact flat_map (fun _ => rfl) | exact flat_map Tree.co_flat | (apply flat_append <;> (first | exact flat_replicate rfl | exact flat_map (fun _ => rfl))) | assumption))))); (first | exact .inl rfl | (refine .inr ⟨rfl, ?_⟩; repeat' (first | exact True.intro | apply And.intro | exact rfl | exact plainLL_map (fun _ => rfl) _))); conv => whnf))
      all_goals first | (exfalso; omega) | skip
      refine AWP.reach (SealL.reach (π := [0, 1]) (Bn := [3]) (env := [(2, .ptr 0 none 0), (3, .ptr 1 none 0), (5, .int t.loop.length), (6, ints (t.stem ++ t.loop))]) (objs := [.cells 2 [[lst 2 State.cs g.st, lst 1 encL g.nx]], .cells 2 [[ints t.stem, ints t.loop]]]) ⟨rfl, rfl, by simp, rfl, fun o ho => by simp at ho; rcases ho with rfl | rfl <;> rfl, ⟨rfl, rfl, rfl, bor_intsN rfl rfl rfl (by simp), trivial⟩, rfl⟩) ?_
      conv => whnf
      repeat' (first | (apply AWP.go ok; rfl; conv => whnf) | (apply ord_mk; kernel_rfl; conv => whnf) | (apply And.intro; (first | omega | (unfold inI; omega) | (dsimp only; omega) | (unfold bitsOk; omega) | ((try dsimp only); simp only [List.length_map, List.length_take, List.length_append, List.length_replicate, List.length_cons, List.length_nil]; omega) | (simp only [btw_iff] at *; first | omega | (unfold inI; omega) | (unfold bitsOk; omega)) | exact stor_map (fun _ => rfl) | exact ⟨rfl, stor_cons rfl stor_nil⟩ | exact ⟨rfl, stor_map (fun _ => rfl) _⟩ | exact ⟨⟨rfl, by omega⟩, stor_map (fun _ => rfl) _⟩); conv => whnf) | (with_reducible apply get_mapN; omega; intro _; conv => whnf) | (with_reducible apply get_mapI; omega; intro _; conv => whnf) | (apply get_mapN; omega; intro _; conv => whnf) | (apply get_fill; omega; conv => whnf) | (apply ex_some; conv => whnf) | (apply get_map; omega; intro _; conv => whnf) | (apply vcG_dec <;> intro _ <;> conv => whnf) | (apply vcG_ndec <;> intro _ <;> conv => whnf) | (apply vcG_not <;> intro _ <;> conv => whnf) | (apply vcG_mk <;> intro _ <;> conv => whnf) | (apply vcIf_dec <;> intro _ <;> conv => whnf) | (apply vcIf_ndec <;> intro _ <;> conv => whnf) | (apply vcIf_not <;> intro _ <;> conv => whnf) | (apply vcIf_mk <;> intro _ <;> conv => whnf) | (apply call_data (k1); rfl; rfl; conv => whnf))
      all_goals first | (exfalso; omega) | exact ret_bool rfl rfl | (exfalso; simp_all; done) | skip
  · have e : trB g t = false := by unfold trB; rw [decide_eq_false hs]; simp
    rw [e]
    refine callsA_of tabOk Try.func48 rfl rfl 52 Try.ntmps48 (by simp) ?_
    repeat' (first | (apply AWP.go ok; rfl; conv => whnf) | (apply ord_mk; kernel_rfl; conv => whnf) | (apply And.intro; (first | omega | (unfold inI; omega) | (dsimp only; omega) | (unfold bitsOk; omega) | ((try dsimp only); simp only [List.length_map, List.length_take, List.length_append, List.length_replicate, List.length_cons, List.length_nil]; omega) | (simp only [btw_iff] at *; first | omega | (unfold inI; omega) | (unfold bitsOk; omega)) | exact stor_map (fun _ => rfl) | exact ⟨rfl, stor_cons rfl stor_nil⟩ | exact ⟨rfl, stor_map (fun _ => rfl) _⟩ | exact ⟨⟨rfl, by omega⟩, stor_map (fun _ => rfl) _⟩); conv => whnf) | (with_reducible apply get_mapN; omega; intro _; conv => whnf) | (with_reducible apply get_mapI; omega; intro _; conv => whnf) | (apply get_mapN; omega; intro _; conv => whnf) | (apply get_fill; omega; conv => whnf) | (apply ex_some; conv => whnf) | (apply get_map; omega; intro _; conv => whnf) | (apply vcG_dec <;> intro _ <;> conv => whnf) | (apply vcG_ndec <;> intro _ <;> conv => whnf) | (apply vcG_not <;> intro _ <;> conv => whnf) | (apply vcG_mk <;> intro _ <;> conv => whnf) | (apply vcIf_dec <;> intro _ <;> conv => whnf) | (apply vcIf_ndec <;> intro _ <;> conv => whnf) | (apply vcIf_not <;> intro _ <;> conv => whnf) | (apply vcIf_mk <;> intro _ <;> conv => whnf))
    all_goals first | (exfalso; omega) | exact ret_bool rfl rfl | (exfalso; simp_all; done) | skip

set_option maxHeartbeats 1600000 in
theorem specTrace_ok (g : Graph) (hg : g.mx) (t : Trace) (h1 : t.stem.length ≤ 1048576) (h2 : t.loop.length ≤ 1048576) : CallsA Try.prog 75 [.agg g.cs, .agg t.cs] [] (.bool (trB g t)) [] := by
  have hal : t.all.length = t.stem.length + t.loop.length := by unfold Trace.all; simp
  have kc := keepI (l8All_new t h1 h2) hal
  have k1 := specPath_ok g hg t.all (by unfold maxLen; omega)
  by_cases hs : 1 ≤ t.loop.length ∧ t.stem.length + t.loop.length ≤ 8000
  · by_cases hb : pathB g t.all = true
    · obtain ⟨x, y, p0, row, F⟩ := trF hg hs hb
      have c2 := l4In_ok row F.rm y
      have hx := F.hx
      have gp := F.gp
      have ga := F.ga
      have gl := F.gl
      have gr := F.gr
      rw [hb] at k1
      rw [F.e]
      generalize t.all = p at *
      refine callsA_of tabOk Try.func75 rfl rfl 44 Try.ntmps75 (by simp) ?_
      repeat' (first | (apply AWP.go ok; rfl; conv => whnf) | (apply ord_mk; kernel_rfl; conv => whnf) | (refine get_eq (i := x.toNat) rfl gr ?_; conv => whnf) | (refine get_eq (i := p.length - 1) (by omega) ga ?_; conv => whnf) | (refine get_eq (i := 0) rfl gl ?_; conv => whnf) | (refine get_eq (i := 0) rfl gp ?_; conv => whnf) | (apply And.intro; (first | omega | (unfold inI; omega) | (dsimp only; omega) | (unfold bitsOk; omega) | ((try dsimp only); simp only [List.length_map, List.length_take, List.length_append, List.length_replicate, List.length_cons, List.length_nil]; omega) | (simp only [btw_iff] at *; first | omega | (unfold inI; omega) | (unfold bitsOk; omega)) | exact stor_map (fun _ => rfl) | exact ⟨rfl, stor_cons rfl stor_nil⟩ | exact ⟨rfl, stor_map (fun _ => rfl) _⟩ | exact ⟨⟨rfl, by omega⟩, stor_map (fun _ => rfl) _⟩); conv => whnf) | (with_reducible apply get_mapN; omega; intro _; conv => whnf) | (with_reducible apply get_mapI; omega; intro _; conv => whnf) | (apply get_mapN; omega; intro _; conv => whnf) | (apply get_fill; omega; conv => whnf) | (apply ex_some; conv => whnf) | (apply get_map; omega; intro _; conv => whnf) | (apply vcG_dec <;> intro _ <;> conv => whnf) | (apply vcG_ndec <;> intro _ <;> conv => whnf) | (apply vcG_not <;> intro _ <;> conv => whnf) | (apply vcG_mk <;> intro _ <;> conv => whnf) | (apply vcIf_dec <;> intro _ <;> conv => whnf) | (apply vcIf_ndec <;> intro _ <;> conv => whnf) | (apply vcIf_not <;> intro _ <;> conv => whnf) | (apply vcIf_mk <;> intro _ <;> conv => whnf) | (apply call_data (kc); rfl; rfl; conv => whnf) | (apply call_data (k1); rfl; rfl; conv => whnf) | (apply call_data (c2); rfl; rfl; conv => whnf))
      all_goals first | (exfalso; omega) | exact ret_bool rfl (by grind) | (exfalso; simp_all; done) | skip
    · have e : trB g t = false := by unfold trB; rw [(Bool.not_eq_true _).mp hb]; simp
      have gp := map_at (l := t.all) (i := 0) (by omega)
      rw [(Bool.not_eq_true _).mp hb] at k1
      rw [e]
      generalize t.all[0]'(by omega) = p0 at *
      generalize t.all = p at *
      refine callsA_of tabOk Try.func75 rfl rfl 44 Try.ntmps75 (by simp) ?_
      repeat' (first | (apply AWP.go ok; rfl; conv => whnf) | (apply ord_mk; kernel_rfl; conv => whnf) | (refine get_eq (i := 0) rfl gp ?_; conv => whnf) | (apply And.intro; (first | omega | (unfold inI; omega) | (dsimp only; omega) | (unfold bitsOk; omega) | ((try dsimp only); simp only [List.length_map, List.length_take, List.length_append, List.length_replicate, List.length_cons, List.length_nil]; omega) | (simp only [btw_iff] at *; first | omega | (unfold inI; omega) | (unfold bitsOk; omega)) | exact stor_map (fun _ => rfl) | exact ⟨rfl, stor_cons rfl stor_nil⟩ | exact ⟨rfl, stor_map (fun _ => rfl) _⟩ | exact ⟨⟨rfl, by omega⟩, stor_map (fun _ => rfl) _⟩); conv => whnf) | (with_reducible apply get_mapN; omega; intro _; conv => whnf) | (with_reducible apply get_mapI; omega; intro _; conv => whnf) | (apply get_mapN; omega; intro _; conv => whnf) | (apply get_fill; omega; conv => whnf) | (apply ex_some; conv => whnf) | (apply get_map; omega; intro _; conv => whnf) | (apply vcG_dec <;> intro _ <;> conv => whnf) | (apply vcG_ndec <;> intro _ <;> conv => whnf) | (apply vcG_not <;> intro _ <;> conv => whnf) | (apply vcG_mk <;> intro _ <;> conv => whnf) | (apply vcIf_dec <;> intro _ <;> conv => whnf) | (apply vcIf_ndec <;> intro _ <;> conv => whnf) | (apply vcIf_not <;> intro _ <;> conv => whnf) | (apply vcIf_mk <;> intro _ <;> conv => whnf) | (apply call_data (kc); rfl; rfl; conv => whnf) | (apply call_data (k1); rfl; rfl; conv => whnf))
      all_goals first | (exfalso; omega) | exact ret_bool rfl rfl | (exfalso; simp_all; done) | skip
  · have e : trB g t = false := by unfold trB; rw [decide_eq_false hs]; simp
    rw [e]
    generalize t.all = p at *
    refine callsA_of tabOk Try.func75 rfl rfl 44 Try.ntmps75 (by simp) ?_
    repeat' (first | (apply AWP.go ok; rfl; conv => whnf) | (apply ord_mk; kernel_rfl; conv => whnf) | (apply And.intro; (first | omega | (unfold inI; omega) | (dsimp only; omega) | (unfold bitsOk; omega) | ((try dsimp only); simp only [List.length_map, List.length_take, List.length_append, List.length_replicate, List.length_cons, List.length_nil]; omega) | (simp only [btw_iff] at *; first | omega | (unfold inI; omega) | (unfold bitsOk; omega)) | exact stor_map (fun _ => rfl) | exact ⟨rfl, stor_cons rfl stor_nil⟩ | exact ⟨rfl, stor_map (fun _ => rfl) _⟩ | exact ⟨⟨rfl, by omega⟩, stor_map (fun _ => rfl) _⟩); conv => whnf) | (with_reducible apply get_mapN; omega; intro _; conv => whnf) | (with_reducible apply get_mapI; omega; intro _; conv => whnf) | (apply get_mapN; omega; intro _; conv => whnf) | (apply get_fill; omega; conv => whnf) | (apply ex_some; conv => whnf) | (apply get_map; omega; intro _; conv => whnf) | (apply vcG_dec <;> intro _ <;> conv => whnf) | (apply vcG_ndec <;> intro _ <;> conv => whnf) | (apply vcG_not <;> intro _ <;> conv => whnf) | (apply vcG_mk <;> intro _ <;> conv => whnf) | (apply vcIf_dec <;> intro _ <;> conv => whnf) | (apply vcIf_ndec <;> intro _ <;> conv => whnf) | (apply vcIf_not <;> intro _ <;> conv => whnf) | (apply vcIf_mk <;> intro _ <;> conv => whnf) | (apply call_data (kc); rfl; rfl; conv => whnf))
    all_goals first | (exfalso; omega) | exact ret_bool rfl rfl | (exfalso; simp_all; done) | skip
end Go.Proofs.Ytcannajfdnipkaa

namespace Go.Proofs.Ytcannajfdnipkaa
open Go.Gl
attribute [local irreducible] vcCall AWP RetOk Again ordOk

theorem l8Pick_ok (bl places : List Int) (hl : places.length ≤ 1048576) (hp : InN bl.length places) (hb : bl.length ≤ 1048576) : CallsA Try.prog 76 [ints bl, ints places] [] (ints (places.map (pick bl))) [] := by
  refine keepI (n := places.length) ?_ (by simp)
  have hpl : (places.map (pick bl)).length = places.length := by simp
  refine callsA_of tabOk Try.func76 rfl rfl 25 Try.ntmps76 (by simp) ?_
  repeat' (first | (apply AWP.go ok; rfl; conv => whnf) | (apply ord_mk; kernel_rfl; conv => whnf) | (apply And.intro; (first | omega | (unfold inI; omega) | (dsimp only; omega) | (unfold bitsOk; omega) | ((try dsimp only); simp only [List.length_map, List.length_take, List.length_append, List.length_replicate, List.length_cons, List.length_nil]; omega) | (simp only [btw_iff] at *; first | omega | (unfold inI; omega) | (unfold bitsOk; omega)) | exact stor_map (fun _ => rfl) | exact ⟨rfl, stor_cons rfl stor_nil⟩ | exact ⟨rfl, stor_map (fun _ => rfl) _⟩ | exact ⟨⟨rfl, by omega⟩, stor_map (fun _ => rfl) _⟩); conv => whnf) | (with_reducible apply get_mapN; omega; intro _; conv => whnf) | (with_reducible apply get_mapI; omega; intro _; conv => whnf) | (apply get_mapN; omega; intro _; conv => whnf) | (apply get_fill; omega; conv => whnf) | (apply ex_some; conv => whnf) | (apply get_map; omega; intro _; conv => whnf) | (apply vcG_dec <;> intro _ <;> conv => whnf) | (apply vcG_ndec <;> intro _ <;> conv => whnf) | (apply vcG_not <;> intro _ <;> conv => whnf) | (apply vcG_mk <;> intro _ <;> conv => whnf) | (apply vcIf_dec <;> intro _ <;> conv => whnf) | (apply vcIf_ndec <;> intro _ <;> conv => whnf) | (apply vcIf_not <;> intro _ <;> conv => whnf) | (apply vcIf_mk <;> intro _ <;> conv => whnf))
  refine loopA (fun k : Nat => ([(0, ints bl), (1, ints places), (5, .sref 0 0 k), (6, .int k)], [.cells 1 (((places.map (pick bl)).take k).map enI)])) (fun k => k ≤ places.length) (fun k => places.length - k) 0 (by omega) ⟨[0], rfl, by decide, rfl, ⟨⟨rfl, rfl⟩, ⟨rfl, rfl⟩, ⟨rfl, rfl⟩, ⟨rfl, rfl⟩, trivial⟩, ⟨obj_flat rfl (flat_map fun _ => rfl), trivial⟩⟩ ?_
  intro k hk
  have htl : (((places.map (pick bl)).take k).map enI).length = k := by simp; omega
  by_cases hkl : k < places.length
  · have hx := hp places[k] (List.getElem_mem _)
    have g0 := map_at (l := places) (i := k) hkl
    have g1 := map_at (l := bl) (i := places[k].toNat) (by omega)
    have hv : (places.map (pick bl))[k]'(by omega) = bl[places[k].toNat]'(by omega) := by
      simp only [List.getElem_map]; unfold pick; rw [getD_at (by omega)]
    generalize bl[places[k].toNat]'(by omega) = v at *
    generalize places[k] = x at *
    repeat' (first | (apply AWP.go ok; rfl; conv => whnf) | (apply ord_mk; kernel_rfl; conv => whnf) | (refine get_eq (i := x.toNat) rfl g1 ?_; conv => whnf) | (refine get_eq (i := k) rfl g0 ?_; conv => whnf) | (apply And.intro; (first | omega | (unfold inI; omega) | (dsimp only; omega) | (unfold bitsOk; omega) | ((try dsimp only); simp only [List.length_map, List.length_take, List.length_append, List.length_replicate, List.length_cons, List.length_nil]; omega) | (simp only [btw_iff] at *; first | omega | (unfold inI; omega) | (unfold bitsOk; omega)) | exact stor_map (fun _ => rfl) | exact ⟨rfl, stor_cons rfl stor_nil⟩ | exact ⟨rfl, stor_map (fun _ => rfl) _⟩ | exact ⟨⟨rfl, by omega⟩, stor_map (fun _ => rfl) _⟩); conv => whnf) | (with_reducible apply get_mapN; omega; intro _; conv => whnf) | (with_reducible apply get_mapI; omega; intro _; conv => whnf) | (apply get_mapN; omega; intro _; conv => whnf) | (apply get_fill; omega; conv => whnf) | (apply ex_some; conv => whnf) | (apply get_map; omega; intro _; conv => whnf) | (apply vcG_dec <;> intro _ <;> conv => whnf) | (apply vcG_ndec <;> intro _ <;> conv => whnf) | (apply vcG_not <;> intro _ <;> conv => whnf) | (apply vcG_mk <;> intro _ <;> conv => whnf) | (apply vcIf_dec <;> intro _ <;> conv => whnf) | (apply vcIf_ndec <;> intro _ <;> conv => whnf) | (apply vcIf_not <;> intro _ <;> conv => whnf) | (apply vcIf_mk <;> intro _ <;> conv => whnf))
    all_goals first | (exfalso; omega) | skip
    all_goals
      refine again (k + 1) [2] (by omega) (by omega) ⟨rfl, by decide, rfl, ⟨⟨rfl, rfl⟩, ⟨rfl, rfl⟩, ⟨rfl, rfl⟩, ⟨rfl, rfl⟩, trivial⟩, ⟨obj_flat (cells_congr ?_) (flat_map fun _ => rfl), trivial⟩⟩
      rw [List.take_of_length_le (by omega), List.take_succ_eq_append_getElem (by omega), List.map_append, hv]; rfl
  · repeat' (first | (apply AWP.go ok; rfl; conv => whnf) | (apply ord_mk; kernel_rfl; conv => whnf) | (apply And.intro; (first | omega | (unfold inI; omega) | (dsimp only; omega) | (unfold bitsOk; omega) | ((try dsimp only); simp only [List.length_map, List.length_take, List.length_append, List.length_replicate, List.length_cons, List.length_nil]; omega) | (simp only [btw_iff] at *; first | omega | (unfold inI; omega) | (unfold bitsOk; omega)) | exact stor_map (fun _ => rfl) | exact ⟨rfl, stor_cons rfl stor_nil⟩ | exact ⟨rfl, stor_map (fun _ => rfl) _⟩ | exact ⟨⟨rfl, by omega⟩, stor_map (fun _ => rfl) _⟩); conv => whnf) | (with_reducible apply get_mapN; omega; intro _; conv => whnf) | (with_reducible apply get_mapI; omega; intro _; conv => whnf) | (apply get_mapN; omega; intro _; conv => whnf) | (apply get_fill; omega; conv => whnf) | (apply ex_some; conv => whnf) | (apply get_map; omega; intro _; conv => whnf) | (apply vcG_dec <;> intro _ <;> conv => whnf) | (apply vcG_ndec <;> intro _ <;> conv => whnf) | (apply vcG_not <;> intro _ <;> conv => whnf) | (apply vcG_mk <;> intro _ <;> conv => whnf) | (apply vcIf_dec <;> intro _ <;> conv => whnf) | (apply vcIf_ndec <;> intro _ <;> conv => whnf) | (apply vcIf_not <;> intro _ <;> conv => whnf) | (apply vcIf_mk <;> intro _ <;> conv => whnf))
    all_goals first | (exfalso; omega) | skip
    obtain rfl : k = places.length := by omega
    exact ret_objs [0] (by decide) rfl rfl rfl ⟨obj_flat (cells_congr (by rw [List.take_of_length_le (by omega)])) (flat_map fun _ => rfl), trivial⟩

def letB (l : List Int) : Bool := !(l.any fun n => !btw n 0 7)
theorem letters1_ok (n : Int) : CallsA Try.prog 159 [.int n] [] (.bool (!btw n 0 7)) [] := by
  refine callsA_of tabOk Try.func159 rfl rfl 6 Try.ntmps159 (by simp) ?_
  repeat' (first | (apply AWP.go ok; rfl; conv => whnf) | (apply ord_mk; kernel_rfl; conv => whnf) | (apply And.intro; (first | omega | (unfold inI; omega) | (dsimp only; omega) | (unfold bitsOk; omega) | ((try dsimp only); simp only [List.length_map, List.length_take, List.length_append, List.length_replicate, List.length_cons, List.length_nil]; omega) | (simp only [btw_iff] at *; first | omega | (unfold inI; omega) | (unfold bitsOk; omega)) | exact stor_map (fun _ => rfl) | exact ⟨rfl, stor_cons rfl stor_nil⟩ | exact ⟨rfl, stor_map (fun _ => rfl) _⟩ | exact ⟨⟨rfl, by omega⟩, stor_map (fun _ => rfl) _⟩); conv => whnf) | (with_reducible apply get_mapN; omega; intro _; conv => whnf) | (with_reducible apply get_mapI; omega; intro _; conv => whnf) | (apply get_mapN; omega; intro _; conv => whnf) | (apply get_fill; omega; conv => whnf) | (apply ex_some; conv => whnf) | (apply get_map; omega; intro _; conv => whnf) | (apply vcG_dec <;> intro _ <;> conv => whnf) | (apply vcG_ndec <;> intro _ <;> conv => whnf) | (apply vcG_not <;> intro _ <;> conv => whnf) | (apply vcG_mk <;> intro _ <;> conv => whnf) | (apply vcIf_dec <;> intro _ <;> conv => whnf) | (apply vcIf_ndec <;> intro _ <;> conv => whnf) | (apply vcIf_not <;> intro _ <;> conv => whnf) | (apply vcIf_mk <;> intro _ <;> conv => whnf) | (apply call_data (in_ok n 0 7); rfl; rfl; conv => whnf))
  exact ret_bool rfl rfl
theorem letters_ok (l : List Int) (hl : l.length ≤ maxLen) : CallsA Try.prog 132 [ints l] [] (.bool (letB l)) [] := by
  have hk := containsFunc_int l hl (fun n => !btw n 0 7) 159 (fun x _ => letters1_ok x)
  refine callsA_of tabOk Try.func132 rfl rfl 6 Try.ntmps132 (by simp) ?_
  repeat' (first | (apply AWP.go ok; rfl; conv => whnf) | (apply ord_mk; kernel_rfl; conv => whnf) | (apply And.intro; (first | omega | (unfold inI; omega) | (dsimp only; omega) | (unfold bitsOk; omega) | ((try dsimp only); simp only [List.length_map, List.length_take, List.length_append, List.length_replicate, List.length_cons, List.length_nil]; omega) | (simp only [btw_iff] at *; first | omega | (unfold inI; omega) | (unfold bitsOk; omega)) | exact stor_map (fun _ => rfl) | exact ⟨rfl, stor_cons rfl stor_nil⟩ | exact ⟨rfl, stor_map (fun _ => rfl) _⟩ | exact ⟨⟨rfl, by omega⟩, stor_map (fun _ => rfl) _⟩); conv => whnf) | (with_reducible apply get_mapN; omega; intro _; conv => whnf) | (with_reducible apply get_mapI; omega; intro _; conv => whnf) | (apply get_mapN; omega; intro _; conv => whnf) | (apply get_fill; omega; conv => whnf) | (apply ex_some; conv => whnf) | (apply get_map; omega; intro _; conv => whnf) | (apply vcG_dec <;> intro _ <;> conv => whnf) | (apply vcG_ndec <;> intro _ <;> conv => whnf) | (apply vcG_not <;> intro _ <;> conv => whnf) | (apply vcG_mk <;> intro _ <;> conv => whnf) | (apply vcIf_dec <;> intro _ <;> conv => whnf) | (apply vcIf_ndec <;> intro _ <;> conv => whnf) | (apply vcIf_not <;> intro _ <;> conv => whnf) | (apply vcIf_mk <;> intro _ <;> conv => whnf) | (apply call_data (hk); rfl; rfl; conv => whnf))
  exact ret_bool rfl rfl
theorem letB_false {l : List Int} {i : Nat} (hi : i < l.length) (h : ¬ (0 ≤ l[i] ∧ l[i] ≤ 7)) : letB l = false := by
  unfold letB
  have : (l.any fun n => !btw n 0 7) = true := by
    rw [List.any_eq_true]
    exact ⟨l[i], List.getElem_mem _, by rw [btw_no.2 h]; rfl⟩
  rw [this]; rfl
theorem letB_true {l : List Int} (h : ∀ i (hi : i < l.length), 0 ≤ l[i] ∧ l[i] ≤ 7) : letB l = true := by
  unfold letB
  have : (l.any fun n => !btw n 0 7) = false := by
    rw [List.any_eq_false]
    intro x hx
    obtain ⟨i, hi, rfl⟩ := List.mem_iff_getElem.1 hx
    rw [btw_iff.2 (h i hi)]; simp
  rw [this]; rfl
theorem l6Letters_ok (l : List Int) (hl : l.length ≤ maxLen) : CallsA Try.prog 131 [ints l] [] (.bool (letB l)) [] := by
  unfold maxLen at hl
  refine callsA_of tabOk Try.func131 rfl rfl 22 Try.ntmps131 (by simp) ?_
  repeat' (first | (apply AWP.go ok; rfl; conv => whnf) | (apply ord_mk; kernel_rfl; conv => whnf) | (apply And.intro; (first | omega | (unfold inI; omega) | (dsimp only; omega) | (unfold bitsOk; omega) | ((try dsimp only); simp only [List.length_map, List.length_take, List.length_append, List.length_replicate, List.length_cons, List.length_nil]; omega) | (simp only [btw_iff] at *; first | omega | (unfold inI; omega) | (unfold bitsOk; omega)) | exact stor_map (fun _ => rfl) | exact ⟨rfl, stor_cons rfl stor_nil⟩ | exact ⟨rfl, stor_map (fun _ => rfl) _⟩ | exact ⟨⟨rfl, by omega⟩, stor_map (fun _ => rfl) _⟩); conv => whnf) | (with_reducible apply get_mapN; omega; intro _; conv => whnf) | (with_reducible apply get_mapI; omega; intro _; conv => whnf) | (apply get_mapN; omega; intro _; conv => whnf) | (apply get_fill; omega; conv => whnf) | (apply ex_some; conv => whnf) | (apply get_map; omega; intro _; conv => whnf) | (apply vcG_dec <;> intro _ <;> conv => whnf) | (apply vcG_ndec <;> intro _ <;> conv => whnf) | (apply vcG_not <;> intro _ <;> conv => whnf) | (apply vcG_mk <;> intro _ <;> conv => whnf) | (apply vcIf_dec <;> intro _ <;> conv => whnf) | (apply vcIf_ndec <;> intro _ <;> conv => whnf) | (apply vcIf_not <;> intro _ <;> conv => whnf) | (apply vcIf_mk <;> intro _ <;> conv => whnf))
  refine loopA (fun k : Nat => ([(0, ints l), (3, .int k)], [])) (fun k => k ≤ l.length ∧ ∀ j (hj : j < l.length), j < k → 0 ≤ l[j] ∧ l[j] ≤ 7) (fun k => l.length - k) 0 ⟨by omega, fun j _ hj => by omega⟩ ⟨[], rfl, by decide, rfl, ⟨⟨rfl, rfl⟩, ⟨rfl, rfl⟩, trivial⟩, trivial⟩ ?_
  rintro k ⟨hk, hs⟩
  by_cases hkl : k < l.length
  · have g0 := map_at (l := l) (i := k) hkl
    have hf := letB_false (l := l) (i := k) hkl
    have hn : (0 ≤ l[k] ∧ l[k] ≤ 7) → ∀ j (hj : j < l.length), j < k + 1 → 0 ≤ l[j] ∧ l[j] ≤ 7 := fun h j hj hjk => by
      rcases Nat.lt_or_ge j k with h3 | h3
      · exact hs j hj h3
      · obtain rfl : j = k := by omega
        exact h
    generalize l[k] = x at *
    repeat' (first | (apply AWP.go ok; rfl; conv => whnf) | (apply ord_mk; kernel_rfl; conv => whnf) | (refine get_eq (i := k) rfl g0 ?_; conv => whnf) | (apply And.intro; (first | omega | (unfold inI; omega) | (dsimp only; omega) | (unfold bitsOk; omega) | ((try dsimp only); simp only [List.length_map, List.length_take, List.length_append, List.length_replicate, List.length_cons, List.length_nil]; omega) | (simp only [btw_iff] at *; first | omega | (unfold inI; omega) | (unfold bitsOk; omega)) | exact stor_map (fun _ => rfl) | exact ⟨rfl, stor_cons rfl stor_nil⟩ | exact ⟨rfl, stor_map (fun _ => rfl) _⟩ | exact ⟨⟨rfl, by omega⟩, stor_map (fun _ => rfl) _⟩); conv => whnf) | (with_reducible apply get_mapN; omega; intro _; conv => whnf) | (with_reducible apply get_mapI; omega; intro _; conv => whnf) | (apply get_mapN; omega; intro _; conv => whnf) | (apply get_fill; omega; conv => whnf) | (apply ex_some; conv => whnf) | (apply get_map; omega; intro _; conv => whnf) | (apply vcG_dec <;> intro _ <;> conv => whnf) | (apply vcG_ndec <;> intro _ <;> conv => whnf) | (apply vcG_not <;> intro _ <;> conv => whnf) | (apply vcG_mk <;> intro _ <;> conv => whnf) | (apply vcIf_dec <;> intro _ <;> conv => whnf) | (apply vcIf_ndec <;> intro _ <;> conv => whnf) | (apply vcIf_not <;> intro _ <;> conv => whnf) | (apply vcIf_mk <;> intro _ <;> conv => whnf))
    all_goals first
      | (exfalso; omega)
      | exact ret_bool rfl (hf (by omega))
      | exact again (k + 1) [] ⟨by omega, hn (by omega)⟩ (by omega) ⟨rfl, by decide, rfl, ⟨⟨rfl, rfl⟩, ⟨rfl, rfl⟩, trivial⟩, trivial⟩
  · repeat' (first | (apply AWP.go ok; rfl; conv => whnf) | (apply ord_mk; kernel_rfl; conv => whnf) | (apply And.intro; (first | omega | (unfold inI; omega) | (dsimp only; omega) | (unfold bitsOk; omega) | ((try dsimp only); simp only [List.length_map, List.length_take, List.length_append, List.length_replicate, List.length_cons, List.length_nil]; omega) | (simp only [btw_iff] at *; first | omega | (unfold inI; omega) | (unfold bitsOk; omega)) | exact stor_map (fun _ => rfl) | exact ⟨rfl, stor_cons rfl stor_nil⟩ | exact ⟨rfl, stor_map (fun _ => rfl) _⟩ | exact ⟨⟨rfl, by omega⟩, stor_map (fun _ => rfl) _⟩); conv => whnf) | (with_reducible apply get_mapN; omega; intro _; conv => whnf) | (with_reducible apply get_mapI; omega; intro _; conv => whnf) | (apply get_mapN; omega; intro _; conv => whnf) | (apply get_fill; omega; conv => whnf) | (apply ex_some; conv => whnf) | (apply get_map; omega; intro _; conv => whnf) | (apply vcG_dec <;> intro _ <;> conv => whnf) | (apply vcG_ndec <;> intro _ <;> conv => whnf) | (apply vcG_not <;> intro _ <;> conv => whnf) | (apply vcG_mk <;> intro _ <;> conv => whnf) | (apply vcIf_dec <;> intro _ <;> conv => whnf) | (apply vcIf_ndec <;> intro _ <;> conv => whnf) | (apply vcIf_not <;> intro _ <;> conv => whnf) | (apply vcIf_mk <;> intro _ <;> conv => whnf))
    all_goals first | (exfalso; omega) | skip
    exact ret_bool rfl (letB_true fun i hi => hs i hi (by omega))

def lasB (t : Trace) : Bool := letB t.stem && (letB t.loop && (decide (t.stem.length ≤ 80) && btw t.loop.length 1 80))
theorem implLasso_ok (t : Trace) (h1 : t.stem.length ≤ maxLen) (h2 : t.loop.length ≤ maxLen) : CallsA Try.prog 80 [.agg t.cs] [] (.bool (lasB t)) [] := by
  have k1 := letters_ok t.stem h1
  have k2 := letters_ok t.loop h2
  have k3 := in_ok (t.loop.length : Int) 1 80
  unfold maxLen at h1 h2
  unfold lasB
  generalize letB t.stem = a at *
  generalize letB t.loop = b at *
  refine callsA_of tabOk Try.func80 rfl rfl 23 Try.ntmps80 (by simp) ?_
  cases a <;> cases b
  all_goals
    repeat' (first | (apply AWP.go ok; rfl; conv => whnf) | (apply ord_mk; kernel_rfl; conv => whnf) | (apply And.intro; (first | omega | (unfold inI; omega) | (dsimp only; omega) | (unfold bitsOk; omega) | ((try dsimp only); simp only [List.length_map, List.length_take, List.length_append, List.length_replicate, List.length_cons, List.length_nil]; omega) | (simp only [btw_iff] at *; first | omega | (unfold inI; omega) | (unfold bitsOk; omega)) | exact stor_map (fun _ => rfl) | exact ⟨rfl, stor_cons rfl stor_nil⟩ | exact ⟨rfl, stor_map (fun _ => rfl) _⟩ | exact ⟨⟨rfl, by omega⟩, stor_map (fun _ => rfl) _⟩); conv => whnf) | (with_reducible apply get_mapN; omega; intro _; conv => whnf) | (with_reducible apply get_mapI; omega; intro _; conv => whnf) | (apply get_mapN; omega; intro _; conv => whnf) | (apply get_fill; omega; conv => whnf) | (apply ex_some; conv => whnf) | (apply get_map; omega; intro _; conv => whnf) | (apply vcG_dec <;> intro _ <;> conv => whnf) | (apply vcG_ndec <;> intro _ <;> conv => whnf) | (apply vcG_not <;> intro _ <;> conv => whnf) | (apply vcG_mk <;> intro _ <;> conv => whnf) | (apply vcIf_dec <;> intro _ <;> conv => whnf) | (apply vcIf_ndec <;> intro _ <;> conv => whnf) | (apply vcIf_not <;> intro _ <;> conv => whnf) | (apply vcIf_mk <;> intro _ <;> conv => whnf) | (apply call_data (k1); rfl; rfl; conv => whnf) | (apply call_data (k2); rfl; rfl; conv => whnf) | (apply call_data (k3); rfl; rfl; conv => whnf))
    all_goals first | (exfalso; omega) | exact ret_bool rfl rfl | exact ret_bool rfl (by grind) | skip
theorem specLasso_ok (t : Trace) (h1 : t.stem.length ≤ maxLen) (h2 : t.loop.length ≤ maxLen) : CallsA Try.prog 77 [.agg t.cs] [] (.bool (lasB t)) [] := by
  have k1 := l6Letters_ok t.stem h1
  have k2 := l6Letters_ok t.loop h2
  unfold maxLen at h1 h2
  unfold lasB
  generalize letB t.stem = a at *
  generalize letB t.loop = b at *
  refine callsA_of tabOk Try.func77 rfl rfl 29 Try.ntmps77 (by simp) ?_
  cases a <;> cases b
  all_goals
    repeat' (first | (apply AWP.go ok; rfl; conv => whnf) | (apply ord_mk; kernel_rfl; conv => whnf) | (apply And.intro; (first | omega | (unfold inI; omega) | (dsimp only; omega) | (unfold bitsOk; omega) | ((try dsimp only); simp only [List.length_map, List.length_take, List.length_append, List.length_replicate, List.length_cons, List.length_nil]; omega) | (simp only [btw_iff] at *; first | omega | (unfold inI; omega) | (unfold bitsOk; omega)) | exact stor_map (fun _ => rfl) | exact ⟨rfl, stor_cons rfl stor_nil⟩ | exact ⟨rfl, stor_map (fun _ => rfl) _⟩ | exact ⟨⟨rfl, by omega⟩, stor_map (fun _ => rfl) _⟩); conv => whnf) | (with_reducible apply get_mapN; omega; intro _; conv => whnf) | (with_reducible apply get_mapI; omega; intro _; conv => whnf) | (apply get_mapN; omega; intro _; conv => whnf) | (apply get_fill; omega; conv => whnf) | (apply ex_some; conv => whnf) | (apply get_map; omega; intro _; conv => whnf) | (apply vcG_dec <;> intro _ <;> conv => whnf) | (apply vcG_ndec <;> intro _ <;> conv => whnf) | (apply vcG_not <;> intro _ <;> conv => whnf) | (apply vcG_mk <;> intro _ <;> conv => whnf) | (apply vcIf_dec <;> intro _ <;> conv => whnf) | (apply vcIf_ndec <;> intro _ <;> conv => whnf) | (apply vcIf_not <;> intro _ <;> conv => whnf) | (apply vcIf_mk <;> intro _ <;> conv => whnf) | (apply call_data (k1); rfl; rfl; conv => whnf) | (apply call_data (k2); rfl; rfl; conv => whnf))
    all_goals first | (exfalso; omega) | exact ret_bool rfl rfl | exact ret_bool rfl (by unfold btw; grind) | skip
end Go.Proofs.Ytcannajfdnipkaa

namespace Go.Proofs.Ytcannajfdnipkaa
open Go.Gl
attribute [local irreducible] vcCall AWP RetOk Again ordOk

theorem ltr_ltC (v : List Int) : ∀ (l : List Tree) (k n : Nat), n < 2 ^ k → ltr v l k n < 2 ^ (k + l.length) := by
  intro l
  induction l with
  | nil => intro k n h; simpa [ltr] using h
  | cons t l ih =>
    intro k n h
    rw [ltr]
    have e : k + (t :: l).length = k + 1 + l.length := by simp only [List.length_cons]; omega
    rw [e]
    refine ih (k + 1) _ ?_
    split
    · rw [Nat.pow_succ]; omega
    · exact or_lt h

def wordT (L : List Int) (t : Trace) : Trace := ⟨t.stem.map (pick L), t.loop.map (pick L)⟩
noncomputable def twB (g : Graph) (l : List Tree) (t : Trace) : Bool := glB g l && (trB g t && lasB (wordT (g.st.map (letterZ l)) t))
noncomputable def twT (g : Graph) (l : List Tree) (t : Trace) : Trace := if twB g l t then wordT (g.st.map (letterZ l)) t else ⟨[], []⟩
theorem trB_in {g : Graph} {t : Trace} (h : trB g t = true) : InN g.st.length t.stem ∧ InN g.st.length t.loop ∧ t.stem.length + t.loop.length ≤ 8000 := by
  unfold trB at h
  rw [Bool.and_eq_true, Bool.and_eq_true, decide_eq_true_eq] at h
  have key : ∀ x ∈ t.all, 0 ≤ x ∧ x < g.st.length := fun x hx => by
    obtain ⟨i, hi, rfl⟩ := List.mem_iff_getElem.1 hx
    exact path_step h.2.1 i hi
  exact ⟨fun x hx => key x (List.mem_append_left _ hx), fun x hx => key x (List.mem_append_right _ hx), h.1.2⟩
theorem twT_le {g : Graph} {l : List Tree} {t : Trace} : (twT g l t).stem.length ≤ 80 ∧ (twT g l t).loop.length ≤ 80 := by
  unfold twT
  split
  · rename_i h
    unfold twB lasB at h
    simp only [Bool.and_eq_true, decide_eq_true_eq, btw_iff] at h
    exact ⟨by omega, by omega⟩
  · simp

theorem agg2_nils {o p : Nat} {b : AC} : ACle (.tup [.agg [.nils, .nils], b]) (.tup [.agg [.sref o 0 0, .sref p 0 0], b]) := fun G hh v hv => by
  simp only [V, VL] at hv ⊢
  obtain ⟨c, rfl, hs, ⟨u, h1, c2, rfl, hs2, ⟨u1, h2, h3⟩, ⟨u2, h4, h5⟩, _⟩, hr⟩ := hv
  refine ⟨c, rfl, hs, ⟨_, h1, c2, rfl, hs2, ⟨u1, h2, ?_⟩, ⟨u2, h4, ?_⟩, trivial⟩, hr⟩
  · have := (nil_sref (o := o)) G hh u1 (by simpa [V] using h3)
    simpa [V] using this
  · have := (nil_sref (o := p)) G hh u2 (by simpa [V] using h5)
    simpa [V] using this

theorem nil2_le {b : AC} : ACle (.tup [.agg [.nils, .nils], b]) (.tup [.agg (Trace.mk [] []).cs, b]) := fun G hh v hv => by
  simp only [V, VL] at hv ⊢
  obtain ⟨c, rfl, hs, ⟨u, h1, c2, rfl, hs2, ⟨u1, h2, h3⟩, ⟨u2, h4, h5⟩, _⟩, hr⟩ := hv
  exact ⟨c, rfl, hs, ⟨_, h1, c2, rfl, hs2, ⟨u1, h2, nils_le G hh u1 (by simpa [V] using h3)⟩, ⟨u2, h4, nils_le G hh u2 (by simpa [V] using h5)⟩, trivial⟩, hr⟩

set_option maxHeartbeats 1600000 in
theorem implTraceWord_new (g : Graph) (hg : g.mx) (l : List Tree) (hl : Lmx l) (t : Trace) (h1 : t.stem.length ≤ 1048576) (h2 : t.loop.length ≤ 1048576) : CallsA Try.prog 30 [.agg g.cs, lst 3 Tree.cs' l, .agg t.cs] [] (.tup [.agg [.sref 0 0 (twT g l t).stem.length, .sref 1 0 (twT g l t).loop.length], .bool (twB g l t)]) [.cells 1 ((twT g l t).stem.map enI), .cells 1 ((twT g l t).loop.map enI)] := by
  have k1 := implTrace_ok g hg t h1 h2
  have k2 := labelsValid_ok l hl.1 hl.2
  by_cases hv : (trB g t && labelsB l) = true
  · obtain ⟨ht, hlb⟩ := Bool.and_eq_true_iff.1 hv
    have hgb : graphB g = true := by
      unfold trB at ht
      rw [Bool.and_eq_true, Bool.and_eq_true] at ht
      exact path_graph ht.2.1
    have hG := (graphB_iff g).1 hgb
    have hL := LabelsOk.of hlb
    have k3 := label_ok g hG.vals hG.1.2 l hL
    obtain ⟨i1, i2, i3⟩ := trB_in ht
    have hLl : (g.st.map (letterZ l)).length = g.st.length := by simp
    have h60 := hG.1.2
    have hglb : glB g l = true := by unfold glB; rw [hgb, hlb]; rfl
    have eb : twB g l t = lasB (wordT (g.st.map (letterZ l)) t) := by unfold twB; rw [hglb, ht]; rfl
    have et : twT g l t = if lasB (wordT (g.st.map (letterZ l)) t) then wordT (g.st.map (letterZ l)) t else ⟨[], []⟩ := by unfold twT; rw [eb]
    rw [eb, et]
    generalize g.st.map (letterZ l) = L at *
    have kp1 := picked_new L t.stem h1 (by rw [hLl]; exact i1) (by omega)
    have kp2 := picked_new L t.loop h2 (by rw [hLl]; exact i2) (by omega)
    have hw1 : (wordT L t).stem.length = t.stem.length := by simp [wordT]
    have hw2 : (wordT L t).loop.length = t.loop.length := by simp [wordT]
    have kl := implLasso_ok (wordT L t) (by unfold maxLen; omega) (by unfold maxLen; omega)
    have e1 : t.stem.map (pick L) = (wordT L t).stem := rfl
    have e2 : t.loop.map (pick L) = (wordT L t).loop := rfl
    rw [e1, ← hw1] at kp1
    rw [e2, ← hw2] at kp2
    rw [ht] at k1
    rw [hlb] at k2
    generalize hW : wordT L t = W at *
    by_cases hb : lasB W = true
    · rw [hb] at kl ⊢
      rw [if_pos rfl]
      refine callsA_of tabOk Try.func30 rfl rfl 37 Try.ntmps30 (by simp) ?_
      repeat' (first | (apply AWP.go ok; rfl; conv => whnf) | (apply ord_mk; kernel_rfl; conv => whnf) | (apply And.intro; (first | omega | (unfold inI; omega) | (dsimp only; omega) | (unfold bitsOk; omega) | ((try dsimp only); simp only [List.length_map, List.length_take, List.length_append, List.length_replicate, List.length_cons, List.length_nil]; omega) | (simp only [btw_iff] at *; first | omega | (unfold inI; omega) | (unfold bitsOk; omega)) | exact stor_map (fun _ => rfl) | exact ⟨rfl, stor_cons rfl stor_nil⟩ | exact ⟨rfl, stor_map (fun _ => rfl) _⟩ | exact ⟨⟨rfl, by omega⟩, stor_map (fun _ => rfl) _⟩); conv => whnf) | (with_reducible apply get_mapN; omega; intro _; conv => whnf) | (with_reducible apply get_mapI; omega; intro _; conv => whnf) | (apply get_mapN; omega; intro _; conv => whnf) | (apply get_fill; omega; conv => whnf) | (apply ex_some; conv => whnf) | (apply get_map; omega; intro _; conv => whnf) | (apply vcG_dec <;> intro _ <;> conv => whnf) | (apply vcG_ndec <;> intro _ <;> conv => whnf) | (apply vcG_not <;> intro _ <;> conv => whnf) | (apply vcG_mk <;> intro _ <;> conv => whnf) | (apply vcIf_dec <;> intro _ <;> conv => whnf) | (apply vcIf_ndec <;> intro _ <;> conv => whnf) | (apply vcIf_not <;> intro _ <;> conv => whnf) | (apply vcIf_mk <;> intro _ <;> conv => whnf) | (apply call_data (k1); rfl; rfl; conv => whnf) | (apply call_data (k2); rfl; rfl; conv => whnf) | (apply call_data (k3); rfl; rfl; conv => whnf) | (apply call_gen [] [] [3] (kp1); rfl; (focus ((repeat' (first | exact passOk_nil | apply passOk_cons)) <;> (first | rfl | (refine pass_flat rfl ?_; (first | exact flat_nil | exact flat_replicate rfl | exact flat_map (fun _ => rfl) | exact flat_map Tree.co_flat | (apply flat_append <;> (first | exact flat_replicate rfl | exact flat_map (fun _ => rfl))) | assumption))))); rfl; rfl; rfl; rfl; rfl; (focus ((repeat' (first | exact rens_nil | apply rens_cons)) <;> (first | exact ren_dead | exact ren_box rfl rfl | (refine ren_flat ?_; (first | exact flat_nil | exact flat_replicate rfl | exact flat_map (fun _ => rfl) | exact flat_map Tree.co_flat | (apply flat_append <;> (first | exact flat_replicate rfl | exact flat_map (fun _ => rfl))) | assumption))))); (first | exact .inl rfl | (refine .inr ⟨rfl, ?_⟩; repeat' (first | exact True.intro | apply And.intro | exact rfl | exact plainLL_map (fun _ => rfl) _))); conv => whnf) | (apply call_gen [] [] [4] (kp2); rfl; (focus ((repeat' (first | exact passOk_nil | apply passOk_cons)) <;> (first | rfl | (refine pass_flat rfl ?_; (first | exact flat_nil | exact flat_replicate rfl | exact flat_map (fun _ => rfl) | exact flat_map Tree.co_flat | (apply flat_append <;> (first | exact flat_replicate rfl | exact flat_map (fun _ => rfl))) | assumption))))); rfl; rfl; rfl; rfl; rfl; (focus ((repeat' (first | exact rens_nil | apply rens_cons)) <;> (first | exact ren_dead | exact ren_box rfl rfl | (refine ren_flat ?_; (first | exact flat_nil | exact flat_replicate rfl | exact flat_map (fun _ => rfl) | exact flat_map Tree.co_flat | (apply flat_append <;> (first | exact flat_replicate rfl | exact flat_map (fun _ => rfl))) | assumption))))); (first | exact .inl rfl | (refine .inr ⟨rfl, ?_⟩; repeat' (first | exact True.intro | apply And.intro | exact rfl | exact plainLL_map (fun _ => rfl) _))); conv => whnf) | (apply call_gen [] [3, 4] [] (kl); (focus (exact bor_cons (bor_agg (bor_cons (bor_ints rfl rfl rfl) (bor_cons (bor_ints rfl rfl rfl) bor_nil))) bor_nil)); (focus ((repeat' (first | exact passOk_nil | apply passOk_cons)) <;> (first | rfl | (refine pass_flat rfl ?_; (first | exact flat_nil | exact flat_replicate rfl | exact flat_map (fun _ => rfl) | exact flat_map Tree.co_flat | (apply flat_append <;> (first | exact flat_replicate rfl | exact flat_map (fun _ => rfl))) | assumption))))); rfl; rfl; rfl; rfl; rfl; (focus ((repeat' (first | exact rens_nil | apply rens_cons)) <;> (first | exact ren_dead | exact ren_box rfl rfl | (refine ren_flat ?_; (first | exact flat_nil | exact flat_replicate rfl | exact flat_map (fun _ => rfl) | exact flat_map Tree.co_flat | (apply flat_append <;> (first | exact flat_replicate rfl | exact flat_map (fun _ => rfl))) | assumption))))); (first | exact .inl rfl | (refine .inr ⟨rfl, ?_⟩; repeat' (first | exact True.intro | apply And.intro | exact rfl | exact plainLL_map (fun _ => rfl) _))); conv => whnf))
      all_goals first | (exfalso; omega) | (exfalso; simp_all; done) | skip
      all_goals exact ret_objs [3, 4] (by decide) rfl rfl rfl ⟨obj_flat rfl (flat_map fun _ => rfl), obj_flat rfl (flat_map fun _ => rfl), trivial⟩
    · rw [(Bool.not_eq_true _).mp hb] at kl ⊢
      rw [if_neg (by simp)]
      refine CallsA.nils (res := .tup [.agg [.nils, .nils], .bool false]) ?_ (by simp) agg2_nils
      refine callsA_of tabOk Try.func30 rfl rfl 37 Try.ntmps30 (by simp) ?_
      repeat' (first | (apply AWP.go ok; rfl; conv => whnf) | (apply ord_mk; kernel_rfl; conv => whnf) | (apply And.intro; (first | omega | (unfold inI; omega) | (dsimp only; omega) | (unfold bitsOk; omega) | ((try dsimp only); simp only [List.length_map, List.length_take, List.length_append, List.length_replicate, List.length_cons, List.length_nil]; omega) | (simp only [btw_iff] at *; first | omega | (unfold inI; omega) | (unfold bitsOk; omega)) | exact stor_map (fun _ => rfl) | exact ⟨rfl, stor_cons rfl stor_nil⟩ | exact ⟨rfl, stor_map (fun _ => rfl) _⟩ | exact ⟨⟨rfl, by omega⟩, stor_map (fun _ => rfl) _⟩); conv => whnf) | (with_reducible apply get_mapN; omega; intro _; conv => whnf) | (with_reducible apply get_mapI; omega; intro _; conv => whnf) | (apply get_mapN; omega; intro _; conv => whnf) | (apply get_fill; omega; conv => whnf) | (apply ex_some; conv => whnf) | (apply get_map; omega; intro _; conv => whnf) | (apply vcG_dec <;> intro _ <;> conv => whnf) | (apply vcG_ndec <;> intro _ <;> conv => whnf) | (apply vcG_not <;> intro _ <;> conv => whnf) | (apply vcG_mk <;> intro _ <;> conv => whnf) | (apply vcIf_dec <;> intro _ <;> conv => whnf) | (apply vcIf_ndec <;> intro _ <;> conv => whnf) | (apply vcIf_not <;> intro _ <;> conv => whnf) | (apply vcIf_mk <;> intro _ <;> conv => whnf) | (apply call_data (k1); rfl; rfl; conv => whnf) | (apply call_data (k2); rfl; rfl; conv => whnf) | (apply call_data (k3); rfl; rfl; conv => whnf) | (apply call_gen [] [] [3] (kp1); rfl; (focus ((repeat' (first | exact passOk_nil | apply passOk_cons)) <;> (first | rfl | (refine pass_flat rfl ?_; (first | exact flat_nil | exact flat_replicate rfl | exact flat_map (fun _ => rfl) | exact flat_map Tree.co_flat | (apply flat_append <;> (first | exact flat_replicate rfl | exact flat_map (fun _ => rfl))) | assumption))))); rfl; rfl; rfl; rfl; rfl; (focus ((repeat' (first | exact rens_nil | apply rens_cons)) <;> (first | exact ren_dead | exact ren_box rfl rfl | (refine ren_flat ?_; (first | exact flat_nil | exact flat_replicate rfl | exact flat_map (fun _ => rfl) | exact flat_map Tree.co_flat | (apply flat_append <;> (first | exact flat_replicate rfl | exact flat_map (fun _ => rfl))) | assumption))))); (first | exact .inl rfl | (refine .inr ⟨rfl, ?_⟩; repeat' (first | exact True.intro | apply And.intro | exact rfl | exact plainLL_map (fun _ => rfl) _))); conv => whnf) | (apply call_gen [] [] [4] (kp2); rfl; (focus ((repeat' (first | exact passOk_nil | apply passOk_cons)) <;> (first | rfl | (refine pass_flat rfl ?_; (first | exact flat_nil | exact flat_replicate rfl | exact flat_map (fun _ => rfl) | exact flat_map Tree.co_flat | (apply flat_append <;> (first | exact flat_replicate rfl | exact flat_map (fun _ => rfl))) | assumption))))); rfl; rfl; rfl; rfl; rfl; (focus ((repeat' (first | exact rens_nil | apply rens_cons)) <;> (first | exact ren_dead | exact ren_box rfl rfl | (refine ren_flat ?_; (first | exact flat_nil | exact flat_replicate rfl | exact flat_map (fun _ => rfl) | exact flat_map Tree.co_flat | (apply flat_append <;> (first | exact flat_replicate rfl | exact flat_map (fun _ => rfl))) | assumption))))); (first | exact .inl rfl | (refine .inr ⟨rfl, ?_⟩; repeat' (first | exact True.intro | apply And.intro | exact rfl | exact plainLL_map (fun _ => rfl) _))); conv => whnf) | (apply call_gen [] [3, 4] [] (kl); (focus (exact bor_cons (bor_agg (bor_cons (bor_ints rfl rfl rfl) (bor_cons (bor_ints rfl rfl rfl) bor_nil))) bor_nil)); (focus ((repeat' (first | exact passOk_nil | apply passOk_cons)) <;> (first | rfl | (refine pass_flat rfl ?_; (first | exact flat_nil | exact flat_replicate rfl | exact flat_map (fun _ => rfl) | exact flat_map Tree.co_flat | (apply flat_append <;> (first | exact flat_replicate rfl | exact flat_map (fun _ => rfl))) | assumption))))); rfl; rfl; rfl; rfl; rfl; (focus ((repeat' (first | exact rens_nil | apply rens_cons)) <;> (first | exact ren_dead | exact ren_box rfl rfl | (refine ren_flat ?_; (first | exact flat_nil | exact flat_replicate rfl | exact flat_map (fun _ => rfl) | exact flat_map Tree.co_flat | (apply flat_append <;> (first | exact flat_replicate rfl | exact flat_map (fun _ => rfl))) | assumption))))); (first | exact .inl rfl | (refine .inr ⟨rfl, ?_⟩; repeat' (first | exact True.intro | apply And.intro | exact rfl | exact plainLL_map (fun _ => rfl) _))); conv => whnf))
      all_goals first | (exfalso; omega) | exact ret_data rfl rfl rfl | (exfalso; simp_all; done) | skip
  · have hv := (Bool.not_eq_true _).mp hv
    have eb : twB g l t = false := by
      unfold twB glB
      revert hv
      cases trB g t <;> cases labelsB l <;> cases graphB g <;> simp
    have et : twT g l t = ⟨[], []⟩ := by unfold twT; rw [eb]; rfl
    rw [eb, et]
    generalize trB g t = b1 at *
    generalize labelsB l = b2 at *
    refine CallsA.nils (res := .tup [.agg [.nils, .nils], .bool false]) ?_ (by simp) agg2_nils
    refine callsA_of tabOk Try.func30 rfl rfl 37 Try.ntmps30 (by simp) ?_
    cases b1 <;> cases b2 <;> first | (exfalso; revert hv; decide) | skip
    all_goals
      repeat' (first | (apply AWP.go ok; rfl; conv => whnf) | (apply ord_mk; kernel_rfl; conv => whnf) | (apply And.intro; (first | omega | (unfold inI; omega) | (dsimp only; omega) | (unfold bitsOk; omega) | ((try dsimp only); simp only [List.length_map, List.length_take, List.length_append, List.length_replicate, List.length_cons, List.length_nil]; omega) | (simp only [btw_iff] at *; first | omega | (unfold inI; omega) | (unfold bitsOk; omega)) | exact stor_map (fun _ => rfl) | exact ⟨rfl, stor_cons rfl stor_nil⟩ | exact ⟨rfl, stor_map (fun _ => rfl) _⟩ | exact ⟨⟨rfl, by omega⟩, stor_map (fun _ => rfl) _⟩); conv => whnf) | (with_reducible apply get_mapN; omega; intro _; conv => whnf) | (with_reducible apply get_mapI; omega; intro _; conv => whnf) | (apply get_mapN; omega; intro _; conv => whnf) | (apply get_fill; omega; conv => whnf) | (apply ex_some; conv => whnf) | (apply get_map; omega; intro _; conv => whnf) | (apply vcG_dec <;> intro _ <;> conv => whnf) | (apply vcG_ndec <;> intro _ <;> conv => whnf) | (apply vcG_not <;> intro _ <;> conv => whnf) | (apply vcG_mk <;> intro _ <;> conv => whnf) | (apply vcIf_dec <;> intro _ <;> conv => whnf) | (apply vcIf_ndec <;> intro _ <;> conv => whnf) | (apply vcIf_not <;> intro _ <;> conv => whnf) | (apply vcIf_mk <;> intro _ <;> conv => whnf) | (apply call_data (k1); rfl; rfl; conv => whnf) | (apply call_data (k2); rfl; rfl; conv => whnf))
      all_goals first | (exfalso; omega) | exact ret_data rfl rfl rfl | (exfalso; simp_all; done) | skip

set_option maxHeartbeats 1600000 in
theorem specTraceWord_ok (g : Graph) (hg : g.mx) (l : List Tree) (hl : Lmx l) (t : Trace) (h1 : t.stem.length ≤ 1048576) (h2 : t.loop.length ≤ 1048576) : CallsA Try.prog 28 [.agg g.cs, lst 3 Tree.cs' l, .agg t.cs] [] (.tup [.agg (twT g l t).cs, .bool (twB g l t)]) [] := by
  have k0 := specLabelGraph_ok g hg l hl
  have k1 := specTrace_ok g hg t h1 h2
  by_cases hv : (glB g l && trB g t) = true
  · obtain ⟨hglb, ht⟩ := Bool.and_eq_true_iff.1 hv
    have hgb : graphB g = true := by unfold glB at hglb; exact (Bool.and_eq_true_iff.1 hglb).1
    have hG := (graphB_iff g).1 hgb
    obtain ⟨i1, i2, i3⟩ := trB_in ht
    have hLl : (g.st.map (letterZ l)).length = g.st.length := by simp
    have h60 := hG.1.2
    have eb : twB g l t = lasB (wordT (g.st.map (letterZ l)) t) := by unfold twB; rw [hglb, ht]; rfl
    have et : twT g l t = if lasB (wordT (g.st.map (letterZ l)) t) then wordT (g.st.map (letterZ l)) t else ⟨[], []⟩ := by unfold twT; rw [eb]
    rw [if_pos hglb, hglb] at k0
    rw [ht] at k1
    rw [eb, et]
    generalize g.st.map (letterZ l) = L at *
    have kp1 := l8Pick_ok L t.stem h1 (by rw [hLl]; exact i1) (by omega)
    have kp2 := l8Pick_ok L t.loop h2 (by rw [hLl]; exact i2) (by omega)
    have hw1 : (wordT L t).stem.length = t.stem.length := by simp [wordT]
    have hw2 : (wordT L t).loop.length = t.loop.length := by simp [wordT]
    have kl := specLasso_ok (wordT L t) (by unfold maxLen; omega) (by unfold maxLen; omega)
    have e1 : t.stem.map (pick L) = (wordT L t).stem := rfl
    have e2 : t.loop.map (pick L) = (wordT L t).loop := rfl
    rw [e1] at kp1
    rw [e2] at kp2
    generalize hW : wordT L t = W at *
    generalize hq : lasB W = q at *
    refine callsA_of tabOk Try.func28 rfl rfl 40 Try.ntmps28 (by simp) ?_
    cases q
    · rw [if_neg (by simp)]
      repeat' (first | (apply AWP.go ok; rfl; conv => whnf) | (apply ord_mk; kernel_rfl; conv => whnf) | (apply And.intro; (first | omega | (unfold inI; omega) | (dsimp only; omega) | (unfold bitsOk; omega) | ((try dsimp only); simp only [List.length_map, List.length_take, List.length_append, List.length_replicate, List.length_cons, List.length_nil]; omega) | (simp only [btw_iff] at *; first | omega | (unfold inI; omega) | (unfold bitsOk; omega)) | exact stor_map (fun _ => rfl) | exact ⟨rfl, stor_cons rfl stor_nil⟩ | exact ⟨rfl, stor_map (fun _ => rfl) _⟩ | exact ⟨⟨rfl, by omega⟩, stor_map (fun _ => rfl) _⟩); conv => whnf) | (with_reducible apply get_mapN; omega; intro _; conv => whnf) | (with_reducible apply get_mapI; omega; intro _; conv => whnf) | (apply get_mapN; omega; intro _; conv => whnf) | (apply get_fill; omega; conv => whnf) | (apply ex_some; conv => whnf) | (apply get_map; omega; intro _; conv => whnf) | (apply vcG_dec <;> intro _ <;> conv => whnf) | (apply vcG_ndec <;> intro _ <;> conv => whnf) | (apply vcG_not <;> intro _ <;> conv => whnf) | (apply vcG_mk <;> intro _ <;> conv => whnf) | (apply vcIf_dec <;> intro _ <;> conv => whnf) | (apply vcIf_ndec <;> intro _ <;> conv => whnf) | (apply vcIf_not <;> intro _ <;> conv => whnf) | (apply vcIf_mk <;> intro _ <;> conv => whnf) | (apply call_data (k0); rfl; rfl; conv => whnf) | (apply call_data (k1); rfl; rfl; conv => whnf) | (apply call_data (kp1); rfl; rfl; conv => whnf) | (apply call_data (kp2); rfl; rfl; conv => whnf) | (apply call_data (kl); rfl; rfl; conv => whnf))
      all_goals first | (exfalso; omega) | exact ret_data rfl rfl rfl | exact ret_le rfl rfl nil2_le | (exfalso; simp_all; done) | skip
    · rw [if_pos rfl]
      repeat' (first | (apply AWP.go ok; rfl; conv => whnf) | (apply ord_mk; kernel_rfl; conv => whnf) | (apply And.intro; (first | omega | (unfold inI; omega) | (dsimp only; omega) | (unfold bitsOk; omega) | ((try dsimp only); simp only [List.length_map, List.length_take, List.length_append, List.length_replicate, List.length_cons, List.length_nil]; omega) | (simp only [btw_iff] at *; first | omega | (unfold inI; omega) | (unfold bitsOk; omega)) | exact stor_map (fun _ => rfl) | exact ⟨rfl, stor_cons rfl stor_nil⟩ | exact ⟨rfl, stor_map (fun _ => rfl) _⟩ | exact ⟨⟨rfl, by omega⟩, stor_map (fun _ => rfl) _⟩); conv => whnf) | (with_reducible apply get_mapN; omega; intro _; conv => whnf) | (with_reducible apply get_mapI; omega; intro _; conv => whnf) | (apply get_mapN; omega; intro _; conv => whnf) | (apply get_fill; omega; conv => whnf) | (apply ex_some; conv => whnf) | (apply get_map; omega; intro _; conv => whnf) | (apply vcG_dec <;> intro _ <;> conv => whnf) | (apply vcG_ndec <;> intro _ <;> conv => whnf) | (apply vcG_not <;> intro _ <;> conv => whnf) | (apply vcG_mk <;> intro _ <;> conv => whnf) | (apply vcIf_dec <;> intro _ <;> conv => whnf) | (apply vcIf_ndec <;> intro _ <;> conv => whnf) | (apply vcIf_not <;> intro _ <;> conv => whnf) | (apply vcIf_mk <;> intro _ <;> conv => whnf) | (apply call_data (k0); rfl; rfl; conv => whnf) | (apply call_data (k1); rfl; rfl; conv => whnf) | (apply call_data (kp1); rfl; rfl; conv => whnf) | (apply call_data (kp2); rfl; rfl; conv => whnf) | (apply call_data (kl); rfl; rfl; conv => whnf))
      all_goals first | (exfalso; omega) | exact ret_data rfl rfl rfl | (exfalso; simp_all; done) | skip
  · have hv := (Bool.not_eq_true _).mp hv
    have eb : twB g l t = false := by
      unfold twB
      revert hv
      cases trB g t <;> cases glB g l <;> simp
    have et : twT g l t = ⟨[], []⟩ := by unfold twT; rw [eb]; rfl
    rw [eb, et]
    generalize trB g t = b1 at *
    generalize glB g l = b2 at *
    refine callsA_of tabOk Try.func28 rfl rfl 40 Try.ntmps28 (by simp) ?_
    cases b1 <;> cases b2 <;> first | (exfalso; revert hv; decide) | skip
    all_goals
      repeat' (first | (apply AWP.go ok; rfl; conv => whnf) | (apply ord_mk; kernel_rfl; conv => whnf) | (apply And.intro; (first | omega | (unfold inI; omega) | (dsimp only; omega) | (unfold bitsOk; omega) | ((try dsimp only); simp only [List.length_map, List.length_take, List.length_append, List.length_replicate, List.length_cons, List.length_nil]; omega) | (simp only [btw_iff] at *; first | omega | (unfold inI; omega) | (unfold bitsOk; omega)) | exact stor_map (fun _ => rfl) | exact ⟨rfl, stor_cons rfl stor_nil⟩ | exact ⟨rfl, stor_map (fun _ => rfl) _⟩ | exact ⟨⟨rfl, by omega⟩, stor_map (fun _ => rfl) _⟩); conv => whnf) | (with_reducible apply get_mapN; omega; intro _; conv => whnf) | (with_reducible apply get_mapI; omega; intro _; conv => whnf) | (apply get_mapN; omega; intro _; conv => whnf) | (apply get_fill; omega; conv => whnf) | (apply ex_some; conv => whnf) | (apply get_map; omega; intro _; conv => whnf) | (apply vcG_dec <;> intro _ <;> conv => whnf) | (apply vcG_ndec <;> intro _ <;> conv => whnf) | (apply vcG_not <;> intro _ <;> conv => whnf) | (apply vcG_mk <;> intro _ <;> conv => whnf) | (apply vcIf_dec <;> intro _ <;> conv => whnf) | (apply vcIf_ndec <;> intro _ <;> conv => whnf) | (apply vcIf_not <;> intro _ <;> conv => whnf) | (apply vcIf_mk <;> intro _ <;> conv => whnf) | (apply call_data (k0); rfl; rfl; conv => whnf) | (apply call_data (k1); rfl; rfl; conv => whnf))
      all_goals first | (exfalso; omega) | exact ret_data rfl rfl rfl | exact ret_le rfl rfl nil2_le | (exfalso; simp_all; done) | skip
end Go.Proofs.Ytcannajfdnipkaa

namespace Go.Proofs.Ytcannajfdnipkaa
open Go.Gl
section
attribute [local irreducible] vcCall
def Trace.a1 (t : Trace) : AC := ints t.stem
def Trace.a2 (t : Trace) : AC := ints t.loop
def Trace.s1 (t : Trace) : Nat := t.stem.length
def Trace.s2 (t : Trace) : Nat := t.loop.length
def Trace.mx (t : Trace) : Prop := t.stem.length ≤ maxLen ∧ t.loop.length ≤ maxLen
theorem szTrace_of (s : Trace) (n : Int) (c0 : ∀ n : Int, 0 ≤ n → n ≤ 1048576 → CallsA Try.prog 74 [Trace.a1 s, .int n] [] (.int (bud n (Trace.s1 s))) []) (c1 : ∀ n : Int, 0 ≤ n → n ≤ 1048576 → CallsA Try.prog 74 [Trace.a2 s, .int n] [] (.int (bud n (Trace.s2 s))) []) (h0 : 0 ≤ n) (h1 : n ≤ 1048576) : CallsA Try.prog 27 [.agg (Trace.cs s), .int n] [] (.int (bud n (Trace.s1 s + Trace.s2 s))) [] := by
  refine callsA_of tabOk Try.func27 rfl rfl 18 Try.ntmps27 (by simp) ?_
  repeat (first | refine AWP.go ok _ _ _ _ _ rfl ?_ | refine ord_mk (by kernel_rfl) ?_ | refine And.intro (by first | omega | (unfold inI; omega) | (dsimp only; omega)) ?_)
  refine call_data (c0 (n) (by omega) (by omega)) ?_ ?_ ?_
  · rfl
  · rfl
  repeat (first | refine AWP.go ok _ _ _ _ _ rfl ?_ | refine ord_mk (by kernel_rfl) ?_ | refine And.intro (by first | omega | (unfold inI; omega) | (dsimp only; omega)) ?_)
  refine vcIf_dec (fun g0 => ?_) (fun g0 => ?_)
  · repeat (first | refine AWP.go ok _ _ _ _ _ rfl ?_ | refine ord_mk (by kernel_rfl) ?_ | refine And.intro (by first | omega | (unfold inI; omega) | (dsimp only; omega)) ?_)
    have e : bud n (Trace.s1 s + Trace.s2 s) = -1 := by unfold bud at g0 ⊢; split at g0 <;> rw [if_pos (by omega)] <;> omega
    rw [e]
    exact ⟨[], by decide, rfl, rfl, ACle.of_eq rfl, trivial⟩
  have e0 : bud (n) (Trace.s1 s) = n - (Trace.s1 s : Int) := by unfold bud at g0 ⊢; split at g0 <;> rename_i hh <;> (first | rw [if_pos hh] | rw [if_neg hh]) <;> omega
  rw [e0] at g0 ⊢
  repeat (first | refine AWP.go ok _ _ _ _ _ rfl ?_ | refine ord_mk (by kernel_rfl) ?_ | refine And.intro (by first | omega | (unfold inI; omega) | (dsimp only; omega)) ?_)
  refine call_data (c1 (n - (Trace.s1 s : Int)) (by omega) (by omega)) ?_ ?_ ?_
  · rfl
  · rfl
  repeat (first | refine AWP.go ok _ _ _ _ _ rfl ?_ | refine ord_mk (by kernel_rfl) ?_ | refine And.intro (by first | omega | (unfold inI; omega) | (dsimp only; omega)) ?_)
  refine vcIf_dec (fun g1 => ?_) (fun g1 => ?_)
  · repeat (first | refine AWP.go ok _ _ _ _ _ rfl ?_ | refine ord_mk (by kernel_rfl) ?_ | refine And.intro (by first | omega | (unfold inI; omega) | (dsimp only; omega)) ?_)
    have e : bud n (Trace.s1 s + Trace.s2 s) = -1 := by unfold bud at g1 ⊢; split at g1 <;> rw [if_pos (by omega)] <;> omega
    rw [e]
    exact ⟨[], by decide, rfl, rfl, ACle.of_eq rfl, trivial⟩
  have e1 : bud (n - (Trace.s1 s : Int)) (Trace.s2 s) = n - (Trace.s1 s : Int) - (Trace.s2 s : Int) := by unfold bud at g1 ⊢; split at g1 <;> rename_i hh <;> (first | rw [if_pos hh] | rw [if_neg hh]) <;> omega
  rw [e1] at g1 ⊢
  repeat (first | refine AWP.go ok _ _ _ _ _ rfl ?_ | refine ord_mk (by kernel_rfl) ?_ | refine And.intro (by first | omega | (unfold inI; omega) | (dsimp only; omega)) ?_)
  have e : bud n (Trace.s1 s + Trace.s2 s) = n - (Trace.s1 s : Int) - (Trace.s2 s : Int) := by unfold bud; rw [if_neg (by omega)] <;> omega
  try rw [e]
  exact ⟨[], by decide, rfl, rfl, ACle.of_eq rfl, trivial⟩
theorem toTrace_of (s : Trace) (c0 : CallsA Try.prog 78 [Trace.a1 s] [] (Trace.a1 s) []) (c1 : CallsA Try.prog 78 [Trace.a2 s] [] (Trace.a2 s) []) : CallsA Try.prog 29 [.agg (Trace.cs s)] [] (.agg (Trace.cs s)) [] := by
  refine callsA_of tabOk Try.func29 rfl rfl 13 Try.ntmps29 (by simp) ?_
  repeat (first | refine AWP.go ok _ _ _ _ _ rfl ?_ | refine ord_mk (by kernel_rfl) ?_ | refine And.intro (by first | omega | (unfold inI; omega) | (dsimp only; omega)) ?_)
  refine call_data c0 ?_ ?_ ?_
  · rfl
  · rfl
  repeat (first | refine AWP.go ok _ _ _ _ _ rfl ?_ | refine ord_mk (by kernel_rfl) ?_ | refine And.intro (by first | omega | (unfold inI; omega) | (dsimp only; omega)) ?_)
  refine call_data c1 ?_ ?_ ?_
  · rfl
  · rfl
  repeat (first | refine AWP.go ok _ _ _ _ _ rfl ?_ | refine ord_mk (by kernel_rfl) ?_ | refine And.intro (by first | omega | (unfold inI; omega) | (dsimp only; omega)) ?_)
  exact ⟨[], by decide, rfl, rfl, ACle.of_eq rfl, trivial⟩
theorem eqTrace_of (s t : Trace) (c0 : CallsA Try.prog 15 [Trace.a1 s, Trace.a1 t] [] (.bool (decide (Trace.stem s = Trace.stem t))) []) (c1 : CallsA Try.prog 15 [Trace.a2 s, Trace.a2 t] [] (.bool (decide (Trace.loop s = Trace.loop t))) []) : CallsA Try.prog 32 [.agg (Trace.cs s), .agg (Trace.cs t)] [] (.bool (decide (s = t))) [] := by
  refine callsA_of tabOk Try.func32 rfl rfl 17 Try.ntmps32 (by simp) ?_
  repeat (first | refine AWP.go ok _ _ _ _ _ rfl ?_ | refine ord_mk (by kernel_rfl) ?_ | refine And.intro (by first | omega | (unfold inI; omega) | (dsimp only; omega)) ?_)
  refine call_data c0 ?_ ?_ ?_
  · rfl
  · rfl
  repeat (first | refine AWP.go ok _ _ _ _ _ rfl ?_ | refine ord_mk (by kernel_rfl) ?_ | refine And.intro (by first | omega | (unfold inI; omega) | (dsimp only; omega)) ?_)
  refine vcIf_ndec (fun h => ?_) (fun g0 => ?_)
  · repeat (first | refine AWP.go ok _ _ _ _ _ rfl ?_ | refine ord_mk (by kernel_rfl) ?_ | refine And.intro (by first | omega | (unfold inI; omega) | (dsimp only; omega)) ?_)
    have hne : s ≠ t := by rintro rfl; exact h rfl
    rw [decide_eq_false hne]
    exact ⟨[], by decide, rfl, rfl, ACle.of_eq rfl, trivial⟩
  repeat (first | refine AWP.go ok _ _ _ _ _ rfl ?_ | refine ord_mk (by kernel_rfl) ?_ | refine And.intro (by first | omega | (unfold inI; omega) | (dsimp only; omega)) ?_)
  refine call_data c1 ?_ ?_ ?_
  · rfl
  · rfl
  repeat (first | refine AWP.go ok _ _ _ _ _ rfl ?_ | refine ord_mk (by kernel_rfl) ?_ | refine And.intro (by first | omega | (unfold inI; omega) | (dsimp only; omega)) ?_)
  refine vcIf_ndec (fun h => ?_) (fun g1 => ?_)
  · repeat (first | refine AWP.go ok _ _ _ _ _ rfl ?_ | refine ord_mk (by kernel_rfl) ?_ | refine And.intro (by first | omega | (unfold inI; omega) | (dsimp only; omega)) ?_)
    have hne : s ≠ t := by rintro rfl; exact h rfl
    rw [decide_eq_false hne]
    exact ⟨[], by decide, rfl, rfl, ACle.of_eq rfl, trivial⟩
  repeat (first | refine AWP.go ok _ _ _ _ _ rfl ?_ | refine ord_mk (by kernel_rfl) ?_ | refine And.intro (by first | omega | (unfold inI; omega) | (dsimp only; omega)) ?_)
  have he : s = t := by cases s; cases t; simp_all
  rw [decide_eq_true he]
  exact ⟨[], by decide, rfl, rfl, ACle.of_eq rfl, trivial⟩
theorem eqLasso_of (s t : Trace) (c0 : CallsA Try.prog 15 [Trace.a1 s, Trace.a1 t] [] (.bool (decide (Trace.stem s = Trace.stem t))) []) (c1 : CallsA Try.prog 15 [Trace.a2 s, Trace.a2 t] [] (.bool (decide (Trace.loop s = Trace.loop t))) []) : CallsA Try.prog 31 [.agg (Trace.cs s), .agg (Trace.cs t)] [] (.bool (decide (s = t))) [] := by
  refine callsA_of tabOk Try.func31 rfl rfl 17 Try.ntmps31 (by simp) ?_
  repeat (first | refine AWP.go ok _ _ _ _ _ rfl ?_ | refine ord_mk (by kernel_rfl) ?_ | refine And.intro (by first | omega | (unfold inI; omega) | (dsimp only; omega)) ?_)
  refine call_data c0 ?_ ?_ ?_
  · rfl
  · rfl
  repeat (first | refine AWP.go ok _ _ _ _ _ rfl ?_ | refine ord_mk (by kernel_rfl) ?_ | refine And.intro (by first | omega | (unfold inI; omega) | (dsimp only; omega)) ?_)
  refine vcIf_ndec (fun h => ?_) (fun g0 => ?_)
  · repeat (first | refine AWP.go ok _ _ _ _ _ rfl ?_ | refine ord_mk (by kernel_rfl) ?_ | refine And.intro (by first | omega | (unfold inI; omega) | (dsimp only; omega)) ?_)
    have hne : s ≠ t := by rintro rfl; exact h rfl
    rw [decide_eq_false hne]
    exact ⟨[], by decide, rfl, rfl, ACle.of_eq rfl, trivial⟩
  repeat (first | refine AWP.go ok _ _ _ _ _ rfl ?_ | refine ord_mk (by kernel_rfl) ?_ | refine And.intro (by first | omega | (unfold inI; omega) | (dsimp only; omega)) ?_)
  refine call_data c1 ?_ ?_ ?_
  · rfl
  · rfl
  repeat (first | refine AWP.go ok _ _ _ _ _ rfl ?_ | refine ord_mk (by kernel_rfl) ?_ | refine And.intro (by first | omega | (unfold inI; omega) | (dsimp only; omega)) ?_)
  refine vcIf_ndec (fun h => ?_) (fun g1 => ?_)
  · repeat (first | refine AWP.go ok _ _ _ _ _ rfl ?_ | refine ord_mk (by kernel_rfl) ?_ | refine And.intro (by first | omega | (unfold inI; omega) | (dsimp only; omega)) ?_)
    have hne : s ≠ t := by rintro rfl; exact h rfl
    rw [decide_eq_false hne]
    exact ⟨[], by decide, rfl, rfl, ACle.of_eq rfl, trivial⟩
  repeat (first | refine AWP.go ok _ _ _ _ _ rfl ?_ | refine ord_mk (by kernel_rfl) ?_ | refine And.intro (by first | omega | (unfold inI; omega) | (dsimp only; omega)) ?_)
  have he : s = t := by cases s; cases t; simp_all
  rw [decide_eq_true he]
  exact ⟨[], by decide, rfl, rfl, ACle.of_eq rfl, trivial⟩
end
section
attribute [local irreducible] vcCall AWP RetOk Again ordOk

structure Trace.ok (t : Trace) : Prop where
  mx : t.mx
  l1 : t.stem.length ≤ 1048576
  l2 : t.loop.length ≤ 1048576
theorem Trace.ok_of {t : Trace} (h : t.mx) (h1 : t.s1 ≤ 1048576) (h2 : t.s2 ≤ 1048576) : t.ok := ⟨h, h1, h2⟩
theorem szTraceT (t : Trace) (h : t.mx) (n : Int) (h0 : 0 ≤ n) (h1 : n ≤ 1048576) : CallsA Try.prog 27 [.agg t.cs, .int n] [] (.int (bud n (t.s1 + t.s2))) [] := szTrace_of t n (fun n h0 h1 => szIntS_ok t.stem n h.1 h0 h1) (fun n h0 h1 => szIntS_ok t.loop n h.2 h0 h1) h0 h1
theorem toTraceS {t : Trace} (h : t.ok) : CallsA Try.prog 29 [.agg t.cs] [] (.agg t.cs) [] := toTrace_of t (toIntS_ok t.stem h.l1) (toIntS_ok t.loop h.l2)
theorem toTraceN {t : Trace} (h : t.ok) : CallsA Try.prog 29 [.agg t.cs] [] (.agg [.sref 0 0 t.stem.length, .sref 1 0 t.loop.length]) [.cells 1 (t.stem.map enI), .cells 1 (t.loop.map enI)] := by
  refine callsA_of tabOk Try.func29 rfl rfl 13 Try.ntmps29 (by simp) ?_
  repeat' (first | (apply AWP.go ok; rfl; conv => whnf) | (apply ord_mk; kernel_rfl; conv => whnf) | (apply And.intro; (first | omega | (unfold inI; omega) | (dsimp only; omega) | (unfold bitsOk; omega) | ((try dsimp only); simp only [List.length_map, List.length_take, List.length_append, List.length_replicate, List.length_cons, List.length_nil]; omega) | (simp only [btw_iff] at *; first | omega | (unfold inI; omega) | (unfold bitsOk; omega)) | exact stor_map (fun _ => rfl) | exact ⟨rfl, stor_cons rfl stor_nil⟩ | exact ⟨rfl, stor_map (fun _ => rfl) _⟩ | exact ⟨⟨rfl, by omega⟩, stor_map (fun _ => rfl) _⟩); conv => whnf) | (with_reducible apply get_mapN; omega; intro _; conv => whnf) | (with_reducible apply get_mapI; omega; intro _; conv => whnf) | (apply get_mapN; omega; intro _; conv => whnf) | (apply get_fill; omega; conv => whnf) | (apply ex_some; conv => whnf) | (apply get_map; omega; intro _; conv => whnf) | (apply vcG_dec <;> intro _ <;> conv => whnf) | (apply vcG_ndec <;> intro _ <;> conv => whnf) | (apply vcG_not <;> intro _ <;> conv => whnf) | (apply vcG_mk <;> intro _ <;> conv => whnf) | (apply vcIf_dec <;> intro _ <;> conv => whnf) | (apply vcIf_ndec <;> intro _ <;> conv => whnf) | (apply vcIf_not <;> intro _ <;> conv => whnf) | (apply vcIf_mk <;> intro _ <;> conv => whnf) | (apply call_gen [] [] [3] (toIntS_new t.stem h.l1); rfl; (focus ((repeat' (first | exact passOk_nil | apply passOk_cons)) <;> (first | rfl | (refine pass_flat rfl ?_; (first | exact flat_nil | exact flat_replicate rfl | exact flat_map (fun _ => rfl) | exact flat_map Tree.co_flat | (apply flat_append <;> (first | exact flat_replicate rfl | exact flat_map (fun _ => rfl))) | assumption))))); rfl; rfl; rfl; rfl; rfl; (focus ((repeat' (first | exact rens_nil | apply rens_cons)) <;> (first | exact ren_dead | exact ren_box rfl rfl | (refine ren_flat ?_; (first | exact flat_nil | exact flat_replicate rfl | exact flat_map (fun _ => rfl) | exact flat_map Tree.co_flat | (apply flat_append <;> (first | exact flat_replicate rfl | exact flat_map (fun _ => rfl))) | assumption))))); (first | exact .inl rfl | (refine .inr ⟨rfl, ?_⟩; repeat' (first | exact True.intro | apply And.intro | exact rfl | exact plainLL_map (fun _ => rfl) _))); conv => whnf) | (apply call_gen [] [] [4] (toIntS_new t.loop h.l2); rfl; (focus ((repeat' (first | exact passOk_nil | apply passOk_cons)) <;> (first | rfl | (refine pass_flat rfl ?_; (first | exact flat_nil | exact flat_replicate rfl | exact flat_map (fun _ => rfl) | exact flat_map Tree.co_flat | (apply flat_append <;> (first | exact flat_replicate rfl | exact flat_map (fun _ => rfl))) | assumption))))); rfl; rfl; rfl; rfl; rfl; (focus ((repeat' (first | exact rens_nil | apply rens_cons)) <;> (first | exact ren_dead | exact ren_box rfl rfl | (refine ren_flat ?_; (first | exact flat_nil | exact flat_replicate rfl | exact flat_map (fun _ => rfl) | exact flat_map Tree.co_flat | (apply flat_append <;> (first | exact flat_replicate rfl | exact flat_map (fun _ => rfl))) | assumption))))); (first | exact .inl rfl | (refine .inr ⟨rfl, ?_⟩; repeat' (first | exact True.intro | apply And.intro | exact rfl | exact plainLL_map (fun _ => rfl) _))); conv => whnf))
  exact ret_objs [3, 4] (by decide) rfl rfl rfl ⟨obj_flat rfl (flat_map fun _ => rfl), obj_flat rfl (flat_map fun _ => rfl), trivial⟩
theorem eqTraceT {t : Trace} (h : t.ok) : CallsA Try.prog 32 [.agg t.cs, .agg t.cs] [] (.bool true) [] := by
  have := eqTrace_of t t (eqIntS_ok t.stem t.stem h.mx.1 h.mx.1) (eqIntS_ok t.loop t.loop h.mx.2 h.mx.2)
  rwa [decide_eq_true rfl] at this
theorem eqLassoT {t : Trace} (h : t.ok) : CallsA Try.prog 31 [.agg t.cs, .agg t.cs] [] (.bool true) [] := by
  have := eqLasso_of t t (eqIntS_ok t.stem t.stem h.mx.1 h.mx.1) (eqIntS_ok t.loop t.loop h.mx.2 h.mx.2)
  rwa [decide_eq_true rfl] at this
theorem markTrace_two {t : Trace} (h : t.ok) (k : Int) (h0 : 0 ≤ k) (h1 : k ≤ 1000000000) : CallsA Try.prog 33 [.agg [.sref 0 0 t.stem.length, .sref 1 0 t.loop.length], .int k] [.cells 1 (t.stem.map enI), .cells 1 (t.loop.map enI)] (.int (k + (t.stem.length + t.loop.length : Nat))) [.cells 1 ((marks k t.stem.length).map enI), .cells 1 ((marks (k + t.stem.length) t.loop.length).map enI)] := by
  have l1 := h.l1
  have m1 := markIntS_ok t.stem k h.l1 h0 (by omega)
  have m2 := markIntS_ok t.loop (k + t.stem.length) h.l2 (by omega) (by omega)
  rw [show k + (t.stem.length : Int) + (t.loop.length : Int) = k + (t.stem.length + t.loop.length : Nat) by omega] at m2
  refine callsA_of tabOk Try.func33 rfl rfl 14 Try.ntmps33 (by simp) ?_
  repeat' (first | (apply AWP.go ok; rfl; conv => whnf) | (apply ord_mk; kernel_rfl; conv => whnf) | (apply And.intro; (first | omega | (unfold inI; omega) | (dsimp only; omega) | (unfold bitsOk; omega) | ((try dsimp only); simp only [List.length_map, List.length_take, List.length_append, List.length_replicate, List.length_cons, List.length_nil]; omega) | (simp only [btw_iff] at *; first | omega | (unfold inI; omega) | (unfold bitsOk; omega)) | exact stor_map (fun _ => rfl) | exact ⟨rfl, stor_cons rfl stor_nil⟩ | exact ⟨rfl, stor_map (fun _ => rfl) _⟩ | exact ⟨⟨rfl, by omega⟩, stor_map (fun _ => rfl) _⟩); conv => whnf) | (with_reducible apply get_mapN; omega; intro _; conv => whnf) | (with_reducible apply get_mapI; omega; intro _; conv => whnf) | (apply get_mapN; omega; intro _; conv => whnf) | (apply get_fill; omega; conv => whnf) | (apply ex_some; conv => whnf) | (apply get_map; omega; intro _; conv => whnf) | (apply vcG_dec <;> intro _ <;> conv => whnf) | (apply vcG_ndec <;> intro _ <;> conv => whnf) | (apply vcG_not <;> intro _ <;> conv => whnf) | (apply vcG_mk <;> intro _ <;> conv => whnf) | (apply vcIf_dec <;> intro _ <;> conv => whnf) | (apply vcIf_ndec <;> intro _ <;> conv => whnf) | (apply vcIf_not <;> intro _ <;> conv => whnf) | (apply vcIf_mk <;> intro _ <;> conv => whnf) | (apply call_gen [0] [] [] (m1); rfl; (focus ((repeat' (first | exact passOk_nil | apply passOk_cons)) <;> (first | rfl | (refine pass_flat rfl ?_; (first | exact flat_nil | exact flat_replicate rfl | exact flat_map (fun _ => rfl) | exact flat_map Tree.co_flat | (apply flat_append <;> (first | exact flat_replicate rfl | exact flat_map (fun _ => rfl))) | assumption))))); rfl; rfl; rfl; rfl; rfl; (focus ((repeat' (first | exact rens_nil | apply rens_cons)) <;> (first | exact ren_dead | exact ren_box rfl rfl | (refine ren_flat ?_; (first | exact flat_nil | exact flat_replicate rfl | exact flat_map (fun _ => rfl) | exact flat_map Tree.co_flat | (apply flat_append <;> (first | exact flat_replicate rfl | exact flat_map (fun _ => rfl))) | assumption))))); (first | exact .inl rfl | (refine .inr ⟨rfl, ?_⟩; repeat' (first | exact True.intro | apply And.intro | exact rfl | exact plainLL_map (fun _ => rfl) _))); conv => whnf) | (apply call_gen [1] [] [] (m2); rfl; (focus ((repeat' (first | exact passOk_nil | apply passOk_cons)) <;> (first | rfl | (refine pass_flat rfl ?_; (first | exact flat_nil | exact flat_replicate rfl | exact flat_map (fun _ => rfl) | exact flat_map Tree.co_flat | (apply flat_append <;> (first | exact flat_replicate rfl | exact flat_map (fun _ => rfl))) | assumption))))); rfl; rfl; rfl; rfl; rfl; (focus ((repeat' (first | exact rens_nil | apply rens_cons)) <;> (first | exact ren_dead | exact ren_box rfl rfl | (refine ren_flat ?_; (first | exact flat_nil | exact flat_replicate rfl | exact flat_map (fun _ => rfl) | exact flat_map Tree.co_flat | (apply flat_append <;> (first | exact flat_replicate rfl | exact flat_map (fun _ => rfl))) | assumption))))); (first | exact .inl rfl | (refine .inr ⟨rfl, ?_⟩; repeat' (first | exact True.intro | apply And.intro | exact rfl | exact plainLL_map (fun _ => rfl) _))); conv => whnf))
  exact ret_objs [0, 1] (by decide) rfl rfl rfl ⟨obj_flat rfl (flat_map fun _ => rfl), obj_flat rfl (flat_map fun _ => rfl), trivial⟩
theorem markLasso_two {t : Trace} (h : t.ok) (k : Int) (h0 : 0 ≤ k) (h1 : k ≤ 1000000000) : CallsA Try.prog 34 [.agg [.sref 0 0 t.stem.length, .sref 1 0 t.loop.length], .int k] [.cells 1 (t.stem.map enI), .cells 1 (t.loop.map enI)] (.int (k + (t.stem.length + t.loop.length : Nat))) [.cells 1 ((marks k t.stem.length).map enI), .cells 1 ((marks (k + t.stem.length) t.loop.length).map enI)] := by
  have l1 := h.l1
  have m1 := markIntS_ok t.stem k h.l1 h0 (by omega)
  have m2 := markIntS_ok t.loop (k + t.stem.length) h.l2 (by omega) (by omega)
  rw [show k + (t.stem.length : Int) + (t.loop.length : Int) = k + (t.stem.length + t.loop.length : Nat) by omega] at m2
  refine callsA_of tabOk Try.func34 rfl rfl 14 Try.ntmps34 (by simp) ?_
  repeat' (first | (apply AWP.go ok; rfl; conv => whnf) | (apply ord_mk; kernel_rfl; conv => whnf) | (apply And.intro; (first | omega | (unfold inI; omega) | (dsimp only; omega) | (unfold bitsOk; omega) | ((try dsimp only); simp only [List.length_map, List.length_take, List.length_append, List.length_replicate, List.length_cons, List.length_nil]; omega) | (simp only [btw_iff] at *; first | omega | (unfold inI; omega) | (unfold bitsOk; omega)) | exact stor_map (fun _ => rfl) | exact ⟨rfl, stor_cons rfl stor_nil⟩ | exact ⟨rfl, stor_map (fun _ => rfl) _⟩ | exact ⟨⟨rfl, by omega⟩, stor_map (fun _ => rfl) _⟩); conv => whnf) | (with_reducible apply get_mapN; omega; intro _; conv => whnf) | (with_reducible apply get_mapI; omega; intro _; conv => whnf) | (apply get_mapN; omega; intro _; conv => whnf) | (apply get_fill; omega; conv => whnf) | (apply ex_some; conv => whnf) | (apply get_map; omega; intro _; conv => whnf) | (apply vcG_dec <;> intro _ <;> conv => whnf) | (apply vcG_ndec <;> intro _ <;> conv => whnf) | (apply vcG_not <;> intro _ <;> conv => whnf) | (apply vcG_mk <;> intro _ <;> conv => whnf) | (apply vcIf_dec <;> intro _ <;> conv => whnf) | (apply vcIf_ndec <;> intro _ <;> conv => whnf) | (apply vcIf_not <;> intro _ <;> conv => whnf) | (apply vcIf_mk <;> intro _ <;> conv => whnf) | (apply call_gen [0] [] [] (m1); rfl; (focus ((repeat' (first | exact passOk_nil | apply passOk_cons)) <;> (first | rfl | (refine pass_flat rfl ?_; (first | exact flat_nil | exact flat_replicate rfl | exact flat_map (fun _ => rfl) | exact flat_map Tree.co_flat | (apply flat_append <;> (first | exact flat_replicate rfl | exact flat_map (fun _ => rfl))) | assumption))))); rfl; rfl; rfl; rfl; rfl; (focus ((repeat' (first | exact rens_nil | apply rens_cons)) <;> (first | exact ren_dead | exact ren_box rfl rfl | (refine ren_flat ?_; (first | exact flat_nil | exact flat_replicate rfl | exact flat_map (fun _ => rfl) | exact flat_map Tree.co_flat | (apply flat_append <;> (first | exact flat_replicate rfl | exact flat_map (fun _ => rfl))) | assumption))))); (first | exact .inl rfl | (refine .inr ⟨rfl, ?_⟩; repeat' (first | exact True.intro | apply And.intro | exact rfl | exact plainLL_map (fun _ => rfl) _))); conv => whnf) | (apply call_gen [1] [] [] (m2); rfl; (focus ((repeat' (first | exact passOk_nil | apply passOk_cons)) <;> (first | rfl | (refine pass_flat rfl ?_; (first | exact flat_nil | exact flat_replicate rfl | exact flat_map (fun _ => rfl) | exact flat_map Tree.co_flat | (apply flat_append <;> (first | exact flat_replicate rfl | exact flat_map (fun _ => rfl))) | assumption))))); rfl; rfl; rfl; rfl; rfl; (focus ((repeat' (first | exact rens_nil | apply rens_cons)) <;> (first | exact ren_dead | exact ren_box rfl rfl | (refine ren_flat ?_; (first | exact flat_nil | exact flat_replicate rfl | exact flat_map (fun _ => rfl) | exact flat_map Tree.co_flat | (apply flat_append <;> (first | exact flat_replicate rfl | exact flat_map (fun _ => rfl))) | assumption))))); (first | exact .inl rfl | (refine .inr ⟨rfl, ?_⟩; repeat' (first | exact True.intro | apply And.intro | exact rfl | exact plainLL_map (fun _ => rfl) _))); conv => whnf))
  exact ret_objs [0, 1] (by decide) rfl rfl rfl ⟨obj_flat rfl (flat_map fun _ => rfl), obj_flat rfl (flat_map fun _ => rfl), trivial⟩
def Trace.ml (t : Trace) : Nat := t.stem.length + t.loop.length
theorem Trace.ml_le {t : Trace} (h : t.ok) : t.ml ≤ 4194304 := by
  have := h.l1; have := h.l2
  unfold Trace.ml; omega
theorem markTraceT {t : Trace} (h : t.ok) (k : Int) (h0 : 0 ≤ k) (h1 : k ≤ 1000000000) : CallsA Try.prog 33 [.agg [.sref 0 0 t.stem.length, .sref 1 0 t.loop.length], .int k] [.cells 1 (t.stem.map enI), .cells 1 (t.loop.map enI)] (.int (k + t.ml)) [.cells 1 ((marks k t.stem.length).map enI), .cells 1 ((marks (k + t.stem.length) t.loop.length).map enI)] := markTrace_two h k h0 h1
theorem heldLasso_ok (n m : Nat) (k : Int) (hn : n ≤ 1048576) (hm : m ≤ 1048576) (h0 : 0 ≤ k) (h1 : k ≤ 1000000000) : CallsA Try.prog 35 [.agg (Trace.mk (marks k n) (marks (k + n) m)).cs, .int k] [] (.int (k + (n + m : Nat))) [] := by
  have m1 := heldIntS_ok n k hn h0 (by omega)
  have m2 := heldIntS_ok m (k + n) hm (by omega) (by omega)
  rw [show k + (n : Int) + (m : Int) = k + (n + m : Nat) by omega] at m2
  refine callsA_of tabOk Try.func35 rfl rfl 18 Try.ntmps35 (by simp) ?_
  repeat' (first | (apply AWP.go ok; rfl; conv => whnf) | (apply ord_mk; kernel_rfl; conv => whnf) | (apply And.intro; (first | omega | (unfold inI; omega) | (dsimp only; omega) | (unfold bitsOk; omega) | ((try dsimp only); simp only [List.length_map, List.length_take, List.length_append, List.length_replicate, List.length_cons, List.length_nil]; omega) | (simp only [btw_iff] at *; first | omega | (unfold inI; omega) | (unfold bitsOk; omega)) | exact stor_map (fun _ => rfl) | exact ⟨rfl, stor_cons rfl stor_nil⟩ | exact ⟨rfl, stor_map (fun _ => rfl) _⟩ | exact ⟨⟨rfl, by omega⟩, stor_map (fun _ => rfl) _⟩); conv => whnf) | (with_reducible apply get_mapN; omega; intro _; conv => whnf) | (with_reducible apply get_mapI; omega; intro _; conv => whnf) | (apply get_mapN; omega; intro _; conv => whnf) | (apply get_fill; omega; conv => whnf) | (apply ex_some; conv => whnf) | (apply get_map; omega; intro _; conv => whnf) | (apply vcG_dec <;> intro _ <;> conv => whnf) | (apply vcG_ndec <;> intro _ <;> conv => whnf) | (apply vcG_not <;> intro _ <;> conv => whnf) | (apply vcG_mk <;> intro _ <;> conv => whnf) | (apply vcIf_dec <;> intro _ <;> conv => whnf) | (apply vcIf_ndec <;> intro _ <;> conv => whnf) | (apply vcIf_not <;> intro _ <;> conv => whnf) | (apply vcIf_mk <;> intro _ <;> conv => whnf) | (apply call_data (m1); rfl; rfl; conv => whnf) | (apply call_data (m2); rfl; rfl; conv => whnf))
  all_goals first | (exfalso; omega) | exact ret_data rfl rfl rfl
theorem bor_two {objs : Nat → AObj} {π Bn : List Nat} {o1 o2 : Nat} {l1 l2 : List Int} (h1 : objs o1 = .cells 1 (l1.map enI)) (h2 : objs o2 = .cells 1 (l2.map enI)) (i1 : idx π o1 = none) (b1 : inB Bn o1 = true) (i2 : idx π o2 = none) (b2 : inB Bn o2 = true) : bor objs π Bn (.agg [.sref o1 0 l1.length, .sref o2 0 l2.length]) = .agg (Trace.mk l1 l2).cs :=
  bor_agg (bor_cons (bor_ints h1 i1 b1) (bor_cons (bor_ints h2 i2 b2) bor_nil))
theorem bor_twoM {objs : Nat → AObj} {π Bn : List Nat} {o1 o2 n1 n2 : Nat} {l1 l2 : List Int} (h1 : objs o1 = .cells 1 (l1.map enI)) (h2 : objs o2 = .cells 1 (l2.map enI)) (i1 : idx π o1 = none) (b1 : inB Bn o1 = true) (i2 : idx π o2 = none) (b2 : inB Bn o2 = true) (e1 : l1.length = n1) (e2 : l2.length = n2) : bor objs π Bn (.agg [.sref o1 0 n1, .sref o2 0 n2]) = .agg (Trace.mk l1 l2).cs := by
  subst e1 e2; exact bor_two h1 h2 i1 b1 i2 b2
theorem ad_trace : ArgD Try.prog 54 (fun t : Trace => .agg t.cs) Trace.mx :=
  argD_struct Try.underlying54 ((od_struct2 (enc := Trace.cs) Trace.mk Try.underlying54 rfl (by kernel_rfl) (by kernel_rfl) od_intS od_intS (fun _ _ => rfl)).imp fun s ⟨a, b, e, h1, h2⟩ => ⟨s, rfl, by subst e; exact ⟨h1.1, h2.1⟩⟩)
end
end Go.Proofs.Ytcannajfdnipkaa

