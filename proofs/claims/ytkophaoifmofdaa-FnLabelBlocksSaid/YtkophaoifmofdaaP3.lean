/- A part of the proofs over this program: T35A, T33I, T31, T32, T33, T34, T35B, T29. -/
import Derived.Test.YtkophaoifmofdaaG0
import Derived.Test.YtkophaoifmofdaaG1
import Derived.Test.YtkophaoifmofdaaG2
import Derived.Test.YtkophaoifmofdaaP0
import Derived.Test.YtkophaoifmofdaaP1
import Derived.Test.YtkophaoifmofdaaP2
import Derived.Test.YtkophaoifmofdaaRows
import Derived.WalkKit
import Derived.ProofKit
import Derived.Deep.DeepHandedRow
import Derived.Lib.LaidTab
set_option linter.all false
namespace Go.Proofs.Ytkophaoifmofdaa
open Go.Gl
attribute [local irreducible] vcCall AWP RetOk Again ordOk

/-- an input within the law's bounds -/
structure Graph.ok (g : Graph) : Prop where
  mx : g.mx
  st : g.st.length ≤ 1048576
  nx : g.nx.length ≤ 1048576
  states : ∀ s ∈ g.st, s.small
  rows : ∀ r ∈ g.nx, r.length ≤ 1048576
  sumS : (g.st.map State.sz).sum ≤ 1048576
  sumN : (g.nx.map List.length).sum ≤ 1048576
theorem Graph.ok_of {g : Graph} (hg : g.mx) (h1 : g.s1 ≤ 1048576) (h2 : g.s2 ≤ 1048576) : g.ok := by
  unfold Graph.s1 tot at h1
  unfold Graph.s2 tot at h2
  refine ⟨hg, by omega, by omega, fun s hs => ?_, fun r hr => ?_, by omega, by omega⟩
  · have := le_sum State.sz hs
    unfold State.sz at this h1
    exact ⟨by omega, by omega⟩
  · have := le_sum List.length hr; omega
structure LabOk (l : List Tree) : Prop where
  mx : Lmx l
  len : l.length ≤ 1048576
  el : ∀ t ∈ l, t.sz ≤ 1048576
  sum : (l.map Tree.sz).sum ≤ 1048576
theorem LabOk.of {l : List Tree} (hl : Lmx l) (h : tot Tree.sz l ≤ 1048576) : LabOk l := by
  unfold tot at h
  exact ⟨hl, by omega, fun t ht => by have := le_sum Tree.sz ht; omega, by omega⟩

end Go.Proofs.Ytkophaoifmofdaa

namespace Go.Proofs.Ytkophaoifmofdaa
open Go.Gl
attribute [local irreducible] vcCall AWP RetOk Again ordOk

theorem keepI {f : FuncId} {args : List AC} {n : Nat} {l : List Int} (h : CallsA Try.prog f args [] (.sref 0 0 n) [.cells 1 (l.map enI)]) (hl : l.length = n) : CallsA Try.prog f args [] (ints l) [] := by
  subst hl
  exact h.keep (enc_unown1 _ _) (by simp)
theorem bor_ints {objs : Nat → AObj} {π Bn : List Nat} {o : Nat} {l : List Int} (ho : objs o = .cells 1 (l.map enI)) (h1 : idx π o = none) (h2 : inB Bn o = true) : bor objs π Bn (.sref o 0 l.length) = ints l :=
  bor_list ho h1 h2 (by simp) (enc_unown1 _ _)
theorem bor_intsN {objs : Nat → AObj} {π Bn : List Nat} {o n : Nat} {l : List Int} (ho : objs o = .cells 1 (l.map enI)) (h1 : idx π o = none) (h2 : inB Bn o = true) (hl : l.length = n) : bor objs π Bn (.sref o 0 n) = ints l := by
  subst hl; exact bor_ints ho h1 h2
end Go.Proofs.Ytkophaoifmofdaa

namespace Go.Proofs.Ytkophaoifmofdaa
open Go.Gl
attribute [local irreducible] vcCall AWP RetOk Again ordOk

def State.co (s : State) : List AC := [.own 1 (s.a.map enI), .own 1 (s.b.map enI)]

end Go.Proofs.Ytkophaoifmofdaa

namespace Go.Proofs.Ytkophaoifmofdaa
open Go.Gl
attribute [local irreducible] vcCall AWP RetOk Again ordOk

def enM (k : Int) (j : Nat) : List AC := [.int (k + j)]

def anys (n : Nat) : List AC := List.replicate n .any
end Go.Proofs.Ytkophaoifmofdaa

namespace Go.Proofs.Ytkophaoifmofdaa
open Go.Gl
section
attribute [local irreducible] vcCall
theorem l2Ints_ok (a b : List Int) (ha : a.length ≤ maxLen) (hb : b.length ≤ maxLen) : CallsA Try.prog 77 [lst 1 enI a, lst 1 enI b] [] (.bool (decide (a = b))) [] := by
  unfold maxLen at ha hb
  refine callsA_of tabOk Try.func77 rfl rfl 26 Try.ntmps77 (by simp) ?_
  repeat (first | refine AWP.go ok _ _ _ _ _ rfl ?_ | refine ord_mk (by kernel_rfl) ?_ | refine And.intro (by first | omega | (unfold inI; omega) | (dsimp only; omega)) ?_)
  refine vcIf_ndec (fun h => ?_) (fun h => ?_)
  · repeat (first | refine AWP.go ok _ _ _ _ _ rfl ?_ | refine ord_mk (by kernel_rfl) ?_ | refine And.intro (by first | omega | (unfold inI; omega) | (dsimp only; omega)) ?_)
    have hne : a ≠ b := by rintro rfl; exact h rfl
    rw [decide_eq_false hne]
    exact ⟨[], by decide, rfl, rfl, ACle.of_eq rfl, trivial⟩
  · have hl : a.length = b.length := by omega
    repeat (first | refine AWP.go ok _ _ _ _ _ rfl ?_ | refine ord_mk (by kernel_rfl) ?_ | refine And.intro (by first | omega | (unfold inI; omega) | (dsimp only; omega)) ?_)
    refine awp_loop (fun k : Nat => ([(0, lst 1 enI a), (1, lst 1 enI b), (5, .int k)], [])) (fun k => k ≤ a.length ∧ a.take k = b.take k) (fun k => a.length - k) 0 (by simp)
      ⟨[], rfl, by decide, rfl, ⟨⟨rfl, rfl⟩, ⟨rfl, rfl⟩, ⟨rfl, rfl⟩, trivial⟩, trivial⟩ ?_
    intro k hk
    repeat (first | refine AWP.go ok _ _ _ _ _ rfl ?_ | refine ord_mk (by kernel_rfl) ?_ | refine And.intro (by first | omega | (unfold inI; omega) | (dsimp only; omega)) ?_)
    refine vcIf_dec (fun h => ?_) (fun h => ?_)
    · have hka : k < a.length := by omega
      repeat (first | refine AWP.go ok _ _ _ _ _ rfl ?_ | refine ord_mk (by kernel_rfl) ?_ | refine And.intro (by first | omega | (unfold inI; omega) | (dsimp only; omega)) ?_)
      refine ⟨_, map_get _ _ _ (by omega), ?_⟩
      repeat (first | refine AWP.go ok _ _ _ _ _ rfl ?_ | refine ord_mk (by kernel_rfl) ?_ | refine And.intro (by first | omega | (unfold inI; omega) | (dsimp only; omega)) ?_)
      refine ⟨_, map_get _ _ _ (by omega), ?_⟩
      repeat (first | refine AWP.go ok _ _ _ _ _ rfl ?_ | refine ord_mk (by kernel_rfl) ?_ | refine And.intro (by first | omega | (unfold inI; omega) | (dsimp only; omega)) ?_)
      refine vcIf_ndec (fun h => ?_) (fun h => ?_)
      · repeat (first | refine AWP.go ok _ _ _ _ _ rfl ?_ | refine ord_mk (by kernel_rfl) ?_ | refine And.intro (by first | omega | (unfold inI; omega) | (dsimp only; omega)) ?_)
        have hne : a ≠ b := by rintro rfl; exact h rfl
        rw [decide_eq_false hne]
        exact ⟨[], by decide, rfl, rfl, ACle.of_eq rfl, trivial⟩
      · repeat (first | refine AWP.go ok _ _ _ _ _ rfl ?_ | refine ord_mk (by kernel_rfl) ?_ | refine And.intro (by first | omega | (unfold inI; omega) | (dsimp only; omega)) ?_)
        refine ⟨k + 1, [], ⟨by omega, ?_⟩, by omega, rfl, by decide, rfl, ⟨⟨rfl, rfl⟩, ⟨rfl, rfl⟩, ⟨rfl, rfl⟩, trivial⟩, trivial⟩
        have h' : a[k] = b[k] := h
        rw [List.take_succ_eq_append_getElem hka, List.take_succ_eq_append_getElem (by omega), hk.2, h']
    · repeat (first | refine AWP.go ok _ _ _ _ _ rfl ?_ | refine ord_mk (by kernel_rfl) ?_ | refine And.intro (by first | omega | (unfold inI; omega) | (dsimp only; omega)) ?_)
      have he : a = b := by
        have := hk.2
        rwa [List.take_of_length_le (by omega), List.take_of_length_le (by omega)] at this
      rw [decide_eq_true he]
      exact ⟨[], by decide, rfl, rfl, ACle.of_eq rfl, trivial⟩
end
attribute [local irreducible] vcCall AWP RetOk Again ordOk

theorem grouped1_ok (c : List Int) (n : Nat) (hn : n ≤ 1048576) (same : Nat → Nat → Bool) (f : FuncId) (hf : ∀ i k : Nat, k < i → i < n → CallsA Try.prog f [.int i, .int k, .pt [ints c]] [] (.bool (same i k)) []) : CallsA Try.prog 75 [.int n, .fn (.func f) [] [.pt [ints c]]] [] (.sref 0 0 n) [.cells 1 ((numF same n).1.map enI)] := by
  have hlen := numF_len same n
  have hfl : ∀ i, Flat (((numF same n).1.take i).map enI ++ List.replicate ((numF same n).1.length - i) [AC.int 0]) := fun i => flat_append (flat_map fun _ => rfl) (flat_replicate rfl)
  refine callsA_of tabOk Try.func75 rfl rfl 46 Try.ntmps75 (by simp) ?_
  repeat' (first | (apply AWP.go ok; rfl; conv => whnf) | (apply ord_mk; kernel_rfl; conv => whnf) | (apply And.intro; (first | omega | (unfold inI; omega) | (dsimp only; omega) | (unfold bitsOk; omega) | ((try dsimp only); simp only [List.length_map, List.length_take, List.length_append, List.length_replicate, List.length_cons, List.length_nil]; omega) | (simp only [btw_iff] at *; first | omega | (unfold inI; omega) | (unfold bitsOk; omega)) | exact stor_map (fun _ => rfl) | exact ⟨rfl, stor_cons rfl stor_nil⟩ | exact ⟨rfl, stor_map (fun _ => rfl) _⟩ | exact ⟨⟨rfl, by omega⟩, stor_map (fun _ => rfl) _⟩); conv => whnf) | (with_reducible apply get_mapN; omega; intro _; conv => whnf) | (with_reducible apply get_mapI; omega; intro _; conv => whnf) | (apply get_mapN; omega; intro _; conv => whnf) | (apply get_fill; omega; conv => whnf) | (apply ex_some; conv => whnf) | (apply get_map; omega; intro _; conv => whnf) | (apply vcG_dec <;> intro _ <;> conv => whnf) | (apply vcG_ndec <;> intro _ <;> conv => whnf) | (apply vcG_not <;> intro _ <;> conv => whnf) | (apply vcG_mk <;> intro _ <;> conv => whnf) | (apply vcIf_dec <;> intro _ <;> conv => whnf) | (apply vcIf_ndec <;> intro _ <;> conv => whnf) | (apply vcIf_not <;> intro _ <;> conv => whnf) | (apply vcIf_mk <;> intro _ <;> conv => whnf))
  refine loopA (fun i : Nat => ([(1, .fn (.func f) [] [.pt [ints c]]), (5, .sref 0 0 n), (6, .int ((numF same i).2 : Int)), (12, .int n), (13, .int i)], [.cells 1 (((numF same n).1.take i).map enI ++ List.replicate ((numF same n).1.length - i) [AC.int 0])])) (fun i => i ≤ n) (fun i => n - i) 0 (by omega) ⟨[0], rfl, by decide, rfl, ⟨⟨rfl, rfl⟩, ⟨rfl, rfl⟩, ⟨rfl, rfl⟩, ⟨rfl, rfl⟩, ⟨rfl, rfl⟩, trivial⟩, ⟨obj_flat (cells_congr (by rw [hlen]; rfl)) (hfl 0), trivial⟩⟩ ?_
  intro i hi
  by_cases hin : i < n
  · have hc := (numF_lt same i).2
    have hF : i < (((numF same n).1.take i).map enI ++ List.replicate ((numF same n).1.length - i) [AC.int 0]).length := by rw [fill_len (by omega)]; omega
    repeat' (first | (apply AWP.go ok; rfl; conv => whnf) | (apply ord_mk; kernel_rfl; conv => whnf) | (apply And.intro; (first | omega | (unfold inI; omega) | (dsimp only; omega) | (unfold bitsOk; omega) | ((try dsimp only); simp only [List.length_map, List.length_take, List.length_append, List.length_replicate, List.length_cons, List.length_nil]; omega) | (simp only [btw_iff] at *; first | omega | (unfold inI; omega) | (unfold bitsOk; omega)) | exact stor_map (fun _ => rfl) | exact ⟨rfl, stor_cons rfl stor_nil⟩ | exact ⟨rfl, stor_map (fun _ => rfl) _⟩ | exact ⟨⟨rfl, by omega⟩, stor_map (fun _ => rfl) _⟩); conv => whnf) | (with_reducible apply get_mapN; omega; intro _; conv => whnf) | (with_reducible apply get_mapI; omega; intro _; conv => whnf) | (apply get_mapN; omega; intro _; conv => whnf) | (apply get_fill; omega; conv => whnf) | (apply ex_some; conv => whnf) | (apply get_map; omega; intro _; conv => whnf) | (apply vcG_dec <;> intro _ <;> conv => whnf) | (apply vcG_ndec <;> intro _ <;> conv => whnf) | (apply vcG_not <;> intro _ <;> conv => whnf) | (apply vcG_mk <;> intro _ <;> conv => whnf) | (apply vcIf_dec <;> intro _ <;> conv => whnf) | (apply vcIf_ndec <;> intro _ <;> conv => whnf) | (apply vcIf_not <;> intro _ <;> conv => whnf) | (apply vcIf_mk <;> intro _ <;> conv => whnf))
    all_goals first | (exfalso; omega) | skip
    refine loopA (fun k : Nat => ([(1, .fn (.func f) [] [.pt [ints c]]), (5, .sref 0 0 n), (6, .int ((numF same i).2 : Int)), (12, .int n), (13, .int i), (7, .int i), (20, .int i), (21, .int k)], [.cells 1 ((((numF same n).1.take i).map enI ++ List.replicate ((numF same n).1.length - i) [AC.int 0]).set i [AC.int ((numF same i).2 : Int)])])) (fun k => k ≤ i ∧ ∀ j, j < k → same i j = false) (fun k => i - k) 0 ⟨by omega, fun j hj => by omega⟩ ⟨[0], rfl, by decide, rfl, ⟨⟨rfl, rfl⟩, ⟨rfl, rfl⟩, ⟨rfl, rfl⟩, ⟨rfl, rfl⟩, ⟨rfl, rfl⟩, ⟨rfl, rfl⟩, ⟨rfl, rfl⟩, ⟨rfl, rfl⟩, trivial⟩, ⟨obj_flat rfl (flat_set (hfl i) rfl), trivial⟩⟩ ?_
    rintro k ⟨hk1, hk2⟩
    generalize hFF : (((numF same n).1.take i).map enI ++ List.replicate ((numF same n).1.length - i) [AC.int 0]) = F at hF
    by_cases hki : k < i
    · have hg : (F.set i [AC.int ((numF same i).2 : Int)])[k]? = some (enI ((numF same n).1[k]'(by omega))) := by rw [← hFF]; exact fill_got hki (by omega)
      have hlt := numF_lt' (same := same) (n := n) hi hki
      repeat' (first | (apply AWP.go ok; rfl; conv => whnf) | (apply ord_mk; kernel_rfl; conv => whnf) | (apply get_set; (exact Int.toNat_natCast i); (first | exact hF | (rw [List.length_set]; exact hF)); conv => whnf) | (apply get_eq; (exact Int.toNat_natCast k); exact hg; conv => whnf) | (apply And.intro; (first | omega | (unfold inI; omega) | (dsimp only; omega) | (unfold bitsOk; omega) | ((try dsimp only); simp only [List.length_map, List.length_take, List.length_append, List.length_replicate, List.length_cons, List.length_nil]; omega) | (simp only [btw_iff] at *; first | omega | (unfold inI; omega) | (unfold bitsOk; omega)) | exact stor_map (fun _ => rfl) | exact ⟨rfl, stor_cons rfl stor_nil⟩ | exact ⟨rfl, stor_map (fun _ => rfl) _⟩ | exact ⟨⟨rfl, by omega⟩, stor_map (fun _ => rfl) _⟩); conv => whnf) | (with_reducible apply get_mapN; omega; intro _; conv => whnf) | (with_reducible apply get_mapI; omega; intro _; conv => whnf) | (apply get_mapN; omega; intro _; conv => whnf) | (apply get_fill; omega; conv => whnf) | (apply ex_some; conv => whnf) | (apply get_map; omega; intro _; conv => whnf) | (apply vcG_dec <;> intro _ <;> conv => whnf) | (apply vcG_ndec <;> intro _ <;> conv => whnf) | (apply vcG_not <;> intro _ <;> conv => whnf) | (apply vcG_mk <;> intro _ <;> conv => whnf) | (apply vcIf_dec <;> intro _ <;> conv => whnf) | (apply vcIf_ndec <;> intro _ <;> conv => whnf) | (apply vcIf_not <;> intro _ <;> conv => whnf) | (apply vcIf_mk <;> intro _ <;> conv => whnf) | (apply call_data (hf i k hki hin); rfl; rfl; conv => whnf))
      all_goals first | (exfalso; omega) | skip
      · rename_i hs
        obtain ⟨h3, h4⟩ := numF_found hin hki (by assumption) hk2
        exact again (i + 1) [0] (by omega) (by omega) ⟨rfl, by decide, rfl, ⟨⟨rfl, rfl⟩, ⟨rfl, rfl⟩, ⟨rfl, env_int (by rw [h4])⟩, ⟨rfl, rfl⟩, ⟨rfl, rfl⟩, trivial⟩, ⟨obj_flat (cells_congr (by rw [← hFF]; exact fill_set2 (by omega) rfl (by rw [h3]; rfl))) (hfl _), trivial⟩⟩
      · refine again (k + 1) [0] ⟨by omega, fun j hj => ?_⟩ (by omega) ⟨rfl, by decide, rfl, ⟨⟨rfl, rfl⟩, ⟨rfl, rfl⟩, ⟨rfl, rfl⟩, ⟨rfl, rfl⟩, ⟨rfl, rfl⟩, ⟨rfl, rfl⟩, ⟨rfl, rfl⟩, ⟨rfl, rfl⟩, trivial⟩, ⟨obj_flat rfl (flat_set (hFF ▸ hfl i) rfl), trivial⟩⟩
        rcases Nat.lt_or_ge j k with h3 | h3
        · exact hk2 j h3
        · obtain rfl : j = k := by omega
          assumption
    · obtain rfl : k = i := by omega
      obtain ⟨h3, h4⟩ := numF_none hin hk2
      repeat' (first | (apply AWP.go ok; rfl; conv => whnf) | (apply ord_mk; kernel_rfl; conv => whnf) | (apply get_set; (exact Int.toNat_natCast k); exact hF; conv => whnf) | (apply And.intro; (first | omega | (unfold inI; omega) | (dsimp only; omega) | (unfold bitsOk; omega) | ((try dsimp only); simp only [List.length_map, List.length_take, List.length_append, List.length_replicate, List.length_cons, List.length_nil]; omega) | (simp only [btw_iff] at *; first | omega | (unfold inI; omega) | (unfold bitsOk; omega)) | exact stor_map (fun _ => rfl) | exact ⟨rfl, stor_cons rfl stor_nil⟩ | exact ⟨rfl, stor_map (fun _ => rfl) _⟩ | exact ⟨⟨rfl, by omega⟩, stor_map (fun _ => rfl) _⟩); conv => whnf) | (with_reducible apply get_mapN; omega; intro _; conv => whnf) | (with_reducible apply get_mapI; omega; intro _; conv => whnf) | (apply get_mapN; omega; intro _; conv => whnf) | (apply get_fill; omega; conv => whnf) | (apply ex_some; conv => whnf) | (apply get_map; omega; intro _; conv => whnf) | (apply vcG_dec <;> intro _ <;> conv => whnf) | (apply vcG_ndec <;> intro _ <;> conv => whnf) | (apply vcG_not <;> intro _ <;> conv => whnf) | (apply vcG_mk <;> intro _ <;> conv => whnf) | (apply vcIf_dec <;> intro _ <;> conv => whnf) | (apply vcIf_ndec <;> intro _ <;> conv => whnf) | (apply vcIf_not <;> intro _ <;> conv => whnf) | (apply vcIf_mk <;> intro _ <;> conv => whnf))
      all_goals first | (exfalso; omega) | skip
      exact again (k + 1) [0] (by omega) (by omega) ⟨rfl, by decide, rfl, ⟨⟨rfl, rfl⟩, ⟨rfl, rfl⟩, ⟨rfl, env_int (by rw [h4]; simp)⟩, ⟨rfl, rfl⟩, ⟨rfl, rfl⟩, trivial⟩, ⟨obj_flat (cells_congr (by rw [← hFF, ← fill_set (f := enI) _ _ _ (by omega), h3]; rfl)) (hfl _), trivial⟩⟩
  · repeat' (first | (apply AWP.go ok; rfl; conv => whnf) | (apply ord_mk; kernel_rfl; conv => whnf) | (apply And.intro; (first | omega | (unfold inI; omega) | (dsimp only; omega) | (unfold bitsOk; omega) | ((try dsimp only); simp only [List.length_map, List.length_take, List.length_append, List.length_replicate, List.length_cons, List.length_nil]; omega) | (simp only [btw_iff] at *; first | omega | (unfold inI; omega) | (unfold bitsOk; omega)) | exact stor_map (fun _ => rfl) | exact ⟨rfl, stor_cons rfl stor_nil⟩ | exact ⟨rfl, stor_map (fun _ => rfl) _⟩ | exact ⟨⟨rfl, by omega⟩, stor_map (fun _ => rfl) _⟩); conv => whnf) | (with_reducible apply get_mapN; omega; intro _; conv => whnf) | (with_reducible apply get_mapI; omega; intro _; conv => whnf) | (apply get_mapN; omega; intro _; conv => whnf) | (apply get_fill; omega; conv => whnf) | (apply ex_some; conv => whnf) | (apply get_map; omega; intro _; conv => whnf) | (apply vcG_dec <;> intro _ <;> conv => whnf) | (apply vcG_ndec <;> intro _ <;> conv => whnf) | (apply vcG_not <;> intro _ <;> conv => whnf) | (apply vcG_mk <;> intro _ <;> conv => whnf) | (apply vcIf_dec <;> intro _ <;> conv => whnf) | (apply vcIf_ndec <;> intro _ <;> conv => whnf) | (apply vcIf_not <;> intro _ <;> conv => whnf) | (apply vcIf_mk <;> intro _ <;> conv => whnf))
    all_goals first | (exfalso; omega) | skip
    obtain rfl : i = n := by omega
    exact ret_new rfl (flat_map fun _ => rfl) rfl (by rw [List.take_of_length_le (by omega), hlen, Nat.sub_self]; simp)

def sameL (l : List Int) (i k : Nat) : Bool := decide (l.getD i 0 = l.getD k 0)
theorem labelBlocks1_ok (l : List Int) (i k : Nat) (hk : k < i) (hi : i < l.length) : CallsA Try.prog 76 [.int i, .int k, .pt [ints l]] [] (.bool (sameL l i k)) [] := by
  refine callsA_of tabOk Try.func76 rfl rfl 15 Try.ntmps76 (by simp) ?_
  repeat' (first | (apply AWP.go ok; rfl; conv => whnf) | (apply ord_mk; kernel_rfl; conv => whnf) | (apply And.intro; (first | omega | (unfold inI; omega) | (dsimp only; omega) | (unfold bitsOk; omega) | ((try dsimp only); simp only [List.length_map, List.length_take, List.length_append, List.length_replicate, List.length_cons, List.length_nil]; omega) | (simp only [btw_iff] at *; first | omega | (unfold inI; omega) | (unfold bitsOk; omega)) | exact stor_map (fun _ => rfl) | exact ⟨rfl, stor_cons rfl stor_nil⟩ | exact ⟨rfl, stor_map (fun _ => rfl) _⟩ | exact ⟨⟨rfl, by omega⟩, stor_map (fun _ => rfl) _⟩); conv => whnf) | (with_reducible apply get_mapN; omega; intro _; conv => whnf) | (with_reducible apply get_mapI; omega; intro _; conv => whnf) | (apply get_mapN; omega; intro _; conv => whnf) | (apply get_fill; omega; conv => whnf) | (apply ex_some; conv => whnf) | (apply get_map; omega; intro _; conv => whnf) | (apply vcG_dec <;> intro _ <;> conv => whnf) | (apply vcG_ndec <;> intro _ <;> conv => whnf) | (apply vcG_not <;> intro _ <;> conv => whnf) | (apply vcG_mk <;> intro _ <;> conv => whnf) | (apply vcIf_dec <;> intro _ <;> conv => whnf) | (apply vcIf_ndec <;> intro _ <;> conv => whnf) | (apply vcIf_not <;> intro _ <;> conv => whnf) | (apply vcIf_mk <;> intro _ <;> conv => whnf))
  exact ret_bool rfl (by unfold sameL; rw [getD_at hi, getD_at (by omega)])

theorem labelBlocks_new (g : Graph) (hg : ∀ s ∈ g.st, ValsOk s.b) (hn : g.st.length ≤ 60) (l : List Tree) (hl : LabelsOk l) : CallsA Try.prog 43 [.agg g.cs, lst 3 Tree.cs' l] [] (.sref 0 0 g.st.length) [.cells 1 ((numF (sameL (g.st.map (letterZ l))) g.st.length).1.map enI)] := by
  have c1 := grouped1_ok (g.st.map (letterZ l)) g.st.length (by omega) (sameL (g.st.map (letterZ l))) 76 (fun i k hk hi => labelBlocks1_ok _ i k hk (by simpa using hi))
  have c0 := label_ok g hg hn l hl
  have e : ints (g.st.map (letterZ l)) = .list 1 g.st.length ((g.st.map (letterZ l)).map enI) := by unfold ints; rw [List.length_map]
  rw [e] at c0 c1
  refine callsA_of tabOk Try.func43 rfl rfl 13 Try.ntmps43 (by simp) ?_
  repeat' (first | (apply AWP.go ok; rfl; conv => whnf) | (apply ord_mk; kernel_rfl; conv => whnf) | (apply And.intro; (first | omega | (unfold inI; omega) | (dsimp only; omega) | (unfold bitsOk; omega) | ((try dsimp only); simp only [List.length_map, List.length_take, List.length_append, List.length_replicate, List.length_cons, List.length_nil]; omega) | (simp only [btw_iff] at *; first | omega | (unfold inI; omega) | (unfold bitsOk; omega)) | exact stor_map (fun _ => rfl) | exact ⟨rfl, stor_cons rfl stor_nil⟩ | exact ⟨rfl, stor_map (fun _ => rfl) _⟩ | exact ⟨⟨rfl, by omega⟩, stor_map (fun _ => rfl) _⟩); conv => whnf) | (with_reducible apply get_mapN; omega; intro _; conv => whnf) | (with_reducible apply get_mapI; omega; intro _; conv => whnf) | (apply get_mapN; omega; intro _; conv => whnf) | (apply get_fill; omega; conv => whnf) | (apply ex_some; conv => whnf) | (apply get_map; omega; intro _; conv => whnf) | (apply vcG_dec <;> intro _ <;> conv => whnf) | (apply vcG_ndec <;> intro _ <;> conv => whnf) | (apply vcG_not <;> intro _ <;> conv => whnf) | (apply vcG_mk <;> intro _ <;> conv => whnf) | (apply vcIf_dec <;> intro _ <;> conv => whnf) | (apply vcIf_ndec <;> intro _ <;> conv => whnf) | (apply vcIf_not <;> intro _ <;> conv => whnf) | (apply vcIf_mk <;> intro _ <;> conv => whnf) | (apply call_data (c0); rfl; rfl; conv => whnf) | (apply call_gen [] [1] [2] (c1); rfl; (focus ((repeat' (first | exact passOk_nil | apply passOk_cons)) <;> (first | rfl | (refine pass_flat rfl ?_; (first | exact flat_nil | exact flat_replicate rfl | exact flat_map (fun _ => rfl) | exact flat_map Tree.co_flat | (apply flat_append <;> (first | exact flat_replicate rfl | exact flat_map (fun _ => rfl))) | assumption))))); rfl; rfl; rfl; rfl; rfl; (focus ((repeat' (first | exact rens_nil | apply rens_cons)) <;> (first | exact ren_dead | exact ren_box rfl rfl | (refine ren_flat ?_; (first | exact flat_nil | exact flat_replicate rfl | exact flat_map (fun _ => rfl) | exact flat_map Tree.co_flat | (apply flat_append <;> (first | exact flat_replicate rfl | exact flat_map (fun _ => rfl))) | assumption))))); (first | exact .inl rfl | (refine .inr ⟨rfl, ?_⟩; repeat' (first | exact True.intro | apply And.intro | exact rfl | exact plainLL_map (fun _ => rfl) _))); conv => whnf))
  exact ret_new rfl (flat_map fun _ => rfl) rfl rfl
end Go.Proofs.Ytkophaoifmofdaa

namespace Go.Proofs.Ytkophaoifmofdaa
open Go.Gl
attribute [local irreducible] vcCall AWP RetOk Again ordOk

theorem bor_rows {objs : Nat → AObj} {π Bn : List Nat} {o n : Nat} {l : List (List Int)} (ho : objs o = .cells 1 (l.map ownRow)) (h1 : idx π o = none) (h2 : inB Bn o = true) (hl : l.length = n) : bor objs π Bn (.sref o 0 n) = lst 1 encL l := by
  subst hl; exact bor_list ho h1 h2 (by simp) (rows_unown l)
theorem bor_states {objs : Nat → AObj} {π Bn : List Nat} {o : Nat} {l : List State} (ho : objs o = .cells 2 (l.map State.co)) (h1 : idx π o = none) (h2 : inB Bn o = true) : bor objs π Bn (.sref o 0 l.length) = lst 2 State.cs l := by
  refine bor_list ho h1 h2 (by simp) ?_
  rw [unownLL_eq, List.map_map]
  refine List.map_congr_left fun s _ => ?_
  show [AC.list 1 _ (unownLL _), AC.list 1 _ (unownLL _)] = _
  have e : ∀ l : List Int, unownLL (l.map enI) = l.map enI := fun l => enc_unown1 (fun n => Value.int .i64 n) l
  rw [e, e]
  simp [State.cs, ints]
theorem bor_exprS {objs : Nat → AObj} {π Bn : List Nat} {o : Nat} {l : List Tree} (ho : objs o = .cells 3 (l.map Tree.co')) (h1 : idx π o = none) (h2 : inB Bn o = true) : bor objs π Bn (.sref o 0 l.length) = lst 3 Tree.cs' l :=
  bor_list ho h1 h2 (by simp) (Tree.unownLL_co l)
theorem bor_graph {objs : Nat → AObj} {π Bn : List Nat} {o1 o2 : Nat} {g : Graph} (h1 : objs o1 = .cells 2 (g.st.map State.co)) (h2 : objs o2 = .cells 1 (g.nx.map ownRow)) (h3 : idx π o1 = none) (h4 : inB Bn o1 = true) (h5 : idx π o2 = none) (h6 : inB Bn o2 = true) :
    bor objs π Bn (.agg [.sref o1 0 g.st.length, .sref o2 0 g.nx.length]) = .agg g.cs :=
  bor_agg (bor_cons (bor_states h1 h3 h4) (bor_cons (bor_rows h2 h5 h6 rfl) bor_nil))

def sameK (keys : List (List Int)) (i k : Nat) : Bool := decide (keys.getD k [] = keys.getD i [])

theorem l10Number_of (keys : List (List Int)) (hk : keys.length ≤ 1048576) (same : Nat → Nat → Bool) (hl2 : ∀ i k (hi : i < keys.length) (hk : k < i), CallsA Try.prog 77 [ints keys[k], ints keys[i]] [] (.bool (same i k)) []) : CallsA Try.prog 44 [lst 1 encL keys] [] (.sref 0 0 keys.length) [.cells 1 ((numF same keys.length).1.map enI)] := by
  have hlen := numF_len same keys.length
  refine callsA_of tabOk Try.func44 rfl rfl 47 Try.ntmps44 (by simp) ?_
  repeat' (first | (apply AWP.go ok; rfl; conv => whnf) | (apply ord_mk; kernel_rfl; conv => whnf) | (apply And.intro; (first | omega | (unfold inI; omega) | (dsimp only; omega) | (unfold bitsOk; omega) | ((try dsimp only); simp only [List.length_map, List.length_take, List.length_append, List.length_replicate, List.length_cons, List.length_nil]; omega) | (simp only [btw_iff] at *; first | omega | (unfold inI; omega) | (unfold bitsOk; omega)) | exact stor_map (fun _ => rfl) | exact ⟨rfl, stor_cons rfl stor_nil⟩ | exact ⟨rfl, stor_map (fun _ => rfl) _⟩ | exact ⟨⟨rfl, by omega⟩, stor_map (fun _ => rfl) _⟩); conv => whnf) | (with_reducible apply get_mapN; omega; intro _; conv => whnf) | (with_reducible apply get_mapI; omega; intro _; conv => whnf) | (apply get_mapN; omega; intro _; conv => whnf) | (apply get_fill; omega; conv => whnf) | (apply ex_some; conv => whnf) | (apply get_map; omega; intro _; conv => whnf) | (apply vcG_dec <;> intro _ <;> conv => whnf) | (apply vcG_ndec <;> intro _ <;> conv => whnf) | (apply vcG_not <;> intro _ <;> conv => whnf) | (apply vcG_mk <;> intro _ <;> conv => whnf) | (apply vcIf_dec <;> intro _ <;> conv => whnf) | (apply vcIf_ndec <;> intro _ <;> conv => whnf) | (apply vcIf_not <;> intro _ <;> conv => whnf) | (apply vcIf_mk <;> intro _ <;> conv => whnf))
  refine loopA (fun i : Nat => ([(0, lst 1 encL keys), (3, .sref 0 0 i), (4, .int ((numF same i).2 : Int)), (5, .int i)], [.cells 1 (((numF same keys.length).1.take i).map enI)])) (fun i => i ≤ keys.length) (fun i => keys.length - i) 0 (by omega) ⟨[0], rfl, by decide, rfl, ⟨⟨rfl, rfl⟩, ⟨rfl, rfl⟩, ⟨rfl, rfl⟩, ⟨rfl, rfl⟩, trivial⟩, ⟨obj_flat rfl (flat_map fun _ => rfl), trivial⟩⟩ ?_
  intro i hi
  by_cases hin : i < keys.length
  · have hc := (numF_lt same i).2
    repeat' (first | (apply AWP.go ok; rfl; conv => whnf) | (apply ord_mk; kernel_rfl; conv => whnf) | (apply And.intro; (first | omega | (unfold inI; omega) | (dsimp only; omega) | (unfold bitsOk; omega) | ((try dsimp only); simp only [List.length_map, List.length_take, List.length_append, List.length_replicate, List.length_cons, List.length_nil]; omega) | (simp only [btw_iff] at *; first | omega | (unfold inI; omega) | (unfold bitsOk; omega)) | exact stor_map (fun _ => rfl) | exact ⟨rfl, stor_cons rfl stor_nil⟩ | exact ⟨rfl, stor_map (fun _ => rfl) _⟩ | exact ⟨⟨rfl, by omega⟩, stor_map (fun _ => rfl) _⟩); conv => whnf) | (with_reducible apply get_mapN; omega; intro _; conv => whnf) | (with_reducible apply get_mapI; omega; intro _; conv => whnf) | (apply get_mapN; omega; intro _; conv => whnf) | (apply get_fill; omega; conv => whnf) | (apply ex_some; conv => whnf) | (apply get_map; omega; intro _; conv => whnf) | (apply vcG_dec <;> intro _ <;> conv => whnf) | (apply vcG_ndec <;> intro _ <;> conv => whnf) | (apply vcG_not <;> intro _ <;> conv => whnf) | (apply vcG_mk <;> intro _ <;> conv => whnf) | (apply vcIf_dec <;> intro _ <;> conv => whnf) | (apply vcIf_ndec <;> intro _ <;> conv => whnf) | (apply vcIf_not <;> intro _ <;> conv => whnf) | (apply vcIf_mk <;> intro _ <;> conv => whnf))
    · refine loopA (fun x : Nat × Int => ([(0, lst 1 encL keys), (3, .sref 0 0 i), (4, .int ((numF same i).2 : Int)), (5, .int i), (6, .int x.2), (7, .int x.1)], [.cells 1 (((numF same keys.length).1.take i).map enI)])) (fun x => x.1 ≤ i ∧ ((x.2 = -1 ∧ ∀ j, j < x.1 → same i j = false) ∨ (∃ k', ∃ hk : k' < (numF same keys.length).1.length, x.1 = k' + 1 ∧ k' < i ∧ same i k' = true ∧ (∀ j, j < k' → same i j = false) ∧ x.2 = (numF same keys.length).1[k']))) (fun x => i - x.1) (0, -1) ⟨by omega, .inl ⟨rfl, fun j hj => by omega⟩⟩ ⟨[0], rfl, by decide, rfl, ⟨⟨rfl, rfl⟩, ⟨rfl, rfl⟩, ⟨rfl, rfl⟩, ⟨rfl, rfl⟩, ⟨rfl, rfl⟩, ⟨rfl, rfl⟩, trivial⟩, ⟨obj_flat rfl (flat_map fun _ => rfl), trivial⟩⟩ ?_
      rintro ⟨k, b⟩ ⟨hk1, ⟨rfl, hk2⟩ | ⟨k', hk', rfl, hk3, hk4, hk5, rfl⟩⟩
      · dsimp only at hk1 hk2 ⊢
        by_cases hki : k < i
        · have hg : (((numF same keys.length).1.take i).map enI)[k]? = some (enI ((numF same keys.length).1[k]'(by omega))) := take_got hki (by omega)
          repeat' (first | (apply AWP.go ok; rfl; conv => whnf) | (apply ord_mk; kernel_rfl; conv => whnf) | (apply get_eq; (exact Int.toNat_natCast k); exact hg; conv => whnf) | (apply And.intro; (first | omega | (unfold inI; omega) | (dsimp only; omega) | (unfold bitsOk; omega) | ((try dsimp only); simp only [List.length_map, List.length_take, List.length_append, List.length_replicate, List.length_cons, List.length_nil]; omega) | (simp only [btw_iff] at *; first | omega | (unfold inI; omega) | (unfold bitsOk; omega)) | exact stor_map (fun _ => rfl) | exact ⟨rfl, stor_cons rfl stor_nil⟩ | exact ⟨rfl, stor_map (fun _ => rfl) _⟩ | exact ⟨⟨rfl, by omega⟩, stor_map (fun _ => rfl) _⟩); conv => whnf) | (with_reducible apply get_mapN; omega; intro _; conv => whnf) | (with_reducible apply get_mapI; omega; intro _; conv => whnf) | (apply get_mapN; omega; intro _; conv => whnf) | (apply get_fill; omega; conv => whnf) | (apply ex_some; conv => whnf) | (apply get_map; omega; intro _; conv => whnf) | (apply vcG_dec <;> intro _ <;> conv => whnf) | (apply vcG_ndec <;> intro _ <;> conv => whnf) | (apply vcG_not <;> intro _ <;> conv => whnf) | (apply vcG_mk <;> intro _ <;> conv => whnf) | (apply vcIf_dec <;> intro _ <;> conv => whnf) | (apply vcIf_ndec <;> intro _ <;> conv => whnf) | (apply vcIf_not <;> intro _ <;> conv => whnf) | (apply vcIf_mk <;> intro _ <;> conv => whnf) | (apply call_data (hl2 i k hin hki); rfl; rfl; conv => whnf))
          all_goals first | (exfalso; omega) | skip
          · exact again (k + 1, (numF same keys.length).1[k]'(by omega)) [0] ⟨by dsimp only; omega, .inr ⟨k, by omega, rfl, hki, by assumption, hk2, rfl⟩⟩ (by dsimp only; omega) ⟨rfl, by decide, rfl, ⟨⟨rfl, rfl⟩, ⟨rfl, rfl⟩, ⟨rfl, rfl⟩, ⟨rfl, rfl⟩, ⟨rfl, rfl⟩, ⟨rfl, rfl⟩, trivial⟩, ⟨obj_flat rfl (flat_map fun _ => rfl), trivial⟩⟩
          · refine again (k + 1, -1) [0] ⟨by dsimp only; omega, .inl ⟨rfl, fun j hj => ?_⟩⟩ (by dsimp only; omega) ⟨rfl, by decide, rfl, ⟨⟨rfl, rfl⟩, ⟨rfl, rfl⟩, ⟨rfl, rfl⟩, ⟨rfl, rfl⟩, ⟨rfl, rfl⟩, ⟨rfl, rfl⟩, trivial⟩, ⟨obj_flat rfl (flat_map fun _ => rfl), trivial⟩⟩
            dsimp only at hj
            rcases Nat.lt_or_ge j k with h3 | h3
            · exact hk2 j h3
            · obtain rfl : j = k := by omega
              assumption
        · obtain rfl : k = i := by omega
          obtain ⟨h3, h4⟩ := numF_none hin hk2
          repeat' (first | (apply AWP.go ok; rfl; conv => whnf) | (apply ord_mk; kernel_rfl; conv => whnf) | (apply And.intro; (first | omega | (unfold inI; omega) | (dsimp only; omega) | (unfold bitsOk; omega) | ((try dsimp only); simp only [List.length_map, List.length_take, List.length_append, List.length_replicate, List.length_cons, List.length_nil]; omega) | (simp only [btw_iff] at *; first | omega | (unfold inI; omega) | (unfold bitsOk; omega)) | exact stor_map (fun _ => rfl) | exact ⟨rfl, stor_cons rfl stor_nil⟩ | exact ⟨rfl, stor_map (fun _ => rfl) _⟩ | exact ⟨⟨rfl, by omega⟩, stor_map (fun _ => rfl) _⟩); conv => whnf) | (with_reducible apply get_mapN; omega; intro _; conv => whnf) | (with_reducible apply get_mapI; omega; intro _; conv => whnf) | (apply get_mapN; omega; intro _; conv => whnf) | (apply get_fill; omega; conv => whnf) | (apply ex_some; conv => whnf) | (apply get_map; omega; intro _; conv => whnf) | (apply vcG_dec <;> intro _ <;> conv => whnf) | (apply vcG_ndec <;> intro _ <;> conv => whnf) | (apply vcG_not <;> intro _ <;> conv => whnf) | (apply vcG_mk <;> intro _ <;> conv => whnf) | (apply vcIf_dec <;> intro _ <;> conv => whnf) | (apply vcIf_ndec <;> intro _ <;> conv => whnf) | (apply vcIf_not <;> intro _ <;> conv => whnf) | (apply vcIf_mk <;> intro _ <;> conv => whnf))
          all_goals first | (exfalso; omega) | skip
          exact again (k + 1) [2] (by omega) (by omega) ⟨rfl, by decide, rfl, ⟨⟨rfl, rfl⟩, ⟨rfl, rfl⟩, ⟨rfl, env_int (by rw [h4]; simp)⟩, ⟨rfl, rfl⟩, trivial⟩, ⟨obj_app (by omega) _ rfl rfl (by rw [h3]; rfl) (fun _ => rfl), trivial⟩⟩
      · obtain ⟨h3, h4⟩ := numF_found hin hk3 hk4 hk5
        have hlt := numF_lt' (same := same) (n := keys.length) hi hk3
        dsimp only
        generalize (numF same keys.length).1[k'] = b at h3 hlt
        repeat' (first | (apply AWP.go ok; rfl; conv => whnf) | (apply ord_mk; kernel_rfl; conv => whnf) | (apply And.intro; (first | omega | (unfold inI; omega) | (dsimp only; omega) | (unfold bitsOk; omega) | ((try dsimp only); simp only [List.length_map, List.length_take, List.length_append, List.length_replicate, List.length_cons, List.length_nil]; omega) | (simp only [btw_iff] at *; first | omega | (unfold inI; omega) | (unfold bitsOk; omega)) | exact stor_map (fun _ => rfl) | exact ⟨rfl, stor_cons rfl stor_nil⟩ | exact ⟨rfl, stor_map (fun _ => rfl) _⟩ | exact ⟨⟨rfl, by omega⟩, stor_map (fun _ => rfl) _⟩); conv => whnf) | (with_reducible apply get_mapN; omega; intro _; conv => whnf) | (with_reducible apply get_mapI; omega; intro _; conv => whnf) | (apply get_mapN; omega; intro _; conv => whnf) | (apply get_fill; omega; conv => whnf) | (apply ex_some; conv => whnf) | (apply get_map; omega; intro _; conv => whnf) | (apply vcG_dec <;> intro _ <;> conv => whnf) | (apply vcG_ndec <;> intro _ <;> conv => whnf) | (apply vcG_not <;> intro _ <;> conv => whnf) | (apply vcG_mk <;> intro _ <;> conv => whnf) | (apply vcIf_dec <;> intro _ <;> conv => whnf) | (apply vcIf_ndec <;> intro _ <;> conv => whnf) | (apply vcIf_not <;> intro _ <;> conv => whnf) | (apply vcIf_mk <;> intro _ <;> conv => whnf))
        all_goals first | (exfalso; omega) | skip
        all_goals exact again (i + 1) [2] (by omega) (by omega) ⟨rfl, by decide, rfl, ⟨⟨rfl, rfl⟩, ⟨rfl, rfl⟩, ⟨rfl, env_int (by rw [h4])⟩, ⟨rfl, rfl⟩, trivial⟩, ⟨obj_app (by omega) _ rfl rfl (by rw [h3]; rfl) (fun _ => rfl), trivial⟩⟩
    · omega
  · repeat' (first | (apply AWP.go ok; rfl; conv => whnf) | (apply ord_mk; kernel_rfl; conv => whnf) | (apply And.intro; (first | omega | (unfold inI; omega) | (dsimp only; omega) | (unfold bitsOk; omega) | ((try dsimp only); simp only [List.length_map, List.length_take, List.length_append, List.length_replicate, List.length_cons, List.length_nil]; omega) | (simp only [btw_iff] at *; first | omega | (unfold inI; omega) | (unfold bitsOk; omega)) | exact stor_map (fun _ => rfl) | exact ⟨rfl, stor_cons rfl stor_nil⟩ | exact ⟨rfl, stor_map (fun _ => rfl) _⟩ | exact ⟨⟨rfl, by omega⟩, stor_map (fun _ => rfl) _⟩); conv => whnf) | (with_reducible apply get_mapN; omega; intro _; conv => whnf) | (with_reducible apply get_mapI; omega; intro _; conv => whnf) | (apply get_mapN; omega; intro _; conv => whnf) | (apply get_fill; omega; conv => whnf) | (apply ex_some; conv => whnf) | (apply get_map; omega; intro _; conv => whnf) | (apply vcG_dec <;> intro _ <;> conv => whnf) | (apply vcG_ndec <;> intro _ <;> conv => whnf) | (apply vcG_not <;> intro _ <;> conv => whnf) | (apply vcG_mk <;> intro _ <;> conv => whnf) | (apply vcIf_dec <;> intro _ <;> conv => whnf) | (apply vcIf_ndec <;> intro _ <;> conv => whnf) | (apply vcIf_not <;> intro _ <;> conv => whnf) | (apply vcIf_mk <;> intro _ <;> conv => whnf))
    all_goals first | (exfalso; omega) | skip
    obtain rfl : i = keys.length := by omega
    exact ret_new rfl (flat_map fun _ => rfl) rfl (by rw [List.take_of_length_le (by omega)])

theorem l10Number_new (keys : List (List Int)) (hk : keys.length ≤ 1048576) (hm : ∀ r ∈ keys, r.length ≤ maxLen) : CallsA Try.prog 44 [lst 1 encL keys] [] (.sref 0 0 keys.length) [.cells 1 ((numF (sameK keys) keys.length).1.map enI)] :=
  l10Number_of keys hk (sameK keys) fun i k hi hk => by
    have e : sameK keys i k = decide (keys[k] = keys[i]) := by
      unfold sameK; rw [getD_at hi, getD_at (by omega)]
    rw [e]; exact l2Ints_ok _ _ (hm _ (List.getElem_mem _)) (hm _ (List.getElem_mem _))

/-- the program's and the reference's blocks -/
noncomputable def lblB (g : Graph) (l : List Tree) : List Int := if glB g l then (numF (sameL (g.st.map (letterZ l))) g.st.length).1 else []
theorem lblB_len (g : Graph) (l : List Tree) : (lblB g l).length ≤ g.st.length := by
  unfold lblB; split
  · rw [numF_len]; omega
  · simp
theorem specLabelBlocks_ok (g : Graph) (hg : g.mx) (l : List Tree) (hl : Lmx l) : CallsA Try.prog 18 [.agg g.cs, lst 3 Tree.cs' l] [] (.tup [ints (lblB g l), .bool (glB g l)]) [] := by
  have k1 := specLabelGraph_ok g hg l hl
  by_cases h : glB g l = true
  · have hG := (graphB_iff g).1 (by unfold glB at h; exact (Bool.and_eq_true_iff.1 h).1)
    have e : lblB g l = (numF (sameL (g.st.map (letterZ l))) g.st.length).1 := by unfold lblB; rw [if_pos h]
    rw [if_pos h, h] at k1
    have hlen : (g.st.map (letterZ l)).length ≤ 60 := by rw [List.length_map]; exact hG.1.2
    have e3 : numF (sameL (g.st.map (letterZ l))) g.st.length = numF (sameK ((g.st.map (letterZ l)).map fun x => [x])) ((g.st.map (letterZ l)).map fun x => [x]).length := by
      rw [List.length_map, List.length_map]
      refine numF_congr fun i k hk hi => ?_
      unfold sameL sameK
      have h1 : i < (g.st.map (letterZ l)).length := by rw [List.length_map]; exact hi
      rw [getD_at h1, getD_at (by omega), getD_at (by rw [List.length_map]; omega), getD_at (by rw [List.length_map]; omega), List.getElem_map, List.getElem_map]
      simp [eq_comm]
    rw [e3] at e
    have hb : lblB g l = (numF (sameK ((g.st.map (letterZ l)).map fun x => [x])) ((g.st.map (letterZ l)).map fun x => [x]).length).1 := e
    rw [hb, h]
    generalize g.st.map (letterZ l) = ls at *
    have k2 := l10Number_new (ls.map fun x => [x]) (by rw [List.length_map]; omega) (fun r hr => by
      obtain ⟨x, _, rfl⟩ := List.mem_map.1 hr
      simp [maxLen])
    rw [List.length_map] at k2 ⊢
    have key : CallsA Try.prog 18 [.agg g.cs, lst 3 Tree.cs' l] [] (.tup [.sref 0 0 ls.length, .bool true]) [.cells 1 ((numF (sameK (ls.map fun x => [x])) ls.length).1.map enI)] := by
      refine callsA_of tabOk Try.func18 rfl rfl 36 Try.ntmps18 (by simp) ?_
      repeat' (first | (apply AWP.go ok; rfl; conv => whnf) | (apply ord_mk; kernel_rfl; conv => whnf) | (apply And.intro; (first | omega | (unfold inI; omega) | (dsimp only; omega) | (unfold bitsOk; omega) | ((try dsimp only); simp only [List.length_map, List.length_take, List.length_append, List.length_replicate, List.length_cons, List.length_nil]; omega) | (simp only [btw_iff] at *; first | omega | (unfold inI; omega) | (unfold bitsOk; omega)) | exact stor_map (fun _ => rfl) | exact ⟨rfl, stor_cons rfl stor_nil⟩ | exact ⟨rfl, stor_map (fun _ => rfl) _⟩ | exact ⟨⟨rfl, by omega⟩, stor_map (fun _ => rfl) _⟩); conv => whnf) | (with_reducible apply get_mapN; omega; intro _; conv => whnf) | (with_reducible apply get_mapI; omega; intro _; conv => whnf) | (apply get_mapN; omega; intro _; conv => whnf) | (apply get_fill; omega; conv => whnf) | (apply ex_some; conv => whnf) | (apply get_map; omega; intro _; conv => whnf) | (apply vcG_dec <;> intro _ <;> conv => whnf) | (apply vcG_ndec <;> intro _ <;> conv => whnf) | (apply vcG_not <;> intro _ <;> conv => whnf) | (apply vcG_mk <;> intro _ <;> conv => whnf) | (apply vcIf_dec <;> intro _ <;> conv => whnf) | (apply vcIf_ndec <;> intro _ <;> conv => whnf) | (apply vcIf_not <;> intro _ <;> conv => whnf) | (apply vcIf_mk <;> intro _ <;> conv => whnf) | (apply call_data (k1); rfl; rfl; conv => whnf))
      refine loopA (fun i : Nat => ([(6, ints ls), (7, .bool true), (8, .sref 0 0 i), (9, .int i)], [.cells 1 ((ls.take i).map fun x => ownRow [x])])) (fun i => i ≤ ls.length) (fun i => ls.length - i) 0 (by omega) ⟨[1], rfl, by decide, rfl, ⟨⟨rfl, rfl⟩, ⟨rfl, rfl⟩, ⟨rfl, rfl⟩, ⟨rfl, rfl⟩, trivial⟩, ⟨obj_flat rfl (flat_map fun _ => rfl), trivial⟩⟩ ?_
      intro i hi
      by_cases hil : i < ls.length
      · repeat' (first | ((fail_if_success apply stopAt 7); (fail_if_success apply stopAtS 7); apply AWP.go ok; rfl; conv => whnf) | (apply ord_mk; kernel_rfl; conv => whnf) | (apply And.intro; (first | omega | (unfold inI; omega) | (dsimp only; omega) | (unfold bitsOk; omega) | ((try dsimp only); simp only [List.length_map, List.length_take, List.length_append, List.length_replicate, List.length_cons, List.length_nil]; omega) | (simp only [btw_iff] at *; first | omega | (unfold inI; omega) | (unfold bitsOk; omega)) | exact stor_map (fun _ => rfl) | exact ⟨rfl, stor_cons rfl stor_nil⟩ | exact ⟨rfl, stor_map (fun _ => rfl) _⟩ | exact ⟨⟨rfl, by omega⟩, stor_map (fun _ => rfl) _⟩); conv => whnf) | (with_reducible apply get_mapN; omega; intro _; conv => whnf) | (with_reducible apply get_mapI; omega; intro _; conv => whnf) | (apply get_mapN; omega; intro _; conv => whnf) | (apply get_fill; omega; conv => whnf) | (apply ex_some; conv => whnf) | (apply get_map; omega; intro _; conv => whnf) | (apply vcG_dec <;> intro _ <;> conv => whnf) | (apply vcG_ndec <;> intro _ <;> conv => whnf) | (apply vcG_not <;> intro _ <;> conv => whnf) | (apply vcG_mk <;> intro _ <;> conv => whnf) | (apply vcIf_dec <;> intro _ <;> conv => whnf) | (apply vcIf_ndec <;> intro _ <;> conv => whnf) | (apply vcIf_not <;> intro _ <;> conv => whnf) | (apply vcIf_mk <;> intro _ <;> conv => whnf))
        · refine AWP.reach (Gl.Reach.absorb 3 1 i 0 rfl (app_last (app_len hi rfl)) rfl rfl rfl rfl (flat_cons rfl flat_nil) rfl) ?_
          conv => whnf
          repeat' (first | (apply AWP.go ok; rfl; conv => whnf) | (apply ord_mk; kernel_rfl; conv => whnf) | (apply And.intro; (first | omega | (unfold inI; omega) | (dsimp only; omega) | (unfold bitsOk; omega) | ((try dsimp only); simp only [List.length_map, List.length_take, List.length_append, List.length_replicate, List.length_cons, List.length_nil]; omega) | (simp only [btw_iff] at *; first | omega | (unfold inI; omega) | (unfold bitsOk; omega)) | exact stor_map (fun _ => rfl) | exact ⟨rfl, stor_cons rfl stor_nil⟩ | exact ⟨rfl, stor_map (fun _ => rfl) _⟩ | exact ⟨⟨rfl, by omega⟩, stor_map (fun _ => rfl) _⟩); conv => whnf) | (with_reducible apply get_mapN; omega; intro _; conv => whnf) | (with_reducible apply get_mapI; omega; intro _; conv => whnf) | (apply get_mapN; omega; intro _; conv => whnf) | (apply get_fill; omega; conv => whnf) | (apply ex_some; conv => whnf) | (apply get_map; omega; intro _; conv => whnf) | (apply vcG_dec <;> intro _ <;> conv => whnf) | (apply vcG_ndec <;> intro _ <;> conv => whnf) | (apply vcG_not <;> intro _ <;> conv => whnf) | (apply vcG_mk <;> intro _ <;> conv => whnf) | (apply vcIf_dec <;> intro _ <;> conv => whnf) | (apply vcIf_ndec <;> intro _ <;> conv => whnf) | (apply vcIf_not <;> intro _ <;> conv => whnf) | (apply vcIf_mk <;> intro _ <;> conv => whnf))
          refine again (i + 1) [3] (by omega) (by omega) ⟨rfl, by decide, rfl, ⟨⟨rfl, rfl⟩, ⟨rfl, rfl⟩, ⟨rfl, rfl⟩, ⟨rfl, rfl⟩, trivial⟩, ⟨obj_flat (cells_congr (app_fin hil rfl rfl)) (flat_map fun _ => rfl), trivial⟩⟩
        · omega
      · obtain rfl : i = ls.length := by omega
        rw [List.take_length]
        repeat' (first | (apply AWP.go ok; rfl; conv => whnf) | (apply ord_mk; kernel_rfl; conv => whnf) | (apply And.intro; (first | omega | (unfold inI; omega) | (dsimp only; omega) | (unfold bitsOk; omega) | ((try dsimp only); simp only [List.length_map, List.length_take, List.length_append, List.length_replicate, List.length_cons, List.length_nil]; omega) | (simp only [btw_iff] at *; first | omega | (unfold inI; omega) | (unfold bitsOk; omega)) | exact stor_map (fun _ => rfl) | exact ⟨rfl, stor_cons rfl stor_nil⟩ | exact ⟨rfl, stor_map (fun _ => rfl) _⟩ | exact ⟨⟨rfl, by omega⟩, stor_map (fun _ => rfl) _⟩); conv => whnf) | (with_reducible apply get_mapN; omega; intro _; conv => whnf) | (with_reducible apply get_mapI; omega; intro _; conv => whnf) | (apply get_mapN; omega; intro _; conv => whnf) | (apply get_fill; omega; conv => whnf) | (apply ex_some; conv => whnf) | (apply get_map; omega; intro _; conv => whnf) | (apply vcG_dec <;> intro _ <;> conv => whnf) | (apply vcG_ndec <;> intro _ <;> conv => whnf) | (apply vcG_not <;> intro _ <;> conv => whnf) | (apply vcG_mk <;> intro _ <;> conv => whnf) | (apply vcIf_dec <;> intro _ <;> conv => whnf) | (apply vcIf_ndec <;> intro _ <;> conv => whnf) | (apply vcIf_not <;> intro _ <;> conv => whnf) | (apply vcIf_mk <;> intro _ <;> conv => whnf) | (apply call_gen [] [0] [1] (k2); (focus (exact bor_cons (bor_rows (l := ls.map fun x => [x]) (by show AObj.cells 1 _ = _; rw [List.map_map]; rfl) rfl rfl (by simp)) bor_nil)); (focus ((repeat' (first | exact passOk_nil | apply passOk_cons)) <;> (first | rfl | (refine pass_flat rfl ?_; (first | exact flat_nil | exact flat_replicate rfl | exact flat_map (fun _ => rfl) | exact flat_map Tree.co_flat | (apply flat_append <;> (first | exact flat_replicate rfl | exact flat_map (fun _ => rfl))) | assumption))))); rfl; rfl; rfl; rfl; rfl; (focus ((repeat' (first | exact rens_nil | apply rens_cons)) <;> (first | exact ren_dead | exact ren_box rfl rfl | (refine ren_flat ?_; (first | exact flat_nil | exact flat_replicate rfl | exact flat_map (fun _ => rfl) | exact flat_map Tree.co_flat | (apply flat_append <;> (first | exact flat_replicate rfl | exact flat_map (fun _ => rfl))) | assumption))))); (first | exact .inl rfl | (refine .inr ⟨rfl, ?_⟩; repeat' (first | exact True.intro | apply And.intro | exact rfl | exact plainLL_map (fun _ => rfl) _))); conv => whnf))
        all_goals first | (exfalso; omega) | skip
        exact ret_objs [1] (by decide) rfl rfl rfl ⟨obj_flat rfl (flat_map fun _ => rfl), trivial⟩
    have := key.keepT (L := (numF (sameK (ls.map fun x => [x])) ls.length).1.map enI) (enc_unown1 _ _) (by rw [List.length_map, numF_len]) rfl
    unfold ints
    rw [numF_len]
    exact this
  · have h := (Bool.not_eq_true _).mp h
    have e : lblB g l = [] := by unfold lblB; rw [h]; rfl
    rw [h] at k1
    rw [e, h]
    refine callsA_of tabOk Try.func18 rfl rfl 36 Try.ntmps18 (by simp) ?_
    repeat' (first | (apply AWP.go ok; rfl; conv => whnf) | (apply ord_mk; kernel_rfl; conv => whnf) | (apply And.intro; (first | omega | (unfold inI; omega) | (dsimp only; omega) | (unfold bitsOk; omega) | ((try dsimp only); simp only [List.length_map, List.length_take, List.length_append, List.length_replicate, List.length_cons, List.length_nil]; omega) | (simp only [btw_iff] at *; first | omega | (unfold inI; omega) | (unfold bitsOk; omega)) | exact stor_map (fun _ => rfl) | exact ⟨rfl, stor_cons rfl stor_nil⟩ | exact ⟨rfl, stor_map (fun _ => rfl) _⟩ | exact ⟨⟨rfl, by omega⟩, stor_map (fun _ => rfl) _⟩); conv => whnf) | (with_reducible apply get_mapN; omega; intro _; conv => whnf) | (with_reducible apply get_mapI; omega; intro _; conv => whnf) | (apply get_mapN; omega; intro _; conv => whnf) | (apply get_fill; omega; conv => whnf) | (apply ex_some; conv => whnf) | (apply get_map; omega; intro _; conv => whnf) | (apply vcG_dec <;> intro _ <;> conv => whnf) | (apply vcG_ndec <;> intro _ <;> conv => whnf) | (apply vcG_not <;> intro _ <;> conv => whnf) | (apply vcG_mk <;> intro _ <;> conv => whnf) | (apply vcIf_dec <;> intro _ <;> conv => whnf) | (apply vcIf_ndec <;> intro _ <;> conv => whnf) | (apply vcIf_not <;> intro _ <;> conv => whnf) | (apply vcIf_mk <;> intro _ <;> conv => whnf) | (apply call_data (k1); rfl; rfl; conv => whnf))
    exact ret_le rfl rfl (tup_le2 sref_le)
end Go.Proofs.Ytkophaoifmofdaa

namespace Go.Proofs.Ytkophaoifmofdaa
open Go.Gl
attribute [local irreducible] vcCall AWP RetOk Again ordOk

theorem implLabelBlocks_new (g : Graph) (hg : g.mx) (l : List Tree) (hl : Lmx l) : CallsA Try.prog 17 [.agg g.cs, lst 3 Tree.cs' l] [] (.tup [.sref 0 0 (lblB g l).length, .bool (glB g l)]) [.cells 1 ((lblB g l).map enI)] := by
  have c1 := graphValid_ok g hg
  have c2 := labelsValid_ok l hl.1 hl.2
  by_cases h : glB g l = true
  · have hG := (graphB_iff g).1 (by unfold glB at h; exact (Bool.and_eq_true_iff.1 h).1)
    have hL := LabelsOk.of (by unfold glB at h; exact (Bool.and_eq_true_iff.1 h).2)
    have c3 := labelBlocks_new g hG.vals hG.1.2 l hL
    have e : lblB g l = (numF (sameL (g.st.map (letterZ l))) g.st.length).1 := by unfold lblB; rw [if_pos h]
    have e2 : (lblB g l).length = g.st.length := by rw [e, numF_len]
    have h1 : graphB g = true := by unfold glB at h; exact (Bool.and_eq_true_iff.1 h).1
    have h2 : labelsB l = true := by unfold glB at h; exact (Bool.and_eq_true_iff.1 h).2
    rw [h1] at c1
    rw [h2] at c2
    rw [e2, h, e]
    refine callsA_of tabOk Try.func17 rfl rfl 17 Try.ntmps17 (by simp) ?_
    repeat' (first | (apply AWP.go ok; rfl; conv => whnf) | (apply ord_mk; kernel_rfl; conv => whnf) | (apply And.intro; (first | omega | (unfold inI; omega) | (dsimp only; omega) | (unfold bitsOk; omega) | ((try dsimp only); simp only [List.length_map, List.length_take, List.length_append, List.length_replicate, List.length_cons, List.length_nil]; omega) | (simp only [btw_iff] at *; first | omega | (unfold inI; omega) | (unfold bitsOk; omega)) | exact stor_map (fun _ => rfl) | exact ⟨rfl, stor_cons rfl stor_nil⟩ | exact ⟨rfl, stor_map (fun _ => rfl) _⟩ | exact ⟨⟨rfl, by omega⟩, stor_map (fun _ => rfl) _⟩); conv => whnf) | (with_reducible apply get_mapN; omega; intro _; conv => whnf) | (with_reducible apply get_mapI; omega; intro _; conv => whnf) | (apply get_mapN; omega; intro _; conv => whnf) | (apply get_fill; omega; conv => whnf) | (apply ex_some; conv => whnf) | (apply get_map; omega; intro _; conv => whnf) | (apply vcG_dec <;> intro _ <;> conv => whnf) | (apply vcG_ndec <;> intro _ <;> conv => whnf) | (apply vcG_not <;> intro _ <;> conv => whnf) | (apply vcG_mk <;> intro _ <;> conv => whnf) | (apply vcIf_dec <;> intro _ <;> conv => whnf) | (apply vcIf_ndec <;> intro _ <;> conv => whnf) | (apply vcIf_not <;> intro _ <;> conv => whnf) | (apply vcIf_mk <;> intro _ <;> conv => whnf) | (apply call_data (c1); rfl; rfl; conv => whnf) | (apply call_data (c2); rfl; rfl; conv => whnf) | (apply call_gen [] [] [1] (c3); rfl; (focus ((repeat' (first | exact passOk_nil | apply passOk_cons)) <;> (first | rfl | (refine pass_flat rfl ?_; (first | exact flat_nil | exact flat_replicate rfl | exact flat_map (fun _ => rfl) | exact flat_map Tree.co_flat | (apply flat_append <;> (first | exact flat_replicate rfl | exact flat_map (fun _ => rfl))) | assumption))))); rfl; rfl; rfl; rfl; rfl; (focus ((repeat' (first | exact rens_nil | apply rens_cons)) <;> (first | exact ren_dead | exact ren_box rfl rfl | (refine ren_flat ?_; (first | exact flat_nil | exact flat_replicate rfl | exact flat_map (fun _ => rfl) | exact flat_map Tree.co_flat | (apply flat_append <;> (first | exact flat_replicate rfl | exact flat_map (fun _ => rfl))) | assumption))))); (first | exact .inl rfl | (refine .inr ⟨rfl, ?_⟩; repeat' (first | exact True.intro | apply And.intro | exact rfl | exact plainLL_map (fun _ => rfl) _))); conv => whnf))
    exact ret_objs [1] (by decide) rfl rfl rfl ⟨obj_flat rfl (flat_map fun _ => rfl), trivial⟩
  · have h := (Bool.not_eq_true _).mp h
    have e : lblB g l = [] := by unfold lblB; rw [h]; rfl
    rw [e, h]
    refine CallsA.nils (res := .tup [.nils, .bool false]) ?_ (by simp) (tup_sref nil_sref)
    refine callsA_of tabOk Try.func17 rfl rfl 17 Try.ntmps17 (by simp) ?_
    repeat' (first | (apply AWP.go ok; rfl; conv => whnf) | (apply ord_mk; kernel_rfl; conv => whnf) | (apply And.intro; (first | omega | (unfold inI; omega) | (dsimp only; omega) | (unfold bitsOk; omega) | ((try dsimp only); simp only [List.length_map, List.length_take, List.length_append, List.length_replicate, List.length_cons, List.length_nil]; omega) | (simp only [btw_iff] at *; first | omega | (unfold inI; omega) | (unfold bitsOk; omega)) | exact stor_map (fun _ => rfl) | exact ⟨rfl, stor_cons rfl stor_nil⟩ | exact ⟨rfl, stor_map (fun _ => rfl) _⟩ | exact ⟨⟨rfl, by omega⟩, stor_map (fun _ => rfl) _⟩); conv => whnf) | (with_reducible apply get_mapN; omega; intro _; conv => whnf) | (with_reducible apply get_mapI; omega; intro _; conv => whnf) | (apply get_mapN; omega; intro _; conv => whnf) | (apply get_fill; omega; conv => whnf) | (apply ex_some; conv => whnf) | (apply get_map; omega; intro _; conv => whnf) | (apply vcG_dec <;> intro _ <;> conv => whnf) | (apply vcG_ndec <;> intro _ <;> conv => whnf) | (apply vcG_not <;> intro _ <;> conv => whnf) | (apply vcG_mk <;> intro _ <;> conv => whnf) | (apply vcIf_dec <;> intro _ <;> conv => whnf) | (apply vcIf_ndec <;> intro _ <;> conv => whnf) | (apply vcIf_not <;> intro _ <;> conv => whnf) | (apply vcIf_mk <;> intro _ <;> conv => whnf) | (apply call_data (c1); rfl; rfl; conv => whnf) | (apply call_data (c2); rfl; rfl; conv => whnf))
    all_goals first | exact ret_data rfl rfl rfl | (exfalso; unfold glB at h; simp_all; done)
end Go.Proofs.Ytkophaoifmofdaa

namespace Go.Proofs.Ytkophaoifmofdaa
open Go.Gl
attribute [local irreducible] vcCall AWP RetOk Again ordOk

theorem wf_inI {n : Int} (h : (Lit.int .i64 n).wf = true) : inI n := by
  have h1 : IntKind.min .i64 = -9223372036854775808 := by decide
  have h2 : IntKind.max .i64 = 9223372036854775807 := by decide
  simpa [Lit.wf, inI, h1, h2] using h

theorem tree_ok {P : Program} {tE tS tI : TypeId} {n1 n2 n3 : Field} (ht : P.underlying tE = some (.struct #[n1, n2, n3])) (e1 : n1.type = tI) (e2 : n2.type = tI) (e3 : n3.type = tS) (hI : P.underlying tI = some (.int .i64)) (hS : P.underlying tS = some (.slice tE))
    (cI : P.cellsOf tI = 1) (cS : P.cellsOf tS = 1) (cE : P.cellsOf tE = 3) (o1 : n1.offset = 0) (o2 : n2.offset = 1) (o3 : n3.offset = 2) : OpensD P tE Tree.cs' Tree.mx := by
  intro k
  induction k using Nat.strongRecOn with
  | _ k ih =>
    match k with
    | 0 => exact opens_zero
    | k + 1 =>
      refine (od_struct3 (e1 := fun n : Int => [.int n]) (ok1 := fun n => (Lit.int .i64 n).wf = true) (e2 := fun n : Int => [.int n]) (ok2 := fun n => (Lit.int .i64 n).wf = true) (e3 := fun l : List Tree => [lst 3 Tree.cs' l]) (ok3 := fun l => l.length ≤ maxLen ∧ ∀ a ∈ l, a.mx) (enc := Tree.cs') Tree.mk ht o1 (by rw [o2, e1, cI]) (by rw [o3, e1, e2, cI]) (by rw [e1, e2, e3, cI, cS, cE]) ?_ ?_ ?_ ?_).imp ?_
      · rw [e1]; exact od_int hI (fun _ => rfl) k
      · rw [e2]; exact od_int hI (fun _ => rfl) k
      · rw [e3]
        match k with
        | 0 => exact opens_zero
        | k + 1 => exact opens_list hS cE (by decide) (ih k (by omega))
      · intro a b c
        show [AC.int a, AC.int b, AC.list 3 c.length (c.map Tree.cs)] = _
        rw [Tree.lst_eq]; rfl
      · rintro xs ⟨x, rfl, a, b, c, rfl, _, _, h⟩
        exact ⟨_, rfl, (Tree.mx_iff _).2 h⟩

theorem od_intS : OpensD Try.prog 30 encL (fun l => l.length ≤ maxLen ∧ ∀ n ∈ l, (Lit.int .i64 n).wf = true) := od_list 1 Try.underlying30 (by kernel_rfl) (by decide) (od_int (enc := enI) Try.underlying3 (fun _ => rfl)) (fun _ => rfl)
theorem od_intSS : OpensD Try.prog 24 (fun l => [lst 1 encL l]) (fun l => l.length ≤ maxLen ∧ ∀ r ∈ l, r.length ≤ maxLen) := (od_list 1 (encL := fun l => [lst 1 encL l]) Try.underlying24 (by kernel_rfl) (by decide) od_intS (fun _ => rfl)).imp fun l h => ⟨l, rfl, h.1, fun r hr => (h.2 r hr).1⟩
section
open Go.ChangeShapes Go.WideShapes Go.ChangeAt Go.RowKit
theorem and_mk {a b : Bool} (h : a = true) (k : b = true) : (a && b) = true := by rw [h, k]; rfl
theorem own : ownKnob Try.prog.godebug = none := by kernel_rfl
theorem laidOut_ok : laidOutB Try.prog = true := by kernel_rfl
end
end Go.Proofs.Ytkophaoifmofdaa

