/- A part of the proof: T26, T27, T28, T29. The program's CheckCertificate returns what the reference's returns, for all arguments: the law returns true and leaves its arguments as they were. No condition. -/
import Derived.Test.YtcannajfdnipkaaGl0
import Derived.Test.YtcannajfdnipkaaGl1
import Derived.Test.YtcannajfdnipkaaT2
import Derived.Test.YtcannajfdnipkaaT3
import Derived.Test.YtcannajfdnipkaaRows
import Derived.WalkKit
import Derived.ProofKit
import Derived.Deep.DeepHandedRow
namespace Go.Proofs.Ytcannajfdnipkaa
open Go.Gl
attribute [local irreducible] vcCall AWP RetOk Again ordOk

theorem product_ok (g : Graph) (hg : GB g) (l : List Tree) (hl : LabelsOk l) (a : Aut) (ha : AutP a) : CallsA Try.prog 94 [.agg g.cs, lst 3 Tree.cs' l, .agg a.cs] [] (.tup [lst 1 encL (prodRows g (g.st.map (letterZ l)) a), ints a.ini]) [] := by
  have h := product_new g hg l hl a ha
  have hlen : (prodRows g (g.st.map (letterZ l)) a).length = g.st.length * a.acc.length := by unfold prodRows; rw [build_length, Nat.mul_comm]
  refine h.lend [] [0] rfl rfl rfl ?_ passOk_nil
  show AC.tup [bor _ _ _ (.sref 0 0 _), bor _ _ _ (ints a.ini)] = _
  rw [bor_full (w := 1) (es := (prodRows g (g.st.map (letterZ l)) a).map ownRow) rfl rfl rfl (by rw [List.length_map]; exact hlen), rows_unown, ← hlen]
  rfl

/-- nodes lead to nodes -/
theorem prodRows_lt (g : Graph) (hg : GB g) (ls : List Int) (a : Aut) (ha : AutP a) : ∀ row ∈ prodRows g ls a, ∀ x ∈ row, 0 ≤ x ∧ x < ((g.st.length * a.acc.length : Nat) : Int) := by
  intro row hrow x hx
  unfold prodRows build at hrow
  obtain ⟨r, _, rfl⟩ := List.mem_map.1 hrow
  obtain ⟨⟨p, v⟩, hp, rfl⟩ := List.mem_map.1 hx
  have hp := (List.mem_filter.1 hp).1
  unfold pushS at hp
  obtain ⟨i, hi, hp⟩ := List.mem_flatMap.1 hp
  rw [List.mem_range] at hi
  unfold pushI at hp
  obtain ⟨to, hto, hp⟩ := List.mem_flatMap.1 hp
  unfold pushJ at hp
  obtain ⟨e, he, hp⟩ := List.mem_flatMap.1 hp
  have hin : i < g.nx.length := by have := hg.2.1; omega
  rw [getD_at hin] at hto
  obtain ⟨j, hj, rfl⟩ := List.mem_iff_getElem.1 hto
  have h1 := ((hg.2.2 i hin hin hi).2.2.2 j hj hj).1
  have h2 := (ha.2.2.2 e he).2.1
  unfold pushE at hp
  split at hp
  · simp only [List.mem_singleton, Prod.mk.injEq] at hp
    obtain ⟨_, rfl⟩ := hp
    have h3 : 0 ≤ g.nx[i][j] * (a.acc.length : Int) := Int.mul_nonneg h1.1 (by omega)
    have h4 : (g.nx[i][j] + 1) * (a.acc.length : Int) ≤ g.st.length * a.acc.length := Int.mul_le_mul_of_nonneg_right (by omega) (by omega)
    rw [Int.add_mul, Int.one_mul] at h4
    have e : ((g.st.length * a.acc.length : Nat) : Int) = (g.st.length : Int) * a.acc.length := by simp
    rw [e]
    dsimp only
    omega
  · simp at hp

theorem prodRows_len (g : Graph) (hg : GB g) (ls : List Int) (a : Aut) (ha : AutP a) : ∀ row ∈ prodRows g ls a, row.length ≤ 7372800 := by
  intro row hrow
  obtain ⟨i, hi, rfl⟩ := List.mem_iff_getElem.1 hrow
  exact Nat.le_trans (build_row_le (N := a.acc.length * g.st.length) (ps := pushS g ls a) hi) (pushS_len g hg ls a ha)

def rk (ranks : List Int) (x : Int) : Int := ranks.getD x.toNat 0
def less (acc : Bool) (r : Int) : Int := if acc then r - 1 else r
def nodeP (row ranks : List Int) (rank : Int) (acc : Bool) : Prop := ∀ x ∈ row, 0 ≤ rk ranks x ∧ rk ranks x ≤ less acc rank
instance {row ranks : List Int} {rank : Int} {acc : Bool} : Decidable (nodeP row ranks rank acc) := by unfold nodeP; infer_instance

theorem l9Node_ok (row ranks : List Int) (rank : Int) (acc : Bool) (hr : row.length ≤ maxLen) (hb : ∀ x ∈ row, 0 ≤ x ∧ x < ranks.length) : CallsA Try.prog 87 [ints row, ints ranks, .int rank, .bool acc] [] (.bool (decide (nodeP row ranks rank acc))) [] := by
  unfold maxLen at hr
  refine callsA_of tabOk Try.func87 rfl rfl 39 Try.ntmps87 (by simp) ?_
  repeat' (first | (apply AWP.go ok; rfl; conv => whnf) | (apply ord_mk; kernel_rfl; conv => whnf) | (apply And.intro; (first | omega | (unfold inI; omega) | (dsimp only; omega) | (unfold bitsOk; omega) | ((try dsimp only); simp only [List.length_map, List.length_take, List.length_append, List.length_replicate, List.length_cons, List.length_nil]; omega) | (simp only [btw_iff] at *; first | omega | (unfold inI; omega) | (unfold bitsOk; omega)) | exact stor_map (fun _ => rfl) | exact ⟨rfl, stor_cons rfl stor_nil⟩ | exact ⟨rfl, stor_map (fun _ => rfl) _⟩ | exact ⟨⟨rfl, by omega⟩, stor_map (fun _ => rfl) _⟩); conv => whnf) | (with_reducible apply get_mapN; omega; intro _; conv => whnf) | (with_reducible apply get_mapI; omega; intro _; conv => whnf) | (apply get_mapN; omega; intro _; conv => whnf) | (apply get_fill; omega; conv => whnf) | (apply ex_some; conv => whnf) | (apply get_map; omega; intro _; conv => whnf) | (apply vcG_dec <;> intro _ <;> conv => whnf) | (apply vcG_ndec <;> intro _ <;> conv => whnf) | (apply vcG_not <;> intro _ <;> conv => whnf) | (apply vcG_mk <;> intro _ <;> conv => whnf) | (apply vcIf_dec <;> intro _ <;> conv => whnf) | (apply vcIf_ndec <;> intro _ <;> conv => whnf) | (apply vcIf_not <;> intro _ <;> conv => whnf) | (apply vcIf_mk <;> intro _ <;> conv => whnf))
  refine loopA (fun k : Nat => ([(0, ints row), (1, ints ranks), (2, .int rank), (3, .bool acc), (9, .int k)], [])) (fun k => k ≤ row.length ∧ ∀ i (h : i < row.length), i < k → 0 ≤ rk ranks row[i] ∧ rk ranks row[i] ≤ less acc rank) (fun k => row.length - k) 0 ⟨by omega, fun i h hi => by omega⟩ ⟨[], rfl, by decide, rfl, by repeat' (first | exact True.intro | exact ⟨rfl, rfl⟩ | apply And.intro), by repeat' (first | exact True.intro | exact obj_box rfl rfl | exact obj_flat (by rfl) (by (first | exact flat_nil | exact flat_replicate rfl | exact flat_map (fun _ => rfl) | (apply flat_append <;> (first | exact flat_replicate rfl | exact flat_map (fun _ => rfl))) | assumption)) | apply And.intro)⟩ ?_
  rintro k ⟨hk1, hk2⟩
  by_cases hkl : k < row.length
  · have hx := hb row[k] (List.getElem_mem _)
    have hrk : rk ranks row[k] = ranks[row[k].toNat]'(by omega) := getD_at (by omega)
    have hno : (¬ 0 ≤ rk ranks row[k] ∨ rank < rk ranks row[k] ∨ (acc = true ∧ rk ranks row[k] = rank)) → ¬ nodeP row ranks rank acc := fun h h2 => by
      have h3 := h2 _ (List.getElem_mem hkl)
      unfold less at h3
      rcases h with h | h | ⟨rfl, h⟩
      · omega
      · split at h3 <;> omega
      · rw [if_pos rfl] at h3; omega
    have hyes : (0 ≤ rk ranks row[k] ∧ rk ranks row[k] ≤ rank ∧ (acc = false ∨ rk ranks row[k] ≠ rank)) → ∀ i (h : i < row.length), i < k + 1 → 0 ≤ rk ranks row[i] ∧ rk ranks row[i] ≤ less acc rank := fun h i hi hik => by
      rcases Nat.lt_or_ge i k with h3 | h3
      · exact hk2 i hi h3
      · obtain rfl : i = k := by omega
        refine ⟨h.1, ?_⟩
        unfold less
        rcases h.2.2 with h4 | h4
        · rw [h4, if_neg (by simp)]; omega
        · split <;> omega
    rw [hrk] at hno hyes
    repeat' (first | (apply AWP.go ok; rfl; conv => whnf) | (apply ord_mk; kernel_rfl; conv => whnf) | (apply And.intro; (first | omega | (unfold inI; omega) | (dsimp only; omega) | (unfold bitsOk; omega) | ((try dsimp only); simp only [List.length_map, List.length_take, List.length_append, List.length_replicate, List.length_cons, List.length_nil]; omega) | (simp only [btw_iff] at *; first | omega | (unfold inI; omega) | (unfold bitsOk; omega)) | exact stor_map (fun _ => rfl) | exact ⟨rfl, stor_cons rfl stor_nil⟩ | exact ⟨rfl, stor_map (fun _ => rfl) _⟩ | exact ⟨⟨rfl, by omega⟩, stor_map (fun _ => rfl) _⟩); conv => whnf) | (with_reducible apply get_mapN; omega; intro _; conv => whnf) | (with_reducible apply get_mapI; omega; intro _; conv => whnf) | (apply get_mapN; omega; intro _; conv => whnf) | (apply get_fill; omega; conv => whnf) | (apply ex_some; conv => whnf) | (apply get_map; omega; intro _; conv => whnf) | (apply vcG_dec <;> intro _ <;> conv => whnf) | (apply vcG_ndec <;> intro _ <;> conv => whnf) | (apply vcG_not <;> intro _ <;> conv => whnf) | (apply vcG_mk <;> intro _ <;> conv => whnf) | (apply vcIf_dec <;> intro _ <;> conv => whnf) | (apply vcIf_ndec <;> intro _ <;> conv => whnf) | (apply vcIf_not <;> intro _ <;> conv => whnf) | (apply vcIf_mk <;> intro _ <;> conv => whnf))
    all_goals first
      | exact ret_bool rfl (decide_eq_false (hno (by first | exact .inl (by omega) | exact .inr (.inl (by omega)) | exact .inr (.inr ⟨by assumption, by assumption⟩))))
      | exact again (k + 1) [] ⟨by omega, hyes ⟨by omega, by omega, by first | exact .inl (by assumption) | exact .inr (by assumption)⟩⟩ (by omega) ⟨rfl, by decide, rfl, by repeat' (first | exact True.intro | exact ⟨rfl, rfl⟩ | apply And.intro), by repeat' (first | exact True.intro | exact obj_box rfl rfl | exact obj_flat (by rfl) (by (first | exact flat_nil | exact flat_replicate rfl | exact flat_map (fun _ => rfl) | (apply flat_append <;> (first | exact flat_replicate rfl | exact flat_map (fun _ => rfl))) | assumption)) | apply And.intro)⟩
      | omega
  · repeat' (first | (apply AWP.go ok; rfl; conv => whnf) | (apply ord_mk; kernel_rfl; conv => whnf) | (apply And.intro; (first | omega | (unfold inI; omega) | (dsimp only; omega) | (unfold bitsOk; omega) | ((try dsimp only); simp only [List.length_map, List.length_take, List.length_append, List.length_replicate, List.length_cons, List.length_nil]; omega) | (simp only [btw_iff] at *; first | omega | (unfold inI; omega) | (unfold bitsOk; omega)) | exact stor_map (fun _ => rfl) | exact ⟨rfl, stor_cons rfl stor_nil⟩ | exact ⟨rfl, stor_map (fun _ => rfl) _⟩ | exact ⟨⟨rfl, by omega⟩, stor_map (fun _ => rfl) _⟩); conv => whnf) | (with_reducible apply get_mapN; omega; intro _; conv => whnf) | (with_reducible apply get_mapI; omega; intro _; conv => whnf) | (apply get_mapN; omega; intro _; conv => whnf) | (apply get_fill; omega; conv => whnf) | (apply ex_some; conv => whnf) | (apply get_map; omega; intro _; conv => whnf) | (apply vcG_dec <;> intro _ <;> conv => whnf) | (apply vcG_ndec <;> intro _ <;> conv => whnf) | (apply vcG_not <;> intro _ <;> conv => whnf) | (apply vcG_mk <;> intro _ <;> conv => whnf) | (apply vcIf_dec <;> intro _ <;> conv => whnf) | (apply vcIf_ndec <;> intro _ <;> conv => whnf) | (apply vcIf_not <;> intro _ <;> conv => whnf) | (apply vcIf_mk <;> intro _ <;> conv => whnf))
    all_goals first | (exfalso; omega) | skip
    refine ret_bool rfl (decide_eq_true ?_)
    intro x hx
    obtain ⟨i, hi, rfl⟩ := List.mem_iff_getElem.1 hx
    exact hk2 i hi (by omega)

/-- is the certificate right? -/
def certP (rows : List (List Int)) (ini : List Int) (acc : List Bool) (N : Nat) (ranks : List Int) : Prop :=
  ranks.length = N ∧ (∀ x ∈ ranks, -1 ≤ x ∧ x ≤ 4000) ∧ (∀ x ∈ ini, 0 ≤ rk ranks x) ∧ ∀ i (h : i < ranks.length), 0 ≤ ranks[i] → nodeP (rows.getD i []) ranks ranks[i] (acc.getD (i % acc.length) false)
noncomputable instance {rows : List (List Int)} {ini : List Int} {acc : List Bool} {N : Nat} {ranks : List Int} : Decidable (certP rows ini acc N ranks) := Classical.propDecidable _
noncomputable def certB (g : Graph) (l : List Tree) (a : Aut) (c : Cert) : Bool := glB g l && autB a && decide (certP (prodRows g (g.st.map (letterZ l)) a) a.ini a.acc (g.st.length * a.acc.length) c.ranks)

def Cert.mx (c : Cert) : Prop := c.ranks.length ≤ maxLen
set_option maxHeartbeats 800000 in
theorem specCheckCertificate_ok (g : Graph) (hg : g.mx) (l : List Tree) (hl : Lmx l) (a : Aut) (ha : a.mx) (c : Cert) (hc : c.mx) : CallsA Try.prog 40 [.agg g.cs, lst 3 Tree.cs' l, .agg a.cs, .agg c.cs] [] (.bool (certB g l a c)) [] := by
  have hcm := hc
  unfold Cert.mx maxLen at hcm
  by_cases hgl : glB g l = true
  · have hG := (graphB_iff g).1 (by unfold glB at hgl; exact (Bool.and_eq_true_iff.1 hgl).1)
    have hL := LabelsOk.of (by unfold glB at hgl; exact (Bool.and_eq_true_iff.1 hgl).2)
    have k1 := specLabelGraph_ok g hg l hl
    rw [hgl, if_pos rfl] at k1
    by_cases hab : autB a = true
    · have hA := autB_iff.1 hab
      have hlr : ∀ x ∈ g.st.map (letterZ l), 0 ≤ x ∧ x ≤ 7 := fun x hx => by
        obtain ⟨s, _, rfl⟩ := List.mem_map.1 hx
        exact letter_range hL s
      have k2 := l8Product_ok g hG (g.st.map (letterZ l)) (by simp) hlr a hA
      have hrows := prodRows_lt g hG (g.st.map (letterZ l)) a hA
      have hrl : (prodRows g (g.st.map (letterZ l)) a).length = g.st.length * a.acc.length := by unfold prodRows; rw [build_length, Nat.mul_comm]
      have hN := mul_bound (a := (g.st.length : Int)) (b := (a.acc.length : Int)) (A := 60) (B := 64) (by omega) (by have := hG.1; omega) (by omega) (by have := hA.1; omega)
      have hN2 : ((g.st.length * a.acc.length : Nat) : Int) = (g.st.length : Int) * a.acc.length := by simp
      have hini := hA.2.2.1
      have e : certB g l a c = decide (certP (prodRows g (g.st.map (letterZ l)) a) a.ini a.acc (g.st.length * a.acc.length) c.ranks) := by unfold certB; rw [hgl, hab]; rfl
      rw [e]
      have hrowl := prodRows_len g hG (g.st.map (letterZ l)) a hA
      generalize prodRows g (g.st.map (letterZ l)) a = rows at k2 hrows hrl hrowl
      have k3 := specAutomatonValid_ok a ha
      rw [hab] at k3
      have ha1 := hA.1
      refine callsA_of tabOk Try.func40 rfl rfl 112 Try.ntmps40 (by simp) ?_
      repeat' (first | (apply AWP.go ok; rfl; conv => whnf) | (apply ord_mk; kernel_rfl; conv => whnf) | (apply And.intro; (first | omega | (unfold inI; omega) | (dsimp only; omega) | (unfold bitsOk; omega) | ((try dsimp only); simp only [List.length_map, List.length_take, List.length_append, List.length_replicate, List.length_cons, List.length_nil]; omega) | (simp only [btw_iff] at *; first | omega | (unfold inI; omega) | (unfold bitsOk; omega)) | exact stor_map (fun _ => rfl) | exact ⟨rfl, stor_cons rfl stor_nil⟩ | exact ⟨rfl, stor_map (fun _ => rfl) _⟩ | exact ⟨⟨rfl, by omega⟩, stor_map (fun _ => rfl) _⟩); conv => whnf) | (with_reducible apply get_mapN; omega; intro _; conv => whnf) | (with_reducible apply get_mapI; omega; intro _; conv => whnf) | (apply get_mapN; omega; intro _; conv => whnf) | (apply get_fill; omega; conv => whnf) | (apply ex_some; conv => whnf) | (apply get_map; omega; intro _; conv => whnf) | (apply vcG_dec <;> intro _ <;> conv => whnf) | (apply vcG_ndec <;> intro _ <;> conv => whnf) | (apply vcG_not <;> intro _ <;> conv => whnf) | (apply vcG_mk <;> intro _ <;> conv => whnf) | (apply vcIf_dec <;> intro _ <;> conv => whnf) | (apply vcIf_ndec <;> intro _ <;> conv => whnf) | (apply vcIf_not <;> intro _ <;> conv => whnf) | (apply vcIf_mk <;> intro _ <;> conv => whnf) | (apply call_data (k1); rfl; rfl; conv => whnf) | (apply call_data (k3); rfl; rfl; conv => whnf) | (apply call_data (k2); rfl; rfl; conv => whnf))
      · rename_i hlen
        exact ret_bool rfl (decide_eq_false fun h => hlen (by rw [h.1]; exact hN2))
      rename_i hlen
      have hcl : c.ranks.length = g.st.length * a.acc.length := by omega
      have hmod : ∀ k : Nat, (((k : Int) % (a.acc.length : Int)).toNat) = k % a.acc.length := fun k => by omega
      have hmodlt : ∀ k : Nat, k % a.acc.length < a.acc.length := fun k => Nat.mod_lt _ (by omega)
      refine loopA (fun k : Nat => ([(4, .ptr 0 none 0), (6, .ptr 1 none 0), (7, .ptr 2 none 0), (11, lst 1 encL rows), (12, .int k)], [.cells 2 [[lst 2 State.cs g.st, lst 1 encL g.nx]], .cells 3 [[lst 1 enI a.ini, lst 1 enB a.acc, lst 4 Trans.cs a.ed]], .cells 1 [[lst 1 enI c.ranks]]])) (fun k => k ≤ c.ranks.length ∧ ∀ i (h : i < c.ranks.length), i < k → (-1 ≤ c.ranks[i] ∧ c.ranks[i] ≤ 4000) ∧ (0 ≤ c.ranks[i] → nodeP (rows.getD i []) c.ranks c.ranks[i] (a.acc.getD (i % a.acc.length) false))) (fun k => c.ranks.length - k) 0 ⟨by omega, fun i h hi => by omega⟩ ⟨[0, 1, 2], rfl, by decide, rfl, by repeat' (first | exact True.intro | exact ⟨rfl, rfl⟩ | apply And.intro), by repeat' (first | exact True.intro | exact obj_box rfl rfl | exact obj_flat (by rfl) (by (first | exact flat_nil | exact flat_replicate rfl | exact flat_map (fun _ => rfl) | (apply flat_append <;> (first | exact flat_replicate rfl | exact flat_map (fun _ => rfl))) | assumption)) | apply And.intro)⟩ ?_
      rintro k ⟨hk1, hk2⟩
      have hm := hmod k
      have hml := hmodlt k
      by_cases hkl : k < c.ranks.length
      · have hrr : k < rows.length := by omega
        have hacc : a.acc.getD (k % a.acc.length) false = a.acc[((k : Int) % (a.acc.length : Int)).toNat]'(by omega) := by
          rw [getD_at hml]; simp only [hm]
        have hrw : rows.getD k [] = rows[k] := getD_at hrr
        have hrl2 : rows[k].length ≤ maxLen := by have := hrowl _ (List.getElem_mem hrr); unfold maxLen; omega
        have hxs : ∀ x ∈ rows[k], 0 ≤ x ∧ x < c.ranks.length := fun x hx => by
          have := hrows _ (List.getElem_mem hrr) x hx
          rw [hcl]; exact this
        have hkacc : ((k : Int) % (a.acc.length : Int)).toNat < a.acc.length := by omega
        have hnode := l9Node_ok rows[k] c.ranks c.ranks[k] (a.acc[((k : Int) % (a.acc.length : Int)).toNat]'hkacc) hrl2 hxs
        have hno : certP rows a.ini a.acc (g.st.length * a.acc.length) c.ranks → (-1 ≤ c.ranks[k] ∧ c.ranks[k] ≤ 4000) ∧ (0 ≤ c.ranks[k] → nodeP rows[k] c.ranks c.ranks[k] (a.acc[((k : Int) % (a.acc.length : Int)).toNat]'hkacc)) := fun h => by
          have h1 := h.2.2.2 k hkl
          rw [hrw, hacc] at h1
          exact ⟨h.2.1 _ (List.getElem_mem _), h1⟩
        have hyes : ((-1 ≤ c.ranks[k] ∧ c.ranks[k] ≤ 4000) ∧ (0 ≤ c.ranks[k] → nodeP rows[k] c.ranks c.ranks[k] (a.acc[((k : Int) % (a.acc.length : Int)).toNat]'hkacc))) → ∀ i (h : i < c.ranks.length), i < k + 1 → (-1 ≤ c.ranks[i] ∧ c.ranks[i] ≤ 4000) ∧ (0 ≤ c.ranks[i] → nodeP (rows.getD i []) c.ranks c.ranks[i] (a.acc.getD (i % a.acc.length) false)) := fun h i hi hik => by
          rcases Nat.lt_or_ge i k with h3 | h3
          · exact hk2 i hi h3
          · obtain rfl : i = k := by omega
            rw [hrw, hacc]; exact h
        repeat' (first | (apply AWP.go ok; rfl; conv => whnf) | (apply ord_mk; kernel_rfl; conv => whnf) | (apply And.intro; (first | omega | (unfold inI; omega) | (dsimp only; omega) | (unfold bitsOk; omega) | ((try dsimp only); simp only [List.length_map, List.length_take, List.length_append, List.length_replicate, List.length_cons, List.length_nil]; omega) | (simp only [btw_iff] at *; first | omega | (unfold inI; omega) | (unfold bitsOk; omega)) | exact stor_map (fun _ => rfl) | exact ⟨rfl, stor_cons rfl stor_nil⟩ | exact ⟨rfl, stor_map (fun _ => rfl) _⟩ | exact ⟨⟨rfl, by omega⟩, stor_map (fun _ => rfl) _⟩); conv => whnf) | (with_reducible apply get_mapN; omega; intro _; conv => whnf) | (with_reducible apply get_mapI; omega; intro _; conv => whnf) | (apply get_mapN; omega; intro _; conv => whnf) | (apply get_fill; omega; conv => whnf) | (apply ex_some; conv => whnf) | (apply get_map; omega; intro _; conv => whnf) | (apply vcG_dec <;> intro _ <;> conv => whnf) | (apply vcG_ndec <;> intro _ <;> conv => whnf) | (apply vcG_not <;> intro _ <;> conv => whnf) | (apply vcG_mk <;> intro _ <;> conv => whnf) | (apply vcIf_dec <;> intro _ <;> conv => whnf) | (apply vcIf_ndec <;> intro _ <;> conv => whnf) | (apply vcIf_not <;> intro _ <;> conv => whnf) | (apply vcIf_mk <;> intro _ <;> conv => whnf) | (apply call_data (hnode); rfl; rfl; conv => whnf))
        · exact ret_bool rfl (decide_eq_false fun h => by have := (hno h).1; omega)
        · exact ret_bool rfl (decide_eq_false fun h => by have := (hno h).1; omega)
        · rename_i hn
          exact ret_bool rfl (decide_eq_false fun h => hn ((hno h).2 (by assumption)))
        · rename_i hn
          exact again (k + 1) [0, 1, 2] ⟨by omega, hyes ⟨by omega, fun _ => hn⟩⟩ (by omega) ⟨rfl, by decide, rfl, by repeat' (first | exact True.intro | exact ⟨rfl, rfl⟩ | apply And.intro), by repeat' (first | exact True.intro | exact obj_box rfl rfl | exact obj_flat (by rfl) (by (first | exact flat_nil | exact flat_replicate rfl | exact flat_map (fun _ => rfl) | (apply flat_append <;> (first | exact flat_replicate rfl | exact flat_map (fun _ => rfl))) | assumption)) | apply And.intro)⟩
        · rename_i hn
          exact again (k + 1) [0, 1, 2] ⟨by omega, hyes ⟨by omega, fun h => absurd h hn⟩⟩ (by omega) ⟨rfl, by decide, rfl, by repeat' (first | exact True.intro | exact ⟨rfl, rfl⟩ | apply And.intro), by repeat' (first | exact True.intro | exact obj_box rfl rfl | exact obj_flat (by rfl) (by (first | exact flat_nil | exact flat_replicate rfl | exact flat_map (fun _ => rfl) | (apply flat_append <;> (first | exact flat_replicate rfl | exact flat_map (fun _ => rfl))) | assumption)) | apply And.intro)⟩
        · omega
      · repeat' (first | (apply AWP.go ok; rfl; conv => whnf) | (apply ord_mk; kernel_rfl; conv => whnf) | (apply And.intro; (first | omega | (unfold inI; omega) | (dsimp only; omega) | (unfold bitsOk; omega) | ((try dsimp only); simp only [List.length_map, List.length_take, List.length_append, List.length_replicate, List.length_cons, List.length_nil]; omega) | (simp only [btw_iff] at *; first | omega | (unfold inI; omega) | (unfold bitsOk; omega)) | exact stor_map (fun _ => rfl) | exact ⟨rfl, stor_cons rfl stor_nil⟩ | exact ⟨rfl, stor_map (fun _ => rfl) _⟩ | exact ⟨⟨rfl, by omega⟩, stor_map (fun _ => rfl) _⟩); conv => whnf) | (with_reducible apply get_mapN; omega; intro _; conv => whnf) | (with_reducible apply get_mapI; omega; intro _; conv => whnf) | (apply get_mapN; omega; intro _; conv => whnf) | (apply get_fill; omega; conv => whnf) | (apply ex_some; conv => whnf) | (apply get_map; omega; intro _; conv => whnf) | (apply vcG_dec <;> intro _ <;> conv => whnf) | (apply vcG_ndec <;> intro _ <;> conv => whnf) | (apply vcG_not <;> intro _ <;> conv => whnf) | (apply vcG_mk <;> intro _ <;> conv => whnf) | (apply vcIf_dec <;> intro _ <;> conv => whnf) | (apply vcIf_ndec <;> intro _ <;> conv => whnf) | (apply vcIf_not <;> intro _ <;> conv => whnf) | (apply vcIf_mk <;> intro _ <;> conv => whnf))
        all_goals first | (exfalso; omega) | skip
        obtain rfl : k = c.ranks.length := by omega
        have hil := hini.le (by omega)
        refine loopA (fun j : Nat => ([(6, .ptr 1 none 0), (7, .ptr 2 none 0), (13, .int j)], [.cells 2 [[lst 2 State.cs g.st, lst 1 encL g.nx]], .cells 3 [[lst 1 enI a.ini, lst 1 enB a.acc, lst 4 Trans.cs a.ed]], .cells 1 [[lst 1 enI c.ranks]]])) (fun j => j ≤ a.ini.length ∧ ∀ i (h : i < a.ini.length), i < j → 0 ≤ rk c.ranks a.ini[i]) (fun j => a.ini.length - j) 0 ⟨by omega, fun i h hi => by omega⟩ ⟨[0, 1, 2], rfl, by decide, rfl, by repeat' (first | exact True.intro | exact ⟨rfl, rfl⟩ | apply And.intro), by repeat' (first | exact True.intro | exact obj_box rfl rfl | exact obj_flat (by rfl) (by (first | exact flat_nil | exact flat_replicate rfl | exact flat_map (fun _ => rfl) | (apply flat_append <;> (first | exact flat_replicate rfl | exact flat_map (fun _ => rfl))) | assumption)) | apply And.intro)⟩ ?_
        rintro j ⟨hj1, hj2⟩
        by_cases hjl : j < a.ini.length
        · have hin := (hini j hjl hjl).1
          have hb1 := mul_bound (a := (g.st.length : Int) - 1) (b := (a.acc.length : Int)) (A := 60) (B := 64) (by have := hG.1; omega) (by have := hG.1; omega) (by omega) (by omega)
          rw [Int.sub_mul, Int.one_mul] at hb1
          have hix : a.ini[j].toNat < c.ranks.length := by rw [hcl]; omega
          have hrk : rk c.ranks a.ini[j] = c.ranks[a.ini[j].toNat]'hix := getD_at hix
          repeat' (first | (apply AWP.go ok; rfl; conv => whnf) | (apply ord_mk; kernel_rfl; conv => whnf) | (apply And.intro; (first | omega | (unfold inI; omega) | (dsimp only; omega) | (unfold bitsOk; omega) | ((try dsimp only); simp only [List.length_map, List.length_take, List.length_append, List.length_replicate, List.length_cons, List.length_nil]; omega) | (simp only [btw_iff] at *; first | omega | (unfold inI; omega) | (unfold bitsOk; omega)) | exact stor_map (fun _ => rfl) | exact ⟨rfl, stor_cons rfl stor_nil⟩ | exact ⟨rfl, stor_map (fun _ => rfl) _⟩ | exact ⟨⟨rfl, by omega⟩, stor_map (fun _ => rfl) _⟩); conv => whnf) | (with_reducible apply get_mapN; omega; intro _; conv => whnf) | (with_reducible apply get_mapI; omega; intro _; conv => whnf) | (apply get_mapN; omega; intro _; conv => whnf) | (apply get_fill; omega; conv => whnf) | (apply ex_some; conv => whnf) | (apply get_map; omega; intro _; conv => whnf) | (apply vcG_dec <;> intro _ <;> conv => whnf) | (apply vcG_ndec <;> intro _ <;> conv => whnf) | (apply vcG_not <;> intro _ <;> conv => whnf) | (apply vcG_mk <;> intro _ <;> conv => whnf) | (apply vcIf_dec <;> intro _ <;> conv => whnf) | (apply vcIf_ndec <;> intro _ <;> conv => whnf) | (apply vcIf_not <;> intro _ <;> conv => whnf) | (apply vcIf_mk <;> intro _ <;> conv => whnf))
          · exact ret_bool rfl (decide_eq_false fun h => by have := h.2.2.1 _ (List.getElem_mem hjl); rw [hrk] at this; omega)
          · refine again (j + 1) [0, 1, 2] ⟨by omega, fun i hi hij => ?_⟩ (by omega) ⟨rfl, by decide, rfl, by repeat' (first | exact True.intro | exact ⟨rfl, rfl⟩ | apply And.intro), by repeat' (first | exact True.intro | exact obj_box rfl rfl | exact obj_flat (by rfl) (by (first | exact flat_nil | exact flat_replicate rfl | exact flat_map (fun _ => rfl) | (apply flat_append <;> (first | exact flat_replicate rfl | exact flat_map (fun _ => rfl))) | assumption)) | apply And.intro)⟩
            rcases Nat.lt_or_ge i j with h3 | h3
            · exact hj2 i hi h3
            · obtain rfl : i = j := by omega
              rw [hrk]; omega
          · omega
        · repeat' (first | (apply AWP.go ok; rfl; conv => whnf) | (apply ord_mk; kernel_rfl; conv => whnf) | (apply And.intro; (first | omega | (unfold inI; omega) | (dsimp only; omega) | (unfold bitsOk; omega) | ((try dsimp only); simp only [List.length_map, List.length_take, List.length_append, List.length_replicate, List.length_cons, List.length_nil]; omega) | (simp only [btw_iff] at *; first | omega | (unfold inI; omega) | (unfold bitsOk; omega)) | exact stor_map (fun _ => rfl) | exact ⟨rfl, stor_cons rfl stor_nil⟩ | exact ⟨rfl, stor_map (fun _ => rfl) _⟩ | exact ⟨⟨rfl, by omega⟩, stor_map (fun _ => rfl) _⟩); conv => whnf) | (with_reducible apply get_mapN; omega; intro _; conv => whnf) | (with_reducible apply get_mapI; omega; intro _; conv => whnf) | (apply get_mapN; omega; intro _; conv => whnf) | (apply get_fill; omega; conv => whnf) | (apply ex_some; conv => whnf) | (apply get_map; omega; intro _; conv => whnf) | (apply vcG_dec <;> intro _ <;> conv => whnf) | (apply vcG_ndec <;> intro _ <;> conv => whnf) | (apply vcG_not <;> intro _ <;> conv => whnf) | (apply vcG_mk <;> intro _ <;> conv => whnf) | (apply vcIf_dec <;> intro _ <;> conv => whnf) | (apply vcIf_ndec <;> intro _ <;> conv => whnf) | (apply vcIf_not <;> intro _ <;> conv => whnf) | (apply vcIf_mk <;> intro _ <;> conv => whnf))
          all_goals first | (exfalso; omega) | skip
          refine ret_bool rfl (decide_eq_true ⟨hcl, fun x hx => ?_, fun x hx => ?_, fun i h => ?_⟩)
          · obtain ⟨i, hi, rfl⟩ := List.mem_iff_getElem.1 hx
            exact (hk2 i hi hi).1
          · obtain ⟨i, hi, rfl⟩ := List.mem_iff_getElem.1 hx
            exact hj2 i hi (by omega)
          · exact (hk2 i h h).2
    · have hab := (Bool.not_eq_true _).mp hab
      have e : certB g l a c = false := by unfold certB; rw [hab, Bool.and_false]; rfl
      have k3 := specAutomatonValid_ok a ha
      rw [hab] at k3
      rw [e]
      refine callsA_of tabOk Try.func40 rfl rfl 112 Try.ntmps40 (by simp) ?_
      repeat' (first | (apply AWP.go ok; rfl; conv => whnf) | (apply ord_mk; kernel_rfl; conv => whnf) | (apply And.intro; (first | omega | (unfold inI; omega) | (dsimp only; omega) | (unfold bitsOk; omega) | ((try dsimp only); simp only [List.length_map, List.length_take, List.length_append, List.length_replicate, List.length_cons, List.length_nil]; omega) | (simp only [btw_iff] at *; first | omega | (unfold inI; omega) | (unfold bitsOk; omega)) | exact stor_map (fun _ => rfl) | exact ⟨rfl, stor_cons rfl stor_nil⟩ | exact ⟨rfl, stor_map (fun _ => rfl) _⟩ | exact ⟨⟨rfl, by omega⟩, stor_map (fun _ => rfl) _⟩); conv => whnf) | (with_reducible apply get_mapN; omega; intro _; conv => whnf) | (with_reducible apply get_mapI; omega; intro _; conv => whnf) | (apply get_mapN; omega; intro _; conv => whnf) | (apply get_fill; omega; conv => whnf) | (apply ex_some; conv => whnf) | (apply get_map; omega; intro _; conv => whnf) | (apply vcG_dec <;> intro _ <;> conv => whnf) | (apply vcG_ndec <;> intro _ <;> conv => whnf) | (apply vcG_not <;> intro _ <;> conv => whnf) | (apply vcG_mk <;> intro _ <;> conv => whnf) | (apply vcIf_dec <;> intro _ <;> conv => whnf) | (apply vcIf_ndec <;> intro _ <;> conv => whnf) | (apply vcIf_not <;> intro _ <;> conv => whnf) | (apply vcIf_mk <;> intro _ <;> conv => whnf) | (apply call_data (k1); rfl; rfl; conv => whnf) | (apply call_data (k3); rfl; rfl; conv => whnf))
      all_goals (refine ret_bool rfl ?_; first | rfl | (simp [*]; done) | (simp_all; done) | (simp_all; omega))
  · have k1 := specLabelGraph_ok g hg l hl
    have hgl := (Bool.not_eq_true _).mp hgl
    rw [hgl, if_neg (by simp)] at k1
    have e : certB g l a c = false := by unfold certB; rw [hgl]; rfl
    rw [e]
    refine callsA_of tabOk Try.func40 rfl rfl 112 Try.ntmps40 (by simp) ?_
    repeat' (first | (apply AWP.go ok; rfl; conv => whnf) | (apply ord_mk; kernel_rfl; conv => whnf) | (apply And.intro; (first | omega | (unfold inI; omega) | (dsimp only; omega) | (unfold bitsOk; omega) | ((try dsimp only); simp only [List.length_map, List.length_take, List.length_append, List.length_replicate, List.length_cons, List.length_nil]; omega) | (simp only [btw_iff] at *; first | omega | (unfold inI; omega) | (unfold bitsOk; omega)) | exact stor_map (fun _ => rfl) | exact ⟨rfl, stor_cons rfl stor_nil⟩ | exact ⟨rfl, stor_map (fun _ => rfl) _⟩ | exact ⟨⟨rfl, by omega⟩, stor_map (fun _ => rfl) _⟩); conv => whnf) | (with_reducible apply get_mapN; omega; intro _; conv => whnf) | (with_reducible apply get_mapI; omega; intro _; conv => whnf) | (apply get_mapN; omega; intro _; conv => whnf) | (apply get_fill; omega; conv => whnf) | (apply ex_some; conv => whnf) | (apply get_map; omega; intro _; conv => whnf) | (apply vcG_dec <;> intro _ <;> conv => whnf) | (apply vcG_ndec <;> intro _ <;> conv => whnf) | (apply vcG_not <;> intro _ <;> conv => whnf) | (apply vcG_mk <;> intro _ <;> conv => whnf) | (apply vcIf_dec <;> intro _ <;> conv => whnf) | (apply vcIf_ndec <;> intro _ <;> conv => whnf) | (apply vcIf_not <;> intro _ <;> conv => whnf) | (apply vcIf_mk <;> intro _ <;> conv => whnf) | (apply call_data (k1); rfl; rfl; conv => whnf))
    all_goals (refine ret_bool rfl ?_; first | rfl | (simp [*]; done) | (simp_all; done) | (simp_all; omega))
end Go.Proofs.Ytcannajfdnipkaa

namespace Go.Proofs.Ytcannajfdnipkaa
open Go.Gl
attribute [local irreducible] vcCall AWP RetOk Again ordOk

theorem checkCert1_ok (n : Int) : CallsA Try.prog 92 [.int n] [] (.bool (!btw n (-1) 4000)) [] := by
  refine callsA_of tabOk Try.func92 rfl rfl 6 Try.ntmps92 (by simp) ?_
  repeat' (first | (apply AWP.go ok; rfl; conv => whnf) | (apply ord_mk; kernel_rfl; conv => whnf) | (apply And.intro; (first | omega | (unfold inI; omega) | (dsimp only; omega) | (unfold bitsOk; omega) | ((try dsimp only); simp only [List.length_map, List.length_take, List.length_append, List.length_replicate, List.length_cons, List.length_nil]; omega) | (simp only [btw_iff] at *; first | omega | (unfold inI; omega) | (unfold bitsOk; omega)) | exact stor_map (fun _ => rfl) | exact ⟨rfl, stor_cons rfl stor_nil⟩ | exact ⟨rfl, stor_map (fun _ => rfl) _⟩ | exact ⟨⟨rfl, by omega⟩, stor_map (fun _ => rfl) _⟩); conv => whnf) | (with_reducible apply get_mapN; omega; intro _; conv => whnf) | (with_reducible apply get_mapI; omega; intro _; conv => whnf) | (apply get_mapN; omega; intro _; conv => whnf) | (apply get_fill; omega; conv => whnf) | (apply ex_some; conv => whnf) | (apply get_map; omega; intro _; conv => whnf) | (apply vcG_dec <;> intro _ <;> conv => whnf) | (apply vcG_ndec <;> intro _ <;> conv => whnf) | (apply vcG_not <;> intro _ <;> conv => whnf) | (apply vcG_mk <;> intro _ <;> conv => whnf) | (apply vcIf_dec <;> intro _ <;> conv => whnf) | (apply vcIf_ndec <;> intro _ <;> conv => whnf) | (apply vcIf_not <;> intro _ <;> conv => whnf) | (apply vcIf_mk <;> intro _ <;> conv => whnf) | (apply call_data (in_ok n (-1) 4000); rfl; rfl; conv => whnf))
  exact ret_bool rfl rfl

set_option maxHeartbeats 1600000 in
theorem checkCertificate_ok (g : Graph) (hg : g.mx) (l : List Tree) (hl : Lmx l) (a : Aut) (ha : a.mx) (c : Cert) (hc : c.mx) : CallsA Try.prog 43 [.agg g.cs, lst 3 Tree.cs' l, .agg a.cs, .agg c.cs] [] (.bool (certB g l a c)) [] := by
  have hcm := hc
  unfold Cert.mx maxLen at hcm
  have k1 := checked_ok g hg l hl a ha
  by_cases hgl : (glB g l && autB a) = true
  · rw [hgl] at k1
    obtain ⟨hgl, hab⟩ := Bool.and_eq_true_iff.1 hgl
    have hG := (graphB_iff g).1 (by unfold glB at hgl; exact (Bool.and_eq_true_iff.1 hgl).1)
    have hL := LabelsOk.of (by unfold glB at hgl; exact (Bool.and_eq_true_iff.1 hgl).2)
    have hA := autB_iff.1 hab
    have k2 := product_ok g hG l hL a hA
    have kc := containsFunc_int c.ranks hc (fun n => !btw n (-1) 4000) 92 (fun x _ => checkCert1_ok x)
    have hrows := prodRows_lt g hG (g.st.map (letterZ l)) a hA
    have hrowl := prodRows_len g hG (g.st.map (letterZ l)) a hA
    have hrl : (prodRows g (g.st.map (letterZ l)) a).length = g.st.length * a.acc.length := by unfold prodRows; rw [build_length, Nat.mul_comm]
    have ha1 := hA.1
    have hN := mul_bound (a := (g.st.length : Int)) (b := (a.acc.length : Int)) (A := 60) (B := 64) (by omega) (by have := hG.1; omega) (by omega) (by omega)
    have hN2 : ((g.st.length * a.acc.length : Nat) : Int) = (g.st.length : Int) * a.acc.length := by simp
    have hini := hA.2.2.1
    have e : certB g l a c = decide (certP (prodRows g (g.st.map (letterZ l)) a) a.ini a.acc (g.st.length * a.acc.length) c.ranks) := by unfold certB; rw [hgl, hab]; rfl
    rw [e]
    generalize prodRows g (g.st.map (letterZ l)) a = rows at k2 hrows hrl hrowl
    refine callsA_of tabOk Try.func43 rfl rfl 104 Try.ntmps43 (by simp) ?_
    repeat' (first | (apply AWP.go ok; rfl; conv => whnf) | (apply ord_mk; kernel_rfl; conv => whnf) | (apply And.intro; (first | omega | (unfold inI; omega) | (dsimp only; omega) | (unfold bitsOk; omega) | ((try dsimp only); simp only [List.length_map, List.length_take, List.length_append, List.length_replicate, List.length_cons, List.length_nil]; omega) | (simp only [btw_iff] at *; first | omega | (unfold inI; omega) | (unfold bitsOk; omega)) | exact stor_map (fun _ => rfl) | exact ⟨rfl, stor_cons rfl stor_nil⟩ | exact ⟨rfl, stor_map (fun _ => rfl) _⟩ | exact ⟨⟨rfl, by omega⟩, stor_map (fun _ => rfl) _⟩); conv => whnf) | (with_reducible apply get_mapN; omega; intro _; conv => whnf) | (with_reducible apply get_mapI; omega; intro _; conv => whnf) | (apply get_mapN; omega; intro _; conv => whnf) | (apply get_fill; omega; conv => whnf) | (apply ex_some; conv => whnf) | (apply get_map; omega; intro _; conv => whnf) | (apply vcG_dec <;> intro _ <;> conv => whnf) | (apply vcG_ndec <;> intro _ <;> conv => whnf) | (apply vcG_not <;> intro _ <;> conv => whnf) | (apply vcG_mk <;> intro _ <;> conv => whnf) | (apply vcIf_dec <;> intro _ <;> conv => whnf) | (apply vcIf_ndec <;> intro _ <;> conv => whnf) | (apply vcIf_not <;> intro _ <;> conv => whnf) | (apply vcIf_mk <;> intro _ <;> conv => whnf) | (apply call_data (k1); rfl; rfl; conv => whnf) | (apply call_data (kc); rfl; rfl; conv => whnf) | (apply call_data (k2); rfl; rfl; conv => whnf))
    · rename_i hlen
      exact ret_bool rfl (decide_eq_false fun h => hlen (by rw [h.1]; exact hN2))
    · rename_i hlen hany
      refine ret_bool rfl (decide_eq_false fun h => ?_)
      obtain ⟨x, hx, hb⟩ := List.any_eq_true.1 hany
      have := h.2.1 x hx
      rw [← btw_iff] at this
      rw [this] at hb; simp at hb
    rename_i hlen hany
    have hcl : c.ranks.length = g.st.length * a.acc.length := by omega
    have hrng : ∀ x ∈ c.ranks, -1 ≤ x ∧ x ≤ 4000 := fun x hx => by
      have := List.any_eq_false.1 hany x hx
      rw [← btw_iff]; simpa using this
    have hmod : ∀ k : Nat, (((k : Int) % (a.acc.length : Int)).toNat) = k % a.acc.length := fun k => by omega
    have hmodlt : ∀ k : Nat, k % a.acc.length < a.acc.length := fun k => Nat.mod_lt _ (by omega)
    have hil := hini.le (by omega)
    refine loopA (fun j : Nat => ([(6, .ptr 1 none 0), (7, .ptr 2 none 0), (9, lst 1 encL rows), (48, ints a.ini), (49, .int a.ini.length), (50, .int j)], [.cells 2 [[lst 2 State.cs g.st, lst 1 encL g.nx]], .cells 3 [[lst 1 enI a.ini, lst 1 enB a.acc, lst 4 Trans.cs a.ed]], .cells 1 [[lst 1 enI c.ranks]]])) (fun j => j ≤ a.ini.length ∧ ∀ i (h : i < a.ini.length), i < j → 0 ≤ rk c.ranks a.ini[i]) (fun j => a.ini.length - j) 0 ⟨by omega, fun i h hi => by omega⟩ ⟨[0, 1, 2], rfl, by decide, rfl, by repeat' (first | exact True.intro | exact ⟨rfl, rfl⟩ | apply And.intro), by repeat' (first | exact True.intro | exact obj_box rfl rfl | exact obj_flat (by rfl) (by (first | exact flat_nil | exact flat_replicate rfl | exact flat_map (fun _ => rfl) | (apply flat_append <;> (first | exact flat_replicate rfl | exact flat_map (fun _ => rfl))) | assumption)) | apply And.intro)⟩ ?_
    rintro j ⟨hj1, hj2⟩
    by_cases hjl : j < a.ini.length
    · have hin := (hini j hjl hjl).1
      have hb1 := mul_bound (a := (g.st.length : Int) - 1) (b := (a.acc.length : Int)) (A := 60) (B := 64) (by have := hG.1; omega) (by have := hG.1; omega) (by omega) (by omega)
      rw [Int.sub_mul, Int.one_mul] at hb1
      have hix : a.ini[j].toNat < c.ranks.length := by rw [hcl]; omega
      have hrk : rk c.ranks a.ini[j] = c.ranks[a.ini[j].toNat]'hix := getD_at hix
      repeat' (first | (apply AWP.go ok; rfl; conv => whnf) | (apply ord_mk; kernel_rfl; conv => whnf) | (apply And.intro; (first | omega | (unfold inI; omega) | (dsimp only; omega) | (unfold bitsOk; omega) | ((try dsimp only); simp only [List.length_map, List.length_take, List.length_append, List.length_replicate, List.length_cons, List.length_nil]; omega) | (simp only [btw_iff] at *; first | omega | (unfold inI; omega) | (unfold bitsOk; omega)) | exact stor_map (fun _ => rfl) | exact ⟨rfl, stor_cons rfl stor_nil⟩ | exact ⟨rfl, stor_map (fun _ => rfl) _⟩ | exact ⟨⟨rfl, by omega⟩, stor_map (fun _ => rfl) _⟩); conv => whnf) | (with_reducible apply get_mapN; omega; intro _; conv => whnf) | (with_reducible apply get_mapI; omega; intro _; conv => whnf) | (apply get_mapN; omega; intro _; conv => whnf) | (apply get_fill; omega; conv => whnf) | (apply ex_some; conv => whnf) | (apply get_map; omega; intro _; conv => whnf) | (apply vcG_dec <;> intro _ <;> conv => whnf) | (apply vcG_ndec <;> intro _ <;> conv => whnf) | (apply vcG_not <;> intro _ <;> conv => whnf) | (apply vcG_mk <;> intro _ <;> conv => whnf) | (apply vcIf_dec <;> intro _ <;> conv => whnf) | (apply vcIf_ndec <;> intro _ <;> conv => whnf) | (apply vcIf_not <;> intro _ <;> conv => whnf) | (apply vcIf_mk <;> intro _ <;> conv => whnf))
      · exact ret_bool rfl (decide_eq_false fun h => by have := h.2.2.1 _ (List.getElem_mem hjl); rw [hrk] at this; omega)
      · refine again (j + 1) [0, 1, 2] ⟨by omega, fun i hi hij => ?_⟩ (by omega) ⟨rfl, by decide, rfl, by repeat' (first | exact True.intro | exact ⟨rfl, rfl⟩ | apply And.intro), by repeat' (first | exact True.intro | exact obj_box rfl rfl | exact obj_flat (by rfl) (by (first | exact flat_nil | exact flat_replicate rfl | exact flat_map (fun _ => rfl) | (apply flat_append <;> (first | exact flat_replicate rfl | exact flat_map (fun _ => rfl))) | assumption)) | apply And.intro)⟩
        rcases Nat.lt_or_ge i j with h3 | h3
        · exact hj2 i hi h3
        · obtain rfl : i = j := by omega
          rw [hrk]; omega
      · omega
    repeat' (first | (apply AWP.go ok; rfl; conv => whnf) | (apply ord_mk; kernel_rfl; conv => whnf) | (apply And.intro; (first | omega | (unfold inI; omega) | (dsimp only; omega) | (unfold bitsOk; omega) | ((try dsimp only); simp only [List.length_map, List.length_take, List.length_append, List.length_replicate, List.length_cons, List.length_nil]; omega) | (simp only [btw_iff] at *; first | omega | (unfold inI; omega) | (unfold bitsOk; omega)) | exact stor_map (fun _ => rfl) | exact ⟨rfl, stor_cons rfl stor_nil⟩ | exact ⟨rfl, stor_map (fun _ => rfl) _⟩ | exact ⟨⟨rfl, by omega⟩, stor_map (fun _ => rfl) _⟩); conv => whnf) | (with_reducible apply get_mapN; omega; intro _; conv => whnf) | (with_reducible apply get_mapI; omega; intro _; conv => whnf) | (apply get_mapN; omega; intro _; conv => whnf) | (apply get_fill; omega; conv => whnf) | (apply ex_some; conv => whnf) | (apply get_map; omega; intro _; conv => whnf) | (apply vcG_dec <;> intro _ <;> conv => whnf) | (apply vcG_ndec <;> intro _ <;> conv => whnf) | (apply vcG_not <;> intro _ <;> conv => whnf) | (apply vcG_mk <;> intro _ <;> conv => whnf) | (apply vcIf_dec <;> intro _ <;> conv => whnf) | (apply vcIf_ndec <;> intro _ <;> conv => whnf) | (apply vcIf_not <;> intro _ <;> conv => whnf) | (apply vcIf_mk <;> intro _ <;> conv => whnf))
    all_goals first | (exfalso; omega) | skip
    have hiniR : ∀ x ∈ a.ini, 0 ≤ rk c.ranks x := fun x hx => by
      obtain ⟨i, hi, rfl⟩ := List.mem_iff_getElem.1 hx
      exact hj2 i hi (by omega)
    clear hj1 hj2 hjl
    refine loopA (fun k : Nat => ([(6, .ptr 1 none 0), (7, .ptr 2 none 0), (9, lst 1 encL rows), (62, ints c.ranks), (63, .int c.ranks.length), (64, .int k)], [.cells 2 [[lst 2 State.cs g.st, lst 1 encL g.nx]], .cells 3 [[lst 1 enI a.ini, lst 1 enB a.acc, lst 4 Trans.cs a.ed]], .cells 1 [[lst 1 enI c.ranks]]])) (fun k => k ≤ c.ranks.length ∧ ∀ i (h : i < c.ranks.length), i < k → 0 ≤ c.ranks[i] → nodeP (rows.getD i []) c.ranks c.ranks[i] (a.acc.getD (i % a.acc.length) false)) (fun k => c.ranks.length - k) 0 ⟨by omega, fun i h hi => by omega⟩ ⟨[0, 1, 2], rfl, by decide, rfl, by repeat' (first | exact True.intro | exact ⟨rfl, rfl⟩ | apply And.intro), by repeat' (first | exact True.intro | exact obj_box rfl rfl | exact obj_flat (by rfl) (by (first | exact flat_nil | exact flat_replicate rfl | exact flat_map (fun _ => rfl) | (apply flat_append <;> (first | exact flat_replicate rfl | exact flat_map (fun _ => rfl))) | assumption)) | apply And.intro)⟩ ?_
    rintro k ⟨hk1, hk2⟩
    have hm := hmod k
    have hml := hmodlt k
    by_cases hkl : k < c.ranks.length
    · have hrr : k < rows.length := by omega
      have hkacc : ((k : Int) % (a.acc.length : Int)).toNat < a.acc.length := by omega
      have hacc : a.acc.getD (k % a.acc.length) false = (a.acc[((k : Int) % (a.acc.length : Int)).toNat]'hkacc) := by
        rw [getD_at hml]; simp only [hm]
      have hrw : rows.getD k [] = rows[k] := getD_at hrr
      have hrl2 : rows[k].length ≤ 7372800 := hrowl _ (List.getElem_mem hrr)
      have hxs : ∀ x ∈ rows[k], 0 ≤ x ∧ x < c.ranks.length := fun x hx => by
        have := hrows _ (List.getElem_mem hrr) x hx
        rw [hcl]; exact this
      have hrk := hrng c.ranks[k] (List.getElem_mem hkl)
      have hno : certP rows a.ini a.acc (g.st.length * a.acc.length) c.ranks → 0 ≤ c.ranks[k] → nodeP rows[k] c.ranks c.ranks[k] (a.acc[((k : Int) % (a.acc.length : Int)).toNat]'hkacc) := fun h => by
        have h1 := h.2.2.2 k hkl
        rw [hrw, hacc] at h1
        exact h1
      have hyes : (0 ≤ c.ranks[k] → nodeP rows[k] c.ranks c.ranks[k] (a.acc[((k : Int) % (a.acc.length : Int)).toNat]'hkacc)) → ∀ i (h : i < c.ranks.length), i < k + 1 → 0 ≤ c.ranks[i] → nodeP (rows.getD i []) c.ranks c.ranks[i] (a.acc.getD (i % a.acc.length) false) := fun h i hi hik => by
        rcases Nat.lt_or_ge i k with h3 | h3
        · exact hk2 i hi h3
        · obtain rfl : i = k := by omega
          rw [hrw, hacc]; exact h
      generalize hacd : (a.acc[((k : Int) % (a.acc.length : Int)).toNat]'hkacc) = ac at hno hyes
      repeat' (first | (apply AWP.go ok; rfl; conv => whnf) | (apply ord_mk; kernel_rfl; conv => whnf) | (apply And.intro; (first | omega | (unfold inI; omega) | (dsimp only; omega) | (unfold bitsOk; omega) | ((try dsimp only); simp only [List.length_map, List.length_take, List.length_append, List.length_replicate, List.length_cons, List.length_nil]; omega) | (simp only [btw_iff] at *; first | omega | (unfold inI; omega) | (unfold bitsOk; omega)) | exact stor_map (fun _ => rfl) | exact ⟨rfl, stor_cons rfl stor_nil⟩ | exact ⟨rfl, stor_map (fun _ => rfl) _⟩ | exact ⟨⟨rfl, by omega⟩, stor_map (fun _ => rfl) _⟩); conv => whnf) | (with_reducible apply get_mapN; omega; intro _; conv => whnf) | (with_reducible apply get_mapI; omega; intro _; conv => whnf) | (apply get_mapN; omega; intro _; conv => whnf) | (apply get_fill; omega; conv => whnf) | (apply ex_some; conv => whnf) | (apply get_map; omega; intro _; conv => whnf) | (apply vcG_dec <;> intro _ <;> conv => whnf) | (apply vcG_ndec <;> intro _ <;> conv => whnf) | (apply vcG_not <;> intro _ <;> conv => whnf) | (apply vcG_mk <;> intro _ <;> conv => whnf) | (apply vcIf_dec <;> intro _ <;> conv => whnf) | (apply vcIf_ndec <;> intro _ <;> conv => whnf) | (apply vcIf_not <;> intro _ <;> conv => whnf) | (apply vcIf_mk <;> intro _ <;> conv => whnf))
      all_goals first | (exfalso; omega) | skip
      all_goals (rw [hacd] at *)
      all_goals
        refine loopA (fun j : Nat => ([(6, .ptr 1 none 0), (7, .ptr 2 none 0), (9, lst 1 encL rows), (62, ints c.ranks), (63, .int c.ranks.length), (64, .int k), (14, .int c.ranks[k]), (15, .int (less ac c.ranks[k])), (84, ints rows[k]), (85, .int rows[k].length), (86, .int j)], [.cells 2 [[lst 2 State.cs g.st, lst 1 encL g.nx]], .cells 3 [[lst 1 enI a.ini, lst 1 enB a.acc, lst 4 Trans.cs a.ed]], .cells 1 [[lst 1 enI c.ranks]]])) (fun j => j ≤ rows[k].length ∧ ∀ i (h : i < rows[k].length), i < j → 0 ≤ c.ranks[k] → 0 ≤ rk c.ranks rows[k][i] ∧ rk c.ranks rows[k][i] ≤ less ac c.ranks[k]) (fun j => rows[k].length - j) 0 ⟨by omega, fun i h hi => by omega⟩ ⟨[0, 1, 2], rfl, by decide, rfl, ⟨⟨rfl, rfl⟩, ⟨rfl, rfl⟩, ⟨rfl, rfl⟩, ⟨rfl, rfl⟩, ⟨rfl, rfl⟩, ⟨rfl, rfl⟩, ⟨rfl, rfl⟩, ⟨rfl, by first | (rw [show less ac c.ranks[k] = c.ranks[k] - 1 from if_pos (by assumption)]; rfl) | (rw [show less ac c.ranks[k] = c.ranks[k] from if_neg (by simp [*])]; rfl)⟩, ⟨rfl, rfl⟩, ⟨rfl, rfl⟩, ⟨rfl, rfl⟩, trivial⟩, ⟨obj_box rfl rfl, obj_box rfl rfl, obj_box rfl rfl, trivial⟩⟩ ?_
        rintro j ⟨hj1, hj2⟩
        by_cases hjl : j < rows[k].length
        · have hx := hxs _ (List.getElem_mem hjl)
          have hix : rows[k][j].toNat < c.ranks.length := by omega
          have hrk2 : rk c.ranks rows[k][j] = c.ranks[rows[k][j].toNat]'hix := getD_at hix
          repeat' (first | (apply AWP.go ok; rfl; conv => whnf) | (apply ord_mk; kernel_rfl; conv => whnf) | (apply And.intro; (first | omega | (unfold inI; omega) | (dsimp only; omega) | (unfold bitsOk; omega) | ((try dsimp only); simp only [List.length_map, List.length_take, List.length_append, List.length_replicate, List.length_cons, List.length_nil]; omega) | (simp only [btw_iff] at *; first | omega | (unfold inI; omega) | (unfold bitsOk; omega)) | exact stor_map (fun _ => rfl) | exact ⟨rfl, stor_cons rfl stor_nil⟩ | exact ⟨rfl, stor_map (fun _ => rfl) _⟩ | exact ⟨⟨rfl, by omega⟩, stor_map (fun _ => rfl) _⟩); conv => whnf) | (with_reducible apply get_mapN; omega; intro _; conv => whnf) | (with_reducible apply get_mapI; omega; intro _; conv => whnf) | (apply get_mapN; omega; intro _; conv => whnf) | (apply get_fill; omega; conv => whnf) | (apply ex_some; conv => whnf) | (apply get_map; omega; intro _; conv => whnf) | (apply vcG_dec <;> intro _ <;> conv => whnf) | (apply vcG_ndec <;> intro _ <;> conv => whnf) | (apply vcG_not <;> intro _ <;> conv => whnf) | (apply vcG_mk <;> intro _ <;> conv => whnf) | (apply vcIf_dec <;> intro _ <;> conv => whnf) | (apply vcIf_ndec <;> intro _ <;> conv => whnf) | (apply vcIf_not <;> intro _ <;> conv => whnf) | (apply vcIf_mk <;> intro _ <;> conv => whnf) | (apply call_data (in_ok _ 0 (less ac c.ranks[k])); rfl; rfl; conv => whnf))
          · rename_i hb
            rw [btw_no] at hb
            exact ret_bool rfl (decide_eq_false fun h => hb (by rw [← hrk2]; exact hno h (by assumption) _ (List.getElem_mem hjl)))
          · rename_i hb
            refine again (j + 1) [0, 1, 2] ⟨by omega, fun i hi hij h0 => ?_⟩ (by omega) ⟨rfl, by decide, rfl, by repeat' (first | exact True.intro | exact ⟨rfl, rfl⟩ | apply And.intro), by repeat' (first | exact True.intro | exact obj_box rfl rfl | exact obj_flat (by rfl) (by (first | exact flat_nil | exact flat_replicate rfl | exact flat_map (fun _ => rfl) | (apply flat_append <;> (first | exact flat_replicate rfl | exact flat_map (fun _ => rfl))) | assumption)) | apply And.intro)⟩
            rcases Nat.lt_or_ge i j with h3 | h3
            · exact hj2 i hi h3 h0
            · obtain rfl : i = j := by omega
              rw [hrk2]; exact btw_iff.1 hb
          · refine again (j + 1) [0, 1, 2] ⟨by omega, fun i hi hij h0 => ?_⟩ (by omega) ⟨rfl, by decide, rfl, by repeat' (first | exact True.intro | exact ⟨rfl, rfl⟩ | apply And.intro), by repeat' (first | exact True.intro | exact obj_box rfl rfl | exact obj_flat (by rfl) (by (first | exact flat_nil | exact flat_replicate rfl | exact flat_map (fun _ => rfl) | (apply flat_append <;> (first | exact flat_replicate rfl | exact flat_map (fun _ => rfl))) | assumption)) | apply And.intro)⟩
            exact absurd h0 (by assumption)
          · omega
        · repeat' (first | (apply AWP.go ok; rfl; conv => whnf) | (apply ord_mk; kernel_rfl; conv => whnf) | (apply And.intro; (first | omega | (unfold inI; omega) | (dsimp only; omega) | (unfold bitsOk; omega) | ((try dsimp only); simp only [List.length_map, List.length_take, List.length_append, List.length_replicate, List.length_cons, List.length_nil]; omega) | (simp only [btw_iff] at *; first | omega | (unfold inI; omega) | (unfold bitsOk; omega)) | exact stor_map (fun _ => rfl) | exact ⟨rfl, stor_cons rfl stor_nil⟩ | exact ⟨rfl, stor_map (fun _ => rfl) _⟩ | exact ⟨⟨rfl, by omega⟩, stor_map (fun _ => rfl) _⟩); conv => whnf) | (with_reducible apply get_mapN; omega; intro _; conv => whnf) | (with_reducible apply get_mapI; omega; intro _; conv => whnf) | (apply get_mapN; omega; intro _; conv => whnf) | (apply get_fill; omega; conv => whnf) | (apply ex_some; conv => whnf) | (apply get_map; omega; intro _; conv => whnf) | (apply vcG_dec <;> intro _ <;> conv => whnf) | (apply vcG_ndec <;> intro _ <;> conv => whnf) | (apply vcG_not <;> intro _ <;> conv => whnf) | (apply vcG_mk <;> intro _ <;> conv => whnf) | (apply vcIf_dec <;> intro _ <;> conv => whnf) | (apply vcIf_ndec <;> intro _ <;> conv => whnf) | (apply vcIf_not <;> intro _ <;> conv => whnf) | (apply vcIf_mk <;> intro _ <;> conv => whnf))
          all_goals first | (exfalso; omega) | skip
          refine again (k + 1) [0, 1, 2] ⟨by omega, hyes fun h0 x hx => ?_⟩ (by omega) ⟨rfl, by decide, rfl, by repeat' (first | exact True.intro | exact ⟨rfl, rfl⟩ | apply And.intro), by repeat' (first | exact True.intro | exact obj_box rfl rfl | exact obj_flat (by rfl) (by (first | exact flat_nil | exact flat_replicate rfl | exact flat_map (fun _ => rfl) | (apply flat_append <;> (first | exact flat_replicate rfl | exact flat_map (fun _ => rfl))) | assumption)) | apply And.intro)⟩
          obtain ⟨i, hi, rfl⟩ := List.mem_iff_getElem.1 hx
          exact hj2 i hi (by omega) h0
    · repeat' (first | (apply AWP.go ok; rfl; conv => whnf) | (apply ord_mk; kernel_rfl; conv => whnf) | (apply And.intro; (first | omega | (unfold inI; omega) | (dsimp only; omega) | (unfold bitsOk; omega) | ((try dsimp only); simp only [List.length_map, List.length_take, List.length_append, List.length_replicate, List.length_cons, List.length_nil]; omega) | (simp only [btw_iff] at *; first | omega | (unfold inI; omega) | (unfold bitsOk; omega)) | exact stor_map (fun _ => rfl) | exact ⟨rfl, stor_cons rfl stor_nil⟩ | exact ⟨rfl, stor_map (fun _ => rfl) _⟩ | exact ⟨⟨rfl, by omega⟩, stor_map (fun _ => rfl) _⟩); conv => whnf) | (with_reducible apply get_mapN; omega; intro _; conv => whnf) | (with_reducible apply get_mapI; omega; intro _; conv => whnf) | (apply get_mapN; omega; intro _; conv => whnf) | (apply get_fill; omega; conv => whnf) | (apply ex_some; conv => whnf) | (apply get_map; omega; intro _; conv => whnf) | (apply vcG_dec <;> intro _ <;> conv => whnf) | (apply vcG_ndec <;> intro _ <;> conv => whnf) | (apply vcG_not <;> intro _ <;> conv => whnf) | (apply vcG_mk <;> intro _ <;> conv => whnf) | (apply vcIf_dec <;> intro _ <;> conv => whnf) | (apply vcIf_ndec <;> intro _ <;> conv => whnf) | (apply vcIf_not <;> intro _ <;> conv => whnf) | (apply vcIf_mk <;> intro _ <;> conv => whnf))
      all_goals first | (exfalso; omega) | skip
      exact ret_bool rfl (decide_eq_true ⟨hcl, hrng, hiniR, fun i h => hk2 i h (by omega)⟩)
  · have hgl := (Bool.not_eq_true _).mp hgl
    rw [hgl] at k1
    have e : certB g l a c = false := by unfold certB; rw [hgl]; rfl
    rw [e]
    refine callsA_of tabOk Try.func43 rfl rfl 104 Try.ntmps43 (by simp) ?_
    repeat' (first | (apply AWP.go ok; rfl; conv => whnf) | (apply ord_mk; kernel_rfl; conv => whnf) | (apply And.intro; (first | omega | (unfold inI; omega) | (dsimp only; omega) | (unfold bitsOk; omega) | ((try dsimp only); simp only [List.length_map, List.length_take, List.length_append, List.length_replicate, List.length_cons, List.length_nil]; omega) | (simp only [btw_iff] at *; first | omega | (unfold inI; omega) | (unfold bitsOk; omega)) | exact stor_map (fun _ => rfl) | exact ⟨rfl, stor_cons rfl stor_nil⟩ | exact ⟨rfl, stor_map (fun _ => rfl) _⟩ | exact ⟨⟨rfl, by omega⟩, stor_map (fun _ => rfl) _⟩); conv => whnf) | (with_reducible apply get_mapN; omega; intro _; conv => whnf) | (with_reducible apply get_mapI; omega; intro _; conv => whnf) | (apply get_mapN; omega; intro _; conv => whnf) | (apply get_fill; omega; conv => whnf) | (apply ex_some; conv => whnf) | (apply get_map; omega; intro _; conv => whnf) | (apply vcG_dec <;> intro _ <;> conv => whnf) | (apply vcG_ndec <;> intro _ <;> conv => whnf) | (apply vcG_not <;> intro _ <;> conv => whnf) | (apply vcG_mk <;> intro _ <;> conv => whnf) | (apply vcIf_dec <;> intro _ <;> conv => whnf) | (apply vcIf_ndec <;> intro _ <;> conv => whnf) | (apply vcIf_not <;> intro _ <;> conv => whnf) | (apply vcIf_mk <;> intro _ <;> conv => whnf) | (apply call_data (k1); rfl; rfl; conv => whnf))
    all_goals (refine ret_bool rfl ?_; first | rfl | (simp [*]; done) | (simp_all; done) | (simp_all; omega))
end Go.Proofs.Ytcannajfdnipkaa

namespace Go.Proofs.Ytcannajfdnipkaa
open Go.Gl
attribute [local irreducible] vcCall AWP RetOk Again ordOk

theorem bud_pos {n : Int} {s : Nat} (h : ¬ bud n s < 0) : bud n s = n - s ∧ (s : Int) ≤ n := by
  unfold bud at h ⊢
  split at h
  · omega
  · rename_i h2; rw [if_neg h2]; omega

set_option maxHeartbeats 1600000 in
theorem lawCheckCertificate (g : Graph) (hg : g.mx) (l : List Tree) (hl : Lmx l) (a : Aut) (ha : a.mx) (c : Cert) (hc : c.mx) : CallsA Try.prog 7 [.agg g.cs, lst 3 Tree.cs' l, .agg a.cs, .agg c.cs] [] (.bool true) [] := by
  have z1 : ∀ n : Int, 0 ≤ n → n ≤ 1048576 → CallsA Try.prog 9 [.agg g.cs, .int n] [] (.int (bud n (g.s1 + g.s2))) [] := fun n h0 h1 => szGraph_of g n (fun n h0 h1 => szStateS_ok g.st n hg.1 h0 h1) (fun n h0 h1 => szIntSS_of g.nx n hg.2.1 (fun s hs n h0 h1 => szIntS_ok s n (hg.2.2 s hs) h0 h1) h0 h1) h0 h1
  have z2 : ∀ n : Int, 0 ≤ n → n ≤ 1048576 → CallsA Try.prog 10 [lst 3 Tree.cs' l, .int n] [] (.int (bud n (tot Tree.sz l))) [] := fun n h0 h1 => szExprS_ok l n hl.1 hl.2 h0 h1
  have z3 : ∀ n : Int, 0 ≤ n → n ≤ 1048576 → CallsA Try.prog 38 [.agg a.cs, .int n] [] (.int (bud n (a.s1 + a.s2 + a.s3))) [] := fun n h0 h1 => szAutomaton_of a n (fun n h0 h1 => szIntS_ok a.ini n ha.1 h0 h1) (fun n h0 h1 => szBoolS_ok a.acc n ha.2.1 h0 h1) (fun n h0 h1 => szTransitionS_ok a.ed n ha.2.2.1 h0 h1) h0 h1
  have z4 : ∀ n : Int, 0 ≤ n → n ≤ 1048576 → CallsA Try.prog 39 [.agg c.cs, .int n] [] (.int (bud n c.s1)) [] := fun n h0 h1 => szCertificate_of c n (fun n h0 h1 => szIntS_ok c.ranks n hc h0 h1) h0 h1
  have tru : ∀ {m : Nat} {st : St}, fixed m 0 [] = true → RetOk m st (.bool true) [] (.raw (.bool true)) := fun h => ret_bool h rfl
  refine callsA_of tabOk Try.func7 rfl rfl 81 Try.ntmps7 (by simp) ?_
  repeat' (first | (apply AWP.go ok; rfl; conv => whnf) | (apply ord_mk; kernel_rfl; conv => whnf) | (apply And.intro; (first | omega | (unfold inI; omega) | (dsimp only; omega) | (unfold bitsOk; omega) | ((try dsimp only); simp only [List.length_map, List.length_take, List.length_append, List.length_replicate, List.length_cons, List.length_nil]; omega) | (simp only [btw_iff] at *; first | omega | (unfold inI; omega) | (unfold bitsOk; omega)) | exact stor_map (fun _ => rfl) | exact ⟨rfl, stor_cons rfl stor_nil⟩ | exact ⟨rfl, stor_map (fun _ => rfl) _⟩ | exact ⟨⟨rfl, by omega⟩, stor_map (fun _ => rfl) _⟩); conv => whnf) | (with_reducible apply get_mapN; omega; intro _; conv => whnf) | (with_reducible apply get_mapI; omega; intro _; conv => whnf) | (apply get_mapN; omega; intro _; conv => whnf) | (apply get_fill; omega; conv => whnf) | (apply ex_some; conv => whnf) | (apply get_map; omega; intro _; conv => whnf) | (apply vcG_dec <;> intro _ <;> conv => whnf) | (apply vcG_ndec <;> intro _ <;> conv => whnf) | (apply vcG_not <;> intro _ <;> conv => whnf) | (apply vcG_mk <;> intro _ <;> conv => whnf) | (apply vcIf_dec <;> intro _ <;> conv => whnf) | (apply vcIf_ndec <;> intro _ <;> conv => whnf) | (apply vcIf_not <;> intro _ <;> conv => whnf) | (apply vcIf_mk <;> intro _ <;> conv => whnf) | (apply call_data (z1 1048576 (by omega) (by omega)); rfl; rfl; conv => whnf))
  · exact ret_bool rfl rfl
  rename_i h1
  obtain ⟨e1, b1⟩ := bud_pos h1
  rw [e1]
  repeat' (first | (apply AWP.go ok; rfl; conv => whnf) | (apply ord_mk; kernel_rfl; conv => whnf) | (apply And.intro; (first | omega | (unfold inI; omega) | (dsimp only; omega) | (unfold bitsOk; omega) | ((try dsimp only); simp only [List.length_map, List.length_take, List.length_append, List.length_replicate, List.length_cons, List.length_nil]; omega) | (simp only [btw_iff] at *; first | omega | (unfold inI; omega) | (unfold bitsOk; omega)) | exact stor_map (fun _ => rfl) | exact ⟨rfl, stor_cons rfl stor_nil⟩ | exact ⟨rfl, stor_map (fun _ => rfl) _⟩ | exact ⟨⟨rfl, by omega⟩, stor_map (fun _ => rfl) _⟩); conv => whnf) | (with_reducible apply get_mapN; omega; intro _; conv => whnf) | (with_reducible apply get_mapI; omega; intro _; conv => whnf) | (apply get_mapN; omega; intro _; conv => whnf) | (apply get_fill; omega; conv => whnf) | (apply ex_some; conv => whnf) | (apply get_map; omega; intro _; conv => whnf) | (apply vcG_dec <;> intro _ <;> conv => whnf) | (apply vcG_ndec <;> intro _ <;> conv => whnf) | (apply vcG_not <;> intro _ <;> conv => whnf) | (apply vcG_mk <;> intro _ <;> conv => whnf) | (apply vcIf_dec <;> intro _ <;> conv => whnf) | (apply vcIf_ndec <;> intro _ <;> conv => whnf) | (apply vcIf_not <;> intro _ <;> conv => whnf) | (apply vcIf_mk <;> intro _ <;> conv => whnf) | (apply call_data (z2 (1048576 - (g.s1 + g.s2 : Nat)) (by omega) (by omega)); rfl; rfl; conv => whnf))
  · exact ret_bool rfl rfl
  rename_i h2
  obtain ⟨e2, b2⟩ := bud_pos h2
  rw [e2]
  repeat' (first | (apply AWP.go ok; rfl; conv => whnf) | (apply ord_mk; kernel_rfl; conv => whnf) | (apply And.intro; (first | omega | (unfold inI; omega) | (dsimp only; omega) | (unfold bitsOk; omega) | ((try dsimp only); simp only [List.length_map, List.length_take, List.length_append, List.length_replicate, List.length_cons, List.length_nil]; omega) | (simp only [btw_iff] at *; first | omega | (unfold inI; omega) | (unfold bitsOk; omega)) | exact stor_map (fun _ => rfl) | exact ⟨rfl, stor_cons rfl stor_nil⟩ | exact ⟨rfl, stor_map (fun _ => rfl) _⟩ | exact ⟨⟨rfl, by omega⟩, stor_map (fun _ => rfl) _⟩); conv => whnf) | (with_reducible apply get_mapN; omega; intro _; conv => whnf) | (with_reducible apply get_mapI; omega; intro _; conv => whnf) | (apply get_mapN; omega; intro _; conv => whnf) | (apply get_fill; omega; conv => whnf) | (apply ex_some; conv => whnf) | (apply get_map; omega; intro _; conv => whnf) | (apply vcG_dec <;> intro _ <;> conv => whnf) | (apply vcG_ndec <;> intro _ <;> conv => whnf) | (apply vcG_not <;> intro _ <;> conv => whnf) | (apply vcG_mk <;> intro _ <;> conv => whnf) | (apply vcIf_dec <;> intro _ <;> conv => whnf) | (apply vcIf_ndec <;> intro _ <;> conv => whnf) | (apply vcIf_not <;> intro _ <;> conv => whnf) | (apply vcIf_mk <;> intro _ <;> conv => whnf) | (apply call_data (z3 (1048576 - (g.s1 + g.s2 : Nat) - (tot Tree.sz l : Nat)) (by omega) (by omega)); rfl; rfl; conv => whnf))
  · exact ret_bool rfl rfl
  rename_i h3
  obtain ⟨e3, b3⟩ := bud_pos h3
  rw [e3]
  repeat' (first | (apply AWP.go ok; rfl; conv => whnf) | (apply ord_mk; kernel_rfl; conv => whnf) | (apply And.intro; (first | omega | (unfold inI; omega) | (dsimp only; omega) | (unfold bitsOk; omega) | ((try dsimp only); simp only [List.length_map, List.length_take, List.length_append, List.length_replicate, List.length_cons, List.length_nil]; omega) | (simp only [btw_iff] at *; first | omega | (unfold inI; omega) | (unfold bitsOk; omega)) | exact stor_map (fun _ => rfl) | exact ⟨rfl, stor_cons rfl stor_nil⟩ | exact ⟨rfl, stor_map (fun _ => rfl) _⟩ | exact ⟨⟨rfl, by omega⟩, stor_map (fun _ => rfl) _⟩); conv => whnf) | (with_reducible apply get_mapN; omega; intro _; conv => whnf) | (with_reducible apply get_mapI; omega; intro _; conv => whnf) | (apply get_mapN; omega; intro _; conv => whnf) | (apply get_fill; omega; conv => whnf) | (apply ex_some; conv => whnf) | (apply get_map; omega; intro _; conv => whnf) | (apply vcG_dec <;> intro _ <;> conv => whnf) | (apply vcG_ndec <;> intro _ <;> conv => whnf) | (apply vcG_not <;> intro _ <;> conv => whnf) | (apply vcG_mk <;> intro _ <;> conv => whnf) | (apply vcIf_dec <;> intro _ <;> conv => whnf) | (apply vcIf_ndec <;> intro _ <;> conv => whnf) | (apply vcIf_not <;> intro _ <;> conv => whnf) | (apply vcIf_mk <;> intro _ <;> conv => whnf) | (apply call_data (z4 (1048576 - (g.s1 + g.s2 : Nat) - (tot Tree.sz l : Nat) - (a.s1 + a.s2 + a.s3 : Nat)) (by omega) (by omega)); rfl; rfl; conv => whnf))
  · exact ret_bool rfl rfl
  rename_i h4
  obtain ⟨e4, b4⟩ := bud_pos h4
  have hs1 : g.s1 ≤ 1048576 ∧ g.s2 ≤ 1048576 ∧ tot Tree.sz l ≤ 1048576 ∧ a.s1 ≤ 1048576 ∧ a.s2 ≤ 1048576 ∧ a.s3 ≤ 1048576 ∧ c.s1 ≤ 1048576 := by omega
  obtain ⟨q1, q2, q3, q4, q5, q6, q7⟩ := hs1
  unfold Graph.s1 tot at q1
  unfold Graph.s2 tot at q2
  unfold tot at q3
  have t1 := toGraph_of g (toStateS_ok g.st (by omega) (fun s hs => by
    have := le_sum State.sz hs
    unfold State.sz at this q1
    exact ⟨by omega, by omega⟩)) (toIntSS_of g.nx (by omega) (fun s hs => toIntS_ok s (by have := le_sum List.length hs; omega)))
  have t2 := toExprS_of l (by omega) (fun t ht => toExpr_ok t (by have := le_sum Tree.sz ht; omega))
  have t3 := toAutomaton_of a (toIntS_ok a.ini q4) (toBoolS_ok a.acc q5) (toTransitionS_of a.ed q6 (fun t _ => toTransition_ok t))
  have t4 := toCertificate_of c (toIntS_ok c.ranks q7)
  have f1 := eqGraph_of g g (eqStateS_ok g.st g.st hg.1 hg.1) (eqIntSS_of g.nx g.nx hg.2.1 hg.2.1 (fun s hs t ht => eqIntS_ok s t (hg.2.2 s hs) (hg.2.2 t ht)))
  have f2 := eqExprS_of l l hl.1 hl.1 (fun s hs t ht => eqExpr_ok s (hl.2 s hs) t (hl.2 t ht))
  have f3 := eqAutomaton_of a a (eqIntS_ok a.ini a.ini ha.1 ha.1) (eqBoolS_ok a.acc a.acc ha.2.1 ha.2.1) (eqTransitionS_of a.ed a.ed ha.2.2.1 ha.2.2.1 (fun s _ t _ => eqTransition_ok s t))
  have f4 := eqCertificate_of c c (eqIntS_ok c.ranks c.ranks hc hc)
  have s1 := specCheckCertificate_ok g hg l hl a ha c hc
  have s2 := checkCertificate_ok g hg l hl a ha c hc
  repeat' (first | (apply AWP.go ok; rfl; conv => whnf) | (apply ord_mk; kernel_rfl; conv => whnf) | (apply And.intro; (first | omega | (unfold inI; omega) | (dsimp only; omega) | (unfold bitsOk; omega) | ((try dsimp only); simp only [List.length_map, List.length_take, List.length_append, List.length_replicate, List.length_cons, List.length_nil]; omega) | (simp only [btw_iff] at *; first | omega | (unfold inI; omega) | (unfold bitsOk; omega)) | exact stor_map (fun _ => rfl) | exact ⟨rfl, stor_cons rfl stor_nil⟩ | exact ⟨rfl, stor_map (fun _ => rfl) _⟩ | exact ⟨⟨rfl, by omega⟩, stor_map (fun _ => rfl) _⟩); conv => whnf) | (with_reducible apply get_mapN; omega; intro _; conv => whnf) | (with_reducible apply get_mapI; omega; intro _; conv => whnf) | (apply get_mapN; omega; intro _; conv => whnf) | (apply get_fill; omega; conv => whnf) | (apply ex_some; conv => whnf) | (apply get_map; omega; intro _; conv => whnf) | (apply vcG_dec <;> intro _ <;> conv => whnf) | (apply vcG_ndec <;> intro _ <;> conv => whnf) | (apply vcG_not <;> intro _ <;> conv => whnf) | (apply vcG_mk <;> intro _ <;> conv => whnf) | (apply vcIf_dec <;> intro _ <;> conv => whnf) | (apply vcIf_ndec <;> intro _ <;> conv => whnf) | (apply vcIf_not <;> intro _ <;> conv => whnf) | (apply vcIf_mk <;> intro _ <;> conv => whnf) | (apply call_data (t1); rfl; rfl; conv => whnf) | (apply call_data (t2); rfl; rfl; conv => whnf) | (apply call_data (t3); rfl; rfl; conv => whnf) | (apply call_data (t4); rfl; rfl; conv => whnf) | (apply call_data (s1); rfl; rfl; conv => whnf) | (apply call_data (s2); rfl; rfl; conv => whnf) | (apply call_data (f1); rfl; rfl; conv => whnf) | (apply call_data (f2); rfl; rfl; conv => whnf) | (apply call_data (f3); rfl; rfl; conv => whnf) | (apply call_data (f4); rfl; rfl; conv => whnf))
  all_goals first | exact absurd rfl (by assumption) | exact ret_bool rfl rfl
end Go.Proofs.Ytcannajfdnipkaa

namespace Go.Proofs.Ytcannajfdnipkaa
open Go.Gl
attribute [local irreducible] vcCall AWP RetOk Again ordOk

theorem wf_inI {n : Int} (h : (Lit.int .i64 n).wf = true) : inI n := by
  have h1 : IntKind.min .i64 = -9223372036854775808 := by decide
  have h2 : IntKind.max .i64 = 9223372036854775807 := by decide
  simpa [Lit.wf, inI, h1, h2] using h

theorem tree_ok {P : Program} {tE tS tI : TypeId} {n1 n2 n3 : Field} (ht : P.underlying tE = some (.struct #[n1, n2, n3])) (e1 : n1.type = tI) (e2 : n2.type = tI) (e3 : n3.type = tS) (hI : P.underlying tI = some (.int .i64)) (hS : P.underlying tS = some (.slice tE))
    (cI : P.cellsOf tI = 1) (cS : P.cellsOf tS = 1) (cE : P.cellsOf tE = 3) (o1 : n1.offset = 0) (o2 : n2.offset = 1) (o3 : n3.offset = 2) : OpensD P tE Tree.cs' Tree.mx := by
  intro k
  induction k using Nat.strongRecOn with
  | _ k ih =>
    match k with
    | 0 => exact opens_zero
    | k + 1 =>
      refine (od_struct3 (e1 := fun n : Int => [.int n]) (ok1 := fun n => (Lit.int .i64 n).wf = true) (e2 := fun n : Int => [.int n]) (ok2 := fun n => (Lit.int .i64 n).wf = true) (e3 := fun l : List Tree => [lst 3 Tree.cs' l]) (ok3 := fun l => l.length ≤ maxLen ∧ ∀ a ∈ l, a.mx) (enc := Tree.cs') Tree.mk ht o1 (by rw [o2, e1, cI]) (by rw [o3, e1, e2, cI]) (by rw [e1, e2, e3, cI, cS, cE]) ?_ ?_ ?_ ?_).imp ?_
      · rw [e1]; exact od_int hI (fun _ => rfl) k
      · rw [e2]; exact od_int hI (fun _ => rfl) k
      · rw [e3]
        match k with
        | 0 => exact opens_zero
        | k + 1 => exact opens_list hS cE (by decide) (ih k (by omega))
      · intro a b c
        show [AC.int a, AC.int b, AC.list 3 c.length (c.map Tree.cs)] = _
        rw [Tree.lst_eq]; rfl
      · rintro xs ⟨x, rfl, a, b, c, rfl, _, _, h⟩
        exact ⟨_, rfl, (Tree.mx_iff _).2 h⟩

theorem od_intS : OpensD Try.prog 29 encL (fun l => l.length ≤ maxLen ∧ ∀ n ∈ l, (Lit.int .i64 n).wf = true) := od_list 1 Try.underlying29 (by kernel_rfl) (by decide) (od_int (enc := enI) Try.underlying3 (fun _ => rfl)) (fun _ => rfl)
theorem od_intSS : OpensD Try.prog 23 (fun l => [lst 1 encL l]) (fun l => l.length ≤ maxLen ∧ ∀ r ∈ l, r.length ≤ maxLen) := (od_list 1 (encL := fun l => [lst 1 encL l]) Try.underlying23 (by kernel_rfl) (by decide) od_intS (fun _ => rfl)).imp fun l h => ⟨l, rfl, h.1, fun r hr => (h.2 r hr).1⟩
theorem od_state : OpensD Try.prog 136 State.cs State.mx :=
  (od_struct2 (enc := State.cs) State.mk Try.underlying136 rfl (by kernel_rfl) (by kernel_rfl) od_intS od_intS (fun _ _ => rfl)).imp fun s ⟨a, b, e, h1, h2⟩ => ⟨s, rfl, by subst e; exact ⟨h1.1, h2.1⟩⟩
theorem od_stateS : OpensD Try.prog 22 (fun l => [lst 2 State.cs l]) State.mxs := (od_list 2 (encL := fun l => [lst 2 State.cs l]) Try.underlying22 (by kernel_rfl) (by decide) od_state (fun _ => rfl)).imp fun l h => ⟨l, rfl, h⟩
theorem od_graph : OpensD Try.prog 25 Graph.cs Graph.mx :=
  (od_struct2 (enc := Graph.cs) Graph.mk Try.underlying25 rfl (by kernel_rfl) (by kernel_rfl) od_stateS od_intSS (fun _ _ => rfl)).imp fun s ⟨a, b, e, h1, h2⟩ => ⟨s, rfl, by subst e; exact ⟨h1, h2.1, h2.2⟩⟩
theorem od_expr : OpensD Try.prog 92 Tree.cs' Tree.mx :=
  tree_ok (tI := 3) (tS := 26) Try.underlying92 rfl rfl rfl Try.underlying3 Try.underlying26 (by kernel_rfl) (by kernel_rfl) (by kernel_rfl) rfl rfl rfl
theorem ad_graph : ArgD Try.prog 25 (fun g : Graph => .agg g.cs) Graph.mx := argD_struct Try.underlying25 od_graph
theorem ad_exprS : ArgD Try.prog 26 (lst 3 Tree.cs') Lmx :=
  (argD_list (enc1 := lst 3 Tree.cs') Try.underlying26 (od_list 3 (encL := fun l => [lst 3 Tree.cs' l]) Try.underlying26 (by kernel_rfl) (by decide) od_expr (fun _ => rfl)) (fun _ => rfl)).imp fun l h => ⟨l, rfl, h⟩
theorem od_trans : OpensD Try.prog 165 Trans.cs Trans.mx :=
  (OpensD.of_succ fun k => (od_struct4 (enc := Trans.cs) Trans.mk Try.underlying165 rfl (by kernel_rfl) (by kernel_rfl) (by kernel_rfl) (by kernel_rfl) (od_int (enc := enI) Try.underlying3 (fun _ => rfl) k) (od_int (enc := enI) Try.underlying3 (fun _ => rfl) k) (od_int (enc := enI) Try.underlying3 (fun _ => rfl) k) (od_int (enc := enI) Try.underlying3 (fun _ => rfl) k) (fun _ _ _ _ => rfl)).imp fun xs ⟨s, e1, a, b, c, d, e, h1, h2, h3, h4⟩ => ⟨s, e1, by subst e; exact wf_inI h3⟩)
theorem od_boolS : OpensD Try.prog 67 (fun l => [lst 1 enB l]) (fun l => l.length ≤ maxLen) := (od_list 1 (encL := fun l => [lst 1 enB l]) Try.underlying67 (by kernel_rfl) (by decide) (od_bool (enc := enB) Try.underlying4 (fun _ => rfl)) (fun _ => rfl)).imp fun l h => ⟨l, rfl, h.1⟩
theorem od_transS : OpensD Try.prog 68 (fun l => [lst 4 Trans.cs l]) (fun l => l.length ≤ maxLen ∧ ∀ t ∈ l, t.mx) := od_list 4 Try.underlying68 (by kernel_rfl) (by decide) od_trans (fun _ => rfl)
theorem ad_aut : ArgD Try.prog 70 (fun a : Aut => .agg a.cs) Aut.mx :=
  argD_struct Try.underlying70 (OpensD.of_succ fun k => (od_struct3 (enc := Aut.cs) Aut.mk Try.underlying70 rfl (by kernel_rfl) (by kernel_rfl) (by kernel_rfl) (od_intS k) (od_boolS k) (od_transS k) (fun _ _ _ => rfl)).imp fun xs ⟨s, e1, a, b, c, e, h1, h2, h3⟩ => ⟨s, e1, by subst e; exact ⟨h1.1, h2, h3.1, h3.2⟩⟩)
theorem ad_cert : ArgD Try.prog 72 (fun a : Cert => .agg a.cs) Cert.mx :=
  argD_struct Try.underlying72 ((od_struct1 (enc := Cert.cs) Cert.mk Try.underlying72 rfl (by kernel_rfl) od_intS (fun _ => rfl)).imp fun s ⟨a, e, h1⟩ => ⟨s, rfl, by subst e; exact h1.1⟩)
end Go.Proofs.Ytcannajfdnipkaa

