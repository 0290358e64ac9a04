/- A part of the proof: T26, T27, D4, T31, T32, D5, T33, T34, T35, D6. The program's ReduceCertificate returns what the reference's returns, for all arguments: the law returns true and leaves its arguments as they were. No condition. -/
import Derived.Test.YtcmihlbihppflaaGreatGl0
import Derived.Test.YtcmihlbihppflaaGreatGl1
import Derived.Test.YtcmihlbihppflaaGreatT2
import Derived.Test.YtcmihlbihppflaaGreatT3
set_option linter.all false
namespace Go.Proofs.YtcmihlbihppflaaGreat
open Go.Gl
attribute [local irreducible] vcCall AWP RetOk Again ordOk

theorem product_ok (g : Graph) (hg : GB g) (l : List Tree) (hl : LabelsOk l) (a : Aut) (ha : AutP a) : CallsA Tryz.prog 81 [.agg g.cs, lst 3 Tree.cs' l, .agg a.cs] [] (.tup [lst 1 encL (prodRows g (g.st.map (letterZ l)) a), ints a.ini]) [] := by
  have h := product_new g hg l hl a ha
  have hlen : (prodRows g (g.st.map (letterZ l)) a).length = g.st.length * a.acc.length := by unfold prodRows; rw [build_length, Nat.mul_comm]
  refine h.lend [] [0] rfl rfl rfl ?_ passOk_nil
  show AC.tup [bor _ _ _ (.sref 0 0 _), bor _ _ _ (ints a.ini)] = _
  rw [bor_full (w := 1) (es := (prodRows g (g.st.map (letterZ l)) a).map ownRow) rfl rfl rfl (by rw [List.length_map]; exact hlen), rows_unown, ← hlen]
  rfl

/-- nodes lead to nodes -/
theorem prodRows_lt (g : Graph) (hg : GB g) (ls : List Int) (a : Aut) (ha : AutP a) : ∀ row ∈ prodRows g ls a, ∀ x ∈ row, 0 ≤ x ∧ x < ((g.st.length * a.acc.length : Nat) : Int) := by
  intro row hrow x hx
  unfold prodRows build at hrow
  obtain ⟨r, _, rfl⟩ := List.mem_map.1 hrow
  obtain ⟨⟨p, v⟩, hp, rfl⟩ := List.mem_map.1 hx
  have hp := (List.mem_filter.1 hp).1
  unfold pushS at hp
  obtain ⟨i, hi, hp⟩ := List.mem_flatMap.1 hp
  rw [List.mem_range] at hi
  unfold pushI at hp
  obtain ⟨to, hto, hp⟩ := List.mem_flatMap.1 hp
  unfold pushJ at hp
  obtain ⟨e, he, hp⟩ := List.mem_flatMap.1 hp
  have hin : i < g.nx.length := by have := hg.2.1; omega
  rw [getD_at hin] at hto
  obtain ⟨j, hj, rfl⟩ := List.mem_iff_getElem.1 hto
  have h1 := ((hg.2.2 i hin hin hi).2.2.2 j hj hj).1
  have h2 := (ha.2.2.2 e he).2.1
  unfold pushE at hp
  split at hp
  · simp only [List.mem_singleton, Prod.mk.injEq] at hp
    obtain ⟨_, rfl⟩ := hp
    have h3 : 0 ≤ g.nx[i][j] * (a.acc.length : Int) := Int.mul_nonneg h1.1 (by omega)
    have h4 : (g.nx[i][j] + 1) * (a.acc.length : Int) ≤ g.st.length * a.acc.length := Int.mul_le_mul_of_nonneg_right (by omega) (by omega)
    rw [Int.add_mul, Int.one_mul] at h4
    have e : ((g.st.length * a.acc.length : Nat) : Int) = (g.st.length : Int) * a.acc.length := by simp
    rw [e]
    dsimp only
    omega
  · simp at hp

theorem prodRows_len (g : Graph) (hg : GB g) (ls : List Int) (a : Aut) (ha : AutP a) : ∀ row ∈ prodRows g ls a, row.length ≤ 7372800 := by
  intro row hrow
  obtain ⟨i, hi, rfl⟩ := List.mem_iff_getElem.1 hrow
  exact Nat.le_trans (build_row_le (N := a.acc.length * g.st.length) (ps := pushS g ls a) hi) (pushS_len g hg ls a ha)

def rk (ranks : List Int) (x : Int) : Int := ranks.getD x.toNat 0
def less (acc : Bool) (r : Int) : Int := if acc then r - 1 else r
def nodeP (row ranks : List Int) (rank : Int) (acc : Bool) : Prop := ∀ x ∈ row, 0 ≤ rk ranks x ∧ rk ranks x ≤ less acc rank
instance {row ranks : List Int} {rank : Int} {acc : Bool} : Decidable (nodeP row ranks rank acc) := by unfold nodeP; infer_instance

theorem l9Node_ok (row ranks : List Int) (rank : Int) (acc : Bool) (hr : row.length ≤ maxLen) (hb : ∀ x ∈ row, 0 ≤ x ∧ x < ranks.length) : CallsA Tryz.prog 137 [ints row, ints ranks, .int rank, .bool acc] [] (.bool (decide (nodeP row ranks rank acc))) [] := by
  unfold maxLen at hr
  refine callsA_of tabOk Tryz.func137 rfl rfl 39 Tryz.ntmps137 (by simp) ?_
  repeat' (first | (apply AWP.go ok; rfl; conv => whnf) | (apply ord_mk; kernel_rfl; conv => whnf) | (apply And.intro; (first | omega | (unfold inI; omega) | (dsimp only; omega) | (unfold bitsOk; omega) | ((try dsimp only); simp only [List.length_map, List.length_take, List.length_append, List.length_replicate, List.length_cons, List.length_nil]; omega) | (simp only [btw_iff] at *; first | omega | (unfold inI; omega) | (unfold bitsOk; omega)) | exact stor_map (fun _ => rfl) | exact ⟨rfl, stor_cons rfl stor_nil⟩ | exact ⟨rfl, stor_map (fun _ => rfl) _⟩ | exact ⟨⟨rfl, by omega⟩, stor_map (fun _ => rfl) _⟩); conv => whnf) | (with_reducible apply get_mapN; omega; intro _; conv => whnf) | (with_reducible apply get_mapI; omega; intro _; conv => whnf) | (apply get_mapN; omega; intro _; conv => whnf) | (apply get_fill; omega; conv => whnf) | (apply ex_some; conv => whnf) | (apply get_map; omega; intro _; conv => whnf) | (apply vcG_dec <;> intro _ <;> conv => whnf) | (apply vcG_ndec <;> intro _ <;> conv => whnf) | (apply vcG_not <;> intro _ <;> conv => whnf) | (apply vcG_mk <;> intro _ <;> conv => whnf) | (apply vcIf_dec <;> intro _ <;> conv => whnf) | (apply vcIf_ndec <;> intro _ <;> conv => whnf) | (apply vcIf_not <;> intro _ <;> conv => whnf) | (apply vcIf_mk <;> intro _ <;> conv => whnf))
  refine loopA (fun k : Nat => ([(0, ints row), (1, ints ranks), (2, .int rank), (3, .bool acc), (9, .int k)], [])) (fun k => k ≤ row.length ∧ ∀ i (h : i < row.length), i < k → 0 ≤ rk ranks row[i] ∧ rk ranks row[i] ≤ less acc rank) (fun k => row.length - k) 0 ⟨by omega, fun i h hi => by omega⟩ ⟨[], rfl, by decide, rfl, by repeat' (first | exact True.intro | exact ⟨rfl, rfl⟩ | apply And.intro), by repeat' (first | exact True.intro | exact obj_box rfl rfl | exact obj_flat (by rfl) (by (first | exact flat_nil | exact flat_replicate rfl | exact flat_map (fun _ => rfl) | exact flat_map Tree.co_flat | (apply flat_append <;> (first | exact flat_replicate rfl | exact flat_map (fun _ => rfl))) | assumption)) | apply And.intro)⟩ ?_
  rintro k ⟨hk1, hk2⟩
  by_cases hkl : k < row.length
  · have hx := hb row[k] (List.getElem_mem _)
    have hrk : rk ranks row[k] = ranks[row[k].toNat]'(by omega) := getD_at (by omega)
    have hno : (¬ 0 ≤ rk ranks row[k] ∨ rank < rk ranks row[k] ∨ (acc = true ∧ rk ranks row[k] = rank)) → ¬ nodeP row ranks rank acc := fun h h2 => by
      have h3 := h2 _ (List.getElem_mem hkl)
      unfold less at h3
      rcases h with h | h | ⟨rfl, h⟩
      · omega
      · split at h3 <;> omega
      · rw [if_pos rfl] at h3; omega
    have hyes : (0 ≤ rk ranks row[k] ∧ rk ranks row[k] ≤ rank ∧ (acc = false ∨ rk ranks row[k] ≠ rank)) → ∀ i (h : i < row.length), i < k + 1 → 0 ≤ rk ranks row[i] ∧ rk ranks row[i] ≤ less acc rank := fun h i hi hik => by
      rcases Nat.lt_or_ge i k with h3 | h3
      · exact hk2 i hi h3
      · obtain rfl : i = k := by omega
        refine ⟨h.1, ?_⟩
        unfold less
        rcases h.2.2 with h4 | h4
        · rw [h4, if_neg (by simp)]; omega
        · split <;> omega
    rw [hrk] at hno hyes
    repeat' (first | (apply AWP.go ok; rfl; conv => whnf) | (apply ord_mk; kernel_rfl; conv => whnf) | (apply And.intro; (first | omega | (unfold inI; omega) | (dsimp only; omega) | (unfold bitsOk; omega) | ((try dsimp only); simp only [List.length_map, List.length_take, List.length_append, List.length_replicate, List.length_cons, List.length_nil]; omega) | (simp only [btw_iff] at *; first | omega | (unfold inI; omega) | (unfold bitsOk; omega)) | exact stor_map (fun _ => rfl) | exact ⟨rfl, stor_cons rfl stor_nil⟩ | exact ⟨rfl, stor_map (fun _ => rfl) _⟩ | exact ⟨⟨rfl, by omega⟩, stor_map (fun _ => rfl) _⟩); conv => whnf) | (with_reducible apply get_mapN; omega; intro _; conv => whnf) | (with_reducible apply get_mapI; omega; intro _; conv => whnf) | (apply get_mapN; omega; intro _; conv => whnf) | (apply get_fill; omega; conv => whnf) | (apply ex_some; conv => whnf) | (apply get_map; omega; intro _; conv => whnf) | (apply vcG_dec <;> intro _ <;> conv => whnf) | (apply vcG_ndec <;> intro _ <;> conv => whnf) | (apply vcG_not <;> intro _ <;> conv => whnf) | (apply vcG_mk <;> intro _ <;> conv => whnf) | (apply vcIf_dec <;> intro _ <;> conv => whnf) | (apply vcIf_ndec <;> intro _ <;> conv => whnf) | (apply vcIf_not <;> intro _ <;> conv => whnf) | (apply vcIf_mk <;> intro _ <;> conv => whnf))
    all_goals first
      | exact ret_bool rfl (decide_eq_false (hno (by first | exact .inl (by omega) | exact .inr (.inl (by omega)) | exact .inr (.inr ⟨by assumption, by assumption⟩))))
      | exact again (k + 1) [] ⟨by omega, hyes ⟨by omega, by omega, by first | exact .inl (by assumption) | exact .inr (by assumption)⟩⟩ (by omega) ⟨rfl, by decide, rfl, by repeat' (first | exact True.intro | exact ⟨rfl, rfl⟩ | apply And.intro), by repeat' (first | exact True.intro | exact obj_box rfl rfl | exact obj_flat (by rfl) (by (first | exact flat_nil | exact flat_replicate rfl | exact flat_map (fun _ => rfl) | exact flat_map Tree.co_flat | (apply flat_append <;> (first | exact flat_replicate rfl | exact flat_map (fun _ => rfl))) | assumption)) | apply And.intro)⟩
      | omega
  · repeat' (first | (apply AWP.go ok; rfl; conv => whnf) | (apply ord_mk; kernel_rfl; conv => whnf) | (apply And.intro; (first | omega | (unfold inI; omega) | (dsimp only; omega) | (unfold bitsOk; omega) | ((try dsimp only); simp only [List.length_map, List.length_take, List.length_append, List.length_replicate, List.length_cons, List.length_nil]; omega) | (simp only [btw_iff] at *; first | omega | (unfold inI; omega) | (unfold bitsOk; omega)) | exact stor_map (fun _ => rfl) | exact ⟨rfl, stor_cons rfl stor_nil⟩ | exact ⟨rfl, stor_map (fun _ => rfl) _⟩ | exact ⟨⟨rfl, by omega⟩, stor_map (fun _ => rfl) _⟩); conv => whnf) | (with_reducible apply get_mapN; omega; intro _; conv => whnf) | (with_reducible apply get_mapI; omega; intro _; conv => whnf) | (apply get_mapN; omega; intro _; conv => whnf) | (apply get_fill; omega; conv => whnf) | (apply ex_some; conv => whnf) | (apply get_map; omega; intro _; conv => whnf) | (apply vcG_dec <;> intro _ <;> conv => whnf) | (apply vcG_ndec <;> intro _ <;> conv => whnf) | (apply vcG_not <;> intro _ <;> conv => whnf) | (apply vcG_mk <;> intro _ <;> conv => whnf) | (apply vcIf_dec <;> intro _ <;> conv => whnf) | (apply vcIf_ndec <;> intro _ <;> conv => whnf) | (apply vcIf_not <;> intro _ <;> conv => whnf) | (apply vcIf_mk <;> intro _ <;> conv => whnf))
    all_goals first | (exfalso; omega) | skip
    refine ret_bool rfl (decide_eq_true ?_)
    intro x hx
    obtain ⟨i, hi, rfl⟩ := List.mem_iff_getElem.1 hx
    exact hk2 i hi (by omega)

/-- is the certificate right? -/
def certP (rows : List (List Int)) (ini : List Int) (acc : List Bool) (N : Nat) (ranks : List Int) : Prop :=
  ranks.length = N ∧ (∀ x ∈ ranks, -1 ≤ x ∧ x ≤ 4000) ∧ (∀ x ∈ ini, 0 ≤ rk ranks x) ∧ ∀ i (h : i < ranks.length), 0 ≤ ranks[i] → nodeP (rows.getD i []) ranks ranks[i] (acc.getD (i % acc.length) false)
noncomputable instance {rows : List (List Int)} {ini : List Int} {acc : List Bool} {N : Nat} {ranks : List Int} : Decidable (certP rows ini acc N ranks) := Classical.propDecidable _
noncomputable def certB (g : Graph) (l : List Tree) (a : Aut) (c : Cert) : Bool := glB g l && autB a && decide (certP (prodRows g (g.st.map (letterZ l)) a) a.ini a.acc (g.st.length * a.acc.length) c.ranks)

def Cert.mx (c : Cert) : Prop := c.ranks.length ≤ maxLen
set_option maxHeartbeats 800000 in
theorem specCheckCertificate_ok (g : Graph) (hg : g.mx) (l : List Tree) (hl : Lmx l) (a : Aut) (ha : a.mx) (c : Cert) (hc : c.mx) : CallsA Tryz.prog 89 [.agg g.cs, lst 3 Tree.cs' l, .agg a.cs, .agg c.cs] [] (.bool (certB g l a c)) [] := by
  have hcm := hc
  unfold Cert.mx maxLen at hcm
  by_cases hgl : glB g l = true
  · have hG := (graphB_iff g).1 (by unfold glB at hgl; exact (Bool.and_eq_true_iff.1 hgl).1)
    have hL := LabelsOk.of (by unfold glB at hgl; exact (Bool.and_eq_true_iff.1 hgl).2)
    have k1 := specLabelGraph_ok g hg l hl
    rw [hgl, if_pos rfl] at k1
    by_cases hab : autB a = true
    · have hA := autB_iff.1 hab
      have hlr : ∀ x ∈ g.st.map (letterZ l), 0 ≤ x ∧ x ≤ 7 := fun x hx => by
        obtain ⟨s, _, rfl⟩ := List.mem_map.1 hx
        exact letter_range hL s
      have k2 := l8Product_ok g hG (g.st.map (letterZ l)) (by simp) hlr a hA
      have hrows := prodRows_lt g hG (g.st.map (letterZ l)) a hA
      have hrl : (prodRows g (g.st.map (letterZ l)) a).length = g.st.length * a.acc.length := by unfold prodRows; rw [build_length, Nat.mul_comm]
      have hN := mul_bound (a := (g.st.length : Int)) (b := (a.acc.length : Int)) (A := 60) (B := 64) (by omega) (by have := hG.1; omega) (by omega) (by have := hA.1; omega)
      have hN2 : ((g.st.length * a.acc.length : Nat) : Int) = (g.st.length : Int) * a.acc.length := by simp
      have hini := hA.2.2.1
      have e : certB g l a c = decide (certP (prodRows g (g.st.map (letterZ l)) a) a.ini a.acc (g.st.length * a.acc.length) c.ranks) := by unfold certB; rw [hgl, hab]; rfl
      rw [e]
      have hrowl := prodRows_len g hG (g.st.map (letterZ l)) a hA
      generalize prodRows g (g.st.map (letterZ l)) a = rows at k2 hrows hrl hrowl
      have k3 := specAutomatonValid_ok a ha
      rw [hab] at k3
      have ha1 := hA.1
      refine callsA_of tabOk Tryz.func89 rfl rfl 112 Tryz.ntmps89 (by simp) ?_
      repeat' (first | (apply AWP.go ok; rfl; conv => whnf) | (apply ord_mk; kernel_rfl; conv => whnf) | (apply And.intro; (first | omega | (unfold inI; omega) | (dsimp only; omega) | (unfold bitsOk; omega) | ((try dsimp only); simp only [List.length_map, List.length_take, List.length_append, List.length_replicate, List.length_cons, List.length_nil]; omega) | (simp only [btw_iff] at *; first | omega | (unfold inI; omega) | (unfold bitsOk; omega)) | exact stor_map (fun _ => rfl) | exact ⟨rfl, stor_cons rfl stor_nil⟩ | exact ⟨rfl, stor_map (fun _ => rfl) _⟩ | exact ⟨⟨rfl, by omega⟩, stor_map (fun _ => rfl) _⟩); conv => whnf) | (with_reducible apply get_mapN; omega; intro _; conv => whnf) | (with_reducible apply get_mapI; omega; intro _; conv => whnf) | (apply get_mapN; omega; intro _; conv => whnf) | (apply get_fill; omega; conv => whnf) | (apply ex_some; conv => whnf) | (apply get_map; omega; intro _; conv => whnf) | (apply vcG_dec <;> intro _ <;> conv => whnf) | (apply vcG_ndec <;> intro _ <;> conv => whnf) | (apply vcG_not <;> intro _ <;> conv => whnf) | (apply vcG_mk <;> intro _ <;> conv => whnf) | (apply vcIf_dec <;> intro _ <;> conv => whnf) | (apply vcIf_ndec <;> intro _ <;> conv => whnf) | (apply vcIf_not <;> intro _ <;> conv => whnf) | (apply vcIf_mk <;> intro _ <;> conv => whnf) | (apply call_data (k1); rfl; rfl; conv => whnf) | (apply call_data (k3); rfl; rfl; conv => whnf) | (apply call_data (k2); rfl; rfl; conv => whnf))
      · rename_i hlen
        exact ret_bool rfl (decide_eq_false fun h => hlen (by rw [h.1]; exact hN2))
      rename_i hlen
      have hcl : c.ranks.length = g.st.length * a.acc.length := by omega
      have hmod : ∀ k : Nat, (((k : Int) % (a.acc.length : Int)).toNat) = k % a.acc.length := fun k => by omega
      have hmodlt : ∀ k : Nat, k % a.acc.length < a.acc.length := fun k => Nat.mod_lt _ (by omega)
      refine loopA (fun k : Nat => ([(4, .ptr 0 none 0), (6, .ptr 1 none 0), (7, .ptr 2 none 0), (11, lst 1 encL rows), (12, .int k)], [.cells 2 [[lst 2 State.cs g.st, lst 1 encL g.nx]], .cells 3 [[lst 1 enI a.ini, lst 1 enB a.acc, lst 4 Trans.cs a.ed]], .cells 1 [[lst 1 enI c.ranks]]])) (fun k => k ≤ c.ranks.length ∧ ∀ i (h : i < c.ranks.length), i < k → (-1 ≤ c.ranks[i] ∧ c.ranks[i] ≤ 4000) ∧ (0 ≤ c.ranks[i] → nodeP (rows.getD i []) c.ranks c.ranks[i] (a.acc.getD (i % a.acc.length) false))) (fun k => c.ranks.length - k) 0 ⟨by omega, fun i h hi => by omega⟩ ⟨[0, 1, 2], rfl, by decide, rfl, by repeat' (first | exact True.intro | exact ⟨rfl, rfl⟩ | apply And.intro), by repeat' (first | exact True.intro | exact obj_box rfl rfl | exact obj_flat (by rfl) (by (first | exact flat_nil | exact flat_replicate rfl | exact flat_map (fun _ => rfl) | exact flat_map Tree.co_flat | (apply flat_append <;> (first | exact flat_replicate rfl | exact flat_map (fun _ => rfl))) | assumption)) | apply And.intro)⟩ ?_
      rintro k ⟨hk1, hk2⟩
      have hm := hmod k
      have hml := hmodlt k
      by_cases hkl : k < c.ranks.length
      · have hrr : k < rows.length := by omega
        have hacc : a.acc.getD (k % a.acc.length) false = a.acc[((k : Int) % (a.acc.length : Int)).toNat]'(by omega) := by
          rw [getD_at hml]; simp only [hm]
        have hrw : rows.getD k [] = rows[k] := getD_at hrr
        have hrl2 : rows[k].length ≤ maxLen := by have := hrowl _ (List.getElem_mem hrr); unfold maxLen; omega
        have hxs : ∀ x ∈ rows[k], 0 ≤ x ∧ x < c.ranks.length := fun x hx => by
          have := hrows _ (List.getElem_mem hrr) x hx
          rw [hcl]; exact this
        have hkacc : ((k : Int) % (a.acc.length : Int)).toNat < a.acc.length := by omega
        have hnode := l9Node_ok rows[k] c.ranks c.ranks[k] (a.acc[((k : Int) % (a.acc.length : Int)).toNat]'hkacc) hrl2 hxs
        have hno : certP rows a.ini a.acc (g.st.length * a.acc.length) c.ranks → (-1 ≤ c.ranks[k] ∧ c.ranks[k] ≤ 4000) ∧ (0 ≤ c.ranks[k] → nodeP rows[k] c.ranks c.ranks[k] (a.acc[((k : Int) % (a.acc.length : Int)).toNat]'hkacc)) := fun h => by
          have h1 := h.2.2.2 k hkl
          rw [hrw, hacc] at h1
          exact ⟨h.2.1 _ (List.getElem_mem _), h1⟩
        have hyes : ((-1 ≤ c.ranks[k] ∧ c.ranks[k] ≤ 4000) ∧ (0 ≤ c.ranks[k] → nodeP rows[k] c.ranks c.ranks[k] (a.acc[((k : Int) % (a.acc.length : Int)).toNat]'hkacc))) → ∀ i (h : i < c.ranks.length), i < k + 1 → (-1 ≤ c.ranks[i] ∧ c.ranks[i] ≤ 4000) ∧ (0 ≤ c.ranks[i] → nodeP (rows.getD i []) c.ranks c.ranks[i] (a.acc.getD (i % a.acc.length) false)) := fun h i hi hik => by
          rcases Nat.lt_or_ge i k with h3 | h3
          · exact hk2 i hi h3
          · obtain rfl : i = k := by omega
            rw [hrw, hacc]; exact h
        repeat' (first | (apply AWP.go ok; rfl; conv => whnf) | (apply ord_mk; kernel_rfl; conv => whnf) | (apply And.intro; (first | omega | (unfold inI; omega) | (dsimp only; omega) | (unfold bitsOk; omega) | ((try dsimp only); simp only [List.length_map, List.length_take, List.length_append, List.length_replicate, List.length_cons, List.length_nil]; omega) | (simp only [btw_iff] at *; first | omega | (unfold inI; omega) | (unfold bitsOk; omega)) | exact stor_map (fun _ => rfl) | exact ⟨rfl, stor_cons rfl stor_nil⟩ | exact ⟨rfl, stor_map (fun _ => rfl) _⟩ | exact ⟨⟨rfl, by omega⟩, stor_map (fun _ => rfl) _⟩); conv => whnf) | (with_reducible apply get_mapN; omega; intro _; conv => whnf) | (with_reducible apply get_mapI; omega; intro _; conv => whnf) | (apply get_mapN; omega; intro _; conv => whnf) | (apply get_fill; omega; conv => whnf) | (apply ex_some; conv => whnf) | (apply get_map; omega; intro _; conv => whnf) | (apply vcG_dec <;> intro _ <;> conv => whnf) | (apply vcG_ndec <;> intro _ <;> conv => whnf) | (apply vcG_not <;> intro _ <;> conv => whnf) | (apply vcG_mk <;> intro _ <;> conv => whnf) | (apply vcIf_dec <;> intro _ <;> conv => whnf) | (apply vcIf_ndec <;> intro _ <;> conv => whnf) | (apply vcIf_not <;> intro _ <;> conv => whnf) | (apply vcIf_mk <;> intro _ <;> conv => whnf) | (apply call_data (hnode); rfl; rfl; conv => whnf))
        · exact ret_bool rfl (decide_eq_false fun h => by have := (hno h).1; omega)
        · exact ret_bool rfl (decide_eq_false fun h => by have := (hno h).1; omega)
        · rename_i hn
          exact ret_bool rfl (decide_eq_false fun h => hn ((hno h).2 (by assumption)))
        · rename_i hn
          exact again (k + 1) [0, 1, 2] ⟨by omega, hyes ⟨by omega, fun _ => hn⟩⟩ (by omega) ⟨rfl, by decide, rfl, by repeat' (first | exact True.intro | exact ⟨rfl, rfl⟩ | apply And.intro), by repeat' (first | exact True.intro | exact obj_box rfl rfl | exact obj_flat (by rfl) (by (first | exact flat_nil | exact flat_replicate rfl | exact flat_map (fun _ => rfl) | exact flat_map Tree.co_flat | (apply flat_append <;> (first | exact flat_replicate rfl | exact flat_map (fun _ => rfl))) | assumption)) | apply And.intro)⟩
        · rename_i hn
          exact again (k + 1) [0, 1, 2] ⟨by omega, hyes ⟨by omega, fun h => absurd h hn⟩⟩ (by omega) ⟨rfl, by decide, rfl, by repeat' (first | exact True.intro | exact ⟨rfl, rfl⟩ | apply And.intro), by repeat' (first | exact True.intro | exact obj_box rfl rfl | exact obj_flat (by rfl) (by (first | exact flat_nil | exact flat_replicate rfl | exact flat_map (fun _ => rfl) | exact flat_map Tree.co_flat | (apply flat_append <;> (first | exact flat_replicate rfl | exact flat_map (fun _ => rfl))) | assumption)) | apply And.intro)⟩
        · omega
      · repeat' (first | (apply AWP.go ok; rfl; conv => whnf) | (apply ord_mk; kernel_rfl; conv => whnf) | (apply And.intro; (first | omega | (unfold inI; omega) | (dsimp only; omega) | (unfold bitsOk; omega) | ((try dsimp only); simp only [List.length_map, List.length_take, List.length_append, List.length_replicate, List.length_cons, List.length_nil]; omega) | (simp only [btw_iff] at *; first | omega | (unfold inI; omega) | (unfold bitsOk; omega)) | exact stor_map (fun _ => rfl) | exact ⟨rfl, stor_cons rfl stor_nil⟩ | exact ⟨rfl, stor_map (fun _ => rfl) _⟩ | exact ⟨⟨rfl, by omega⟩, stor_map (fun _ => rfl) _⟩); conv => whnf) | (with_reducible apply get_mapN; omega; intro _; conv => whnf) | (with_reducible apply get_mapI; omega; intro _; conv => whnf) | (apply get_mapN; omega; intro _; conv => whnf) | (apply get_fill; omega; conv => whnf) | (apply ex_some; conv => whnf) | (apply get_map; omega; intro _; conv => whnf) | (apply vcG_dec <;> intro _ <;> conv => whnf) | (apply vcG_ndec <;> intro _ <;> conv => whnf) | (apply vcG_not <;> intro _ <;> conv => whnf) | (apply vcG_mk <;> intro _ <;> conv => whnf) | (apply vcIf_dec <;> intro _ <;> conv => whnf) | (apply vcIf_ndec <;> intro _ <;> conv => whnf) | (apply vcIf_not <;> intro _ <;> conv => whnf) | (apply vcIf_mk <;> intro _ <;> conv => whnf))
        all_goals first | (exfalso; omega) | skip
        obtain rfl : k = c.ranks.length := by omega
        have hil := hini.le (by omega)
        refine loopA (fun j : Nat => ([(6, .ptr 1 none 0), (7, .ptr 2 none 0), (13, .int j)], [.cells 2 [[lst 2 State.cs g.st, lst 1 encL g.nx]], .cells 3 [[lst 1 enI a.ini, lst 1 enB a.acc, lst 4 Trans.cs a.ed]], .cells 1 [[lst 1 enI c.ranks]]])) (fun j => j ≤ a.ini.length ∧ ∀ i (h : i < a.ini.length), i < j → 0 ≤ rk c.ranks a.ini[i]) (fun j => a.ini.length - j) 0 ⟨by omega, fun i h hi => by omega⟩ ⟨[0, 1, 2], rfl, by decide, rfl, by repeat' (first | exact True.intro | exact ⟨rfl, rfl⟩ | apply And.intro), by repeat' (first | exact True.intro | exact obj_box rfl rfl | exact obj_flat (by rfl) (by (first | exact flat_nil | exact flat_replicate rfl | exact flat_map (fun _ => rfl) | exact flat_map Tree.co_flat | (apply flat_append <;> (first | exact flat_replicate rfl | exact flat_map (fun _ => rfl))) | assumption)) | apply And.intro)⟩ ?_
        rintro j ⟨hj1, hj2⟩
        by_cases hjl : j < a.ini.length
        · have hin := (hini j hjl hjl).1
          have hb1 := mul_bound (a := (g.st.length : Int) - 1) (b := (a.acc.length : Int)) (A := 60) (B := 64) (by have := hG.1; omega) (by have := hG.1; omega) (by omega) (by omega)
          rw [Int.sub_mul, Int.one_mul] at hb1
          have hix : a.ini[j].toNat < c.ranks.length := by rw [hcl]; omega
          have hrk : rk c.ranks a.ini[j] = c.ranks[a.ini[j].toNat]'hix := getD_at hix
          repeat' (first | (apply AWP.go ok; rfl; conv => whnf) | (apply ord_mk; kernel_rfl; conv => whnf) | (apply And.intro; (first | omega | (unfold inI; omega) | (dsimp only; omega) | (unfold bitsOk; omega) | ((try dsimp only); simp only [List.length_map, List.length_take, List.length_append, List.length_replicate, List.length_cons, List.length_nil]; omega) | (simp only [btw_iff] at *; first | omega | (unfold inI; omega) | (unfold bitsOk; omega)) | exact stor_map (fun _ => rfl) | exact ⟨rfl, stor_cons rfl stor_nil⟩ | exact ⟨rfl, stor_map (fun _ => rfl) _⟩ | exact ⟨⟨rfl, by omega⟩, stor_map (fun _ => rfl) _⟩); conv => whnf) | (with_reducible apply get_mapN; omega; intro _; conv => whnf) | (with_reducible apply get_mapI; omega; intro _; conv => whnf) | (apply get_mapN; omega; intro _; conv => whnf) | (apply get_fill; omega; conv => whnf) | (apply ex_some; conv => whnf) | (apply get_map; omega; intro _; conv => whnf) | (apply vcG_dec <;> intro _ <;> conv => whnf) | (apply vcG_ndec <;> intro _ <;> conv => whnf) | (apply vcG_not <;> intro _ <;> conv => whnf) | (apply vcG_mk <;> intro _ <;> conv => whnf) | (apply vcIf_dec <;> intro _ <;> conv => whnf) | (apply vcIf_ndec <;> intro _ <;> conv => whnf) | (apply vcIf_not <;> intro _ <;> conv => whnf) | (apply vcIf_mk <;> intro _ <;> conv => whnf))
          · exact ret_bool rfl (decide_eq_false fun h => by have := h.2.2.1 _ (List.getElem_mem hjl); rw [hrk] at this; omega)
          · refine again (j + 1) [0, 1, 2] ⟨by omega, fun i hi hij => ?_⟩ (by omega) ⟨rfl, by decide, rfl, by repeat' (first | exact True.intro | exact ⟨rfl, rfl⟩ | apply And.intro), by repeat' (first | exact True.intro | exact obj_box rfl rfl | exact obj_flat (by rfl) (by (first | exact flat_nil | exact flat_replicate rfl | exact flat_map (fun _ => rfl) | exact flat_map Tree.co_flat | (apply flat_append <;> (first | exact flat_replicate rfl | exact flat_map (fun _ => rfl))) | assumption)) | apply And.intro)⟩
            rcases Nat.lt_or_ge i j with h3 | h3
            · exact hj2 i hi h3
            · obtain rfl : i = j := by omega
              rw [hrk]; omega
          · omega
        · repeat' (first | (apply AWP.go ok; rfl; conv => whnf) | (apply ord_mk; kernel_rfl; conv => whnf) | (apply And.intro; (first | omega | (unfold inI; omega) | (dsimp only; omega) | (unfold bitsOk; omega) | ((try dsimp only); simp only [List.length_map, List.length_take, List.length_append, List.length_replicate, List.length_cons, List.length_nil]; omega) | (simp only [btw_iff] at *; first | omega | (unfold inI; omega) | (unfold bitsOk; omega)) | exact stor_map (fun _ => rfl) | exact ⟨rfl, stor_cons rfl stor_nil⟩ | exact ⟨rfl, stor_map (fun _ => rfl) _⟩ | exact ⟨⟨rfl, by omega⟩, stor_map (fun _ => rfl) _⟩); conv => whnf) | (with_reducible apply get_mapN; omega; intro _; conv => whnf) | (with_reducible apply get_mapI; omega; intro _; conv => whnf) | (apply get_mapN; omega; intro _; conv => whnf) | (apply get_fill; omega; conv => whnf) | (apply ex_some; conv => whnf) | (apply get_map; omega; intro _; conv => whnf) | (apply vcG_dec <;> intro _ <;> conv => whnf) | (apply vcG_ndec <;> intro _ <;> conv => whnf) | (apply vcG_not <;> intro _ <;> conv => whnf) | (apply vcG_mk <;> intro _ <;> conv => whnf) | (apply vcIf_dec <;> intro _ <;> conv => whnf) | (apply vcIf_ndec <;> intro _ <;> conv => whnf) | (apply vcIf_not <;> intro _ <;> conv => whnf) | (apply vcIf_mk <;> intro _ <;> conv => whnf))
          all_goals first | (exfalso; omega) | skip
          refine ret_bool rfl (decide_eq_true ⟨hcl, fun x hx => ?_, fun x hx => ?_, fun i h => ?_⟩)
          · obtain ⟨i, hi, rfl⟩ := List.mem_iff_getElem.1 hx
            exact (hk2 i hi hi).1
          · obtain ⟨i, hi, rfl⟩ := List.mem_iff_getElem.1 hx
            exact hj2 i hi (by omega)
          · exact (hk2 i h h).2
    · have hab := (Bool.not_eq_true _).mp hab
      have e : certB g l a c = false := by unfold certB; rw [hab, Bool.and_false]; rfl
      have k3 := specAutomatonValid_ok a ha
      rw [hab] at k3
      rw [e]
      refine callsA_of tabOk Tryz.func89 rfl rfl 112 Tryz.ntmps89 (by simp) ?_
      repeat' (first | (apply AWP.go ok; rfl; conv => whnf) | (apply ord_mk; kernel_rfl; conv => whnf) | (apply And.intro; (first | omega | (unfold inI; omega) | (dsimp only; omega) | (unfold bitsOk; omega) | ((try dsimp only); simp only [List.length_map, List.length_take, List.length_append, List.length_replicate, List.length_cons, List.length_nil]; omega) | (simp only [btw_iff] at *; first | omega | (unfold inI; omega) | (unfold bitsOk; omega)) | exact stor_map (fun _ => rfl) | exact ⟨rfl, stor_cons rfl stor_nil⟩ | exact ⟨rfl, stor_map (fun _ => rfl) _⟩ | exact ⟨⟨rfl, by omega⟩, stor_map (fun _ => rfl) _⟩); conv => whnf) | (with_reducible apply get_mapN; omega; intro _; conv => whnf) | (with_reducible apply get_mapI; omega; intro _; conv => whnf) | (apply get_mapN; omega; intro _; conv => whnf) | (apply get_fill; omega; conv => whnf) | (apply ex_some; conv => whnf) | (apply get_map; omega; intro _; conv => whnf) | (apply vcG_dec <;> intro _ <;> conv => whnf) | (apply vcG_ndec <;> intro _ <;> conv => whnf) | (apply vcG_not <;> intro _ <;> conv => whnf) | (apply vcG_mk <;> intro _ <;> conv => whnf) | (apply vcIf_dec <;> intro _ <;> conv => whnf) | (apply vcIf_ndec <;> intro _ <;> conv => whnf) | (apply vcIf_not <;> intro _ <;> conv => whnf) | (apply vcIf_mk <;> intro _ <;> conv => whnf) | (apply call_data (k1); rfl; rfl; conv => whnf) | (apply call_data (k3); rfl; rfl; conv => whnf))
      all_goals (refine ret_bool rfl ?_; first | rfl | (simp [*]; done) | (simp_all; done) | (simp_all; omega))
  · have k1 := specLabelGraph_ok g hg l hl
    have hgl := (Bool.not_eq_true _).mp hgl
    rw [hgl, if_neg (by simp)] at k1
    have e : certB g l a c = false := by unfold certB; rw [hgl]; rfl
    rw [e]
    refine callsA_of tabOk Tryz.func89 rfl rfl 112 Tryz.ntmps89 (by simp) ?_
    repeat' (first | (apply AWP.go ok; rfl; conv => whnf) | (apply ord_mk; kernel_rfl; conv => whnf) | (apply And.intro; (first | omega | (unfold inI; omega) | (dsimp only; omega) | (unfold bitsOk; omega) | ((try dsimp only); simp only [List.length_map, List.length_take, List.length_append, List.length_replicate, List.length_cons, List.length_nil]; omega) | (simp only [btw_iff] at *; first | omega | (unfold inI; omega) | (unfold bitsOk; omega)) | exact stor_map (fun _ => rfl) | exact ⟨rfl, stor_cons rfl stor_nil⟩ | exact ⟨rfl, stor_map (fun _ => rfl) _⟩ | exact ⟨⟨rfl, by omega⟩, stor_map (fun _ => rfl) _⟩); conv => whnf) | (with_reducible apply get_mapN; omega; intro _; conv => whnf) | (with_reducible apply get_mapI; omega; intro _; conv => whnf) | (apply get_mapN; omega; intro _; conv => whnf) | (apply get_fill; omega; conv => whnf) | (apply ex_some; conv => whnf) | (apply get_map; omega; intro _; conv => whnf) | (apply vcG_dec <;> intro _ <;> conv => whnf) | (apply vcG_ndec <;> intro _ <;> conv => whnf) | (apply vcG_not <;> intro _ <;> conv => whnf) | (apply vcG_mk <;> intro _ <;> conv => whnf) | (apply vcIf_dec <;> intro _ <;> conv => whnf) | (apply vcIf_ndec <;> intro _ <;> conv => whnf) | (apply vcIf_not <;> intro _ <;> conv => whnf) | (apply vcIf_mk <;> intro _ <;> conv => whnf) | (apply call_data (k1); rfl; rfl; conv => whnf))
    all_goals (refine ret_bool rfl ?_; first | rfl | (simp [*]; done) | (simp_all; done) | (simp_all; omega))
end Go.Proofs.YtcmihlbihppflaaGreat

namespace Go.Proofs.YtcmihlbihppflaaGreat
open Go.Gl
attribute [local irreducible] vcCall AWP RetOk Again ordOk

theorem checkCert1_ok (n : Int) : CallsA Tryz.prog 139 [.int n] [] (.bool (!btw n (-1) 4000)) [] := by
  refine callsA_of tabOk Tryz.func139 rfl rfl 6 Tryz.ntmps139 (by simp) ?_
  repeat' (first | (apply AWP.go ok; rfl; conv => whnf) | (apply ord_mk; kernel_rfl; conv => whnf) | (apply And.intro; (first | omega | (unfold inI; omega) | (dsimp only; omega) | (unfold bitsOk; omega) | ((try dsimp only); simp only [List.length_map, List.length_take, List.length_append, List.length_replicate, List.length_cons, List.length_nil]; omega) | (simp only [btw_iff] at *; first | omega | (unfold inI; omega) | (unfold bitsOk; omega)) | exact stor_map (fun _ => rfl) | exact ⟨rfl, stor_cons rfl stor_nil⟩ | exact ⟨rfl, stor_map (fun _ => rfl) _⟩ | exact ⟨⟨rfl, by omega⟩, stor_map (fun _ => rfl) _⟩); conv => whnf) | (with_reducible apply get_mapN; omega; intro _; conv => whnf) | (with_reducible apply get_mapI; omega; intro _; conv => whnf) | (apply get_mapN; omega; intro _; conv => whnf) | (apply get_fill; omega; conv => whnf) | (apply ex_some; conv => whnf) | (apply get_map; omega; intro _; conv => whnf) | (apply vcG_dec <;> intro _ <;> conv => whnf) | (apply vcG_ndec <;> intro _ <;> conv => whnf) | (apply vcG_not <;> intro _ <;> conv => whnf) | (apply vcG_mk <;> intro _ <;> conv => whnf) | (apply vcIf_dec <;> intro _ <;> conv => whnf) | (apply vcIf_ndec <;> intro _ <;> conv => whnf) | (apply vcIf_not <;> intro _ <;> conv => whnf) | (apply vcIf_mk <;> intro _ <;> conv => whnf) | (apply call_data (in_ok n (-1) 4000); rfl; rfl; conv => whnf))
  exact ret_bool rfl rfl

set_option maxHeartbeats 1600000 in
theorem checkCertificate_ok (g : Graph) (hg : g.mx) (l : List Tree) (hl : Lmx l) (a : Aut) (ha : a.mx) (c : Cert) (hc : c.mx) : CallsA Tryz.prog 90 [.agg g.cs, lst 3 Tree.cs' l, .agg a.cs, .agg c.cs] [] (.bool (certB g l a c)) [] := by
  have hcm := hc
  unfold Cert.mx maxLen at hcm
  have k1 := checked_ok g hg l hl a ha
  by_cases hgl : (glB g l && autB a) = true
  · rw [hgl] at k1
    obtain ⟨hgl, hab⟩ := Bool.and_eq_true_iff.1 hgl
    have hG := (graphB_iff g).1 (by unfold glB at hgl; exact (Bool.and_eq_true_iff.1 hgl).1)
    have hL := LabelsOk.of (by unfold glB at hgl; exact (Bool.and_eq_true_iff.1 hgl).2)
    have hA := autB_iff.1 hab
    have k2 := product_ok g hG l hL a hA
    have kc := containsFunc_int c.ranks hc (fun n => !btw n (-1) 4000) 139 (fun x _ => checkCert1_ok x)
    have hrows := prodRows_lt g hG (g.st.map (letterZ l)) a hA
    have hrowl := prodRows_len g hG (g.st.map (letterZ l)) a hA
    have hrl : (prodRows g (g.st.map (letterZ l)) a).length = g.st.length * a.acc.length := by unfold prodRows; rw [build_length, Nat.mul_comm]
    have ha1 := hA.1
    have hN := mul_bound (a := (g.st.length : Int)) (b := (a.acc.length : Int)) (A := 60) (B := 64) (by omega) (by have := hG.1; omega) (by omega) (by omega)
    have hN2 : ((g.st.length * a.acc.length : Nat) : Int) = (g.st.length : Int) * a.acc.length := by simp
    have hini := hA.2.2.1
    have e : certB g l a c = decide (certP (prodRows g (g.st.map (letterZ l)) a) a.ini a.acc (g.st.length * a.acc.length) c.ranks) := by unfold certB; rw [hgl, hab]; rfl
    rw [e]
    generalize prodRows g (g.st.map (letterZ l)) a = rows at k2 hrows hrl hrowl
    refine callsA_of tabOk Tryz.func90 rfl rfl 104 Tryz.ntmps90 (by simp) ?_
    repeat' (first | (apply AWP.go ok; rfl; conv => whnf) | (apply ord_mk; kernel_rfl; conv => whnf) | (apply And.intro; (first | omega | (unfold inI; omega) | (dsimp only; omega) | (unfold bitsOk; omega) | ((try dsimp only); simp only [List.length_map, List.length_take, List.length_append, List.length_replicate, List.length_cons, List.length_nil]; omega) | (simp only [btw_iff] at *; first | omega | (unfold inI; omega) | (unfold bitsOk; omega)) | exact stor_map (fun _ => rfl) | exact ⟨rfl, stor_cons rfl stor_nil⟩ | exact ⟨rfl, stor_map (fun _ => rfl) _⟩ | exact ⟨⟨rfl, by omega⟩, stor_map (fun _ => rfl) _⟩); conv => whnf) | (with_reducible apply get_mapN; omega; intro _; conv => whnf) | (with_reducible apply get_mapI; omega; intro _; conv => whnf) | (apply get_mapN; omega; intro _; conv => whnf) | (apply get_fill; omega; conv => whnf) | (apply ex_some; conv => whnf) | (apply get_map; omega; intro _; conv => whnf) | (apply vcG_dec <;> intro _ <;> conv => whnf) | (apply vcG_ndec <;> intro _ <;> conv => whnf) | (apply vcG_not <;> intro _ <;> conv => whnf) | (apply vcG_mk <;> intro _ <;> conv => whnf) | (apply vcIf_dec <;> intro _ <;> conv => whnf) | (apply vcIf_ndec <;> intro _ <;> conv => whnf) | (apply vcIf_not <;> intro _ <;> conv => whnf) | (apply vcIf_mk <;> intro _ <;> conv => whnf) | (apply call_data (k1); rfl; rfl; conv => whnf) | (apply call_data (kc); rfl; rfl; conv => whnf) | (apply call_data (k2); rfl; rfl; conv => whnf))
    · rename_i hlen
      exact ret_bool rfl (decide_eq_false fun h => hlen (by rw [h.1]; exact hN2))
    · rename_i hlen hany
      refine ret_bool rfl (decide_eq_false fun h => ?_)
      obtain ⟨x, hx, hb⟩ := List.any_eq_true.1 hany
      have := h.2.1 x hx
      rw [← btw_iff] at this
      rw [this] at hb; simp at hb
    rename_i hlen hany
    have hcl : c.ranks.length = g.st.length * a.acc.length := by omega
    have hrng : ∀ x ∈ c.ranks, -1 ≤ x ∧ x ≤ 4000 := fun x hx => by
      have := List.any_eq_false.1 hany x hx
      rw [← btw_iff]; simpa using this
    have hmod : ∀ k : Nat, (((k : Int) % (a.acc.length : Int)).toNat) = k % a.acc.length := fun k => by omega
    have hmodlt : ∀ k : Nat, k % a.acc.length < a.acc.length := fun k => Nat.mod_lt _ (by omega)
    have hil := hini.le (by omega)
    refine loopA (fun j : Nat => ([(6, .ptr 1 none 0), (7, .ptr 2 none 0), (9, lst 1 encL rows), (48, ints a.ini), (49, .int a.ini.length), (50, .int j)], [.cells 2 [[lst 2 State.cs g.st, lst 1 encL g.nx]], .cells 3 [[lst 1 enI a.ini, lst 1 enB a.acc, lst 4 Trans.cs a.ed]], .cells 1 [[lst 1 enI c.ranks]]])) (fun j => j ≤ a.ini.length ∧ ∀ i (h : i < a.ini.length), i < j → 0 ≤ rk c.ranks a.ini[i]) (fun j => a.ini.length - j) 0 ⟨by omega, fun i h hi => by omega⟩ ⟨[0, 1, 2], rfl, by decide, rfl, by repeat' (first | exact True.intro | exact ⟨rfl, rfl⟩ | apply And.intro), by repeat' (first | exact True.intro | exact obj_box rfl rfl | exact obj_flat (by rfl) (by (first | exact flat_nil | exact flat_replicate rfl | exact flat_map (fun _ => rfl) | exact flat_map Tree.co_flat | (apply flat_append <;> (first | exact flat_replicate rfl | exact flat_map (fun _ => rfl))) | assumption)) | apply And.intro)⟩ ?_
    rintro j ⟨hj1, hj2⟩
    by_cases hjl : j < a.ini.length
    · have hin := (hini j hjl hjl).1
      have hb1 := mul_bound (a := (g.st.length : Int) - 1) (b := (a.acc.length : Int)) (A := 60) (B := 64) (by have := hG.1; omega) (by have := hG.1; omega) (by omega) (by omega)
      rw [Int.sub_mul, Int.one_mul] at hb1
      have hix : a.ini[j].toNat < c.ranks.length := by rw [hcl]; omega
      have hrk : rk c.ranks a.ini[j] = c.ranks[a.ini[j].toNat]'hix := getD_at hix
      repeat' (first | (apply AWP.go ok; rfl; conv => whnf) | (apply ord_mk; kernel_rfl; conv => whnf) | (apply And.intro; (first | omega | (unfold inI; omega) | (dsimp only; omega) | (unfold bitsOk; omega) | ((try dsimp only); simp only [List.length_map, List.length_take, List.length_append, List.length_replicate, List.length_cons, List.length_nil]; omega) | (simp only [btw_iff] at *; first | omega | (unfold inI; omega) | (unfold bitsOk; omega)) | exact stor_map (fun _ => rfl) | exact ⟨rfl, stor_cons rfl stor_nil⟩ | exact ⟨rfl, stor_map (fun _ => rfl) _⟩ | exact ⟨⟨rfl, by omega⟩, stor_map (fun _ => rfl) _⟩); conv => whnf) | (with_reducible apply get_mapN; omega; intro _; conv => whnf) | (with_reducible apply get_mapI; omega; intro _; conv => whnf) | (apply get_mapN; omega; intro _; conv => whnf) | (apply get_fill; omega; conv => whnf) | (apply ex_some; conv => whnf) | (apply get_map; omega; intro _; conv => whnf) | (apply vcG_dec <;> intro _ <;> conv => whnf) | (apply vcG_ndec <;> intro _ <;> conv => whnf) | (apply vcG_not <;> intro _ <;> conv => whnf) | (apply vcG_mk <;> intro _ <;> conv => whnf) | (apply vcIf_dec <;> intro _ <;> conv => whnf) | (apply vcIf_ndec <;> intro _ <;> conv => whnf) | (apply vcIf_not <;> intro _ <;> conv => whnf) | (apply vcIf_mk <;> intro _ <;> conv => whnf))
      · exact ret_bool rfl (decide_eq_false fun h => by have := h.2.2.1 _ (List.getElem_mem hjl); rw [hrk] at this; omega)
      · refine again (j + 1) [0, 1, 2] ⟨by omega, fun i hi hij => ?_⟩ (by omega) ⟨rfl, by decide, rfl, by repeat' (first | exact True.intro | exact ⟨rfl, rfl⟩ | apply And.intro), by repeat' (first | exact True.intro | exact obj_box rfl rfl | exact obj_flat (by rfl) (by (first | exact flat_nil | exact flat_replicate rfl | exact flat_map (fun _ => rfl) | exact flat_map Tree.co_flat | (apply flat_append <;> (first | exact flat_replicate rfl | exact flat_map (fun _ => rfl))) | assumption)) | apply And.intro)⟩
        rcases Nat.lt_or_ge i j with h3 | h3
        · exact hj2 i hi h3
        · obtain rfl : i = j := by omega
          rw [hrk]; omega
      · omega
    repeat' (first | (apply AWP.go ok; rfl; conv => whnf) | (apply ord_mk; kernel_rfl; conv => whnf) | (apply And.intro; (first | omega | (unfold inI; omega) | (dsimp only; omega) | (unfold bitsOk; omega) | ((try dsimp only); simp only [List.length_map, List.length_take, List.length_append, List.length_replicate, List.length_cons, List.length_nil]; omega) | (simp only [btw_iff] at *; first | omega | (unfold inI; omega) | (unfold bitsOk; omega)) | exact stor_map (fun _ => rfl) | exact ⟨rfl, stor_cons rfl stor_nil⟩ | exact ⟨rfl, stor_map (fun _ => rfl) _⟩ | exact ⟨⟨rfl, by omega⟩, stor_map (fun _ => rfl) _⟩); conv => whnf) | (with_reducible apply get_mapN; omega; intro _; conv => whnf) | (with_reducible apply get_mapI; omega; intro _; conv => whnf) | (apply get_mapN; omega; intro _; conv => whnf) | (apply get_fill; omega; conv => whnf) | (apply ex_some; conv => whnf) | (apply get_map; omega; intro _; conv => whnf) | (apply vcG_dec <;> intro _ <;> conv => whnf) | (apply vcG_ndec <;> intro _ <;> conv => whnf) | (apply vcG_not <;> intro _ <;> conv => whnf) | (apply vcG_mk <;> intro _ <;> conv => whnf) | (apply vcIf_dec <;> intro _ <;> conv => whnf) | (apply vcIf_ndec <;> intro _ <;> conv => whnf) | (apply vcIf_not <;> intro _ <;> conv => whnf) | (apply vcIf_mk <;> intro _ <;> conv => whnf))
    all_goals first | (exfalso; omega) | skip
    have hiniR : ∀ x ∈ a.ini, 0 ≤ rk c.ranks x := fun x hx => by
      obtain ⟨i, hi, rfl⟩ := List.mem_iff_getElem.1 hx
      exact hj2 i hi (by omega)
    clear hj1 hj2 hjl
    refine loopA (fun k : Nat => ([(6, .ptr 1 none 0), (7, .ptr 2 none 0), (9, lst 1 encL rows), (62, ints c.ranks), (63, .int c.ranks.length), (64, .int k)], [.cells 2 [[lst 2 State.cs g.st, lst 1 encL g.nx]], .cells 3 [[lst 1 enI a.ini, lst 1 enB a.acc, lst 4 Trans.cs a.ed]], .cells 1 [[lst 1 enI c.ranks]]])) (fun k => k ≤ c.ranks.length ∧ ∀ i (h : i < c.ranks.length), i < k → 0 ≤ c.ranks[i] → nodeP (rows.getD i []) c.ranks c.ranks[i] (a.acc.getD (i % a.acc.length) false)) (fun k => c.ranks.length - k) 0 ⟨by omega, fun i h hi => by omega⟩ ⟨[0, 1, 2], rfl, by decide, rfl, by repeat' (first | exact True.intro | exact ⟨rfl, rfl⟩ | apply And.intro), by repeat' (first | exact True.intro | exact obj_box rfl rfl | exact obj_flat (by rfl) (by (first | exact flat_nil | exact flat_replicate rfl | exact flat_map (fun _ => rfl) | exact flat_map Tree.co_flat | (apply flat_append <;> (first | exact flat_replicate rfl | exact flat_map (fun _ => rfl))) | assumption)) | apply And.intro)⟩ ?_
    rintro k ⟨hk1, hk2⟩
    have hm := hmod k
    have hml := hmodlt k
    by_cases hkl : k < c.ranks.length
    · have hrr : k < rows.length := by omega
      have hkacc : ((k : Int) % (a.acc.length : Int)).toNat < a.acc.length := by omega
      have hacc : a.acc.getD (k % a.acc.length) false = (a.acc[((k : Int) % (a.acc.length : Int)).toNat]'hkacc) := by
        rw [getD_at hml]; simp only [hm]
      have hrw : rows.getD k [] = rows[k] := getD_at hrr
      have hrl2 : rows[k].length ≤ 7372800 := hrowl _ (List.getElem_mem hrr)
      have hxs : ∀ x ∈ rows[k], 0 ≤ x ∧ x < c.ranks.length := fun x hx => by
        have := hrows _ (List.getElem_mem hrr) x hx
        rw [hcl]; exact this
      have hrk := hrng c.ranks[k] (List.getElem_mem hkl)
      have hno : certP rows a.ini a.acc (g.st.length * a.acc.length) c.ranks → 0 ≤ c.ranks[k] → nodeP rows[k] c.ranks c.ranks[k] (a.acc[((k : Int) % (a.acc.length : Int)).toNat]'hkacc) := fun h => by
        have h1 := h.2.2.2 k hkl
        rw [hrw, hacc] at h1
        exact h1
      have hyes : (0 ≤ c.ranks[k] → nodeP rows[k] c.ranks c.ranks[k] (a.acc[((k : Int) % (a.acc.length : Int)).toNat]'hkacc)) → ∀ i (h : i < c.ranks.length), i < k + 1 → 0 ≤ c.ranks[i] → nodeP (rows.getD i []) c.ranks c.ranks[i] (a.acc.getD (i % a.acc.length) false) := fun h i hi hik => by
        rcases Nat.lt_or_ge i k with h3 | h3
        · exact hk2 i hi h3
        · obtain rfl : i = k := by omega
          rw [hrw, hacc]; exact h
      generalize hacd : (a.acc[((k : Int) % (a.acc.length : Int)).toNat]'hkacc) = ac at hno hyes
      repeat' (first | (apply AWP.go ok; rfl; conv => whnf) | (apply ord_mk; kernel_rfl; conv => whnf) | (apply And.intro; (first | omega | (unfold inI; omega) | (dsimp only; omega) | (unfold bitsOk; omega) | ((try dsimp only); simp only [List.length_map, List.length_take, List.length_append, List.length_replicate, List.length_cons, List.length_nil]; omega) | (simp only [btw_iff] at *; first | omega | (unfold inI; omega) | (unfold bitsOk; omega)) | exact stor_map (fun _ => rfl) | exact ⟨rfl, stor_cons rfl stor_nil⟩ | exact ⟨rfl, stor_map (fun _ => rfl) _⟩ | exact ⟨⟨rfl, by omega⟩, stor_map (fun _ => rfl) _⟩); conv => whnf) | (with_reducible apply get_mapN; omega; intro _; conv => whnf) | (with_reducible apply get_mapI; omega; intro _; conv => whnf) | (apply get_mapN; omega; intro _; conv => whnf) | (apply get_fill; omega; conv => whnf) | (apply ex_some; conv => whnf) | (apply get_map; omega; intro _; conv => whnf) | (apply vcG_dec <;> intro _ <;> conv => whnf) | (apply vcG_ndec <;> intro _ <;> conv => whnf) | (apply vcG_not <;> intro _ <;> conv => whnf) | (apply vcG_mk <;> intro _ <;> conv => whnf) | (apply vcIf_dec <;> intro _ <;> conv => whnf) | (apply vcIf_ndec <;> intro _ <;> conv => whnf) | (apply vcIf_not <;> intro _ <;> conv => whnf) | (apply vcIf_mk <;> intro _ <;> conv => whnf))
      all_goals first | (exfalso; omega) | skip
      all_goals (rw [hacd] at *)
      all_goals
        refine loopA (fun j : Nat => ([(6, .ptr 1 none 0), (7, .ptr 2 none 0), (9, lst 1 encL rows), (62, ints c.ranks), (63, .int c.ranks.length), (64, .int k), (14, .int c.ranks[k]), (15, .int (less ac c.ranks[k])), (84, ints rows[k]), (85, .int rows[k].length), (86, .int j)], [.cells 2 [[lst 2 State.cs g.st, lst 1 encL g.nx]], .cells 3 [[lst 1 enI a.ini, lst 1 enB a.acc, lst 4 Trans.cs a.ed]], .cells 1 [[lst 1 enI c.ranks]]])) (fun j => j ≤ rows[k].length ∧ ∀ i (h : i < rows[k].length), i < j → 0 ≤ c.ranks[k] → 0 ≤ rk c.ranks rows[k][i] ∧ rk c.ranks rows[k][i] ≤ less ac c.ranks[k]) (fun j => rows[k].length - j) 0 ⟨by omega, fun i h hi => by omega⟩ ⟨[0, 1, 2], rfl, by decide, rfl, ⟨⟨rfl, rfl⟩, ⟨rfl, rfl⟩, ⟨rfl, rfl⟩, ⟨rfl, rfl⟩, ⟨rfl, rfl⟩, ⟨rfl, rfl⟩, ⟨rfl, rfl⟩, ⟨rfl, by first | (rw [show less ac c.ranks[k] = c.ranks[k] - 1 from if_pos (by assumption)]; rfl) | (rw [show less ac c.ranks[k] = c.ranks[k] from if_neg (by simp [*])]; rfl)⟩, ⟨rfl, rfl⟩, ⟨rfl, rfl⟩, ⟨rfl, rfl⟩, trivial⟩, ⟨obj_box rfl rfl, obj_box rfl rfl, obj_box rfl rfl, trivial⟩⟩ ?_
        rintro j ⟨hj1, hj2⟩
        by_cases hjl : j < rows[k].length
        · have hx := hxs _ (List.getElem_mem hjl)
          have hix : rows[k][j].toNat < c.ranks.length := by omega
          have hrk2 : rk c.ranks rows[k][j] = c.ranks[rows[k][j].toNat]'hix := getD_at hix
          repeat' (first | (apply AWP.go ok; rfl; conv => whnf) | (apply ord_mk; kernel_rfl; conv => whnf) | (apply And.intro; (first | omega | (unfold inI; omega) | (dsimp only; omega) | (unfold bitsOk; omega) | ((try dsimp only); simp only [List.length_map, List.length_take, List.length_append, List.length_replicate, List.length_cons, List.length_nil]; omega) | (simp only [btw_iff] at *; first | omega | (unfold inI; omega) | (unfold bitsOk; omega)) | exact stor_map (fun _ => rfl) | exact ⟨rfl, stor_cons rfl stor_nil⟩ | exact ⟨rfl, stor_map (fun _ => rfl) _⟩ | exact ⟨⟨rfl, by omega⟩, stor_map (fun _ => rfl) _⟩); conv => whnf) | (with_reducible apply get_mapN; omega; intro _; conv => whnf) | (with_reducible apply get_mapI; omega; intro _; conv => whnf) | (apply get_mapN; omega; intro _; conv => whnf) | (apply get_fill; omega; conv => whnf) | (apply ex_some; conv => whnf) | (apply get_map; omega; intro _; conv => whnf) | (apply vcG_dec <;> intro _ <;> conv => whnf) | (apply vcG_ndec <;> intro _ <;> conv => whnf) | (apply vcG_not <;> intro _ <;> conv => whnf) | (apply vcG_mk <;> intro _ <;> conv => whnf) | (apply vcIf_dec <;> intro _ <;> conv => whnf) | (apply vcIf_ndec <;> intro _ <;> conv => whnf) | (apply vcIf_not <;> intro _ <;> conv => whnf) | (apply vcIf_mk <;> intro _ <;> conv => whnf) | (apply call_data (in_ok _ 0 (less ac c.ranks[k])); rfl; rfl; conv => whnf))
          · rename_i hb
            rw [btw_no] at hb
            exact ret_bool rfl (decide_eq_false fun h => hb (by rw [← hrk2]; exact hno h (by assumption) _ (List.getElem_mem hjl)))
          · rename_i hb
            refine again (j + 1) [0, 1, 2] ⟨by omega, fun i hi hij h0 => ?_⟩ (by omega) ⟨rfl, by decide, rfl, by repeat' (first | exact True.intro | exact ⟨rfl, rfl⟩ | apply And.intro), by repeat' (first | exact True.intro | exact obj_box rfl rfl | exact obj_flat (by rfl) (by (first | exact flat_nil | exact flat_replicate rfl | exact flat_map (fun _ => rfl) | exact flat_map Tree.co_flat | (apply flat_append <;> (first | exact flat_replicate rfl | exact flat_map (fun _ => rfl))) | assumption)) | apply And.intro)⟩
            rcases Nat.lt_or_ge i j with h3 | h3
            · exact hj2 i hi h3 h0
            · obtain rfl : i = j := by omega
              rw [hrk2]; exact btw_iff.1 hb
          · refine again (j + 1) [0, 1, 2] ⟨by omega, fun i hi hij h0 => ?_⟩ (by omega) ⟨rfl, by decide, rfl, by repeat' (first | exact True.intro | exact ⟨rfl, rfl⟩ | apply And.intro), by repeat' (first | exact True.intro | exact obj_box rfl rfl | exact obj_flat (by rfl) (by (first | exact flat_nil | exact flat_replicate rfl | exact flat_map (fun _ => rfl) | exact flat_map Tree.co_flat | (apply flat_append <;> (first | exact flat_replicate rfl | exact flat_map (fun _ => rfl))) | assumption)) | apply And.intro)⟩
            exact absurd h0 (by assumption)
          · omega
        · repeat' (first | (apply AWP.go ok; rfl; conv => whnf) | (apply ord_mk; kernel_rfl; conv => whnf) | (apply And.intro; (first | omega | (unfold inI; omega) | (dsimp only; omega) | (unfold bitsOk; omega) | ((try dsimp only); simp only [List.length_map, List.length_take, List.length_append, List.length_replicate, List.length_cons, List.length_nil]; omega) | (simp only [btw_iff] at *; first | omega | (unfold inI; omega) | (unfold bitsOk; omega)) | exact stor_map (fun _ => rfl) | exact ⟨rfl, stor_cons rfl stor_nil⟩ | exact ⟨rfl, stor_map (fun _ => rfl) _⟩ | exact ⟨⟨rfl, by omega⟩, stor_map (fun _ => rfl) _⟩); conv => whnf) | (with_reducible apply get_mapN; omega; intro _; conv => whnf) | (with_reducible apply get_mapI; omega; intro _; conv => whnf) | (apply get_mapN; omega; intro _; conv => whnf) | (apply get_fill; omega; conv => whnf) | (apply ex_some; conv => whnf) | (apply get_map; omega; intro _; conv => whnf) | (apply vcG_dec <;> intro _ <;> conv => whnf) | (apply vcG_ndec <;> intro _ <;> conv => whnf) | (apply vcG_not <;> intro _ <;> conv => whnf) | (apply vcG_mk <;> intro _ <;> conv => whnf) | (apply vcIf_dec <;> intro _ <;> conv => whnf) | (apply vcIf_ndec <;> intro _ <;> conv => whnf) | (apply vcIf_not <;> intro _ <;> conv => whnf) | (apply vcIf_mk <;> intro _ <;> conv => whnf))
          all_goals first | (exfalso; omega) | skip
          refine again (k + 1) [0, 1, 2] ⟨by omega, hyes fun h0 x hx => ?_⟩ (by omega) ⟨rfl, by decide, rfl, by repeat' (first | exact True.intro | exact ⟨rfl, rfl⟩ | apply And.intro), by repeat' (first | exact True.intro | exact obj_box rfl rfl | exact obj_flat (by rfl) (by (first | exact flat_nil | exact flat_replicate rfl | exact flat_map (fun _ => rfl) | exact flat_map Tree.co_flat | (apply flat_append <;> (first | exact flat_replicate rfl | exact flat_map (fun _ => rfl))) | assumption)) | apply And.intro)⟩
          obtain ⟨i, hi, rfl⟩ := List.mem_iff_getElem.1 hx
          exact hj2 i hi (by omega) h0
    · repeat' (first | (apply AWP.go ok; rfl; conv => whnf) | (apply ord_mk; kernel_rfl; conv => whnf) | (apply And.intro; (first | omega | (unfold inI; omega) | (dsimp only; omega) | (unfold bitsOk; omega) | ((try dsimp only); simp only [List.length_map, List.length_take, List.length_append, List.length_replicate, List.length_cons, List.length_nil]; omega) | (simp only [btw_iff] at *; first | omega | (unfold inI; omega) | (unfold bitsOk; omega)) | exact stor_map (fun _ => rfl) | exact ⟨rfl, stor_cons rfl stor_nil⟩ | exact ⟨rfl, stor_map (fun _ => rfl) _⟩ | exact ⟨⟨rfl, by omega⟩, stor_map (fun _ => rfl) _⟩); conv => whnf) | (with_reducible apply get_mapN; omega; intro _; conv => whnf) | (with_reducible apply get_mapI; omega; intro _; conv => whnf) | (apply get_mapN; omega; intro _; conv => whnf) | (apply get_fill; omega; conv => whnf) | (apply ex_some; conv => whnf) | (apply get_map; omega; intro _; conv => whnf) | (apply vcG_dec <;> intro _ <;> conv => whnf) | (apply vcG_ndec <;> intro _ <;> conv => whnf) | (apply vcG_not <;> intro _ <;> conv => whnf) | (apply vcG_mk <;> intro _ <;> conv => whnf) | (apply vcIf_dec <;> intro _ <;> conv => whnf) | (apply vcIf_ndec <;> intro _ <;> conv => whnf) | (apply vcIf_not <;> intro _ <;> conv => whnf) | (apply vcIf_mk <;> intro _ <;> conv => whnf))
      all_goals first | (exfalso; omega) | skip
      exact ret_bool rfl (decide_eq_true ⟨hcl, hrng, hiniR, fun i h => hk2 i h (by omega)⟩)
  · have hgl := (Bool.not_eq_true _).mp hgl
    rw [hgl] at k1
    have e : certB g l a c = false := by unfold certB; rw [hgl]; rfl
    rw [e]
    refine callsA_of tabOk Tryz.func90 rfl rfl 104 Tryz.ntmps90 (by simp) ?_
    repeat' (first | (apply AWP.go ok; rfl; conv => whnf) | (apply ord_mk; kernel_rfl; conv => whnf) | (apply And.intro; (first | omega | (unfold inI; omega) | (dsimp only; omega) | (unfold bitsOk; omega) | ((try dsimp only); simp only [List.length_map, List.length_take, List.length_append, List.length_replicate, List.length_cons, List.length_nil]; omega) | (simp only [btw_iff] at *; first | omega | (unfold inI; omega) | (unfold bitsOk; omega)) | exact stor_map (fun _ => rfl) | exact ⟨rfl, stor_cons rfl stor_nil⟩ | exact ⟨rfl, stor_map (fun _ => rfl) _⟩ | exact ⟨⟨rfl, by omega⟩, stor_map (fun _ => rfl) _⟩); conv => whnf) | (with_reducible apply get_mapN; omega; intro _; conv => whnf) | (with_reducible apply get_mapI; omega; intro _; conv => whnf) | (apply get_mapN; omega; intro _; conv => whnf) | (apply get_fill; omega; conv => whnf) | (apply ex_some; conv => whnf) | (apply get_map; omega; intro _; conv => whnf) | (apply vcG_dec <;> intro _ <;> conv => whnf) | (apply vcG_ndec <;> intro _ <;> conv => whnf) | (apply vcG_not <;> intro _ <;> conv => whnf) | (apply vcG_mk <;> intro _ <;> conv => whnf) | (apply vcIf_dec <;> intro _ <;> conv => whnf) | (apply vcIf_ndec <;> intro _ <;> conv => whnf) | (apply vcIf_not <;> intro _ <;> conv => whnf) | (apply vcIf_mk <;> intro _ <;> conv => whnf) | (apply call_data (k1); rfl; rfl; conv => whnf))
    all_goals (refine ret_bool rfl ?_; first | rfl | (simp [*]; done) | (simp_all; done) | (simp_all; omega))
theorem bud_pos {n : Int} {s : Nat} (h : ¬ bud n s < 0) : bud n s = n - s ∧ (s : Int) ≤ n := by
  unfold bud at h ⊢
  split at h
  · omega
  · rename_i h2; rw [if_neg h2]; omega

end Go.Proofs.YtcmihlbihppflaaGreat

/- Data that owns its parts; marks. -/
namespace Go.Gl

mutual
def Tree.co : Tree → List AC
  | .mk k v l => [.int k, .int v, .own 3 (Tree.cos l)]
def Tree.cos : List Tree → List (List AC)
  | [] => []
  | t :: l => Tree.co t :: Tree.cos l
end
theorem Tree.cos_eq (l : List Tree) : Tree.cos l = l.map Tree.co := by
  induction l with
  | nil => simp [Tree.cos]
  | cons t l ih => simp [Tree.cos, ih]
def Tree.co' (t : Tree) : List AC := [.int t.kind, .int t.val, .own 3 (t.kids.map Tree.co)]
theorem Tree.co_eq : Tree.co = Tree.co' := by
  funext t
  cases t with
  | mk k v l => simp [Tree.co, Tree.co', Tree.cos_eq, Tree.kind, Tree.val, Tree.kids]
theorem Tree.co_flat (t : Tree) : flatL (Tree.co t) = true := by rw [Tree.co_eq]; rfl
theorem Tree.unown_co (t : Tree) : (Tree.co t).map AC.unown = Tree.cs t := by
  induction t using Tree.ind with | h t ih => ?_
  rw [Tree.co_eq, Tree.cs_eq]
  have : unownLL (t.kids.map Tree.co) = t.kids.map Tree.cs := by
    rw [unownLL_eq, List.map_map]
    exact List.map_congr_left fun u hu => ih u hu
  simp only [Tree.co', Tree.cs', List.map_cons, List.map_nil, AC.unown, this, List.length_map]
theorem Tree.unownLL_co (l : List Tree) : unownLL (l.map Tree.co') = l.map Tree.cs' := by
  rw [unownLL_eq, List.map_map, ← Tree.co_eq, ← Tree.cs_eq]
  exact List.map_congr_left fun u _ => Tree.unown_co u

/-- the first i elements are new, the others as before -/
def mixL (g : Nat → List AC) (F : List (List AC)) (i : Nat) : List (List AC) := (List.range i).map g ++ F.drop i
theorem mixL_zero (g : Nat → List AC) (F : List (List AC)) : mixL g F 0 = F := by simp [mixL]
theorem mixL_len {g : Nat → List AC} {F : List (List AC)} {i : Nat} (h : i ≤ F.length) : (mixL g F i).length = F.length := by simp [mixL]; omega
theorem mixL_set {g : Nat → List AC} {F : List (List AC)} {i j : Nat} {e : List AC} (h : i < F.length) (hj : j = i) (he : e = g i) : (mixL g F i).set j e = mixL g F (i + 1) := by
  subst hj he
  unfold mixL
  rw [List.set_append_right _ _ (by simp), List.length_map, List.length_range, Nat.sub_self, List.drop_eq_getElem_cons h, List.set_cons_zero, List.range_succ, List.map_append, List.append_assoc]
  rfl
theorem mixL_end {g : Nat → List AC} {F : List (List AC)} {i : Nat} (h : F.length ≤ i) : mixL g F i = (List.range i).map g := by
  unfold mixL; rw [List.drop_eq_nil_of_le h, List.append_nil]
theorem mixL_get {α : Type} {enc : α → List AC} {g : Nat → List AC} {l : List α} {i : Nat} (hi : i < l.length) : (mixL g (l.map enc) i)[i]? = some (enc l[i]) := by
  unfold mixL
  rw [List.getElem?_append_right (by simp)]
  simp [hi]
theorem get_mix {α : Type} {enc : α → List AC} {g : Nat → List AC} {l : List α} {i n : Nat} {K : List AC → Prop} (h : n = i) (hi : i < l.length) (k : K (enc l[i])) : ∃ e, (mixL g (l.map enc) i)[n]? = some e ∧ K e :=
  ⟨_, by subst h; exact mixL_get hi, k⟩
theorem mixL_flat {α : Type} {enc : α → List AC} {g : Nat → List AC} {l : List α} {i : Nat} (hg : ∀ j, flatL (g j) = true) (hf : ∀ a, flatL (enc a) = true) : Flat (mixL g (l.map enc) i) :=
  flat_append (flat_map hg) fun e he => flat_map hf e (List.mem_of_mem_drop he)
theorem range_const {α : Type} (n : Nat) (e : α) : (List.range n).map (fun _ => e) = List.replicate n e := by
  induction n with
  | zero => rfl
  | succ n ih => rw [List.range_succ, List.map_append, ih]; simp [List.replicate_succ']

/-- the numbers that a marking writes -/
def marks (k : Int) (n : Nat) : List Int := (List.range n).map fun i : Nat => k + i
theorem marks_len (k : Int) (n : Nat) : (marks k n).length = n := by simp [marks]
theorem marks_get {k : Int} {n i : Nat} (h : i < (marks k n).length) : (marks k n)[i] = k + i := by simp [marks]

theorem fill_set2 {α : Type} {f : α → List AC} {l : List α} {z : List AC} {k n : Nat} {e1 e2 : List AC} (h : k < l.length) (hn : n = k) (he : e2 = f l[k]) :
    (((l.take k).map f ++ List.replicate (l.length - k) z).set n e1).set k e2 = (l.take (k + 1)).map f ++ List.replicate (l.length - (k + 1)) z := by
  subst hn he
  rw [List.set_set, fill_set _ _ _ _ h]
theorem fill_set3 {α : Type} {f : α → List AC} {l : List α} {z : List AC} {k n : Nat} {e1 e2 e3 : List AC} (h : k < l.length) (hn : n = k) (he : e3 = f l[k]) :
    ((((l.take k).map f ++ List.replicate (l.length - k) z).set n e1).set k e2).set k e3 = (l.take (k + 1)).map f ++ List.replicate (l.length - (k + 1)) z := by
  rw [List.set_set]; exact fill_set2 h hn he
theorem fill_len {α : Type} {f : α → List AC} {l : List α} {z : List AC} {k : Nat} (h : k ≤ l.length) : ((l.take k).map f ++ List.replicate (l.length - k) z).length = l.length := by
  simp; omega
theorem get_eq {es : List (List AC)} {i n : Nat} {r : List AC} {K : List AC → Prop} (h : n = i) (hg : es[i]? = some r) (k : K r) : ∃ e, es[n]? = some e ∧ K e := ⟨r, by rw [h]; exact hg, k⟩
theorem env_int {r : Nat → Nat} {a b : Int} (h : a = b) : AC.int a = (AC.int b).ren r := by rw [h]; rfl
end Go.Gl

namespace Go.Proofs.YtcmihlbihppflaaGreat
open Go.Gl
attribute [local irreducible] vcCall AWP RetOk Again ordOk

def State.co (s : State) : List AC := [.own 1 (s.a.map enI), .own 1 (s.b.map enI)]

theorem toIntS_new (l : List Int) (hl : l.length ≤ 1048576) : CallsA Tryz.prog 52 [ints l] [] (.sref 0 0 l.length) [.cells 1 (l.map enI)] := by
  refine callsA_of tabOk Tryz.func52 rfl rfl 22 Tryz.ntmps52 (by simp) ?_
  repeat' (first | (apply AWP.go ok; rfl; conv => whnf) | (apply ord_mk; kernel_rfl; conv => whnf) | (apply And.intro; (first | omega | (unfold inI; omega) | (dsimp only; omega) | (unfold bitsOk; omega) | ((try dsimp only); simp only [List.length_map, List.length_take, List.length_append, List.length_replicate, List.length_cons, List.length_nil]; omega) | (simp only [btw_iff] at *; first | omega | (unfold inI; omega) | (unfold bitsOk; omega)) | exact stor_map (fun _ => rfl) | exact ⟨rfl, stor_cons rfl stor_nil⟩ | exact ⟨rfl, stor_map (fun _ => rfl) _⟩ | exact ⟨⟨rfl, by omega⟩, stor_map (fun _ => rfl) _⟩); conv => whnf) | (with_reducible apply get_mapN; omega; intro _; conv => whnf) | (with_reducible apply get_mapI; omega; intro _; conv => whnf) | (apply get_mapN; omega; intro _; conv => whnf) | (apply get_fill; omega; conv => whnf) | (apply ex_some; conv => whnf) | (apply get_map; omega; intro _; conv => whnf) | (apply vcG_dec <;> intro _ <;> conv => whnf) | (apply vcG_ndec <;> intro _ <;> conv => whnf) | (apply vcG_not <;> intro _ <;> conv => whnf) | (apply vcG_mk <;> intro _ <;> conv => whnf) | (apply vcIf_dec <;> intro _ <;> conv => whnf) | (apply vcIf_ndec <;> intro _ <;> conv => whnf) | (apply vcIf_not <;> intro _ <;> conv => whnf) | (apply vcIf_mk <;> intro _ <;> conv => whnf))
  refine loopA (fun k : Nat => ([(0, ints l), (3, .sref 0 0 l.length), (4, .int k)], [.cells 1 ((l.take k).map enI ++ List.replicate (l.length - k) [.int 0])])) (fun k => k ≤ l.length) (fun k => l.length - k) 0 (by omega) ⟨[0], rfl, by decide, rfl, by repeat' (first | exact True.intro | exact ⟨rfl, rfl⟩ | apply And.intro), by repeat' (first | exact True.intro | exact obj_box rfl rfl | exact obj_flat (by rfl) (by (first | exact flat_nil | exact flat_replicate rfl | exact flat_map (fun _ => rfl) | exact flat_map Tree.co_flat | (apply flat_append <;> (first | exact flat_replicate rfl | exact flat_map (fun _ => rfl))) | assumption)) | apply And.intro)⟩ ?_
  intro k hk
  repeat' (first | (apply AWP.go ok; rfl; conv => whnf) | (apply ord_mk; kernel_rfl; conv => whnf) | (apply And.intro; (first | omega | (unfold inI; omega) | (dsimp only; omega) | (unfold bitsOk; omega) | ((try dsimp only); simp only [List.length_map, List.length_take, List.length_append, List.length_replicate, List.length_cons, List.length_nil]; omega) | (simp only [btw_iff] at *; first | omega | (unfold inI; omega) | (unfold bitsOk; omega)) | exact stor_map (fun _ => rfl) | exact ⟨rfl, stor_cons rfl stor_nil⟩ | exact ⟨rfl, stor_map (fun _ => rfl) _⟩ | exact ⟨⟨rfl, by omega⟩, stor_map (fun _ => rfl) _⟩); conv => whnf) | (with_reducible apply get_mapN; omega; intro _; conv => whnf) | (with_reducible apply get_mapI; omega; intro _; conv => whnf) | (apply get_mapN; omega; intro _; conv => whnf) | (apply get_fill; omega; conv => whnf) | (apply ex_some; conv => whnf) | (apply get_map; omega; intro _; conv => whnf) | (apply vcG_dec <;> intro _ <;> conv => whnf) | (apply vcG_ndec <;> intro _ <;> conv => whnf) | (apply vcG_not <;> intro _ <;> conv => whnf) | (apply vcG_mk <;> intro _ <;> conv => whnf) | (apply vcIf_dec <;> intro _ <;> conv => whnf) | (apply vcIf_ndec <;> intro _ <;> conv => whnf) | (apply vcIf_not <;> intro _ <;> conv => whnf) | (apply vcIf_mk <;> intro _ <;> conv => whnf))
  · exact again (k + 1) [0] (by omega) (by omega) ⟨rfl, by decide, rfl, ⟨⟨rfl, rfl⟩, ⟨rfl, rfl⟩, ⟨rfl, rfl⟩, trivial⟩, ⟨obj_fill (by omega) rfl rfl rfl (fun _ => rfl) rfl, trivial⟩⟩
  · obtain rfl : k = l.length := by omega
    exact ret_new rfl (flat_map fun _ => rfl) rfl (fill_end _ _ _ _ rfl)

theorem toState_new (s : State) (h : s.small) : CallsA Tryz.prog 131 [.agg s.cs] [] (.agg [.sref 0 0 s.a.length, .sref 1 0 s.b.length]) [.cells 1 (s.a.map enI), .cells 1 (s.b.map enI)] := by
  refine callsA_of tabOk Tryz.func131 rfl rfl 13 Tryz.ntmps131 (by simp) ?_
  repeat' (first | (apply AWP.go ok; rfl; conv => whnf) | (apply ord_mk; kernel_rfl; conv => whnf) | (apply And.intro; (first | omega | (unfold inI; omega) | (dsimp only; omega) | (unfold bitsOk; omega) | ((try dsimp only); simp only [List.length_map, List.length_take, List.length_append, List.length_replicate, List.length_cons, List.length_nil]; omega) | (simp only [btw_iff] at *; first | omega | (unfold inI; omega) | (unfold bitsOk; omega)) | exact stor_map (fun _ => rfl) | exact ⟨rfl, stor_cons rfl stor_nil⟩ | exact ⟨rfl, stor_map (fun _ => rfl) _⟩ | exact ⟨⟨rfl, by omega⟩, stor_map (fun _ => rfl) _⟩); conv => whnf) | (with_reducible apply get_mapN; omega; intro _; conv => whnf) | (with_reducible apply get_mapI; omega; intro _; conv => whnf) | (apply get_mapN; omega; intro _; conv => whnf) | (apply get_fill; omega; conv => whnf) | (apply ex_some; conv => whnf) | (apply get_map; omega; intro _; conv => whnf) | (apply vcG_dec <;> intro _ <;> conv => whnf) | (apply vcG_ndec <;> intro _ <;> conv => whnf) | (apply vcG_not <;> intro _ <;> conv => whnf) | (apply vcG_mk <;> intro _ <;> conv => whnf) | (apply vcIf_dec <;> intro _ <;> conv => whnf) | (apply vcIf_ndec <;> intro _ <;> conv => whnf) | (apply vcIf_not <;> intro _ <;> conv => whnf) | (apply vcIf_mk <;> intro _ <;> conv => whnf) | (apply call_gen [] [] [3] (toIntS_new s.a h.1); rfl; (focus ((repeat' (first | exact passOk_nil | apply passOk_cons)) <;> (first | rfl | (refine pass_flat rfl ?_; (first | exact flat_nil | exact flat_replicate rfl | exact flat_map (fun _ => rfl) | exact flat_map Tree.co_flat | (apply flat_append <;> (first | exact flat_replicate rfl | exact flat_map (fun _ => rfl))) | assumption))))); rfl; rfl; rfl; rfl; rfl; (focus ((repeat' (first | exact rens_nil | apply rens_cons)) <;> (first | exact ren_dead | exact ren_box rfl rfl | (refine ren_flat ?_; (first | exact flat_nil | exact flat_replicate rfl | exact flat_map (fun _ => rfl) | exact flat_map Tree.co_flat | (apply flat_append <;> (first | exact flat_replicate rfl | exact flat_map (fun _ => rfl))) | assumption))))); (first | exact .inl rfl | (refine .inr ⟨rfl, ?_⟩; repeat' (first | exact True.intro | apply And.intro | exact rfl | exact plainLL_map (fun _ => rfl) _))); conv => whnf) | (apply call_gen [] [] [4] (toIntS_new s.b h.2); rfl; (focus ((repeat' (first | exact passOk_nil | apply passOk_cons)) <;> (first | rfl | (refine pass_flat rfl ?_; (first | exact flat_nil | exact flat_replicate rfl | exact flat_map (fun _ => rfl) | exact flat_map Tree.co_flat | (apply flat_append <;> (first | exact flat_replicate rfl | exact flat_map (fun _ => rfl))) | assumption))))); rfl; rfl; rfl; rfl; rfl; (focus ((repeat' (first | exact rens_nil | apply rens_cons)) <;> (first | exact ren_dead | exact ren_box rfl rfl | (refine ren_flat ?_; (first | exact flat_nil | exact flat_replicate rfl | exact flat_map (fun _ => rfl) | exact flat_map Tree.co_flat | (apply flat_append <;> (first | exact flat_replicate rfl | exact flat_map (fun _ => rfl))) | assumption))))); (first | exact .inl rfl | (refine .inr ⟨rfl, ?_⟩; repeat' (first | exact True.intro | apply And.intro | exact rfl | exact plainLL_map (fun _ => rfl) _))); conv => whnf))
  exact ret_objs [3, 4] (by decide) rfl rfl rfl ⟨obj_flat rfl (flat_map fun _ => rfl), obj_flat rfl (flat_map fun _ => rfl), trivial⟩

theorem toStateS_new (l : List State) (hl : l.length ≤ 1048576) (hm : ∀ s ∈ l, s.small) : CallsA Tryz.prog 74 [lst 2 State.cs l] [] (.sref 0 0 l.length) [.cells 2 (l.map State.co)] := by
  refine callsA_of tabOk Tryz.func74 rfl rfl 23 Tryz.ntmps74 (by simp) ?_
  repeat' (first | (apply AWP.go ok; rfl; conv => whnf) | (apply ord_mk; kernel_rfl; conv => whnf) | (apply And.intro; (first | omega | (unfold inI; omega) | (dsimp only; omega) | (unfold bitsOk; omega) | ((try dsimp only); simp only [List.length_map, List.length_take, List.length_append, List.length_replicate, List.length_cons, List.length_nil]; omega) | (simp only [btw_iff] at *; first | omega | (unfold inI; omega) | (unfold bitsOk; omega)) | exact stor_map (fun _ => rfl) | exact ⟨rfl, stor_cons rfl stor_nil⟩ | exact ⟨rfl, stor_map (fun _ => rfl) _⟩ | exact ⟨⟨rfl, by omega⟩, stor_map (fun _ => rfl) _⟩); conv => whnf) | (with_reducible apply get_mapN; omega; intro _; conv => whnf) | (with_reducible apply get_mapI; omega; intro _; conv => whnf) | (apply get_mapN; omega; intro _; conv => whnf) | (apply get_fill; omega; conv => whnf) | (apply ex_some; conv => whnf) | (apply get_map; omega; intro _; conv => whnf) | (apply vcG_dec <;> intro _ <;> conv => whnf) | (apply vcG_ndec <;> intro _ <;> conv => whnf) | (apply vcG_not <;> intro _ <;> conv => whnf) | (apply vcG_mk <;> intro _ <;> conv => whnf) | (apply vcIf_dec <;> intro _ <;> conv => whnf) | (apply vcIf_ndec <;> intro _ <;> conv => whnf) | (apply vcIf_not <;> intro _ <;> conv => whnf) | (apply vcIf_mk <;> intro _ <;> conv => whnf))
  refine loopA (fun k : Nat => ([(0, lst 2 State.cs l), (3, .sref 0 0 l.length), (4, .int k)], [.cells 2 ((l.take k).map State.co ++ List.replicate (l.length - k) [.nils, .nils])])) (fun k => k ≤ l.length) (fun k => l.length - k) 0 (by omega) ⟨[0], rfl, by decide, rfl, by repeat' (first | exact True.intro | exact ⟨rfl, rfl⟩ | apply And.intro), by repeat' (first | exact True.intro | exact obj_box rfl rfl | exact obj_flat (by rfl) (by (first | exact flat_nil | exact flat_replicate rfl | exact flat_map (fun _ => rfl) | exact flat_map Tree.co_flat | (apply flat_append <;> (first | exact flat_replicate rfl | exact flat_map (fun _ => rfl))) | assumption)) | apply And.intro)⟩ ?_
  intro k hk
  by_cases hkl : k < l.length
  · repeat' (first | ((fail_if_success apply stopAt 4); (fail_if_success apply stopAtS 4); apply AWP.go ok; rfl; conv => whnf) | (apply ord_mk; kernel_rfl; conv => whnf) | (apply And.intro; (first | omega | (unfold inI; omega) | (dsimp only; omega) | (unfold bitsOk; omega) | ((try dsimp only); simp only [List.length_map, List.length_take, List.length_append, List.length_replicate, List.length_cons, List.length_nil]; omega) | (simp only [btw_iff] at *; first | omega | (unfold inI; omega) | (unfold bitsOk; omega)) | exact stor_map (fun _ => rfl) | exact ⟨rfl, stor_cons rfl stor_nil⟩ | exact ⟨rfl, stor_map (fun _ => rfl) _⟩ | exact ⟨⟨rfl, by omega⟩, stor_map (fun _ => rfl) _⟩); conv => whnf) | (with_reducible apply get_mapN; omega; intro _; conv => whnf) | (with_reducible apply get_mapI; omega; intro _; conv => whnf) | (apply get_mapN; omega; intro _; conv => whnf) | (apply get_fill; omega; conv => whnf) | (apply ex_some; conv => whnf) | (apply get_map; omega; intro _; conv => whnf) | (apply vcG_dec <;> intro _ <;> conv => whnf) | (apply vcG_ndec <;> intro _ <;> conv => whnf) | (apply vcG_not <;> intro _ <;> conv => whnf) | (apply vcG_mk <;> intro _ <;> conv => whnf) | (apply vcIf_dec <;> intro _ <;> conv => whnf) | (apply vcIf_ndec <;> intro _ <;> conv => whnf) | (apply vcIf_not <;> intro _ <;> conv => whnf) | (apply vcIf_mk <;> intro _ <;> conv => whnf) | (apply call_gen [] [] [1, 2] (toState_new l[k] (hm _ (List.getElem_mem _))); rfl; (focus ((repeat' (first | exact passOk_nil | apply passOk_cons)) <;> (first | rfl | (refine pass_flat rfl ?_; (first | exact flat_nil | exact flat_replicate rfl | exact flat_map (fun _ => rfl) | exact flat_map Tree.co_flat | (apply flat_append <;> (first | exact flat_replicate rfl | exact flat_map (fun _ => rfl))) | assumption))))); rfl; rfl; rfl; rfl; rfl; (focus ((repeat' (first | exact rens_nil | apply rens_cons)) <;> (first | exact ren_dead | exact ren_box rfl rfl | (refine ren_flat ?_; (first | exact flat_nil | exact flat_replicate rfl | exact flat_map (fun _ => rfl) | exact flat_map Tree.co_flat | (apply flat_append <;> (first | exact flat_replicate rfl | exact flat_map (fun _ => rfl))) | assumption))))); (first | exact .inl rfl | (refine .inr ⟨rfl, ?_⟩; repeat' (first | exact True.intro | apply And.intro | exact rfl | exact plainLL_map (fun _ => rfl) _))); conv => whnf))
    · refine AWP.reach (Gl.Reach.absorb 0 1 k 0 rfl (getset rfl (by rw [fill_len hk]; exact hkl)) rfl rfl (by simp) rfl (flat_map fun _ => rfl) rfl) ?_
      conv => whnf
      refine AWP.reach (Gl.Reach.absorb 0 2 k 1 rfl (getset rfl (by rw [List.length_set, fill_len hk]; exact hkl)) rfl rfl (by simp) rfl (flat_map fun _ => rfl) rfl) ?_
      conv => whnf
      repeat' (first | (apply AWP.go ok; rfl; conv => whnf) | (apply ord_mk; kernel_rfl; conv => whnf) | (apply And.intro; (first | omega | (unfold inI; omega) | (dsimp only; omega) | (unfold bitsOk; omega) | ((try dsimp only); simp only [List.length_map, List.length_take, List.length_append, List.length_replicate, List.length_cons, List.length_nil]; omega) | (simp only [btw_iff] at *; first | omega | (unfold inI; omega) | (unfold bitsOk; omega)) | exact stor_map (fun _ => rfl) | exact ⟨rfl, stor_cons rfl stor_nil⟩ | exact ⟨rfl, stor_map (fun _ => rfl) _⟩ | exact ⟨⟨rfl, by omega⟩, stor_map (fun _ => rfl) _⟩); conv => whnf) | (with_reducible apply get_mapN; omega; intro _; conv => whnf) | (with_reducible apply get_mapI; omega; intro _; conv => whnf) | (apply get_mapN; omega; intro _; conv => whnf) | (apply get_fill; omega; conv => whnf) | (apply ex_some; conv => whnf) | (apply get_map; omega; intro _; conv => whnf) | (apply vcG_dec <;> intro _ <;> conv => whnf) | (apply vcG_ndec <;> intro _ <;> conv => whnf) | (apply vcG_not <;> intro _ <;> conv => whnf) | (apply vcG_mk <;> intro _ <;> conv => whnf) | (apply vcIf_dec <;> intro _ <;> conv => whnf) | (apply vcIf_ndec <;> intro _ <;> conv => whnf) | (apply vcIf_not <;> intro _ <;> conv => whnf) | (apply vcIf_mk <;> intro _ <;> conv => whnf))
      exact again (k + 1) [0] (by omega) (by omega) ⟨rfl, by decide, rfl, ⟨⟨rfl, rfl⟩, ⟨rfl, rfl⟩, ⟨rfl, rfl⟩, trivial⟩, ⟨obj_flat (cells_congr (fill_set3 hkl rfl rfl)) (flat_append (flat_map fun _ => rfl) (flat_replicate rfl)), trivial⟩⟩
    · omega
  · repeat' (first | (apply AWP.go ok; rfl; conv => whnf) | (apply ord_mk; kernel_rfl; conv => whnf) | (apply And.intro; (first | omega | (unfold inI; omega) | (dsimp only; omega) | (unfold bitsOk; omega) | ((try dsimp only); simp only [List.length_map, List.length_take, List.length_append, List.length_replicate, List.length_cons, List.length_nil]; omega) | (simp only [btw_iff] at *; first | omega | (unfold inI; omega) | (unfold bitsOk; omega)) | exact stor_map (fun _ => rfl) | exact ⟨rfl, stor_cons rfl stor_nil⟩ | exact ⟨rfl, stor_map (fun _ => rfl) _⟩ | exact ⟨⟨rfl, by omega⟩, stor_map (fun _ => rfl) _⟩); conv => whnf) | (with_reducible apply get_mapN; omega; intro _; conv => whnf) | (with_reducible apply get_mapI; omega; intro _; conv => whnf) | (apply get_mapN; omega; intro _; conv => whnf) | (apply get_fill; omega; conv => whnf) | (apply ex_some; conv => whnf) | (apply get_map; omega; intro _; conv => whnf) | (apply vcG_dec <;> intro _ <;> conv => whnf) | (apply vcG_ndec <;> intro _ <;> conv => whnf) | (apply vcG_not <;> intro _ <;> conv => whnf) | (apply vcG_mk <;> intro _ <;> conv => whnf) | (apply vcIf_dec <;> intro _ <;> conv => whnf) | (apply vcIf_ndec <;> intro _ <;> conv => whnf) | (apply vcIf_not <;> intro _ <;> conv => whnf) | (apply vcIf_mk <;> intro _ <;> conv => whnf))
    · omega
    · obtain rfl : k = l.length := by omega
      exact ret_new rfl (flat_map fun _ => rfl) rfl (fill_end _ _ _ _ rfl)

theorem toIntSS_new (l : List (List Int)) (hl : l.length ≤ 1048576) (hm : ∀ s ∈ l, s.length ≤ 1048576) : CallsA Tryz.prog 75 [lst 1 encL l] [] (.sref 0 0 l.length) [.cells 1 (l.map ownRow)] := by
  refine callsA_of tabOk Tryz.func75 rfl rfl 23 Tryz.ntmps75 (by simp) ?_
  repeat' (first | (apply AWP.go ok; rfl; conv => whnf) | (apply ord_mk; kernel_rfl; conv => whnf) | (apply And.intro; (first | omega | (unfold inI; omega) | (dsimp only; omega) | (unfold bitsOk; omega) | ((try dsimp only); simp only [List.length_map, List.length_take, List.length_append, List.length_replicate, List.length_cons, List.length_nil]; omega) | (simp only [btw_iff] at *; first | omega | (unfold inI; omega) | (unfold bitsOk; omega)) | exact stor_map (fun _ => rfl) | exact ⟨rfl, stor_cons rfl stor_nil⟩ | exact ⟨rfl, stor_map (fun _ => rfl) _⟩ | exact ⟨⟨rfl, by omega⟩, stor_map (fun _ => rfl) _⟩); conv => whnf) | (with_reducible apply get_mapN; omega; intro _; conv => whnf) | (with_reducible apply get_mapI; omega; intro _; conv => whnf) | (apply get_mapN; omega; intro _; conv => whnf) | (apply get_fill; omega; conv => whnf) | (apply ex_some; conv => whnf) | (apply get_map; omega; intro _; conv => whnf) | (apply vcG_dec <;> intro _ <;> conv => whnf) | (apply vcG_ndec <;> intro _ <;> conv => whnf) | (apply vcG_not <;> intro _ <;> conv => whnf) | (apply vcG_mk <;> intro _ <;> conv => whnf) | (apply vcIf_dec <;> intro _ <;> conv => whnf) | (apply vcIf_ndec <;> intro _ <;> conv => whnf) | (apply vcIf_not <;> intro _ <;> conv => whnf) | (apply vcIf_mk <;> intro _ <;> conv => whnf))
  refine loopA (fun k : Nat => ([(0, lst 1 encL l), (3, .sref 0 0 l.length), (4, .int k)], [.cells 1 ((l.take k).map ownRow ++ List.replicate (l.length - k) [.nils])])) (fun k => k ≤ l.length) (fun k => l.length - k) 0 (by omega) ⟨[0], rfl, by decide, rfl, by repeat' (first | exact True.intro | exact ⟨rfl, rfl⟩ | apply And.intro), by repeat' (first | exact True.intro | exact obj_box rfl rfl | exact obj_flat (by rfl) (by (first | exact flat_nil | exact flat_replicate rfl | exact flat_map (fun _ => rfl) | exact flat_map Tree.co_flat | (apply flat_append <;> (first | exact flat_replicate rfl | exact flat_map (fun _ => rfl))) | assumption)) | apply And.intro)⟩ ?_
  intro k hk
  by_cases hkl : k < l.length
  · repeat' (first | ((fail_if_success apply stopAt 4); (fail_if_success apply stopAtS 4); apply AWP.go ok; rfl; conv => whnf) | (apply ord_mk; kernel_rfl; conv => whnf) | (apply And.intro; (first | omega | (unfold inI; omega) | (dsimp only; omega) | (unfold bitsOk; omega) | ((try dsimp only); simp only [List.length_map, List.length_take, List.length_append, List.length_replicate, List.length_cons, List.length_nil]; omega) | (simp only [btw_iff] at *; first | omega | (unfold inI; omega) | (unfold bitsOk; omega)) | exact stor_map (fun _ => rfl) | exact ⟨rfl, stor_cons rfl stor_nil⟩ | exact ⟨rfl, stor_map (fun _ => rfl) _⟩ | exact ⟨⟨rfl, by omega⟩, stor_map (fun _ => rfl) _⟩); conv => whnf) | (with_reducible apply get_mapN; omega; intro _; conv => whnf) | (with_reducible apply get_mapI; omega; intro _; conv => whnf) | (apply get_mapN; omega; intro _; conv => whnf) | (apply get_fill; omega; conv => whnf) | (apply ex_some; conv => whnf) | (apply get_map; omega; intro _; conv => whnf) | (apply vcG_dec <;> intro _ <;> conv => whnf) | (apply vcG_ndec <;> intro _ <;> conv => whnf) | (apply vcG_not <;> intro _ <;> conv => whnf) | (apply vcG_mk <;> intro _ <;> conv => whnf) | (apply vcIf_dec <;> intro _ <;> conv => whnf) | (apply vcIf_ndec <;> intro _ <;> conv => whnf) | (apply vcIf_not <;> intro _ <;> conv => whnf) | (apply vcIf_mk <;> intro _ <;> conv => whnf) | (apply call_gen [] [] [1] (toIntS_new l[k] (hm _ (List.getElem_mem _))); rfl; (focus ((repeat' (first | exact passOk_nil | apply passOk_cons)) <;> (first | rfl | (refine pass_flat rfl ?_; (first | exact flat_nil | exact flat_replicate rfl | exact flat_map (fun _ => rfl) | exact flat_map Tree.co_flat | (apply flat_append <;> (first | exact flat_replicate rfl | exact flat_map (fun _ => rfl))) | assumption))))); rfl; rfl; rfl; rfl; rfl; (focus ((repeat' (first | exact rens_nil | apply rens_cons)) <;> (first | exact ren_dead | exact ren_box rfl rfl | (refine ren_flat ?_; (first | exact flat_nil | exact flat_replicate rfl | exact flat_map (fun _ => rfl) | exact flat_map Tree.co_flat | (apply flat_append <;> (first | exact flat_replicate rfl | exact flat_map (fun _ => rfl))) | assumption))))); (first | exact .inl rfl | (refine .inr ⟨rfl, ?_⟩; repeat' (first | exact True.intro | apply And.intro | exact rfl | exact plainLL_map (fun _ => rfl) _))); conv => whnf))
    · refine AWP.reach (Gl.Reach.absorb 0 1 k 0 rfl (getset rfl (by rw [fill_len hk]; exact hkl)) rfl rfl (by simp) rfl (flat_map fun _ => rfl) rfl) ?_
      conv => whnf
      repeat' (first | (apply AWP.go ok; rfl; conv => whnf) | (apply ord_mk; kernel_rfl; conv => whnf) | (apply And.intro; (first | omega | (unfold inI; omega) | (dsimp only; omega) | (unfold bitsOk; omega) | ((try dsimp only); simp only [List.length_map, List.length_take, List.length_append, List.length_replicate, List.length_cons, List.length_nil]; omega) | (simp only [btw_iff] at *; first | omega | (unfold inI; omega) | (unfold bitsOk; omega)) | exact stor_map (fun _ => rfl) | exact ⟨rfl, stor_cons rfl stor_nil⟩ | exact ⟨rfl, stor_map (fun _ => rfl) _⟩ | exact ⟨⟨rfl, by omega⟩, stor_map (fun _ => rfl) _⟩); conv => whnf) | (with_reducible apply get_mapN; omega; intro _; conv => whnf) | (with_reducible apply get_mapI; omega; intro _; conv => whnf) | (apply get_mapN; omega; intro _; conv => whnf) | (apply get_fill; omega; conv => whnf) | (apply ex_some; conv => whnf) | (apply get_map; omega; intro _; conv => whnf) | (apply vcG_dec <;> intro _ <;> conv => whnf) | (apply vcG_ndec <;> intro _ <;> conv => whnf) | (apply vcG_not <;> intro _ <;> conv => whnf) | (apply vcG_mk <;> intro _ <;> conv => whnf) | (apply vcIf_dec <;> intro _ <;> conv => whnf) | (apply vcIf_ndec <;> intro _ <;> conv => whnf) | (apply vcIf_not <;> intro _ <;> conv => whnf) | (apply vcIf_mk <;> intro _ <;> conv => whnf))
      exact again (k + 1) [0] (by omega) (by omega) ⟨rfl, by decide, rfl, ⟨⟨rfl, rfl⟩, ⟨rfl, rfl⟩, ⟨rfl, rfl⟩, trivial⟩, ⟨obj_flat (cells_congr (fill_set2 hkl rfl rfl)) (flat_append (flat_map fun _ => rfl) (flat_replicate rfl)), trivial⟩⟩
    · omega
  · repeat' (first | (apply AWP.go ok; rfl; conv => whnf) | (apply ord_mk; kernel_rfl; conv => whnf) | (apply And.intro; (first | omega | (unfold inI; omega) | (dsimp only; omega) | (unfold bitsOk; omega) | ((try dsimp only); simp only [List.length_map, List.length_take, List.length_append, List.length_replicate, List.length_cons, List.length_nil]; omega) | (simp only [btw_iff] at *; first | omega | (unfold inI; omega) | (unfold bitsOk; omega)) | exact stor_map (fun _ => rfl) | exact ⟨rfl, stor_cons rfl stor_nil⟩ | exact ⟨rfl, stor_map (fun _ => rfl) _⟩ | exact ⟨⟨rfl, by omega⟩, stor_map (fun _ => rfl) _⟩); conv => whnf) | (with_reducible apply get_mapN; omega; intro _; conv => whnf) | (with_reducible apply get_mapI; omega; intro _; conv => whnf) | (apply get_mapN; omega; intro _; conv => whnf) | (apply get_fill; omega; conv => whnf) | (apply ex_some; conv => whnf) | (apply get_map; omega; intro _; conv => whnf) | (apply vcG_dec <;> intro _ <;> conv => whnf) | (apply vcG_ndec <;> intro _ <;> conv => whnf) | (apply vcG_not <;> intro _ <;> conv => whnf) | (apply vcG_mk <;> intro _ <;> conv => whnf) | (apply vcIf_dec <;> intro _ <;> conv => whnf) | (apply vcIf_ndec <;> intro _ <;> conv => whnf) | (apply vcIf_not <;> intro _ <;> conv => whnf) | (apply vcIf_mk <;> intro _ <;> conv => whnf))
    · omega
    · obtain rfl : k = l.length := by omega
      exact ret_new rfl (flat_map fun _ => rfl) rfl (fill_end _ _ _ _ rfl)

theorem toGraph_new (g : Graph) (c0 : CallsA Tryz.prog 74 [lst 2 State.cs g.st] [] (.sref 0 0 g.st.length) [.cells 2 (g.st.map State.co)]) (c1 : CallsA Tryz.prog 75 [lst 1 encL g.nx] [] (.sref 0 0 g.nx.length) [.cells 1 (g.nx.map ownRow)]) :
    CallsA Tryz.prog 16 [.agg g.cs] [] (.agg [.sref 0 0 g.st.length, .sref 1 0 g.nx.length]) [.cells 2 (g.st.map State.co), .cells 1 (g.nx.map ownRow)] := by
  refine callsA_of tabOk Tryz.func16 rfl rfl 13 Tryz.ntmps16 (by simp) ?_
  repeat' (first | (apply AWP.go ok; rfl; conv => whnf) | (apply ord_mk; kernel_rfl; conv => whnf) | (apply And.intro; (first | omega | (unfold inI; omega) | (dsimp only; omega) | (unfold bitsOk; omega) | ((try dsimp only); simp only [List.length_map, List.length_take, List.length_append, List.length_replicate, List.length_cons, List.length_nil]; omega) | (simp only [btw_iff] at *; first | omega | (unfold inI; omega) | (unfold bitsOk; omega)) | exact stor_map (fun _ => rfl) | exact ⟨rfl, stor_cons rfl stor_nil⟩ | exact ⟨rfl, stor_map (fun _ => rfl) _⟩ | exact ⟨⟨rfl, by omega⟩, stor_map (fun _ => rfl) _⟩); conv => whnf) | (with_reducible apply get_mapN; omega; intro _; conv => whnf) | (with_reducible apply get_mapI; omega; intro _; conv => whnf) | (apply get_mapN; omega; intro _; conv => whnf) | (apply get_fill; omega; conv => whnf) | (apply ex_some; conv => whnf) | (apply get_map; omega; intro _; conv => whnf) | (apply vcG_dec <;> intro _ <;> conv => whnf) | (apply vcG_ndec <;> intro _ <;> conv => whnf) | (apply vcG_not <;> intro _ <;> conv => whnf) | (apply vcG_mk <;> intro _ <;> conv => whnf) | (apply vcIf_dec <;> intro _ <;> conv => whnf) | (apply vcIf_ndec <;> intro _ <;> conv => whnf) | (apply vcIf_not <;> intro _ <;> conv => whnf) | (apply vcIf_mk <;> intro _ <;> conv => whnf) | (apply call_gen [] [] [3] (c0); rfl; (focus ((repeat' (first | exact passOk_nil | apply passOk_cons)) <;> (first | rfl | (refine pass_flat rfl ?_; (first | exact flat_nil | exact flat_replicate rfl | exact flat_map (fun _ => rfl) | exact flat_map Tree.co_flat | (apply flat_append <;> (first | exact flat_replicate rfl | exact flat_map (fun _ => rfl))) | assumption))))); rfl; rfl; rfl; rfl; rfl; (focus ((repeat' (first | exact rens_nil | apply rens_cons)) <;> (first | exact ren_dead | exact ren_box rfl rfl | (refine ren_flat ?_; (first | exact flat_nil | exact flat_replicate rfl | exact flat_map (fun _ => rfl) | exact flat_map Tree.co_flat | (apply flat_append <;> (first | exact flat_replicate rfl | exact flat_map (fun _ => rfl))) | assumption))))); (first | exact .inl rfl | (refine .inr ⟨rfl, ?_⟩; repeat' (first | exact True.intro | apply And.intro | exact rfl | exact plainLL_map (fun _ => rfl) _))); conv => whnf) | (apply call_gen [] [] [4] (c1); rfl; (focus ((repeat' (first | exact passOk_nil | apply passOk_cons)) <;> (first | rfl | (refine pass_flat rfl ?_; (first | exact flat_nil | exact flat_replicate rfl | exact flat_map (fun _ => rfl) | exact flat_map Tree.co_flat | (apply flat_append <;> (first | exact flat_replicate rfl | exact flat_map (fun _ => rfl))) | assumption))))); rfl; rfl; rfl; rfl; rfl; (focus ((repeat' (first | exact rens_nil | apply rens_cons)) <;> (first | exact ren_dead | exact ren_box rfl rfl | (refine ren_flat ?_; (first | exact flat_nil | exact flat_replicate rfl | exact flat_map (fun _ => rfl) | exact flat_map Tree.co_flat | (apply flat_append <;> (first | exact flat_replicate rfl | exact flat_map (fun _ => rfl))) | assumption))))); (first | exact .inl rfl | (refine .inr ⟨rfl, ?_⟩; repeat' (first | exact True.intro | apply And.intro | exact rfl | exact plainLL_map (fun _ => rfl) _))); conv => whnf))
  exact ret_objs [3, 4] (by decide) rfl rfl rfl ⟨obj_flat rfl (flat_map fun _ => rfl), obj_flat rfl (flat_map fun _ => rfl), trivial⟩

theorem toExprS_new (l : List Tree) (hl : l.length ≤ 1048576) (hel : ∀ t ∈ l, CallsA Tryz.prog 76 [argAgg Tree.cs' t] [] (.agg [.int t.kind, .int t.val, .sref 0 0 t.kids.length]) [.cells 3 (t.kids.map Tree.co)]) : CallsA Tryz.prog 17 [lst 3 Tree.cs' l] [] (.sref 0 0 l.length) [.cells 3 (l.map Tree.co')] := by
  refine callsA_of tabOk Tryz.func17 rfl rfl 23 Tryz.ntmps17 (by simp) ?_
  repeat' (first | (apply AWP.go ok; rfl; conv => whnf) | (apply ord_mk; kernel_rfl; conv => whnf) | (apply And.intro; (first | omega | (unfold inI; omega) | (dsimp only; omega) | (unfold bitsOk; omega) | ((try dsimp only); simp only [List.length_map, List.length_take, List.length_append, List.length_replicate, List.length_cons, List.length_nil]; omega) | (simp only [btw_iff] at *; first | omega | (unfold inI; omega) | (unfold bitsOk; omega)) | exact stor_map (fun _ => rfl) | exact ⟨rfl, stor_cons rfl stor_nil⟩ | exact ⟨rfl, stor_map (fun _ => rfl) _⟩ | exact ⟨⟨rfl, by omega⟩, stor_map (fun _ => rfl) _⟩); conv => whnf) | (with_reducible apply get_mapN; omega; intro _; conv => whnf) | (with_reducible apply get_mapI; omega; intro _; conv => whnf) | (apply get_mapN; omega; intro _; conv => whnf) | (apply get_fill; omega; conv => whnf) | (apply ex_some; conv => whnf) | (apply get_map; omega; intro _; conv => whnf) | (apply vcG_dec <;> intro _ <;> conv => whnf) | (apply vcG_ndec <;> intro _ <;> conv => whnf) | (apply vcG_not <;> intro _ <;> conv => whnf) | (apply vcG_mk <;> intro _ <;> conv => whnf) | (apply vcIf_dec <;> intro _ <;> conv => whnf) | (apply vcIf_ndec <;> intro _ <;> conv => whnf) | (apply vcIf_not <;> intro _ <;> conv => whnf) | (apply vcIf_mk <;> intro _ <;> conv => whnf))
  refine loopA (fun k : Nat => ([(0, lst 3 Tree.cs' l), (3, .sref 0 0 l.length), (4, .int k)], [.cells 3 ((l.take k).map Tree.co' ++ List.replicate (l.length - k) [.int 0, .int 0, .nils])])) (fun k => k ≤ l.length) (fun k => l.length - k) 0 (by omega) ⟨[0], rfl, by decide, rfl, by repeat' (first | exact True.intro | exact ⟨rfl, rfl⟩ | apply And.intro), by repeat' (first | exact True.intro | exact obj_box rfl rfl | exact obj_flat (by rfl) (by (first | exact flat_nil | exact flat_replicate rfl | exact flat_map (fun _ => rfl) | exact flat_map Tree.co_flat | (apply flat_append <;> (first | exact flat_replicate rfl | exact flat_map (fun _ => rfl))) | assumption)) | apply And.intro)⟩ ?_
  intro k hk
  by_cases hkl : k < l.length
  · repeat' (first | ((fail_if_success apply stopAt 4); (fail_if_success apply stopAtS 4); apply AWP.go ok; rfl; conv => whnf) | (apply ord_mk; kernel_rfl; conv => whnf) | (apply And.intro; (first | omega | (unfold inI; omega) | (dsimp only; omega) | (unfold bitsOk; omega) | ((try dsimp only); simp only [List.length_map, List.length_take, List.length_append, List.length_replicate, List.length_cons, List.length_nil]; omega) | (simp only [btw_iff] at *; first | omega | (unfold inI; omega) | (unfold bitsOk; omega)) | exact stor_map (fun _ => rfl) | exact ⟨rfl, stor_cons rfl stor_nil⟩ | exact ⟨rfl, stor_map (fun _ => rfl) _⟩ | exact ⟨⟨rfl, by omega⟩, stor_map (fun _ => rfl) _⟩); conv => whnf) | (with_reducible apply get_mapN; omega; intro _; conv => whnf) | (with_reducible apply get_mapI; omega; intro _; conv => whnf) | (apply get_mapN; omega; intro _; conv => whnf) | (apply get_fill; omega; conv => whnf) | (apply ex_some; conv => whnf) | (apply get_map; omega; intro _; conv => whnf) | (apply vcG_dec <;> intro _ <;> conv => whnf) | (apply vcG_ndec <;> intro _ <;> conv => whnf) | (apply vcG_not <;> intro _ <;> conv => whnf) | (apply vcG_mk <;> intro _ <;> conv => whnf) | (apply vcIf_dec <;> intro _ <;> conv => whnf) | (apply vcIf_ndec <;> intro _ <;> conv => whnf) | (apply vcIf_not <;> intro _ <;> conv => whnf) | (apply vcIf_mk <;> intro _ <;> conv => whnf) | (apply call_gen [] [] [1] (hel l[k] (List.getElem_mem _)); rfl; (focus ((repeat' (first | exact passOk_nil | apply passOk_cons)) <;> (first | rfl | (refine pass_flat rfl ?_; (first | exact flat_nil | exact flat_replicate rfl | exact flat_map (fun _ => rfl) | exact flat_map Tree.co_flat | (apply flat_append <;> (first | exact flat_replicate rfl | exact flat_map (fun _ => rfl))) | assumption))))); rfl; rfl; rfl; rfl; rfl; (focus ((repeat' (first | exact rens_nil | apply rens_cons)) <;> (first | exact ren_dead | exact ren_box rfl rfl | (refine ren_flat ?_; (first | exact flat_nil | exact flat_replicate rfl | exact flat_map (fun _ => rfl) | exact flat_map Tree.co_flat | (apply flat_append <;> (first | exact flat_replicate rfl | exact flat_map (fun _ => rfl))) | assumption))))); (first | exact .inl rfl | (refine .inr ⟨rfl, ?_⟩; repeat' (first | exact True.intro | apply And.intro | exact rfl | exact plainLL_map (fun _ => rfl) _))); conv => whnf))
    · refine AWP.reach (Gl.Reach.absorb 0 1 k 2 rfl (getset rfl (by rw [fill_len hk]; exact hkl)) rfl rfl (by simp) rfl (flat_map Tree.co_flat) rfl) ?_
      conv => whnf
      repeat' (first | (apply AWP.go ok; rfl; conv => whnf) | (apply ord_mk; kernel_rfl; conv => whnf) | (apply And.intro; (first | omega | (unfold inI; omega) | (dsimp only; omega) | (unfold bitsOk; omega) | ((try dsimp only); simp only [List.length_map, List.length_take, List.length_append, List.length_replicate, List.length_cons, List.length_nil]; omega) | (simp only [btw_iff] at *; first | omega | (unfold inI; omega) | (unfold bitsOk; omega)) | exact stor_map (fun _ => rfl) | exact ⟨rfl, stor_cons rfl stor_nil⟩ | exact ⟨rfl, stor_map (fun _ => rfl) _⟩ | exact ⟨⟨rfl, by omega⟩, stor_map (fun _ => rfl) _⟩); conv => whnf) | (with_reducible apply get_mapN; omega; intro _; conv => whnf) | (with_reducible apply get_mapI; omega; intro _; conv => whnf) | (apply get_mapN; omega; intro _; conv => whnf) | (apply get_fill; omega; conv => whnf) | (apply ex_some; conv => whnf) | (apply get_map; omega; intro _; conv => whnf) | (apply vcG_dec <;> intro _ <;> conv => whnf) | (apply vcG_ndec <;> intro _ <;> conv => whnf) | (apply vcG_not <;> intro _ <;> conv => whnf) | (apply vcG_mk <;> intro _ <;> conv => whnf) | (apply vcIf_dec <;> intro _ <;> conv => whnf) | (apply vcIf_ndec <;> intro _ <;> conv => whnf) | (apply vcIf_not <;> intro _ <;> conv => whnf) | (apply vcIf_mk <;> intro _ <;> conv => whnf))
      exact again (k + 1) [0] (by omega) (by omega) ⟨rfl, by decide, rfl, ⟨⟨rfl, rfl⟩, ⟨rfl, rfl⟩, ⟨rfl, rfl⟩, trivial⟩, ⟨obj_flat (cells_congr (fill_set2 hkl rfl rfl)) (flat_append (flat_map fun _ => rfl) (flat_replicate rfl)), trivial⟩⟩
    · omega
  · repeat' (first | (apply AWP.go ok; rfl; conv => whnf) | (apply ord_mk; kernel_rfl; conv => whnf) | (apply And.intro; (first | omega | (unfold inI; omega) | (dsimp only; omega) | (unfold bitsOk; omega) | ((try dsimp only); simp only [List.length_map, List.length_take, List.length_append, List.length_replicate, List.length_cons, List.length_nil]; omega) | (simp only [btw_iff] at *; first | omega | (unfold inI; omega) | (unfold bitsOk; omega)) | exact stor_map (fun _ => rfl) | exact ⟨rfl, stor_cons rfl stor_nil⟩ | exact ⟨rfl, stor_map (fun _ => rfl) _⟩ | exact ⟨⟨rfl, by omega⟩, stor_map (fun _ => rfl) _⟩); conv => whnf) | (with_reducible apply get_mapN; omega; intro _; conv => whnf) | (with_reducible apply get_mapI; omega; intro _; conv => whnf) | (apply get_mapN; omega; intro _; conv => whnf) | (apply get_fill; omega; conv => whnf) | (apply ex_some; conv => whnf) | (apply get_map; omega; intro _; conv => whnf) | (apply vcG_dec <;> intro _ <;> conv => whnf) | (apply vcG_ndec <;> intro _ <;> conv => whnf) | (apply vcG_not <;> intro _ <;> conv => whnf) | (apply vcG_mk <;> intro _ <;> conv => whnf) | (apply vcIf_dec <;> intro _ <;> conv => whnf) | (apply vcIf_ndec <;> intro _ <;> conv => whnf) | (apply vcIf_not <;> intro _ <;> conv => whnf) | (apply vcIf_mk <;> intro _ <;> conv => whnf))
    · omega
    · obtain rfl : k = l.length := by omega
      exact ret_new rfl (flat_map fun _ => rfl) rfl (fill_end _ _ _ _ rfl)

theorem toExpr_new (t : Tree) : t.sz ≤ 1048576 → CallsA Tryz.prog 76 [argAgg Tree.cs' t] [] (.agg [.int t.kind, .int t.val, .sref 0 0 t.kids.length]) [.cells 3 (t.kids.map Tree.co)] := by
  induction t using Tree.ind with | h t ih => ?_
  intro hm
  rw [Tree.sz_eq] at hm
  have hk := toExprS_new t.kids (by omega) (fun s hs => ih s hs (by
    have := le_sum Tree.sz hs
    omega))
  rw [← Tree.co_eq] at hk
  rw [Tree.arg_eq]
  refine callsA_of tabOk Tryz.func76 rfl rfl 15 Tryz.ntmps76 (by simp) ?_
  repeat' (first | (apply AWP.go ok; rfl; conv => whnf) | (apply ord_mk; kernel_rfl; conv => whnf) | (apply And.intro; (first | omega | (unfold inI; omega) | (dsimp only; omega) | (unfold bitsOk; omega) | ((try dsimp only); simp only [List.length_map, List.length_take, List.length_append, List.length_replicate, List.length_cons, List.length_nil]; omega) | (simp only [btw_iff] at *; first | omega | (unfold inI; omega) | (unfold bitsOk; omega)) | exact stor_map (fun _ => rfl) | exact ⟨rfl, stor_cons rfl stor_nil⟩ | exact ⟨rfl, stor_map (fun _ => rfl) _⟩ | exact ⟨⟨rfl, by omega⟩, stor_map (fun _ => rfl) _⟩); conv => whnf) | (with_reducible apply get_mapN; omega; intro _; conv => whnf) | (with_reducible apply get_mapI; omega; intro _; conv => whnf) | (apply get_mapN; omega; intro _; conv => whnf) | (apply get_fill; omega; conv => whnf) | (apply ex_some; conv => whnf) | (apply get_map; omega; intro _; conv => whnf) | (apply vcG_dec <;> intro _ <;> conv => whnf) | (apply vcG_ndec <;> intro _ <;> conv => whnf) | (apply vcG_not <;> intro _ <;> conv => whnf) | (apply vcG_mk <;> intro _ <;> conv => whnf) | (apply vcIf_dec <;> intro _ <;> conv => whnf) | (apply vcIf_ndec <;> intro _ <;> conv => whnf) | (apply vcIf_not <;> intro _ <;> conv => whnf) | (apply vcIf_mk <;> intro _ <;> conv => whnf) | (apply call_gen [] [] [3] (hk); rfl; (focus ((repeat' (first | exact passOk_nil | apply passOk_cons)) <;> (first | rfl | (refine pass_flat rfl ?_; (first | exact flat_nil | exact flat_replicate rfl | exact flat_map (fun _ => rfl) | exact flat_map Tree.co_flat | (apply flat_append <;> (first | exact flat_replicate rfl | exact flat_map (fun _ => rfl))) | assumption))))); rfl; rfl; rfl; rfl; rfl; (focus ((repeat' (first | exact rens_nil | apply rens_cons)) <;> (first | exact ren_dead | exact ren_box rfl rfl | (refine ren_flat ?_; (first | exact flat_nil | exact flat_replicate rfl | exact flat_map (fun _ => rfl) | exact flat_map Tree.co_flat | (apply flat_append <;> (first | exact flat_replicate rfl | exact flat_map (fun _ => rfl))) | assumption))))); (first | exact .inl rfl | (refine .inr ⟨rfl, ?_⟩; repeat' (first | exact True.intro | apply And.intro | exact rfl | exact plainLL_map (fun _ => rfl) _))); conv => whnf))
  exact ret_objs [3] (by decide) rfl rfl rfl ⟨obj_flat rfl (flat_map Tree.co_flat), trivial⟩
end Go.Proofs.YtcmihlbihppflaaGreat

namespace Go.Proofs.YtcmihlbihppflaaGreat
open Go.Gl
attribute [local irreducible] vcCall AWP RetOk Again ordOk

def enM (k : Int) (j : Nat) : List AC := [.int (k + j)]

theorem markIntS_ok (l : List Int) (k : Int) (hl : l.length ≤ 1048576) (h0 : 0 ≤ k) (h1 : k ≤ 1000000000000) : CallsA Tryz.prog 57 [.sref 0 0 l.length, .int k] [.cells 1 (l.map enI)] (.int (k + l.length)) [.cells 1 ((marks k l.length).map enI)] := by
  refine callsA_of tabOk Tryz.func57 rfl rfl 19 Tryz.ntmps57 (by simp) ?_
  repeat' (first | (apply AWP.go ok; rfl; conv => whnf) | (apply ord_mk; kernel_rfl; conv => whnf) | (apply And.intro; (first | omega | (unfold inI; omega) | (dsimp only; omega) | (unfold bitsOk; omega) | ((try dsimp only); simp only [List.length_map, List.length_take, List.length_append, List.length_replicate, List.length_cons, List.length_nil]; omega) | (simp only [btw_iff] at *; first | omega | (unfold inI; omega) | (unfold bitsOk; omega)) | exact stor_map (fun _ => rfl) | exact ⟨rfl, stor_cons rfl stor_nil⟩ | exact ⟨rfl, stor_map (fun _ => rfl) _⟩ | exact ⟨⟨rfl, by omega⟩, stor_map (fun _ => rfl) _⟩); conv => whnf) | (with_reducible apply get_mapN; omega; intro _; conv => whnf) | (with_reducible apply get_mapI; omega; intro _; conv => whnf) | (apply get_mapN; omega; intro _; conv => whnf) | (apply get_fill; omega; conv => whnf) | (apply ex_some; conv => whnf) | (apply get_map; omega; intro _; conv => whnf) | (apply vcG_dec <;> intro _ <;> conv => whnf) | (apply vcG_ndec <;> intro _ <;> conv => whnf) | (apply vcG_not <;> intro _ <;> conv => whnf) | (apply vcG_mk <;> intro _ <;> conv => whnf) | (apply vcIf_dec <;> intro _ <;> conv => whnf) | (apply vcIf_ndec <;> intro _ <;> conv => whnf) | (apply vcIf_not <;> intro _ <;> conv => whnf) | (apply vcIf_mk <;> intro _ <;> conv => whnf))
  refine loopA (fun i : Nat => ([(0, .sref 0 0 l.length), (1, .int (k + i)), (5, .int i)], [.cells 1 (mixL (enM k) (l.map enI) i)])) (fun i => i ≤ l.length) (fun i => l.length - i) 0 (by omega) ⟨[0], rfl, by decide, rfl, ⟨⟨rfl, rfl⟩, ⟨rfl, env_int (by simp)⟩, ⟨rfl, rfl⟩, trivial⟩, ⟨obj_flat (cells_congr (mixL_zero _ _).symm) (mixL_flat (fun _ => rfl) (fun _ => rfl)), trivial⟩⟩ ?_
  intro i hi
  repeat' (first | (apply AWP.go ok; rfl; conv => whnf) | (apply ord_mk; kernel_rfl; conv => whnf) | (apply And.intro; (first | omega | (unfold inI; omega) | (dsimp only; omega) | (unfold bitsOk; omega) | ((try dsimp only); simp only [List.length_map, List.length_take, List.length_append, List.length_replicate, List.length_cons, List.length_nil]; omega) | (simp only [btw_iff] at *; first | omega | (unfold inI; omega) | (unfold bitsOk; omega)) | exact stor_map (fun _ => rfl) | exact ⟨rfl, stor_cons rfl stor_nil⟩ | exact ⟨rfl, stor_map (fun _ => rfl) _⟩ | exact ⟨⟨rfl, by omega⟩, stor_map (fun _ => rfl) _⟩); conv => whnf) | (with_reducible apply get_mapN; omega; intro _; conv => whnf) | (with_reducible apply get_mapI; omega; intro _; conv => whnf) | (apply get_mapN; omega; intro _; conv => whnf) | (apply get_fill; omega; conv => whnf) | (apply ex_some; conv => whnf) | (apply get_map; omega; intro _; conv => whnf) | (apply vcG_dec <;> intro _ <;> conv => whnf) | (apply vcG_ndec <;> intro _ <;> conv => whnf) | (apply vcG_not <;> intro _ <;> conv => whnf) | (apply vcG_mk <;> intro _ <;> conv => whnf) | (apply vcIf_dec <;> intro _ <;> conv => whnf) | (apply vcIf_ndec <;> intro _ <;> conv => whnf) | (apply vcIf_not <;> intro _ <;> conv => whnf) | (apply vcIf_mk <;> intro _ <;> conv => whnf) | (refine get_mix (by omega) (by omega) ?_; conv => whnf))
  · exact again (i + 1) [0] (by omega) (by omega) ⟨rfl, by decide, rfl, ⟨⟨rfl, rfl⟩, ⟨rfl, env_int (by omega)⟩, ⟨rfl, rfl⟩, trivial⟩, ⟨obj_flat (cells_congr (mixL_set (by simpa using by omega) (by omega) rfl)) (mixL_flat (fun _ => rfl) (fun _ => rfl)), trivial⟩⟩
  · obtain rfl : i = l.length := by omega
    refine ret_objs [0] (by decide) rfl rfl rfl ⟨obj_flat (cells_congr ?_) (flat_map fun _ => rfl), trivial⟩
    rw [mixL_end (by simp), marks, List.map_map]; rfl

theorem heldIntS_ok (n : Nat) (k : Int) (hl : n ≤ 1048576) (h0 : 0 ≤ k) (h1 : k ≤ 1000000000000) : CallsA Tryz.prog 58 [ints (marks k n), .int k] [] (.int (k + n)) [] := by
  have hn := marks_len k n
  refine callsA_of tabOk Tryz.func58 rfl rfl 21 Tryz.ntmps58 (by simp) ?_
  repeat' (first | (apply AWP.go ok; rfl; conv => whnf) | (apply ord_mk; kernel_rfl; conv => whnf) | (apply And.intro; (first | omega | (unfold inI; omega) | (dsimp only; omega) | (unfold bitsOk; omega) | ((try dsimp only); simp only [List.length_map, List.length_take, List.length_append, List.length_replicate, List.length_cons, List.length_nil]; omega) | (simp only [btw_iff] at *; first | omega | (unfold inI; omega) | (unfold bitsOk; omega)) | exact stor_map (fun _ => rfl) | exact ⟨rfl, stor_cons rfl stor_nil⟩ | exact ⟨rfl, stor_map (fun _ => rfl) _⟩ | exact ⟨⟨rfl, by omega⟩, stor_map (fun _ => rfl) _⟩); conv => whnf) | (with_reducible apply get_mapN; omega; intro _; conv => whnf) | (with_reducible apply get_mapI; omega; intro _; conv => whnf) | (apply get_mapN; omega; intro _; conv => whnf) | (apply get_fill; omega; conv => whnf) | (apply ex_some; conv => whnf) | (apply get_map; omega; intro _; conv => whnf) | (apply vcG_dec <;> intro _ <;> conv => whnf) | (apply vcG_ndec <;> intro _ <;> conv => whnf) | (apply vcG_not <;> intro _ <;> conv => whnf) | (apply vcG_mk <;> intro _ <;> conv => whnf) | (apply vcIf_dec <;> intro _ <;> conv => whnf) | (apply vcIf_ndec <;> intro _ <;> conv => whnf) | (apply vcIf_not <;> intro _ <;> conv => whnf) | (apply vcIf_mk <;> intro _ <;> conv => whnf))
  refine loopA (fun i : Nat => ([(0, ints (marks k n)), (1, .int (k + i)), (5, .int i)], [])) (fun i => i ≤ n) (fun i => n - i) 0 (by omega) ⟨[], rfl, by decide, rfl, ⟨⟨rfl, rfl⟩, ⟨rfl, env_int (by simp)⟩, ⟨rfl, rfl⟩, trivial⟩, trivial⟩ ?_
  intro i hi
  repeat' (first | (apply AWP.go ok; rfl; conv => whnf) | (apply ord_mk; kernel_rfl; conv => whnf) | (apply And.intro; (first | omega | (unfold inI; omega) | (dsimp only; omega) | (unfold bitsOk; omega) | ((try dsimp only); simp only [List.length_map, List.length_take, List.length_append, List.length_replicate, List.length_cons, List.length_nil]; omega) | (simp only [btw_iff] at *; first | omega | (unfold inI; omega) | (unfold bitsOk; omega)) | exact stor_map (fun _ => rfl) | exact ⟨rfl, stor_cons rfl stor_nil⟩ | exact ⟨rfl, stor_map (fun _ => rfl) _⟩ | exact ⟨⟨rfl, by omega⟩, stor_map (fun _ => rfl) _⟩); conv => whnf) | (with_reducible apply get_mapN; omega; intro _; conv => whnf) | (with_reducible apply get_mapI; omega; intro _; conv => whnf) | (apply get_mapN; omega; intro _; conv => whnf) | (apply get_fill; omega; conv => whnf) | (apply ex_some; conv => whnf) | (apply get_map; omega; intro _; conv => whnf) | (apply vcG_dec <;> intro _ <;> conv => whnf) | (apply vcG_ndec <;> intro _ <;> conv => whnf) | (apply vcG_not <;> intro _ <;> conv => whnf) | (apply vcG_mk <;> intro _ <;> conv => whnf) | (apply vcIf_dec <;> intro _ <;> conv => whnf) | (apply vcIf_ndec <;> intro _ <;> conv => whnf) | (apply vcIf_not <;> intro _ <;> conv => whnf) | (apply vcIf_mk <;> intro _ <;> conv => whnf))
  · rename_i h1 h2 h3
    exact absurd (marks_get (by omega)) (by assumption)
  · exact again (i + 1) [] (by omega) (by omega) ⟨rfl, by decide, rfl, ⟨⟨rfl, rfl⟩, ⟨rfl, env_int (by omega)⟩, ⟨rfl, rfl⟩, trivial⟩, trivial⟩
  · obtain rfl : i = n := by omega
    exact ret_data rfl rfl rfl

def anys (n : Nat) : List AC := List.replicate n .any
theorem markStateS_ok (l : List State) (k : Int) (hl : l.length ≤ 1048576) (hm : ∀ s ∈ l, s.small) (h0 : 0 ≤ k) (h1 : k + (l.map State.sz).sum ≤ 1000000000000) : CallsA Tryz.prog 86 [.sref 0 0 l.length, .int k] [.cells 2 (l.map State.co)] (.int (k + (l.map State.sz).sum)) [.cells 2 (List.replicate l.length [.any, .any])] := by
  refine callsA_of tabOk Tryz.func86 rfl rfl 27 Tryz.ntmps86 (by simp) ?_
  repeat' (first | (apply AWP.go ok; rfl; conv => whnf) | (apply ord_mk; kernel_rfl; conv => whnf) | (apply And.intro; (first | omega | (unfold inI; omega) | (dsimp only; omega) | (unfold bitsOk; omega) | ((try dsimp only); simp only [List.length_map, List.length_take, List.length_append, List.length_replicate, List.length_cons, List.length_nil]; omega) | (simp only [btw_iff] at *; first | omega | (unfold inI; omega) | (unfold bitsOk; omega)) | exact stor_map (fun _ => rfl) | exact ⟨rfl, stor_cons rfl stor_nil⟩ | exact ⟨rfl, stor_map (fun _ => rfl) _⟩ | exact ⟨⟨rfl, by omega⟩, stor_map (fun _ => rfl) _⟩); conv => whnf) | (with_reducible apply get_mapN; omega; intro _; conv => whnf) | (with_reducible apply get_mapI; omega; intro _; conv => whnf) | (apply get_mapN; omega; intro _; conv => whnf) | (apply get_fill; omega; conv => whnf) | (apply ex_some; conv => whnf) | (apply get_map; omega; intro _; conv => whnf) | (apply vcG_dec <;> intro _ <;> conv => whnf) | (apply vcG_ndec <;> intro _ <;> conv => whnf) | (apply vcG_not <;> intro _ <;> conv => whnf) | (apply vcG_mk <;> intro _ <;> conv => whnf) | (apply vcIf_dec <;> intro _ <;> conv => whnf) | (apply vcIf_ndec <;> intro _ <;> conv => whnf) | (apply vcIf_not <;> intro _ <;> conv => whnf) | (apply vcIf_mk <;> intro _ <;> conv => whnf))
  refine loopA (fun i : Nat => ([(0, .sref 0 0 l.length), (1, .int (k + ((l.take i).map State.sz).sum)), (5, .int i)], [.cells 2 (mixL (fun _ => [.any, .any]) (l.map State.co) i)])) (fun i => i ≤ l.length) (fun i => l.length - i) 0 (by omega) ⟨[0], rfl, by decide, rfl, ⟨⟨rfl, rfl⟩, ⟨rfl, env_int (by simp)⟩, ⟨rfl, rfl⟩, trivial⟩, ⟨obj_flat (cells_congr (mixL_zero _ _).symm) (mixL_flat (fun _ => rfl) (fun _ => rfl)), trivial⟩⟩ ?_
  intro i hi
  by_cases hil : i < l.length
  · have e := sum_take State.sz l i hil
    have e2 := sum_take_le State.sz l (i + 1)
    have hs := hm l[i] (List.getElem_mem _)
    have hz : State.sz l[i] = l[i].a.length + l[i].b.length := rfl
    have hm2 : i < (mixL (fun _ => [AC.any, .any]) (l.map State.co) i).length := by rw [mixL_len (by simpa using hi)]; simpa using hil
    repeat' (first | ((fail_if_success apply stopAt 4); (fail_if_success apply stopAtS 4); apply AWP.go ok; rfl; conv => whnf) | (apply ord_mk; kernel_rfl; conv => whnf) | (apply And.intro; (first | omega | (unfold inI; omega) | (dsimp only; omega) | (unfold bitsOk; omega) | ((try dsimp only); simp only [List.length_map, List.length_take, List.length_append, List.length_replicate, List.length_cons, List.length_nil]; omega) | (simp only [btw_iff] at *; first | omega | (unfold inI; omega) | (unfold bitsOk; omega)) | exact stor_map (fun _ => rfl) | exact ⟨rfl, stor_cons rfl stor_nil⟩ | exact ⟨rfl, stor_map (fun _ => rfl) _⟩ | exact ⟨⟨rfl, by omega⟩, stor_map (fun _ => rfl) _⟩); conv => whnf) | (with_reducible apply get_mapN; omega; intro _; conv => whnf) | (with_reducible apply get_mapI; omega; intro _; conv => whnf) | (apply get_mapN; omega; intro _; conv => whnf) | (apply get_fill; omega; conv => whnf) | (apply ex_some; conv => whnf) | (apply get_map; omega; intro _; conv => whnf) | (apply vcG_dec <;> intro _ <;> conv => whnf) | (apply vcG_ndec <;> intro _ <;> conv => whnf) | (apply vcG_not <;> intro _ <;> conv => whnf) | (apply vcG_mk <;> intro _ <;> conv => whnf) | (apply vcIf_dec <;> intro _ <;> conv => whnf) | (apply vcIf_ndec <;> intro _ <;> conv => whnf) | (apply vcIf_not <;> intro _ <;> conv => whnf) | (apply vcIf_mk <;> intro _ <;> conv => whnf))
    · refine AWP.reach (Gl.Reach.exposeD (e := State.co l[i]) 0 i 0 rfl (mixL_get hil) rfl rfl) ?_
      conv => whnf
      refine AWP.reach (Gl.Reach.exposeD (e := [.sref 1 0 (l[i].a.map enI).length, .own 1 (l[i].b.map enI)]) 0 i 1 rfl (getset rfl hm2) rfl rfl) ?_
      conv => whnf
      rw [List.length_map, List.length_map]
      repeat' (first | ((fail_if_success apply stopAt 3); (fail_if_success apply stopAtS 3); apply AWP.go ok; rfl; conv => whnf) | (apply ord_mk; kernel_rfl; conv => whnf) | (apply And.intro; (first | omega | (unfold inI; omega) | (dsimp only; omega) | (unfold bitsOk; omega) | ((try dsimp only); simp only [List.length_map, List.length_take, List.length_append, List.length_replicate, List.length_cons, List.length_nil]; omega) | (simp only [btw_iff] at *; first | omega | (unfold inI; omega) | (unfold bitsOk; omega)) | exact stor_map (fun _ => rfl) | exact ⟨rfl, stor_cons rfl stor_nil⟩ | exact ⟨rfl, stor_map (fun _ => rfl) _⟩ | exact ⟨⟨rfl, by omega⟩, stor_map (fun _ => rfl) _⟩); conv => whnf) | (with_reducible apply get_mapN; omega; intro _; conv => whnf) | (with_reducible apply get_mapI; omega; intro _; conv => whnf) | (apply get_mapN; omega; intro _; conv => whnf) | (apply get_fill; omega; conv => whnf) | (apply ex_some; conv => whnf) | (apply get_map; omega; intro _; conv => whnf) | (apply vcG_dec <;> intro _ <;> conv => whnf) | (apply vcG_ndec <;> intro _ <;> conv => whnf) | (apply vcG_not <;> intro _ <;> conv => whnf) | (apply vcG_mk <;> intro _ <;> conv => whnf) | (apply vcIf_dec <;> intro _ <;> conv => whnf) | (apply vcIf_ndec <;> intro _ <;> conv => whnf) | (apply vcIf_not <;> intro _ <;> conv => whnf) | (apply vcIf_mk <;> intro _ <;> conv => whnf) | (apply get_set; (exact Int.toNat_natCast i); (rw [List.length_set]; exact hm2); conv => whnf) | (apply call_gen [1] [] [] (markIntS_ok l[i].a (k + ((l.take i).map State.sz).sum) hs.1 (by omega) (by omega)); rfl; (focus ((repeat' (first | exact passOk_nil | apply passOk_cons)) <;> (first | rfl | (refine pass_flat rfl ?_; (first | exact flat_nil | exact flat_replicate rfl | exact flat_map (fun _ => rfl) | exact flat_map Tree.co_flat | (apply flat_append <;> (first | exact flat_replicate rfl | exact flat_map (fun _ => rfl))) | assumption))))); rfl; rfl; rfl; rfl; rfl; (focus ((repeat' (first | exact rens_nil | apply rens_cons)) <;> (first | exact ren_dead | exact ren_box rfl rfl | (refine ren_flat ?_; (first | exact flat_nil | exact flat_replicate rfl | exact flat_map (fun _ => rfl) | exact flat_map Tree.co_flat | (apply flat_append <;> (first | exact flat_replicate rfl | exact flat_map (fun _ => rfl))) | assumption))))); (first | exact .inl rfl | (refine .inr ⟨rfl, ?_⟩; repeat' (first | exact True.intro | apply And.intro | exact rfl | exact plainLL_map (fun _ => rfl) _))); conv => whnf) | (apply call_gen [2] [] [] (markIntS_ok l[i].b (k + ((l.take i).map State.sz).sum + l[i].a.length) hs.2 (by omega) (by omega)); rfl; (focus ((repeat' (first | exact passOk_nil | apply passOk_cons)) <;> (first | rfl | (refine pass_flat rfl ?_; (first | exact flat_nil | exact flat_replicate rfl | exact flat_map (fun _ => rfl) | exact flat_map Tree.co_flat | (apply flat_append <;> (first | exact flat_replicate rfl | exact flat_map (fun _ => rfl))) | assumption))))); rfl; rfl; rfl; rfl; rfl; (focus ((repeat' (first | exact rens_nil | apply rens_cons)) <;> (first | exact ren_dead | exact ren_box rfl rfl | (refine ren_flat ?_; (first | exact flat_nil | exact flat_replicate rfl | exact flat_map (fun _ => rfl) | exact flat_map Tree.co_flat | (apply flat_append <;> (first | exact flat_replicate rfl | exact flat_map (fun _ => rfl))) | assumption))))); (first | exact .inl rfl | (refine .inr ⟨rfl, ?_⟩; repeat' (first | exact True.intro | apply And.intro | exact rfl | exact plainLL_map (fun _ => rfl) _))); conv => whnf))
      refine AWP.reach (Gl.Reach.forget 0 i [.any, .any] rfl (getset rfl (by rw [List.length_set]; exact hm2)) rfl rfl) ?_
      conv => whnf
      repeat' (first | (apply AWP.go ok; rfl; conv => whnf) | (apply ord_mk; kernel_rfl; conv => whnf) | (apply And.intro; (first | omega | (unfold inI; omega) | (dsimp only; omega) | (unfold bitsOk; omega) | ((try dsimp only); simp only [List.length_map, List.length_take, List.length_append, List.length_replicate, List.length_cons, List.length_nil]; omega) | (simp only [btw_iff] at *; first | omega | (unfold inI; omega) | (unfold bitsOk; omega)) | exact stor_map (fun _ => rfl) | exact ⟨rfl, stor_cons rfl stor_nil⟩ | exact ⟨rfl, stor_map (fun _ => rfl) _⟩ | exact ⟨⟨rfl, by omega⟩, stor_map (fun _ => rfl) _⟩); conv => whnf) | (with_reducible apply get_mapN; omega; intro _; conv => whnf) | (with_reducible apply get_mapI; omega; intro _; conv => whnf) | (apply get_mapN; omega; intro _; conv => whnf) | (apply get_fill; omega; conv => whnf) | (apply ex_some; conv => whnf) | (apply get_map; omega; intro _; conv => whnf) | (apply vcG_dec <;> intro _ <;> conv => whnf) | (apply vcG_ndec <;> intro _ <;> conv => whnf) | (apply vcG_not <;> intro _ <;> conv => whnf) | (apply vcG_mk <;> intro _ <;> conv => whnf) | (apply vcIf_dec <;> intro _ <;> conv => whnf) | (apply vcIf_ndec <;> intro _ <;> conv => whnf) | (apply vcIf_not <;> intro _ <;> conv => whnf) | (apply vcIf_mk <;> intro _ <;> conv => whnf))
      exact again (i + 1) [0] (by omega) (by omega) ⟨rfl, by decide, rfl, ⟨⟨rfl, rfl⟩, ⟨rfl, env_int (by omega)⟩, ⟨rfl, rfl⟩, trivial⟩, ⟨obj_flat (cells_congr (by rw [List.set_set, List.set_set, mixL_set (by simpa using hil) rfl rfl])) (mixL_flat (fun _ => rfl) (fun _ => rfl)), trivial⟩⟩
    · omega
  · repeat' (first | (apply AWP.go ok; rfl; conv => whnf) | (apply ord_mk; kernel_rfl; conv => whnf) | (apply And.intro; (first | omega | (unfold inI; omega) | (dsimp only; omega) | (unfold bitsOk; omega) | ((try dsimp only); simp only [List.length_map, List.length_take, List.length_append, List.length_replicate, List.length_cons, List.length_nil]; omega) | (simp only [btw_iff] at *; first | omega | (unfold inI; omega) | (unfold bitsOk; omega)) | exact stor_map (fun _ => rfl) | exact ⟨rfl, stor_cons rfl stor_nil⟩ | exact ⟨rfl, stor_map (fun _ => rfl) _⟩ | exact ⟨⟨rfl, by omega⟩, stor_map (fun _ => rfl) _⟩); conv => whnf) | (with_reducible apply get_mapN; omega; intro _; conv => whnf) | (with_reducible apply get_mapI; omega; intro _; conv => whnf) | (apply get_mapN; omega; intro _; conv => whnf) | (apply get_fill; omega; conv => whnf) | (apply ex_some; conv => whnf) | (apply get_map; omega; intro _; conv => whnf) | (apply vcG_dec <;> intro _ <;> conv => whnf) | (apply vcG_ndec <;> intro _ <;> conv => whnf) | (apply vcG_not <;> intro _ <;> conv => whnf) | (apply vcG_mk <;> intro _ <;> conv => whnf) | (apply vcIf_dec <;> intro _ <;> conv => whnf) | (apply vcIf_ndec <;> intro _ <;> conv => whnf) | (apply vcIf_not <;> intro _ <;> conv => whnf) | (apply vcIf_mk <;> intro _ <;> conv => whnf))
    · omega
    · obtain rfl : i = l.length := by omega
      rw [List.take_length]
      exact ret_objs [0] (by decide) rfl rfl rfl ⟨obj_flat (cells_congr (by rw [mixL_end (by simp), range_const])) (flat_replicate rfl), trivial⟩

theorem markIntSS_ok (l : List (List Int)) (k : Int) (hl : l.length ≤ 1048576) (hm : ∀ s ∈ l, s.length ≤ 1048576) (h0 : 0 ≤ k) (h1 : k + (l.map List.length).sum ≤ 1000000000000) : CallsA Tryz.prog 87 [.sref 0 0 l.length, .int k] [.cells 1 (l.map ownRow)] (.int (k + (l.map List.length).sum)) [.cells 1 (List.replicate l.length [.any])] := by
  refine callsA_of tabOk Tryz.func87 rfl rfl 19 Tryz.ntmps87 (by simp) ?_
  repeat' (first | (apply AWP.go ok; rfl; conv => whnf) | (apply ord_mk; kernel_rfl; conv => whnf) | (apply And.intro; (first | omega | (unfold inI; omega) | (dsimp only; omega) | (unfold bitsOk; omega) | ((try dsimp only); simp only [List.length_map, List.length_take, List.length_append, List.length_replicate, List.length_cons, List.length_nil]; omega) | (simp only [btw_iff] at *; first | omega | (unfold inI; omega) | (unfold bitsOk; omega)) | exact stor_map (fun _ => rfl) | exact ⟨rfl, stor_cons rfl stor_nil⟩ | exact ⟨rfl, stor_map (fun _ => rfl) _⟩ | exact ⟨⟨rfl, by omega⟩, stor_map (fun _ => rfl) _⟩); conv => whnf) | (with_reducible apply get_mapN; omega; intro _; conv => whnf) | (with_reducible apply get_mapI; omega; intro _; conv => whnf) | (apply get_mapN; omega; intro _; conv => whnf) | (apply get_fill; omega; conv => whnf) | (apply ex_some; conv => whnf) | (apply get_map; omega; intro _; conv => whnf) | (apply vcG_dec <;> intro _ <;> conv => whnf) | (apply vcG_ndec <;> intro _ <;> conv => whnf) | (apply vcG_not <;> intro _ <;> conv => whnf) | (apply vcG_mk <;> intro _ <;> conv => whnf) | (apply vcIf_dec <;> intro _ <;> conv => whnf) | (apply vcIf_ndec <;> intro _ <;> conv => whnf) | (apply vcIf_not <;> intro _ <;> conv => whnf) | (apply vcIf_mk <;> intro _ <;> conv => whnf))
  refine loopA (fun i : Nat => ([(0, .sref 0 0 l.length), (1, .int (k + ((l.take i).map List.length).sum)), (5, .int i)], [.cells 1 (mixL (fun _ => [.any]) (l.map ownRow) i)])) (fun i => i ≤ l.length) (fun i => l.length - i) 0 (by omega) ⟨[0], rfl, by decide, rfl, ⟨⟨rfl, rfl⟩, ⟨rfl, env_int (by simp)⟩, ⟨rfl, rfl⟩, trivial⟩, ⟨obj_flat (cells_congr (mixL_zero _ _).symm) (mixL_flat (fun _ => rfl) (fun _ => rfl)), trivial⟩⟩ ?_
  intro i hi
  by_cases hil : i < l.length
  · have e := sum_take List.length l i hil
    have e2 := sum_take_le List.length l (i + 1)
    have hs := hm l[i] (List.getElem_mem _)
    have hm2 : i < (mixL (fun _ => [AC.any]) (l.map ownRow) i).length := by rw [mixL_len (by simpa using hi)]; simpa using hil
    repeat' (first | ((fail_if_success apply stopAt 4); (fail_if_success apply stopAtS 4); apply AWP.go ok; rfl; conv => whnf) | (apply ord_mk; kernel_rfl; conv => whnf) | (apply And.intro; (first | omega | (unfold inI; omega) | (dsimp only; omega) | (unfold bitsOk; omega) | ((try dsimp only); simp only [List.length_map, List.length_take, List.length_append, List.length_replicate, List.length_cons, List.length_nil]; omega) | (simp only [btw_iff] at *; first | omega | (unfold inI; omega) | (unfold bitsOk; omega)) | exact stor_map (fun _ => rfl) | exact ⟨rfl, stor_cons rfl stor_nil⟩ | exact ⟨rfl, stor_map (fun _ => rfl) _⟩ | exact ⟨⟨rfl, by omega⟩, stor_map (fun _ => rfl) _⟩); conv => whnf) | (with_reducible apply get_mapN; omega; intro _; conv => whnf) | (with_reducible apply get_mapI; omega; intro _; conv => whnf) | (apply get_mapN; omega; intro _; conv => whnf) | (apply get_fill; omega; conv => whnf) | (apply ex_some; conv => whnf) | (apply get_map; omega; intro _; conv => whnf) | (apply vcG_dec <;> intro _ <;> conv => whnf) | (apply vcG_ndec <;> intro _ <;> conv => whnf) | (apply vcG_not <;> intro _ <;> conv => whnf) | (apply vcG_mk <;> intro _ <;> conv => whnf) | (apply vcIf_dec <;> intro _ <;> conv => whnf) | (apply vcIf_ndec <;> intro _ <;> conv => whnf) | (apply vcIf_not <;> intro _ <;> conv => whnf) | (apply vcIf_mk <;> intro _ <;> conv => whnf))
    · refine AWP.reach (Gl.Reach.exposeD (e := ownRow l[i]) 0 i 0 rfl (mixL_get hil) rfl rfl) ?_
      conv => whnf
      rw [List.length_map]
      repeat' (first | ((fail_if_success apply stopAt 3); (fail_if_success apply stopAtS 3); apply AWP.go ok; rfl; conv => whnf) | (apply ord_mk; kernel_rfl; conv => whnf) | (apply And.intro; (first | omega | (unfold inI; omega) | (dsimp only; omega) | (unfold bitsOk; omega) | ((try dsimp only); simp only [List.length_map, List.length_take, List.length_append, List.length_replicate, List.length_cons, List.length_nil]; omega) | (simp only [btw_iff] at *; first | omega | (unfold inI; omega) | (unfold bitsOk; omega)) | exact stor_map (fun _ => rfl) | exact ⟨rfl, stor_cons rfl stor_nil⟩ | exact ⟨rfl, stor_map (fun _ => rfl) _⟩ | exact ⟨⟨rfl, by omega⟩, stor_map (fun _ => rfl) _⟩); conv => whnf) | (with_reducible apply get_mapN; omega; intro _; conv => whnf) | (with_reducible apply get_mapI; omega; intro _; conv => whnf) | (apply get_mapN; omega; intro _; conv => whnf) | (apply get_fill; omega; conv => whnf) | (apply ex_some; conv => whnf) | (apply get_map; omega; intro _; conv => whnf) | (apply vcG_dec <;> intro _ <;> conv => whnf) | (apply vcG_ndec <;> intro _ <;> conv => whnf) | (apply vcG_not <;> intro _ <;> conv => whnf) | (apply vcG_mk <;> intro _ <;> conv => whnf) | (apply vcIf_dec <;> intro _ <;> conv => whnf) | (apply vcIf_ndec <;> intro _ <;> conv => whnf) | (apply vcIf_not <;> intro _ <;> conv => whnf) | (apply vcIf_mk <;> intro _ <;> conv => whnf) | (apply get_set; (exact Int.toNat_natCast i); exact hm2; conv => whnf) | (apply call_gen [1] [] [] (markIntS_ok l[i] (k + ((l.take i).map List.length).sum) hs (by omega) (by omega)); rfl; (focus ((repeat' (first | exact passOk_nil | apply passOk_cons)) <;> (first | rfl | (refine pass_flat rfl ?_; (first | exact flat_nil | exact flat_replicate rfl | exact flat_map (fun _ => rfl) | exact flat_map Tree.co_flat | (apply flat_append <;> (first | exact flat_replicate rfl | exact flat_map (fun _ => rfl))) | assumption))))); rfl; rfl; rfl; rfl; rfl; (focus ((repeat' (first | exact rens_nil | apply rens_cons)) <;> (first | exact ren_dead | exact ren_box rfl rfl | (refine ren_flat ?_; (first | exact flat_nil | exact flat_replicate rfl | exact flat_map (fun _ => rfl) | exact flat_map Tree.co_flat | (apply flat_append <;> (first | exact flat_replicate rfl | exact flat_map (fun _ => rfl))) | assumption))))); (first | exact .inl rfl | (refine .inr ⟨rfl, ?_⟩; repeat' (first | exact True.intro | apply And.intro | exact rfl | exact plainLL_map (fun _ => rfl) _))); conv => whnf))
      refine AWP.reach (Gl.Reach.forget 0 i [.any] rfl (getset rfl hm2) rfl rfl) ?_
      conv => whnf
      repeat' (first | (apply AWP.go ok; rfl; conv => whnf) | (apply ord_mk; kernel_rfl; conv => whnf) | (apply And.intro; (first | omega | (unfold inI; omega) | (dsimp only; omega) | (unfold bitsOk; omega) | ((try dsimp only); simp only [List.length_map, List.length_take, List.length_append, List.length_replicate, List.length_cons, List.length_nil]; omega) | (simp only [btw_iff] at *; first | omega | (unfold inI; omega) | (unfold bitsOk; omega)) | exact stor_map (fun _ => rfl) | exact ⟨rfl, stor_cons rfl stor_nil⟩ | exact ⟨rfl, stor_map (fun _ => rfl) _⟩ | exact ⟨⟨rfl, by omega⟩, stor_map (fun _ => rfl) _⟩); conv => whnf) | (with_reducible apply get_mapN; omega; intro _; conv => whnf) | (with_reducible apply get_mapI; omega; intro _; conv => whnf) | (apply get_mapN; omega; intro _; conv => whnf) | (apply get_fill; omega; conv => whnf) | (apply ex_some; conv => whnf) | (apply get_map; omega; intro _; conv => whnf) | (apply vcG_dec <;> intro _ <;> conv => whnf) | (apply vcG_ndec <;> intro _ <;> conv => whnf) | (apply vcG_not <;> intro _ <;> conv => whnf) | (apply vcG_mk <;> intro _ <;> conv => whnf) | (apply vcIf_dec <;> intro _ <;> conv => whnf) | (apply vcIf_ndec <;> intro _ <;> conv => whnf) | (apply vcIf_not <;> intro _ <;> conv => whnf) | (apply vcIf_mk <;> intro _ <;> conv => whnf))
      exact again (i + 1) [0] (by omega) (by omega) ⟨rfl, by decide, rfl, ⟨⟨rfl, rfl⟩, ⟨rfl, env_int (by omega)⟩, ⟨rfl, rfl⟩, trivial⟩, ⟨obj_flat (cells_congr (by rw [List.set_set, mixL_set (by simpa using hil) rfl rfl])) (mixL_flat (fun _ => rfl) (fun _ => rfl)), trivial⟩⟩
    · omega
  · repeat' (first | (apply AWP.go ok; rfl; conv => whnf) | (apply ord_mk; kernel_rfl; conv => whnf) | (apply And.intro; (first | omega | (unfold inI; omega) | (dsimp only; omega) | (unfold bitsOk; omega) | ((try dsimp only); simp only [List.length_map, List.length_take, List.length_append, List.length_replicate, List.length_cons, List.length_nil]; omega) | (simp only [btw_iff] at *; first | omega | (unfold inI; omega) | (unfold bitsOk; omega)) | exact stor_map (fun _ => rfl) | exact ⟨rfl, stor_cons rfl stor_nil⟩ | exact ⟨rfl, stor_map (fun _ => rfl) _⟩ | exact ⟨⟨rfl, by omega⟩, stor_map (fun _ => rfl) _⟩); conv => whnf) | (with_reducible apply get_mapN; omega; intro _; conv => whnf) | (with_reducible apply get_mapI; omega; intro _; conv => whnf) | (apply get_mapN; omega; intro _; conv => whnf) | (apply get_fill; omega; conv => whnf) | (apply ex_some; conv => whnf) | (apply get_map; omega; intro _; conv => whnf) | (apply vcG_dec <;> intro _ <;> conv => whnf) | (apply vcG_ndec <;> intro _ <;> conv => whnf) | (apply vcG_not <;> intro _ <;> conv => whnf) | (apply vcG_mk <;> intro _ <;> conv => whnf) | (apply vcIf_dec <;> intro _ <;> conv => whnf) | (apply vcIf_ndec <;> intro _ <;> conv => whnf) | (apply vcIf_not <;> intro _ <;> conv => whnf) | (apply vcIf_mk <;> intro _ <;> conv => whnf))
    · omega
    · obtain rfl : i = l.length := by omega
      rw [List.take_length]
      exact ret_objs [0] (by decide) rfl rfl rfl ⟨obj_flat (cells_congr (by rw [mixL_end (by simp), range_const])) (flat_replicate rfl), trivial⟩

theorem markGraph_ok (g : Graph) (k : Int) (c0 : ∀ k : Int, 0 ≤ k → k + (g.st.map State.sz).sum ≤ 1000000000000 → CallsA Tryz.prog 86 [.sref 0 0 g.st.length, .int k] [.cells 2 (g.st.map State.co)] (.int (k + (g.st.map State.sz).sum)) [.cells 2 (List.replicate g.st.length [.any, .any])])
    (c1 : ∀ k : Int, 0 ≤ k → k + (g.nx.map List.length).sum ≤ 1000000000000 → CallsA Tryz.prog 87 [.sref 0 0 g.nx.length, .int k] [.cells 1 (g.nx.map ownRow)] (.int (k + (g.nx.map List.length).sum)) [.cells 1 (List.replicate g.nx.length [.any])]) (h0 : 0 ≤ k) (h1 : k + (g.st.map State.sz).sum + (g.nx.map List.length).sum ≤ 1000000000000) :
    CallsA Tryz.prog 24 [.agg [.sref 0 0 g.st.length, .sref 1 0 g.nx.length], .int k] [.cells 2 (g.st.map State.co), .cells 1 (g.nx.map ownRow)] (.int (k + (g.st.map State.sz).sum + (g.nx.map List.length).sum)) [.cells 2 (List.replicate g.st.length [.any, .any]), .cells 1 (List.replicate g.nx.length [.any])] := by
  refine callsA_of tabOk Tryz.func24 rfl rfl 14 Tryz.ntmps24 (by simp) ?_
  repeat' (first | (apply AWP.go ok; rfl; conv => whnf) | (apply ord_mk; kernel_rfl; conv => whnf) | (apply And.intro; (first | omega | (unfold inI; omega) | (dsimp only; omega) | (unfold bitsOk; omega) | ((try dsimp only); simp only [List.length_map, List.length_take, List.length_append, List.length_replicate, List.length_cons, List.length_nil]; omega) | (simp only [btw_iff] at *; first | omega | (unfold inI; omega) | (unfold bitsOk; omega)) | exact stor_map (fun _ => rfl) | exact ⟨rfl, stor_cons rfl stor_nil⟩ | exact ⟨rfl, stor_map (fun _ => rfl) _⟩ | exact ⟨⟨rfl, by omega⟩, stor_map (fun _ => rfl) _⟩); conv => whnf) | (with_reducible apply get_mapN; omega; intro _; conv => whnf) | (with_reducible apply get_mapI; omega; intro _; conv => whnf) | (apply get_mapN; omega; intro _; conv => whnf) | (apply get_fill; omega; conv => whnf) | (apply ex_some; conv => whnf) | (apply get_map; omega; intro _; conv => whnf) | (apply vcG_dec <;> intro _ <;> conv => whnf) | (apply vcG_ndec <;> intro _ <;> conv => whnf) | (apply vcG_not <;> intro _ <;> conv => whnf) | (apply vcG_mk <;> intro _ <;> conv => whnf) | (apply vcIf_dec <;> intro _ <;> conv => whnf) | (apply vcIf_ndec <;> intro _ <;> conv => whnf) | (apply vcIf_not <;> intro _ <;> conv => whnf) | (apply vcIf_mk <;> intro _ <;> conv => whnf) | (apply call_gen [0] [] [] (c0 k h0 (by omega)); rfl; (focus ((repeat' (first | exact passOk_nil | apply passOk_cons)) <;> (first | rfl | (refine pass_flat rfl ?_; (first | exact flat_nil | exact flat_replicate rfl | exact flat_map (fun _ => rfl) | exact flat_map Tree.co_flat | (apply flat_append <;> (first | exact flat_replicate rfl | exact flat_map (fun _ => rfl))) | assumption))))); rfl; rfl; rfl; rfl; rfl; (focus ((repeat' (first | exact rens_nil | apply rens_cons)) <;> (first | exact ren_dead | exact ren_box rfl rfl | (refine ren_flat ?_; (first | exact flat_nil | exact flat_replicate rfl | exact flat_map (fun _ => rfl) | exact flat_map Tree.co_flat | (apply flat_append <;> (first | exact flat_replicate rfl | exact flat_map (fun _ => rfl))) | assumption))))); (first | exact .inl rfl | (refine .inr ⟨rfl, ?_⟩; repeat' (first | exact True.intro | apply And.intro | exact rfl | exact plainLL_map (fun _ => rfl) _))); conv => whnf) | (apply call_gen [1] [] [] (c1 (k + (g.st.map State.sz).sum) (by omega) h1); rfl; (focus ((repeat' (first | exact passOk_nil | apply passOk_cons)) <;> (first | rfl | (refine pass_flat rfl ?_; (first | exact flat_nil | exact flat_replicate rfl | exact flat_map (fun _ => rfl) | exact flat_map Tree.co_flat | (apply flat_append <;> (first | exact flat_replicate rfl | exact flat_map (fun _ => rfl))) | assumption))))); rfl; rfl; rfl; rfl; rfl; (focus ((repeat' (first | exact rens_nil | apply rens_cons)) <;> (first | exact ren_dead | exact ren_box rfl rfl | (refine ren_flat ?_; (first | exact flat_nil | exact flat_replicate rfl | exact flat_map (fun _ => rfl) | exact flat_map Tree.co_flat | (apply flat_append <;> (first | exact flat_replicate rfl | exact flat_map (fun _ => rfl))) | assumption))))); (first | exact .inl rfl | (refine .inr ⟨rfl, ?_⟩; repeat' (first | exact True.intro | apply And.intro | exact rfl | exact plainLL_map (fun _ => rfl) _))); conv => whnf))
  exact ret_objs [0, 1] (by decide) rfl rfl rfl ⟨obj_flat rfl (flat_replicate rfl), obj_flat rfl (flat_replicate rfl), trivial⟩

theorem markExprS_of (l : List Tree) (k : Int) (hl : l.length ≤ 1048576) (hel : ∀ t ∈ l, ∀ k : Int, 0 ≤ k → k + 2 * (t.sz : Int) ≤ 1000000000000 → CallsA Tryz.prog 25 [.sref 0 0 t.kids.length, .int k] [.cells 3 (t.kids.map Tree.co)] (.int (k + 2 * (t.sz : Int))) [.cells 3 (List.replicate t.kids.length [.any, .any, .any])]) (h0 : 0 ≤ k) (h1 : k + 2 * (l.length + (l.map Tree.sz).sum : Nat) ≤ 1000000000000) :
    CallsA Tryz.prog 25 [.sref 0 0 l.length, .int k] [.cells 3 (l.map Tree.co')] (.int (k + 2 * (l.length + (l.map Tree.sz).sum : Nat))) [.cells 3 (List.replicate l.length [.any, .any, .any])] := by
  refine callsA_of tabOk Tryz.func25 rfl rfl 34 Tryz.ntmps25 (by simp) ?_
  repeat' (first | (apply AWP.go ok; rfl; conv => whnf) | (apply ord_mk; kernel_rfl; conv => whnf) | (apply And.intro; (first | omega | (unfold inI; omega) | (dsimp only; omega) | (unfold bitsOk; omega) | ((try dsimp only); simp only [List.length_map, List.length_take, List.length_append, List.length_replicate, List.length_cons, List.length_nil]; omega) | (simp only [btw_iff] at *; first | omega | (unfold inI; omega) | (unfold bitsOk; omega)) | exact stor_map (fun _ => rfl) | exact ⟨rfl, stor_cons rfl stor_nil⟩ | exact ⟨rfl, stor_map (fun _ => rfl) _⟩ | exact ⟨⟨rfl, by omega⟩, stor_map (fun _ => rfl) _⟩); conv => whnf) | (with_reducible apply get_mapN; omega; intro _; conv => whnf) | (with_reducible apply get_mapI; omega; intro _; conv => whnf) | (apply get_mapN; omega; intro _; conv => whnf) | (apply get_fill; omega; conv => whnf) | (apply ex_some; conv => whnf) | (apply get_map; omega; intro _; conv => whnf) | (apply vcG_dec <;> intro _ <;> conv => whnf) | (apply vcG_ndec <;> intro _ <;> conv => whnf) | (apply vcG_not <;> intro _ <;> conv => whnf) | (apply vcG_mk <;> intro _ <;> conv => whnf) | (apply vcIf_dec <;> intro _ <;> conv => whnf) | (apply vcIf_ndec <;> intro _ <;> conv => whnf) | (apply vcIf_not <;> intro _ <;> conv => whnf) | (apply vcIf_mk <;> intro _ <;> conv => whnf))
  refine loopA (fun i : Nat => ([(0, .sref 0 0 l.length), (1, .int (k + 2 * (i + ((l.take i).map Tree.sz).sum : Nat))), (5, .int i)], [.cells 3 (mixL (fun _ => [.any, .any, .any]) (l.map Tree.co') i)])) (fun i => i ≤ l.length) (fun i => l.length - i) 0 (by omega) ⟨[0], rfl, by decide, rfl, ⟨⟨rfl, rfl⟩, ⟨rfl, env_int (by simp)⟩, ⟨rfl, rfl⟩, trivial⟩, ⟨obj_flat (cells_congr (mixL_zero _ _).symm) (mixL_flat (fun _ => rfl) (fun _ => rfl)), trivial⟩⟩ ?_
  intro i hi
  by_cases hil : i < l.length
  · have e := sum_take Tree.sz l i hil
    have e2 := sum_take_le Tree.sz l (i + 1)
    have hc := hel l[i] (List.getElem_mem _)
    have hm2 : i < (mixL (fun _ => [AC.any, .any, .any]) (l.map Tree.co') i).length := by rw [mixL_len (by simpa using hi)]; simpa using hil
    have hin : ((i : Int)).toNat = i := Int.toNat_natCast i
    generalize hF : mixL (fun _ => [AC.any, .any, .any]) (l.map Tree.co') i = F at hm2
    have hg : F[i]? = some (Tree.co' l[i]) := by rw [← hF]; exact mixL_get hil
    repeat' (first | ((fail_if_success apply stopAt 8); (fail_if_success apply stopAtS 8); apply AWP.go ok; rfl; conv => whnf) | (apply ord_mk; kernel_rfl; conv => whnf) | (apply And.intro; (first | omega | (unfold inI; omega) | (dsimp only; omega) | (unfold bitsOk; omega) | ((try dsimp only); simp only [List.length_map, List.length_take, List.length_append, List.length_replicate, List.length_cons, List.length_nil]; omega) | (simp only [btw_iff] at *; first | omega | (unfold inI; omega) | (unfold bitsOk; omega)) | exact stor_map (fun _ => rfl) | exact ⟨rfl, stor_cons rfl stor_nil⟩ | exact ⟨rfl, stor_map (fun _ => rfl) _⟩ | exact ⟨⟨rfl, by omega⟩, stor_map (fun _ => rfl) _⟩); conv => whnf) | (with_reducible apply get_mapN; omega; intro _; conv => whnf) | (with_reducible apply get_mapI; omega; intro _; conv => whnf) | (apply get_mapN; omega; intro _; conv => whnf) | (apply get_fill; omega; conv => whnf) | (apply ex_some; conv => whnf) | (apply get_map; omega; intro _; conv => whnf) | (apply vcG_dec <;> intro _ <;> conv => whnf) | (apply vcG_ndec <;> intro _ <;> conv => whnf) | (apply vcG_not <;> intro _ <;> conv => whnf) | (apply vcG_mk <;> intro _ <;> conv => whnf) | (apply vcIf_dec <;> intro _ <;> conv => whnf) | (apply vcIf_ndec <;> intro _ <;> conv => whnf) | (apply vcIf_not <;> intro _ <;> conv => whnf) | (apply vcIf_mk <;> intro _ <;> conv => whnf) | (apply get_eq; exact hin; exact hg; conv => whnf) | (apply get_set; exact hin; exact hm2; conv => whnf))
    · refine AWP.reach (Gl.Reach.exposeD (e := [.int (k + 2 * (i + ((l.take i).map Tree.sz).sum : Nat)), .int (k + 2 * (i + ((l.take i).map Tree.sz).sum : Nat) + 1), .own 3 (l[i].kids.map Tree.co)]) 0 i 2 rfl (getset rfl (by rw [List.length_set]; exact hm2)) rfl rfl) ?_
      conv => whnf
      rw [List.length_map]
      repeat' (first | ((fail_if_success apply stopAt 3); (fail_if_success apply stopAtS 3); apply AWP.go ok; rfl; conv => whnf) | (apply ord_mk; kernel_rfl; conv => whnf) | (apply And.intro; (first | omega | (unfold inI; omega) | (dsimp only; omega) | (unfold bitsOk; omega) | ((try dsimp only); simp only [List.length_map, List.length_take, List.length_append, List.length_replicate, List.length_cons, List.length_nil]; omega) | (simp only [btw_iff] at *; first | omega | (unfold inI; omega) | (unfold bitsOk; omega)) | exact stor_map (fun _ => rfl) | exact ⟨rfl, stor_cons rfl stor_nil⟩ | exact ⟨rfl, stor_map (fun _ => rfl) _⟩ | exact ⟨⟨rfl, by omega⟩, stor_map (fun _ => rfl) _⟩); conv => whnf) | (with_reducible apply get_mapN; omega; intro _; conv => whnf) | (with_reducible apply get_mapI; omega; intro _; conv => whnf) | (apply get_mapN; omega; intro _; conv => whnf) | (apply get_fill; omega; conv => whnf) | (apply ex_some; conv => whnf) | (apply get_map; omega; intro _; conv => whnf) | (apply vcG_dec <;> intro _ <;> conv => whnf) | (apply vcG_ndec <;> intro _ <;> conv => whnf) | (apply vcG_not <;> intro _ <;> conv => whnf) | (apply vcG_mk <;> intro _ <;> conv => whnf) | (apply vcIf_dec <;> intro _ <;> conv => whnf) | (apply vcIf_ndec <;> intro _ <;> conv => whnf) | (apply vcIf_not <;> intro _ <;> conv => whnf) | (apply vcIf_mk <;> intro _ <;> conv => whnf) | (apply get_set; exact hin; (rw [List.length_set, List.length_set]; exact hm2); conv => whnf) | (apply call_gen [1] [] [] (hc (k + 2 * (i + ((l.take i).map Tree.sz).sum : Nat) + 1 + 1) (by omega) (by omega)); rfl; (focus ((repeat' (first | exact passOk_nil | apply passOk_cons)) <;> (first | rfl | (refine pass_flat rfl ?_; (first | exact flat_nil | exact flat_replicate rfl | exact flat_map (fun _ => rfl) | exact flat_map Tree.co_flat | (apply flat_append <;> (first | exact flat_replicate rfl | exact flat_map (fun _ => rfl))) | assumption))))); rfl; rfl; rfl; rfl; rfl; (focus ((repeat' (first | exact rens_nil | apply rens_cons)) <;> (first | exact ren_dead | exact ren_box rfl rfl | (refine ren_flat ?_; (first | exact flat_nil | exact flat_replicate rfl | exact flat_map (fun _ => rfl) | exact flat_map Tree.co_flat | (apply flat_append <;> (first | exact flat_replicate rfl | exact flat_map (fun _ => rfl))) | assumption))))); (first | exact .inl rfl | (refine .inr ⟨rfl, ?_⟩; repeat' (first | exact True.intro | apply And.intro | exact rfl | exact plainLL_map (fun _ => rfl) _))); conv => whnf))
      refine AWP.reach (Gl.Reach.forget 0 i [.any, .any, .any] rfl (getset rfl (by rw [List.length_set, List.length_set]; exact hm2)) rfl rfl) ?_
      conv => whnf
      repeat' (first | (apply AWP.go ok; rfl; conv => whnf) | (apply ord_mk; kernel_rfl; conv => whnf) | (apply And.intro; (first | omega | (unfold inI; omega) | (dsimp only; omega) | (unfold bitsOk; omega) | ((try dsimp only); simp only [List.length_map, List.length_take, List.length_append, List.length_replicate, List.length_cons, List.length_nil]; omega) | (simp only [btw_iff] at *; first | omega | (unfold inI; omega) | (unfold bitsOk; omega)) | exact stor_map (fun _ => rfl) | exact ⟨rfl, stor_cons rfl stor_nil⟩ | exact ⟨rfl, stor_map (fun _ => rfl) _⟩ | exact ⟨⟨rfl, by omega⟩, stor_map (fun _ => rfl) _⟩); conv => whnf) | (with_reducible apply get_mapN; omega; intro _; conv => whnf) | (with_reducible apply get_mapI; omega; intro _; conv => whnf) | (apply get_mapN; omega; intro _; conv => whnf) | (apply get_fill; omega; conv => whnf) | (apply ex_some; conv => whnf) | (apply get_map; omega; intro _; conv => whnf) | (apply vcG_dec <;> intro _ <;> conv => whnf) | (apply vcG_ndec <;> intro _ <;> conv => whnf) | (apply vcG_not <;> intro _ <;> conv => whnf) | (apply vcG_mk <;> intro _ <;> conv => whnf) | (apply vcIf_dec <;> intro _ <;> conv => whnf) | (apply vcIf_ndec <;> intro _ <;> conv => whnf) | (apply vcIf_not <;> intro _ <;> conv => whnf) | (apply vcIf_mk <;> intro _ <;> conv => whnf))
      exact again (i + 1) [0] (by omega) (by omega) ⟨rfl, by decide, rfl, ⟨⟨rfl, rfl⟩, ⟨rfl, env_int (by omega)⟩, ⟨rfl, rfl⟩, trivial⟩, ⟨obj_flat (cells_congr (by rw [List.set_set, List.set_set, Nat.add_zero, hin, List.set_set, ← hF, mixL_set (by simpa using hil) rfl rfl])) (mixL_flat (fun _ => rfl) (fun _ => rfl)), trivial⟩⟩
    · omega
  · repeat' (first | (apply AWP.go ok; rfl; conv => whnf) | (apply ord_mk; kernel_rfl; conv => whnf) | (apply And.intro; (first | omega | (unfold inI; omega) | (dsimp only; omega) | (unfold bitsOk; omega) | ((try dsimp only); simp only [List.length_map, List.length_take, List.length_append, List.length_replicate, List.length_cons, List.length_nil]; omega) | (simp only [btw_iff] at *; first | omega | (unfold inI; omega) | (unfold bitsOk; omega)) | exact stor_map (fun _ => rfl) | exact ⟨rfl, stor_cons rfl stor_nil⟩ | exact ⟨rfl, stor_map (fun _ => rfl) _⟩ | exact ⟨⟨rfl, by omega⟩, stor_map (fun _ => rfl) _⟩); conv => whnf) | (with_reducible apply get_mapN; omega; intro _; conv => whnf) | (with_reducible apply get_mapI; omega; intro _; conv => whnf) | (apply get_mapN; omega; intro _; conv => whnf) | (apply get_fill; omega; conv => whnf) | (apply ex_some; conv => whnf) | (apply get_map; omega; intro _; conv => whnf) | (apply vcG_dec <;> intro _ <;> conv => whnf) | (apply vcG_ndec <;> intro _ <;> conv => whnf) | (apply vcG_not <;> intro _ <;> conv => whnf) | (apply vcG_mk <;> intro _ <;> conv => whnf) | (apply vcIf_dec <;> intro _ <;> conv => whnf) | (apply vcIf_ndec <;> intro _ <;> conv => whnf) | (apply vcIf_not <;> intro _ <;> conv => whnf) | (apply vcIf_mk <;> intro _ <;> conv => whnf))
    · omega
    · obtain rfl : i = l.length := by omega
      rw [List.take_length]
      exact ret_objs [0] (by decide) rfl rfl rfl ⟨obj_flat (cells_congr (by rw [mixL_end (by simp), range_const])) (flat_replicate rfl), trivial⟩

theorem markExpr_ok (t : Tree) : t.sz ≤ 1048576 → ∀ k : Int, 0 ≤ k → k + 2 * (t.sz : Int) ≤ 1000000000000 → CallsA Tryz.prog 25 [.sref 0 0 t.kids.length, .int k] [.cells 3 (t.kids.map Tree.co)] (.int (k + 2 * (t.sz : Int))) [.cells 3 (List.replicate t.kids.length [.any, .any, .any])] := by
  induction t using Tree.ind with | h t ih => ?_
  intro hm k h0 h1
  have hz := Tree.sz_eq t
  have hk := markExprS_of t.kids k (by omega) (fun s hs => ih s hs (by
    have := le_sum Tree.sz hs
    omega)) h0 (by rw [← hz]; exact h1)
  rw [← Tree.co_eq, ← hz] at hk
  exact hk
theorem markExprS_ok (l : List Tree) (k : Int) (hl : l.length ≤ 1048576) (hel : ∀ t ∈ l, t.sz ≤ 1048576) (h0 : 0 ≤ k) (h1 : k + 2 * (l.length + (l.map Tree.sz).sum : Nat) ≤ 1000000000000) :
    CallsA Tryz.prog 25 [.sref 0 0 l.length, .int k] [.cells 3 (l.map Tree.co')] (.int (k + 2 * (l.length + (l.map Tree.sz).sum : Nat))) [.cells 3 (List.replicate l.length [.any, .any, .any])] :=
  markExprS_of l k hl (fun t ht => markExpr_ok t (hel t ht)) h0 h1
end Go.Proofs.YtcmihlbihppflaaGreat

/- Numbering by first occurrence; what is lent. -/
namespace Go.Gl

def numF (same : Nat → Nat → Bool) : Nat → List Int × Nat
  | 0 => ([], 0)
  | i + 1 => match (List.range i).find? (same i) with
    | some k => ((numF same i).1 ++ [(numF same i).1.getD k 0], (numF same i).2)
    | none => ((numF same i).1 ++ [((numF same i).2 : Int)], (numF same i).2 + 1)
theorem numF_len (same : Nat → Nat → Bool) (n : Nat) : (numF same n).1.length = n := by
  induction n with
  | zero => rfl
  | succ i ih => simp only [numF]; split <;> simp [ih]
theorem numF_pre {same : Nat → Nat → Bool} {i n : Nat} (h : i ≤ n) : (numF same n).1.take i = (numF same i).1 := by
  induction n with
  | zero => obtain rfl : i = 0 := by omega
            rfl
  | succ n ih =>
    rcases Nat.lt_or_ge n i with h1 | h1
    · obtain rfl : i = n + 1 := by omega
      rw [List.take_of_length_le (by rw [numF_len]; omega)]
    · have hl := numF_len same n
      rw [← ih h1]
      simp only [numF]
      split <;> rw [List.take_append_of_le_length (by omega)]
theorem numF_at {same : Nat → Nat → Bool} {i k n : Nat} (h : k < i) (hi : i ≤ n) : (numF same i).1.getD k 0 = (numF same n).1[k]'(by rw [numF_len]; omega) := by
  rw [getD_at (by rw [numF_len]; exact h)]
  simp only [← numF_pre hi, List.getElem_take]
theorem numF_lt (same : Nat → Nat → Bool) (n : Nat) : (∀ x ∈ (numF same n).1, 0 ≤ x ∧ x < (numF same n).2) ∧ (numF same n).2 ≤ n := by
  induction n with
  | zero => exact ⟨fun x hx => (by cases hx), Nat.le_refl _⟩
  | succ i ih =>
    obtain ⟨h1, h2⟩ := ih
    simp only [numF]
    split
    · rename_i k hk
      have hki : k < i := List.mem_range.1 (List.mem_of_find?_eq_some hk)
      have := h1 _ (List.getElem_mem (l := (numF same i).1) (n := k) (by rw [numF_len]; exact hki))
      rw [getD_at (by rw [numF_len]; exact hki)]
      refine ⟨fun x hx => ?_, by dsimp only; omega⟩
      rcases List.mem_append.1 hx with hx | hx
      · exact h1 x hx
      · rw [List.mem_singleton.1 hx]; exact this
    · refine ⟨fun x hx => ?_, by dsimp only; omega⟩
      rcases List.mem_append.1 hx with hx | hx
      · have := h1 x hx
        dsimp only; omega
      · rw [List.mem_singleton.1 hx]; dsimp only; omega
theorem find_none {p : Nat → Bool} {i : Nat} (h : ∀ j, j < i → p j = false) : (List.range i).find? p = none := by
  rw [List.find?_eq_none]
  intro x hx
  rw [h x (List.mem_range.1 hx)]; simp
theorem find_some {p : Nat → Bool} {i k : Nat} (hk : k < i) (h : p k = true) (hn : ∀ j, j < k → p j = false) : (List.range i).find? p = some k := by
  induction i with
  | zero => omega
  | succ i ih =>
    rw [List.range_succ, List.find?_append]
    rcases Nat.lt_or_ge k i with h1 | h1
    · rw [ih h1]; rfl
    · obtain rfl : k = i := by omega
      rw [find_none hn]
      simp [h]
theorem numF_succ {same : Nat → Nat → Bool} {i n : Nat} (hi : i < n) : ∃ h : i < (numF same n).1.length, (numF same (i + 1)).1 = (numF same i).1 ++ [(numF same n).1[i]] := by
  have hl : i < (numF same n).1.length := by rw [numF_len]; exact hi
  refine ⟨hl, ?_⟩
  rw [← numF_pre (i := i + 1) (n := n) hi, ← numF_pre (i := i) (n := n) (by omega), List.take_succ_eq_append_getElem hl]
theorem numF_none {same : Nat → Nat → Bool} {i n : Nat} (hi : i < n) (h : ∀ j, j < i → same i j = false) : (numF same n).1[i]'(by rw [numF_len]; exact hi) = (numF same i).2 ∧ (numF same (i + 1)).2 = (numF same i).2 + 1 := by
  obtain ⟨hl, h1⟩ := numF_succ (same := same) hi
  simp only [numF, find_none h] at h1 ⊢
  have := List.append_cancel_left h1
  exact ⟨(List.cons.inj this).1.symm, trivial⟩
theorem numF_found {same : Nat → Nat → Bool} {i k n : Nat} (hi : i < n) (hk : k < i) (hs : same i k = true) (h : ∀ j, j < k → same i j = false) : (numF same n).1[i]'(by rw [numF_len]; exact hi) = (numF same n).1[k]'(by rw [numF_len]; omega) ∧ (numF same (i + 1)).2 = (numF same i).2 := by
  obtain ⟨hl, h1⟩ := numF_succ (same := same) hi
  simp only [numF, find_some hk hs h] at h1 ⊢
  have := List.append_cancel_left h1
  exact ⟨by rw [← (List.cons.inj this).1, numF_at (n := n) hk (by omega)], trivial⟩
theorem numF_lt' {same : Nat → Nat → Bool} {i k n : Nat} (hi : i ≤ n) (hk : k < i) : 0 ≤ (numF same n).1[k]'(by rw [numF_len]; omega) ∧ (numF same n).1[k]'(by rw [numF_len]; omega) < (numF same i).2 := by
  rw [← numF_at hk hi]
  refine (numF_lt same i).1 _ ?_
  rw [getD_at (by rw [numF_len]; exact hk)]
  exact List.getElem_mem _
theorem numF_congr {s1 s2 : Nat → Nat → Bool} {n : Nat} (h : ∀ i k, k < i → i < n → s1 i k = s2 i k) : numF s1 n = numF s2 n := by
  induction n with
  | zero => rfl
  | succ i ih =>
    have e := ih fun a b h1 h2 => h a b h1 (by omega)
    have : (List.range i).find? (s1 i) = (List.range i).find? (s2 i) := by
      have : ∀ l : List Nat, (∀ x ∈ l, x < i) → l.find? (s1 i) = l.find? (s2 i) := by
        intro l
        induction l with
        | nil => intro _; rfl
        | cons x l ih2 =>
          intro hx
          rw [List.find?_cons, List.find?_cons, h i x (hx x (by simp)) (by omega), ih2 fun y hy => hx y (by simp [hy])]
      exact this _ fun x hx => List.mem_range.1 hx
    simp only [numF, e, this]

theorem flat_set {es : List (List AC)} {i : Nat} {e : List AC} (h : Flat es) (he : flatL e = true) : Flat (es.set i e) := by
  intro x hx
  rcases List.mem_or_eq_of_mem_set hx with hx | rfl
  · exact h x hx
  · exact he
theorem fill_got {α : Type} {f : α → List AC} {l : List α} {z e : List AC} {i k : Nat} (hk : k < i) (hi : i < l.length) : (((l.take i).map f ++ List.replicate (l.length - i) z).set i e)[k]? = some (f l[k]) := by
  rw [List.getElem?_set_ne (by omega), List.getElem?_append_left (by simp; omega)]
  rw [List.getElem?_map, List.getElem?_take, if_pos hk, List.getElem?_eq_getElem (by omega)]; rfl
theorem take_got {α : Type} {f : α → List AC} {l : List α} {i k : Nat} (hk : k < i) (hi : i ≤ l.length) : ((l.take i).map f)[k]? = some (f l[k]) := by
  rw [List.getElem?_map, List.getElem?_take, if_pos hk, List.getElem?_eq_getElem (by omega)]; rfl

theorem app_last {A : List (List AC)} {e : List AC} {i : Nat} (h : A.length = i) : (A ++ [e])[i]? = some e := by
  subst h; simp
theorem app_len {α : Type} {f : α → List AC} {l : List α} {i n : Nat} (hi : i ≤ l.length) (hn : n = i) : (((l.take i).map f).take n).length = i := by
  subst hn; simp; omega
theorem app_fin {α : Type} {f : α → List AC} {l : List α} {i n : Nat} {e e' : List AC} (hi : i < l.length) (hn : n = i) (he : e' = f l[i]) : ((((l.take i).map f).take n) ++ [e]).set i e' = (l.take (i + 1)).map f := by
  subst hn he
  have hl : ((l.take n).map f).length = n := by simp; omega
  rw [List.take_of_length_le (by omega), List.set_append_right _ _ (by omega), hl, Nat.sub_self, List.set_cons_zero, List.take_succ_eq_append_getElem hi, List.map_append]
  rfl

/-- what is lent reads as data -/
theorem bor_list {objs : Nat → AObj} {π Bn : List Nat} {o w n : Nat} {es L : List (List AC)} (ho : objs o = .cells w es) (h1 : idx π o = none) (h2 : inB Bn o = true) (hl : es.length = n) (hu : unownLL es = L) : bor objs π Bn (.sref o 0 n) = .list w n L := by
  rw [bor_full ho h1 h2 hl, hu]
theorem bor_agg {objs : Nat → AObj} {π Bn : List Nat} {xs ys : List AC} (h : borL objs π Bn xs = ys) : bor objs π Bn (.agg xs) = .agg ys := by
  simp only [bor, h]
theorem bor_nil {objs : Nat → AObj} {π Bn : List Nat} : borL objs π Bn [] = [] := rfl
theorem bor_cons {objs : Nat → AObj} {π Bn : List Nat} {x y : AC} {xs ys : List AC} (h : bor objs π Bn x = y) (k : borL objs π Bn xs = ys) : borL objs π Bn (x :: xs) = y :: ys := by
  simp only [borL, h, k]

section
variable {P : Program}
theorem CallsA.keepT {f : FuncId} {args : List AC} {w n : Nat} {es L : List (List AC)} {y : AC} (h : CallsA P f args [] (.tup [.sref 0 0 n, y]) [.cells w es]) (hu : unownLL es = L) (hl : es.length = n) (hy : bor (objsFn [.cells w es]) [] [0] y = y) : CallsA P f args [] (.tup [.list w n L, y]) [] := by
  refine h.lend [] [0] rfl rfl rfl ?_ passOk_nil
  have := bor_list (objs := objsFn [.cells w es]) (π := []) (Bn := [0]) (o := 0) rfl rfl rfl hl hu
  simp only [bor, borL] at this hy ⊢
  rw [this, hy]

theorem Wf.phantoms {G : Ghost} {w0 : World} (hW : Wf G (objsFn []) w0) {l : List AObj} (h : ∀ x ∈ l, ∃ w, x = .cells w []) : Wf G (objsFn l) w0 := by
  refine ⟨hW.hS, hW.hU, hW.su, hW.sk, fun o => ?_⟩
  have hι : G.ι o = none := by
    have := hW.objs o
    have e : objsFn [] o = .fresh := by simp [objsFn, listFn]
    rw [e] at this; exact this
  show ObjRel G (hp w0) o (objsFn l o)
  rcases Nat.lt_or_ge o l.length with h1 | h1
  · obtain ⟨w, hw⟩ := h _ (List.getElem_mem h1)
    have : objsFn l o = .cells w [] := by
      rw [← hw]; unfold objsFn; exact listFn_some (List.getElem?_eq_getElem h1)
    rw [this]; exact .inl ⟨rfl, hι⟩
  · have : objsFn l o = .fresh := listFn_none h1
    rw [this]; exact hι

theorem CallsA.nils {f : FuncId} {args : List AC} {res res' : AC} {l : List AObj} (h : CallsA P f args [] res []) (hl : ∀ x ∈ l, ∃ w, x = .cells w []) (hr : ACle res res') : CallsA P f args [] res' l := by
  refine ⟨h.1, fun G w vs hW hs hv => (h.2 G w vs hW hs hv).mono ?_⟩
  rintro e w' ⟨G', v, rfl, h1, h2, h3, h4, h5⟩
  exact ⟨G', v, rfl, h1, h2, h3, h4.phantoms hl, hr _ _ _ h5⟩
end
theorem nil_sref {o : Nat} : ACle .nils (.sref o 0 0) := fun G h v hv => by
  simp only [V] at hv ⊢
  exact ⟨0, Nat.le_refl _, .inl ⟨rfl, none, hv⟩⟩
end Go.Gl

namespace Go.Proofs.YtcmihlbihppflaaGreat
open Go.Gl
section
attribute [local irreducible] vcCall
theorem l2Ints_ok (a b : List Int) (ha : a.length ≤ maxLen) (hb : b.length ≤ maxLen) : CallsA Tryz.prog 112 [lst 1 enI a, lst 1 enI b] [] (.bool (decide (a = b))) [] := by
  unfold maxLen at ha hb
  refine callsA_of tabOk Tryz.func112 rfl rfl 26 Tryz.ntmps112 (by simp) ?_
  repeat (first | refine AWP.go ok _ _ _ _ _ rfl ?_ | refine ord_mk (by kernel_rfl) ?_ | refine And.intro (by first | omega | (unfold inI; omega) | (dsimp only; omega)) ?_)
  refine vcIf_ndec (fun h => ?_) (fun h => ?_)
  · repeat (first | refine AWP.go ok _ _ _ _ _ rfl ?_ | refine ord_mk (by kernel_rfl) ?_ | refine And.intro (by first | omega | (unfold inI; omega) | (dsimp only; omega)) ?_)
    have hne : a ≠ b := by rintro rfl; exact h rfl
    rw [decide_eq_false hne]
    exact ⟨[], by decide, rfl, rfl, ACle.of_eq rfl, trivial⟩
  · have hl : a.length = b.length := by omega
    repeat (first | refine AWP.go ok _ _ _ _ _ rfl ?_ | refine ord_mk (by kernel_rfl) ?_ | refine And.intro (by first | omega | (unfold inI; omega) | (dsimp only; omega)) ?_)
    refine awp_loop (fun k : Nat => ([(0, lst 1 enI a), (1, lst 1 enI b), (5, .int k)], [])) (fun k => k ≤ a.length ∧ a.take k = b.take k) (fun k => a.length - k) 0 (by simp)
      ⟨[], rfl, by decide, rfl, ⟨⟨rfl, rfl⟩, ⟨rfl, rfl⟩, ⟨rfl, rfl⟩, trivial⟩, trivial⟩ ?_
    intro k hk
    repeat (first | refine AWP.go ok _ _ _ _ _ rfl ?_ | refine ord_mk (by kernel_rfl) ?_ | refine And.intro (by first | omega | (unfold inI; omega) | (dsimp only; omega)) ?_)
    refine vcIf_dec (fun h => ?_) (fun h => ?_)
    · have hka : k < a.length := by omega
      repeat (first | refine AWP.go ok _ _ _ _ _ rfl ?_ | refine ord_mk (by kernel_rfl) ?_ | refine And.intro (by first | omega | (unfold inI; omega) | (dsimp only; omega)) ?_)
      refine ⟨_, map_get _ _ _ (by omega), ?_⟩
      repeat (first | refine AWP.go ok _ _ _ _ _ rfl ?_ | refine ord_mk (by kernel_rfl) ?_ | refine And.intro (by first | omega | (unfold inI; omega) | (dsimp only; omega)) ?_)
      refine ⟨_, map_get _ _ _ (by omega), ?_⟩
      repeat (first | refine AWP.go ok _ _ _ _ _ rfl ?_ | refine ord_mk (by kernel_rfl) ?_ | refine And.intro (by first | omega | (unfold inI; omega) | (dsimp only; omega)) ?_)
      refine vcIf_ndec (fun h => ?_) (fun h => ?_)
      · repeat (first | refine AWP.go ok _ _ _ _ _ rfl ?_ | refine ord_mk (by kernel_rfl) ?_ | refine And.intro (by first | omega | (unfold inI; omega) | (dsimp only; omega)) ?_)
        have hne : a ≠ b := by rintro rfl; exact h rfl
        rw [decide_eq_false hne]
        exact ⟨[], by decide, rfl, rfl, ACle.of_eq rfl, trivial⟩
      · repeat (first | refine AWP.go ok _ _ _ _ _ rfl ?_ | refine ord_mk (by kernel_rfl) ?_ | refine And.intro (by first | omega | (unfold inI; omega) | (dsimp only; omega)) ?_)
        refine ⟨k + 1, [], ⟨by omega, ?_⟩, by omega, rfl, by decide, rfl, ⟨⟨rfl, rfl⟩, ⟨rfl, rfl⟩, ⟨rfl, rfl⟩, trivial⟩, trivial⟩
        have h' : a[k] = b[k] := h
        rw [List.take_succ_eq_append_getElem hka, List.take_succ_eq_append_getElem (by omega), hk.2, h']
    · repeat (first | refine AWP.go ok _ _ _ _ _ rfl ?_ | refine ord_mk (by kernel_rfl) ?_ | refine And.intro (by first | omega | (unfold inI; omega) | (dsimp only; omega)) ?_)
      have he : a = b := by
        have := hk.2
        rwa [List.take_of_length_le (by omega), List.take_of_length_le (by omega)] at this
      rw [decide_eq_true he]
      exact ⟨[], by decide, rfl, rfl, ACle.of_eq rfl, trivial⟩
end
attribute [local irreducible] vcCall AWP RetOk Again ordOk

theorem keepI {f : FuncId} {args : List AC} {n : Nat} {l : List Int} (h : CallsA Tryz.prog f args [] (.sref 0 0 n) [.cells 1 (l.map enI)]) (hl : l.length = n) : CallsA Tryz.prog f args [] (ints l) [] := by
  subst hl
  exact h.keep (enc_unown1 _ _) (by simp)

theorem grouped1_ok (c : List Int) (n : Nat) (hn : n ≤ 1048576) (same : Nat → Nat → Bool) (f : FuncId) (hf : ∀ i k : Nat, k < i → i < n → CallsA Tryz.prog f [.int i, .int k, .pt [ints c]] [] (.bool (same i k)) []) : CallsA Tryz.prog 190 [.int n, .fn (.func f) [] [.pt [ints c]]] [] (.sref 0 0 n) [.cells 1 ((numF same n).1.map enI)] := by
  have hlen := numF_len same n
  have hfl : ∀ i, Flat (((numF same n).1.take i).map enI ++ List.replicate ((numF same n).1.length - i) [AC.int 0]) := fun i => flat_append (flat_map fun _ => rfl) (flat_replicate rfl)
  refine callsA_of tabOk Tryz.func190 rfl rfl 46 Tryz.ntmps190 (by simp) ?_
  repeat' (first | (apply AWP.go ok; rfl; conv => whnf) | (apply ord_mk; kernel_rfl; conv => whnf) | (apply And.intro; (first | omega | (unfold inI; omega) | (dsimp only; omega) | (unfold bitsOk; omega) | ((try dsimp only); simp only [List.length_map, List.length_take, List.length_append, List.length_replicate, List.length_cons, List.length_nil]; omega) | (simp only [btw_iff] at *; first | omega | (unfold inI; omega) | (unfold bitsOk; omega)) | exact stor_map (fun _ => rfl) | exact ⟨rfl, stor_cons rfl stor_nil⟩ | exact ⟨rfl, stor_map (fun _ => rfl) _⟩ | exact ⟨⟨rfl, by omega⟩, stor_map (fun _ => rfl) _⟩); conv => whnf) | (with_reducible apply get_mapN; omega; intro _; conv => whnf) | (with_reducible apply get_mapI; omega; intro _; conv => whnf) | (apply get_mapN; omega; intro _; conv => whnf) | (apply get_fill; omega; conv => whnf) | (apply ex_some; conv => whnf) | (apply get_map; omega; intro _; conv => whnf) | (apply vcG_dec <;> intro _ <;> conv => whnf) | (apply vcG_ndec <;> intro _ <;> conv => whnf) | (apply vcG_not <;> intro _ <;> conv => whnf) | (apply vcG_mk <;> intro _ <;> conv => whnf) | (apply vcIf_dec <;> intro _ <;> conv => whnf) | (apply vcIf_ndec <;> intro _ <;> conv => whnf) | (apply vcIf_not <;> intro _ <;> conv => whnf) | (apply vcIf_mk <;> intro _ <;> conv => whnf))
  refine loopA (fun i : Nat => ([(1, .fn (.func f) [] [.pt [ints c]]), (5, .sref 0 0 n), (6, .int ((numF same i).2 : Int)), (12, .int n), (13, .int i)], [.cells 1 (((numF same n).1.take i).map enI ++ List.replicate ((numF same n).1.length - i) [AC.int 0])])) (fun i => i ≤ n) (fun i => n - i) 0 (by omega) ⟨[0], rfl, by decide, rfl, ⟨⟨rfl, rfl⟩, ⟨rfl, rfl⟩, ⟨rfl, rfl⟩, ⟨rfl, rfl⟩, ⟨rfl, rfl⟩, trivial⟩, ⟨obj_flat (cells_congr (by rw [hlen]; rfl)) (hfl 0), trivial⟩⟩ ?_
  intro i hi
  by_cases hin : i < n
  · have hc := (numF_lt same i).2
    have hF : i < (((numF same n).1.take i).map enI ++ List.replicate ((numF same n).1.length - i) [AC.int 0]).length := by rw [fill_len (by omega)]; omega
    repeat' (first | (apply AWP.go ok; rfl; conv => whnf) | (apply ord_mk; kernel_rfl; conv => whnf) | (apply And.intro; (first | omega | (unfold inI; omega) | (dsimp only; omega) | (unfold bitsOk; omega) | ((try dsimp only); simp only [List.length_map, List.length_take, List.length_append, List.length_replicate, List.length_cons, List.length_nil]; omega) | (simp only [btw_iff] at *; first | omega | (unfold inI; omega) | (unfold bitsOk; omega)) | exact stor_map (fun _ => rfl) | exact ⟨rfl, stor_cons rfl stor_nil⟩ | exact ⟨rfl, stor_map (fun _ => rfl) _⟩ | exact ⟨⟨rfl, by omega⟩, stor_map (fun _ => rfl) _⟩); conv => whnf) | (with_reducible apply get_mapN; omega; intro _; conv => whnf) | (with_reducible apply get_mapI; omega; intro _; conv => whnf) | (apply get_mapN; omega; intro _; conv => whnf) | (apply get_fill; omega; conv => whnf) | (apply ex_some; conv => whnf) | (apply get_map; omega; intro _; conv => whnf) | (apply vcG_dec <;> intro _ <;> conv => whnf) | (apply vcG_ndec <;> intro _ <;> conv => whnf) | (apply vcG_not <;> intro _ <;> conv => whnf) | (apply vcG_mk <;> intro _ <;> conv => whnf) | (apply vcIf_dec <;> intro _ <;> conv => whnf) | (apply vcIf_ndec <;> intro _ <;> conv => whnf) | (apply vcIf_not <;> intro _ <;> conv => whnf) | (apply vcIf_mk <;> intro _ <;> conv => whnf))
    all_goals first | (exfalso; omega) | skip
    refine loopA (fun k : Nat => ([(1, .fn (.func f) [] [.pt [ints c]]), (5, .sref 0 0 n), (6, .int ((numF same i).2 : Int)), (12, .int n), (13, .int i), (7, .int i), (20, .int i), (21, .int k)], [.cells 1 ((((numF same n).1.take i).map enI ++ List.replicate ((numF same n).1.length - i) [AC.int 0]).set i [AC.int ((numF same i).2 : Int)])])) (fun k => k ≤ i ∧ ∀ j, j < k → same i j = false) (fun k => i - k) 0 ⟨by omega, fun j hj => by omega⟩ ⟨[0], rfl, by decide, rfl, ⟨⟨rfl, rfl⟩, ⟨rfl, rfl⟩, ⟨rfl, rfl⟩, ⟨rfl, rfl⟩, ⟨rfl, rfl⟩, ⟨rfl, rfl⟩, ⟨rfl, rfl⟩, ⟨rfl, rfl⟩, trivial⟩, ⟨obj_flat rfl (flat_set (hfl i) rfl), trivial⟩⟩ ?_
    rintro k ⟨hk1, hk2⟩
    generalize hFF : (((numF same n).1.take i).map enI ++ List.replicate ((numF same n).1.length - i) [AC.int 0]) = F at hF
    by_cases hki : k < i
    · have hg : (F.set i [AC.int ((numF same i).2 : Int)])[k]? = some (enI ((numF same n).1[k]'(by omega))) := by rw [← hFF]; exact fill_got hki (by omega)
      have hlt := numF_lt' (same := same) (n := n) hi hki
      repeat' (first | (apply AWP.go ok; rfl; conv => whnf) | (apply ord_mk; kernel_rfl; conv => whnf) | (apply And.intro; (first | omega | (unfold inI; omega) | (dsimp only; omega) | (unfold bitsOk; omega) | ((try dsimp only); simp only [List.length_map, List.length_take, List.length_append, List.length_replicate, List.length_cons, List.length_nil]; omega) | (simp only [btw_iff] at *; first | omega | (unfold inI; omega) | (unfold bitsOk; omega)) | exact stor_map (fun _ => rfl) | exact ⟨rfl, stor_cons rfl stor_nil⟩ | exact ⟨rfl, stor_map (fun _ => rfl) _⟩ | exact ⟨⟨rfl, by omega⟩, stor_map (fun _ => rfl) _⟩); conv => whnf) | (with_reducible apply get_mapN; omega; intro _; conv => whnf) | (with_reducible apply get_mapI; omega; intro _; conv => whnf) | (apply get_mapN; omega; intro _; conv => whnf) | (apply get_fill; omega; conv => whnf) | (apply ex_some; conv => whnf) | (apply get_map; omega; intro _; conv => whnf) | (apply vcG_dec <;> intro _ <;> conv => whnf) | (apply vcG_ndec <;> intro _ <;> conv => whnf) | (apply vcG_not <;> intro _ <;> conv => whnf) | (apply vcG_mk <;> intro _ <;> conv => whnf) | (apply vcIf_dec <;> intro _ <;> conv => whnf) | (apply vcIf_ndec <;> intro _ <;> conv => whnf) | (apply vcIf_not <;> intro _ <;> conv => whnf) | (apply vcIf_mk <;> intro _ <;> conv => whnf) | (apply call_data (hf i k hki hin); rfl; rfl; conv => whnf) | (apply get_eq; (exact Int.toNat_natCast k); exact hg; conv => whnf) | (apply get_set; (exact Int.toNat_natCast i); (first | exact hF | (rw [List.length_set]; exact hF)); conv => whnf))
      all_goals first | (exfalso; omega) | skip
      · rename_i hs
        obtain ⟨h3, h4⟩ := numF_found hin hki (by assumption) hk2
        exact again (i + 1) [0] (by omega) (by omega) ⟨rfl, by decide, rfl, ⟨⟨rfl, rfl⟩, ⟨rfl, rfl⟩, ⟨rfl, env_int (by rw [h4])⟩, ⟨rfl, rfl⟩, ⟨rfl, rfl⟩, trivial⟩, ⟨obj_flat (cells_congr (by rw [← hFF]; exact fill_set2 (by omega) rfl (by rw [h3]; rfl))) (hfl _), trivial⟩⟩
      · refine again (k + 1) [0] ⟨by omega, fun j hj => ?_⟩ (by omega) ⟨rfl, by decide, rfl, ⟨⟨rfl, rfl⟩, ⟨rfl, rfl⟩, ⟨rfl, rfl⟩, ⟨rfl, rfl⟩, ⟨rfl, rfl⟩, ⟨rfl, rfl⟩, ⟨rfl, rfl⟩, ⟨rfl, rfl⟩, trivial⟩, ⟨obj_flat rfl (flat_set (hFF ▸ hfl i) rfl), trivial⟩⟩
        rcases Nat.lt_or_ge j k with h3 | h3
        · exact hk2 j h3
        · obtain rfl : j = k := by omega
          assumption
    · obtain rfl : k = i := by omega
      obtain ⟨h3, h4⟩ := numF_none hin hk2
      repeat' (first | (apply AWP.go ok; rfl; conv => whnf) | (apply ord_mk; kernel_rfl; conv => whnf) | (apply And.intro; (first | omega | (unfold inI; omega) | (dsimp only; omega) | (unfold bitsOk; omega) | ((try dsimp only); simp only [List.length_map, List.length_take, List.length_append, List.length_replicate, List.length_cons, List.length_nil]; omega) | (simp only [btw_iff] at *; first | omega | (unfold inI; omega) | (unfold bitsOk; omega)) | exact stor_map (fun _ => rfl) | exact ⟨rfl, stor_cons rfl stor_nil⟩ | exact ⟨rfl, stor_map (fun _ => rfl) _⟩ | exact ⟨⟨rfl, by omega⟩, stor_map (fun _ => rfl) _⟩); conv => whnf) | (with_reducible apply get_mapN; omega; intro _; conv => whnf) | (with_reducible apply get_mapI; omega; intro _; conv => whnf) | (apply get_mapN; omega; intro _; conv => whnf) | (apply get_fill; omega; conv => whnf) | (apply ex_some; conv => whnf) | (apply get_map; omega; intro _; conv => whnf) | (apply vcG_dec <;> intro _ <;> conv => whnf) | (apply vcG_ndec <;> intro _ <;> conv => whnf) | (apply vcG_not <;> intro _ <;> conv => whnf) | (apply vcG_mk <;> intro _ <;> conv => whnf) | (apply vcIf_dec <;> intro _ <;> conv => whnf) | (apply vcIf_ndec <;> intro _ <;> conv => whnf) | (apply vcIf_not <;> intro _ <;> conv => whnf) | (apply vcIf_mk <;> intro _ <;> conv => whnf) | (apply get_set; (exact Int.toNat_natCast k); exact hF; conv => whnf))
      all_goals first | (exfalso; omega) | skip
      exact again (k + 1) [0] (by omega) (by omega) ⟨rfl, by decide, rfl, ⟨⟨rfl, rfl⟩, ⟨rfl, rfl⟩, ⟨rfl, env_int (by rw [h4]; simp)⟩, ⟨rfl, rfl⟩, ⟨rfl, rfl⟩, trivial⟩, ⟨obj_flat (cells_congr (by rw [← hFF, ← fill_set (f := enI) _ _ _ (by omega), h3]; rfl)) (hfl _), trivial⟩⟩
  · repeat' (first | (apply AWP.go ok; rfl; conv => whnf) | (apply ord_mk; kernel_rfl; conv => whnf) | (apply And.intro; (first | omega | (unfold inI; omega) | (dsimp only; omega) | (unfold bitsOk; omega) | ((try dsimp only); simp only [List.length_map, List.length_take, List.length_append, List.length_replicate, List.length_cons, List.length_nil]; omega) | (simp only [btw_iff] at *; first | omega | (unfold inI; omega) | (unfold bitsOk; omega)) | exact stor_map (fun _ => rfl) | exact ⟨rfl, stor_cons rfl stor_nil⟩ | exact ⟨rfl, stor_map (fun _ => rfl) _⟩ | exact ⟨⟨rfl, by omega⟩, stor_map (fun _ => rfl) _⟩); conv => whnf) | (with_reducible apply get_mapN; omega; intro _; conv => whnf) | (with_reducible apply get_mapI; omega; intro _; conv => whnf) | (apply get_mapN; omega; intro _; conv => whnf) | (apply get_fill; omega; conv => whnf) | (apply ex_some; conv => whnf) | (apply get_map; omega; intro _; conv => whnf) | (apply vcG_dec <;> intro _ <;> conv => whnf) | (apply vcG_ndec <;> intro _ <;> conv => whnf) | (apply vcG_not <;> intro _ <;> conv => whnf) | (apply vcG_mk <;> intro _ <;> conv => whnf) | (apply vcIf_dec <;> intro _ <;> conv => whnf) | (apply vcIf_ndec <;> intro _ <;> conv => whnf) | (apply vcIf_not <;> intro _ <;> conv => whnf) | (apply vcIf_mk <;> intro _ <;> conv => whnf))
    all_goals first | (exfalso; omega) | skip
    obtain rfl : i = n := by omega
    exact ret_new rfl (flat_map fun _ => rfl) rfl (by rw [List.take_of_length_le (by omega), hlen, Nat.sub_self]; simp)

def sameL (l : List Int) (i k : Nat) : Bool := decide (l.getD i 0 = l.getD k 0)
theorem labelBlocks1_ok (l : List Int) (i k : Nat) (hk : k < i) (hi : i < l.length) : CallsA Tryz.prog 223 [.int i, .int k, .pt [ints l]] [] (.bool (sameL l i k)) [] := by
  refine callsA_of tabOk Tryz.func223 rfl rfl 15 Tryz.ntmps223 (by simp) ?_
  repeat' (first | (apply AWP.go ok; rfl; conv => whnf) | (apply ord_mk; kernel_rfl; conv => whnf) | (apply And.intro; (first | omega | (unfold inI; omega) | (dsimp only; omega) | (unfold bitsOk; omega) | ((try dsimp only); simp only [List.length_map, List.length_take, List.length_append, List.length_replicate, List.length_cons, List.length_nil]; omega) | (simp only [btw_iff] at *; first | omega | (unfold inI; omega) | (unfold bitsOk; omega)) | exact stor_map (fun _ => rfl) | exact ⟨rfl, stor_cons rfl stor_nil⟩ | exact ⟨rfl, stor_map (fun _ => rfl) _⟩ | exact ⟨⟨rfl, by omega⟩, stor_map (fun _ => rfl) _⟩); conv => whnf) | (with_reducible apply get_mapN; omega; intro _; conv => whnf) | (with_reducible apply get_mapI; omega; intro _; conv => whnf) | (apply get_mapN; omega; intro _; conv => whnf) | (apply get_fill; omega; conv => whnf) | (apply ex_some; conv => whnf) | (apply get_map; omega; intro _; conv => whnf) | (apply vcG_dec <;> intro _ <;> conv => whnf) | (apply vcG_ndec <;> intro _ <;> conv => whnf) | (apply vcG_not <;> intro _ <;> conv => whnf) | (apply vcG_mk <;> intro _ <;> conv => whnf) | (apply vcIf_dec <;> intro _ <;> conv => whnf) | (apply vcIf_ndec <;> intro _ <;> conv => whnf) | (apply vcIf_not <;> intro _ <;> conv => whnf) | (apply vcIf_mk <;> intro _ <;> conv => whnf))
  exact ret_bool rfl (by unfold sameL; rw [getD_at hi, getD_at (by omega)])

theorem labelBlocks_new (g : Graph) (hg : ∀ s ∈ g.st, ValsOk s.b) (hn : g.st.length ≤ 60) (l : List Tree) (hl : LabelsOk l) : CallsA Tryz.prog 192 [.agg g.cs, lst 3 Tree.cs' l] [] (.sref 0 0 g.st.length) [.cells 1 ((numF (sameL (g.st.map (letterZ l))) g.st.length).1.map enI)] := by
  have c1 := grouped1_ok (g.st.map (letterZ l)) g.st.length (by omega) (sameL (g.st.map (letterZ l))) 223 (fun i k hk hi => labelBlocks1_ok _ i k hk (by simpa using hi))
  have c0 := label_ok g hg hn l hl
  have e : ints (g.st.map (letterZ l)) = .list 1 g.st.length ((g.st.map (letterZ l)).map enI) := by unfold ints; rw [List.length_map]
  rw [e] at c0 c1
  refine callsA_of tabOk Tryz.func192 rfl rfl 13 Tryz.ntmps192 (by simp) ?_
  repeat' (first | (apply AWP.go ok; rfl; conv => whnf) | (apply ord_mk; kernel_rfl; conv => whnf) | (apply And.intro; (first | omega | (unfold inI; omega) | (dsimp only; omega) | (unfold bitsOk; omega) | ((try dsimp only); simp only [List.length_map, List.length_take, List.length_append, List.length_replicate, List.length_cons, List.length_nil]; omega) | (simp only [btw_iff] at *; first | omega | (unfold inI; omega) | (unfold bitsOk; omega)) | exact stor_map (fun _ => rfl) | exact ⟨rfl, stor_cons rfl stor_nil⟩ | exact ⟨rfl, stor_map (fun _ => rfl) _⟩ | exact ⟨⟨rfl, by omega⟩, stor_map (fun _ => rfl) _⟩); conv => whnf) | (with_reducible apply get_mapN; omega; intro _; conv => whnf) | (with_reducible apply get_mapI; omega; intro _; conv => whnf) | (apply get_mapN; omega; intro _; conv => whnf) | (apply get_fill; omega; conv => whnf) | (apply ex_some; conv => whnf) | (apply get_map; omega; intro _; conv => whnf) | (apply vcG_dec <;> intro _ <;> conv => whnf) | (apply vcG_ndec <;> intro _ <;> conv => whnf) | (apply vcG_not <;> intro _ <;> conv => whnf) | (apply vcG_mk <;> intro _ <;> conv => whnf) | (apply vcIf_dec <;> intro _ <;> conv => whnf) | (apply vcIf_ndec <;> intro _ <;> conv => whnf) | (apply vcIf_not <;> intro _ <;> conv => whnf) | (apply vcIf_mk <;> intro _ <;> conv => whnf) | (apply call_data (c0); rfl; rfl; conv => whnf) | (apply call_gen [] [1] [2] (c1); rfl; (focus ((repeat' (first | exact passOk_nil | apply passOk_cons)) <;> (first | rfl | (refine pass_flat rfl ?_; (first | exact flat_nil | exact flat_replicate rfl | exact flat_map (fun _ => rfl) | exact flat_map Tree.co_flat | (apply flat_append <;> (first | exact flat_replicate rfl | exact flat_map (fun _ => rfl))) | assumption))))); rfl; rfl; rfl; rfl; rfl; (focus ((repeat' (first | exact rens_nil | apply rens_cons)) <;> (first | exact ren_dead | exact ren_box rfl rfl | (refine ren_flat ?_; (first | exact flat_nil | exact flat_replicate rfl | exact flat_map (fun _ => rfl) | exact flat_map Tree.co_flat | (apply flat_append <;> (first | exact flat_replicate rfl | exact flat_map (fun _ => rfl))) | assumption))))); (first | exact .inl rfl | (refine .inr ⟨rfl, ?_⟩; repeat' (first | exact True.intro | apply And.intro | exact rfl | exact plainLL_map (fun _ => rfl) _))); conv => whnf))
  exact ret_new rfl (flat_map fun _ => rfl) rfl rfl
end Go.Proofs.YtcmihlbihppflaaGreat

namespace Go.Proofs.YtcmihlbihppflaaGreat
open Go.Gl
attribute [local irreducible] vcCall AWP RetOk Again ordOk

theorem bor_ints {objs : Nat → AObj} {π Bn : List Nat} {o : Nat} {l : List Int} (ho : objs o = .cells 1 (l.map enI)) (h1 : idx π o = none) (h2 : inB Bn o = true) : bor objs π Bn (.sref o 0 l.length) = ints l :=
  bor_list ho h1 h2 (by simp) (enc_unown1 _ _)
theorem bor_intsN {objs : Nat → AObj} {π Bn : List Nat} {o n : Nat} {l : List Int} (ho : objs o = .cells 1 (l.map enI)) (h1 : idx π o = none) (h2 : inB Bn o = true) (hl : l.length = n) : bor objs π Bn (.sref o 0 n) = ints l := by
  subst hl; exact bor_ints ho h1 h2
theorem bor_rows {objs : Nat → AObj} {π Bn : List Nat} {o n : Nat} {l : List (List Int)} (ho : objs o = .cells 1 (l.map ownRow)) (h1 : idx π o = none) (h2 : inB Bn o = true) (hl : l.length = n) : bor objs π Bn (.sref o 0 n) = lst 1 encL l := by
  subst hl; exact bor_list ho h1 h2 (by simp) (rows_unown l)
theorem bor_states {objs : Nat → AObj} {π Bn : List Nat} {o : Nat} {l : List State} (ho : objs o = .cells 2 (l.map State.co)) (h1 : idx π o = none) (h2 : inB Bn o = true) : bor objs π Bn (.sref o 0 l.length) = lst 2 State.cs l := by
  refine bor_list ho h1 h2 (by simp) ?_
  rw [unownLL_eq, List.map_map]
  refine List.map_congr_left fun s _ => ?_
  show [AC.list 1 _ (unownLL _), AC.list 1 _ (unownLL _)] = _
  have e : ∀ l : List Int, unownLL (l.map enI) = l.map enI := fun l => enc_unown1 (fun n => Value.int .i64 n) l
  rw [e, e]
  simp [State.cs, ints]
theorem bor_exprS {objs : Nat → AObj} {π Bn : List Nat} {o : Nat} {l : List Tree} (ho : objs o = .cells 3 (l.map Tree.co')) (h1 : idx π o = none) (h2 : inB Bn o = true) : bor objs π Bn (.sref o 0 l.length) = lst 3 Tree.cs' l :=
  bor_list ho h1 h2 (by simp) (Tree.unownLL_co l)
theorem bor_graph {objs : Nat → AObj} {π Bn : List Nat} {o1 o2 : Nat} {g : Graph} (h1 : objs o1 = .cells 2 (g.st.map State.co)) (h2 : objs o2 = .cells 1 (g.nx.map ownRow)) (h3 : idx π o1 = none) (h4 : inB Bn o1 = true) (h5 : idx π o2 = none) (h6 : inB Bn o2 = true) :
    bor objs π Bn (.agg [.sref o1 0 g.st.length, .sref o2 0 g.nx.length]) = .agg g.cs :=
  bor_agg (bor_cons (bor_states h1 h3 h4) (bor_cons (bor_rows h2 h5 h6 rfl) bor_nil))

def sameK (keys : List (List Int)) (i k : Nat) : Bool := decide (keys.getD k [] = keys.getD i [])

theorem l10Number_of (keys : List (List Int)) (hk : keys.length ≤ 1048576) (same : Nat → Nat → Bool) (hl2 : ∀ i k (hi : i < keys.length) (hk : k < i), CallsA Tryz.prog 112 [ints keys[k], ints keys[i]] [] (.bool (same i k)) []) : CallsA Tryz.prog 185 [lst 1 encL keys] [] (.sref 0 0 keys.length) [.cells 1 ((numF same keys.length).1.map enI)] := by
  have hlen := numF_len same keys.length
  refine callsA_of tabOk Tryz.func185 rfl rfl 47 Tryz.ntmps185 (by simp) ?_
  repeat' (first | (apply AWP.go ok; rfl; conv => whnf) | (apply ord_mk; kernel_rfl; conv => whnf) | (apply And.intro; (first | omega | (unfold inI; omega) | (dsimp only; omega) | (unfold bitsOk; omega) | ((try dsimp only); simp only [List.length_map, List.length_take, List.length_append, List.length_replicate, List.length_cons, List.length_nil]; omega) | (simp only [btw_iff] at *; first | omega | (unfold inI; omega) | (unfold bitsOk; omega)) | exact stor_map (fun _ => rfl) | exact ⟨rfl, stor_cons rfl stor_nil⟩ | exact ⟨rfl, stor_map (fun _ => rfl) _⟩ | exact ⟨⟨rfl, by omega⟩, stor_map (fun _ => rfl) _⟩); conv => whnf) | (with_reducible apply get_mapN; omega; intro _; conv => whnf) | (with_reducible apply get_mapI; omega; intro _; conv => whnf) | (apply get_mapN; omega; intro _; conv => whnf) | (apply get_fill; omega; conv => whnf) | (apply ex_some; conv => whnf) | (apply get_map; omega; intro _; conv => whnf) | (apply vcG_dec <;> intro _ <;> conv => whnf) | (apply vcG_ndec <;> intro _ <;> conv => whnf) | (apply vcG_not <;> intro _ <;> conv => whnf) | (apply vcG_mk <;> intro _ <;> conv => whnf) | (apply vcIf_dec <;> intro _ <;> conv => whnf) | (apply vcIf_ndec <;> intro _ <;> conv => whnf) | (apply vcIf_not <;> intro _ <;> conv => whnf) | (apply vcIf_mk <;> intro _ <;> conv => whnf))
  refine loopA (fun i : Nat => ([(0, lst 1 encL keys), (3, .sref 0 0 i), (4, .int ((numF same i).2 : Int)), (5, .int i)], [.cells 1 (((numF same keys.length).1.take i).map enI)])) (fun i => i ≤ keys.length) (fun i => keys.length - i) 0 (by omega) ⟨[0], rfl, by decide, rfl, ⟨⟨rfl, rfl⟩, ⟨rfl, rfl⟩, ⟨rfl, rfl⟩, ⟨rfl, rfl⟩, trivial⟩, ⟨obj_flat rfl (flat_map fun _ => rfl), trivial⟩⟩ ?_
  intro i hi
  by_cases hin : i < keys.length
  · have hc := (numF_lt same i).2
    repeat' (first | (apply AWP.go ok; rfl; conv => whnf) | (apply ord_mk; kernel_rfl; conv => whnf) | (apply And.intro; (first | omega | (unfold inI; omega) | (dsimp only; omega) | (unfold bitsOk; omega) | ((try dsimp only); simp only [List.length_map, List.length_take, List.length_append, List.length_replicate, List.length_cons, List.length_nil]; omega) | (simp only [btw_iff] at *; first | omega | (unfold inI; omega) | (unfold bitsOk; omega)) | exact stor_map (fun _ => rfl) | exact ⟨rfl, stor_cons rfl stor_nil⟩ | exact ⟨rfl, stor_map (fun _ => rfl) _⟩ | exact ⟨⟨rfl, by omega⟩, stor_map (fun _ => rfl) _⟩); conv => whnf) | (with_reducible apply get_mapN; omega; intro _; conv => whnf) | (with_reducible apply get_mapI; omega; intro _; conv => whnf) | (apply get_mapN; omega; intro _; conv => whnf) | (apply get_fill; omega; conv => whnf) | (apply ex_some; conv => whnf) | (apply get_map; omega; intro _; conv => whnf) | (apply vcG_dec <;> intro _ <;> conv => whnf) | (apply vcG_ndec <;> intro _ <;> conv => whnf) | (apply vcG_not <;> intro _ <;> conv => whnf) | (apply vcG_mk <;> intro _ <;> conv => whnf) | (apply vcIf_dec <;> intro _ <;> conv => whnf) | (apply vcIf_ndec <;> intro _ <;> conv => whnf) | (apply vcIf_not <;> intro _ <;> conv => whnf) | (apply vcIf_mk <;> intro _ <;> conv => whnf))
    · refine loopA (fun x : Nat × Int => ([(0, lst 1 encL keys), (3, .sref 0 0 i), (4, .int ((numF same i).2 : Int)), (5, .int i), (6, .int x.2), (7, .int x.1)], [.cells 1 (((numF same keys.length).1.take i).map enI)])) (fun x => x.1 ≤ i ∧ ((x.2 = -1 ∧ ∀ j, j < x.1 → same i j = false) ∨ (∃ k', ∃ hk : k' < (numF same keys.length).1.length, x.1 = k' + 1 ∧ k' < i ∧ same i k' = true ∧ (∀ j, j < k' → same i j = false) ∧ x.2 = (numF same keys.length).1[k']))) (fun x => i - x.1) (0, -1) ⟨by omega, .inl ⟨rfl, fun j hj => by omega⟩⟩ ⟨[0], rfl, by decide, rfl, ⟨⟨rfl, rfl⟩, ⟨rfl, rfl⟩, ⟨rfl, rfl⟩, ⟨rfl, rfl⟩, ⟨rfl, rfl⟩, ⟨rfl, rfl⟩, trivial⟩, ⟨obj_flat rfl (flat_map fun _ => rfl), trivial⟩⟩ ?_
      rintro ⟨k, b⟩ ⟨hk1, ⟨rfl, hk2⟩ | ⟨k', hk', rfl, hk3, hk4, hk5, rfl⟩⟩
      · dsimp only at hk1 hk2 ⊢
        by_cases hki : k < i
        · have hg : (((numF same keys.length).1.take i).map enI)[k]? = some (enI ((numF same keys.length).1[k]'(by omega))) := take_got hki (by omega)
          repeat' (first | (apply AWP.go ok; rfl; conv => whnf) | (apply ord_mk; kernel_rfl; conv => whnf) | (apply And.intro; (first | omega | (unfold inI; omega) | (dsimp only; omega) | (unfold bitsOk; omega) | ((try dsimp only); simp only [List.length_map, List.length_take, List.length_append, List.length_replicate, List.length_cons, List.length_nil]; omega) | (simp only [btw_iff] at *; first | omega | (unfold inI; omega) | (unfold bitsOk; omega)) | exact stor_map (fun _ => rfl) | exact ⟨rfl, stor_cons rfl stor_nil⟩ | exact ⟨rfl, stor_map (fun _ => rfl) _⟩ | exact ⟨⟨rfl, by omega⟩, stor_map (fun _ => rfl) _⟩); conv => whnf) | (with_reducible apply get_mapN; omega; intro _; conv => whnf) | (with_reducible apply get_mapI; omega; intro _; conv => whnf) | (apply get_mapN; omega; intro _; conv => whnf) | (apply get_fill; omega; conv => whnf) | (apply ex_some; conv => whnf) | (apply get_map; omega; intro _; conv => whnf) | (apply vcG_dec <;> intro _ <;> conv => whnf) | (apply vcG_ndec <;> intro _ <;> conv => whnf) | (apply vcG_not <;> intro _ <;> conv => whnf) | (apply vcG_mk <;> intro _ <;> conv => whnf) | (apply vcIf_dec <;> intro _ <;> conv => whnf) | (apply vcIf_ndec <;> intro _ <;> conv => whnf) | (apply vcIf_not <;> intro _ <;> conv => whnf) | (apply vcIf_mk <;> intro _ <;> conv => whnf) | (apply call_data (hl2 i k hin hki); rfl; rfl; conv => whnf) | (apply get_eq; (exact Int.toNat_natCast k); exact hg; conv => whnf))
          all_goals first | (exfalso; omega) | skip
          · exact again (k + 1, (numF same keys.length).1[k]'(by omega)) [0] ⟨by dsimp only; omega, .inr ⟨k, by omega, rfl, hki, by assumption, hk2, rfl⟩⟩ (by dsimp only; omega) ⟨rfl, by decide, rfl, ⟨⟨rfl, rfl⟩, ⟨rfl, rfl⟩, ⟨rfl, rfl⟩, ⟨rfl, rfl⟩, ⟨rfl, rfl⟩, ⟨rfl, rfl⟩, trivial⟩, ⟨obj_flat rfl (flat_map fun _ => rfl), trivial⟩⟩
          · refine again (k + 1, -1) [0] ⟨by dsimp only; omega, .inl ⟨rfl, fun j hj => ?_⟩⟩ (by dsimp only; omega) ⟨rfl, by decide, rfl, ⟨⟨rfl, rfl⟩, ⟨rfl, rfl⟩, ⟨rfl, rfl⟩, ⟨rfl, rfl⟩, ⟨rfl, rfl⟩, ⟨rfl, rfl⟩, trivial⟩, ⟨obj_flat rfl (flat_map fun _ => rfl), trivial⟩⟩
            dsimp only at hj
            rcases Nat.lt_or_ge j k with h3 | h3
            · exact hk2 j h3
            · obtain rfl : j = k := by omega
              assumption
        · obtain rfl : k = i := by omega
          obtain ⟨h3, h4⟩ := numF_none hin hk2
          repeat' (first | (apply AWP.go ok; rfl; conv => whnf) | (apply ord_mk; kernel_rfl; conv => whnf) | (apply And.intro; (first | omega | (unfold inI; omega) | (dsimp only; omega) | (unfold bitsOk; omega) | ((try dsimp only); simp only [List.length_map, List.length_take, List.length_append, List.length_replicate, List.length_cons, List.length_nil]; omega) | (simp only [btw_iff] at *; first | omega | (unfold inI; omega) | (unfold bitsOk; omega)) | exact stor_map (fun _ => rfl) | exact ⟨rfl, stor_cons rfl stor_nil⟩ | exact ⟨rfl, stor_map (fun _ => rfl) _⟩ | exact ⟨⟨rfl, by omega⟩, stor_map (fun _ => rfl) _⟩); conv => whnf) | (with_reducible apply get_mapN; omega; intro _; conv => whnf) | (with_reducible apply get_mapI; omega; intro _; conv => whnf) | (apply get_mapN; omega; intro _; conv => whnf) | (apply get_fill; omega; conv => whnf) | (apply ex_some; conv => whnf) | (apply get_map; omega; intro _; conv => whnf) | (apply vcG_dec <;> intro _ <;> conv => whnf) | (apply vcG_ndec <;> intro _ <;> conv => whnf) | (apply vcG_not <;> intro _ <;> conv => whnf) | (apply vcG_mk <;> intro _ <;> conv => whnf) | (apply vcIf_dec <;> intro _ <;> conv => whnf) | (apply vcIf_ndec <;> intro _ <;> conv => whnf) | (apply vcIf_not <;> intro _ <;> conv => whnf) | (apply vcIf_mk <;> intro _ <;> conv => whnf))
          all_goals first | (exfalso; omega) | skip
          exact again (k + 1) [2] (by omega) (by omega) ⟨rfl, by decide, rfl, ⟨⟨rfl, rfl⟩, ⟨rfl, rfl⟩, ⟨rfl, env_int (by rw [h4]; simp)⟩, ⟨rfl, rfl⟩, trivial⟩, ⟨obj_app (by omega) _ rfl rfl (by rw [h3]; rfl) (fun _ => rfl), trivial⟩⟩
      · obtain ⟨h3, h4⟩ := numF_found hin hk3 hk4 hk5
        have hlt := numF_lt' (same := same) (n := keys.length) hi hk3
        dsimp only
        generalize (numF same keys.length).1[k'] = b at h3 hlt
        repeat' (first | (apply AWP.go ok; rfl; conv => whnf) | (apply ord_mk; kernel_rfl; conv => whnf) | (apply And.intro; (first | omega | (unfold inI; omega) | (dsimp only; omega) | (unfold bitsOk; omega) | ((try dsimp only); simp only [List.length_map, List.length_take, List.length_append, List.length_replicate, List.length_cons, List.length_nil]; omega) | (simp only [btw_iff] at *; first | omega | (unfold inI; omega) | (unfold bitsOk; omega)) | exact stor_map (fun _ => rfl) | exact ⟨rfl, stor_cons rfl stor_nil⟩ | exact ⟨rfl, stor_map (fun _ => rfl) _⟩ | exact ⟨⟨rfl, by omega⟩, stor_map (fun _ => rfl) _⟩); conv => whnf) | (with_reducible apply get_mapN; omega; intro _; conv => whnf) | (with_reducible apply get_mapI; omega; intro _; conv => whnf) | (apply get_mapN; omega; intro _; conv => whnf) | (apply get_fill; omega; conv => whnf) | (apply ex_some; conv => whnf) | (apply get_map; omega; intro _; conv => whnf) | (apply vcG_dec <;> intro _ <;> conv => whnf) | (apply vcG_ndec <;> intro _ <;> conv => whnf) | (apply vcG_not <;> intro _ <;> conv => whnf) | (apply vcG_mk <;> intro _ <;> conv => whnf) | (apply vcIf_dec <;> intro _ <;> conv => whnf) | (apply vcIf_ndec <;> intro _ <;> conv => whnf) | (apply vcIf_not <;> intro _ <;> conv => whnf) | (apply vcIf_mk <;> intro _ <;> conv => whnf))
        all_goals first | (exfalso; omega) | skip
        all_goals exact again (i + 1) [2] (by omega) (by omega) ⟨rfl, by decide, rfl, ⟨⟨rfl, rfl⟩, ⟨rfl, rfl⟩, ⟨rfl, env_int (by rw [h4])⟩, ⟨rfl, rfl⟩, trivial⟩, ⟨obj_app (by omega) _ rfl rfl (by rw [h3]; rfl) (fun _ => rfl), trivial⟩⟩
    · omega
  · repeat' (first | (apply AWP.go ok; rfl; conv => whnf) | (apply ord_mk; kernel_rfl; conv => whnf) | (apply And.intro; (first | omega | (unfold inI; omega) | (dsimp only; omega) | (unfold bitsOk; omega) | ((try dsimp only); simp only [List.length_map, List.length_take, List.length_append, List.length_replicate, List.length_cons, List.length_nil]; omega) | (simp only [btw_iff] at *; first | omega | (unfold inI; omega) | (unfold bitsOk; omega)) | exact stor_map (fun _ => rfl) | exact ⟨rfl, stor_cons rfl stor_nil⟩ | exact ⟨rfl, stor_map (fun _ => rfl) _⟩ | exact ⟨⟨rfl, by omega⟩, stor_map (fun _ => rfl) _⟩); conv => whnf) | (with_reducible apply get_mapN; omega; intro _; conv => whnf) | (with_reducible apply get_mapI; omega; intro _; conv => whnf) | (apply get_mapN; omega; intro _; conv => whnf) | (apply get_fill; omega; conv => whnf) | (apply ex_some; conv => whnf) | (apply get_map; omega; intro _; conv => whnf) | (apply vcG_dec <;> intro _ <;> conv => whnf) | (apply vcG_ndec <;> intro _ <;> conv => whnf) | (apply vcG_not <;> intro _ <;> conv => whnf) | (apply vcG_mk <;> intro _ <;> conv => whnf) | (apply vcIf_dec <;> intro _ <;> conv => whnf) | (apply vcIf_ndec <;> intro _ <;> conv => whnf) | (apply vcIf_not <;> intro _ <;> conv => whnf) | (apply vcIf_mk <;> intro _ <;> conv => whnf))
    all_goals first | (exfalso; omega) | skip
    obtain rfl : i = keys.length := by omega
    exact ret_new rfl (flat_map fun _ => rfl) rfl (by rw [List.take_of_length_le (by omega)])

theorem l10Number_new (keys : List (List Int)) (hk : keys.length ≤ 1048576) (hm : ∀ r ∈ keys, r.length ≤ maxLen) : CallsA Tryz.prog 185 [lst 1 encL keys] [] (.sref 0 0 keys.length) [.cells 1 ((numF (sameK keys) keys.length).1.map enI)] :=
  l10Number_of keys hk (sameK keys) fun i k hi hk => by
    have e : sameK keys i k = decide (keys[k] = keys[i]) := by
      unfold sameK; rw [getD_at hi, getD_at (by omega)]
    rw [e]; exact l2Ints_ok _ _ (hm _ (List.getElem_mem _)) (hm _ (List.getElem_mem _))

/-- the program's and the reference's blocks -/
noncomputable def lblB (g : Graph) (l : List Tree) : List Int := if glB g l then (numF (sameL (g.st.map (letterZ l))) g.st.length).1 else []
theorem lblB_len (g : Graph) (l : List Tree) : (lblB g l).length ≤ g.st.length := by
  unfold lblB; split
  · rw [numF_len]; omega
  · simp
theorem tup_sref {x x' y : AC} (h : ACle x x') : ACle (.tup [x, y]) (.tup [x', y]) := fun G hh v hv => by
  simp only [V, VL] at hv ⊢
  obtain ⟨c, rfl, hs, ⟨u, h1, h2⟩, h3, _⟩ := hv
  exact ⟨c, rfl, hs, ⟨u, h1, h _ _ _ h2⟩, h3, trivial⟩

theorem specLabelBlocks_ok (g : Graph) (hg : g.mx) (l : List Tree) (hl : Lmx l) : CallsA Tryz.prog 118 [.agg g.cs, lst 3 Tree.cs' l] [] (.tup [ints (lblB g l), .bool (glB g l)]) [] := by
  have k1 := specLabelGraph_ok g hg l hl
  by_cases h : glB g l = true
  · have hG := (graphB_iff g).1 (by unfold glB at h; exact (Bool.and_eq_true_iff.1 h).1)
    have e : lblB g l = (numF (sameL (g.st.map (letterZ l))) g.st.length).1 := by unfold lblB; rw [if_pos h]
    rw [if_pos h, h] at k1
    have hlen : (g.st.map (letterZ l)).length ≤ 60 := by rw [List.length_map]; exact hG.1.2
    have e3 : numF (sameL (g.st.map (letterZ l))) g.st.length = numF (sameK ((g.st.map (letterZ l)).map fun x => [x])) ((g.st.map (letterZ l)).map fun x => [x]).length := by
      rw [List.length_map, List.length_map]
      refine numF_congr fun i k hk hi => ?_
      unfold sameL sameK
      have h1 : i < (g.st.map (letterZ l)).length := by rw [List.length_map]; exact hi
      rw [getD_at h1, getD_at (by omega), getD_at (by rw [List.length_map]; omega), getD_at (by rw [List.length_map]; omega), List.getElem_map, List.getElem_map]
      simp [eq_comm]
    rw [e3] at e
    have hb : lblB g l = (numF (sameK ((g.st.map (letterZ l)).map fun x => [x])) ((g.st.map (letterZ l)).map fun x => [x]).length).1 := e
    rw [hb, h]
    generalize g.st.map (letterZ l) = ls at *
    have k2 := l10Number_new (ls.map fun x => [x]) (by rw [List.length_map]; omega) (fun r hr => by
      obtain ⟨x, _, rfl⟩ := List.mem_map.1 hr
      simp [maxLen])
    rw [List.length_map] at k2 ⊢
    have key : CallsA Tryz.prog 118 [.agg g.cs, lst 3 Tree.cs' l] [] (.tup [.sref 0 0 ls.length, .bool true]) [.cells 1 ((numF (sameK (ls.map fun x => [x])) ls.length).1.map enI)] := by
      refine callsA_of tabOk Tryz.func118 rfl rfl 36 Tryz.ntmps118 (by simp) ?_
      repeat' (first | (apply AWP.go ok; rfl; conv => whnf) | (apply ord_mk; kernel_rfl; conv => whnf) | (apply And.intro; (first | omega | (unfold inI; omega) | (dsimp only; omega) | (unfold bitsOk; omega) | ((try dsimp only); simp only [List.length_map, List.length_take, List.length_append, List.length_replicate, List.length_cons, List.length_nil]; omega) | (simp only [btw_iff] at *; first | omega | (unfold inI; omega) | (unfold bitsOk; omega)) | exact stor_map (fun _ => rfl) | exact ⟨rfl, stor_cons rfl stor_nil⟩ | exact ⟨rfl, stor_map (fun _ => rfl) _⟩ | exact ⟨⟨rfl, by omega⟩, stor_map (fun _ => rfl) _⟩); conv => whnf) | (with_reducible apply get_mapN; omega; intro _; conv => whnf) | (with_reducible apply get_mapI; omega; intro _; conv => whnf) | (apply get_mapN; omega; intro _; conv => whnf) | (apply get_fill; omega; conv => whnf) | (apply ex_some; conv => whnf) | (apply get_map; omega; intro _; conv => whnf) | (apply vcG_dec <;> intro _ <;> conv => whnf) | (apply vcG_ndec <;> intro _ <;> conv => whnf) | (apply vcG_not <;> intro _ <;> conv => whnf) | (apply vcG_mk <;> intro _ <;> conv => whnf) | (apply vcIf_dec <;> intro _ <;> conv => whnf) | (apply vcIf_ndec <;> intro _ <;> conv => whnf) | (apply vcIf_not <;> intro _ <;> conv => whnf) | (apply vcIf_mk <;> intro _ <;> conv => whnf) | (apply call_data (k1); rfl; rfl; conv => whnf))
      refine loopA (fun i : Nat => ([(6, ints ls), (7, .bool true), (8, .sref 0 0 i), (9, .int i)], [.cells 1 ((ls.take i).map fun x => ownRow [x])])) (fun i => i ≤ ls.length) (fun i => ls.length - i) 0 (by omega) ⟨[1], rfl, by decide, rfl, ⟨⟨rfl, rfl⟩, ⟨rfl, rfl⟩, ⟨rfl, rfl⟩, ⟨rfl, rfl⟩, trivial⟩, ⟨obj_flat rfl (flat_map fun _ => rfl), trivial⟩⟩ ?_
      intro i hi
      by_cases hil : i < ls.length
      · repeat' (first | ((fail_if_success apply stopAt 7); (fail_if_success apply stopAtS 7); apply AWP.go ok; rfl; conv => whnf) | (apply ord_mk; kernel_rfl; conv => whnf) | (apply And.intro; (first | omega | (unfold inI; omega) | (dsimp only; omega) | (unfold bitsOk; omega) | ((try dsimp only); simp only [List.length_map, List.length_take, List.length_append, List.length_replicate, List.length_cons, List.length_nil]; omega) | (simp only [btw_iff] at *; first | omega | (unfold inI; omega) | (unfold bitsOk; omega)) | exact stor_map (fun _ => rfl) | exact ⟨rfl, stor_cons rfl stor_nil⟩ | exact ⟨rfl, stor_map (fun _ => rfl) _⟩ | exact ⟨⟨rfl, by omega⟩, stor_map (fun _ => rfl) _⟩); conv => whnf) | (with_reducible apply get_mapN; omega; intro _; conv => whnf) | (with_reducible apply get_mapI; omega; intro _; conv => whnf) | (apply get_mapN; omega; intro _; conv => whnf) | (apply get_fill; omega; conv => whnf) | (apply ex_some; conv => whnf) | (apply get_map; omega; intro _; conv => whnf) | (apply vcG_dec <;> intro _ <;> conv => whnf) | (apply vcG_ndec <;> intro _ <;> conv => whnf) | (apply vcG_not <;> intro _ <;> conv => whnf) | (apply vcG_mk <;> intro _ <;> conv => whnf) | (apply vcIf_dec <;> intro _ <;> conv => whnf) | (apply vcIf_ndec <;> intro _ <;> conv => whnf) | (apply vcIf_not <;> intro _ <;> conv => whnf) | (apply vcIf_mk <;> intro _ <;> conv => whnf))
        · refine AWP.reach (Gl.Reach.absorb 3 1 i 0 rfl (app_last (app_len hi rfl)) rfl rfl rfl rfl (flat_cons rfl flat_nil) rfl) ?_
          conv => whnf
          repeat' (first | (apply AWP.go ok; rfl; conv => whnf) | (apply ord_mk; kernel_rfl; conv => whnf) | (apply And.intro; (first | omega | (unfold inI; omega) | (dsimp only; omega) | (unfold bitsOk; omega) | ((try dsimp only); simp only [List.length_map, List.length_take, List.length_append, List.length_replicate, List.length_cons, List.length_nil]; omega) | (simp only [btw_iff] at *; first | omega | (unfold inI; omega) | (unfold bitsOk; omega)) | exact stor_map (fun _ => rfl) | exact ⟨rfl, stor_cons rfl stor_nil⟩ | exact ⟨rfl, stor_map (fun _ => rfl) _⟩ | exact ⟨⟨rfl, by omega⟩, stor_map (fun _ => rfl) _⟩); conv => whnf) | (with_reducible apply get_mapN; omega; intro _; conv => whnf) | (with_reducible apply get_mapI; omega; intro _; conv => whnf) | (apply get_mapN; omega; intro _; conv => whnf) | (apply get_fill; omega; conv => whnf) | (apply ex_some; conv => whnf) | (apply get_map; omega; intro _; conv => whnf) | (apply vcG_dec <;> intro _ <;> conv => whnf) | (apply vcG_ndec <;> intro _ <;> conv => whnf) | (apply vcG_not <;> intro _ <;> conv => whnf) | (apply vcG_mk <;> intro _ <;> conv => whnf) | (apply vcIf_dec <;> intro _ <;> conv => whnf) | (apply vcIf_ndec <;> intro _ <;> conv => whnf) | (apply vcIf_not <;> intro _ <;> conv => whnf) | (apply vcIf_mk <;> intro _ <;> conv => whnf))
          refine again (i + 1) [3] (by omega) (by omega) ⟨rfl, by decide, rfl, ⟨⟨rfl, rfl⟩, ⟨rfl, rfl⟩, ⟨rfl, rfl⟩, ⟨rfl, rfl⟩, trivial⟩, ⟨obj_flat (cells_congr (app_fin hil rfl rfl)) (flat_map fun _ => rfl), trivial⟩⟩
        · omega
      · obtain rfl : i = ls.length := by omega
        rw [List.take_length]
        repeat' (first | (apply AWP.go ok; rfl; conv => whnf) | (apply ord_mk; kernel_rfl; conv => whnf) | (apply And.intro; (first | omega | (unfold inI; omega) | (dsimp only; omega) | (unfold bitsOk; omega) | ((try dsimp only); simp only [List.length_map, List.length_take, List.length_append, List.length_replicate, List.length_cons, List.length_nil]; omega) | (simp only [btw_iff] at *; first | omega | (unfold inI; omega) | (unfold bitsOk; omega)) | exact stor_map (fun _ => rfl) | exact ⟨rfl, stor_cons rfl stor_nil⟩ | exact ⟨rfl, stor_map (fun _ => rfl) _⟩ | exact ⟨⟨rfl, by omega⟩, stor_map (fun _ => rfl) _⟩); conv => whnf) | (with_reducible apply get_mapN; omega; intro _; conv => whnf) | (with_reducible apply get_mapI; omega; intro _; conv => whnf) | (apply get_mapN; omega; intro _; conv => whnf) | (apply get_fill; omega; conv => whnf) | (apply ex_some; conv => whnf) | (apply get_map; omega; intro _; conv => whnf) | (apply vcG_dec <;> intro _ <;> conv => whnf) | (apply vcG_ndec <;> intro _ <;> conv => whnf) | (apply vcG_not <;> intro _ <;> conv => whnf) | (apply vcG_mk <;> intro _ <;> conv => whnf) | (apply vcIf_dec <;> intro _ <;> conv => whnf) | (apply vcIf_ndec <;> intro _ <;> conv => whnf) | (apply vcIf_not <;> intro _ <;> conv => whnf) | (apply vcIf_mk <;> intro _ <;> conv => whnf) | (apply call_gen [] [0] [1] (k2); (focus (exact bor_cons (bor_rows (l := ls.map fun x => [x]) (by show AObj.cells 1 _ = _; rw [List.map_map]; rfl) rfl rfl (by simp)) bor_nil)); (focus ((repeat' (first | exact passOk_nil | apply passOk_cons)) <;> (first | rfl | (refine pass_flat rfl ?_; (first | exact flat_nil | exact flat_replicate rfl | exact flat_map (fun _ => rfl) | exact flat_map Tree.co_flat | (apply flat_append <;> (first | exact flat_replicate rfl | exact flat_map (fun _ => rfl))) | assumption))))); rfl; rfl; rfl; rfl; rfl; (focus ((repeat' (first | exact rens_nil | apply rens_cons)) <;> (first | exact ren_dead | exact ren_box rfl rfl | (refine ren_flat ?_; (first | exact flat_nil | exact flat_replicate rfl | exact flat_map (fun _ => rfl) | exact flat_map Tree.co_flat | (apply flat_append <;> (first | exact flat_replicate rfl | exact flat_map (fun _ => rfl))) | assumption))))); (first | exact .inl rfl | (refine .inr ⟨rfl, ?_⟩; repeat' (first | exact True.intro | apply And.intro | exact rfl | exact plainLL_map (fun _ => rfl) _))); conv => whnf))
        all_goals first | (exfalso; omega) | skip
        exact ret_objs [1] (by decide) rfl rfl rfl ⟨obj_flat rfl (flat_map fun _ => rfl), trivial⟩
    have := key.keepT (L := (numF (sameK (ls.map fun x => [x])) ls.length).1.map enI) (enc_unown1 _ _) (by rw [List.length_map, numF_len]) rfl
    unfold ints
    rw [numF_len]
    exact this
  · have h := (Bool.not_eq_true _).mp h
    have e : lblB g l = [] := by unfold lblB; rw [h]; rfl
    rw [h] at k1
    rw [e, h]
    refine callsA_of tabOk Tryz.func118 rfl rfl 36 Tryz.ntmps118 (by simp) ?_
    repeat' (first | (apply AWP.go ok; rfl; conv => whnf) | (apply ord_mk; kernel_rfl; conv => whnf) | (apply And.intro; (first | omega | (unfold inI; omega) | (dsimp only; omega) | (unfold bitsOk; omega) | ((try dsimp only); simp only [List.length_map, List.length_take, List.length_append, List.length_replicate, List.length_cons, List.length_nil]; omega) | (simp only [btw_iff] at *; first | omega | (unfold inI; omega) | (unfold bitsOk; omega)) | exact stor_map (fun _ => rfl) | exact ⟨rfl, stor_cons rfl stor_nil⟩ | exact ⟨rfl, stor_map (fun _ => rfl) _⟩ | exact ⟨⟨rfl, by omega⟩, stor_map (fun _ => rfl) _⟩); conv => whnf) | (with_reducible apply get_mapN; omega; intro _; conv => whnf) | (with_reducible apply get_mapI; omega; intro _; conv => whnf) | (apply get_mapN; omega; intro _; conv => whnf) | (apply get_fill; omega; conv => whnf) | (apply ex_some; conv => whnf) | (apply get_map; omega; intro _; conv => whnf) | (apply vcG_dec <;> intro _ <;> conv => whnf) | (apply vcG_ndec <;> intro _ <;> conv => whnf) | (apply vcG_not <;> intro _ <;> conv => whnf) | (apply vcG_mk <;> intro _ <;> conv => whnf) | (apply vcIf_dec <;> intro _ <;> conv => whnf) | (apply vcIf_ndec <;> intro _ <;> conv => whnf) | (apply vcIf_not <;> intro _ <;> conv => whnf) | (apply vcIf_mk <;> intro _ <;> conv => whnf) | (apply call_data (k1); rfl; rfl; conv => whnf))
    exact ret_le rfl rfl (tup_le2 sref_le)
end Go.Proofs.YtcmihlbihppflaaGreat

namespace Go.Proofs.YtcmihlbihppflaaGreat
open Go.Gl
attribute [local irreducible] vcCall AWP RetOk Again ordOk

/-- an input within the law's bounds -/
structure Graph.ok (g : Graph) : Prop where
  mx : g.mx
  st : g.st.length ≤ 1048576
  nx : g.nx.length ≤ 1048576
  states : ∀ s ∈ g.st, s.small
  rows : ∀ r ∈ g.nx, r.length ≤ 1048576
  sumS : (g.st.map State.sz).sum ≤ 1048576
  sumN : (g.nx.map List.length).sum ≤ 1048576
theorem Graph.ok_of {g : Graph} (hg : g.mx) (h1 : g.s1 ≤ 1048576) (h2 : g.s2 ≤ 1048576) : g.ok := by
  unfold Graph.s1 tot at h1
  unfold Graph.s2 tot at h2
  refine ⟨hg, by omega, by omega, fun s hs => ?_, fun r hr => ?_, by omega, by omega⟩
  · have := le_sum State.sz hs
    unfold State.sz at this h1
    exact ⟨by omega, by omega⟩
  · have := le_sum List.length hr; omega
structure LabOk (l : List Tree) : Prop where
  mx : Lmx l
  len : l.length ≤ 1048576
  el : ∀ t ∈ l, t.sz ≤ 1048576
  sum : (l.map Tree.sz).sum ≤ 1048576
theorem LabOk.of {l : List Tree} (hl : Lmx l) (h : tot Tree.sz l ≤ 1048576) : LabOk l := by
  unfold tot at h
  exact ⟨hl, by omega, fun t ht => by have := le_sum Tree.sz ht; omega, by omega⟩

theorem toGraphS {g : Graph} (h : g.ok) : CallsA Tryz.prog 16 [.agg g.cs] [] (.agg g.cs) [] := toGraph_of g (toStateS_ok g.st h.st h.states) (toIntSS_of g.nx h.nx (fun s hs => toIntS_ok s (h.rows s hs)))
theorem toGraphN {g : Graph} (h : g.ok) : CallsA Tryz.prog 16 [.agg g.cs] [] (.agg [.sref 0 0 g.st.length, .sref 1 0 g.nx.length]) [.cells 2 (g.st.map State.co), .cells 1 (g.nx.map ownRow)] := toGraph_new g (toStateS_new g.st h.st h.states) (toIntSS_new g.nx h.nx h.rows)
theorem toExprSS {l : List Tree} (h : LabOk l) : CallsA Tryz.prog 17 [lst 3 Tree.cs' l] [] (lst 3 Tree.cs' l) [] := toExprS_of l h.len (fun t ht => toExpr_ok t (h.el t ht))
theorem toExprSN {l : List Tree} (h : LabOk l) : CallsA Tryz.prog 17 [lst 3 Tree.cs' l] [] (.sref 0 0 l.length) [.cells 3 (l.map Tree.co')] := toExprS_new l h.len (fun t ht => toExpr_new t (h.el t ht))
theorem eqGraphT {g : Graph} (h : g.ok) : CallsA Tryz.prog 21 [.agg g.cs, .agg g.cs] [] (.bool true) [] := by
  have := eqGraph_of g g (eqStateS_ok g.st g.st h.mx.1 h.mx.1) (eqIntSS_of g.nx g.nx h.mx.2.1 h.mx.2.1 (fun s hs t ht => eqIntS_ok s t (h.mx.2.2 s hs) (h.mx.2.2 t ht)))
  rwa [decide_eq_true rfl] at this
theorem eqExprST {l : List Tree} (h : LabOk l) : CallsA Tryz.prog 22 [lst 3 Tree.cs' l, lst 3 Tree.cs' l] [] (.bool true) [] := by
  have := eqExprS_of l l h.mx.1 h.mx.1 (fun s hs t ht => eqExpr_ok s (h.mx.2 s hs) t (h.mx.2 t ht))
  rwa [decide_eq_true rfl] at this
theorem eqIntST (l : List Int) (h : l.length ≤ maxLen) : CallsA Tryz.prog 54 [ints l, ints l] [] (.bool true) [] := by
  have := eqIntS_ok l l h h
  rwa [decide_eq_true rfl] at this
def Graph.ml (g : Graph) : Nat := (g.st.map State.sz).sum + (g.nx.map List.length).sum
theorem markGraphT {g : Graph} (h : g.ok) (k : Int) (h0 : 0 ≤ k) (h1 : k ≤ 1000000000) : CallsA Tryz.prog 24 [.agg [.sref 0 0 g.st.length, .sref 1 0 g.nx.length], .int k] [.cells 2 (g.st.map State.co), .cells 1 (g.nx.map ownRow)] (.int (k + g.ml)) [.cells 2 (List.replicate g.st.length [.any, .any]), .cells 1 (List.replicate g.nx.length [.any])] := by
  have h2 := h.sumS
  have h3 := h.sumN
  have := markGraph_ok g k (fun k h0 h1 => markStateS_ok g.st k h.st h.states h0 h1) (fun k h0 h1 => markIntSS_ok g.nx k h.nx h.rows h0 h1) h0 (by omega)
  rw [show k + ((g.st.map State.sz).sum : Int) + ((g.nx.map List.length).sum : Int) = k + g.ml by unfold Graph.ml; omega] at this
  exact this
theorem szGraphT (g : Graph) (hg : g.mx) (n : Int) (h0 : 0 ≤ n) (h1 : n ≤ 1048576) : CallsA Tryz.prog 12 [.agg g.cs, .int n] [] (.int (bud n (g.s1 + g.s2))) [] := szGraph_of g n (fun n h0 h1 => szStateS_ok g.st n hg.1 h0 h1) (fun n h0 h1 => szIntSS_of g.nx n hg.2.1 (fun s hs n h0 h1 => szIntS_ok s n (hg.2.2 s hs) h0 h1) h0 h1) h0 h1
theorem szExprST (l : List Tree) (hl : Lmx l) (n : Int) (h0 : 0 ≤ n) (h1 : n ≤ 1048576) : CallsA Tryz.prog 13 [lst 3 Tree.cs' l, .int n] [] (.int (bud n (tot Tree.sz l))) [] := szExprS_ok l n hl.1 hl.2 h0 h1
def lml (l : List Tree) : Nat := 2 * (l.length + (l.map Tree.sz).sum)
theorem lml_le {l : List Tree} (h : LabOk l) : lml l ≤ 4194304 := by
  have := h.len; have := h.sum
  unfold lml; omega
theorem Graph.ml_le {g : Graph} (h : g.ok) : g.ml ≤ 4194304 := by
  have := h.sumS; have := h.sumN
  unfold Graph.ml; omega
theorem markExprST {l : List Tree} (h : LabOk l) (k : Int) (h0 : 0 ≤ k) (h1 : k ≤ 1000000000) : CallsA Tryz.prog 25 [.sref 0 0 l.length, .int k] [.cells 3 (l.map Tree.co')] (.int (k + lml l)) [.cells 3 (List.replicate l.length [.any, .any, .any])] := by
  have h2 := h.len
  have h3 := h.sum
  have := markExprS_ok l k h.len h.el h0 (by omega)
  rw [show (k + 2 * ((l.length + (l.map Tree.sz).sum : Nat) : Int)) = k + lml l by unfold lml; omega] at this
  exact this
end Go.Proofs.YtcmihlbihppflaaGreat

/- Reachable nodes. -/
namespace Go.Gl

inductive RP (rows : List (List Int)) (ini : List Int) : Int → Prop
  | base {x : Int} : x ∈ ini → RP rows ini x
  | step {x y : Int} : RP rows ini x → y ∈ rows.getD x.toNat [] → RP rows ini y

def InN (N : Nat) (l : List Int) : Prop := ∀ x ∈ l, 0 ≤ x ∧ x < N

/-- the cells of a list of truth values: which numbers a list holds -/
def mkB (N : Nat) (S : List Int) : List Bool := (List.range N).map fun v : Nat => decide ((v : Int) ∈ S)
theorem mkB_len (N : Nat) (S : List Int) : (mkB N S).length = N := by simp [mkB]
theorem mkB_nil (N : Nat) : mkB N [] = List.replicate N false := by
  apply List.ext_getElem (by simp [mkB])
  intro i h1 h2
  simp [mkB]
theorem mkB_congr {N : Nat} {S S' : List Int} (h : ∀ v : Nat, v < N → ((v : Int) ∈ S ↔ (v : Int) ∈ S')) : mkB N S = mkB N S' := by
  unfold mkB
  refine List.map_congr_left fun v hv => ?_
  simp only [decide_eq_decide]
  exact h v (List.mem_range.1 hv)
theorem mkB_get {N : Nat} {S : List Int} {v : Int} (h0 : 0 ≤ v) (h1 : v < N) : (mkB N S)[v.toNat]? = some (decide (v ∈ S)) := by
  unfold mkB
  rw [List.getElem?_map, List.getElem?_range (by omega)]
  simp [Int.toNat_of_nonneg h0]
theorem mkB_set {N : Nat} {S S' : List Int} {v : Int} (h0 : 0 ≤ v) (h1 : v < N) (hs : ∀ x, x ∈ S' ↔ x ∈ S ∨ x = v) : (mkB N S).set v.toNat true = mkB N S' := by
  apply List.ext_getElem (by simp [mkB])
  intro i h2 h3
  rw [List.getElem_set]
  simp only [mkB, List.getElem_map, List.getElem_range]
  have := hs i
  by_cases h : v.toNat = i
  · rw [if_pos h]
    have : (i : Int) = v := by omega
    symm; rw [decide_eq_true_eq]; exact (hs i).2 (.inr this)
  · rw [if_neg h]
    have h4 : ¬ (i : Int) = v := by omega
    simp only [decide_eq_decide]
    rw [this]; simp [h4]
section
variable {enc : Bool → List AC}
theorem get_mkB {N n : Nat} {S : List Int} {v : Int} {K : List AC → Prop} (h : n = v.toNat) (h0 : 0 ≤ v) (h1 : v < N) (k : K (enc (decide (v ∈ S)))) : ∃ e, ((mkB N S).map enc)[n]? = some e ∧ K e :=
  ⟨_, by rw [h, List.getElem?_map, mkB_get h0 h1]; rfl, k⟩
theorem set_mkB {N n : Nat} {S S' : List Int} {v : Int} (h : n = v.toNat) (h0 : 0 ≤ v) (h1 : v < N) (hs : ∀ x, x ∈ S' ↔ x ∈ S ∨ x = v) : ((mkB N S).map enc).set n (enc true) = (mkB N S').map enc := by
  rw [h, ← mkB_set h0 h1 hs, List.map_set]
end
noncomputable instance {rows : List (List Int)} {ini : List Int} {x : Int} : Decidable (RP rows ini x) := Classical.propDecidable _
noncomputable def reachB (rows : List (List Int)) (ini : List Int) : List Bool := (List.range rows.length).map fun v : Nat => decide (RP rows ini v)
theorem reachB_eq {rows : List (List Int)} {ini S : List Int} (h : ∀ v : Nat, v < rows.length → ((v : Int) ∈ S ↔ RP rows ini v)) : mkB rows.length S = reachB rows ini := by
  unfold mkB reachB
  refine List.map_congr_left fun v hv => ?_
  simp only [decide_eq_decide]
  exact h v (List.mem_range.1 hv)
theorem reachB_len (rows : List (List Int)) (ini : List Int) : (reachB rows ini).length = rows.length := by simp [reachB]

/-- how many numbers below n a list lacks -/
def cntU : Nat → List Int → Nat
  | 0, _ => 0
  | n + 1, S => cntU n S + (if (n : Int) ∈ S then 0 else 1)
theorem cntU_le {S S' : List Int} (h : ∀ x ∈ S, x ∈ S') (n : Nat) : cntU n S' ≤ cntU n S := by
  induction n with
  | zero => exact Nat.le_refl _
  | succ n ih =>
    simp only [cntU]
    by_cases h1 : (n : Int) ∈ S
    · rw [if_pos h1, if_pos (h _ h1)]; omega
    · rw [if_neg h1]; split <;> omega
theorem cntU_lt {S S' : List Int} {v : Int} (h : ∀ x ∈ S, x ∈ S') (hv : v ∉ S) (hv' : v ∈ S') (n : Nat) (h0 : 0 ≤ v) (h1 : v < n) : cntU n S' + 1 ≤ cntU n S := by
  induction n with
  | zero => omega
  | succ n ih =>
    simp only [cntU]
    by_cases h2 : v = n
    · subst h2
      rw [if_pos hv', if_neg hv]
      have := cntU_le h n
      omega
    · have := ih (by omega)
      by_cases h3 : (n : Int) ∈ S
      · rw [if_pos h3, if_pos (h _ h3)]; omega
      · rw [if_neg h3]; split <;> omega
theorem cntU_bound (n : Nat) (S : List Int) : cntU n S ≤ n := by
  induction n with
  | zero => exact Nat.le_refl _
  | succ n ih => simp only [cntU]; split <;> omega

/-- breadth first -/
def visit (out : List Int) (v : Int) : List Int := if v ∈ out then out else out ++ [v]
def visits (out l : List Int) : List Int := l.foldl visit out
def bfs (rows : List (List Int)) (ini : List Int) : Nat → List Int
  | 0 => visits [] ini
  | i + 1 => if h : i < (bfs rows ini i).length then visits (bfs rows ini i) (rows.getD ((bfs rows ini i)[i]).toNat []) else bfs rows ini i
def bfsL (rows : List (List Int)) (ini : List Int) : List Int := bfs rows ini rows.length

theorem visit_mem {out : List Int} {v x : Int} : x ∈ visit out v ↔ x ∈ out ∨ x = v := by
  unfold visit; split
  · rename_i h
    constructor
    · exact .inl
    · rintro (h1 | rfl) <;> assumption
  · simp
theorem visits_mem {out l : List Int} {x : Int} : x ∈ visits out l ↔ x ∈ out ∨ x ∈ l := by
  unfold visits
  induction l generalizing out with
  | nil => simp
  | cons v l ih => rw [List.foldl_cons, ih, visit_mem]; simp [or_assoc]
theorem visit_nodup {out : List Int} {v : Int} (h : out.Nodup) : (visit out v).Nodup := by
  unfold visit; split
  · exact h
  · rename_i hv
    rw [List.nodup_append]
    exact ⟨h, by simp, fun a ha b hb => by rintro rfl; rw [List.mem_singleton.1 hb] at ha; exact hv ha⟩
theorem visits_nodup {out l : List Int} (h : out.Nodup) : (visits out l).Nodup := by
  unfold visits
  induction l generalizing out with
  | nil => exact h
  | cons v l ih => exact ih (visit_nodup h)
theorem visit_pre (out : List Int) (v : Int) : ∃ t, visit out v = out ++ t := by
  unfold visit; split
  · exact ⟨[], by simp⟩
  · exact ⟨_, rfl⟩
theorem visits_pre (out l : List Int) : ∃ t, visits out l = out ++ t := by
  unfold visits
  induction l generalizing out with
  | nil => exact ⟨[], by simp⟩
  | cons v l ih =>
    obtain ⟨t, ht⟩ := visit_pre out v
    obtain ⟨t', ht'⟩ := ih (visit out v)
    exact ⟨t ++ t', by rw [List.foldl_cons, ht', ht, List.append_assoc]⟩
theorem visits_snoc (out l : List Int) (v : Int) : visits out (l ++ [v]) = visit (visits out l) v := by simp [visits]
theorem visits_take {out l : List Int} {k : Nat} (h : k < l.length) : visits out (l.take (k + 1)) = visit (visits out (l.take k)) l[k] := by
  rw [List.take_succ_eq_append_getElem h, visits_snoc]
theorem pigeon : ∀ (N : Nat) (l : List Int), l.Nodup → InN N l → l.length ≤ N
  | 0, l, _, h => by
    cases l with
    | nil => exact Nat.le_refl _
    | cons a l => have := h a (by simp); omega
  | N + 1, l, hn, h => by
    by_cases hN : (N : Int) ∈ l
    · have h1 := pigeon N (l.erase N) (hn.erase _) fun x hx => by
        have h2 := (hn.mem_erase_iff).1 hx
        have h3 := h x h2.2
        have h4 := h2.1
        omega
      rw [List.length_erase_of_mem hN] at h1
      have : 0 < l.length := List.length_pos_of_mem hN
      omega
    · have h1 := pigeon N l hn fun x hx => by
        have h3 := h x hx
        have h4 : x ≠ N := by rintro rfl; exact hN hx
        omega
      omega
theorem visits_in {N : Nat} {out l : List Int} (h : InN N out) (hl : InN N l) : InN N (visits out l) := fun x hx => by
  rcases visits_mem.1 hx with h1 | h1
  · exact h x h1
  · exact hl x h1

section
variable {rows : List (List Int)} {ini : List Int}
theorem row_in {N : Nat} (hr : ∀ r ∈ rows, InN N r) (v : Int) : InN N (rows.getD v.toNat []) := by
  by_cases h : v.toNat < rows.length
  · rw [getD_at h]; exact hr _ (List.getElem_mem _)
  · rw [List.getD_eq_getElem?_getD, List.getElem?_eq_none (by omega)]; intro x hx; cases hx
theorem bfs_in {N : Nat} (hr : ∀ r ∈ rows, InN N r) (hi : InN N ini) (i : Nat) : InN N (bfs rows ini i) := by
  induction i with
  | zero => exact visits_in (fun x hx => by cases hx) hi
  | succ i ih =>
    rw [bfs]; split
    · exact visits_in ih (row_in hr _)
    · exact ih
theorem bfs_nodup (i : Nat) : (bfs rows ini i).Nodup := by
  induction i with
  | zero => exact visits_nodup (by simp)
  | succ i ih =>
    rw [bfs]; split
    · exact visits_nodup ih
    · exact ih
theorem bfs_len (hr : ∀ r ∈ rows, InN rows.length r) (hi : InN rows.length ini) (i : Nat) : (bfs rows ini i).length ≤ rows.length :=
  pigeon _ _ (bfs_nodup i) (bfs_in hr hi i)
theorem bfs_const {i j : Nat} (h : (bfs rows ini i).length ≤ i) (hij : i ≤ j) : bfs rows ini j = bfs rows ini i := by
  induction j with
  | zero => obtain rfl : i = 0 := by omega
            rfl
  | succ j ih =>
    rcases Nat.lt_or_ge j i with h1 | h1
    · obtain rfl : i = j + 1 := by omega
      rfl
    · have e := ih h1
      rw [bfs, dif_neg (by rw [e]; omega), e]
theorem bfs_pre (i : Nat) : ∃ t, bfs rows ini (i + 1) = bfs rows ini i ++ t := by
  rw [bfs]; split
  · exact visits_pre _ _
  · exact ⟨[], by simp⟩
theorem bfs_RP (i : Nat) : ∀ x ∈ bfs rows ini i, RP rows ini x := by
  induction i with
  | zero =>
    intro x hx
    rcases visits_mem.1 hx with h | h
    · cases h
    · exact .base h
  | succ i ih =>
    intro x hx
    rw [bfs] at hx
    split at hx
    · rcases visits_mem.1 hx with h | h
      · exact ih x h
      · exact .step (ih _ (List.getElem_mem _)) h
    · exact ih x hx
theorem bfs_closed (i : Nat) : ∀ k, k < i → ∀ h : k < (bfs rows ini i).length, ∀ y ∈ rows.getD ((bfs rows ini i)[k]).toNat [], y ∈ bfs rows ini i := by
  induction i with
  | zero => intro k hk; omega
  | succ i ih =>
    intro k hk h y hy
    obtain ⟨t, ht⟩ := bfs_pre (rows := rows) (ini := ini) i
    by_cases hkl : k < (bfs rows ini i).length
    · have e : (bfs rows ini (i + 1))[k] = (bfs rows ini i)[k] := by
        simp only [ht, List.getElem_append_left hkl]
      rw [e] at hy
      rcases Nat.lt_or_ge k i with h1 | h1
      · rw [ht]; exact List.mem_append_left _ (ih k h1 hkl y hy)
      · obtain rfl : k = i := by omega
        rw [bfs, dif_pos hkl]
        exact visits_mem.2 (.inr hy)
    · rcases Nat.lt_or_ge i (bfs rows ini i).length with h1 | h1
      · omega
      · have e : bfs rows ini (i + 1) = bfs rows ini i := bfs_const h1 (by omega)
        rw [e] at h; omega
theorem bfs_mem (hr : ∀ r ∈ rows, InN rows.length r) (hi : InN rows.length ini) (x : Int) : x ∈ bfsL rows ini ↔ RP rows ini x := by
  refine ⟨bfs_RP _ x, fun h => ?_⟩
  have hl := bfs_len hr hi rows.length
  induction h with
  | base h =>
    have : ∀ i, ∀ x ∈ ini, x ∈ bfs rows ini i := by
      intro i
      induction i with
      | zero => intro x hx; exact visits_mem.2 (.inr hx)
      | succ i ih =>
        intro x hx
        obtain ⟨t, ht⟩ := bfs_pre (rows := rows) (ini := ini) i
        rw [ht]; exact List.mem_append_left _ (ih x hx)
    exact this _ _ h
  | step h1 h2 ih =>
    obtain ⟨k, hk, rfl⟩ := List.mem_iff_getElem.1 ih
    exact bfs_closed _ k (Nat.lt_of_lt_of_le hk hl) hk _ h2
theorem bfsL_end {i : Nat} (hr : ∀ r ∈ rows, InN rows.length r) (hi : InN rows.length ini) (h : (bfs rows ini i).length ≤ i) (hil : i ≤ rows.length) : bfs rows ini i = bfsL rows ini := (bfs_const h hil).symm
theorem bfs_reachB (hr : ∀ r ∈ rows, InN rows.length r) (hi : InN rows.length ini) : mkB rows.length (bfsL rows ini) = reachB rows ini := reachB_eq fun v _ => bfs_mem hr hi v
theorem RP.in {x : Int} (hr : ∀ r ∈ rows, InN rows.length r) (hi : InN rows.length ini) (h : RP rows ini x) : 0 ≤ x ∧ x < rows.length := by
  induction h with
  | base h => exact hi _ h
  | step _ h2 _ => exact row_in hr _ _ h2
end
theorem env_sref {r : Nat → Nat} {o o' a n n' : Nat} (h : n = n') (ho : o = r o') : AC.sref o a n = (AC.sref o' a n').ren r := by rw [h, ho]; rfl
end Go.Gl

