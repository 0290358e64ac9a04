/- A part of the proofs over this program: T26, T27, T37C, T37, T38, T40, T41, T42, T153. -/
import Derived.Test.YtppafngcahgagaaGreatG0
import Derived.Test.YtppafngcahgagaaGreatG1
import Derived.Test.YtppafngcahgagaaGreatG2
import Derived.Test.YtppafngcahgagaaGreatG3
import Derived.Test.YtppafngcahgagaaGreatP0
import Derived.Test.YtppafngcahgagaaGreatP1
import Derived.Test.YtppafngcahgagaaGreatP2
import Derived.Test.YtppafngcahgagaaGreatP3
import Derived.Test.YtppafngcahgagaaGreatP4
set_option linter.all false
namespace Go.Proofs.YtppafngcahgagaaGreat
open Go.Gl
attribute [local irreducible] z32 AWP z48 z55 z50

theorem product_ok (g : Graph) (hg : GB g) (l : List Tree) (hl : LabelsOk l) (a : Aut) (ha : AutP a) : CallsA Tryz.prog 97 [.agg g.cs, lst 3 Tree.cs' l, .agg a.cs] [] (.tup [lst 1 encL (z34 g (g.st.map (z36 l)) a), ints a.ini]) [] := by
  have h := product_new g hg l hl a ha
  have hlen : (z34 g (g.st.map (z36 l)) a).length = g.st.length * a.acc.length := by unfold z34; rw [z71, Nat.mul_comm]
  refine h.lend [] [0] rfl rfl rfl ?_ z4
  show AC.tup [bor _ _ _ (.sref 0 0 _), bor _ _ _ (ints a.ini)] = _
  rw [bor_full (w := 1) (es := (z34 g (g.st.map (z36 l)) a).map ownRow) rfl rfl rfl (by rw [List.length_map]; exact hlen), rows_unown, ← hlen]
  rfl

/-- nodes lead to nodes -/
theorem prodRows_lt (g : Graph) (hg : GB g) (ls : List Int) (a : Aut) (ha : AutP a) : ∀ row ∈ z34 g ls a, ∀ x ∈ row, 0 ≤ x ∧ x < ((g.st.length * a.acc.length : Nat) : Int) := by
  intro row hrow x hx
  unfold z34 build at hrow
  obtain ⟨r, _, rfl⟩ := List.mem_map.1 hrow
  obtain ⟨⟨p, v⟩, hp, rfl⟩ := List.mem_map.1 hx
  have hp := (List.mem_filter.1 hp).1
  unfold pushS at hp
  obtain ⟨i, hi, hp⟩ := List.mem_flatMap.1 hp
  rw [List.mem_range] at hi
  unfold pushI at hp
  obtain ⟨to, hto, hp⟩ := List.mem_flatMap.1 hp
  unfold pushJ at hp
  obtain ⟨e, he, hp⟩ := List.mem_flatMap.1 hp
  have hin : i < g.nx.length := by have := hg.2.1; omega
  rw [z25 hin] at hto
  obtain ⟨j, hj, rfl⟩ := List.mem_iff_getElem.1 hto
  have h1 := ((hg.2.2 i hin hin hi).2.2.2 j hj hj).1
  have h2 := (ha.2.2.2 e he).2.1
  unfold pushE at hp
  split at hp
  · simp only [List.mem_singleton, Prod.mk.injEq] at hp
    obtain ⟨_, rfl⟩ := hp
    have h3 : 0 ≤ g.nx[i][j] * (a.acc.length : Int) := Int.mul_nonneg h1.1 (by omega)
    have h4 : (g.nx[i][j] + 1) * (a.acc.length : Int) ≤ g.st.length * a.acc.length := Int.mul_le_mul_of_nonneg_right (by omega) (by omega)
    rw [Int.add_mul, Int.one_mul] at h4
    have e : ((g.st.length * a.acc.length : Nat) : Int) = (g.st.length : Int) * a.acc.length := by simp
    rw [e]
    dsimp only
    omega
  · simp at hp

theorem prodRows_len (g : Graph) (hg : GB g) (ls : List Int) (a : Aut) (ha : AutP a) : ∀ row ∈ z34 g ls a, row.length ≤ 7372800 := by
  intro row hrow
  obtain ⟨i, hi, rfl⟩ := List.mem_iff_getElem.1 hrow
  exact Nat.le_trans (build_row_le (N := a.acc.length * g.st.length) (ps := pushS g ls a) hi) (pushS_len g hg ls a ha)

def rk (ranks : List Int) (x : Int) : Int := ranks.getD x.toNat 0
def less (acc : Bool) (r : Int) : Int := if acc then r - 1 else r
def nodeP (row ranks : List Int) (rank : Int) (acc : Bool) : Prop := ∀ x ∈ row, 0 ≤ rk ranks x ∧ rk ranks x ≤ less acc rank
instance {row ranks : List Int} {rank : Int} {acc : Bool} : Decidable (nodeP row ranks rank acc) := by unfold nodeP; infer_instance

theorem l9Node_ok (row ranks : List Int) (rank : Int) (acc : Bool) (hr : row.length ≤ maxLen) (hb : ∀ x ∈ row, 0 ≤ x ∧ x < ranks.length) : CallsA Tryz.prog 172 [ints row, ints ranks, .int rank, .bool acc] [] (.bool (decide (nodeP row ranks rank acc))) [] := by
  unfold maxLen at hr
  refine z14 z18 Tryz.func172 rfl rfl 39 Tryz.ntmps172 (by simp) ?_
  repeat' ((apply AWP.go ok; rfl; conv => whnf))
  refine z82 (fun k : Nat => ([(0, ints row), (1, ints ranks), (2, .int rank), (3, .bool acc), (9, .int k)], [])) (fun k => k ≤ row.length ∧ ∀ i (h : i < row.length), i < k → 0 ≤ rk ranks row[i] ∧ rk ranks row[i] ≤ less acc rank) (fun k => row.length - k) 0 ⟨by omega, fun i h hi => by omega⟩ ⟨[], rfl, by decide, rfl, by repeat' (first | exact True.intro | exact ⟨rfl, rfl⟩ | apply And.intro), by repeat' (exact True.intro)⟩ ?_
  rintro k ⟨hk1, hk2⟩
  by_cases hkl : k < row.length
  · have hx := hb row[k] (List.getElem_mem _)
    have hrk : rk ranks row[k] = ranks[row[k].toNat]'(by omega) := z25 (by omega)
    have hno : (¬ 0 ≤ rk ranks row[k] ∨ rank < rk ranks row[k] ∨ (acc = true ∧ rk ranks row[k] = rank)) → ¬ nodeP row ranks rank acc := fun h h2 => by
      have h3 := h2 _ (List.getElem_mem hkl)
      unfold less at h3
      rcases h with h | h | ⟨rfl, h⟩
      · omega
      · split at h3 <;> omega
      · rw [if_pos rfl] at h3; omega
    have hyes : (0 ≤ rk ranks row[k] ∧ rk ranks row[k] ≤ rank ∧ (acc = false ∨ rk ranks row[k] ≠ rank)) → ∀ i (h : i < row.length), i < k + 1 → 0 ≤ rk ranks row[i] ∧ rk ranks row[i] ≤ less acc rank := fun h i hi hik => by
      rcases Nat.lt_or_ge i k with h3 | h3
      · exact hk2 i hi h3
      · obtain rfl : i = k := by omega
        refine ⟨h.1, ?_⟩
        unfold less
        rcases h.2.2 with h4 | h4
        · rw [h4, if_neg (by simp)]; omega
        · split <;> omega
    rw [hrk] at hno hyes
    repeat' (first | (apply AWP.go ok; rfl; conv => whnf) | (apply And.intro; (first | omega | (unfold inI; omega)); conv => whnf) | (with_reducible apply z13; omega; intro _; conv => whnf) | (with_reducible apply z62; omega; intro _; conv => whnf) | (apply z7 <;> intro _ <;> conv => whnf) | (apply z84 <;> intro _ <;> conv => whnf))
    all_goals first
      | exact z20 rfl (decide_eq_false (hno (by first | exact .inl (by omega) | exact .inr (.inl (by omega)) | exact .inr (.inr ⟨by assumption, by assumption⟩))))
      | exact z69 (k + 1) [] ⟨by omega, hyes ⟨by omega, by omega, by first | exact .inl (by assumption) | exact .inr (by assumption)⟩⟩ (by omega) ⟨rfl, by decide, rfl, by repeat' (first | exact True.intro | exact ⟨rfl, rfl⟩ | apply And.intro), by repeat' (exact True.intro)⟩
      | omega
  · repeat' (first | (apply AWP.go ok; rfl; conv => whnf) | (apply And.intro; (omega); conv => whnf) | (with_reducible apply z13; omega; intro _; conv => whnf) | (with_reducible apply z62; omega; intro _; conv => whnf) | (apply z7 <;> intro _ <;> conv => whnf) | (apply z84 <;> intro _ <;> conv => whnf))
    all_goals first | (exfalso; omega) | skip
    refine z20 rfl (decide_eq_true ?_)
    intro x hx
    obtain ⟨i, hi, rfl⟩ := List.mem_iff_getElem.1 hx
    exact hk2 i hi (by omega)

/-- is the certificate right? -/
def certP (rows : List (List Int)) (ini : List Int) (acc : List Bool) (N : Nat) (ranks : List Int) : Prop :=
  ranks.length = N ∧ (∀ x ∈ ranks, -1 ≤ x ∧ x ≤ 4000) ∧ (∀ x ∈ ini, 0 ≤ rk ranks x) ∧ ∀ i (h : i < ranks.length), 0 ≤ ranks[i] → nodeP (rows.getD i []) ranks ranks[i] (acc.getD (i % acc.length) false)
noncomputable instance {rows : List (List Int)} {ini : List Int} {acc : List Bool} {N : Nat} {ranks : List Int} : Decidable (certP rows ini acc N ranks) := Classical.propDecidable _
noncomputable def certB (g : Graph) (l : List Tree) (a : Aut) (c : Cert) : Bool := glB g l && autB a && decide (certP (z34 g (g.st.map (z36 l)) a) a.ini a.acc (g.st.length * a.acc.length) c.ranks)

def Cert.mx (c : Cert) : Prop := c.ranks.length ≤ maxLen
set_option maxHeartbeats 800000 in
theorem specCheckCertificate_ok (g : Graph) (hg : g.mx) (l : List Tree) (hl : Lmx l) (a : Aut) (ha : a.mx) (c : Cert) (hc : c.mx) : CallsA Tryz.prog 107 [.agg g.cs, lst 3 Tree.cs' l, .agg a.cs, .agg c.cs] [] (.bool (certB g l a c)) [] := by
  have hcm := hc
  unfold Cert.mx maxLen at hcm
  by_cases hgl : glB g l = true
  · have hG := (z87 g).1 (by unfold glB at hgl; exact (Bool.and_eq_true_iff.1 hgl).1)
    have hL := LabelsOk.of (by unfold glB at hgl; exact (Bool.and_eq_true_iff.1 hgl).2)
    have k1 := z107 g hg l hl
    rw [hgl, if_pos rfl] at k1
    by_cases hab : autB a = true
    · have hA := z108.1 hab
      have hlr : ∀ x ∈ g.st.map (z36 l), 0 ≤ x ∧ x ≤ 7 := fun x hx => by
        obtain ⟨s, _, rfl⟩ := List.mem_map.1 hx
        exact letter_range hL s
      have k2 := l8Product_ok g hG (g.st.map (z36 l)) (by simp) hlr a hA
      have hrows := prodRows_lt g hG (g.st.map (z36 l)) a hA
      have hrl : (z34 g (g.st.map (z36 l)) a).length = g.st.length * a.acc.length := by unfold z34; rw [z71, Nat.mul_comm]
      have hN := z100 (a := (g.st.length : Int)) (b := (a.acc.length : Int)) (A := 60) (B := 64) (by omega) (by have := hG.1; omega) (by omega) (by have := hA.1; omega)
      have hN2 : ((g.st.length * a.acc.length : Nat) : Int) = (g.st.length : Int) * a.acc.length := by simp
      have hini := hA.2.2.1
      have e : certB g l a c = decide (certP (z34 g (g.st.map (z36 l)) a) a.ini a.acc (g.st.length * a.acc.length) c.ranks) := by unfold certB; rw [hgl, hab]; rfl
      rw [e]
      have hrowl := prodRows_len g hG (g.st.map (z36 l)) a hA
      generalize z34 g (g.st.map (z36 l)) a = rows at k2 hrows hrl hrowl
      have k3 := z88 a ha
      rw [hab] at k3
      have ha1 := hA.1
      refine z14 z18 Tryz.func107 rfl rfl 112 Tryz.ntmps107 (by simp) ?_
      repeat' (first | (apply AWP.go ok; rfl; conv => whnf) | (apply And.intro; ((unfold inI; omega)); conv => whnf) | (apply z41 <;> intro _ <;> conv => whnf) | (apply z9 (k1); rfl; rfl; conv => whnf) | (apply z9 (k3); rfl; rfl; conv => whnf) | (apply z9 (k2); rfl; rfl; conv => whnf))
      · rename_i hlen
        exact z20 rfl (decide_eq_false fun h => hlen (by rw [h.1]; exact hN2))
      rename_i hlen
      have hcl : c.ranks.length = g.st.length * a.acc.length := by omega
      have hmod : ∀ k : Nat, (((k : Int) % (a.acc.length : Int)).toNat) = k % a.acc.length := fun k => by omega
      have hmodlt : ∀ k : Nat, k % a.acc.length < a.acc.length := fun k => Nat.mod_lt _ (by omega)
      refine z82 (fun k : Nat => ([(4, .ptr 0 none 0), (6, .ptr 1 none 0), (7, .ptr 2 none 0), (11, lst 1 encL rows), (12, .int k)], [.cells 2 [[lst 2 State.cs g.st, lst 1 encL g.nx]], .cells 3 [[lst 1 enI a.ini, lst 1 enB a.acc, lst 4 Trans.cs a.ed]], .cells 1 [[lst 1 enI c.ranks]]])) (fun k => k ≤ c.ranks.length ∧ ∀ i (h : i < c.ranks.length), i < k → (-1 ≤ c.ranks[i] ∧ c.ranks[i] ≤ 4000) ∧ (0 ≤ c.ranks[i] → nodeP (rows.getD i []) c.ranks c.ranks[i] (a.acc.getD (i % a.acc.length) false))) (fun k => c.ranks.length - k) 0 ⟨by omega, fun i h hi => by omega⟩ ⟨[0, 1, 2], rfl, by decide, rfl, by repeat' (first | exact True.intro | exact ⟨rfl, rfl⟩ | apply And.intro), by repeat' (first | exact True.intro | exact z19 rfl rfl | apply And.intro)⟩ ?_
      rintro k ⟨hk1, hk2⟩
      have hm := hmod k
      have hml := hmodlt k
      by_cases hkl : k < c.ranks.length
      · have hrr : k < rows.length := by omega
        have hacc : a.acc.getD (k % a.acc.length) false = a.acc[((k : Int) % (a.acc.length : Int)).toNat]'(by omega) := by
          rw [z25 hml]; simp only [hm]
        have hrw : rows.getD k [] = rows[k] := z25 hrr
        have hrl2 : rows[k].length ≤ maxLen := by have := hrowl _ (List.getElem_mem hrr); unfold maxLen; omega
        have hxs : ∀ x ∈ rows[k], 0 ≤ x ∧ x < c.ranks.length := fun x hx => by
          have := hrows _ (List.getElem_mem hrr) x hx
          rw [hcl]; exact this
        have hkacc : ((k : Int) % (a.acc.length : Int)).toNat < a.acc.length := by omega
        have hnode := l9Node_ok rows[k] c.ranks c.ranks[k] (a.acc[((k : Int) % (a.acc.length : Int)).toNat]'hkacc) hrl2 hxs
        have hno : certP rows a.ini a.acc (g.st.length * a.acc.length) c.ranks → (-1 ≤ c.ranks[k] ∧ c.ranks[k] ≤ 4000) ∧ (0 ≤ c.ranks[k] → nodeP rows[k] c.ranks c.ranks[k] (a.acc[((k : Int) % (a.acc.length : Int)).toNat]'hkacc)) := fun h => by
          have h1 := h.2.2.2 k hkl
          rw [hrw, hacc] at h1
          exact ⟨h.2.1 _ (List.getElem_mem _), h1⟩
        have hyes : ((-1 ≤ c.ranks[k] ∧ c.ranks[k] ≤ 4000) ∧ (0 ≤ c.ranks[k] → nodeP rows[k] c.ranks c.ranks[k] (a.acc[((k : Int) % (a.acc.length : Int)).toNat]'hkacc))) → ∀ i (h : i < c.ranks.length), i < k + 1 → (-1 ≤ c.ranks[i] ∧ c.ranks[i] ≤ 4000) ∧ (0 ≤ c.ranks[i] → nodeP (rows.getD i []) c.ranks c.ranks[i] (a.acc.getD (i % a.acc.length) false)) := fun h i hi hik => by
          rcases Nat.lt_or_ge i k with h3 | h3
          · exact hk2 i hi h3
          · obtain rfl : i = k := by omega
            rw [hrw, hacc]; exact h
        repeat' (first | (apply AWP.go ok; rfl; conv => whnf) | (apply z29; kernel_rfl; conv => whnf) | (apply And.intro; (first | omega | (unfold inI; omega)); conv => whnf) | (with_reducible apply z13; omega; intro _; conv => whnf) | (with_reducible apply z62; omega; intro _; conv => whnf) | (apply z7 <;> intro _ <;> conv => whnf) | (apply z41 <;> intro _ <;> conv => whnf) | (apply z9 (hnode); rfl; rfl; conv => whnf))
        · exact z20 rfl (decide_eq_false fun h => by have := (hno h).1; omega)
        · exact z20 rfl (decide_eq_false fun h => by have := (hno h).1; omega)
        · rename_i hn
          exact z20 rfl (decide_eq_false fun h => hn ((hno h).2 (by assumption)))
        · rename_i hn
          exact z69 (k + 1) [0, 1, 2] ⟨by omega, hyes ⟨by omega, fun _ => hn⟩⟩ (by omega) ⟨rfl, by decide, rfl, by repeat' (first | exact True.intro | exact ⟨rfl, rfl⟩ | apply And.intro), by repeat' (first | exact True.intro | exact z19 rfl rfl | apply And.intro)⟩
        · rename_i hn
          exact z69 (k + 1) [0, 1, 2] ⟨by omega, hyes ⟨by omega, fun h => absurd h hn⟩⟩ (by omega) ⟨rfl, by decide, rfl, by repeat' (first | exact True.intro | exact ⟨rfl, rfl⟩ | apply And.intro), by repeat' (first | exact True.intro | exact z19 rfl rfl | apply And.intro)⟩
        · omega
      · repeat' (first | (apply AWP.go ok; rfl; conv => whnf) | (apply z29; kernel_rfl; conv => whnf) | (apply And.intro; (omega); conv => whnf) | (with_reducible apply z13; omega; intro _; conv => whnf) | (with_reducible apply z62; omega; intro _; conv => whnf) | (apply z7 <;> intro _ <;> conv => whnf))
        all_goals first | (exfalso; omega) | skip
        obtain rfl : k = c.ranks.length := by omega
        have hil := hini.le (by omega)
        refine z82 (fun j : Nat => ([(6, .ptr 1 none 0), (7, .ptr 2 none 0), (13, .int j)], [.cells 2 [[lst 2 State.cs g.st, lst 1 encL g.nx]], .cells 3 [[lst 1 enI a.ini, lst 1 enB a.acc, lst 4 Trans.cs a.ed]], .cells 1 [[lst 1 enI c.ranks]]])) (fun j => j ≤ a.ini.length ∧ ∀ i (h : i < a.ini.length), i < j → 0 ≤ rk c.ranks a.ini[i]) (fun j => a.ini.length - j) 0 ⟨by omega, fun i h hi => by omega⟩ ⟨[0, 1, 2], rfl, by decide, rfl, by repeat' (first | exact True.intro | exact ⟨rfl, rfl⟩ | apply And.intro), by repeat' (first | exact True.intro | exact z19 rfl rfl | apply And.intro)⟩ ?_
        rintro j ⟨hj1, hj2⟩
        by_cases hjl : j < a.ini.length
        · have hin := (hini j hjl hjl).1
          have hb1 := z100 (a := (g.st.length : Int) - 1) (b := (a.acc.length : Int)) (A := 60) (B := 64) (by have := hG.1; omega) (by have := hG.1; omega) (by omega) (by omega)
          rw [Int.sub_mul, Int.one_mul] at hb1
          have hix : a.ini[j].toNat < c.ranks.length := by rw [hcl]; omega
          have hrk : rk c.ranks a.ini[j] = c.ranks[a.ini[j].toNat]'hix := z25 hix
          repeat' (first | (apply AWP.go ok; rfl; conv => whnf) | (apply z29; kernel_rfl; conv => whnf) | (apply And.intro; (first | omega | (unfold inI; omega)); conv => whnf) | (with_reducible apply z13; omega; intro _; conv => whnf) | (with_reducible apply z62; omega; intro _; conv => whnf) | (apply z7 <;> intro _ <;> conv => whnf))
          · exact z20 rfl (decide_eq_false fun h => by have := h.2.2.1 _ (List.getElem_mem hjl); rw [hrk] at this; omega)
          · refine z69 (j + 1) [0, 1, 2] ⟨by omega, fun i hi hij => ?_⟩ (by omega) ⟨rfl, by decide, rfl, by repeat' (first | exact True.intro | exact ⟨rfl, rfl⟩ | apply And.intro), by repeat' (first | exact True.intro | exact z19 rfl rfl | apply And.intro)⟩
            rcases Nat.lt_or_ge i j with h3 | h3
            · exact hj2 i hi h3
            · obtain rfl : i = j := by omega
              rw [hrk]; omega
          · omega
        · repeat' (first | (apply AWP.go ok; rfl; conv => whnf) | (apply z29; kernel_rfl; conv => whnf) | (apply And.intro; (omega); conv => whnf) | (with_reducible apply z13; omega; intro _; conv => whnf) | (with_reducible apply z62; omega; intro _; conv => whnf) | (apply z7 <;> intro _ <;> conv => whnf))
          all_goals first | (exfalso; omega) | skip
          refine z20 rfl (decide_eq_true ⟨hcl, fun x hx => ?_, fun x hx => ?_, fun i h => ?_⟩)
          · obtain ⟨i, hi, rfl⟩ := List.mem_iff_getElem.1 hx
            exact (hk2 i hi hi).1
          · obtain ⟨i, hi, rfl⟩ := List.mem_iff_getElem.1 hx
            exact hj2 i hi (by omega)
          · exact (hk2 i h h).2
    · have hab := (Bool.not_eq_true _).mp hab
      have e : certB g l a c = false := by unfold certB; rw [hab, Bool.and_false]; rfl
      have k3 := z88 a ha
      rw [hab] at k3
      rw [e]
      refine z14 z18 Tryz.func107 rfl rfl 112 Tryz.ntmps107 (by simp) ?_
      repeat' (first | (apply AWP.go ok; rfl; conv => whnf) | (apply z9 (k1); rfl; rfl; conv => whnf) | (apply z9 (k3); rfl; rfl; conv => whnf))
      all_goals (refine z20 rfl ?_; rfl)
  · have k1 := z107 g hg l hl
    have hgl := (Bool.not_eq_true _).mp hgl
    rw [hgl, if_neg (by simp)] at k1
    have e : certB g l a c = false := by unfold certB; rw [hgl]; rfl
    rw [e]
    refine z14 z18 Tryz.func107 rfl rfl 112 Tryz.ntmps107 (by simp) ?_
    repeat' (first | (apply AWP.go ok; rfl; conv => whnf) | (apply z9 (k1); rfl; rfl; conv => whnf))
    all_goals (refine z20 rfl ?_; rfl)
end Go.Proofs.YtppafngcahgagaaGreat

namespace Go.Proofs.YtppafngcahgagaaGreat
open Go.Gl
attribute [local irreducible] z32 AWP z48 z55 z50

theorem checkCert1_ok (n : Int) : CallsA Tryz.prog 109 [.int n] [] (.bool (!btw n (-1) 4000)) [] := by
  refine z14 z18 Tryz.func109 rfl rfl 6 Tryz.ntmps109 (by simp) ?_
  repeat' (first | (apply AWP.go ok; rfl; conv => whnf) | (apply z9 (in_ok n (-1) 4000); rfl; rfl; conv => whnf))
  exact z20 rfl rfl

set_option maxHeartbeats 1600000 in
theorem checkCertificate_ok (g : Graph) (hg : g.mx) (l : List Tree) (hl : Lmx l) (a : Aut) (ha : a.mx) (c : Cert) (hc : c.mx) : CallsA Tryz.prog 47 [.agg g.cs, lst 3 Tree.cs' l, .agg a.cs, .agg c.cs] [] (.bool (certB g l a c)) [] := by
  have hcm := hc
  unfold Cert.mx maxLen at hcm
  have k1 := checked_ok g hg l hl a ha
  by_cases hgl : (glB g l && autB a) = true
  · rw [hgl] at k1
    obtain ⟨hgl, hab⟩ := Bool.and_eq_true_iff.1 hgl
    have hG := (z87 g).1 (by unfold glB at hgl; exact (Bool.and_eq_true_iff.1 hgl).1)
    have hL := LabelsOk.of (by unfold glB at hgl; exact (Bool.and_eq_true_iff.1 hgl).2)
    have hA := z108.1 hab
    have k2 := product_ok g hG l hL a hA
    have kc := containsFunc_int c.ranks hc (fun n => !btw n (-1) 4000) 109 (fun x _ => checkCert1_ok x)
    have hrows := prodRows_lt g hG (g.st.map (z36 l)) a hA
    have hrowl := prodRows_len g hG (g.st.map (z36 l)) a hA
    have hrl : (z34 g (g.st.map (z36 l)) a).length = g.st.length * a.acc.length := by unfold z34; rw [z71, Nat.mul_comm]
    have ha1 := hA.1
    have hN := z100 (a := (g.st.length : Int)) (b := (a.acc.length : Int)) (A := 60) (B := 64) (by omega) (by have := hG.1; omega) (by omega) (by omega)
    have hN2 : ((g.st.length * a.acc.length : Nat) : Int) = (g.st.length : Int) * a.acc.length := by simp
    have hini := hA.2.2.1
    have e : certB g l a c = decide (certP (z34 g (g.st.map (z36 l)) a) a.ini a.acc (g.st.length * a.acc.length) c.ranks) := by unfold certB; rw [hgl, hab]; rfl
    rw [e]
    generalize z34 g (g.st.map (z36 l)) a = rows at k2 hrows hrl hrowl
    refine z14 z18 Tryz.func47 rfl rfl 104 Tryz.ntmps47 (by simp) ?_
    repeat' (first | (apply AWP.go ok; rfl; conv => whnf) | (apply And.intro; ((unfold inI; omega)); conv => whnf) | (apply z41 <;> intro _ <;> conv => whnf) | (apply z84 <;> intro _ <;> conv => whnf) | (apply z9 (k1); rfl; rfl; conv => whnf) | (apply z9 (kc); rfl; rfl; conv => whnf) | (apply z9 (k2); rfl; rfl; conv => whnf))
    · rename_i hlen
      exact z20 rfl (decide_eq_false fun h => hlen (by rw [h.1]; exact hN2))
    · rename_i hlen hany
      refine z20 rfl (decide_eq_false fun h => ?_)
      obtain ⟨x, hx, hb⟩ := List.any_eq_true.1 hany
      have := h.2.1 x hx
      rw [← z134] at this
      rw [this] at hb; simp at hb
    rename_i hlen hany
    have hcl : c.ranks.length = g.st.length * a.acc.length := by omega
    have hrng : ∀ x ∈ c.ranks, -1 ≤ x ∧ x ≤ 4000 := fun x hx => by
      have := List.any_eq_false.1 hany x hx
      rw [← z134]; simpa using this
    have hmod : ∀ k : Nat, (((k : Int) % (a.acc.length : Int)).toNat) = k % a.acc.length := fun k => by omega
    have hmodlt : ∀ k : Nat, k % a.acc.length < a.acc.length := fun k => Nat.mod_lt _ (by omega)
    have hil := hini.le (by omega)
    refine z82 (fun j : Nat => ([(6, .ptr 1 none 0), (7, .ptr 2 none 0), (9, lst 1 encL rows), (48, ints a.ini), (49, .int a.ini.length), (50, .int j)], [.cells 2 [[lst 2 State.cs g.st, lst 1 encL g.nx]], .cells 3 [[lst 1 enI a.ini, lst 1 enB a.acc, lst 4 Trans.cs a.ed]], .cells 1 [[lst 1 enI c.ranks]]])) (fun j => j ≤ a.ini.length ∧ ∀ i (h : i < a.ini.length), i < j → 0 ≤ rk c.ranks a.ini[i]) (fun j => a.ini.length - j) 0 ⟨by omega, fun i h hi => by omega⟩ ⟨[0, 1, 2], rfl, by decide, rfl, by repeat' (first | exact True.intro | exact ⟨rfl, rfl⟩ | apply And.intro), by repeat' (first | exact True.intro | exact z19 rfl rfl | apply And.intro)⟩ ?_
    rintro j ⟨hj1, hj2⟩
    by_cases hjl : j < a.ini.length
    · have hin := (hini j hjl hjl).1
      have hb1 := z100 (a := (g.st.length : Int) - 1) (b := (a.acc.length : Int)) (A := 60) (B := 64) (by have := hG.1; omega) (by have := hG.1; omega) (by omega) (by omega)
      rw [Int.sub_mul, Int.one_mul] at hb1
      have hix : a.ini[j].toNat < c.ranks.length := by rw [hcl]; omega
      have hrk : rk c.ranks a.ini[j] = c.ranks[a.ini[j].toNat]'hix := z25 hix
      repeat' (first | (apply AWP.go ok; rfl; conv => whnf) | (apply And.intro; (first | omega | (unfold inI; omega)); conv => whnf) | (with_reducible apply z13; omega; intro _; conv => whnf) | (with_reducible apply z62; omega; intro _; conv => whnf) | (apply z7 <;> intro _ <;> conv => whnf))
      · exact z20 rfl (decide_eq_false fun h => by have := h.2.2.1 _ (List.getElem_mem hjl); rw [hrk] at this; omega)
      · refine z69 (j + 1) [0, 1, 2] ⟨by omega, fun i hi hij => ?_⟩ (by omega) ⟨rfl, by decide, rfl, by repeat' (first | exact True.intro | exact ⟨rfl, rfl⟩ | apply And.intro), by repeat' (first | exact True.intro | exact z19 rfl rfl | apply And.intro)⟩
        rcases Nat.lt_or_ge i j with h3 | h3
        · exact hj2 i hi h3
        · obtain rfl : i = j := by omega
          rw [hrk]; omega
      · omega
    repeat' (first | (apply AWP.go ok; rfl; conv => whnf) | (apply And.intro; (omega); conv => whnf) | (with_reducible apply z13; omega; intro _; conv => whnf) | (with_reducible apply z62; omega; intro _; conv => whnf) | (apply z7 <;> intro _ <;> conv => whnf))
    all_goals first | (exfalso; omega) | skip
    have hiniR : ∀ x ∈ a.ini, 0 ≤ rk c.ranks x := fun x hx => by
      obtain ⟨i, hi, rfl⟩ := List.mem_iff_getElem.1 hx
      exact hj2 i hi (by omega)
    clear hj1 hj2 hjl
    refine z82 (fun k : Nat => ([(6, .ptr 1 none 0), (7, .ptr 2 none 0), (9, lst 1 encL rows), (62, ints c.ranks), (63, .int c.ranks.length), (64, .int k)], [.cells 2 [[lst 2 State.cs g.st, lst 1 encL g.nx]], .cells 3 [[lst 1 enI a.ini, lst 1 enB a.acc, lst 4 Trans.cs a.ed]], .cells 1 [[lst 1 enI c.ranks]]])) (fun k => k ≤ c.ranks.length ∧ ∀ i (h : i < c.ranks.length), i < k → 0 ≤ c.ranks[i] → nodeP (rows.getD i []) c.ranks c.ranks[i] (a.acc.getD (i % a.acc.length) false)) (fun k => c.ranks.length - k) 0 ⟨by omega, fun i h hi => by omega⟩ ⟨[0, 1, 2], rfl, by decide, rfl, by repeat' (first | exact True.intro | exact ⟨rfl, rfl⟩ | apply And.intro), by repeat' (first | exact True.intro | exact z19 rfl rfl | apply And.intro)⟩ ?_
    rintro k ⟨hk1, hk2⟩
    have hm := hmod k
    have hml := hmodlt k
    by_cases hkl : k < c.ranks.length
    · have hrr : k < rows.length := by omega
      have hkacc : ((k : Int) % (a.acc.length : Int)).toNat < a.acc.length := by omega
      have hacc : a.acc.getD (k % a.acc.length) false = (a.acc[((k : Int) % (a.acc.length : Int)).toNat]'hkacc) := by
        rw [z25 hml]; simp only [hm]
      have hrw : rows.getD k [] = rows[k] := z25 hrr
      have hrl2 : rows[k].length ≤ 7372800 := hrowl _ (List.getElem_mem hrr)
      have hxs : ∀ x ∈ rows[k], 0 ≤ x ∧ x < c.ranks.length := fun x hx => by
        have := hrows _ (List.getElem_mem hrr) x hx
        rw [hcl]; exact this
      have hrk := hrng c.ranks[k] (List.getElem_mem hkl)
      have hno : certP rows a.ini a.acc (g.st.length * a.acc.length) c.ranks → 0 ≤ c.ranks[k] → nodeP rows[k] c.ranks c.ranks[k] (a.acc[((k : Int) % (a.acc.length : Int)).toNat]'hkacc) := fun h => by
        have h1 := h.2.2.2 k hkl
        rw [hrw, hacc] at h1
        exact h1
      have hyes : (0 ≤ c.ranks[k] → nodeP rows[k] c.ranks c.ranks[k] (a.acc[((k : Int) % (a.acc.length : Int)).toNat]'hkacc)) → ∀ i (h : i < c.ranks.length), i < k + 1 → 0 ≤ c.ranks[i] → nodeP (rows.getD i []) c.ranks c.ranks[i] (a.acc.getD (i % a.acc.length) false) := fun h i hi hik => by
        rcases Nat.lt_or_ge i k with h3 | h3
        · exact hk2 i hi h3
        · obtain rfl : i = k := by omega
          rw [hrw, hacc]; exact h
      generalize hacd : (a.acc[((k : Int) % (a.acc.length : Int)).toNat]'hkacc) = ac at hno hyes
      repeat' (first | (apply AWP.go ok; rfl; conv => whnf) | (apply z29; kernel_rfl; conv => whnf) | (apply And.intro; (first | omega | (unfold inI; omega)); conv => whnf) | (with_reducible apply z13; omega; intro _; conv => whnf) | (with_reducible apply z62; omega; intro _; conv => whnf) | (apply z7 <;> intro _ <;> conv => whnf) | (apply z84 <;> intro _ <;> conv => whnf))
      all_goals first | (exfalso; omega) | skip
      all_goals (rw [hacd] at *)
      all_goals
        refine z82 (fun j : Nat => ([(6, .ptr 1 none 0), (7, .ptr 2 none 0), (9, lst 1 encL rows), (62, ints c.ranks), (63, .int c.ranks.length), (64, .int k), (14, .int c.ranks[k]), (15, .int (less ac c.ranks[k])), (84, ints rows[k]), (85, .int rows[k].length), (86, .int j)], [.cells 2 [[lst 2 State.cs g.st, lst 1 encL g.nx]], .cells 3 [[lst 1 enI a.ini, lst 1 enB a.acc, lst 4 Trans.cs a.ed]], .cells 1 [[lst 1 enI c.ranks]]])) (fun j => j ≤ rows[k].length ∧ ∀ i (h : i < rows[k].length), i < j → 0 ≤ c.ranks[k] → 0 ≤ rk c.ranks rows[k][i] ∧ rk c.ranks rows[k][i] ≤ less ac c.ranks[k]) (fun j => rows[k].length - j) 0 ⟨by omega, fun i h hi => by omega⟩ ⟨[0, 1, 2], rfl, by decide, rfl, ⟨⟨rfl, rfl⟩, ⟨rfl, rfl⟩, ⟨rfl, rfl⟩, ⟨rfl, rfl⟩, ⟨rfl, rfl⟩, ⟨rfl, rfl⟩, ⟨rfl, rfl⟩, ⟨rfl, by first | (rw [show less ac c.ranks[k] = c.ranks[k] - 1 from if_pos (by assumption)]; rfl) | (rw [show less ac c.ranks[k] = c.ranks[k] from if_neg (by simp [*])]; rfl)⟩, ⟨rfl, rfl⟩, ⟨rfl, rfl⟩, ⟨rfl, rfl⟩, trivial⟩, ⟨z19 rfl rfl, z19 rfl rfl, z19 rfl rfl, trivial⟩⟩ ?_
        rintro j ⟨hj1, hj2⟩
        by_cases hjl : j < rows[k].length
        · have hx := hxs _ (List.getElem_mem hjl)
          have hix : rows[k][j].toNat < c.ranks.length := by omega
          have hrk2 : rk c.ranks rows[k][j] = c.ranks[rows[k][j].toNat]'hix := z25 hix
          repeat' (first | (apply AWP.go ok; rfl; conv => whnf) | (apply And.intro; (first | omega | (unfold inI; omega)); conv => whnf) | (with_reducible apply z13; omega; intro _; conv => whnf) | (with_reducible apply z62; omega; intro _; conv => whnf) | (apply z7 <;> intro _ <;> conv => whnf) | (apply z80 <;> intro _ <;> conv => whnf) | (apply z9 (in_ok _ 0 (less ac c.ranks[k])); rfl; rfl; conv => whnf))
          · rename_i hb
            rw [btw_no] at hb
            exact z20 rfl (decide_eq_false fun h => hb (by rw [← hrk2]; exact hno h (by assumption) _ (List.getElem_mem hjl)))
          · rename_i hb
            refine z69 (j + 1) [0, 1, 2] ⟨by omega, fun i hi hij h0 => ?_⟩ (by omega) ⟨rfl, by decide, rfl, by repeat' (first | exact True.intro | exact ⟨rfl, rfl⟩ | apply And.intro), by repeat' (first | exact True.intro | exact z19 rfl rfl | apply And.intro)⟩
            rcases Nat.lt_or_ge i j with h3 | h3
            · exact hj2 i hi h3 h0
            · obtain rfl : i = j := by omega
              rw [hrk2]; exact z134.1 hb
          · refine z69 (j + 1) [0, 1, 2] ⟨by omega, fun i hi hij h0 => ?_⟩ (by omega) ⟨rfl, by decide, rfl, by repeat' (first | exact True.intro | exact ⟨rfl, rfl⟩ | apply And.intro), by repeat' (first | exact True.intro | exact z19 rfl rfl | apply And.intro)⟩
            exact absurd h0 (by assumption)
          · omega
        · repeat' (first | (apply AWP.go ok; rfl; conv => whnf) | (apply And.intro; (first | omega | (unfold inI; omega)); conv => whnf) | (with_reducible apply z13; omega; intro _; conv => whnf) | (with_reducible apply z62; omega; intro _; conv => whnf) | (apply z7 <;> intro _ <;> conv => whnf))
          all_goals first | (exfalso; omega) | skip
          refine z69 (k + 1) [0, 1, 2] ⟨by omega, hyes fun h0 x hx => ?_⟩ (by omega) ⟨rfl, by decide, rfl, by repeat' (first | exact True.intro | exact ⟨rfl, rfl⟩ | apply And.intro), by repeat' (first | exact True.intro | exact z19 rfl rfl | apply And.intro)⟩
          obtain ⟨i, hi, rfl⟩ := List.mem_iff_getElem.1 hx
          exact hj2 i hi (by omega) h0
    · repeat' (first | (apply AWP.go ok; rfl; conv => whnf) | (apply z29; kernel_rfl; conv => whnf) | (apply And.intro; (omega); conv => whnf) | (with_reducible apply z13; omega; intro _; conv => whnf) | (with_reducible apply z62; omega; intro _; conv => whnf) | (apply z7 <;> intro _ <;> conv => whnf) | (apply z84 <;> intro _ <;> conv => whnf))
      all_goals first | (exfalso; omega) | skip
      exact z20 rfl (decide_eq_true ⟨hcl, hrng, hiniR, fun i h => hk2 i h (by omega)⟩)
  · have hgl := (Bool.not_eq_true _).mp hgl
    rw [hgl] at k1
    have e : certB g l a c = false := by unfold certB; rw [hgl]; rfl
    rw [e]
    refine z14 z18 Tryz.func47 rfl rfl 104 Tryz.ntmps47 (by simp) ?_
    repeat' (first | (apply AWP.go ok; rfl; conv => whnf) | (apply z9 (k1); rfl; rfl; conv => whnf))
    all_goals (refine z20 rfl ?_; rfl)
end Go.Proofs.YtppafngcahgagaaGreat

namespace Go.Proofs.YtppafngcahgagaaGreat
open Go.Gl
attribute [local irreducible] z32 AWP z48 z55 z50

theorem clipInt_own (l : List Int) (hl : l.length ≤ 1048576) : CallsA Tryz.prog 86 [.sref 0 0 l.length] [.cells 1 (l.map enI)] (.sref 0 0 l.length) [.cells 1 (l.map enI)] := by
  refine z14 z18 Tryz.func86 rfl rfl 9 Tryz.ntmps86 (by simp) ?_
  repeat' (first | (apply AWP.go ok; rfl; conv => whnf) | (apply And.intro; (omega); conv => whnf))
  exact ret_newN rfl (z8 fun _ => rfl) (by omega) rfl rfl
end Go.Proofs.YtppafngcahgagaaGreat

namespace Go.Proofs.YtppafngcahgagaaGreat
open Go.Gl
attribute [local irreducible] z32 AWP z48 z55 z50

theorem cloneInt_new (l : List Int) (hl : l.length ≤ 1048576) : CallsA Tryz.prog 149 [ints l] [] (.sref 0 0 l.length) [.cells 1 (l.map enI)] := by
  by_cases hp : 0 < l.length
  · exact clone_full l hl hp
  · obtain rfl : l = [] := List.eq_nil_of_length_eq_zero (by omega)
    refine calls_empty (isFunc_of Tryz.func149 rfl (by rfl)) fun ad cap => ?_
    cases ad with
    | none =>
      refine CallsA.nils (res := .nils) (l := [.cells 1 []]) ?_ (by simp) nil_sref
      refine z14 z18 Tryz.func149 rfl rfl 8 Tryz.ntmps149 (by simp) ?_
      repeat' ((apply AWP.go ok; rfl; conv => whnf))
      all_goals exact z47 rfl rfl rfl
    | some p =>
      refine z14 z18 Tryz.func149 rfl rfl 8 Tryz.ntmps149 (by simp) ?_
      repeat' (first | (apply AWP.go ok; rfl; conv => whnf) | (apply And.intro; (omega); conv => whnf))
      all_goals (exact ret_newN rfl z38 rfl rfl rfl)
theorem implClone_new (l : List Int) (hl : l.length ≤ 1048576) : CallsA Tryz.prog 67 [ints l] [] (.sref 0 0 l.length) [.cells 1 (l.map enI)] := by
  refine z14 z18 Tryz.func67 rfl rfl 6 Tryz.ntmps67 (by simp) ?_
  repeat' (first | (apply AWP.go ok; rfl; conv => whnf) | (apply z6 [] [] [0] (cloneInt_new l hl); rfl; (focus ((repeat' (exact z4)) <;> (fail))); rfl; rfl; rfl; rfl; rfl; (focus ((repeat' (first | exact z12 | apply z11)) <;> ((refine z23 ?_; ((exact z8 (fun _ => rfl))))))); (exact .inl rfl); conv => whnf) | (apply z6 [0] [] [] (clipInt_own l hl); rfl; (focus ((repeat' (first | exact z4 | apply z5)) <;> ((refine pass_flat rfl ?_; ((exact z8 (fun _ => rfl))))))); rfl; rfl; rfl; rfl; rfl; (focus ((repeat' (first | exact z12 | apply z11)) <;> ((refine z23 ?_; ((exact z8 (fun _ => rfl))))))); (exact .inl rfl); conv => whnf))
  exact ret_newN rfl (z8 fun _ => rfl) rfl rfl rfl

/-- a search in depth -/
structure RI (rows : List (List Int)) (ini S L : List Int) : Prop where
  inS : InN rows.length S
  sub : ∀ x ∈ L, x ∈ S
  rp : ∀ x ∈ S, RP rows ini x
  base : ∀ x ∈ ini, x ∈ S
def Shut (rows : List (List Int)) (S : List Int) (x : Int) : Prop := ∀ y ∈ rows.getD x.toNat [], y ∈ S

set_option maxHeartbeats 1600000 in
theorem reachable_new (rows : List (List Int)) (ini : List Int) (hr : ∀ r ∈ rows, InN rows.length r) (hi : InN rows.length ini) (hN : rows.length ≤ 1048576) (hrl : ∀ r ∈ rows, r.length ≤ 1000000000) (hil : ini.length ≤ 1048576) : CallsA Tryz.prog 96 [lst 1 encL rows, ints ini] [] (.sref 0 0 rows.length) [.cells 1 ((reachB rows ini).map enB)] := by
  have c0 := implClone_new ini hil
  refine z14 z18 Tryz.func96 rfl rfl 64 Tryz.ntmps96 (by simp) ?_
  repeat' (first | (apply AWP.go ok; rfl; conv => whnf) | (apply And.intro; ((dsimp only; omega)); conv => whnf) | (apply z6 [] [] [1] (c0); rfl; (focus ((repeat' (exact z4)) <;> (fail))); rfl; rfl; rfl; rfl; rfl; (focus ((repeat' (first | exact z12 | apply z11)) <;> ((refine z23 ?_; ((exact z8 (fun _ => rfl))))))); (exact .inl rfl); conv => whnf))
  refine z82 (fun i : Nat => ([(0, lst 1 encL rows), (5, .sref 0 0 rows.length), (6, .sref 1 0 ini.length), (17, ints ini), (18, .int ini.length), (19, .int i)], [.cells 1 ((mkB rows.length (ini.take i)).map enB), .cells 1 (ini.map enI)])) (fun i => i ≤ ini.length) (fun i => ini.length - i) 0 (by omega) ⟨[0, 1], rfl, by decide, rfl, ⟨⟨rfl, rfl⟩, ⟨rfl, rfl⟩, ⟨rfl, rfl⟩, ⟨rfl, rfl⟩, ⟨rfl, rfl⟩, ⟨rfl, rfl⟩, trivial⟩, ⟨z28 (z42 (by rw [List.take_zero, mkB_nil, List.map_replicate]; rfl)) (z8 fun _ => rfl), z28 rfl (z8 fun _ => rfl), trivial⟩⟩ ?_
  intro i hil2
  by_cases hil3 : i < ini.length
  · have hx := hi ini[i] (List.getElem_mem _)
    repeat' (first | (apply AWP.go ok; rfl; conv => whnf) | (refine get_mkB (enc := enB) (v := ini[i]) (by rfl) hx.1 hx.2 ?_; conv => whnf) | (apply And.intro; (first | omega | (unfold inI; omega)); conv => whnf) | (with_reducible apply z13; omega; intro _; conv => whnf) | (apply z7 <;> intro _ <;> conv => whnf))
    all_goals first | (exfalso; omega) | skip
    exact z69 (i + 1) [0, 1] (by omega) (by omega) ⟨rfl, by decide, rfl, ⟨⟨rfl, rfl⟩, ⟨rfl, rfl⟩, ⟨rfl, rfl⟩, ⟨rfl, rfl⟩, ⟨rfl, rfl⟩, ⟨rfl, rfl⟩, trivial⟩, ⟨z28 (z42 (set_mkB (enc := enB) (by rfl) hx.1 hx.2 fun x => by rw [List.take_succ_eq_append_getElem hil3, List.mem_append, List.mem_singleton])) (z8 fun _ => rfl), z28 rfl (z8 fun _ => rfl), trivial⟩⟩
  repeat' (first | (apply AWP.go ok; rfl; conv => whnf) | (apply And.intro; (omega); conv => whnf) | (with_reducible apply z13; omega; intro _; conv => whnf) | (apply z13; omega; intro _; conv => whnf) | (apply z7 <;> intro _ <;> conv => whnf))
  all_goals first | (exfalso; omega) | skip
  obtain rfl : i = ini.length := by omega
  rw [List.take_length]
  refine z82 (fun x : List Int × List Int × List Int => ([(0, lst 1 encL rows), (5, .sref 0 0 rows.length), (6, .sref 1 0 x.2.1.length)], [.cells 1 ((mkB rows.length x.1).map enB), .cells 1 ((x.2.1 ++ x.2.2).map enI)])) (fun x => RI rows ini x.1 x.2.1 ∧ (∀ v ∈ x.1, v ∉ x.2.1 → Shut rows x.1 v) ∧ 2 * cntU rows.length x.1 + x.2.1.length ≤ 2 * rows.length + ini.length) (fun x => 2 * cntU rows.length x.1 + x.2.1.length) (ini, ini, []) ⟨⟨hi, fun _ h => h, fun _ h => .base h, fun _ h => h⟩, fun v h h' => absurd h h', by have := cntU_bound rows.length ini; dsimp only; omega⟩ ⟨[0, 1], rfl, by decide, rfl, ⟨⟨rfl, rfl⟩, ⟨rfl, rfl⟩, ⟨rfl, rfl⟩, trivial⟩, ⟨z28 rfl (z8 fun _ => rfl), z28 (z42 (by rw [List.append_nil])) (z8 fun _ => rfl), trivial⟩⟩ ?_
  rintro ⟨S, L, J⟩ ⟨hRI, hsh, hLl⟩
  dsimp only at hRI hsh hLl ⊢
  rcases List.eq_nil_or_concat L with rfl | ⟨L, x, rfl⟩
  · repeat' ((apply AWP.go ok; rfl; conv => whnf))
    all_goals skip
    refine ret_new rfl (z8 fun _ => rfl) rfl ?_
    rw [reachB_eq]
    intro v _
    refine ⟨fun h => hRI.rp _ h, fun h => ?_⟩
    generalize (v : Int) = u at h
    induction h with
    | base h => exact hRI.base _ h
    | step _ h2 ih => exact hsh _ ih (by simp) _ h2
  · rw [List.concat_eq_append] at *
    have hxS : x ∈ S := hRI.sub x (by simp)
    have hx := hRI.inS x hxS
    have e : (L ++ [x]).length = L.length + 1 := by simp
    have hxr : x.toNat < rows.length := by omega
    rw [e] at hLl
    rw [e, List.append_assoc, List.singleton_append]
    have hg : ((L ++ x :: J).map enI)[L.length]? = some (enI x) := by simp
    have hrow : rows.getD x.toNat [] = rows[x.toNat] := z25 hxr
    have hrin : InN rows.length rows[x.toNat] := hr _ (List.getElem_mem _)
    have hrl2 := hrl rows[x.toNat] (List.getElem_mem _)
    repeat' (first | (apply AWP.go ok; rfl; conv => whnf) | (refine z24 (i := L.length) (by omega) hg ?_; conv => whnf) | (apply And.intro; (first | omega | (unfold inI; omega)); conv => whnf) | (with_reducible apply z62; omega; intro _; conv => whnf) | (apply z7 <;> intro _ <;> conv => whnf))
    all_goals first | (exfalso; omega) | skip
    generalize hrw : rows[x.toNat] = row at *
    refine z82 (fun y : List Int × List Int × List Int × Nat => ([(0, lst 1 encL rows), (5, .sref 0 0 rows.length), (6, .sref 1 0 y.2.1.length), (44, ints row), (45, .int row.length), (46, .int y.2.2.2)], [.cells 1 ((mkB rows.length y.1).map enB), .cells 1 ((y.2.1 ++ y.2.2.1).map enI)])) (fun y => RI rows ini y.1 y.2.1 ∧ (∀ v ∈ y.1, v ∉ y.2.1 → v ≠ x → Shut rows y.1 v) ∧ (∀ v ∈ row.take y.2.2.2, v ∈ y.1) ∧ y.2.2.2 ≤ row.length ∧ 2 * cntU rows.length y.1 + y.2.1.length ≤ 2 * cntU rows.length S + L.length) (fun y => row.length - y.2.2.2) (S, L, x :: J, 0) ⟨⟨hRI.inS, fun v hv => hRI.sub v (by simp [hv]), hRI.rp, hRI.base⟩, fun v hv hv' hne => hsh v hv (by simp [hv', hne]), fun v hv => by simp at hv, Nat.zero_le _, Nat.le_refl _⟩ ⟨[0, 1], rfl, by decide, rfl, ⟨⟨rfl, rfl⟩, ⟨rfl, rfl⟩, ⟨rfl, env_sref (by dsimp only; omega) rfl⟩, ⟨rfl, rfl⟩, ⟨rfl, rfl⟩, ⟨rfl, rfl⟩, trivial⟩, ⟨z28 rfl (z8 fun _ => rfl), z28 rfl (z8 fun _ => rfl), trivial⟩⟩ ?_
    rintro ⟨S', L', J', i⟩ ⟨h1, h2, h3, h4, h5⟩
    dsimp only at h1 h2 h3 h4 h5 ⊢
    by_cases hil4 : i < row.length
    · have hy := hrin row[i] (List.getElem_mem _)
      repeat' (first | (apply AWP.go ok; rfl; conv => whnf) | (refine get_mkB (enc := enB) (v := row[i]) (by rfl) hy.1 hy.2 ?_; conv => whnf) | (apply And.intro; (first | omega | (unfold inI; omega) | ((try dsimp only); simp only [List.length_map, List.length_take, List.length_append, List.length_replicate, List.length_cons, List.length_nil]; omega) | exact ⟨rfl, z21 rfl z26⟩); conv => whnf) | (with_reducible apply z13; omega; intro _; conv => whnf) | (apply z7 <;> intro _ <;> conv => whnf) | (apply z41 <;> intro _ <;> conv => whnf))
      all_goals first | (exfalso; omega) | skip
      · rename_i hn
        have hn : row[i] ∉ S' := by simpa using hn
        have hc := cntU_lt (S := S') (S' := S' ++ [row[i]]) (fun v hv => by simp [hv]) hn (by simp) rows.length hy.1 hy.2
        refine z69 (S' ++ [row[i]], L' ++ [row[i]], [], i + 1) [0, 3] ⟨⟨fun v hv => ?_, fun v hv => ?_, fun v hv => ?_, fun v hv => by simp [h1.base v hv]⟩, fun v hv hv' hne => ?_, fun v hv => ?_, by dsimp only; omega, ?_⟩ (by dsimp only; omega) ⟨rfl, by decide, rfl, ⟨⟨rfl, rfl⟩, ⟨rfl, rfl⟩, ⟨rfl, env_sref (by simp) rfl⟩, ⟨rfl, rfl⟩, ⟨rfl, rfl⟩, ⟨rfl, rfl⟩, trivial⟩, ⟨z28 (z42 (set_mkB (enc := enB) (by rfl) hy.1 hy.2 fun v => by simp)) (z8 fun _ => rfl), z28 (z42 ?_) (z8 fun _ => rfl), trivial⟩⟩
        · rcases List.mem_append.1 hv with hv | hv
          · exact h1.inS v hv
          · rw [List.mem_singleton.1 hv]; exact hy
        · rcases List.mem_append.1 hv with hv | hv
          · exact List.mem_append_left _ (h1.sub v hv)
          · exact List.mem_append_right _ hv
        · rcases List.mem_append.1 hv with hv | hv
          · exact h1.rp v hv
          · rw [List.mem_singleton.1 hv]; exact .step (hRI.rp x hxS) (by rw [hrow]; exact List.getElem_mem _)
        · dsimp only at hv hv'
          rcases List.mem_append.1 hv with hv | hv
          · exact fun y hy => List.mem_append_left _ (h2 v hv (fun h => hv' (List.mem_append_left _ h)) hne y hy)
          · exact absurd (List.mem_append_right _ hv) hv'
        · dsimp only at hv ⊢
          rw [List.take_succ_eq_append_getElem hil4] at hv
          rcases List.mem_append.1 hv with hv | hv
          · exact List.mem_append_left _ (h3 v hv)
          · exact List.mem_append_right _ hv
        · dsimp only
          rw [List.length_append]
          simp only [List.length_singleton]
          omega
        · dsimp only
          rw [List.append_nil, List.map_append, List.map_append, List.take_append_of_le_length (by simp), List.take_of_length_le (by simp)]
          rfl
      · refine z69 (S', L', J', i + 1) [0, 1] ⟨h1, h2, fun v hv => ?_, by dsimp only; omega, h5⟩ (by dsimp only; omega) ⟨rfl, by decide, rfl, ⟨⟨rfl, rfl⟩, ⟨rfl, rfl⟩, ⟨rfl, rfl⟩, ⟨rfl, rfl⟩, ⟨rfl, rfl⟩, ⟨rfl, rfl⟩, trivial⟩, ⟨z28 rfl (z8 fun _ => rfl), z28 rfl (z8 fun _ => rfl), trivial⟩⟩
        dsimp only at hv ⊢
        rw [List.take_succ_eq_append_getElem hil4] at hv
        rcases List.mem_append.1 hv with hv | hv
        · exact h3 v hv
        · rw [List.mem_singleton.1 hv]; assumption
    · repeat' (first | (apply AWP.go ok; rfl; conv => whnf) | (apply And.intro; (omega); conv => whnf) | (with_reducible apply z13; omega; intro _; conv => whnf) | (apply z13; omega; intro _; conv => whnf) | (apply z7 <;> intro _ <;> conv => whnf) | (apply z80 <;> intro _ <;> conv => whnf))
      all_goals first | (exfalso; omega) | skip
      have hie : i = row.length := by omega
      refine z69 (S', L', J') [0, 1] ⟨h1, fun v hv hv' => ?_, by dsimp only; omega⟩ (by dsimp only; rw [e]; omega) ⟨rfl, by decide, rfl, ⟨⟨rfl, rfl⟩, ⟨rfl, rfl⟩, ⟨rfl, rfl⟩, trivial⟩, ⟨z28 rfl (z8 fun _ => rfl), z28 rfl (z8 fun _ => rfl), trivial⟩⟩
      by_cases hvx : v = x
      · subst hvx
        intro y hy
        rw [hrow] at hy
        exact h3 y (by rw [hie, List.take_length]; exact hy)
      · exact h2 v hv hv' hvx
end Go.Proofs.YtppafngcahgagaaGreat

namespace Go.Proofs.YtppafngcahgagaaGreat
open Go.Gl
attribute [local irreducible] z32 AWP z48 z55 z50

theorem visit_new {Q : List Int} {x : Int} (h : x ∉ Q) : visit Q x = Q ++ [x] := by unfold visit; rw [if_neg h]
theorem visit_old {Q : List Int} {x : Int} (h : x ∈ Q) : visit Q x = Q := by unfold visit; rw [if_pos h]
theorem push_cells {Q Q' : List Int} {x : Int} (h : Q' = Q ++ [x]) : ((Q.map enI).take Q.length) ++ [enI x] = Q'.map enI := by
  subst h
  rw [List.take_of_length_le (by simp), List.map_append]; rfl

set_option maxHeartbeats 1600000 in
theorem l7Reach_new (rows : List (List Int)) (ini : List Int) (hr : ∀ r ∈ rows, InN rows.length r) (hi : InN rows.length ini) (hN : rows.length ≤ 1048576) (hrl : ∀ r ∈ rows, r.length ≤ 1000000000) (hil : ini.length ≤ 1048576) : CallsA Tryz.prog 100 [lst 1 encL rows, ints ini] [] (.sref 0 0 (bfsL rows ini).length) [.cells 1 ((bfsL rows ini).map enI)] := by
  refine z14 z18 Tryz.func100 rfl rfl 83 Tryz.ntmps100 (by simp) ?_
  repeat' (first | (apply AWP.go ok; rfl; conv => whnf) | (apply And.intro; ((dsimp only; omega)); conv => whnf))
  refine z82 (fun i : Nat => ([(0, lst 1 encL rows), (1, ints ini), (5, .sref 0 0 rows.length), (6, .sref 1 0 (z94 [] (ini.take i)).length), (7, .int i)], [.cells 1 ((mkB rows.length (z94 [] (ini.take i))).map enB), .cells 1 ((z94 [] (ini.take i)).map enI)])) (fun i => i ≤ ini.length) (fun i => ini.length - i) 0 (by omega) ⟨[0, 1], rfl, by decide, rfl, ⟨⟨rfl, rfl⟩, ⟨rfl, rfl⟩, ⟨rfl, rfl⟩, ⟨rfl, rfl⟩, ⟨rfl, rfl⟩, trivial⟩, ⟨z28 (z42 (by show _ = (mkB rows.length []).map enB; rw [mkB_nil, List.map_replicate]; rfl)) (z8 fun _ => rfl), z28 rfl (z8 fun _ => rfl), trivial⟩⟩ ?_
  intro i hil2
  have hQn : (z94 [] (ini.take i)).length ≤ rows.length := pigeon _ _ (visits_nodup (by simp)) (visits_in (fun x hx => by cases hx) fun x hx => hi x (List.mem_of_mem_take hx))
  by_cases hil3 : i < ini.length
  · have hx := hi ini[i] (List.getElem_mem _)
    have hv := visits_take (out := []) hil3
    by_cases hn : ini[i] ∉ z94 [] (ini.take i)
    · repeat' (first | (apply AWP.go ok; rfl; conv => whnf) | (refine get_mkB (enc := enB) (v := ini[i]) (by rfl) hx.1 hx.2 ?_; conv => whnf) | (apply And.intro; (first | omega | (unfold inI; omega) | ((try dsimp only); simp only [List.length_map, List.length_take, List.length_append, List.length_replicate, List.length_cons, List.length_nil]; omega) | exact ⟨rfl, z21 rfl z26⟩); conv => whnf) | (with_reducible apply z13; omega; intro _; conv => whnf) | (apply z7 <;> intro _ <;> conv => whnf) | (apply z41 <;> intro _ <;> conv => whnf))
      all_goals first | (exfalso; omega) | (exfalso; simp_all; done) | skip
      rw [visit_new hn] at hv
      exact z69 (i + 1) [0, 3] (by omega) (by omega) ⟨rfl, by decide, rfl, ⟨⟨rfl, rfl⟩, ⟨rfl, rfl⟩, ⟨rfl, rfl⟩, ⟨rfl, env_sref (by rw [hv]; simp) rfl⟩, ⟨rfl, rfl⟩, trivial⟩, ⟨z28 (z42 (set_mkB (enc := enB) (by rfl) hx.1 hx.2 fun v => by rw [hv]; simp)) (z8 fun _ => rfl), z28 (z42 (push_cells hv)) (z8 fun _ => rfl), trivial⟩⟩
    · have hn := Decidable.not_not.1 hn
      repeat' (first | (apply AWP.go ok; rfl; conv => whnf) | (refine get_mkB (enc := enB) (v := ini[i]) (by rfl) hx.1 hx.2 ?_; conv => whnf) | (apply And.intro; (first | omega | (unfold inI; omega) | ((try dsimp only); simp only [List.length_map, List.length_take, List.length_append, List.length_replicate, List.length_cons, List.length_nil]; omega) | exact ⟨rfl, z21 rfl z26⟩); conv => whnf) | (with_reducible apply z13; omega; intro _; conv => whnf) | (apply z7 <;> intro _ <;> conv => whnf) | (apply z41 <;> intro _ <;> conv => whnf))
      all_goals first | (exfalso; omega) | (exfalso; simp_all; done) | skip
      rw [visit_old hn] at hv
      exact z69 (i + 1) [0, 1] (by omega) (by omega) ⟨rfl, by decide, rfl, ⟨⟨rfl, rfl⟩, ⟨rfl, rfl⟩, ⟨rfl, rfl⟩, ⟨rfl, env_sref (by rw [hv]) rfl⟩, ⟨rfl, rfl⟩, trivial⟩, ⟨z28 (z42 (by rw [hv])) (z8 fun _ => rfl), z28 (z42 (by rw [hv])) (z8 fun _ => rfl), trivial⟩⟩
  repeat' (first | (apply AWP.go ok; rfl; conv => whnf) | (apply And.intro; (omega); conv => whnf) | (with_reducible apply z13; omega; intro _; conv => whnf) | (apply z13; omega; intro _; conv => whnf) | (apply z7 <;> intro _ <;> conv => whnf) | (apply z80 <;> intro _ <;> conv => whnf))
  all_goals first | (exfalso; omega) | skip
  obtain rfl : i = ini.length := by omega
  rw [List.take_length]
  clear hQn
  refine z82 (fun i : Nat => ([(0, lst 1 encL rows), (5, .sref 0 0 rows.length), (6, .sref 1 0 (bfs rows ini i).length), (8, .int i)], [.cells 1 ((mkB rows.length (bfs rows ini i)).map enB), .cells 1 ((bfs rows ini i).map enI)])) (fun i => i ≤ (bfs rows ini i).length) (fun i => rows.length - i) 0 (by omega) ⟨[0, 1], rfl, by decide, rfl, ⟨⟨rfl, rfl⟩, ⟨rfl, rfl⟩, ⟨rfl, rfl⟩, ⟨rfl, rfl⟩, trivial⟩, ⟨z28 rfl (z8 fun _ => rfl), z28 rfl (z8 fun _ => rfl), trivial⟩⟩ ?_
  intro i hi1
  have hbl := bfs_len hr hi i
  by_cases hi2 : i < (bfs rows ini i).length
  · have hq := bfs_in hr hi i _ (List.getElem_mem hi2)
    have hb := bfs.eq_2 rows ini i
    rw [dif_pos hi2] at hb
    have hnd := bfs_nodup (rows := rows) (ini := ini) i
    have hin := bfs_in hr hi i
    generalize hQ0 : bfs rows ini i = Q0 at *
    have hqr : Q0[i].toNat < rows.length := by omega
    have hrow : rows.getD Q0[i].toNat [] = rows[Q0[i].toNat] := z25 hqr
    have hrin : InN rows.length rows[Q0[i].toNat] := hr _ (List.getElem_mem _)
    have hrl2 := hrl rows[Q0[i].toNat] (List.getElem_mem _)
    rw [hrow] at hb
    repeat' (first | (apply AWP.go ok; rfl; conv => whnf) | (apply z7 <;> intro _ <;> conv => whnf))
    all_goals first | (exfalso; omega) | skip
    refine z82 (fun k : Nat => ([(0, lst 1 encL rows), (5, .sref 0 0 rows.length), (6, .sref 1 0 (z94 Q0 (rows[Q0[i].toNat].take k)).length), (8, .int i), (9, .int k)], [.cells 1 ((mkB rows.length (z94 Q0 (rows[Q0[i].toNat].take k))).map enB), .cells 1 ((z94 Q0 (rows[Q0[i].toNat].take k)).map enI)])) (fun k => k ≤ rows[Q0[i].toNat].length) (fun k => rows[Q0[i].toNat].length - k) 0 (by omega) ⟨[0, 1], rfl, by decide, rfl, ⟨⟨rfl, rfl⟩, ⟨rfl, rfl⟩, ⟨rfl, rfl⟩, ⟨rfl, rfl⟩, ⟨rfl, rfl⟩, trivial⟩, ⟨z28 rfl (z8 fun _ => rfl), z28 rfl (z8 fun _ => rfl), trivial⟩⟩ ?_
    intro k hk1
    have hQn : (z94 Q0 (rows[Q0[i].toNat].take k)).length ≤ rows.length := pigeon _ _ (visits_nodup hnd) (visits_in hin fun x hx => hrin x (List.mem_of_mem_take hx))
    obtain ⟨t, ht⟩ := visits_pre Q0 (rows[Q0[i].toNat].take k)
    have hgl : i < (z94 Q0 (rows[Q0[i].toNat].take k)).length := by rw [ht, List.length_append]; omega
    have hg : ((z94 Q0 (rows[Q0[i].toNat].take k)).map enI)[i]? = some (enI Q0[i]) := by
      rw [ht, List.map_append, List.getElem?_append_left (by simpa using hi2), List.getElem?_map, List.getElem?_eq_getElem hi2]; rfl
    by_cases hk2 : k < rows[Q0[i].toNat].length
    · have hx := hrin rows[Q0[i].toNat][k] (List.getElem_mem _)
      have hv := visits_take (out := Q0) hk2
      by_cases hn : rows[Q0[i].toNat][k] ∉ z94 Q0 (rows[Q0[i].toNat].take k)
      · repeat' (first | (apply AWP.go ok; rfl; conv => whnf) | (refine get_mkB (enc := enB) (v := rows[Q0[i].toNat][k]) (by rfl) hx.1 hx.2 ?_; conv => whnf) | (refine z24 (i := i) (by rfl) hg ?_; conv => whnf) | (apply And.intro; (first | omega | (unfold inI; omega) | ((try dsimp only); simp only [List.length_map, List.length_take, List.length_append, List.length_replicate, List.length_cons, List.length_nil]; omega) | exact ⟨rfl, z21 rfl z26⟩); conv => whnf) | (with_reducible apply z13; omega; intro _; conv => whnf) | (with_reducible apply z62; omega; intro _; conv => whnf) | (apply z7 <;> intro _ <;> conv => whnf) | (apply z41 <;> intro _ <;> conv => whnf))
        all_goals first | (exfalso; omega) | (exfalso; simp_all; done) | skip
        rw [visit_new hn] at hv
        exact z69 (k + 1) [0, 3] (by omega) (by omega) ⟨rfl, by decide, rfl, ⟨⟨rfl, rfl⟩, ⟨rfl, rfl⟩, ⟨rfl, env_sref (by rw [hv]; simp) rfl⟩, ⟨rfl, rfl⟩, ⟨rfl, rfl⟩, trivial⟩, ⟨z28 (z42 (set_mkB (enc := enB) (by rfl) hx.1 hx.2 fun v => by rw [hv]; simp)) (z8 fun _ => rfl), z28 (z42 (push_cells hv)) (z8 fun _ => rfl), trivial⟩⟩
      · have hn := Decidable.not_not.1 hn
        repeat' (first | (apply AWP.go ok; rfl; conv => whnf) | (refine get_mkB (enc := enB) (v := rows[Q0[i].toNat][k]) (by rfl) hx.1 hx.2 ?_; conv => whnf) | (refine z24 (i := i) (by rfl) hg ?_; conv => whnf) | (apply And.intro; (first | omega | (unfold inI; omega) | ((try dsimp only); simp only [List.length_map, List.length_take, List.length_append, List.length_replicate, List.length_cons, List.length_nil]; omega) | exact ⟨rfl, z21 rfl z26⟩); conv => whnf) | (with_reducible apply z13; omega; intro _; conv => whnf) | (with_reducible apply z62; omega; intro _; conv => whnf) | (apply z7 <;> intro _ <;> conv => whnf) | (apply z41 <;> intro _ <;> conv => whnf))
        all_goals first | (exfalso; omega) | (exfalso; simp_all; done) | skip
        rw [visit_old hn] at hv
        exact z69 (k + 1) [0, 1] (by omega) (by omega) ⟨rfl, by decide, rfl, ⟨⟨rfl, rfl⟩, ⟨rfl, rfl⟩, ⟨rfl, env_sref (by rw [hv]) rfl⟩, ⟨rfl, rfl⟩, ⟨rfl, rfl⟩, trivial⟩, ⟨z28 (z42 (by rw [hv])) (z8 fun _ => rfl), z28 (z42 (by rw [hv])) (z8 fun _ => rfl), trivial⟩⟩
    · repeat' (first | (apply AWP.go ok; rfl; conv => whnf) | (refine z24 (i := i) (by rfl) hg ?_; conv => whnf) | (apply And.intro; (first | omega | (unfold inI; omega)); conv => whnf) | (with_reducible apply z13; omega; intro _; conv => whnf) | (with_reducible apply z62; omega; intro _; conv => whnf) | (apply z13; omega; intro _; conv => whnf) | (apply z7 <;> intro _ <;> conv => whnf) | (apply z80 <;> intro _ <;> conv => whnf))
      all_goals first | (exfalso; omega) | skip
      rw [List.take_of_length_le (by omega)] at hgl
      refine z69 (i + 1) [0, 1] ?_ (by omega) ⟨rfl, by decide, rfl, ⟨⟨rfl, rfl⟩, ⟨rfl, rfl⟩, ⟨rfl, env_sref ?_ rfl⟩, ⟨rfl, rfl⟩, trivial⟩, ⟨z28 (z42 ?_) (z8 fun _ => rfl), z28 (z42 ?_) (z8 fun _ => rfl), trivial⟩⟩
      · rw [hb]; exact hgl
      all_goals (rw [hb, List.take_of_length_le (by omega)])
  · repeat' (first | (apply AWP.go ok; rfl; conv => whnf) | (apply z7 <;> intro _ <;> conv => whnf))
    all_goals first | (exfalso; omega) | skip
    have he : bfs rows ini i = bfsL rows ini := bfsL_end hr hi (by omega) (by omega)
    rw [he]
    exact ret_newN rfl (z8 fun _ => rfl) rfl rfl rfl

theorem l7Reach_ok (rows : List (List Int)) (ini : List Int) (hr : ∀ r ∈ rows, InN rows.length r) (hi : InN rows.length ini) (hN : rows.length ≤ 1048576) (hrl : ∀ r ∈ rows, r.length ≤ 1000000000) (hil : ini.length ≤ 1048576) : CallsA Tryz.prog 100 [lst 1 encL rows, ints ini] [] (ints (bfsL rows ini)) [] :=
  keepI (l7Reach_new rows ini hr hi hN hrl hil) rfl
end Go.Proofs.YtppafngcahgagaaGreat

namespace Go.Proofs.YtppafngcahgagaaGreat
open Go.Gl
attribute [local irreducible] z32 AWP z48 z55 z50

theorem z125 {g : Graph} {a : Aut} (hG : GB g) (hA : AutP a) (ls : List Int) : (∀ r ∈ z34 g ls a, InN (z34 g ls a).length r) ∧ InN (z34 g ls a).length a.ini ∧ (z34 g ls a).length ≤ 3840 ∧ (∀ r ∈ z34 g ls a, r.length ≤ 1000000000) ∧ a.ini.length ≤ 1048576 := by
  have hrl : (z34 g ls a).length = g.st.length * a.acc.length := by unfold z34; rw [z71, Nat.mul_comm]
  have hN := z100 (a := (g.st.length : Int)) (b := (a.acc.length : Int)) (A := 60) (B := 64) (by omega) (by have := hG.1; omega) (by omega) (by have := hA.1; omega)
  have hN2 : ((g.st.length * a.acc.length : Nat) : Int) = (g.st.length : Int) * a.acc.length := by simp
  have ha1 := hA.1
  refine ⟨fun r hr x hx => ?_, fun x hx => ?_, by omega, fun r hr => ?_, ?_⟩
  · rw [hrl]; exact prodRows_lt g hG ls a hA r hr x hx
  · obtain ⟨i, hi, rfl⟩ := List.mem_iff_getElem.1 hx
    have h1 := (hA.2.2.1 i hi hi).1
    have h2 := z100 (a := (g.st.length : Int) - 1) (b := (a.acc.length : Int)) (A := 60) (B := 64) (by have := hG.1; omega) (by have := hG.1; omega) (by omega) (by omega)
    rw [Int.sub_mul, Int.one_mul] at h2
    omega
  · have := prodRows_len g hG ls a hA r hr; omega
  · have := hA.2.2.1.le (by omega); omega

/-- which nodes of the product can be reached -/
noncomputable def prB (g : Graph) (l : List Tree) (a : Aut) : List Bool := if (glB g l && autB a) = true then reachB (z34 g (g.st.map (z36 l)) a) a.ini else []
theorem prB_le (g : Graph) (l : List Tree) (a : Aut) : (prB g l a).length ≤ 3840 := by
  unfold prB
  split
  · rename_i h
    obtain ⟨h1, h2⟩ := Bool.and_eq_true_iff.1 h
    rw [z124]
    exact (z125 ((z87 g).1 (by unfold glB at h1; exact (Bool.and_eq_true_iff.1 h1).1)) (z108.1 h2) _).2.2.1
  · simp

theorem implProductReach_new (g : Graph) (hg : g.mx) (l : List Tree) (hl : Lmx l) (a : Aut) (ha : a.mx) : CallsA Tryz.prog 41 [.agg g.cs, lst 3 Tree.cs' l, .agg a.cs] [] (.tup [.sref 0 0 (prB g l a).length, .bool (glB g l && autB a)]) [.cells 1 ((prB g l a).map enB)] := by
  have k1 := checked_ok g hg l hl a ha
  by_cases hgl : (glB g l && autB a) = true
  · rw [hgl] at k1
    obtain ⟨h1, hab⟩ := Bool.and_eq_true_iff.1 hgl
    have hG := (z87 g).1 (by unfold glB at h1; exact (Bool.and_eq_true_iff.1 h1).1)
    have hL := LabelsOk.of (by unfold glB at h1; exact (Bool.and_eq_true_iff.1 h1).2)
    have hA := z108.1 hab
    have k2 := product_ok g hG l hL a hA
    obtain ⟨f1, f2, f3, f4, f5⟩ := z125 hG hA (g.st.map (z36 l))
    have e : prB g l a = reachB (z34 g (g.st.map (z36 l)) a) a.ini := by unfold prB; rw [if_pos hgl]
    rw [e, hgl, z124]
    generalize z34 g (g.st.map (z36 l)) a = rows at *
    have k3 := reachable_new rows a.ini f1 f2 (by omega) f4 f5
    refine z14 z18 Tryz.func41 rfl rfl 20 Tryz.ntmps41 (by simp) ?_
    repeat' (first | (apply AWP.go ok; rfl; conv => whnf) | (apply z9 (k1); rfl; rfl; conv => whnf) | (apply z9 (k2); rfl; rfl; conv => whnf) | (apply call_lend (k3); (focus ((repeat' (first | exact z86 | apply z57)) <;> (rfl))); rfl; rfl; rfl; rfl; (focus ((repeat' (first | exact z12 | apply z11)) <;> ((refine z23 ?_; ((exact z8 (fun _ => rfl))))))); (exact .inl rfl); conv => whnf))
    exact z89 [2] (by decide) rfl rfl rfl ⟨z28 rfl (z8 fun _ => rfl), trivial⟩
  · have e : prB g l a = [] := by unfold prB; rw [if_neg hgl]
    have hgl := (Bool.not_eq_true _).mp hgl
    rw [hgl] at k1
    rw [e, hgl]
    refine CallsA.nils (res := .tup [.nils, .bool false]) ?_ (by simp) (tup_sref nil_sref)
    refine z14 z18 Tryz.func41 rfl rfl 20 Tryz.ntmps41 (by simp) ?_
    repeat' (first | (apply AWP.go ok; rfl; conv => whnf) | (apply z9 (k1); rfl; rfl; conv => whnf))
    exact z47 rfl rfl rfl

theorem specProductReach_ok (g : Graph) (hg : g.mx) (l : List Tree) (hl : Lmx l) (a : Aut) (ha : a.mx) : CallsA Tryz.prog 42 [.agg g.cs, lst 3 Tree.cs' l, .agg a.cs] [] (.tup [lst 1 enB (prB g l a), .bool (glB g l && autB a)]) [] := by
  have k0 := z107 g hg l hl
  have k1 := z88 a ha
  by_cases hgl : (glB g l && autB a) = true
  · obtain ⟨h1, hab⟩ := Bool.and_eq_true_iff.1 hgl
    have hG := (z87 g).1 (by unfold glB at h1; exact (Bool.and_eq_true_iff.1 h1).1)
    have hL := LabelsOk.of (by unfold glB at h1; exact (Bool.and_eq_true_iff.1 h1).2)
    have hA := z108.1 hab
    have k2 := l8Product_ok g hG (g.st.map (z36 l)) (by simp) (fun x hx => by
      obtain ⟨s, _, rfl⟩ := List.mem_map.1 hx
      exact letter_range hL s) a hA
    obtain ⟨f1, f2, f3, f4, f5⟩ := z125 hG hA (g.st.map (z36 l))
    have e : prB g l a = reachB (z34 g (g.st.map (z36 l)) a) a.ini := by unfold prB; rw [if_pos hgl]
    rw [if_pos h1, h1] at k0
    rw [hab] at k1
    rw [e, hgl]
    generalize g.st.map (z36 l) = ls at *
    generalize z34 g ls a = rows at *
    have k3 := l7Reach_ok rows a.ini f1 f2 (by omega) f4 f5
    have hB := bfs_reachB f1 f2
    have hin := bfs_in f1 f2 rows.length
    have hbl := bfs_len f1 f2 rows.length
    refine keepB (n := rows.length) ?_ (z124 _ _) rfl
    rw [← hB]
    unfold bfsL at k3 ⊢
    generalize bfs rows a.ini rows.length = Q at *
    refine z14 z18 Tryz.func42 rfl rfl 52 Tryz.ntmps42 (by simp) ?_
    repeat' (first | (apply AWP.go ok; rfl; conv => whnf) | (apply And.intro; ((dsimp only; omega)); conv => whnf) | (apply z9 (k0); rfl; rfl; conv => whnf) | (apply z9 (k1); rfl; rfl; conv => whnf) | (apply z9 (k2); rfl; rfl; conv => whnf) | (apply z9 (k3); rfl; rfl; conv => whnf))
    all_goals skip
    refine z82 (fun i : Nat => ([(11, .sref 2 0 rows.length), (12, ints Q), (13, .int i)], [.cells 2 [[lst 2 State.cs g.st, lst 1 encL g.nx]], .cells 3 [[lst 1 enI a.ini, lst 1 enB a.acc, lst 4 Trans.cs a.ed]], .cells 1 ((mkB rows.length (Q.take i)).map enB)])) (fun i => i ≤ Q.length) (fun i => Q.length - i) 0 (by omega) ⟨[0, 1, 2], rfl, by decide, rfl, ⟨⟨rfl, rfl⟩, ⟨rfl, rfl⟩, ⟨rfl, rfl⟩, trivial⟩, ⟨z19 rfl rfl, z19 rfl rfl, z28 (z42 (by rw [List.take_zero, mkB_nil, List.map_replicate]; rfl)) (z8 fun _ => rfl), trivial⟩⟩ ?_
    intro i hi
    by_cases hil : i < Q.length
    · have hx := hin Q[i] (List.getElem_mem _)
      repeat' (first | (apply AWP.go ok; rfl; conv => whnf) | (refine get_mkB (enc := enB) (v := Q[i]) (by rfl) hx.1 hx.2 ?_; conv => whnf) | (apply And.intro; (first | omega | (unfold inI; omega)); conv => whnf) | (with_reducible apply z13; omega; intro _; conv => whnf) | (apply z7 <;> intro _ <;> conv => whnf))
      all_goals first | (exfalso; omega) | skip
      exact z69 (i + 1) [0, 1, 2] (by omega) (by omega) ⟨rfl, by decide, rfl, ⟨⟨rfl, rfl⟩, ⟨rfl, rfl⟩, ⟨rfl, rfl⟩, trivial⟩, ⟨z19 rfl rfl, z19 rfl rfl, z28 (z42 (set_mkB (enc := enB) (by rfl) hx.1 hx.2 fun v => by rw [List.take_succ_eq_append_getElem hil, List.mem_append, List.mem_singleton])) (z8 fun _ => rfl), trivial⟩⟩
    · repeat' (first | (apply AWP.go ok; rfl; conv => whnf) | (apply And.intro; (omega); conv => whnf) | (with_reducible apply z13; omega; intro _; conv => whnf) | (apply z13; omega; intro _; conv => whnf) | (apply z7 <;> intro _ <;> conv => whnf))
      all_goals first | (exfalso; omega) | skip
      rw [List.take_of_length_le (by omega)]
      exact z89 [2] (by decide) rfl rfl rfl ⟨z28 rfl (z8 fun _ => rfl), trivial⟩
  · have e : prB g l a = [] := by unfold prB; rw [if_neg hgl]
    have hgl := (Bool.not_eq_true _).mp hgl
    rw [e, hgl]
    refine z14 z18 Tryz.func42 rfl rfl 52 Tryz.ntmps42 (by simp) ?_
    repeat' (first | (apply AWP.go ok; rfl; conv => whnf) | (apply z41 <;> intro _ <;> conv => whnf) | (apply z80 <;> intro _ <;> conv => whnf) | (apply z9 (k0); rfl; rfl; conv => whnf) | (apply z9 (k1); rfl; rfl; conv => whnf))
    all_goals first | exact ret_le rfl rfl (tup_le2 sref_le) | (exfalso; rename_i x y; rw [x, z108.2 y] at hgl; simp at hgl; done)

end Go.Proofs.YtppafngcahgagaaGreat

namespace Go.Proofs.YtppafngcahgagaaGreat
open Go.Gl
attribute [local irreducible] z32 AWP z48 z55 z50

theorem agg_sref {x x' : AC} (h : ACle x x') : ACle (.agg [x]) (.agg [x']) := fun G hh v hv => by
  simp only [V, VL] at hv ⊢
  obtain ⟨c, rfl, hs, ⟨u, h1, h2⟩, _⟩ := hv
  exact ⟨c, rfl, hs, ⟨u, h1, h _ _ _ h2⟩, trivial⟩

/-! certificates: owned copies and marks -/
structure Cert.ok (c : Cert) : Prop where
  mx : c.mx
  len : c.ranks.length ≤ 1048576
theorem Cert.ok_of {c : Cert} (h : c.mx) (h1 : c.s1 ≤ 1048576) : c.ok := ⟨h, h1⟩
def redAt (B : List Bool) (R : List Int) (i : Nat) : Int := if B.getD i false then R.getD i 0 else -1
def redL (B : List Bool) (R : List Int) : List Int := (List.range R.length).map (redAt B R)
theorem z130 (B : List Bool) (R : List Int) : (redL B R).length = R.length := by simp [redL]
noncomputable def redC (g : Graph) (l : List Tree) (a : Aut) (c : Cert) : Cert := ⟨if certB g l a c = true then redL (prB g l a) c.ranks else []⟩
theorem redC_le (g : Graph) (l : List Tree) (a : Aut) (c : Cert) : (redC g l a c).ranks.length ≤ c.ranks.length := by
  unfold redC; dsimp only; split
  · rw [z130]; omega
  · simp
theorem cert_facts {g : Graph} {l : List Tree} {a : Aut} {c : Cert} (h : certB g l a c = true) : (glB g l && autB a) = true ∧ c.ranks.length = g.st.length * a.acc.length := by
  unfold certB at h
  obtain ⟨h1, h2⟩ := Bool.and_eq_true_iff.1 h
  exact ⟨h1, (of_decide_eq_true h2).1⟩
theorem mixL_same {g : Nat → List AC} {F : List (List AC)} {i : Nat} (h : i < F.length) (he : F[i] = g i) : mixL g F i = mixL g F (i + 1) := by
  unfold mixL
  rw [List.drop_eq_getElem_cons h, he, List.range_succ, List.map_append, List.append_assoc]
  rfl

set_option maxHeartbeats 1600000 in
theorem implReduce_new (g : Graph) (hg : g.mx) (l : List Tree) (hl : Lmx l) (a : Aut) (ha : a.mx) (c : Cert) (hc : c.mx) : CallsA Tryz.prog 45 [.agg g.cs, lst 3 Tree.cs' l, .agg a.cs, .agg c.cs] [] (.tup [.agg [.sref 0 0 (redC g l a c).ranks.length], .bool (certB g l a c)]) [.cells 1 ((redC g l a c).ranks.map enI)] := by
  have k1 := checkCertificate_ok g hg l hl a ha c hc
  by_cases hcb : certB g l a c = true
  · obtain ⟨hgl, hlen⟩ := cert_facts hcb
    rw [hcb] at k1
    obtain ⟨h1, hab⟩ := Bool.and_eq_true_iff.1 hgl
    have hG := (z87 g).1 (by unfold glB at h1; exact (Bool.and_eq_true_iff.1 h1).1)
    have hL := LabelsOk.of (by unfold glB at h1; exact (Bool.and_eq_true_iff.1 h1).2)
    have hA := z108.1 hab
    have k2 := product_ok g hG l hL a hA
    obtain ⟨f1, f2, f3, f4, f5⟩ := z125 hG hA (g.st.map (z36 l))
    have hrl : (z34 g (g.st.map (z36 l)) a).length = c.ranks.length := by rw [hlen]; unfold z34; rw [z71, Nat.mul_comm]
    have e : redC g l a c = ⟨redL (prB g l a) c.ranks⟩ := by unfold redC; rw [if_pos hcb]
    have e2 : prB g l a = reachB (z34 g (g.st.map (z36 l)) a) a.ini := by unfold prB; rw [if_pos hgl]
    rw [e, hcb]
    dsimp only
    rw [z130, e2]
    generalize z34 g (g.st.map (z36 l)) a = rows at *
    have k3 := reachable_new rows a.ini f1 f2 (by omega) f4 f5
    have k4 := implClone_new c.ranks (by omega)
    have hBl := z124 rows a.ini
    generalize reachB rows a.ini = B at *
    refine z14 z18 Tryz.func45 rfl rfl 45 Tryz.ntmps45 (by simp) ?_
    repeat' (first | (apply AWP.go ok; rfl; conv => whnf) | (apply z9 (k1); rfl; rfl; conv => whnf) | (apply z9 (k2); rfl; rfl; conv => whnf) | (apply z6 [] [] [4] (k4); rfl; (focus ((repeat' (exact z4)) <;> (fail))); rfl; rfl; rfl; rfl; rfl; (focus ((repeat' (first | exact z12 | apply z11)) <;> ((refine z23 ?_; ((exact z8 (fun _ => rfl))))))); (exact .inl rfl); conv => whnf) | (apply z6 [] [] [6] (k3); rfl; (focus ((repeat' (exact z4)) <;> (fail))); rfl; rfl; rfl; rfl; rfl; (focus ((repeat' (first | exact z12 | apply z11)) <;> ((refine z23 ?_; ((exact z8 (fun _ => rfl))))))); (exact .inl rfl); conv => whnf))
    refine z82 (fun i : Nat => ([(8, .ptr 0 none 0), (10, .ptr 1 none 0), (30, .sref 3 0 rows.length), (31, .int rows.length), (32, .int i)], [.cells 1 [[.nils]], .cells 1 [[.sref 2 0 c.ranks.length]], .cells 1 (mixL (fun j => enI (redAt B c.ranks j)) (c.ranks.map enI) i), .cells 1 (B.map enB)])) (fun i => i ≤ rows.length) (fun i => rows.length - i) 0 (by omega) ⟨[3, 5, 4, 6], rfl, by decide, rfl, ⟨⟨rfl, rfl⟩, ⟨rfl, rfl⟩, ⟨rfl, rfl⟩, ⟨rfl, rfl⟩, ⟨rfl, rfl⟩, trivial⟩, ⟨z19 rfl rfl, z19 rfl rfl, z28 (z42 (mixL_zero _ _).symm) (mixL_flat (fun _ => rfl) (fun _ => rfl)), z28 rfl (z8 fun _ => rfl), trivial⟩⟩ ?_
    intro i hi
    by_cases hil : i < rows.length
    · have hgB : (B.map enB)[i]? = some (enB B[i]) := by rw [List.getElem?_map, List.getElem?_eq_getElem (by omega)]; rfl
      have hra : redAt B c.ranks i = if B[i] then c.ranks[i] else -1 := by unfold redAt; rw [z25 (by omega), z25 (by omega)]
      generalize hBi : B[i] = b at hgB hra
      cases b
      · repeat' (first | (apply AWP.go ok; rfl; conv => whnf) | (refine get_mix (by omega) (by omega) ?_; conv => whnf) | (refine z24 (i := i) (by rfl) hgB ?_; conv => whnf) | (apply And.intro; (first | omega | (unfold inI; omega)); conv => whnf) | (apply z7 <;> intro _ <;> conv => whnf))
        all_goals first | (exfalso; omega) | skip
        exact z69 (i + 1) [0, 1, 2, 3] (by omega) (by omega) ⟨rfl, by decide, rfl, ⟨⟨rfl, rfl⟩, ⟨rfl, rfl⟩, ⟨rfl, rfl⟩, ⟨rfl, rfl⟩, ⟨rfl, rfl⟩, trivial⟩, ⟨z19 rfl rfl, z19 rfl rfl, z28 (z42 (mixL_set (by simpa using by omega) (by omega) (by rw [hra]; rfl))) (mixL_flat (fun _ => rfl) (fun _ => rfl)), z28 rfl (z8 fun _ => rfl), trivial⟩⟩
      · repeat' (first | (apply AWP.go ok; rfl; conv => whnf) | (refine z24 (i := i) (by rfl) hgB ?_; conv => whnf) | (apply And.intro; (first | omega | (unfold inI; omega)); conv => whnf) | (apply z7 <;> intro _ <;> conv => whnf))
        all_goals first | (exfalso; omega) | skip
        exact z69 (i + 1) [0, 1, 2, 3] (by omega) (by omega) ⟨rfl, by decide, rfl, ⟨⟨rfl, rfl⟩, ⟨rfl, rfl⟩, ⟨rfl, rfl⟩, ⟨rfl, rfl⟩, ⟨rfl, rfl⟩, trivial⟩, ⟨z19 rfl rfl, z19 rfl rfl, z28 (z42 (mixL_same (by simpa using by omega) (by simp [hra]))) (mixL_flat (fun _ => rfl) (fun _ => rfl)), z28 rfl (z8 fun _ => rfl), trivial⟩⟩
    · repeat' (first | (apply AWP.go ok; rfl; conv => whnf) | (apply And.intro; (omega); conv => whnf) | (apply z13; omega; intro _; conv => whnf) | (apply z7 <;> intro _ <;> conv => whnf) | (apply z80 <;> intro _ <;> conv => whnf))
      all_goals first | (exfalso; omega) | skip
      refine z89 [2] (by decide) rfl rfl rfl ⟨z28 (z42 ?_) (z8 fun _ => rfl), trivial⟩
      rw [mixL_end (by simp; omega), redL, List.map_map, show i = c.ranks.length by omega]; rfl
  · have e : redC g l a c = ⟨[]⟩ := by unfold redC; rw [if_neg hcb]
    have hcb := (Bool.not_eq_true _).mp hcb
    rw [hcb] at k1
    rw [e, hcb]
    refine CallsA.nils (res := .tup [.agg [.nils], .bool false]) ?_ (by simp) (tup_sref (agg_sref nil_sref))
    refine z14 z18 Tryz.func45 rfl rfl 45 Tryz.ntmps45 (by simp) ?_
    repeat' (first | (apply AWP.go ok; rfl; conv => whnf) | (apply z9 (k1); rfl; rfl; conv => whnf))
    all_goals exact z47 rfl rfl rfl
end Go.Proofs.YtppafngcahgagaaGreat

namespace Go.Proofs.YtppafngcahgagaaGreat
open Go.Gl
attribute [local irreducible] z32 AWP z48 z55 z50

theorem bor_tup {objs : Nat → AObj} {π Bn : List Nat} {xs ys : List AC} (h : borL objs π Bn xs = ys) : bor objs π Bn (.tup xs) = .tup ys := by
  simp only [bor, h]
theorem keepC {f : FuncId} {args : List AC} {n : Nat} {L : List Int} {q : Bool} (h : CallsA Tryz.prog f args [] (.tup [.agg [.sref 0 0 n], .bool q]) [.cells 1 (L.map enI)]) (hl : L.length = n) : CallsA Tryz.prog f args [] (.tup [.agg [ints L], .bool q]) [] := by
  subst hl
  exact h.lend [] [0] rfl rfl rfl (bor_tup (z57 (bor_agg (z57 (z119 rfl rfl rfl) z86)) (z57 rfl z86))) z4

set_option maxHeartbeats 1600000 in
theorem specReduce_ok (g : Graph) (hg : g.mx) (l : List Tree) (hl : Lmx l) (a : Aut) (ha : a.mx) (c : Cert) (hc : c.mx) : CallsA Tryz.prog 46 [.agg g.cs, lst 3 Tree.cs' l, .agg a.cs, .agg c.cs] [] (.tup [.agg (redC g l a c).cs, .bool (certB g l a c)]) [] := by
  have k1 := specCheckCertificate_ok g hg l hl a ha c hc
  have k2 := specProductReach_ok g hg l hl a ha
  by_cases hcb : certB g l a c = true
  · obtain ⟨hgl, hlen⟩ := cert_facts hcb
    rw [hcb] at k1
    have hpl := prB_le g l a
    have hpr : (prB g l a).length = c.ranks.length := by
      rw [hlen]; unfold prB; rw [if_pos hgl, z124]; unfold z34; rw [z71, Nat.mul_comm]
    have e : redC g l a c = ⟨redL (prB g l a) c.ranks⟩ := by unfold redC; rw [if_pos hcb]
    rw [e, hcb]
    generalize prB g l a = B at *
    have hrl := z130 B c.ranks
    have hat : ∀ i (h : i < (redL B c.ranks).length), (redL B c.ranks)[i] = redAt B c.ranks i := fun i h => by simp [redL]
    refine keepC (n := c.ranks.length) ?_ hrl
    generalize redL B c.ranks = L at *
    refine z14 z18 Tryz.func46 rfl rfl 52 Tryz.ntmps46 (by simp) ?_
    repeat' (first | ((fail_if_success apply z122 5); (fail_if_success apply z92 5); apply AWP.go ok; rfl; conv => whnf) | (apply z9 (k1); rfl; rfl; conv => whnf) | (apply z9 (k2); rfl; rfl; conv => whnf))
    all_goals skip
    refine AWP.reach (Gl.Reach.weaken (es' := [[.own 1 []]]) 4 rfl rfl (fun i e' h => by
      match i, h with
      | 0, h => cases h; exact ⟨_, rfl, rfl, fun j x' hx => by
          match j, hx with
          | 0, hx => cases hx; exact ⟨_, rfl, nils_own⟩
          | j + 1, hx => simp at hx⟩
      | i + 1, h => simp at h) rfl) ?_
    conv => whnf
    repeat' (fail)
    refine z82 (fun i : Nat => ([(7, .ptr 0 none 0), (8, .ptr 1 none 0), (10, lst 1 enB B), (12, .ptr 2 none 0), (13, .int i)], [.cells 1 [[ints c.ranks]], .cells 1 [[.nils]], .cells 1 [[.own 1 ((L.take i).map enI)]]])) (fun i => i ≤ B.length) (fun i => B.length - i) 0 (by omega) ⟨[2, 3, 4], rfl, by decide, rfl, ⟨⟨rfl, rfl⟩, ⟨rfl, rfl⟩, ⟨rfl, rfl⟩, ⟨rfl, rfl⟩, ⟨rfl, rfl⟩, trivial⟩, ⟨z19 rfl rfl, z19 rfl rfl, z19 rfl rfl, trivial⟩⟩ ?_
    intro i hi
    by_cases hil : i < B.length
    · have hgB : (B.map enB)[i]? = some (enB B[i]) := by rw [List.getElem?_map, List.getElem?_eq_getElem (by omega)]; rfl
      have hra := hat i (by omega)
      unfold redAt at hra
      rw [z25 hil, z25 (by omega)] at hra
      have htl : ((L.take i).map enI).length = i := by simp; omega
      generalize hBi : B[i] = b at hgB hra
      cases b
      all_goals
        repeat' (first | ((fail_if_success apply z122 11); (fail_if_success apply z92 11); apply AWP.go ok; rfl; conv => whnf) | (refine z24 (i := i) (by rfl) hgB ?_; conv => whnf) | (apply And.intro; (omega); conv => whnf) | (with_reducible apply z13; omega; intro _; conv => whnf) | (apply z7 <;> intro _ <;> conv => whnf))
        all_goals first | (exfalso; omega) | skip
        refine AWP.reach (Gl.Reach.exposeD (e := [.own 1 ((L.take i).map enI)]) 2 0 0 rfl rfl rfl rfl) ?_
        conv => whnf
        rw [htl]
        repeat' (first | ((fail_if_success apply z122 7); (fail_if_success apply z92 7); apply AWP.go ok; rfl; conv => whnf) | (apply And.intro; (first | (dsimp only; omega) | exact ⟨rfl, z21 rfl z26⟩); conv => whnf))
        all_goals skip
        refine AWP.reach (Gl.Reach.absorb 2 5 0 0 rfl rfl rfl rfl (by simp; omega) rfl (z91 (fun e he => (z8 (fun _ => rfl)) e (List.mem_of_mem_take he)) (flat_cons rfl z38)) rfl) ?_
        conv => whnf
        repeat' (first | (apply AWP.go ok; rfl; conv => whnf) | (apply And.intro; ((unfold inI; omega)); conv => whnf))
        refine z69 (i + 1) [0, 1, 2] (by omega) (by omega) ⟨rfl, by decide, rfl, ⟨⟨rfl, rfl⟩, ⟨rfl, rfl⟩, ⟨rfl, rfl⟩, ⟨rfl, rfl⟩, ⟨rfl, rfl⟩, trivial⟩, ⟨z19 rfl rfl, z19 rfl rfl, z19 rfl (z42 ?_), trivial⟩⟩
        simp only [List.set_cons_zero, renL, AC.ren]
        rw [List.take_succ_eq_append_getElem (show i < L.length by omega), List.map_append, List.take_of_length_le (by rw [htl]; exact Nat.le_refl _), hra]
        rfl
    · repeat' (first | ((fail_if_success apply z122 12); (fail_if_success apply z92 12); apply AWP.go ok; rfl; conv => whnf) | (apply And.intro; (omega); conv => whnf) | (with_reducible apply z13; omega; intro _; conv => whnf) | (apply z7 <;> intro _ <;> conv => whnf) | (apply z84 <;> intro _ <;> conv => whnf))
      all_goals first | (exfalso; omega) | skip
      refine AWP.reach (Gl.Reach.exposeD (e := [.own 1 ((L.take i).map enI)]) 2 0 0 rfl rfl rfl rfl) ?_
      conv => whnf
      rw [show ((L.take i).map enI) = L.map enI by rw [List.take_of_length_le (by omega)], show (L.map enI).length = c.ranks.length by rw [List.length_map]; omega]
      repeat' ((apply AWP.go ok; rfl; conv => whnf))
      exact z89 [3] (by decide) rfl rfl rfl ⟨z28 rfl (z8 fun _ => rfl), trivial⟩
  · have e : redC g l a c = ⟨[]⟩ := by unfold redC; rw [if_neg hcb]
    have hcb := (Bool.not_eq_true _).mp hcb
    rw [hcb] at k1
    rw [e, hcb]
    refine z14 z18 Tryz.func46 rfl rfl 52 Tryz.ntmps46 (by simp) ?_
    repeat' (first | (apply AWP.go ok; rfl; conv => whnf) | (apply z9 (k1); rfl; rfl; conv => whnf))
    all_goals exact ret_le rfl rfl (tup_sref (agg_sref nils_le))
end Go.Proofs.YtppafngcahgagaaGreat

namespace Go.Proofs.YtppafngcahgagaaGreat
open Go.Gl
attribute [local irreducible] z32 AWP z48 z55 z50 RetS z65

theorem trA_len (t : Tree) (hs : t.sz ≤ 200) : (trA t).ini.length ≤ 32 ∧ (trA t).acc.length ≤ 66 ∧ (trA t).ed.length ≤ 2080 := by
  unfold trA trO
  by_cases h : bscB t = true
  · rw [if_pos h]
    obtain ⟨⟨ht, hn⟩, h5⟩ := of_decide_eq_true (show decide _ = true from h)
    have hp := pow_5 h5
    have hi := iniS_len (bscL (t.nrm false)) (t.nrm false)
    cases hS : trS (bscL (t.nrm false)) (t.nrm false) with
    | none => exact ⟨Nat.zero_le _, Nat.zero_le _, Nat.zero_le _⟩
    | some y =>
      have hg := goS_len _ _ _ _ _ _ hS
      simp only [List.length_nil] at hg
      show (numI _).length ≤ 32 ∧ (if y.L.length = 0 then [false] else y.acc).length ≤ 66 ∧ (y.ed.map eT).length ≤ 2080
      rw [numI_len, List.length_map]
      refine ⟨by omega, ?_, by omega⟩
      split
      · simp
      · omega
  · rw [if_neg h]; exact ⟨Nat.zero_le _, Nat.zero_le _, Nat.zero_le _⟩
theorem letB_lt {B : List Tree} (hB : BasL B) (s : Int) (i : Nat) : ((List.range i).foldl (atoI B s) (0, 0)).2 < 8 := by
  induction i with
  | zero => show 0 < 8; omega
  | succ i ih =>
    rw [atoI_foldl]
    unfold atoI
    split
    · rename_i hk
      dsimp only
      split
      · by_cases hil : i < B.length
        · have hmem : B.getD i dftT ∈ B := by rw [z25 hil]; exact List.getElem_mem _
          have hform := hB.form hmem
          have hvv : (B.getD i dftT).val.toNat ≤ 2 := by
            generalize B.getD i dftT = f at *
            cases hform with
            | «at» v => have := hB.av v hmem; show v.toNat ≤ 2; omega
            | nx a _ _ => simp [Tree.kind] at hk
            | un a b _ _ _ _ => simp [Tree.kind] at hk
            | re a b _ _ _ _ => simp [Tree.kind] at hk
          exact orP_lt ih hvv
        · rw [List.getD_eq_getElem?_getD, List.getElem?_eq_none (by omega)]
          exact orP_lt ih (show (0 : Nat) ≤ 2 by omega)
      · exact ih
    · exact ih
theorem edge_val (B : List Tree) (s ph : Int) (i : Nat) (c v : Int) : ∀ (l : List Nat) (x : List (List Int) × List Edg), ∀ e ∈ (l.foldl (edgeS B s ph i c v) x).2, e ∈ x.2 ∨ e.val = v
  | [], x, e, he => .inl he
  | t :: l, x, e, he => by
    rw [List.foldl_cons] at he
    rcases edge_val B s ph i c v l _ e he with h | h
    · unfold edgeS at h
      split at h
      · rcases List.mem_append.1 h with h1 | h1
        · exact .inl h1
        · rw [List.mem_singleton.1 h1]; exact .inr rfl
      · exact .inl h
    · exact .inr h
theorem goS_val (B : List Tree) (U : List Int) : ∀ (f i : Nat) (x y : TrS), goS B U f i x = some y → ∀ e ∈ y.ed, e ∈ x.ed ∨ ∃ s, e.val = ((letB B s).2 : Int)
  | 0, i, x, y, h => by simp [goS] at h
  | f + 1, i, x, y, h => by
    rw [goS] at h
    split at h
    · split at h
      · cases h
      · intro e he
        rcases goS_val B U f (i + 1) _ y h e he with h1 | h1
        · rcases edge_val B _ _ i _ _ _ _ e h1 with h2 | h2
          · exact .inl h2
          · exact .inr ⟨_, h2⟩
        · exact .inr h1
    · cases h
      exact fun e he => .inl he
theorem trA_val (t : Tree) (hs : t.sz ≤ 200) : ∀ e ∈ (trA t).ed, e.mx := by
  unfold trA trO
  by_cases h : bscB t = true
  · rw [if_pos h]
    obtain ⟨⟨ht, hn⟩, h5⟩ := of_decide_eq_true (show decide _ = true from h)
    obtain ⟨hB, _, _⟩ := basL_of ht hn h5 hs
    cases hS : trS (bscL (t.nrm false)) (t.nrm false) with
    | none => intro e he; cases he
    | some y =>
      intro e he
      obtain ⟨e', he', rfl⟩ := List.mem_map.1 (show e ∈ y.ed.map eT from he)
      rcases goS_val _ _ _ _ _ _ hS e' he' with h1 | ⟨s, h1⟩
      · cases h1
      · have := letB_lt hB s (bscL (t.nrm false)).length
        show inI e'.val
        unfold inI
        rw [h1]
        unfold letB
        omega
  · rw [if_neg h]; intro e he; cases he
end Go.Proofs.YtppafngcahgagaaGreat

