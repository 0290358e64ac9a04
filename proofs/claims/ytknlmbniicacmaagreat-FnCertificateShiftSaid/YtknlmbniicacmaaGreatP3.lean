/- A part of the proofs over this program: T93, T94, T140, T141, T142, T143, T144, T145, T146. -/
import Derived.Test.YtknlmbniicacmaaGreatG0
import Derived.Test.YtknlmbniicacmaaGreatG1
import Derived.Test.YtknlmbniicacmaaGreatG2
import Derived.Test.YtknlmbniicacmaaGreatG3
import Derived.Test.YtknlmbniicacmaaGreatP0
import Derived.Test.YtknlmbniicacmaaGreatP1
import Derived.Test.YtknlmbniicacmaaGreatP2
set_option linter.all false
namespace Go.Proofs.YtknlmbniicacmaaGreat
open Go.Gl
attribute [local irreducible] z48 AWP z76 z84 z81 RetS z103

def isSt (bs : List Int) (i : Int) (q : Int) (t : State) (q' : Int) : Prop := ∃ a b : Int, t = ⟨[i % 3], [a, b, 0]⟩ ∧ q' = q + 1 + 1 ∧
  CallsA Tryz.prog 73 [.ptr 0 none 0, .int 3] [rdO bs q] (.int a) [rdO bs (q + 1)] ∧ CallsA Tryz.prog 73 [.ptr 0 none 0, .int 2] [rdO bs (q + 1)] (.int b) [rdO bs (q + 1 + 1)]
def isRow (bs : List Int) (n : Nat) (q : Int) (r : List Int) (q' : Int) : Prop := ∃ a b c : Int, r = (if c = 0 ∧ b ≠ a then [a, b] else [a]) ∧ q' = q + 1 + 1 + 1 ∧
  CallsA Tryz.prog 73 [.ptr 0 none 0, .int n] [rdO bs q] (.int a) [rdO bs (q + 1)] ∧ CallsA Tryz.prog 73 [.ptr 0 none 0, .int n] [rdO bs (q + 1)] (.int b) [rdO bs (q + 1 + 1)] ∧
  CallsA Tryz.prog 73 [.ptr 0 none 0, .int 2] [rdO bs (q + 1 + 1)] (.int c) [rdO bs (q + 1 + 1 + 1)]
structure Small (bs : List Int) (q q' : Int) (g : Graph) (m : Nat) (pf pg : Nat → Int) : Prop where
  num : CallsA Tryz.prog 158 [.ptr 0 none 0, .sref 1 0 6] [rdO bs q, .cells 1 ([3, 4, 2, 5, 1, 6].map enI)] (.int m) [rdO bs (pf 0), .cells 1 ([3, 4, 2, 5, 1, 6].map enI)]
  m1 : 1 ≤ m
  m6 : m ≤ 6
  sl : g.st.length = m
  nl : g.nx.length = m
  st : ∀ k (h : k < g.st.length), isSt bs (m - k) (pf k) g.st[k] (pf (k + 1))
  mid : pf m = pg 0
  row : ∀ k (h : k < g.nx.length), isRow bs m (pg k) g.nx[k] (pg (k + 1))
  last : pg m = q'
  q0 : q ≤ q'
  q1 : q' ≤ q + 40
theorem small_ex (bs : List Int) (hb : BytesOk bs) (q : Int) (hq : 0 ≤ q ∧ q ≤ 999990000) : ∃ g q' m pf pg, Small bs q q' g m pf pg := by
  obtain ⟨w, mw, cw⟩ := z117 bs hb q (by omega) (by omega) [3, 4, 2, 5, 1, 6] (by decide) (by decide)
  simp only [List.mem_cons, List.not_mem_nil, or_false] at mw
  obtain ⟨m, rfl⟩ : ∃ m : Nat, w = m := ⟨w.toNat, by omega⟩
  obtain ⟨S, pf, h1, h2, h3, h4⟩ := seq_ex (fun k r t r' => isSt bs (m - k) r t r') (q + 1) 2 m (fun k r hk a1 a2 => by
    obtain ⟨a, _, ca⟩ := z74 bs hb r 3 (by omega) (by omega) (by omega)
    obtain ⟨b, _, cb⟩ := z74 bs hb (r + 1) 2 (by omega) (by omega) (by omega)
    exact ⟨_, _, ⟨a, b, rfl, rfl, ca, cb⟩, by omega, by omega⟩)
  have h5 := h4 m (Nat.le_refl _)
  obtain ⟨G, pg, g1, g2, g3, g4⟩ := seq_ex (fun _ r t r' => isRow bs m r t r') (pf m) 3 m (fun k r hk a1 a2 => by
    obtain ⟨a, _, ca⟩ := z74 bs hb r m (by omega) (by omega) (by omega)
    obtain ⟨b, _, cb⟩ := z74 bs hb (r + 1) m (by omega) (by omega) (by omega)
    obtain ⟨c, _, cc⟩ := z74 bs hb (r + 1 + 1) 2 (by omega) (by omega) (by omega)
    exact ⟨_, _, ⟨a, b, c, rfl, rfl, ca, cb, cc⟩, by omega, by omega⟩)
  have g5 := g4 m (Nat.le_refl _)
  exact ⟨⟨S, G⟩, pg m, m, pf, pg, by rw [← h2] at cw; exact cw, by omega, by omega, h1, g1, h3, g2.symm, g3, rfl, by omega, by omega⟩
theorem Small.sm {bs : List Int} {q q' : Int} {g : Graph} {m : Nat} {pf pg : Nat → Int} (h : Small bs q q' g m pf pg) : g.sm := by
  have h1 := h.sl
  have h2 := h.nl
  have h3 := h.m6
  refine ⟨by omega, by omega, fun s hs => ?_, fun r hr => ?_⟩
  · obtain ⟨i, hi, rfl⟩ := List.mem_iff_getElem.1 hs
    obtain ⟨a, b, e, _⟩ := h.st i hi
    rw [e]; exact ⟨by simp, by simp⟩
  · obtain ⟨i, hi, rfl⟩ := List.mem_iff_getElem.1 hr
    obtain ⟨a, b, c, e, _⟩ := h.row i hi
    rw [e]; split <;> simp

set_option maxHeartbeats 6400000 in
theorem l4Graph_ok (bs : List Int) (hb : BytesOk bs) (p : Int) (hp : few3 p) : ∃ (g : Graph) (p' : Int), (g.sm ∧ 1 ≤ g.st.length ∧ g.nx.length = g.st.length ∧ p ≤ p' ∧ p' ≤ p + 5000) ∧ CallsA Tryz.prog 86 [.ptr 0 none 0] [rdO bs p] (.agg g.cs) [rdO bs p'] := by
  obtain ⟨v, ⟨v0, v1⟩, cv⟩ := z74 bs hb p 3 (by omega) (by omega) (by omega)
  by_cases hv : 0 < v
  · obtain ⟨s, q0, ⟨hs, s0, s1⟩, cs⟩ := l2System_ok bs hb (p + 1) ⟨by omega, by omega⟩
    have cB := buildGraph_ok s hs
    by_cases hr : ∃ g, buildB s = some g ∧ g.st.length ≤ 24
    · obtain ⟨g, hg, hl⟩ := hr
      have hI : GInv s g.st g.nx g.st.length := by
        have h := hg
        unfold buildB at h
        split at h
        · rename_i hv2
          have hso := Sys.ok_of hv2
          exact grow_inv hso 61 _ _ 0 g ⟨by simp, by simp, by simp, rfl, fun t ht => by
            rw [List.mem_singleton.1 ht]
            exact ⟨by simp, hso.init⟩, by simp⟩ h
        · cases h
      have hso : s.ok := by
        have h := hg
        unfold buildB at h
        split at h
        · exact Sys.ok_of (by assumption)
        · cases h
      refine ⟨g, q0, ⟨⟨by omega, by have := hI.g; omega, fun t ht => (hI.st t ht).sm hso, fun r hr => by have := hI.row r hr; omega⟩, hI.one, hI.g, by omega, by omega⟩, ?_⟩
      rw [hg] at cB
      simp only [Option.getD_some, Option.isSome_some] at cB
      refine z14 z29 Tryz.func86 rfl rfl 88 Tryz.ntmps86 (by simp) ?_
      repeat' ((first | (apply AWP.go ok; rfl) | ((apply z8) <;> intro _) | (apply z10 (cB); rfl; rfl) | ((first | (apply z7 [0] [] [] (cv); rfl; (focus ((repeat' first | exact z6 | apply z5) <;> rfl))) | (apply z7 [0] [] [] (cs); rfl; (focus ((repeat' first | exact z6 | apply z5) <;> rfl)))); rfl; rfl; rfl; rfl; rfl; (focus ((repeat' first | exact z19 | apply z16) <;> exact z25 rfl rfl)); (exact .inl rfl))) <;> conv => whnf)
      all_goals first | (exfalso; omega) | skip
      all_goals (refine RetS.lay [0] [] rfl rfl rfl ?_; refine RetS.done ?_ ?_ <;> (repeat' (first | exact LocLe.refl _ | exact F2.nil | apply F2.cons | apply ObjLe.box)))
    · obtain ⟨g, q', m, pf, pg, F⟩ := small_ex bs hb q0 (by omega)
      have m1 := F.m1
      have m6 := F.m6
      have sl := F.sl
      have nl := F.nl
      have z0 := F.q0
      have z1 := F.q1
      cases hB : buildB s with
      | none =>
        rw [hB] at cB
        simp only [Option.getD_none, Option.isSome_none] at cB
        refine ⟨g, q', ⟨F.sm, by omega, by omega, by omega, by omega⟩, ?_⟩
        have Fn := F.num
        refine z14 z29 Tryz.func86 rfl rfl 88 Tryz.ntmps86 (by simp) ?_
        repeat' ((first | (apply AWP.go ok; rfl) | ((apply z8) <;> intro _) | (apply z10 (cB); rfl; rfl) | ((first | (apply z7 [0] [] [] (cv); rfl; (focus ((repeat' first | exact z6 | apply z5) <;> rfl))) | (apply z7 [0] [] [] (cs); rfl; (focus ((repeat' first | exact z6 | apply z5) <;> rfl))) | (apply z7 [0, 4] [] [] (Fn); rfl; (focus ((repeat' first | exact z6 | apply z5) <;> rfl)))); rfl; rfl; rfl; rfl; rfl; (focus ((repeat' first | exact z19 | apply z16) <;> first | exact z25 rfl rfl | (refine z34 ?_; ((exact z4 fun _ => rfl))))); (exact .inl rfl))) <;> conv => whnf)
        all_goals first | (exfalso; omega) | skip
        all_goals
          refine AWP.reach (Reach.empty 2 rfl) ?_
          refine z115 (fun k : Nat => ([(0, .ptr 0 none 0), (2, .ptr 1 none 0), (5, .ptr 2 none 0), (6, .int (m - k))], [rdO bs (pf k), .cells 2 [[.nils, .nils]], .cells 2 [[.sref 3 0 k, .nils]], .cells 2 ((g.st.take k).map State.cs)])) (fun k => k ≤ m) (fun k => m - k) 0 (by omega) (by refine SealW.reach [0, 1, 3, 5] [] rfl rfl rfl rfl ?_ ?_ <;> (repeat' (first | exact LocLe.refl _ | exact z40 | exact F2.nil | apply F2.cons | apply ObjLe.box | ((refine z17 rfl ?_ ?_); (focus ((repeat' (exact z12)); done))) | exact True.intro | apply And.intro))) ?_
          intro k hk
          by_cases hkm : k < m
          · have hkl : k < g.st.length := by omega
            obtain ⟨a, b, es, eq, ca, cb⟩ := F.st k hkl
            rw [← eq] at cb
            repeat' ((first | (apply AWP.go ok; rfl) | (apply z38; kernel_rfl) | (apply And.intro; first | omega | (unfold inI; omega) | ((try dsimp only); simp only [List.length_map, List.length_take, List.length_append, List.length_replicate, List.length_cons, List.length_nil]; omega) | exact ⟨rfl, z21 rfl z26⟩) | ((apply z8) <;> intro _) | ((first | (apply z7 [0] [] [] (ca); rfl; (focus ((repeat' first | exact z6 | apply z5) <;> rfl))) | (apply z7 [0] [] [] (cb); rfl; (focus ((repeat' first | exact z6 | apply z5) <;> rfl)))); rfl; rfl; rfl; rfl; rfl; (focus ((repeat' first | exact z19 | apply z16) <;> exact z25 rfl rfl)); (exact .inl rfl))) <;> conv => whnf)
            all_goals first | (exfalso; omega) | skip
            all_goals refine z49 (k + 1) (by omega) (by omega) (by refine SealW.reach [0, 1, 2, 7] [4, 5] rfl rfl rfl rfl ?_ ?_ <;> (repeat' (first | exact LocLe.refl _ | exact F2.nil | apply F2.cons | (refine z78 ?_; omega) | apply ObjLe.box | ((refine z24 rfl ?_ ?_); (focus ((repeat' (first | exact z4 (fun _ => rfl) | apply z15)); done))) | (refine z73 (by omega) (by omega) ?_) | ((apply z41 rfl rfl rfl); (focus ((repeat (rfl)); done)); (focus ((rfl); done))) | exact True.intro | apply And.intro)) <;> (rw [es]; exact LocLe.refl _))
          · have e : k = m := by omega
            subst e
            rw [List.take_of_length_le (show g.st.length ≤ k by omega)]
            repeat' ((first | (apply AWP.go ok; rfl) | (apply And.intro; omega) | ((apply z8) <;> intro _)) <;> conv => whnf)
            all_goals first | (exfalso; omega) | skip
            refine AWP.reach (Reach.empty 1 rfl) ?_
            have Fm := F.mid
            rw [Fm]
            refine z115 (fun i : Nat => ([(0, .ptr 0 none 0), (2, .ptr 1 none 0), (5, .ptr 2 none 0), (7, .int i)], [rdO bs (pg i), .cells 2 [[.nils, .nils]], .cells 2 [[.sref 3 0 k, .sref 4 0 i]], .cells 2 (g.st.map State.cs), .cells 1 ((g.nx.take i).map encL)])) (fun i => i ≤ k) (fun i => k - i) 0 (by omega) (by refine SealW.reach [0, 1, 2, 3, 4] [] rfl rfl rfl rfl ?_ ?_ <;> (repeat' (first | exact LocLe.refl _ | exact z40 | exact F2.nil | apply F2.cons | exact z20 _ | apply ObjLe.box | ((refine z17 rfl ?_ ?_); (focus ((repeat' (first | exact z12 | exact z4 (fun _ => rfl))); done))) | exact True.intro | apply And.intro))) ?_
            intro i hi
            by_cases hik : i < k
            · have hil : i < g.nx.length := by omega
              obtain ⟨a, b, c, er, eq, ca, cb, cc⟩ := F.row i hil
              rw [← eq] at cc
              by_cases hc : c = 0
              · by_cases hba : b = a
                · rw [if_neg (fun h => h.2 hba)] at er
                  repeat' ((first | (apply AWP.go ok; rfl) | (apply And.intro; first | omega | (unfold inI; omega) | ((try dsimp only); simp only [List.length_map, List.length_take, List.length_append, List.length_replicate, List.length_cons, List.length_nil]; omega) | exact ⟨rfl, z21 rfl z26⟩) | apply z66 | ((first | apply z8 | apply z30) <;> intro _) | ((first | (apply z7 [0] [] [] (ca); rfl; (focus ((repeat' first | exact z6 | apply z5) <;> rfl))) | (apply z7 [0] [] [] (cb); rfl; (focus ((repeat' first | exact z6 | apply z5) <;> rfl))) | (apply z7 [0] [] [] (cc); rfl; (focus ((repeat' first | exact z6 | apply z5) <;> rfl)))); rfl; rfl; rfl; rfl; rfl; (focus ((repeat' first | exact z19 | apply z16) <;> exact z25 rfl rfl)); (exact .inl rfl))) <;> conv => whnf)
                  all_goals first | (exfalso; omega) | skip
                  all_goals refine z49 (i + 1) (by omega) (by omega) (by refine SealW.reach [0, 1, 2, 3, 7] [5] rfl rfl rfl rfl ?_ ?_ <;> (repeat' (first | exact LocLe.refl _ | exact F2.nil | apply F2.cons | exact z20 _ | apply ObjLe.box | ((first | refine z24 rfl ?_ ?_ | refine z17 rfl ?_ ?_); (focus ((repeat' (first | exact z4 (fun _ => rfl) | apply z15)); done))) | (refine z73 (by omega) (by omega) ?_) | ((apply z41 rfl rfl rfl); (focus ((repeat (rfl)); done)); (focus ((rfl); done))) | exact True.intro | apply And.intro)) <;> ((rw [er]; exact LocLe.refl _)))
                · rw [if_pos ⟨hc, hba⟩] at er
                  repeat' ((first | (apply AWP.go ok; rfl) | (apply And.intro; first | omega | (unfold inI; omega) | ((try dsimp only); simp only [List.length_map, List.length_take, List.length_append, List.length_replicate, List.length_cons, List.length_nil]; omega) | exact ⟨rfl, z21 rfl z26⟩) | apply z66 | ((first | apply z8 | apply z30) <;> intro _) | ((first | (apply z7 [0] [] [] (ca); rfl; (focus ((repeat' first | exact z6 | apply z5) <;> rfl))) | (apply z7 [0] [] [] (cb); rfl; (focus ((repeat' first | exact z6 | apply z5) <;> rfl))) | (apply z7 [0] [] [] (cc); rfl; (focus ((repeat' first | exact z6 | apply z5) <;> rfl)))); rfl; rfl; rfl; rfl; rfl; (focus ((repeat' first | exact z19 | apply z16) <;> exact z25 rfl rfl)); (exact .inl rfl))) <;> conv => whnf)
                  all_goals first | (exfalso; omega) | skip
                  all_goals refine z49 (i + 1) (by omega) (by omega) (by refine SealW.reach [0, 1, 2, 3, 9] [7] rfl rfl rfl rfl ?_ ?_ <;> (repeat' (first | exact LocLe.refl _ | exact F2.nil | apply F2.cons | exact z20 _ | apply ObjLe.box | ((first | refine z24 rfl ?_ ?_ | refine z17 rfl ?_ ?_); (focus ((repeat' (first | exact z4 (fun _ => rfl) | apply z15)); done))) | (refine z73 (by omega) (by omega) ?_) | ((apply z41 rfl rfl rfl); (focus ((repeat (first | apply z52 | apply z61 | rfl)); done)); (focus ((rfl); done))) | exact True.intro | apply And.intro)) <;> ((rw [er]; exact LocLe.refl _)))
              · rw [if_neg (fun h => hc h.1)] at er
                repeat' ((first | (apply AWP.go ok; rfl) | (apply And.intro; first | omega | (unfold inI; omega) | ((try dsimp only); simp only [List.length_map, List.length_take, List.length_append, List.length_replicate, List.length_cons, List.length_nil]; omega) | exact ⟨rfl, z21 rfl z26⟩) | apply z66 | ((first | apply z8 | apply z30) <;> intro _) | ((first | (apply z7 [0] [] [] (ca); rfl; (focus ((repeat' first | exact z6 | apply z5) <;> rfl))) | (apply z7 [0] [] [] (cb); rfl; (focus ((repeat' first | exact z6 | apply z5) <;> rfl))) | (apply z7 [0] [] [] (cc); rfl; (focus ((repeat' first | exact z6 | apply z5) <;> rfl)))); rfl; rfl; rfl; rfl; rfl; (focus ((repeat' first | exact z19 | apply z16) <;> exact z25 rfl rfl)); (exact .inl rfl))) <;> conv => whnf)
                all_goals first | (exfalso; omega) | skip
                all_goals refine z49 (i + 1) (by omega) (by omega) (by refine SealW.reach [0, 1, 2, 3, 7] [5] rfl rfl rfl rfl ?_ ?_ <;> (repeat' (first | exact LocLe.refl _ | exact F2.nil | apply F2.cons | exact z20 _ | apply ObjLe.box | ((first | refine z24 rfl ?_ ?_ | refine z17 rfl ?_ ?_); (focus ((repeat' (first | exact z4 (fun _ => rfl) | apply z15)); done))) | (refine z73 (by omega) (by omega) ?_) | ((apply z41 rfl rfl rfl); (focus ((repeat (rfl)); done)); (focus ((rfl); done))) | exact True.intro | apply And.intro)) <;> ((rw [er]; exact LocLe.refl _)))
            · have e : i = k := by omega
              subst e
              rw [List.take_of_length_le (show g.nx.length ≤ i by omega)]
              repeat' ((first | (apply AWP.go ok; rfl) | ((apply z8) <;> intro _)) <;> conv => whnf)
              all_goals first | (exfalso; omega) | skip
              all_goals rw [F.last]
              all_goals (refine RetS.lay [0] [3, 4] rfl rfl rfl ?_; refine RetS.done ?_ ?_ <;> (repeat' (first | exact LocLe.refl _ | exact F2.nil | apply F2.cons | (refine z96 ?_; omega) | apply ObjLe.box | ((apply z27 rfl rfl rfl); (focus ((repeat ((exact z23 (fun _ => rfl) _))); done)); (focus (((simp; omega)); done))) | apply z42)))
      | some g0 =>
        have hl : ¬(g0.st.length ≤ 24) := fun h => hr ⟨g0, hB, h⟩
        rw [hB] at cB
        simp only [Option.getD_some, Option.isSome_some] at cB
        refine ⟨g, q', ⟨F.sm, by omega, by omega, by omega, by omega⟩, ?_⟩
        have Fn := F.num
        refine z14 z29 Tryz.func86 rfl rfl 88 Tryz.ntmps86 (by simp) ?_
        repeat' ((first | (apply AWP.go ok; rfl) | ((apply z8) <;> intro _) | (apply z10 (cB); rfl; rfl) | ((first | (apply z7 [0] [] [] (cv); rfl; (focus ((repeat' first | exact z6 | apply z5) <;> rfl))) | (apply z7 [0] [] [] (cs); rfl; (focus ((repeat' first | exact z6 | apply z5) <;> rfl))) | (apply z7 [0, 4] [] [] (Fn); rfl; (focus ((repeat' first | exact z6 | apply z5) <;> rfl)))); rfl; rfl; rfl; rfl; rfl; (focus ((repeat' first | exact z19 | apply z16) <;> first | exact z25 rfl rfl | (refine z34 ?_; ((exact z4 fun _ => rfl))))); (exact .inl rfl))) <;> conv => whnf)
        all_goals first | (exfalso; omega) | skip
        all_goals
          refine AWP.reach (Reach.empty 2 rfl) ?_
          refine z115 (fun k : Nat => ([(0, .ptr 0 none 0), (2, .ptr 1 none 0), (5, .ptr 2 none 0), (6, .int (m - k))], [rdO bs (pf k), .cells 2 [[.nils, .nils]], .cells 2 [[.sref 3 0 k, .nils]], .cells 2 ((g.st.take k).map State.cs)])) (fun k => k ≤ m) (fun k => m - k) 0 (by omega) (by refine SealW.reach [0, 1, 3, 5] [] rfl rfl rfl rfl ?_ ?_ <;> (repeat' (first | exact LocLe.refl _ | exact z40 | exact F2.nil | apply F2.cons | apply ObjLe.box | ((refine z17 rfl ?_ ?_); (focus ((repeat' (exact z12)); done))) | exact True.intro | apply And.intro))) ?_
          intro k hk
          by_cases hkm : k < m
          · have hkl : k < g.st.length := by omega
            obtain ⟨a, b, es, eq, ca, cb⟩ := F.st k hkl
            rw [← eq] at cb
            repeat' ((first | (apply AWP.go ok; rfl) | (apply z38; kernel_rfl) | (apply And.intro; first | omega | (unfold inI; omega) | ((try dsimp only); simp only [List.length_map, List.length_take, List.length_append, List.length_replicate, List.length_cons, List.length_nil]; omega) | exact ⟨rfl, z21 rfl z26⟩) | ((apply z8) <;> intro _) | ((first | (apply z7 [0] [] [] (ca); rfl; (focus ((repeat' first | exact z6 | apply z5) <;> rfl))) | (apply z7 [0] [] [] (cb); rfl; (focus ((repeat' first | exact z6 | apply z5) <;> rfl)))); rfl; rfl; rfl; rfl; rfl; (focus ((repeat' first | exact z19 | apply z16) <;> exact z25 rfl rfl)); (exact .inl rfl))) <;> conv => whnf)
            all_goals first | (exfalso; omega) | skip
            all_goals refine z49 (k + 1) (by omega) (by omega) (by refine SealW.reach [0, 1, 2, 7] [4, 5] rfl rfl rfl rfl ?_ ?_ <;> (repeat' (first | exact LocLe.refl _ | exact F2.nil | apply F2.cons | (refine z78 ?_; omega) | apply ObjLe.box | ((refine z24 rfl ?_ ?_); (focus ((repeat' (first | exact z4 (fun _ => rfl) | apply z15)); done))) | (refine z73 (by omega) (by omega) ?_) | ((apply z41 rfl rfl rfl); (focus ((repeat (rfl)); done)); (focus ((rfl); done))) | exact True.intro | apply And.intro)) <;> (rw [es]; exact LocLe.refl _))
          · have e : k = m := by omega
            subst e
            rw [List.take_of_length_le (show g.st.length ≤ k by omega)]
            repeat' ((first | (apply AWP.go ok; rfl) | (apply And.intro; omega) | ((apply z8) <;> intro _)) <;> conv => whnf)
            all_goals first | (exfalso; omega) | skip
            refine AWP.reach (Reach.empty 1 rfl) ?_
            have Fm := F.mid
            rw [Fm]
            refine z115 (fun i : Nat => ([(0, .ptr 0 none 0), (2, .ptr 1 none 0), (5, .ptr 2 none 0), (7, .int i)], [rdO bs (pg i), .cells 2 [[.nils, .nils]], .cells 2 [[.sref 3 0 k, .sref 4 0 i]], .cells 2 (g.st.map State.cs), .cells 1 ((g.nx.take i).map encL)])) (fun i => i ≤ k) (fun i => k - i) 0 (by omega) (by refine SealW.reach [0, 1, 2, 3, 4] [] rfl rfl rfl rfl ?_ ?_ <;> (repeat' (first | exact LocLe.refl _ | exact z40 | exact F2.nil | apply F2.cons | exact z20 _ | apply ObjLe.box | ((refine z17 rfl ?_ ?_); (focus ((repeat' (first | exact z12 | exact z4 (fun _ => rfl))); done))) | exact True.intro | apply And.intro))) ?_
            intro i hi
            by_cases hik : i < k
            · have hil : i < g.nx.length := by omega
              obtain ⟨a, b, c, er, eq, ca, cb, cc⟩ := F.row i hil
              rw [← eq] at cc
              by_cases hc : c = 0
              · by_cases hba : b = a
                · rw [if_neg (fun h => h.2 hba)] at er
                  repeat' ((first | (apply AWP.go ok; rfl) | (apply And.intro; first | omega | (unfold inI; omega) | ((try dsimp only); simp only [List.length_map, List.length_take, List.length_append, List.length_replicate, List.length_cons, List.length_nil]; omega) | exact ⟨rfl, z21 rfl z26⟩) | apply z66 | ((first | apply z8 | apply z30) <;> intro _) | ((first | (apply z7 [0] [] [] (ca); rfl; (focus ((repeat' first | exact z6 | apply z5) <;> rfl))) | (apply z7 [0] [] [] (cb); rfl; (focus ((repeat' first | exact z6 | apply z5) <;> rfl))) | (apply z7 [0] [] [] (cc); rfl; (focus ((repeat' first | exact z6 | apply z5) <;> rfl)))); rfl; rfl; rfl; rfl; rfl; (focus ((repeat' first | exact z19 | apply z16) <;> exact z25 rfl rfl)); (exact .inl rfl))) <;> conv => whnf)
                  all_goals first | (exfalso; omega) | skip
                  all_goals refine z49 (i + 1) (by omega) (by omega) (by refine SealW.reach [0, 1, 2, 3, 7] [5] rfl rfl rfl rfl ?_ ?_ <;> (repeat' (first | exact LocLe.refl _ | exact F2.nil | apply F2.cons | exact z20 _ | apply ObjLe.box | ((first | refine z24 rfl ?_ ?_ | refine z17 rfl ?_ ?_); (focus ((repeat' (first | exact z4 (fun _ => rfl) | apply z15)); done))) | (refine z73 (by omega) (by omega) ?_) | ((apply z41 rfl rfl rfl); (focus ((repeat (rfl)); done)); (focus ((rfl); done))) | exact True.intro | apply And.intro)) <;> ((rw [er]; exact LocLe.refl _)))
                · rw [if_pos ⟨hc, hba⟩] at er
                  repeat' ((first | (apply AWP.go ok; rfl) | (apply And.intro; first | omega | (unfold inI; omega) | ((try dsimp only); simp only [List.length_map, List.length_take, List.length_append, List.length_replicate, List.length_cons, List.length_nil]; omega) | exact ⟨rfl, z21 rfl z26⟩) | apply z66 | ((first | apply z8 | apply z30) <;> intro _) | ((first | (apply z7 [0] [] [] (ca); rfl; (focus ((repeat' first | exact z6 | apply z5) <;> rfl))) | (apply z7 [0] [] [] (cb); rfl; (focus ((repeat' first | exact z6 | apply z5) <;> rfl))) | (apply z7 [0] [] [] (cc); rfl; (focus ((repeat' first | exact z6 | apply z5) <;> rfl)))); rfl; rfl; rfl; rfl; rfl; (focus ((repeat' first | exact z19 | apply z16) <;> exact z25 rfl rfl)); (exact .inl rfl))) <;> conv => whnf)
                  all_goals first | (exfalso; omega) | skip
                  all_goals refine z49 (i + 1) (by omega) (by omega) (by refine SealW.reach [0, 1, 2, 3, 9] [7] rfl rfl rfl rfl ?_ ?_ <;> (repeat' (first | exact LocLe.refl _ | exact F2.nil | apply F2.cons | exact z20 _ | apply ObjLe.box | ((first | refine z24 rfl ?_ ?_ | refine z17 rfl ?_ ?_); (focus ((repeat' (first | exact z4 (fun _ => rfl) | apply z15)); done))) | (refine z73 (by omega) (by omega) ?_) | ((apply z41 rfl rfl rfl); (focus ((repeat (first | apply z52 | apply z61 | rfl)); done)); (focus ((rfl); done))) | exact True.intro | apply And.intro)) <;> ((rw [er]; exact LocLe.refl _)))
              · rw [if_neg (fun h => hc h.1)] at er
                repeat' ((first | (apply AWP.go ok; rfl) | (apply And.intro; first | omega | (unfold inI; omega) | ((try dsimp only); simp only [List.length_map, List.length_take, List.length_append, List.length_replicate, List.length_cons, List.length_nil]; omega) | exact ⟨rfl, z21 rfl z26⟩) | apply z66 | ((first | apply z8 | apply z30) <;> intro _) | ((first | (apply z7 [0] [] [] (ca); rfl; (focus ((repeat' first | exact z6 | apply z5) <;> rfl))) | (apply z7 [0] [] [] (cb); rfl; (focus ((repeat' first | exact z6 | apply z5) <;> rfl))) | (apply z7 [0] [] [] (cc); rfl; (focus ((repeat' first | exact z6 | apply z5) <;> rfl)))); rfl; rfl; rfl; rfl; rfl; (focus ((repeat' first | exact z19 | apply z16) <;> exact z25 rfl rfl)); (exact .inl rfl))) <;> conv => whnf)
                all_goals first | (exfalso; omega) | skip
                all_goals refine z49 (i + 1) (by omega) (by omega) (by refine SealW.reach [0, 1, 2, 3, 7] [5] rfl rfl rfl rfl ?_ ?_ <;> (repeat' (first | exact LocLe.refl _ | exact F2.nil | apply F2.cons | exact z20 _ | apply ObjLe.box | ((first | refine z24 rfl ?_ ?_ | refine z17 rfl ?_ ?_); (focus ((repeat' (first | exact z4 (fun _ => rfl) | apply z15)); done))) | (refine z73 (by omega) (by omega) ?_) | ((apply z41 rfl rfl rfl); (focus ((repeat (rfl)); done)); (focus ((rfl); done))) | exact True.intro | apply And.intro)) <;> ((rw [er]; exact LocLe.refl _)))
            · have e : i = k := by omega
              subst e
              rw [List.take_of_length_le (show g.nx.length ≤ i by omega)]
              repeat' ((first | (apply AWP.go ok; rfl) | ((apply z8) <;> intro _)) <;> conv => whnf)
              all_goals first | (exfalso; omega) | skip
              all_goals rw [F.last]
              all_goals (refine RetS.lay [0] [3, 4] rfl rfl rfl ?_; refine RetS.done ?_ ?_ <;> (repeat' (first | exact LocLe.refl _ | exact F2.nil | apply F2.cons | (refine z96 ?_; omega) | apply ObjLe.box | ((apply z27 rfl rfl rfl); (focus ((repeat ((exact z23 (fun _ => rfl) _))); done)); (focus (((simp; omega)); done))) | apply z42)))
  · obtain ⟨g, q', m, pf, pg, F⟩ := small_ex bs hb (p + 1) (by omega)
    have m1 := F.m1
    have m6 := F.m6
    have sl := F.sl
    have nl := F.nl
    have z0 := F.q0
    have z1 := F.q1
    refine ⟨g, q', ⟨F.sm, by omega, by omega, by omega, by omega⟩, ?_⟩
    have Fn := F.num
    refine z14 z29 Tryz.func86 rfl rfl 88 Tryz.ntmps86 (by simp) ?_
    repeat' ((first | (apply AWP.go ok; rfl) | ((apply z8) <;> intro _) | ((first | (apply z7 [0] [] [] (cv); rfl; (focus ((repeat' first | exact z6 | apply z5) <;> rfl))) | (apply z7 [0, 3] [] [] (Fn); rfl; (focus ((repeat' first | exact z6 | apply z5) <;> rfl)))); rfl; rfl; rfl; rfl; rfl; (focus ((repeat' first | exact z19 | apply z16) <;> first | exact z25 rfl rfl | (refine z34 ?_; ((exact z4 fun _ => rfl))))); (exact .inl rfl))) <;> conv => whnf)
    all_goals first | (exfalso; omega) | skip
    all_goals
      refine AWP.reach (Reach.empty 2 rfl) ?_
      refine z115 (fun k : Nat => ([(0, .ptr 0 none 0), (2, .ptr 1 none 0), (5, .ptr 2 none 0), (6, .int (m - k))], [rdO bs (pf k), .cells 2 [[.nils, .nils]], .cells 2 [[.sref 3 0 k, .nils]], .cells 2 ((g.st.take k).map State.cs)])) (fun k => k ≤ m) (fun k => m - k) 0 (by omega) (by refine SealW.reach [0, 1, 2, 4] [] rfl rfl rfl rfl ?_ ?_ <;> (repeat' (first | exact LocLe.refl _ | exact z40 | exact F2.nil | apply F2.cons | apply ObjLe.box | ((refine z17 rfl ?_ ?_); (focus ((repeat' (exact z12)); done))) | exact True.intro | apply And.intro))) ?_
      intro k hk
      by_cases hkm : k < m
      · have hkl : k < g.st.length := by omega
        obtain ⟨a, b, es, eq, ca, cb⟩ := F.st k hkl
        rw [← eq] at cb
        repeat' ((first | (apply AWP.go ok; rfl) | (apply z38; kernel_rfl) | (apply And.intro; first | omega | (unfold inI; omega) | ((try dsimp only); simp only [List.length_map, List.length_take, List.length_append, List.length_replicate, List.length_cons, List.length_nil]; omega) | exact ⟨rfl, z21 rfl z26⟩) | ((apply z8) <;> intro _) | ((first | (apply z7 [0] [] [] (ca); rfl; (focus ((repeat' first | exact z6 | apply z5) <;> rfl))) | (apply z7 [0] [] [] (cb); rfl; (focus ((repeat' first | exact z6 | apply z5) <;> rfl)))); rfl; rfl; rfl; rfl; rfl; (focus ((repeat' first | exact z19 | apply z16) <;> exact z25 rfl rfl)); (exact .inl rfl))) <;> conv => whnf)
        all_goals first | (exfalso; omega) | skip
        all_goals refine z49 (k + 1) (by omega) (by omega) (by refine SealW.reach [0, 1, 2, 7] [4, 5] rfl rfl rfl rfl ?_ ?_ <;> (repeat' (first | exact LocLe.refl _ | exact F2.nil | apply F2.cons | (refine z78 ?_; omega) | apply ObjLe.box | ((refine z24 rfl ?_ ?_); (focus ((repeat' (first | exact z4 (fun _ => rfl) | apply z15)); done))) | (refine z73 (by omega) (by omega) ?_) | ((apply z41 rfl rfl rfl); (focus ((repeat (rfl)); done)); (focus ((rfl); done))) | exact True.intro | apply And.intro)) <;> (rw [es]; exact LocLe.refl _))
      · have e : k = m := by omega
        subst e
        rw [List.take_of_length_le (show g.st.length ≤ k by omega)]
        repeat' ((first | (apply AWP.go ok; rfl) | (apply And.intro; omega) | ((apply z8) <;> intro _)) <;> conv => whnf)
        all_goals first | (exfalso; omega) | skip
        refine AWP.reach (Reach.empty 1 rfl) ?_
        have Fm := F.mid
        rw [Fm]
        refine z115 (fun i : Nat => ([(0, .ptr 0 none 0), (2, .ptr 1 none 0), (5, .ptr 2 none 0), (7, .int i)], [rdO bs (pg i), .cells 2 [[.nils, .nils]], .cells 2 [[.sref 3 0 k, .sref 4 0 i]], .cells 2 (g.st.map State.cs), .cells 1 ((g.nx.take i).map encL)])) (fun i => i ≤ k) (fun i => k - i) 0 (by omega) (by refine SealW.reach [0, 1, 2, 3, 4] [] rfl rfl rfl rfl ?_ ?_ <;> (repeat' (first | exact LocLe.refl _ | exact z40 | exact F2.nil | apply F2.cons | exact z20 _ | apply ObjLe.box | ((refine z17 rfl ?_ ?_); (focus ((repeat' (first | exact z12 | exact z4 (fun _ => rfl))); done))) | exact True.intro | apply And.intro))) ?_
        intro i hi
        by_cases hik : i < k
        · have hil : i < g.nx.length := by omega
          obtain ⟨a, b, c, er, eq, ca, cb, cc⟩ := F.row i hil
          rw [← eq] at cc
          by_cases hc : c = 0
          · by_cases hba : b = a
            · rw [if_neg (fun h => h.2 hba)] at er
              repeat' ((first | (apply AWP.go ok; rfl) | (apply And.intro; first | omega | (unfold inI; omega) | ((try dsimp only); simp only [List.length_map, List.length_take, List.length_append, List.length_replicate, List.length_cons, List.length_nil]; omega) | exact ⟨rfl, z21 rfl z26⟩) | apply z66 | ((first | apply z8 | apply z30) <;> intro _) | ((first | (apply z7 [0] [] [] (ca); rfl; (focus ((repeat' first | exact z6 | apply z5) <;> rfl))) | (apply z7 [0] [] [] (cb); rfl; (focus ((repeat' first | exact z6 | apply z5) <;> rfl))) | (apply z7 [0] [] [] (cc); rfl; (focus ((repeat' first | exact z6 | apply z5) <;> rfl)))); rfl; rfl; rfl; rfl; rfl; (focus ((repeat' first | exact z19 | apply z16) <;> exact z25 rfl rfl)); (exact .inl rfl))) <;> conv => whnf)
              all_goals first | (exfalso; omega) | skip
              all_goals refine z49 (i + 1) (by omega) (by omega) (by refine SealW.reach [0, 1, 2, 3, 7] [5] rfl rfl rfl rfl ?_ ?_ <;> (repeat' (first | exact LocLe.refl _ | exact F2.nil | apply F2.cons | exact z20 _ | apply ObjLe.box | ((first | refine z24 rfl ?_ ?_ | refine z17 rfl ?_ ?_); (focus ((repeat' (first | exact z4 (fun _ => rfl) | apply z15)); done))) | (refine z73 (by omega) (by omega) ?_) | ((apply z41 rfl rfl rfl); (focus ((repeat (rfl)); done)); (focus ((rfl); done))) | exact True.intro | apply And.intro)) <;> ((rw [er]; exact LocLe.refl _)))
            · rw [if_pos ⟨hc, hba⟩] at er
              repeat' ((first | (apply AWP.go ok; rfl) | (apply And.intro; first | omega | (unfold inI; omega) | ((try dsimp only); simp only [List.length_map, List.length_take, List.length_append, List.length_replicate, List.length_cons, List.length_nil]; omega) | exact ⟨rfl, z21 rfl z26⟩) | apply z66 | ((first | apply z8 | apply z30) <;> intro _) | ((first | (apply z7 [0] [] [] (ca); rfl; (focus ((repeat' first | exact z6 | apply z5) <;> rfl))) | (apply z7 [0] [] [] (cb); rfl; (focus ((repeat' first | exact z6 | apply z5) <;> rfl))) | (apply z7 [0] [] [] (cc); rfl; (focus ((repeat' first | exact z6 | apply z5) <;> rfl)))); rfl; rfl; rfl; rfl; rfl; (focus ((repeat' first | exact z19 | apply z16) <;> exact z25 rfl rfl)); (exact .inl rfl))) <;> conv => whnf)
              all_goals first | (exfalso; omega) | skip
              all_goals refine z49 (i + 1) (by omega) (by omega) (by refine SealW.reach [0, 1, 2, 3, 9] [7] rfl rfl rfl rfl ?_ ?_ <;> (repeat' (first | exact LocLe.refl _ | exact F2.nil | apply F2.cons | exact z20 _ | apply ObjLe.box | ((first | refine z24 rfl ?_ ?_ | refine z17 rfl ?_ ?_); (focus ((repeat' (first | exact z4 (fun _ => rfl) | apply z15)); done))) | (refine z73 (by omega) (by omega) ?_) | ((apply z41 rfl rfl rfl); (focus ((repeat (first | apply z52 | apply z61 | rfl)); done)); (focus ((rfl); done))) | exact True.intro | apply And.intro)) <;> ((rw [er]; exact LocLe.refl _)))
          · rw [if_neg (fun h => hc h.1)] at er
            repeat' ((first | (apply AWP.go ok; rfl) | (apply And.intro; first | omega | (unfold inI; omega) | ((try dsimp only); simp only [List.length_map, List.length_take, List.length_append, List.length_replicate, List.length_cons, List.length_nil]; omega) | exact ⟨rfl, z21 rfl z26⟩) | apply z66 | ((first | apply z8 | apply z30) <;> intro _) | ((first | (apply z7 [0] [] [] (ca); rfl; (focus ((repeat' first | exact z6 | apply z5) <;> rfl))) | (apply z7 [0] [] [] (cb); rfl; (focus ((repeat' first | exact z6 | apply z5) <;> rfl))) | (apply z7 [0] [] [] (cc); rfl; (focus ((repeat' first | exact z6 | apply z5) <;> rfl)))); rfl; rfl; rfl; rfl; rfl; (focus ((repeat' first | exact z19 | apply z16) <;> exact z25 rfl rfl)); (exact .inl rfl))) <;> conv => whnf)
            all_goals first | (exfalso; omega) | skip
            all_goals refine z49 (i + 1) (by omega) (by omega) (by refine SealW.reach [0, 1, 2, 3, 7] [5] rfl rfl rfl rfl ?_ ?_ <;> (repeat' (first | exact LocLe.refl _ | exact F2.nil | apply F2.cons | exact z20 _ | apply ObjLe.box | ((first | refine z24 rfl ?_ ?_ | refine z17 rfl ?_ ?_); (focus ((repeat' (first | exact z4 (fun _ => rfl) | apply z15)); done))) | (refine z73 (by omega) (by omega) ?_) | ((apply z41 rfl rfl rfl); (focus ((repeat (rfl)); done)); (focus ((rfl); done))) | exact True.intro | apply And.intro)) <;> ((rw [er]; exact LocLe.refl _)))
        · have e : i = k := by omega
          subst e
          rw [List.take_of_length_le (show g.nx.length ≤ i by omega)]
          repeat' ((first | (apply AWP.go ok; rfl) | ((apply z8) <;> intro _)) <;> conv => whnf)
          all_goals first | (exfalso; omega) | skip
          all_goals rw [F.last]
          all_goals (refine RetS.lay [0] [3, 4] rfl rfl rfl ?_; refine RetS.done ?_ ?_ <;> (repeat' (first | exact LocLe.refl _ | exact F2.nil | apply F2.cons | (refine z96 ?_; omega) | apply ObjLe.box | ((apply z27 rfl rfl rfl); (focus ((repeat ((exact z23 (fun _ => rfl) _))); done)); (focus (((simp; omega)); done))) | apply z42)))
end Go.Proofs.YtknlmbniicacmaaGreat

namespace Go.Proofs.YtknlmbniicacmaaGreat
open Go.Gl
attribute [local irreducible] z48 AWP z76 z84 z81 RetS z103

structure Graph.d (g : Graph) : Prop where
  st : g.st.length ≤ 100
  nx : g.nx.length ≤ 101
  el : ∀ s ∈ g.st, s.sm
  row : ∀ r ∈ g.nx, r.length ≤ 1001
theorem Graph.d.mx {g : Graph} (h : g.d) : g.mx := by
  have h1 := h.st
  have h2 := h.nx
  have h3 := h.el
  exact ⟨⟨by unfold maxLen; omega, fun s hs => ⟨by have := (h3 s hs).a; unfold maxLen; omega, by have := (h3 s hs).b; unfold maxLen; omega⟩⟩, by unfold maxLen; omega, fun l hl => by have := h.row l hl; unfold maxLen; omega⟩
structure Lab.d (l : List Tree) : Prop where
  len : l.length ≤ 3
  el : ∀ t ∈ l, t.sz ≤ 5
theorem Lab.d.mx {l : List Tree} (h : Lab.d l) : Lmx l := Lmx_of (by have := h.len; omega) fun t ht => by have := h.el t ht; omega
/-- the bytes of a law's argument -/
structure CodeOk (bs : List Int) : Prop where
  len : bs.length ≤ maxLen
  el : ∀ x ∈ bs, 0 ≤ x ∧ x ≤ 255
theorem CodeOk.take {bs : List Int} (h : CodeOk bs) : BytesOk (bs.take 2000) := ⟨by simp; omega, fun x hx => h.el x (List.mem_of_mem_take hx)⟩
theorem mutG_ok (bs : List Int) (hb : BytesOk bs) (p : Int) (hp : few3 p) : ∃ (g0 g : Graph) (p1 p2 : Int), CallsA Tryz.prog 86 [.ptr 0 none 0] [rdO bs p] (.agg g0.cs) [rdO bs p1] ∧ CallsA Tryz.prog 85 [.ptr 0 none 0, .agg g0.cs] [rdO bs p1] (.agg g.cs) [rdO bs p2] ∧ g.d ∧ p ≤ p2 ∧ p2 ≤ p + 6000 := by
  obtain ⟨g0, p1, ⟨h1, h2, h3, h4, h5⟩, c1⟩ := l4Graph_ok bs hb p hp
  obtain ⟨g, p2, ⟨k1, k2, k3, k4, k5, k6⟩, c2⟩ := l4Mutate_ok bs hb p1 ⟨by omega, by omega⟩ g0 h1 h2 h3
  exact ⟨g0, g, p1, p2, c1, c2, ⟨k1, k2, k3, k4⟩, by omega, by omega⟩

end Go.Proofs.YtknlmbniicacmaaGreat

namespace Go.Proofs.YtknlmbniicacmaaGreat
open Go.Gl
attribute [local irreducible] z48 AWP z76 z84 z81

theorem l5Arity_ok (k : Int) : CallsA Tryz.prog 297 [.int k] [] (.int (arityF k)) [] := by
  refine z22 z29 Tryz.func297 rfl rfl 17 Tryz.ntmps297 (by simp) ?_
  repeat' (first | (apply AWP.go ok; rfl; conv => whnf) | (apply z8 <;> intro _ <;> conv => whnf))
  all_goals (refine z79 rfl rfl ?_; unfold arityF; first | (rw [if_pos (by omega)]; rfl) | (rw [if_neg (by omega), if_pos (by omega)]; rfl) | (rw [if_neg (by omega), if_neg (by omega), if_pos (by omega)]; rfl) | (rw [if_neg (by omega), if_neg (by omega), if_neg (by omega)]; rfl))

theorem shapeFs_all (l : List Tree) (d : Int) : Tree.shapeFs l d = l.all (fun t => t.shapeF d) := by
  induction l with
  | nil => rfl
  | cons t l ih => simp [Tree.shapeFs, ih]
theorem shapeF_eq (t : Tree) (d : Int) : t.shapeF d = (decide (1 ≤ d ∧ (t.kids.length : Int) = arityF t.kind ∧ 0 ≤ t.val ∧ t.val ≤ mostF t.kind) && t.kids.all fun t => t.shapeF (d - 1)) := by
  cases t; simp only [Tree.shapeF, Tree.kids, Tree.kind, Tree.val, shapeFs_all]; rfl

theorem l5Shape_ok (t : Tree) : t.mx → ∀ d : Int, -100 ≤ d → d ≤ 100 → CallsA Tryz.prog 278 [z65 Tree.cs' t, .int d] [] (.bool (t.shapeF d)) [] := by
  induction t using Tree.ind with | h t ih => ?_
  intro hm d h0 h1
  rw [Tree.mx_iff] at hm
  have hl := hm.1
  unfold maxLen at hl
  rw [Tree.arg_eq, shapeF_eq]
  refine z22 z29 Tryz.func278 rfl rfl 51 Tryz.ntmps278 (by simp) ?_
  repeat' (first | (apply AWP.go ok; rfl; conv => whnf) | (apply z38; kernel_rfl; conv => whnf) | (apply z8 <;> intro _ <;> conv => whnf) | (apply z30 <;> intro _ <;> conv => whnf) | (apply z10 (l5Arity_ok _); rfl; rfl; conv => whnf))
  all_goals first
    | (refine z28 rfl ?_
       rw [decide_eq_false]
       · rfl
       · clear ih
         rintro ⟨c1, c2, c3, c4⟩
         unfold mostF at c4
         grind)
    | (have hg : decide (1 ≤ d ∧ (t.kids.length : Int) = arityF t.kind ∧ 0 ≤ t.val ∧ t.val ≤ mostF t.kind) = true := by
         clear ih
         refine decide_eq_true ?_
         unfold mostF
         grind
       rw [hg, Bool.true_and]
       refine z120 (fun k : Nat => ([(1, .int d), (2, .ptr 0 none 0), (5, .int k)], [.cells 3 [[.int t.kind, .int t.val, lst 3 Tree.cs' t.kids]]])) (fun k => k ≤ t.kids.length ∧ (t.kids.all fun t => t.shapeF (d - 1)) = (t.kids.drop k).all fun t => t.shapeF (d - 1)) (fun k => t.kids.length - k) 0 ⟨by omega, rfl⟩ ⟨[0], rfl, by decide, rfl, by repeat' (first | exact True.intro | exact ⟨rfl, rfl⟩ | apply And.intro), by repeat' (first | exact True.intro | exact z35 rfl rfl | apply And.intro)⟩ ?_
       intro k hk
       repeat' (first | (apply AWP.go ok; rfl; conv => whnf) | (apply And.intro; (first | omega | (unfold inI; omega)); conv => whnf) | (with_reducible apply z13; omega; intro _; conv => whnf) | (apply z8 <;> intro _ <;> conv => whnf) | (apply z53 <;> intro _ <;> conv => whnf) | (apply z10 (ih t.kids[k] (List.getElem_mem _) (hm.2 _ (List.getElem_mem _)) (d - 1) (by omega) (by omega)); rfl; rfl; conv => whnf))
       · rename_i h1
         exact z28 rfl (by rw [hk.2, z159 _ _ _ (by assumption)]; simp [h1])
       · rename_i h1
         exact z116 (k + 1) [0] ⟨by omega, by rw [hk.2, z159 _ _ _ (by assumption)]; simp [h1]⟩ (by omega) ⟨rfl, by decide, rfl, by repeat' (first | exact True.intro | exact ⟨rfl, rfl⟩ | apply And.intro), by repeat' (first | exact True.intro | exact z35 rfl rfl | apply And.intro)⟩
       · exact z28 rfl (by rw [hk.2, z152 _ _ _ (by omega)]))

/-- below a shape of depth d lie at most 2^d - 1 nodes -/
theorem countF_le (t : Tree) : ∀ d n : Nat, t.shapeF d = true → t.count n ≤ 2 ^ d - 1 := by
  induction t using Tree.ind with | h t ih => ?_
  intro d n h
  rw [shapeF_eq, Bool.and_eq_true, decide_eq_true_eq] at h
  obtain ⟨⟨h1, h2, _, _⟩, h3⟩ := h
  rw [List.all_eq_true] at h3
  obtain ⟨d, rfl⟩ : ∃ e, d = e + 1 := ⟨d - 1, by omega⟩
  have e : ((d + 1 : Nat) : Int) - 1 = (d : Nat) := by omega
  rw [e] at h3
  rw [count_eq]
  have hp : (1 : Int) ≤ 2 ^ d := by exact_mod_cast Nat.one_le_two_pow
  have hq : ((2 : Int) ^ (d + 1)) = 2 * 2 ^ d := by rw [Int.pow_succ]; omega
  split
  · rename_i hn
    obtain ⟨n, rfl⟩ : ∃ e, n = e + 1 := ⟨n - 1, by omega⟩
    have e : ((n + 1 : Nat) : Int) - 1 = (n : Nat) := by omega
    rw [e]
    have hl : (t.kids.length : Int) ≤ 2 := by rw [h2]; unfold arityF; grind
    have hk : ∀ u ∈ t.kids, u.count n ≤ 2 ^ d - 1 := fun u hu => ih u hu d n (h3 u hu)
    match hkk : t.kids with
    | [] => simp only [List.map_nil, List.sum_nil]; omega
    | [a] =>
      have := hk a (by simp [hkk])
      simp only [List.map_cons, List.map_nil, List.sum_cons, List.sum_nil]; omega
    | [a, b] =>
      have := hk a (by simp [hkk])
      have := hk b (by simp [hkk])
      simp only [List.map_cons, List.map_nil, List.sum_cons, List.sum_nil]; omega
    | a :: b :: c :: r => rw [hkk] at hl; simp only [List.length_cons] at hl; omega
  · omega

theorem countF_bound (t : Tree) (e d : Int) (he : e ≤ 50) (hd : 0 ≤ d) (h : t.shapeF e = true) : t.count d ≤ 2 ^ 50 := by
  have h1 : 1 ≤ e := by
    rw [shapeF_eq, Bool.and_eq_true, decide_eq_true_eq] at h; exact h.1.1
  obtain ⟨n, rfl⟩ := Int.eq_ofNat_of_zero_le (show 0 ≤ e by omega)
  obtain ⟨m, rfl⟩ := Int.eq_ofNat_of_zero_le hd
  have h2 := countF_le t n m h
  have h4 : (2 : Int) ^ n ≤ 2 ^ 50 := by exact_mod_cast Nat.pow_le_pow_right (by omega) (by omega)
  omega

theorem l5Count_ok (t : Tree) : t.mx → ∀ e d : Int, e ≤ 50 → 0 ≤ d → d ≤ 50 → t.shapeF e = true → CallsA Tryz.prog 279 [z65 Tree.cs' t, .int d] [] (.int (t.count d)) [] := by
  induction t using Tree.ind with | h t ih => ?_
  intro hm e d h0 h1 h2 hs
  rw [Tree.mx_iff] at hm
  rw [shapeF_eq, Bool.and_eq_true, decide_eq_true_eq, List.all_eq_true] at hs
  obtain ⟨⟨hs1, hs2, _, _⟩, hs3⟩ := hs
  have hl : (t.kids.length : Int) ≤ 2 := by rw [hs2]; unfold arityF; grind
  rw [Tree.arg_eq, count_eq]
  have hb : 0 < d → ∀ k, k ≤ t.kids.length → 0 ≤ ((t.kids.take k).map fun t => t.count (d - 1)).sum ∧ ((t.kids.take k).map fun t => t.count (d - 1)).sum ≤ k * 2 ^ 50 := by
    intro hd k
    induction k with
    | zero => intro _; simp
    | succ k ihk =>
      intro hk
      have h1 := ihk (by omega)
      rw [sum_step _ _ _ (by omega)]
      have h2 := countF_bound t.kids[k] (e - 1) (d - 1) (by omega) (by omega) (hs3 _ (List.getElem_mem _))
      have h3 := Tree.count_pos.1 t.kids[k] (d - 1)
      omega
  refine z22 z29 Tryz.func279 rfl rfl 29 Tryz.ntmps279 (by simp) ?_
  repeat' ((apply AWP.go ok; rfl; conv => whnf))
  by_cases hd : 0 < d
  · rw [if_pos hd]
    refine z120 (fun k : Nat => ([(1, .int d), (2, .ptr 0 none 0), (5, .int (1 + ((t.kids.take k).map fun t => t.count (d - 1)).sum)), (6, .int k)], [.cells 3 [[.int t.kind, .int t.val, lst 3 Tree.cs' t.kids]]])) (fun k => k ≤ t.kids.length) (fun k => t.kids.length - k) 0 (by omega) ⟨[0], rfl, by decide, rfl, by repeat' (first | exact True.intro | exact ⟨rfl, rfl⟩ | apply And.intro), by repeat' (first | exact True.intro | exact z35 rfl rfl | apply And.intro)⟩ ?_
    intro k hk
    have hbk := hb hd k hk
    have hbk1 := fun h => hb hd (k + 1) h
    have hss := fun h => sum_step (fun t => t.count (d - 1)) t.kids k h
    repeat' (first | (apply AWP.go ok; rfl; conv => whnf) | (apply And.intro; (first | omega | (unfold inI; omega)); conv => whnf) | (with_reducible apply z13; omega; intro _; conv => whnf) | (apply z8 <;> intro _ <;> conv => whnf) | (apply z10 (ih t.kids[k] (List.getElem_mem _) (hm.2 _ (List.getElem_mem _)) (e - 1) (d - 1) (by omega) (by omega) (by omega) (hs3 _ (List.getElem_mem _))); rfl; rfl; conv => whnf))
    · have e1 := hss ‹_›
      have e2 := hbk1 (by omega)
      refine And.intro (by unfold inI; omega) ?_
      conv => whnf
      repeat' (first | (apply AWP.go ok; rfl; conv => whnf) | (apply And.intro; ((unfold inI; omega)); conv => whnf))
      exact z116 (k + 1) [0] (by omega) (by omega) ⟨rfl, by decide, rfl, ⟨⟨rfl, rfl⟩, ⟨rfl, rfl⟩, ⟨rfl, by rw [e1, ← Int.add_assoc]; rfl⟩, ⟨rfl, rfl⟩, trivial⟩, ⟨z35 rfl rfl, trivial⟩⟩
    · omega
    · obtain rfl : k = t.kids.length := by omega
      exact z79 rfl rfl (by rw [List.take_length]; rfl)
  · rw [if_neg hd]
    refine z120 (fun k : Nat => ([(1, .int d), (2, .ptr 0 none 0), (5, .int 1), (6, .int k)], [.cells 3 [[.int t.kind, .int t.val, lst 3 Tree.cs' t.kids]]])) (fun k => k ≤ t.kids.length) (fun k => t.kids.length - k) 0 (by omega) ⟨[0], rfl, by decide, rfl, by repeat' (first | exact True.intro | exact ⟨rfl, rfl⟩ | apply And.intro), by repeat' (first | exact True.intro | exact z35 rfl rfl | apply And.intro)⟩ ?_
    intro k hk
    repeat' (first | (apply AWP.go ok; rfl; conv => whnf) | (apply And.intro; (omega); conv => whnf) | (with_reducible apply z13; omega; intro _; conv => whnf) | (apply z8 <;> intro _ <;> conv => whnf))
    · omega
    · exact z79 rfl rfl rfl
    · exact z79 rfl rfl rfl

theorem specFmValid_ok (t : Tree) (hm : t.mx) : CallsA Tryz.prog 240 [z65 Tree.cs' t] [] (.bool t.fmB) [] := by
  rw [Tree.fmB_eq]
  refine z22 z29 Tryz.func240 rfl rfl 10 Tryz.ntmps240 (by simp) ?_
  repeat' (first | (apply AWP.go ok; rfl; conv => whnf) | (apply z56 <;> intro _ <;> conv => whnf) | (apply z10 (l5Shape_ok t hm 6 (by omega) (by omega)); rfl; rfl; conv => whnf) | (apply z10 (l5Count_ok t hm 6 6 (by omega) (by omega) (by omega) (by assumption)); rfl; rfl; conv => whnf))
  all_goals (refine z28 rfl ?_; (simp [*]; done))

end Go.Proofs.YtknlmbniicacmaaGreat

namespace Go.Proofs.YtknlmbniicacmaaGreat
open Go.Gl
attribute [local irreducible] z48 AWP z76 z84 z81 RetS z103

theorem l5True_ok : CallsA Tryz.prog 296 [] [] (.agg [.int 1, .int 0, .list 3 0 []]) [] := by
  refine z14 z29 Tryz.func296 rfl rfl 2 Tryz.ntmps296 (by simp) ?_
  repeat' (((apply AWP.go ok; rfl)) <;> conv => whnf)
  all_goals (refine RetS.lay [] [] rfl rfl rfl ?_; refine RetS.done ?_ ?_ <;> (repeat' (first | exact LocLe.refl _ | exact z31 | exact F2.nil | apply F2.cons | apply z42)))
set_option maxHeartbeats 1600000 in
theorem l5Random_ok (bs : List Int) (hb : BytesOk bs) : ∀ (n : Nat) (d p : Int), d ≤ n + 1 → n ≤ 100 → 0 ≤ d → 0 ≤ p → p + drK n ≤ 1000000000 → ∃ (t : Tree) (p' : Int), (t.sz ≤ drS n ∧ p ≤ p' ∧ p' ≤ p + drK n) ∧ CallsA Tryz.prog 261 [.ptr 0 none 0, .int d] [rdO bs p] (z65 Tree.cs' t) [rdO bs p'] := by
  intro n
  induction n with
  | zero =>
    intro d p hd hd1 hd0 hp hq
    rw [drK] at hq ⊢
    obtain ⟨v0, ⟨l0, u0⟩, c0⟩ := z74 bs hb p 8 (by omega) (by omega) (by omega)
    by_cases h0 : v0 = 0
    · subst h0
      refine ⟨leaf 1 0, p + 1, ⟨by rw [z118]; omega, by omega, by omega⟩, ?_⟩
      refine z14 z29 Tryz.func261 rfl rfl 43 Tryz.ntmps261 (by simp) ?_
      repeat' ((first | (apply AWP.go ok; rfl) | ((apply z8) <;> intro _) | (apply z10 (l5True_ok); rfl; rfl) | (((apply z7 [0] [] [] (c0); rfl; (focus ((repeat' first | exact z6 | apply z5) <;> rfl)))); rfl; rfl; rfl; rfl; rfl; (focus ((repeat' first | exact z19 | apply z16) <;> exact z25 rfl rfl)); (exact .inl rfl))) <;> conv => whnf)
      all_goals first | (exfalso; omega) | skip
      all_goals (refine RetS.lay [0] [] rfl rfl rfl ?_; refine RetS.done ?_ ?_ <;> (repeat' (first | exact LocLe.refl _ | exact F2.nil | apply F2.cons | apply ObjLe.box)))
    · obtain ⟨v1, m1, c1⟩ := z117 bs hb (p + 1) (by omega) (by omega) [0, 1, 0, 2] (by decide) (by decide)
      refine ⟨leaf 2 v1, p + 1 + 1, ⟨by rw [z118]; omega, by omega, by omega⟩, ?_⟩
      refine z14 z29 Tryz.func261 rfl rfl 43 Tryz.ntmps261 (by simp) ?_
      repeat' ((first | (apply AWP.go ok; rfl) | ((apply z8) <;> intro _) | ((first | (apply z7 [0] [] [] (c0); rfl; (focus ((repeat' first | exact z6 | apply z5) <;> rfl))) | (apply z7 [0, 2] [] [] (c1); rfl; (focus ((repeat' first | exact z6 | apply z5) <;> rfl)))); rfl; rfl; rfl; rfl; rfl; (focus ((repeat' first | exact z19 | apply z16) <;> first | exact z25 rfl rfl | (refine z34 ?_; ((exact z4 fun _ => rfl))))); (exact .inl rfl))) <;> conv => whnf)
      all_goals first | (exfalso; omega) | skip
      all_goals (refine RetS.lay [0] [] rfl rfl rfl ?_; refine RetS.done ?_ ?_ <;> (repeat' (first | exact LocLe.refl _ | exact z31 | exact F2.nil | apply F2.cons | apply ObjLe.box | apply z42)))
  | succ n ih =>
    intro d p hd hd1 hd0 hp hq
    have hK := drK_pos n
    by_cases hlt : d < 2
    · obtain ⟨t, p', h1, h2⟩ := ih d p (by omega) (by omega) hd0 hp (by rw [drK] at hq; omega)
      exact ⟨t, p', ⟨by rw [drS]; omega, h1.2.1, by rw [drK]; omega⟩, h2⟩
    rw [drK] at hq
    rw [drK, drS]
    obtain ⟨w, ⟨lw, uw⟩, cw⟩ := z74 bs hb p 5 (by omega) (by omega) (by omega)
    by_cases hw : w = 0
    · subst hw
      obtain ⟨v0, ⟨l0, u0⟩, c0⟩ := z74 bs hb (p + 1) 8 (by omega) (by omega) (by omega)
      by_cases h0 : v0 = 0
      · subst h0
        refine ⟨leaf 1 0, p + 1 + 1, ⟨by rw [z118]; omega, by omega, by omega⟩, ?_⟩
        refine z14 z29 Tryz.func261 rfl rfl 43 Tryz.ntmps261 (by simp) ?_
        repeat' ((first | (apply AWP.go ok; rfl) | ((apply z8) <;> intro _) | (apply z10 (l5True_ok); rfl; rfl) | ((first | (apply z7 [0] [] [] (cw); rfl; (focus ((repeat' first | exact z6 | apply z5) <;> rfl))) | (apply z7 [0] [] [] (c0); rfl; (focus ((repeat' first | exact z6 | apply z5) <;> rfl)))); rfl; rfl; rfl; rfl; rfl; (focus ((repeat' first | exact z19 | apply z16) <;> exact z25 rfl rfl)); (exact .inl rfl))) <;> conv => whnf)
        all_goals first | (exfalso; omega) | skip
        all_goals (refine RetS.lay [0] [] rfl rfl rfl ?_; refine RetS.done ?_ ?_ <;> (repeat' (first | exact LocLe.refl _ | exact F2.nil | apply F2.cons | apply ObjLe.box)))
      · obtain ⟨v1, m1, c1⟩ := z117 bs hb (p + 1 + 1) (by omega) (by omega) [0, 1, 0, 2] (by decide) (by decide)
        refine ⟨leaf 2 v1, p + 1 + 1 + 1, ⟨by rw [z118]; omega, by omega, by omega⟩, ?_⟩
        refine z14 z29 Tryz.func261 rfl rfl 43 Tryz.ntmps261 (by simp) ?_
        repeat' ((first | (apply AWP.go ok; rfl) | ((apply z8) <;> intro _) | ((first | (apply z7 [0] [] [] (cw); rfl; (focus ((repeat' first | exact z6 | apply z5) <;> rfl))) | (apply z7 [0] [] [] (c0); rfl; (focus ((repeat' first | exact z6 | apply z5) <;> rfl))) | (apply z7 [0, 2] [] [] (c1); rfl; (focus ((repeat' first | exact z6 | apply z5) <;> rfl)))); rfl; rfl; rfl; rfl; rfl; (focus ((repeat' first | exact z19 | apply z16) <;> first | exact z25 rfl rfl | (refine z34 ?_; ((exact z4 fun _ => rfl))))); (exact .inl rfl))) <;> conv => whnf)
        all_goals first | (exfalso; omega) | skip
        all_goals (refine RetS.lay [0] [] rfl rfl rfl ?_; refine RetS.done ?_ ?_ <;> (repeat' (first | exact LocLe.refl _ | exact z31 | exact F2.nil | apply F2.cons | apply ObjLe.box | apply z42)))
    · obtain ⟨kd, mk, ck⟩ := z117 bs hb (p + 1) (by omega) (by omega) [7, 9, 10, 3, 4, 5, 6, 8] (by decide) (by decide)
      have ca := l5Arity_ok kd
      have ham : ∃ m : Nat, arityF kd = m ∧ m ≤ 2 := by
        simp only [List.mem_cons, List.not_mem_nil, or_false] at mk
        unfold arityF
        rcases mk with rfl | rfl | rfl | rfl | rfl | rfl | rfl | rfl
        all_goals first | exact ⟨2, rfl, by omega⟩ | exact ⟨1, rfl, by omega⟩
      obtain ⟨m, em, hm⟩ := ham
      rw [em] at ca
      obtain ⟨ks, pf, hks, hp0, hst, hpf⟩ := seq_ex (fun k q (t : Tree) q' => t.sz ≤ drS n ∧ CallsA Tryz.prog 261 [.ptr 0 none 0, .int (d - 1)] [rdO bs q] (z65 Tree.cs' t) [rdO bs q']) (p + 1 + 1) (drK n) m (fun k q hk h1 h2 => by
        have : drK n * k ≤ drK n := by
          have : k = 0 ∨ k = 1 := by omega
          rcases this with rfl | rfl <;> simp <;> omega
        obtain ⟨t, q', ⟨a1, a2, a3⟩, a4⟩ := ih (d - 1) q (by omega) (by omega) (by omega) (by omega) (by omega)
        exact ⟨t, q', ⟨a1, a4⟩, a2, a3⟩)
      have hpm := hpf m (Nat.le_refl _)
      have hKm : drK n * m ≤ 2 * drK n := by
        have : m = 0 ∨ m = 1 ∨ m = 2 := by omega
        rcases this with rfl | rfl | rfl <;> simp <;> omega
      have hsum : (ks.map Tree.sz).sum ≤ 2 * drS n := by
        have : ∀ (l : List Tree), (∀ t ∈ l, t.sz ≤ drS n) → (l.map Tree.sz).sum ≤ l.length * drS n := by
          intro l
          induction l with
          | nil => intro _; simp
          | cons t l ih =>
            intro h
            have h1 := h t (by simp)
            have h2 := ih fun u hu => h u (by simp [hu])
            simp only [List.map_cons, List.sum_cons, List.length_cons, Nat.add_mul]
            omega
        have h1 := this ks fun t ht => by
          obtain ⟨i, hi, rfl⟩ := List.mem_iff_getElem.1 ht
          exact (hst i hi).1
        have h2 : ks.length * drS n ≤ 2 * drS n := Nat.mul_le_mul_right _ (by omega)
        omega
      refine ⟨.mk kd 0 ks, pf m, ⟨by rw [mk_sz]; omega, by omega, by omega⟩, ?_⟩
      refine z14 z29 Tryz.func261 rfl rfl 43 Tryz.ntmps261 (by simp) ?_
      rw [← hp0] at ck
      repeat' ((first | (apply AWP.go ok; rfl) | ((apply z8) <;> intro _) | (apply z10 (ca); rfl; rfl) | ((first | (apply z7 [0] [] [] (cw); rfl; (focus ((repeat' first | exact z6 | apply z5) <;> rfl))) | (apply z7 [0, 2] [] [] (ck); rfl; (focus ((repeat' first | exact z6 | apply z5) <;> rfl)))); rfl; rfl; rfl; rfl; rfl; (focus ((repeat' first | exact z19 | apply z16) <;> first | exact z25 rfl rfl | (refine z34 ?_; ((exact z4 fun _ => rfl))))); (exact .inl rfl))) <;> conv => whnf)
      all_goals first | (exfalso; omega) | skip
      refine AWP.reach (Reach.empty 3 rfl) ?_
      refine z115 (fun k : Nat => ([(0, .ptr 0 none 0), (1, .int d), (4, .ptr 1 none 0), (5, .ptr 2 none 0), (6, .int (m - k))], [rdO bs (pf k), .cells 3 [[.int 0, .int 0, .nils]], .cells 3 [[.int kd, .int 0, .sref 3 0 k]], .cells 3 ((ks.take k).map Tree.cs')])) (fun k => k ≤ m) (fun k => m - k) 0 (by omega) (by refine SealW.reach [0, 1, 3, 4] [] rfl rfl rfl rfl ?_ ?_ <;> (repeat' (first | exact LocLe.refl _ | exact z40 | exact F2.nil | apply F2.cons | apply ObjLe.box | ((refine z17 rfl ?_ ?_); (focus ((repeat' (exact z12)); done))) | exact True.intro | apply And.intro))) ?_
      intro k hk
      by_cases hkm : k < m
      · have hc := (hst k (by omega)).2
        have hkl : k < ks.length := by omega
        rw [Tree.arg_eq] at hc
        repeat' ((first | (apply AWP.go ok; rfl) | (apply z38; kernel_rfl) | (apply And.intro; first | (unfold inI; omega) | ((try dsimp only); simp only [List.length_map, List.length_take, List.length_append, List.length_replicate, List.length_cons, List.length_nil]; omega) | exact ⟨rfl, z21 rfl z26⟩) | ((apply z8) <;> intro _) | (((apply z7 [0] [] [] (hc); rfl; (focus ((repeat' first | exact z6 | apply z5) <;> rfl)))); rfl; rfl; rfl; rfl; rfl; (focus ((repeat' first | exact z19 | apply z16) <;> exact z25 rfl rfl)); (exact .inl rfl))) <;> conv => whnf)
        all_goals first | (exfalso; omega) | skip
        refine z49 (k + 1) (by omega) (by omega) (by refine SealW.reach [0, 1, 2, 5] [] rfl rfl rfl rfl ?_ ?_ <;> (repeat' (first | exact LocLe.refl _ | exact F2.nil | apply F2.cons | exact z102 | (refine z78 ?_; omega) | apply ObjLe.box | ((refine z24 rfl ?_ ?_); (focus ((repeat' (first | exact z4 (fun _ => rfl) | apply z15)); done))) | (refine z73 (by omega) (by omega) ?_) | (apply z32; rfl) | exact True.intro | apply And.intro)))
      · have : k = m := by omega
        subst this
        repeat' ((first | (apply AWP.go ok; rfl) | (apply And.intro; omega) | ((apply z8) <;> intro _)) <;> conv => whnf)
        all_goals first | (exfalso; omega) | skip
        all_goals (refine RetS.lay [0] [3] rfl rfl rfl ?_; refine RetS.done ?_ ?_ <;> (repeat' (first | exact LocLe.refl _ | exact F2.nil | apply F2.cons | (refine z44 ?_; omega) | apply ObjLe.box | ((apply z27 rfl rfl rfl); (focus ((repeat ((exact z23 (fun _ => rfl) _))); done)); (focus (((simp; omega)); done))) | apply z42)))

theorem l5Formula_ok (bs : List Int) (hb : BytesOk bs) (p : Int) (hp : few p) : ∃ (t : Tree) (p' : Int), (t.sz ≤ 20 ∧ p ≤ p' ∧ p' ≤ p + 100) ∧ CallsA Tryz.prog 207 [.ptr 0 none 0] [rdO bs p] (z65 Tree.cs' t) [rdO bs p'] := by
  obtain ⟨d, md, cd⟩ := z117 bs hb p (by omega) (by omega) [3, 2, 4, 3] (by decide) (by decide)
  have hd : 0 ≤ d ∧ d ≤ 4 := by simp at md; omega
  obtain ⟨t, q, ⟨t1, t2, t3⟩, ct⟩ := l5Random_ok bs hb 3 d (p + 1) (by omega) (by omega) (by omega) (by omega) (by simp only [drK]; omega)
  simp only [drK] at t3
  simp only [drS] at t1
  have cv := specFmValid_ok t (mx_of_sz t (by unfold maxLen; omega))
  by_cases hv : t.fmB = true
  · refine ⟨t, q, ⟨by omega, by omega, by omega⟩, ?_⟩
    rw [hv] at cv
    rw [Tree.arg_eq] at *
    refine z14 z29 Tryz.func207 rfl rfl 15 Tryz.ntmps207 (by simp) ?_
    repeat' ((first | (apply AWP.go ok; rfl) | (apply z10 (cv); rfl; rfl) | ((first | (apply z7 [0, 2] [] [] (cd); rfl; (focus ((repeat' first | exact z6 | apply z5) <;> rfl))) | (apply z7 [0] [] [] (ct); rfl; (focus ((repeat' first | exact z6 | apply z5) <;> rfl)))); rfl; rfl; rfl; rfl; rfl; (focus ((repeat' first | exact z19 | apply z16) <;> first | exact z25 rfl rfl | (refine z34 ?_; ((exact z4 fun _ => rfl))))); (exact .inl rfl))) <;> conv => whnf)
    all_goals skip
    all_goals (refine RetS.lay [0] [] rfl rfl rfl ?_; refine RetS.done ?_ ?_ <;> (repeat' (first | exact LocLe.refl _ | exact F2.nil | apply F2.cons | apply ObjLe.box)))
  · refine ⟨.mk 10 0 [leaf 2 0], q, ⟨by rw [mk_sz]; simp [z118], by omega, by omega⟩, ?_⟩
    rw [(Bool.not_eq_true _).mp hv] at cv
    rw [Tree.arg_eq] at cv ct
    refine z14 z29 Tryz.func207 rfl rfl 15 Tryz.ntmps207 (by simp) ?_
    repeat' ((first | (apply AWP.go ok; rfl) | (apply z10 (cv); rfl; rfl) | ((first | (apply z7 [0, 2] [] [] (cd); rfl; (focus ((repeat' first | exact z6 | apply z5) <;> rfl))) | (apply z7 [0] [] [] (ct); rfl; (focus ((repeat' first | exact z6 | apply z5) <;> rfl)))); rfl; rfl; rfl; rfl; rfl; (focus ((repeat' first | exact z19 | apply z16) <;> first | exact z25 rfl rfl | (refine z34 ?_; ((exact z4 fun _ => rfl))))); (exact .inl rfl))) <;> conv => whnf)
    all_goals skip
    all_goals (refine RetS.lay [0] [4] rfl rfl rfl ?_; refine RetS.done ?_ ?_ <;> (repeat' (first | exact LocLe.refl _ | exact z31 | exact F2.nil | apply F2.cons | apply ObjLe.box | ((apply z27 rfl rfl rfl); (focus ((repeat (rfl)); done)); (focus ((rfl); done))) | apply z42 | (apply z32; rfl))))
end Go.Proofs.YtknlmbniicacmaaGreat

namespace Go.Proofs.YtknlmbniicacmaaGreat
open Go.Gl
attribute [local irreducible] z48 AWP z76 z84 z81 RetS z103

theorem argU (k v : Int) (a : Tree) : z65 Tree.cs' (.mk k v [a]) = .agg [.int k, .int v, .list 3 1 [Tree.cs' a]] := by
  rw [Tree.arg_eq]
  show AC.agg [AC.int k, AC.int v, lst 3 Tree.cs' [a]] = _
  rfl
theorem argB (k v : Int) (a b : Tree) : z65 Tree.cs' (.mk k v [a, b]) = .agg [.int k, .int v, .list 3 2 [Tree.cs' a, Tree.cs' b]] := by
  rw [Tree.arg_eq]
  rfl
theorem tree_le (x : Tree) : F2 LocLe (unownL [AC.int x.kind, AC.int x.val, lst 3 Tree.cs' x.kids]) (Tree.cs x) := by
  have e : Tree.cs x = [AC.int x.kind, AC.int x.val, lst 3 Tree.cs' x.kids] := by rw [Tree.cs_eq]; exact AC.agg.inj (Tree.arg_eq x)
  rw [e]; exact z75 _
theorem l5Not_ok (t : Tree) : CallsA Tryz.prog 242 [z65 Tree.cs' t] [] (z65 Tree.cs' (notT t)) [] := by
  unfold notT
  rw [Tree.arg_eq t, Tree.arg_eq]
  refine z14 z29 Tryz.func242 rfl rfl 6 Tryz.ntmps242 (by simp) ?_
  repeat' (((apply AWP.go ok; rfl)) <;> conv => whnf)
  all_goals (refine RetS.lay [] [2] rfl rfl rfl ?_; refine RetS.done ?_ ?_ <;> (repeat' (first | exact LocLe.refl _ | exact F2.nil | apply F2.cons | exact z102 | ((apply z27 rfl rfl rfl); (focus ((repeat (rfl)); done)); (focus ((rfl); done))) | apply z42 | (apply z32; rfl))))
  all_goals exact tree_le _
theorem l5Dual_ok (k : Int) : CallsA Tryz.prog 315 [.int k] [] (.int (dualF k)) [] := by
  unfold dualF
  refine z14 z29 Tryz.func315 rfl rfl 10 Tryz.ntmps315 (by simp) ?_
  repeat' ((first | (apply AWP.go ok; rfl) | ((apply z8) <;> intro _)) <;> conv => whnf)
  all_goals (refine RetS.lay [] [] rfl rfl rfl ?_; refine RetS.done (z78 ?_) .nil; first | (rw [if_pos (by omega)]; done) | (rw [if_neg (by omega), if_pos (by omega)]; done) | (rw [if_neg (by omega), if_neg (by omega), if_pos (by omega)]; done) | (rw [if_neg (by omega), if_neg (by omega), if_neg (by omega)]; done))
set_option maxHeartbeats 3200000 in
theorem l5Push_ok (t : Tree) : t.goodF → ∀ neg : Bool, CallsA Tryz.prog 282 [z65 Tree.cs' t, .bool neg] [] (z65 Tree.cs' (t.nrm neg)) [] := by
  induction t using Tree.ind with | h t ih => ?_
  intro hg neg
  have hT := l5True_ok
  cases Tree.formF hg with
  | tr =>
    rw [nrm_tr]
    have cn := (l5Not_ok (.mk 1 0 [])).arg (args0 := [.agg [.int 1, .int 0, .nils]]) (by (repeat' (first | exact LocLe.refl _ | exact z31 | exact F2.nil | apply F2.cons | apply z42)))
    cases neg
    all_goals
      refine z14 z29 Tryz.func282 rfl rfl 86 Tryz.ntmps282 (by simp) ?_
      repeat' ((first | (apply AWP.go ok; rfl) | (apply z10 (cn); rfl; rfl)) <;> conv => whnf)
      all_goals (refine RetS.lay [] [] rfl rfl rfl ?_; refine RetS.done ?_ ?_ <;> (repeat' (first | exact LocLe.refl _ | exact z31 | exact F2.nil | apply F2.cons | apply z42)))
  | «at» v h0 h1 =>
    rw [nrm_at]
    have cn := (l5Not_ok (.mk 2 v [])).arg (args0 := [.agg [.int 2, .int v, .nils]]) (by (repeat' (first | exact LocLe.refl _ | exact z31 | exact F2.nil | apply F2.cons | apply z42)))
    cases neg
    all_goals
      refine z14 z29 Tryz.func282 rfl rfl 86 Tryz.ntmps282 (by simp) ?_
      repeat' ((first | (apply AWP.go ok; rfl) | (apply z10 (cn); rfl; rfl)) <;> conv => whnf)
      all_goals (refine RetS.lay [] [] rfl rfl rfl ?_; refine RetS.done ?_ ?_ <;> (repeat' (first | exact LocLe.refl _ | exact z31 | exact F2.nil | apply F2.cons | apply z42)))
  | un k a hk ha =>
    have ca := ih a (by simp [Tree.kids]) ha
    clear ih
    have cn := l5Not_ok truT
    rcases hk with rfl | rfl | rfl | rfl
    · rw [nrm_not, argU 3 0 a]
      have ca := ca (!neg)
      refine z14 z29 Tryz.func282 rfl rfl 86 Tryz.ntmps282 (by simp) ?_
      repeat' ((first | (apply AWP.go ok; rfl) | (refine ⟨_, rfl, ?_⟩) | (apply And.intro; omega) | (apply z10 (ca); rfl; rfl)) <;> conv => whnf)
      all_goals (refine RetS.lay [] [] rfl rfl rfl ?_; refine RetS.done ?_ ?_ <;> (repeat' (first | exact LocLe.refl _ | exact F2.nil)))
    · rw [nrm_next, argU 6 0 a]
      have ca := ca neg
      generalize a.nrm neg = x at *
      rw [Tree.arg_eq x] at ca
      refine z14 z29 Tryz.func282 rfl rfl 86 Tryz.ntmps282 (by simp) ?_
      repeat' ((first | (apply AWP.go ok; rfl) | (refine ⟨_, rfl, ?_⟩) | (apply And.intro; omega) | (apply z10 (ca); rfl; rfl)) <;> conv => whnf)
      all_goals skip
      all_goals (refine RetS.lay [] [2] rfl rfl rfl ?_; refine RetS.done ?_ ?_ <;> (repeat' (first | exact LocLe.refl _ | exact F2.nil | apply F2.cons | ((apply z27 rfl rfl rfl); (focus ((repeat (rfl)); done)); (focus ((rfl); done))) | apply z42 | (apply z32; rfl))))
      all_goals exact tree_le _
    · rw [nrm_ev, argU 9 0 a]
      have ca := ca neg
      generalize a.nrm neg = x at *
      rw [Tree.arg_eq x] at ca
      cases neg
      all_goals
        refine z14 z29 Tryz.func282 rfl rfl 86 Tryz.ntmps282 (by simp) ?_
        repeat' ((first | (apply AWP.go ok; rfl) | (apply z38; kernel_rfl) | (refine ⟨_, rfl, ?_⟩) | (apply And.intro; omega) | (apply z10 (ca); rfl; rfl) | (apply z10 (hT); rfl; rfl) | (apply z10 (cn); rfl; rfl)) <;> conv => whnf)
        all_goals skip
        all_goals (refine RetS.lay [] [3] rfl rfl rfl ?_; refine RetS.done ?_ ?_ <;> (repeat' (first | exact LocLe.refl _ | exact F2.nil | apply F2.cons | ((apply z27 rfl rfl rfl); (focus ((repeat (rfl)); done)); (focus ((rfl); done))) | apply z42 | (apply z32; rfl))))
        all_goals exact tree_le _
    · rw [nrm_al, argU 10 0 a]
      have ca := ca neg
      generalize a.nrm neg = x at *
      rw [Tree.arg_eq x] at ca
      cases neg
      all_goals
        refine z14 z29 Tryz.func282 rfl rfl 86 Tryz.ntmps282 (by simp) ?_
        repeat' ((first | (apply AWP.go ok; rfl) | (apply z38; kernel_rfl) | (refine ⟨_, rfl, ?_⟩) | (apply And.intro; omega) | (apply z10 (ca); rfl; rfl) | (apply z10 (hT); rfl; rfl) | (apply z10 (cn); rfl; rfl)) <;> conv => whnf)
        all_goals skip
        all_goals (refine RetS.lay [] [3] rfl rfl rfl ?_; refine RetS.done ?_ ?_ <;> (repeat' (first | exact LocLe.refl _ | exact F2.nil | apply F2.cons | ((apply z27 rfl rfl rfl); (focus ((repeat (rfl)); done)); (focus ((rfl); done))) | apply z42 | (apply z32; rfl))))
        all_goals exact tree_le _
  | bin k a b hk ha hb =>
    have ca := ih a (by simp [Tree.kids]) ha neg
    have cb := ih b (by simp [Tree.kids]) hb neg
    clear ih
    have cd := l5Dual_ok k
    rw [nrm_bin _ _ _ _ _ hk, argB k 0 a b]
    generalize a.nrm neg = x at *
    generalize b.nrm neg = y at *
    rw [Tree.arg_eq x] at ca
    rw [Tree.arg_eq y] at cb
    generalize dualF k = k' at *
    cases neg
    all_goals
      refine z14 z29 Tryz.func282 rfl rfl 86 Tryz.ntmps282 (by simp) ?_
      repeat' ((first | (apply AWP.go ok; rfl) | (apply z38; kernel_rfl) | (refine ⟨_, rfl, ?_⟩) | (apply And.intro; omega) | ((first | apply z8 | apply z30) <;> intro _) | (apply z10 (ca); rfl; rfl) | (apply z10 (cb); rfl; rfl) | (apply z10 (cd); rfl; rfl)) <;> conv => whnf)
      all_goals first | (exfalso; omega) | skip
      all_goals (refine RetS.lay [] [2] rfl rfl rfl ?_; refine RetS.done ?_ ?_ <;> (repeat' (first | exact LocLe.refl _ | exact F2.nil | apply F2.cons | ((apply z27 rfl rfl rfl); (focus ((repeat (rfl)); done)); (focus ((rfl); done))) | apply z42 | (apply z32; rfl))))
      all_goals exact tree_le _
end Go.Proofs.YtknlmbniicacmaaGreat

namespace Go.Proofs.YtknlmbniicacmaaGreat
open Go.Gl
attribute [local irreducible] z48 AWP z76 z84 z81 RetS z103

theorem l5Copy_new (t : Tree) (h : t.sz ≤ 1000000) : CallsA Tryz.prog 241 [z65 Tree.cs' t] [] (ownT t) [.cells 3 (t.kids.map Tree.cs')] := by
  induction t using Tree.ind with | h t ih => ?_
  have hkl : t.kids.length ≤ 1000000 := by rw [Tree.sz_eq] at h; omega
  have hks : ∀ u ∈ t.kids, u.sz ≤ 1000000 := fun u hu => by
    have := le_sum Tree.sz hu
    rw [Tree.sz_eq] at h; omega
  rw [Tree.arg_eq t]
  obtain ⟨k, v, l⟩ := t
  simp only [Tree.kind, Tree.val, Tree.kids] at *
  have hcs : ∀ (i : Nat) (hi : i < l.length), CallsA Tryz.prog 241 [z65 Tree.cs' l[i]] [] (z65 Tree.cs' l[i]) [] := fun i hi =>
    own_data (ih _ (List.getElem_mem _) (hks _ (List.getElem_mem _)))
  unfold ownT
  simp only [Tree.kind, Tree.val, Tree.kids] at *
  refine z14 z29 Tryz.func241 rfl rfl 29 Tryz.ntmps241 (by simp) ?_
  repeat' (((apply AWP.go ok; rfl)) <;> conv => whnf)
  all_goals skip
  refine AWP.reach (Reach.empty 3 rfl) ?_
  refine z115 (fun i : Nat => ([(1, .ptr 0 none 0), (2, .ptr 1 none 0), (3, .ptr 2 none 0), (4, .int i)], [.cells 3 [[.int k, .int v, lst 3 Tree.cs' l]], .cells 3 [[.int 0, .int 0, .nils]], .cells 3 [[.int k, .int v, .sref 3 0 i]], .cells 3 ((l.take i).map Tree.cs')])) (fun i => i ≤ l.length) (fun i => l.length - i) 0 (by omega) (by refine SealW.reach [0, 1, 2, 3] [] rfl rfl rfl rfl ?_ ?_ <;> (repeat' (first | exact LocLe.refl _ | exact z40 | exact F2.nil | apply F2.cons | apply ObjLe.box | ((refine z17 rfl ?_ ?_); (focus ((repeat' (exact z12)); done))) | exact True.intro | apply And.intro))) ?_
  intro i hi
  by_cases hil : i < l.length
  · have hc := hcs i hil
    repeat' ((first | (apply AWP.go ok; rfl) | (apply z38; kernel_rfl) | (apply And.intro; first | omega | (unfold inI; omega) | ((try dsimp only); simp only [List.length_map, List.length_take, List.length_append, List.length_replicate, List.length_cons, List.length_nil]; omega) | exact ⟨rfl, z21 rfl z26⟩) | (((with_reducible apply z13; omega)); intro _) | ((apply z8) <;> intro _) | (apply z10 (hc); rfl; rfl)) <;> conv => whnf)
    all_goals first | (exfalso; omega) | skip
    refine z49 (i + 1) (by omega) (by omega) (by refine SealW.reach [0, 1, 2, 5] [] rfl rfl rfl rfl ?_ ?_ <;> (repeat' (first | exact LocLe.refl _ | exact F2.nil | apply F2.cons | apply ObjLe.box | ((refine z24 rfl ?_ ?_); (focus ((repeat' (first | exact z4 (fun _ => rfl) | apply z15)); done))) | (refine z73 (by omega) (by omega) ?_) | exact True.intro | apply And.intro)))
  · have e : i = l.length := by omega
    subst e
    rw [List.take_length]
    repeat' ((first | (apply AWP.go ok; rfl) | (apply And.intro; omega) | (((with_reducible apply z13; omega)); intro _) | ((apply z8) <;> intro _)) <;> conv => whnf)
    all_goals first | (exfalso; omega) | skip
    all_goals (refine RetS.lay [3] [] rfl rfl rfl ?_; refine RetS.done ?_ ?_ <;> (repeat' (first | exact LocLe.refl _ | exact F2.nil | apply F2.cons | exact z20 _ | ((refine z17 rfl ?_ ?_); (focus ((repeat' ((exact z4 (fun _ => rfl)))); done))))))

end Go.Proofs.YtknlmbniicacmaaGreat

namespace Go.Proofs.YtknlmbniicacmaaGreat
open Go.Gl
attribute [local irreducible] z48 AWP z76 z84 z81 RetS z103

theorem normalForm_ok (t : Tree) (hs : t.sz ≤ 1000) : CallsA Tryz.prog 244 [z65 Tree.cs' t] [] (.tup [z65 Tree.cs' (if t.fmB = true ∧ (t.nrm false).fmB = true then t.nrm false else dftT), .bool (decide (t.fmB = true ∧ (t.nrm false).fmB = true))]) [] := by
  have cv := specFmValid_ok t (mx_of_sz t (by unfold maxLen; omega))
  by_cases h1 : t.fmB = true
  · have hg := Tree.goodF_of h1
    have cp := l5Push_ok t hg false
    have hz := Tree.nrm_sz t hg false
    have cw := specFmValid_ok (t.nrm false) (mx_of_sz _ (by unfold maxLen; omega))
    rw [h1] at cv ⊢
    generalize t.nrm false = u at *
    by_cases h2 : u.fmB = true
    · rw [h2] at cw ⊢
      rw [if_pos ⟨rfl, rfl⟩, decide_eq_true ⟨rfl, rfl⟩]
      rw [Tree.arg_eq t] at cv cp ⊢
      rw [Tree.arg_eq u] at cp cw ⊢
      refine z14 z29 Tryz.func244 rfl rfl 16 Tryz.ntmps244 (by simp) ?_
      repeat' ((first | (apply AWP.go ok; rfl) | (apply z10 (cv); rfl; rfl) | (apply z10 (cp); rfl; rfl) | (apply z10 (cw); rfl; rfl)) <;> conv => whnf)
      all_goals (refine RetS.lay [] [] rfl rfl rfl ?_; refine RetS.done ?_ ?_ <;> (repeat' (first | exact LocLe.refl _ | exact F2.nil)))
    · rw [if_neg (fun h => h2 h.2), decide_eq_false (fun h => h2 h.2)]
      rw [(Bool.not_eq_true _).mp h2] at cw
      rw [Tree.arg_eq t] at cv cp ⊢
      rw [Tree.arg_eq u] at cp cw
      refine z14 z29 Tryz.func244 rfl rfl 16 Tryz.ntmps244 (by simp) ?_
      repeat' ((first | (apply AWP.go ok; rfl) | (apply z10 (cv); rfl; rfl) | (apply z10 (cp); rfl; rfl) | (apply z10 (cw); rfl; rfl)) <;> conv => whnf)
      all_goals (refine RetS.lay [] [] rfl rfl rfl ?_; refine RetS.done ?_ ?_ <;> (repeat' (first | exact LocLe.refl _ | exact z31 | exact F2.nil | apply F2.cons | apply z42 | apply z85)))
  · rw [if_neg (fun h => h1 h.1), decide_eq_false (fun h => h1 h.1)]
    rw [(Bool.not_eq_true _).mp h1] at cv
    rw [Tree.arg_eq t] at cv ⊢
    refine z14 z29 Tryz.func244 rfl rfl 16 Tryz.ntmps244 (by simp) ?_
    repeat' ((first | (apply AWP.go ok; rfl) | (apply z10 (cv); rfl; rfl)) <;> conv => whnf)
    all_goals (refine RetS.lay [] [] rfl rfl rfl ?_; refine RetS.done ?_ ?_ <;> (repeat' (first | exact LocLe.refl _ | exact z31 | exact F2.nil | apply F2.cons | apply z42 | apply z85)))

theorem fmSame_ok (a : Tree) : a.mx → ∀ b : Tree, b.mx → CallsA Tryz.prog 316 [z65 Tree.cs' a, z65 Tree.cs' b] [] (.bool (decide (a = b))) [] := by
  induction a using Tree.ind with | h a ih => ?_
  intro ha b hb
  rw [Tree.mx_iff] at ha hb
  have hal := ha.1
  have hbl := hb.1
  unfold maxLen at hal hbl
  rw [Tree.arg_eq, Tree.arg_eq]
  by_cases hk : a.kind = b.kind ∧ a.val = b.val ∧ a.kids.length = b.kids.length
  · obtain ⟨k1, k2, k3⟩ := hk
    have hiff : (a = b) ↔ ∀ i (h : i < a.kids.length) (h2 : i < b.kids.length), a.kids[i] = b.kids[i] := ⟨fun e => by subst e; exact fun _ _ _ => rfl, fun h => Tree.ext k1 k2 (List.ext_getElem k3 h)⟩
    have hc : ∀ i (h : i < a.kids.length) (h2 : i < b.kids.length), CallsA Tryz.prog 316 [z65 Tree.cs' a.kids[i], z65 Tree.cs' b.kids[i]] [] (.bool (decide (a.kids[i] = b.kids[i]))) [] := fun i h h2 => ih _ (List.getElem_mem _) (ha.2 _ (List.getElem_mem _)) _ (hb.2 _ (List.getElem_mem _))
    clear ih
    have hT : (∀ i (h : i < a.kids.length) (h2 : i < b.kids.length), a.kids[i] = b.kids[i]) → decide (a = b) = true := fun h => decide_eq_true (hiff.2 h)
    have hF : ∀ i (h : i < a.kids.length) (h2 : i < b.kids.length), a.kids[i] ≠ b.kids[i] → decide (a = b) = false := fun i h h2 hne => decide_eq_false fun e => hne (hiff.1 e i h h2)
    generalize decide (a = b) = D at *
    clear hiff
    generalize a.kids = A at *
    generalize b.kids = B at *
    refine z14 z29 Tryz.func316 rfl rfl 46 Tryz.ntmps316 (by simp) ?_
    repeat' ((first | (apply AWP.go ok; rfl) | ((apply z30) <;> intro _)) <;> conv => whnf)
    all_goals first | (exfalso; omega) | skip
    refine z115 (fun i : Nat => ([(2, .ptr 0 none 0), (3, .ptr 1 none 0), (5, .int i)], [.cells 3 [[.int a.kind, .int a.val, lst 3 Tree.cs' A]], .cells 3 [[.int b.kind, .int b.val, lst 3 Tree.cs' B]]])) (fun i => i ≤ A.length ∧ ∀ j (h : j < A.length) (h2 : j < B.length), j < i → A[j] = B[j]) (fun i => A.length - i) 0 ⟨Nat.zero_le _, fun j _ _ h => absurd h (Nat.not_lt_zero _)⟩ (by refine SealW.reach [0, 1] [] rfl rfl rfl rfl ?_ ?_ <;> (repeat' (first | exact LocLe.refl _ | exact F2.nil | apply F2.cons | apply ObjLe.box | exact True.intro | apply And.intro))) ?_
    rintro i ⟨hi, hj⟩
    by_cases hil : i < A.length
    · have hil2 : i < B.length := by omega
      have c1 := hc i hil hil2
      have gA : (A.map Tree.cs')[i]? = some (Tree.cs' A[i]) := by rw [List.getElem?_map, List.getElem?_eq_getElem hil]; rfl
      have gB : (B.map Tree.cs')[i]? = some (Tree.cs' B[i]) := by rw [List.getElem?_map, List.getElem?_eq_getElem hil2]; rfl
      by_cases he : A[i] = B[i]
      · rw [decide_eq_true he] at c1
        have hj2 : ∀ j (h : j < A.length) (h2 : j < B.length), j < i + 1 → A[j] = B[j] := fun j h h2 hji => by
          rcases Nat.lt_or_ge j i with h3 | h3
          · exact hj j h h2 h3
          · obtain rfl : j = i := by omega
            exact he
        generalize A[i] = x at *
        generalize B[i] = y at *
        repeat' ((first | (apply AWP.go ok; rfl) | (apply z38; kernel_rfl) | (refine z43 (i := i) rfl gA ?_) | (refine z43 (i := i) rfl gB ?_) | (apply And.intro; first | omega | (unfold inI; omega)) | ((apply z8) <;> intro _) | (apply z10 (c1); rfl; rfl)) <;> conv => whnf)
        all_goals first | (exfalso; omega) | skip
        all_goals refine z49 (i + 1) ⟨by omega, hj2⟩ (by omega) (by refine SealW.reach [0, 1] [] rfl rfl rfl rfl ?_ ?_ <;> (repeat' (first | exact LocLe.refl _ | exact F2.nil | apply F2.cons | apply ObjLe.box | exact True.intro | apply And.intro)))
      · rw [decide_eq_false he] at c1
        have hD := hF i hil hil2 he
        subst hD
        generalize A[i] = x at *
        generalize B[i] = y at *
        repeat' ((first | (apply AWP.go ok; rfl) | (apply z38; kernel_rfl) | (refine z43 (i := i) rfl gA ?_) | (refine z43 (i := i) rfl gB ?_) | (apply And.intro; omega) | ((apply z8) <;> intro _) | (apply z10 (c1); rfl; rfl)) <;> conv => whnf)
        all_goals first | (exfalso; omega) | skip
        all_goals (refine RetS.lay [] [] rfl rfl rfl ?_; refine RetS.done ?_ ?_ <;> (repeat' (first | exact LocLe.refl _ | exact F2.nil)))
    · have hD := hT (fun j h h2 => hj j h h2 (by omega))
      subst hD
      repeat' ((first | (apply AWP.go ok; rfl) | (apply And.intro; omega) | (((with_reducible apply z13; omega)); intro _) | ((apply z8) <;> intro _)) <;> conv => whnf)
      all_goals first | (exfalso; omega) | skip
      all_goals (refine RetS.lay [] [] rfl rfl rfl ?_; refine RetS.done ?_ ?_ <;> (repeat' (first | exact LocLe.refl _ | exact F2.nil)))
  · rw [decide_eq_false (fun e => hk (by subst e; exact ⟨rfl, rfl, rfl⟩))]
    clear ih
    refine z14 z29 Tryz.func316 rfl rfl 46 Tryz.ntmps316 (by simp) ?_
    repeat' ((first | (apply AWP.go ok; rfl) | ((apply z30) <;> intro _)) <;> conv => whnf)
    all_goals first | (exfalso; omega) | (refine RetS.lay [] [] rfl rfl rfl ?_; refine RetS.done ?_ ?_ <;> (repeat' (first | exact LocLe.refl _ | exact F2.nil)))

theorem l5Find_ok (l : List Tree) (hl : l.length ≤ 1000000) (hm : ∀ t ∈ l, t.mx) (t : Tree) (ht : t.mx) : CallsA Tryz.prog 284 [lst 3 Tree.cs' l, z65 Tree.cs' t] [] (.int (idxF (fun x => decide (x = t)) l)) [] := by
  have hc : ∀ i (h : i < l.length), CallsA Tryz.prog 316 [z65 Tree.cs' l[i], z65 Tree.cs' t] [] (.bool (decide (l[i] = t))) [] := fun i h => fmSame_ok _ (hm _ (List.getElem_mem _)) _ ht
  rw [Tree.arg_eq t] at *
  refine z14 z29 Tryz.func284 rfl rfl 19 Tryz.ntmps284 (by simp) ?_
  repeat' (((apply AWP.go ok; rfl)) <;> conv => whnf)
  refine z115 (fun i : Nat => ([(0, lst 3 Tree.cs' l), (3, .ptr 0 none 0), (5, .int i)], [.cells 3 [[.int t.kind, .int t.val, lst 3 Tree.cs' t.kids]]])) (fun i => i ≤ l.length ∧ ∀ j (h : j < l.length), j < i → decide (l[j] = t) = false) (fun i => l.length - i) 0 ⟨Nat.zero_le _, fun j _ h => absurd h (Nat.not_lt_zero _)⟩ (by refine SealW.reach [0] [] rfl rfl rfl rfl ?_ ?_ <;> (repeat' (first | exact LocLe.refl _ | exact F2.nil | apply F2.cons | apply ObjLe.box | exact True.intro | apply And.intro))) ?_
  rintro i ⟨hi, hj⟩
  by_cases hil : i < l.length
  · have c1 := hc i hil
    have gl : (l.map Tree.cs')[i]? = some (Tree.cs' l[i]) := by rw [List.getElem?_map, List.getElem?_eq_getElem hil]; rfl
    by_cases he : l[i] = t
    · have e : idxF (fun x => decide (x = t)) l = i := idxF_some hil (decide_eq_true he) fun j h h2 => hj j h h2
      rw [e]
      rw [decide_eq_true he] at c1
      generalize l[i] = x at *
      repeat' ((first | (apply AWP.go ok; rfl) | (apply z38; kernel_rfl) | (refine z43 (i := i) rfl gl ?_) | (apply And.intro; omega) | ((apply z8) <;> intro _) | (apply z10 (c1); rfl; rfl)) <;> conv => whnf)
      all_goals first | (exfalso; omega) | skip
      all_goals (refine RetS.lay [] [] rfl rfl rfl ?_; refine RetS.done ?_ ?_ <;> (repeat' (first | exact LocLe.refl _ | exact F2.nil)))
    · have hj2 : ∀ j (h : j < l.length), j < i + 1 → decide (l[j] = t) = false := fun j h hji => by
        rcases Nat.lt_or_ge j i with h3 | h3
        · exact hj j h h3
        · obtain rfl : j = i := by omega
          exact decide_eq_false he
      rw [decide_eq_false he] at c1
      generalize l[i] = x at *
      repeat' ((first | (apply AWP.go ok; rfl) | (apply z38; kernel_rfl) | (refine z43 (i := i) rfl gl ?_) | (apply And.intro; first | omega | (unfold inI; omega)) | ((apply z8) <;> intro _) | (apply z10 (c1); rfl; rfl)) <;> conv => whnf)
      all_goals first | (exfalso; omega) | skip
      all_goals refine z49 (i + 1) ⟨by omega, hj2⟩ (by omega) (by refine SealW.reach [0] [] rfl rfl rfl rfl ?_ ?_ <;> (repeat' (first | exact LocLe.refl _ | exact F2.nil | apply F2.cons | apply ObjLe.box | exact True.intro | apply And.intro)))
  · have e : idxF (fun x => decide (x = t)) l = -1 := idxF_none fun j h => hj j h (by omega)
    rw [e]
    repeat' ((first | (apply AWP.go ok; rfl) | (apply And.intro; omega) | (((with_reducible apply z13; omega)); intro _) | ((apply z8) <;> intro _)) <;> conv => whnf)
    all_goals first | (exfalso; omega) | skip
    all_goals (refine RetS.lay [] [] rfl rfl rfl ?_; refine RetS.done ?_ ?_ <;> (repeat' (first | exact LocLe.refl _ | exact F2.nil)))
end Go.Proofs.YtknlmbniicacmaaGreat

namespace Go.Proofs.YtknlmbniicacmaaGreat
open Go.Gl
attribute [local irreducible] z48 AWP z76 z84 z81 RetS z103

theorem l5Copy_ok (t : Tree) (h : t.sz ≤ 1000000) : CallsA Tryz.prog 241 [z65 Tree.cs' t] [] (z65 Tree.cs' t) [] := own_data (l5Copy_new t h)
set_option maxHeartbeats 3200000 in
theorem l5Subs_ok (t : Tree) : t.sz ≤ 1000 → ∀ (o : List Tree), o.length + t.sz ≤ 2000 → (∀ x ∈ o, x.sz ≤ 1000) → CallsA Tryz.prog 280 [.sref 0 0 o.length, z65 Tree.cs' t] [.cells 3 (o.map Tree.cs')] (.sref 1 0 (t.subs o).length) [.dead, .cells 3 ((t.subs o).map Tree.cs')] := by
  induction t using Tree.ind with | h t ih => ?_
  intro hs o ho hm
  have hsz := Tree.sz_eq t
  have hkid : ∀ k (h : k < t.kids.length), t.kids[k].sz ≤ 1000 := fun k h => by have := le_sum Tree.sz (List.getElem_mem h); omega
  have hpre : ∀ k, k ≤ t.kids.length → (Tree.subss (t.kids.take k) o).length ≤ o.length + ((t.kids.take k).map fun u => u.sz + 1).sum ∧ ∀ x ∈ Tree.subss (t.kids.take k) o, x.sz ≤ 1000 := by
    intro k
    induction k with
    | zero => intro _; exact ⟨by simp [Tree.subss], hm⟩
    | succ k ihk =>
      intro hk
      obtain ⟨a1, a2⟩ := ihk (by omega)
      obtain ⟨_, _, _, b4, b5, _⟩ := subs_props t.kids[k] (Tree.subss (t.kids.take k) o)
      rw [Tree.subss_take (by omega)]
      refine ⟨?_, fun x hx => ?_⟩
      · rw [List.take_succ_eq_append_getElem (by omega), List.map_append, List.sum_append]
        simp only [List.map_cons, List.map_nil, List.sum_cons, List.sum_nil]
        omega
      · rcases b5 x hx with h | h
        · exact a2 x h
        · have := hkid k (by omega); omega
  have hsum : ∀ k, k ≤ t.kids.length → ((t.kids.take k).map fun u => u.sz + 1).sum ≤ t.sz := fun k hk => by
    have h1 : ∀ l : List Tree, (l.map fun u => u.sz + 1).sum = l.length + (l.map Tree.sz).sum := by
      intro l
      induction l with
      | nil => rfl
      | cons a l ih => simp only [List.map_cons, List.sum_cons, List.length_cons, ih]; omega
    have h2 := sum_take_le Tree.sz t.kids k
    rw [h1, List.length_take]; omega
  rw [Tree.arg_eq t, Tree.subs_eq]
  have hl5 : t.kids.length ≤ 1000 := by omega
  have hfs : (∀ x ∈ Tree.subss t.kids o, x.sz ≤ 1000) := by have := (hpre t.kids.length (Nat.le_refl _)).2; rwa [List.take_length] at this
  have hfl : (Tree.subss t.kids o).length ≤ 2000 := by have h1 := (hpre t.kids.length (Nat.le_refl _)).1; have h2 := hsum t.kids.length (Nat.le_refl _); rw [List.take_length] at h1 h2; omega
  have cF := l5Find_ok (Tree.subss t.kids o) (by omega) (fun x hx => mx_of_sz x (by have := hfs x hx; unfold maxLen; omega)) t (mx_of_sz t (by unfold maxLen; omega))
  have cC := l5Copy_ok t (by omega)
  have hidx := idxF_any (fun x => decide (x = t)) (Tree.subss t.kids o)
  refine z14 z29 Tryz.func280 rfl rfl 30 Tryz.ntmps280 (by simp) ?_
  refine AWP.reach (Reach.rnm 0 rfl) ?_
  conv => whnf
  repeat' (((apply AWP.go ok; rfl)) <;> conv => whnf)
  all_goals skip
  refine z115 (fun x : Nat × List Tree => ([(0, .sref 1 0 x.2.length), (3, .ptr 2 none 0), (5, .int x.1)], [.dead, .cells 3 (x.2.map Tree.cs'), .cells 3 [[.int t.kind, .int t.val, lst 3 Tree.cs' t.kids]]])) (fun x => x.1 ≤ t.kids.length ∧ Tree.subss (t.kids.take x.1) o = x.2) (fun x => t.kids.length - x.1) (0, o) ⟨Nat.zero_le _, by simp [Tree.subss]⟩ (by refine SealW.reach [0, 1, 2] [] rfl rfl rfl rfl ?_ ?_ <;> (repeat' (first | exact LocLe.refl _ | exact F2.nil | apply F2.cons | exact z20 _ | apply ObjLe.box | ((refine z17 rfl ?_ ?_); (focus ((repeat' ((exact z4 (fun _ => rfl)))); done))) | exact True.intro | apply And.intro))) ?_
  rintro ⟨i, q⟩ ⟨hi, hq⟩
  dsimp only at hi hq ⊢
  obtain ⟨p1, p2⟩ := hpre i hi
  have p3 := hsum i hi
  rw [hq] at p1 p2
  have hql : q.length ≤ 2000 := by omega
  by_cases hil : i < t.kids.length
  · have ci := ih t.kids[i] (List.getElem_mem _) (hkid i hil) q (by
      have h1 := hsum (i + 1) (by omega)
      rw [List.take_succ_eq_append_getElem hil, List.map_append, List.sum_append] at h1
      simp only [List.map_cons, List.map_nil, List.sum_cons, List.sum_nil] at h1
      omega) p2
    have ht := Tree.subss_take hil o
    rw [hq] at ht
    have gk : (t.kids.map Tree.cs')[i]? = some (Tree.cs' t.kids[i]) := by rw [List.getElem?_map, List.getElem?_eq_getElem hil]; rfl
    clear ih cF hidx
    generalize t.kids[i] = u at *
    generalize u.subs q = q' at *
    repeat' ((first | (apply AWP.go ok; rfl) | (refine z43 (i := i) rfl gk ?_) | (apply And.intro; first | omega | (unfold inI; omega)) | ((apply z8) <;> intro _) | (((apply z7 [1] [] [3] (ci); rfl; (focus ((repeat' first | exact z6 | apply z5) <;> (refine z33 rfl ?_; ((exact z4 fun _ => rfl))))))); rfl; rfl; rfl; rfl; rfl; (focus ((repeat' first | exact z19 | apply z16) <;> first | exact z104 | (refine z34 ?_; ((exact z4 fun _ => rfl))))); (exact .inl rfl))) <;> conv => whnf)
    all_goals first | (exfalso; omega) | skip
    all_goals refine z49 (i + 1, q') ⟨by show i + 1 ≤ _; omega, ht⟩ (by show t.kids.length - (i + 1) < t.kids.length - i; omega) (by refine SealW.reach [0, 3, 2] [] rfl rfl rfl rfl ?_ ?_ <;> (repeat' (first | exact LocLe.refl _ | exact F2.nil | apply F2.cons | exact z20 _ | apply ObjLe.box | ((refine z17 rfl ?_ ?_); (focus ((repeat' ((exact z4 (fun _ => rfl)))); done))) | exact True.intro | apply And.intro)))
  · obtain rfl : i = t.kids.length := by omega
    rw [List.take_length] at hq
    rw [hq] at cF hidx ⊢
    unfold addT
    by_cases hin : t ∈ q
    · rw [if_pos hin]
      have hx : 0 ≤ idxF (fun x => decide (x = t)) q := by
        rw [List.any_eq_true.2 ⟨t, hin, by simp⟩] at hidx
        exact of_decide_eq_true hidx
      generalize idxF (fun x => decide (x = t)) q = z at *
      rw [Tree.arg_eq t] at cF
      repeat' ((first | (apply AWP.go ok; rfl) | (apply And.intro; omega) | (((with_reducible apply z13; omega)); intro _) | ((apply z8) <;> intro _) | (((apply z7 [] [1] [] (cF); (focus (exact z105 (bor_list rfl rfl rfl (by simp) (z23 (fun _ => rfl) _)) (z105 rfl z130))); (focus ((repeat' exact z6) <;> fail)))); rfl; rfl; rfl; rfl; rfl; (focus ((repeat' exact z19) <;> fail)); ((refine .inr ⟨rfl, ?_⟩; repeat' exact True.intro)))) <;> conv => whnf)
      all_goals first | (exfalso; omega) | skip
      all_goals (refine RetS.lay [0, 1] [] rfl rfl rfl ?_; refine RetS.done ?_ ?_ <;> (repeat' (first | exact LocLe.refl _ | exact F2.nil | apply F2.cons | exact z20 _ | ((refine z17 rfl ?_ ?_); (focus ((repeat' ((exact z4 (fun _ => rfl)))); done))) | exact True.intro)))
    · rw [if_neg hin]
      have hx : ¬ 0 ≤ idxF (fun x => decide (x = t)) q := fun h => by
        rw [decide_eq_true h] at hidx
        obtain ⟨x, h1, h2⟩ := List.any_eq_true.1 hidx.symm
        rw [of_decide_eq_true h2] at h1
        exact hin h1
      generalize idxF (fun x => decide (x = t)) q = z at *
      rw [Tree.arg_eq t] at cC cF
      repeat' ((first | (apply AWP.go ok; rfl) | (apply And.intro; first | omega | ((try dsimp only); simp only [List.length_map, List.length_take, List.length_append, List.length_replicate, List.length_cons, List.length_nil]; omega) | exact ⟨rfl, z21 rfl z26⟩) | (((with_reducible apply z13; omega)); intro _) | ((apply z8) <;> intro _) | (apply z10 (cC); rfl; rfl) | (((apply z7 [] [1] [] (cF); (focus (exact z105 (bor_list rfl rfl rfl (by simp) (z23 (fun _ => rfl) _)) (z105 rfl z130))); (focus ((repeat' exact z6) <;> fail)))); rfl; rfl; rfl; rfl; rfl; (focus ((repeat' exact z19) <;> fail)); ((refine .inr ⟨rfl, ?_⟩; repeat' exact True.intro)))) <;> conv => whnf)
      all_goals first | (exfalso; omega) | skip
      all_goals (refine RetS.lay [0, 4] [] rfl rfl rfl ?_; refine RetS.done ?_ ?_ <;> (repeat' (first | exact LocLe.refl _ | exact F2.nil | apply F2.cons | exact z102 | (refine z37 ?_; ((simp; done))) | ((refine z24 rfl ?_ ?_); (focus ((repeat' (first | exact z4 (fun _ => rfl) | apply z15)); done))) | (refine z64 ?_ ?_; (focus (omega))) | (apply z32; rfl) | exact True.intro)))
end Go.Proofs.YtknlmbniicacmaaGreat

namespace Go.Proofs.YtknlmbniicacmaaGreat
open Go.Gl
attribute [local irreducible] z48 AWP z76 z84 z81 RetS z103

theorem l7Basic_ok (t : Tree) : CallsA Tryz.prog 281 [z65 Tree.cs' t] [] (.bool (basicB t)) [] := by
  rw [Tree.arg_eq]
  unfold basicB
  refine z14 z29 Tryz.func281 rfl rfl 21 Tryz.ntmps281 (by simp) ?_
  repeat' ((first | (apply AWP.go ok; rfl) | ((apply z8) <;> intro _)) <;> conv => whnf)
  all_goals (refine RetS.lay [] [] rfl rfl rfl ?_; refine RetS.done (bool_le ?_) .nil; first | (rw [decide_eq_true (by omega)]; done) | (rw [decide_eq_decide]; omega))

set_option maxHeartbeats 3200000 in
theorem basicF_ok (t : Tree) (hs : t.sz ≤ 200) : CallsA Tryz.prog 243 [z65 Tree.cs' t] [] (.tup [lst 3 Tree.cs' (if bscB t then bscL (t.nrm false) else []), .bool (bscB t)]) [] := by
  have cn := normalForm_ok t (by omega)
  unfold bscB
  by_cases h : t.fmB = true ∧ (t.nrm false).fmB = true
  · rw [if_pos h, decide_eq_true h] at cn
    have hz := Tree.nrm_sz t (Tree.goodF_of h.1) false
    have hd : decide ((t.fmB = true ∧ (t.nrm false).fmB = true) ∧ (bscL (t.nrm false)).length ≤ 5) = decide ((bscL (t.nrm false)).length ≤ 5) := by
      rw [decide_eq_decide]; exact ⟨fun h => h.2, fun h2 => ⟨h, h2⟩⟩
    rw [hd]
    clear hd h
    generalize t.nrm false = u at *
    have cS := (l5Subs_ok u (by omega) [] (by simp; omega) (fun x hx => by cases hx)).arg (args0 := [.nils, z65 Tree.cs' u]) (by (repeat' (first | exact LocLe.refl _ | exact z40 | exact F2.nil | apply F2.cons)))
    obtain ⟨_, _, _, hl, hz2, _⟩ := subs_props u []
    unfold bscL
    simp only [List.length_nil, Nat.zero_add] at hl
    generalize u.subs [] = L at *
    have hb : ∀ k (hk : k < L.length), CallsA Tryz.prog 281 [z65 Tree.cs' L[k]] [] (.bool (basicB L[k])) [] := fun k hk => l7Basic_ok _
    rw [Tree.arg_eq u] at cn cS
    refine z14 z29 Tryz.func243 rfl rfl 43 Tryz.ntmps243 (by simp) ?_
    repeat' ((first | ((fail_if_success apply stopAt 5); (fail_if_success apply z147 5); apply AWP.go ok; rfl) | (apply z10 (cn); rfl; rfl)) <;> conv => whnf)
    all_goals skip
    refine AWP.reach (Reach.empty 3 rfl) ?_
    repeat' ((first | (apply AWP.go ok; rfl) | (((apply z7 [3] [] [4] (cS); rfl; (focus ((repeat' first | exact z6 | apply z5) <;> rfl)))); rfl; rfl; rfl; rfl; rfl; (focus ((repeat' first | exact z19 | apply z16) <;> first | exact z104 | (refine z34 ?_; ((exact z4 fun _ => rfl))))); (exact .inl rfl))) <;> conv => whnf)
    all_goals skip
    refine z115 (fun x : Nat × List Tree => ([(6, .sref 0 0 x.2.length), (7, .sref 1 0 L.length), (8, .int x.1)], [.cells 3 (x.2.map Tree.cs'), .cells 3 (L.map Tree.cs')])) (fun x => x.1 ≤ L.length ∧ (L.take x.1).filter basicB = x.2) (fun x => L.length - x.1) (0, []) ⟨Nat.zero_le _, rfl⟩ (by refine SealW.reach [2, 4] [] rfl rfl rfl rfl ?_ ?_ <;> (repeat' (first | exact LocLe.refl _ | exact F2.nil | apply F2.cons | exact z20 _ | ((refine z17 rfl ?_ ?_); (focus ((repeat' (first | exact z12 | exact z4 (fun _ => rfl))); done))) | exact True.intro | apply And.intro))) ?_
    rintro ⟨k, O⟩ ⟨hk, hO⟩
    dsimp only at hk hO ⊢
    have hOl : O.length ≤ L.length := by
      rw [← hO]
      have := List.length_filter_le basicB (L.take k)
      rw [List.length_take] at this
      omega
    by_cases hkl : k < L.length
    · have gk : (L.map Tree.cs')[k]? = some (Tree.cs' L[k]) := by rw [List.getElem?_map, List.getElem?_eq_getElem hkl]; rfl
      have cb := hb k hkl
      have ht : (L.take (k + 1)).filter basicB = O ++ (if basicB L[k] = true then [L[k]] else []) := by
        rw [List.take_succ_eq_append_getElem hkl, List.filter_append, hO]
        congr 1
        by_cases hb : basicB L[k] = true
        · rw [if_pos hb, List.filter_cons_of_pos hb]; rfl
        · rw [if_neg hb, List.filter_cons_of_neg hb]; rfl
      generalize L[k] = y at *
      by_cases hy : basicB y = true
      · rw [hy] at cb
        rw [if_pos hy] at ht
        repeat' ((first | (apply AWP.go ok; rfl) | (refine z43 (i := k) rfl gk ?_) | (apply And.intro; first | omega | (unfold inI; omega) | ((try dsimp only); simp only [List.length_map, List.length_take, List.length_append, List.length_replicate, List.length_cons, List.length_nil]; omega) | exact ⟨rfl, z21 rfl z26⟩) | ((apply z8) <;> intro _) | (apply z10 (cb); rfl; rfl)) <;> conv => whnf)
        all_goals first | (exfalso; omega) | skip
        all_goals refine z49 (k + 1, O ++ [y]) ⟨by show k + 1 ≤ _; omega, ht⟩ (by show L.length - (k + 1) < L.length - k; omega) (by refine SealW.reach [3, 1] [] rfl rfl rfl rfl ?_ ?_ <;> (repeat' (first | exact LocLe.refl _ | exact F2.nil | apply F2.cons | exact z20 _ | (refine z37 ?_; ((simp; done))) | ((first | refine z24 rfl ?_ ?_ | refine z17 rfl ?_ ?_); (focus ((repeat' (first | exact z4 (fun _ => rfl) | apply z15)); done))) | (refine z64 ?_ ?_; (focus (omega))) | exact True.intro | apply And.intro)))
      · rw [(Bool.not_eq_true _).mp hy] at cb
        rw [if_neg hy, List.append_nil] at ht
        repeat' ((first | (apply AWP.go ok; rfl) | (refine z43 (i := k) rfl gk ?_) | (apply And.intro; first | omega | (unfold inI; omega)) | ((apply z8) <;> intro _) | (apply z10 (cb); rfl; rfl)) <;> conv => whnf)
        all_goals first | (exfalso; omega) | skip
        all_goals refine z49 (k + 1, O) ⟨by show k + 1 ≤ _; omega, ht⟩ (by show L.length - (k + 1) < L.length - k; omega) (by refine SealW.reach [0, 1] [] rfl rfl rfl rfl ?_ ?_ <;> (repeat' (first | exact LocLe.refl _ | exact F2.nil | apply F2.cons | exact z20 _ | ((refine z17 rfl ?_ ?_); (focus ((repeat' ((exact z4 (fun _ => rfl)))); done))) | exact True.intro | apply And.intro)))
    · obtain rfl : k = L.length := by omega
      rw [List.take_length] at hO
      rw [hO]
      by_cases h5 : O.length ≤ 5
      · rw [decide_eq_true h5, if_pos rfl]
        repeat' ((first | (apply AWP.go ok; rfl) | (apply And.intro; omega) | (((apply z13; omega)); intro _) | ((apply z8) <;> intro _)) <;> conv => whnf)
        all_goals first | (exfalso; omega) | skip
        all_goals (refine RetS.lay [] [0] rfl rfl rfl ?_; refine RetS.done ?_ ?_ <;> (repeat' (first | exact LocLe.refl _ | exact F2.nil | apply F2.cons | ((apply z27 rfl rfl rfl); (focus ((repeat ((exact z23 (fun _ => rfl) _))); done)); (focus (((simp; done)); done))) | apply z85)))
      · rw [decide_eq_false h5, if_neg (by simp)]
        repeat' ((first | (apply AWP.go ok; rfl) | (apply And.intro; omega) | (((apply z13; omega)); intro _) | ((apply z8) <;> intro _)) <;> conv => whnf)
        all_goals first | (exfalso; omega) | skip
        all_goals (refine RetS.lay [] [2] rfl rfl rfl ?_; refine RetS.done ?_ ?_ <;> (repeat' (first | exact LocLe.refl _ | exact F2.nil)))
  · rw [if_neg h, decide_eq_false h] at cn
    have hd : decide ((t.fmB = true ∧ (t.nrm false).fmB = true) ∧ (bscL (t.nrm false)).length ≤ 5) = false := decide_eq_false fun h2 => h h2.1
    rw [hd, if_neg (by simp)]
    refine z14 z29 Tryz.func243 rfl rfl 43 Tryz.ntmps243 (by simp) ?_
    repeat' ((first | (apply AWP.go ok; rfl) | (apply z10 (cn); rfl; rfl)) <;> conv => whnf)
    all_goals (refine RetS.lay [] [2] rfl rfl rfl ?_; refine RetS.done ?_ ?_ <;> (repeat' (first | exact LocLe.refl _ | exact F2.nil)))
end Go.Proofs.YtknlmbniicacmaaGreat

