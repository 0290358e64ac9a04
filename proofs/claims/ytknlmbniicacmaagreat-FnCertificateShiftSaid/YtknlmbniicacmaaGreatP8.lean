/- A part of the proofs over this program: T190, T164, T166. -/
import Derived.Test.YtknlmbniicacmaaGreatG0
import Derived.Test.YtknlmbniicacmaaGreatG1
import Derived.Test.YtknlmbniicacmaaGreatG2
import Derived.Test.YtknlmbniicacmaaGreatG3
import Derived.Test.YtknlmbniicacmaaGreatP0
import Derived.Test.YtknlmbniicacmaaGreatP1
import Derived.Test.YtknlmbniicacmaaGreatP2
import Derived.Test.YtknlmbniicacmaaGreatP3
import Derived.Test.YtknlmbniicacmaaGreatP4
import Derived.Test.YtknlmbniicacmaaGreatP5
import Derived.Test.YtknlmbniicacmaaGreatP6
import Derived.Test.YtknlmbniicacmaaGreatP7
set_option linter.all false
namespace Go.Proofs.YtknlmbniicacmaaGreat
open Go.Gl
attribute [local irreducible] z48 AWP z76 z84 z81 RetS z103

set_option maxHeartbeats 12800000 in
theorem drawCC_ok (bs : List Int) (hb : CodeOk bs) : ∃ (g : Graph) (l : List Tree) (a : Aut) (R : List Int), (g.d ∧ Lab.d l ∧ a.sm ∧ R.length ≤ 3840) ∧ CallsA Tryz.prog 15 [lst 1 enU bs] [] (.tup [.agg g.cs, lst 3 Tree.cs' l, .agg a.cs, .agg [ints R]]) [] := by
  have co := l16Open_ok bs hb.len
  have hbt := hb.take
  generalize bs.take 2000 = b0 at *
  obtain ⟨g, l, a, p1, ⟨hg, hl, ha, q1, q2⟩, c1⟩ := l9Small_ok b0 hbt 0 ⟨by omega, by omega⟩
  have hax : a.mx := ⟨by have := ha.1; unfold maxLen; omega, by have := ha.2.1; unfold maxLen; omega, by have := ha.2.2.1; unfold maxLen; omega, ha.2.2.2⟩
  have cM := specMake_new g hg.mx l hl.mx a hax
  obtain ⟨m1, m2, m3⟩ := mkR_facts (g := g) (l := l) (a := a)
  have hmN : mkOk g l a = false → mkR g l a = [] := fun h => by unfold mkR; rw [h]; rfl
  generalize mkR g l a = R0 at *
  generalize mkOk g l a = ok at *
  cases ok
  · obtain rfl := hmN rfl
    have hac := ha.2.1
    have hgs : g.st.length ≤ 100 := by have := hg.st; omega
    have hn : g.st.length * a.acc.length ≤ 100 * 20 := Nat.mul_le_mul hgs hac
    obtain ⟨zs, pf, h1, h2, h3, h4⟩ := seq_ex (fun k r z r' => (0 ≤ z ∧ z ≤ 3) ∧ r' = r + 1 ∧ CallsA Tryz.prog 73 [.ptr 0 none 0, .int 4] [rdO b0 r] (.int z) [rdO b0 r']) p1 1 (g.st.length * a.acc.length) (fun k r hk b1 b2 => by
      obtain ⟨w, ⟨w0, w1⟩, cw⟩ := z74 b0 hbt r 4 (by omega) (by omega) (by omega)
      exact ⟨w, r + 1, ⟨⟨w0, by omega⟩, rfl, cw⟩, by omega, by omega⟩)
    have h5 := h4 _ (Nat.le_refl _)
    obtain ⟨RR, hRR⟩ : ∃ RR : List Int, RR = zs.map fun z => z - 1 := ⟨_, rfl⟩
    have hRl : RR.length = g.st.length * a.acc.length := by rw [hRR, List.length_map, h1]
    have hRb : Bd 16000000 RR := fun x hx => by
      rw [hRR] at hx
      obtain ⟨z, hz, rfl⟩ := List.mem_map.1 hx
      obtain ⟨i, hi, rfl⟩ := List.mem_iff_getElem.1 hz
      have := (h3 i hi).1
      omega
    obtain ⟨R', p', ⟨r1, r2, r3⟩, cb⟩ := l9Bend_ok b0 hbt (pf (g.st.length * a.acc.length)) ⟨by omega, by omega⟩ RR (by omega) hRb
    refine ⟨g, l, a, R', ⟨hg, hl, ha, r1⟩, ?_⟩
    rw [← h2] at c1
    have hm : ((g.st.length : Nat) : Int) * (a.acc.length : Nat) = ((g.st.length * a.acc.length : Nat) : Int) := by simp
    refine z14 z29 Tryz.func15 rfl rfl 55 Tryz.ntmps15 (by simp) ?_
    repeat' ((first | (apply AWP.go ok; rfl) | ((first | (apply z7 [] [] [3] (co); rfl; (focus ((repeat' exact z6) <;> fail))) | (apply z7 [3] [] [] (c1); rfl; (focus ((repeat' first | exact z6 | apply z5) <;> rfl))) | (apply z7 [] [] [6] (cM); rfl; (focus ((repeat' exact z6) <;> fail)))); rfl; rfl; rfl; rfl; rfl; (focus ((repeat' first | exact z19 | apply z16) <;> first | exact z25 rfl rfl | (refine z34 ?_; ((exact z4 fun _ => rfl))))); (exact .inl rfl))) <;> conv => whnf)
    all_goals skip
    all_goals
      refine z115 (fun k : Nat => ([(2, .ptr 0 none 0), (4, .ptr 1 none 0), (5, .ptr 2 none 0), (6, .ptr 3 none 0), (7, .ptr 4 none 0), (8, lst 3 Tree.cs' l), (9, .ptr 5 none 0), (10, .ptr 6 none 0), (12, .int k)], [.cells 2 [[.nils, .nils]], .cells 3 [[.nils, .nils, .nils]], .cells 1 [[.nils]], rdO b0 (pf k), .cells 2 [g.cs], .cells 3 [a.cs], .cells 1 [[.sref 7 0 (RR.take k).length]], .cells 1 ((RR.take k).map enI)])) (fun k => k ≤ g.st.length * a.acc.length) (fun k => g.st.length * a.acc.length - k) 0 (Nat.zero_le _) (by refine SealW.reach [0, 1, 2, 3, 4, 5, 7, 6] [] rfl rfl rfl rfl ?_ ?_ <;> (repeat' (first | exact LocLe.refl _ | exact F2.nil | apply F2.cons | apply ObjLe.box | ((refine z17 rfl ?_ ?_); (focus ((repeat' (exact z12)); done))) | exact True.intro | apply And.intro))) ?_
      intro k hk
      have htl : (RR.take k).length = k := by rw [List.length_take]; omega
      have hm2 : 0 ≤ ((g.st.length : Nat) : Int) * (a.acc.length : Nat) ∧ ((g.st.length : Nat) : Int) * (a.acc.length : Nat) ≤ 2000 := by rw [hm]; omega
      by_cases hk2 : k < g.st.length * a.acc.length
      · have hkz : k < zs.length := by omega
        obtain ⟨hz, hp, cw⟩ := h3 k hkz
        have hRk : RR[k]'(by omega) = zs[k] - 1 := by simp [hRR]
        have hlt2 : (k : Int) < ((g.st.length : Nat) : Int) * (a.acc.length : Nat) := by rw [hm]; omega
        generalize zs[k] = z at *
        repeat' ((first | (apply AWP.go ok; rfl) | (apply z38; kernel_rfl) | (refine And.intro ?_ ?_; (focus (unfold inI; omega))) | (apply And.intro; first | ((try dsimp only); simp only [List.length_map, List.length_take, List.length_append, List.length_replicate, List.length_cons, List.length_nil]; omega) | exact ⟨rfl, z21 rfl z26⟩) | ((apply z8) <;> intro _) | (((apply z7 [3] [] [] (cw); rfl; (focus ((repeat' first | exact z6 | apply z5) <;> rfl)))); rfl; rfl; rfl; rfl; rfl; (focus ((repeat' first | exact z19 | apply z16) <;> exact z25 rfl rfl)); (exact .inl rfl))) <;> conv => whnf)
        all_goals first | (exfalso; omega) | skip
        all_goals refine z49 (k + 1) hk2 (by omega) (by refine SealW.reach [0, 1, 2, 3, 4, 5, 6, 9] [] rfl rfl rfl rfl ?_ ?_ <;> (repeat' (first | exact LocLe.refl _ | exact F2.nil | apply F2.cons | (refine z78 ?_; omega) | (refine z37 ?_; ((simp; omega))) | apply ObjLe.box | ((refine z24 rfl ?_ ?_); (focus ((repeat' (first | exact z4 (fun _ => rfl) | apply z15)); done))) | (refine z73 (by omega) (by omega) ?_) | exact True.intro | apply And.intro)))
      · obtain rfl : k = g.st.length * a.acc.length := by omega
        have ht : RR.take (g.st.length * a.acc.length) = RR := by rw [← hRl, List.take_length]
        have hge : ¬ ((g.st.length * a.acc.length : Nat) : Int) < ((g.st.length : Nat) : Int) * (a.acc.length : Nat) := by rw [hm]; omega
        rw [ht]
        repeat' ((first | ((fail_if_success apply stopAt 9); (fail_if_success apply z147 9); apply AWP.go ok; rfl) | (apply And.intro; (unfold inI; omega)) | ((apply z8) <;> intro _)) <;> conv => whnf)
        all_goals first | (exfalso; omega) | skip
        all_goals
          refine AWP.reach (SealW.reach (env := [(2, .ptr 0 none 0), (4, .ptr 1 none 0), (5, .ptr 2 none 0), (6, .ptr 3 none 0), (7, .ptr 4 none 0), (8, lst 3 Tree.cs' l), (9, .ptr 5 none 0), (10, .ptr 6 none 0)]) (objs := [.cells 2 [[.nils, .nils]], .cells 3 [[.nils, .nils, .nils]], .cells 1 [[.nils]], rdO b0 (pf (g.st.length * a.acc.length)), .cells 2 [g.cs], .cells 3 [a.cs], .cells 1 [[ints RR]]]) [0, 1, 2, 3, 4, 5, 6] [7] rfl rfl rfl rfl ?_ ?_) ?_
          · (repeat' (first | exact LocLe.refl _ | exact True.intro | apply And.intro))
          · (repeat' (first | exact LocLe.refl _ | exact F2.nil | apply F2.cons | apply ObjLe.box | ((apply z27 rfl rfl rfl); (focus ((repeat ((exact z23 (fun _ => rfl) _))); done)); (focus (((simp; done)); done)))))
          conv => whnf
          repeat' ((first | (apply AWP.go ok; rfl) | (apply z38; kernel_rfl) | (((apply z7 [3] [] [] (cb); rfl; (focus ((repeat' first | exact z6 | apply z5) <;> rfl)))); rfl; rfl; rfl; rfl; rfl; (focus ((repeat' first | exact z19 | apply z16) <;> exact z25 rfl rfl)); (exact .inl rfl))) <;> conv => whnf)
          all_goals skip
          all_goals (refine RetS.lay [] [] rfl rfl rfl ?_; refine RetS.done ?_ ?_ <;> (repeat' (first | exact LocLe.refl _ | exact F2.nil)))
  · obtain ⟨R', p', ⟨r1, r2, r3⟩, cb⟩ := l9Bend_ok b0 hbt p1 ⟨by omega, by omega⟩ R0 (by omega) m3
    refine ⟨g, l, a, R', ⟨hg, hl, ha, r1⟩, ?_⟩
    refine z14 z29 Tryz.func15 rfl rfl 55 Tryz.ntmps15 (by simp) ?_
    repeat' ((first | ((fail_if_success apply stopAt 9); (fail_if_success apply z147 9); apply AWP.go ok; rfl) | ((first | (apply z7 [] [] [3] (co); rfl; (focus ((repeat' exact z6) <;> fail))) | (apply z7 [3] [] [] (c1); rfl; (focus ((repeat' first | exact z6 | apply z5) <;> rfl))) | (apply z7 [] [] [6] (cM); rfl; (focus ((repeat' exact z6) <;> fail)))); rfl; rfl; rfl; rfl; rfl; (focus ((repeat' first | exact z19 | apply z16) <;> first | exact z25 rfl rfl | (refine z34 ?_; ((exact z4 fun _ => rfl))))); (exact .inl rfl))) <;> conv => whnf)
    all_goals skip
    all_goals
      refine AWP.reach (SealW.reach (env := [(2, .ptr 0 none 0), (4, .ptr 1 none 0), (5, .ptr 2 none 0), (6, .ptr 3 none 0), (7, .ptr 4 none 0), (8, lst 3 Tree.cs' l), (9, .ptr 5 none 0), (10, .ptr 6 none 0)]) (objs := [.cells 2 [[.nils, .nils]], .cells 3 [[.nils, .nils, .nils]], .cells 1 [[.nils]], rdO b0 p1, .cells 2 [g.cs], .cells 3 [a.cs], .cells 1 [[ints R0]]]) [0, 1, 2, 3, 4, 5, 7] [6] rfl rfl rfl rfl ?_ ?_) ?_
      · (repeat' (first | exact LocLe.refl _ | exact True.intro | apply And.intro))
      · (repeat' (first | exact LocLe.refl _ | exact F2.nil | apply F2.cons | apply ObjLe.box | ((apply z27 rfl rfl rfl); (focus ((repeat ((exact z23 (fun _ => rfl) _))); done)); (focus (((simp; done)); done)))))
      conv => whnf
      repeat' ((first | (apply AWP.go ok; rfl) | (apply z38; kernel_rfl) | (((apply z7 [3] [] [] (cb); rfl; (focus ((repeat' first | exact z6 | apply z5) <;> rfl)))); rfl; rfl; rfl; rfl; rfl; (focus ((repeat' first | exact z19 | apply z16) <;> exact z25 rfl rfl)); (exact .inl rfl))) <;> conv => whnf)
      all_goals skip
      all_goals (refine RetS.lay [] [] rfl rfl rfl ?_; refine RetS.done ?_ ?_ <;> (repeat' (first | exact LocLe.refl _ | exact F2.nil)))
end Go.Proofs.YtknlmbniicacmaaGreat

namespace Go.Proofs.YtknlmbniicacmaaGreat
open Go.Gl
attribute [local irreducible] z48 AWP z76 z84 z81 RetS z103

end Go.Proofs.YtknlmbniicacmaaGreat

namespace Go.Proofs.YtknlmbniicacmaaGreat
open Go.Gl
attribute [local irreducible] z48 AWP z76 z84 z81 RetS z103

/-- the ranks, all that are not -1 moved by m -/
def shR (m r : Int) : Int := if 0 ≤ r then r + m else r
def shL (R : List Int) (m : Int) : List Int := R.map (shR m)
theorem shL_len (R : List Int) (m : Int) : (shL R m).length = R.length := by simp [shL]
theorem shL_rk {R : List Int} {m x : Int} (h0 : 0 ≤ x) (h1 : x < R.length) : rk (shL R m) x = shR m (rk R x) := by
  unfold rk
  rw [z50 (by rw [shL_len]; omega), z50 (by omega)]
  simp [shL]
theorem shR_nn {m r : Int} (hm : 0 ≤ m) : 0 ≤ shR m r ↔ 0 ≤ r := by unfold shR; split <;> omega
theorem less_sh {b : Bool} {m r q : Int} (hr : 0 ≤ r) (hq : 0 ≤ q) : shR m r ≤ less b (shR m q) ↔ r ≤ less b q := by
  unfold shR less
  rw [if_pos hr, if_pos hq]
  cases b <;> simp <;> omega
theorem cert_shift {rows : List (List Int)} {ini : List Int} {acc : List Bool} {R : List Int} (hr : ∀ r ∈ rows, InN rows.length r) (hi : InN rows.length ini) (h : certP rows ini acc rows.length R) {m : Int} (hm : 0 ≤ m) :
    certP rows ini acc rows.length (shL R m) ↔ ∀ x ∈ shL R m, x ≤ 4000 := by
  obtain ⟨h1, h2, h3, h4⟩ := h
  constructor
  · rintro ⟨_, k2, _⟩ x hx
    exact (k2 x hx).2
  · intro hx
    refine ⟨by rw [shL_len]; exact h1, fun x hm' => ⟨?_, hx x hm'⟩, fun x hm' => ?_, fun i hi' h0 => ?_⟩
    · obtain ⟨r, hr', rfl⟩ := List.mem_map.1 hm'
      have := (h2 r hr').1
      unfold shR; split <;> omega
    · have hb := hi x hm'
      rw [shL_rk hb.1 (by omega), shR_nn hm]
      exact h3 x hm'
    · have hiR : i < R.length := by rw [shL_len] at hi'; exact hi'
      have e : (shL R m)[i] = shR m R[i] := by simp [shL]
      rw [e] at h0 ⊢
      have h0' := (shR_nn hm).1 h0
      have h5 := h4 i hiR h0'
      intro y hy
      have hyN := row_in hr (i : Int) y (by rw [Int.toNat_natCast]; exact hy)
      have h6 := h5 y hy
      rw [shL_rk hyN.1 (by omega)]
      exact ⟨(shR_nn hm).2 h6.1, (less_sh h6.1 h0').2 h6.2⟩
theorem certB_shift {g : Graph} {l : List Tree} {a : Aut} {R : List Int} (h : certB g l a ⟨R⟩ = true) {m : Int} (hm : 0 ≤ m) : certB g l a ⟨shL R m⟩ = decide (∀ x ∈ shL R m, x ≤ 4000) := by
  have h' := h
  unfold certB at h'
  obtain ⟨h1, h2⟩ := Bool.and_eq_true_iff.1 h'
  have h2 := of_decide_eq_true h2
  obtain ⟨h3, h4⟩ := Bool.and_eq_true_iff.1 h1
  obtain ⟨f1, f2, f3, f4, f5⟩ := prod_facts ((z150 g).1 (by unfold glB at h3; exact (Bool.and_eq_true_iff.1 h3).1)) (autB_iff.1 h4) (g.st.map (z68 l))
  have hlen : (z62 g (g.st.map (z68 l)) a).length = g.st.length * a.acc.length := by unfold z62; rw [z119, Nat.mul_comm]
  rw [← hlen] at h2
  have h5 := cert_shift f1 f2 h2 hm
  unfold certB
  rw [h1, ← hlen, Bool.true_and]
  exact decide_eq_decide.2 h5
end Go.Proofs.YtknlmbniicacmaaGreat

