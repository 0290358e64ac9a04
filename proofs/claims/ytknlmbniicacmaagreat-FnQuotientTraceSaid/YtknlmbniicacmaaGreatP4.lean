/- A part of the proofs over this program: T120, T44, T45, T46, T47, T48, T121, T49, T124. -/
import Derived.Test.YtknlmbniicacmaaGreatG0
import Derived.Test.YtknlmbniicacmaaGreatG1
import Derived.Test.YtknlmbniicacmaaGreatG2
import Derived.Test.YtknlmbniicacmaaGreatG3
import Derived.Test.YtknlmbniicacmaaGreatP0
import Derived.Test.YtknlmbniicacmaaGreatP1
import Derived.Test.YtknlmbniicacmaaGreatP2
import Derived.Test.YtknlmbniicacmaaGreatP3
set_option linter.all false
namespace Go.Proofs.YtknlmbniicacmaaGreat
open Go.Gl
attribute [local irreducible] z35 AWP z65 z78 z74 RetS z97

theorem mst_eq (bl : List Int) (i : Nat) : mst bl i = mstD bl i := by
  induction i with
  | zero => rfl
  | succ i ih => rw [mst, mstD, ih]
theorem PartP.part {bl : List Int} {n : Nat} (h : PartP bl) (hn : bl.length = n) : Part bl n := ⟨fun i hi => by
  have := h i (by omega)
  rw [mst_eq] at this
  rw [z20 (by omega)]; exact this⟩
theorem bvB_iff {g : Graph} {bl : List Int} : bvB g bl = true ↔ GB g ∧ PartP bl ∧ bl.length = g.st.length := by
  unfold bvB
  rw [Bool.and_eq_true, Bool.and_eq_true, decide_eq_true_iff, decide_eq_true_iff, z90]
  constructor
  · rintro ⟨a, b, c⟩; exact ⟨a, b, by omega⟩
  · rintro ⟨a, b, c⟩; exact ⟨a, b, by omega⟩

def quoS (g : Graph) (bl : List Int) (n : Nat) : List State := (fstB bl n).map fun j => g.st.getD j ⟨[], []⟩
def quoG (g : Graph) (bl : List Int) : Graph := ⟨quoS g bl g.st.length, quoN g.nx g.st.length bl⟩
noncomputable def quoR (g : Graph) (bl : List Int) : Graph := if bvB g bl then quoG g bl else ⟨[], []⟩
theorem quoS_len (g : Graph) (bl : List Int) (n : Nat) : (quoS g bl n).length = (fstB bl n).length := by simp [quoS]

theorem clipSt_ok (l : List State) (hl : l.length ≤ 1048576) : CallsA Tryz.prog 101 [lst 2 State.cs l] [] (lst 2 State.cs l) [] := by
  refine z14 z26 Tryz.func101 rfl rfl 9 Tryz.ntmps101 (by simp) ?_
  repeat' ((first | (apply AWP.go ok; rfl) | (apply And.intro; omega)) <;> conv => whnf)
  refine z57 rfl rfl ?_
  show AC.list 2 _ _ = lst 2 State.cs l
  rw [show AC.list 2 ((l.length : Int).toNat - (0 : Int).toNat) (((l.map State.cs).drop (0 : Int).toNat).take ((l.length : Int).toNat - (0 : Int).toNat)) = _ from slice_take 2 State.cs l l.length (Nat.le_refl _), List.take_length]
theorem clipRows_ok (l : List (List Int)) (hl : l.length ≤ 1048576) : CallsA Tryz.prog 102 [lst 1 encL l] [] (lst 1 encL l) [] := by
  refine z14 z26 Tryz.func102 rfl rfl 9 Tryz.ntmps102 (by simp) ?_
  repeat' ((first | (apply AWP.go ok; rfl) | (apply And.intro; omega)) <;> conv => whnf)
  refine z57 rfl rfl ?_
  show AC.list 1 _ _ = lst 1 encL l
  rw [show AC.list 1 ((l.length : Int).toNat - (0 : Int).toNat) (((l.map encL).drop (0 : Int).toNat).take ((l.length : Int).toNat - (0 : Int).toNat)) = _ from slice_take 1 encL l l.length (Nat.le_refl _), List.take_length]
theorem copyState_ok (s : State) (hs : s.sm) : CallsA Tryz.prog 99 [z93 State.cs s] [] (z93 State.cs s) [] := by
  have h1 := hs.a
  have h2 := hs.b
  have c1 := implClone_ok s.a (by omega)
  have c2 := implClone_ok s.b (by omega)
  refine z19 z26 Tryz.func99 rfl rfl 10 Tryz.ntmps99 (by simp) ?_
  repeat' ((first | (apply AWP.go ok; rfl) | (apply z30; kernel_rfl) | (apply z11 (c1); rfl; rfl) | (apply z11 (c2); rfl; rfl)) <;> conv => whnf)
  all_goals (refine RetS.lay [] [] rfl rfl rfl ?_; refine RetS.done ?_ ?_ <;> (repeat' (first | exact LocLe.refl _ | exact F2.nil)))

/-- the first place of a value -/
theorem idx_first {bl : List Int} {i : Nat} (hi : i < bl.length) : idxF (fun x => decide (bl[i] = x)) bl = (i : Int) ↔ ∀ k, k < i → bl.getD k 0 ≠ bl.getD i 0 := by
  unfold idxF
  have hx : ∃ k, bl.findIdx? (fun x => decide (bl[i] = x)) = some k := by
    cases h : bl.findIdx? (fun x => decide (bl[i] = x)) with
    | some k => exact ⟨k, rfl⟩
    | none =>
      have := List.findIdx?_eq_none_iff.1 h bl[i] (List.getElem_mem hi)
      simp at this
  obtain ⟨k, hk⟩ := hx
  rw [hk]
  obtain ⟨h1, h2, h3⟩ := List.findIdx?_eq_some_iff_getElem.1 hk
  simp only [decide_eq_true_eq] at h2
  constructor
  · intro e j hj
    have e : k = i := by have e : (k : Int) = i := e; omega
    subst e
    rw [z20 (by omega), z20 hi]
    have := h3 j hj
    simp only [decide_eq_true_eq] at this
    exact fun e => this e.symm
  · intro h
    have hki : k ≤ i := by
      rcases Nat.lt_or_ge i k with h4 | h4
      · have := h3 i h4
        simp at this
      · exact h4
    rcases Nat.lt_or_ge k i with h4 | h4
    · have := h k h4
      rw [z20 h1, z20 hi] at this
      exact absurd h2.symm this
    · show (k : Int) = i
      omega

theorem visits_len (out l : List Int) : (visits out l).length ≤ out.length + l.length := by
  induction l generalizing out with
  | nil => exact Nat.le_refl _
  | cons x l ih =>
    have := ih (visit out x)
    have h2 : (visit out x).length ≤ out.length + 1 := by unfold visit; split <;> simp
    show (visits (visit out x) l).length ≤ _
    simp only [List.length_cons]
    omega
set_option maxHeartbeats 3200000 in
theorem quot_ok (g : Graph) (hg : g.mx) (hgd : ∀ s ∈ g.st, s.sm) (bl : List Int) (hb : bl.length ≤ 1048576) : CallsA Tryz.prog 25 [.agg g.cs, ints bl] [] (.tup [.agg (quoR g bl).cs, .bool (bvB g bl)]) [] := by
  have cv := implBlocksValid_ok g hg bl hb
  unfold quoR
  by_cases hv : bvB g bl = true
  · rw [if_pos hv]
    rw [hv] at cv ⊢
    obtain ⟨hG, hp, hbl⟩ := bvB_iff.1 hv
    have hP := hp.part hbl
    have h60 := hG.1.2
    have hnx : g.nx.length = g.st.length := hG.2.1
    have c8 := clipSt_ok (quoS g bl g.st.length) (by rw [quoS_len]; have := fstB_len bl g.st.length; omega)
    have c9 := clipRows_ok (quoN g.nx g.st.length bl) (by rw [quoN_len]; have := fstB_len bl g.st.length; omega)
    refine z19 z26 Tryz.func25 rfl rfl 76 Tryz.ntmps25 (by simp) ?_
    repeat' ((first | (apply AWP.go ok; rfl) | (apply z11 (cv); rfl; rfl)) <;> conv => whnf)
    all_goals skip
    refine AWP.reach (Reach.empty 2 rfl) ?_
    refine AWP.reach (Reach.empty 1 rfl) ?_
    refine loopR (fun x : Nat × List State × List (List Int) => ([(1, ints bl), (2, .ptr 0 none 0), (4, .ptr 1 none 0), (6, .ptr 2 none 0), (17, ints bl), (18, .int g.st.length), (19, .int x.1)], [.cells 2 [g.cs], .cells 2 [[.nils, .nils]], .cells 2 [[.sref 3 0 x.2.1.length, .sref 4 0 x.2.2.length]], .cells 2 (x.2.1.map State.cs), .cells 1 (x.2.2.map encL)])) (fun x => x.1 ≤ g.st.length ∧ quoS g bl x.1 = x.2.1 ∧ quoN g.nx x.1 bl = x.2.2) (fun x => g.st.length - x.1) (0, [], []) ⟨Nat.zero_le _, rfl, rfl⟩ (by refine SealW.reach [0, 1, 2, 3, 4] [] rfl rfl rfl rfl ?_ ?_ <;> (repeat' (first | exact LocLe.refl _ | exact z99 | exact F2.nil | apply F2.cons | (refine int_le ?_; omega) | apply ObjLe.box | ((refine z33 rfl ?_ ?_); (focus ((repeat' (exact z49)); done))) | exact True.intro | apply And.intro))) ?_
    rintro ⟨i, A, R⟩ ⟨hi, qA, qR⟩
    dsimp only at hi qA qR ⊢
    by_cases hil : i < g.st.length
    · have hfl := fstB_len bl i
      have sl := quoS_len g bl i
      have nl := quoN_len g.nx i bl
      rw [qA] at sl
      rw [qR] at nl
      have cI := indexInt_ok bl (by unfold maxLen; omega) (bl.getD i 0)
      have hif := idx_first (bl := bl) (i := i) (by omega)
      have gb : (bl.map enI)[i]? = some (enI (bl.getD i 0)) := by rw [List.getElem?_map, List.getElem?_eq_getElem (by omega), z20 (by omega)]; rfl
      rw [← z20 (d := 0) (show i < bl.length by omega)] at hif
      by_cases hf : ∀ k, k < i → bl.getD k 0 ≠ bl.getD i 0
      · have es : quoS g bl (i + 1) = A ++ [g.st.getD i ⟨[], []⟩] := by
          rw [← qA]; unfold quoS; rw [fstB_succ, if_pos hf, List.map_append]; rfl
        have en : quoN g.nx (i + 1) bl = R ++ [visits [] ((g.nx.getD i []).map (pick bl))] := by
          rw [← qR]; unfold quoN; rw [fstB_succ, if_pos hf, List.map_append]; rfl
        have hid := hif.2 hf
        generalize idxF (fun x => decide (bl.getD i 0 = x)) bl = q at *
        subst hid
        have gr : (g.nx.map encL)[i]? = some (encL (g.nx.getD i [])) := by rw [List.getElem?_map, List.getElem?_eq_getElem (by omega), z20 (by omega)]; rfl
        have hgs : (g.st.map State.cs)[i]? = some (State.cs (g.st.getD i ⟨[], []⟩)) := by rw [List.getElem?_map, List.getElem?_eq_getElem hil, z20 hil]; rfl
        have hsm : (g.st.getD i ⟨[], []⟩).sm := by rw [z20 hil]; exact hgd _ (List.getElem_mem _)
        have cst := copyState_ok _ hsm
        obtain ⟨r1, r2, r3⟩ := GB.row hG i (by omega)
        rw [← z20 (d := []) (show i < g.nx.length by omega)] at r1 r2 r3
        generalize g.nx.getD i [] = row at *
        generalize g.st.getD i ⟨[], []⟩ = s at *
        have cp := picked_new bl row (by omega) (by rw [hbl]; exact r3) hb
        have hpl : (row.map (pick bl)).length = row.length := by simp
        generalize row.map (pick bl) = P at *
        generalize bl.getD i 0 = b at *
        repeat' ((first | (apply AWP.go ok; rfl) | (refine z32 (i := i) rfl gb ?_) | (refine z32 (i := i) rfl gr ?_) | (apply And.intro; omega) | ((first | apply z10 | apply z21) <;> intro _) | (apply z11 (cI); rfl; rfl) | (((apply z8 [] [] [5] (cp); rfl; (focus ((repeat' exact z6) <;> fail)))); rfl; rfl; rfl; rfl; rfl; (focus ((repeat' first | exact z17 | apply z15) <;> (refine z29 ?_; ((exact z12 fun _ => rfl))))); (exact .inl rfl))) <;> conv => whnf)
        all_goals first | (exfalso; omega) | skip
        refine AWP.reach (Reach.empty 1 rfl) ?_
        refine loopR (fun x : Nat × List Int => ([(1, ints bl), (2, .ptr 0 none 0), (4, .ptr 1 none 0), (6, .ptr 2 none 0), (7, .int i), (9, .sref 6 0 x.2.length), (17, ints bl), (18, .int g.st.length), (19, .int i), (35, .sref 5 0 row.length), (36, .int row.length), (37, .int x.1)], [.cells 2 [g.cs], .cells 2 [[.nils, .nils]], .cells 2 [[.sref 3 0 A.length, .sref 4 0 R.length]], .cells 2 (A.map State.cs), .cells 1 (R.map encL), .cells 1 (P.map enI), .cells 1 (x.2.map enI)])) (fun x => x.1 ≤ row.length ∧ visits [] (P.take x.1) = x.2) (fun x => row.length - x.1) (0, []) ⟨Nat.zero_le _, rfl⟩ (by refine SealW.reach [0, 1, 2, 3, 4, 5, 6] [] rfl rfl rfl rfl ?_ ?_ <;> (repeat' (first | exact LocLe.refl _ | exact z99 | exact F2.nil | apply F2.cons | exact z34 _ | apply ObjLe.box | ((refine z33 rfl ?_ ?_); (focus ((repeat' (first | exact z49 | exact z12 (fun _ => rfl))); done))) | exact True.intro | apply And.intro))) ?_
        rintro ⟨k, N⟩ ⟨hk, qN⟩
        dsimp only at hk qN ⊢
        have hvl : N.length ≤ 60 := by
          have := visits_len [] (P.take k)
          rw [qN] at this
          simp only [List.length_nil, List.length_take] at this
          omega
        by_cases hkl : k < row.length
        · have hkP : k < P.length := by omega
          have gp : (P.map enI)[k]? = some (enI P[k]) := by rw [List.getElem?_map, List.getElem?_eq_getElem hkP]; rfl
          have ev := visits_take (out := []) hkP
          have cC := containsInt_ok N (by unfold maxLen; omega) P[k]
          rw [qN] at ev
          generalize P[k] = x at *
          unfold visit at ev
          by_cases hx : x ∈ N
          · rw [if_pos hx] at ev
            rw [decide_eq_true hx] at cC
            repeat' ((first | (apply AWP.go ok; rfl) | (refine z32 (i := k) rfl gp ?_) | (apply And.intro; first | omega | (unfold inI; omega)) | (((with_reducible apply z13; omega)); intro _) | ((apply z10) <;> intro _) | (((apply z8 [] [6] [] (cC); (focus ((repeat' first | exact z94 | apply z54) <;> first | exact z129 rfl rfl rfl | rfl)); (focus ((repeat' exact z6) <;> fail)))); rfl; rfl; rfl; rfl; rfl; (focus ((repeat' exact z17) <;> fail)); ((refine .inr ⟨rfl, ?_⟩; repeat' exact True.intro)))) <;> conv => whnf)
            all_goals first | (exfalso; omega) | skip
            all_goals refine z79 (k + 1, N) ⟨by show k + 1 ≤ _; omega, ev⟩ (by show row.length - (k + 1) < row.length - k; omega) (by refine SealW.reach [0, 1, 2, 3, 4, 5, 6] [] rfl rfl rfl rfl ?_ ?_ <;> (repeat' (first | exact LocLe.refl _ | exact F2.nil | apply F2.cons | exact z34 _ | apply ObjLe.box | ((refine z33 rfl ?_ ?_); (focus ((repeat' ((exact z12 (fun _ => rfl)))); done))) | exact True.intro | apply And.intro)))
          · rw [if_neg hx] at ev
            rw [decide_eq_false hx] at cC
            repeat' ((first | (apply AWP.go ok; rfl) | (refine z32 (i := k) rfl gp ?_) | (apply And.intro; first | omega | (unfold inI; omega) | ((try dsimp only); simp only [List.length_map, List.length_take, List.length_append, List.length_replicate, List.length_cons, List.length_nil]; omega) | exact ⟨rfl, z18 rfl z23⟩) | (((with_reducible apply z13; omega)); intro _) | ((apply z10) <;> intro _) | (((apply z8 [] [6] [] (cC); (focus ((repeat' first | exact z94 | apply z54) <;> first | exact z129 rfl rfl rfl | rfl)); (focus ((repeat' exact z6) <;> fail)))); rfl; rfl; rfl; rfl; rfl; (focus ((repeat' exact z17) <;> fail)); ((refine .inr ⟨rfl, ?_⟩; repeat' exact True.intro)))) <;> conv => whnf)
            all_goals first | (exfalso; omega) | skip
            all_goals refine z79 (k + 1, N ++ [x]) ⟨by show k + 1 ≤ _; omega, ev⟩ (by show row.length - (k + 1) < row.length - k; omega) (by refine SealW.reach [0, 1, 2, 3, 4, 5, 8] [] rfl rfl rfl rfl ?_ ?_ <;> (repeat' (first | exact LocLe.refl _ | exact F2.nil | apply F2.cons | exact z34 _ | (refine z120 ?_; ((simp; done))) | apply ObjLe.box | ((first | refine z56 rfl ?_ ?_ | refine z33 rfl ?_ ?_); (focus ((repeat' (first | exact z12 (fun _ => rfl) | apply z37)); done))) | (refine z114 ?_ ?_; (focus (omega))) | exact True.intro | apply And.intro)))
        · obtain rfl : k = row.length := by omega
          rw [← hpl, List.take_length] at qN
          rw [qN] at en
          have cl := clipInt_ok N (by omega)
          repeat' ((first | ((fail_if_success apply stopAt 15); (fail_if_success apply z139 15); apply AWP.go ok; rfl) | (apply And.intro; omega) | (((apply z13; omega)); intro _) | ((apply z10) <;> intro _)) <;> conv => whnf)
          all_goals first | (exfalso; omega) | skip
          refine AWP.reach (SealW.reach (env := [(1, ints bl), (2, .ptr 0 none 0), (4, .ptr 1 none 0), (6, .ptr 2 none 0), (7, .int i), (9, ints N), (17, ints bl), (18, .int g.st.length), (19, .int i)]) (objs := [.cells 2 [g.cs], .cells 2 [[.nils, .nils]], .cells 2 [[.sref 3 0 A.length, .sref 4 0 R.length]], .cells 2 (A.map State.cs), .cells 1 (R.map encL)]) [0, 1, 2, 3, 4] [6] rfl rfl rfl rfl ?_ ?_) ?_
          · (repeat' (first | exact LocLe.refl _ | ((apply z47 rfl rfl rfl); (focus ((repeat ((exact z36 (fun _ => rfl) _))); done)); (focus (((simp; done)); done))) | exact True.intro | apply And.intro))
          · (repeat' (first | exact LocLe.refl _ | exact F2.nil | apply F2.cons | exact z34 _ | apply ObjLe.box | ((refine z33 rfl ?_ ?_); (focus ((repeat' ((exact z12 (fun _ => rfl)))); done)))))
          conv => whnf
          repeat' ((first | (apply AWP.go ok; rfl) | (apply z30; kernel_rfl) | (refine z32 (i := i) rfl hgs ?_) | (apply And.intro; first | omega | (unfold inI; omega) | ((try dsimp only); simp only [List.length_map, List.length_take, List.length_append, List.length_replicate, List.length_cons, List.length_nil]; omega) | exact ⟨rfl, z18 rfl z23⟩) | (apply z11 (cst); rfl; rfl) | (apply z11 (cl); rfl; rfl)) <;> conv => whnf)
          all_goals skip
          all_goals refine z79 (i + 1, A ++ [s], R ++ [N]) ⟨by show i + 1 ≤ _; omega, es, en⟩ (by show g.st.length - (i + 1) < g.st.length - i; omega) (by refine SealW.reach [0, 1, 2, 6, 8] [] rfl rfl rfl rfl ?_ ?_ <;> (repeat' (first | exact LocLe.refl _ | exact F2.nil | apply F2.cons | (refine z120 ?_; ((simp; done))) | apply ObjLe.box | ((refine z56 rfl ?_ ?_); (focus ((repeat' (first | exact z12 (fun _ => rfl) | apply z37)); done))) | (refine z114 ?_ ?_; (focus (omega))) | exact True.intro | apply And.intro)))
      · have es : quoS g bl (i + 1) = A := by
          rw [← qA]; unfold quoS; rw [fstB_succ, if_neg hf, List.append_nil]
        have en : quoN g.nx (i + 1) bl = R := by
          rw [← qR]; unfold quoN; rw [fstB_succ, if_neg hf, List.append_nil]
        have hid : ¬ idxF (fun x => decide (bl.getD i 0 = x)) bl = (i : Int) := fun h => hf (hif.1 h)
        generalize idxF (fun x => decide (bl.getD i 0 = x)) bl = q at *
        repeat' ((first | (apply AWP.go ok; rfl) | (refine z32 (i := i) rfl gb ?_) | (apply And.intro; first | omega | (unfold inI; omega)) | (((with_reducible apply z13; omega)); intro _) | ((first | apply z10 | apply z21) <;> intro _) | (apply z11 (cI); rfl; rfl)) <;> conv => whnf)
        all_goals first | (exfalso; omega) | skip
        all_goals refine z79 (i + 1, A, R) ⟨by show i + 1 ≤ _; omega, es, en⟩ (by show g.st.length - (i + 1) < g.st.length - i; omega) (by refine SealW.reach [0, 1, 2, 3, 4] [] rfl rfl rfl rfl ?_ ?_ <;> (repeat' (first | exact LocLe.refl _ | exact F2.nil | apply F2.cons | exact z34 _ | apply ObjLe.box | ((refine z33 rfl ?_ ?_); (focus ((repeat' ((exact z12 (fun _ => rfl)))); done))) | exact True.intro | apply And.intro)))
    · obtain rfl : i = g.st.length := by omega
      rw [qA] at c8
      rw [qR] at c9
      have eq : quoG g bl = ⟨A, R⟩ := by unfold quoG; rw [qA, qR]
      rw [eq]
      repeat' ((first | ((fail_if_success apply stopAt 18); (fail_if_success apply z139 18); apply AWP.go ok; rfl) | (apply And.intro; omega) | (((with_reducible apply z13; omega)); intro _) | ((apply z10) <;> intro _)) <;> conv => whnf)
      all_goals first | (exfalso; omega) | skip
      refine AWP.reach (SealW.reach (env := [(4, .ptr 0 none 0), (6, .ptr 1 none 0)]) (objs := [.cells 2 [[.nils, .nils]], .cells 2 [[lst 2 State.cs A, lst 1 encL R]]]) [1, 2] [3, 4] rfl rfl rfl rfl ?_ ?_) ?_
      · (repeat' (first | exact LocLe.refl _ | exact True.intro | apply And.intro))
      · (repeat' (first | exact LocLe.refl _ | exact F2.nil | apply F2.cons | apply ObjLe.box | ((apply z47 rfl rfl rfl); (focus ((repeat ((exact z36 (fun _ => rfl) _))); done)); (focus (((simp; done)); done)))))
      conv => whnf
      repeat' ((first | (apply AWP.go ok; rfl) | (apply z30; kernel_rfl) | (apply z11 (c8); rfl; rfl) | (apply z11 (c9); rfl; rfl)) <;> conv => whnf)
      all_goals skip
      all_goals (refine RetS.lay [] [] rfl rfl rfl ?_; refine RetS.done ?_ ?_ <;> (repeat' (first | exact LocLe.refl _ | exact F2.nil)))
  · rw [if_neg hv]
    rw [(Bool.not_eq_true _).mp hv] at cv ⊢
    refine z19 z26 Tryz.func25 rfl rfl 76 Tryz.ntmps25 (by simp) ?_
    repeat' ((first | (apply AWP.go ok; rfl) | (apply z11 (cv); rfl; rfl)) <;> conv => whnf)
    all_goals (refine RetS.lay [] [] rfl rfl rfl ?_; refine RetS.done ?_ ?_ <;> (repeat' (first | exact LocLe.refl _ | exact z61 | exact F2.nil | apply F2.cons | apply z75 | apply tup_le)))
end Go.Proofs.YtknlmbniicacmaaGreat

namespace Go.Proofs.YtknlmbniicacmaaGreat
open Go.Gl
attribute [local irreducible] z35 AWP z65 z78 z74

theorem push_cellsN {Q Q' : List Int} {x : Int} {n : Nat} {e : List AC} (hn : n = Q.length) (h : Q' = Q ++ [x]) (he : e = enI x) : ((Q.map enI).take n) ++ [e] = Q'.map enI := by
  subst h hn he
  rw [List.take_of_length_le (by simp), List.map_append]; rfl

theorem push_two {Q Q' : List Int} {x y : Int} {n m : Nat} {e f : List AC} (hn : n = Q.length) (hm : m = n + 1) (h : Q' = (Q ++ [x]) ++ [y]) (he : e = enI x) (hf : f = enI y) : ((((Q.map enI).take n) ++ [e]).take m) ++ [f] = Q'.map enI := by
  rw [push_cellsN hn (rfl : Q ++ [x] = Q ++ [x]) he]
  exact push_cellsN (by subst hm hn; simp) h hf

theorem insS_at {l : List Int} {n : Int} (h : Asc l) (hn : n ∉ l) : ∃ p, p ≤ l.length ∧ (∀ k (hk : k < l.length), k < p → l[k] < n) ∧ (∀ k (hk : k < l.length), p ≤ k → n < l[k]) ∧ insS l n = l.take p ++ n :: l.drop p := by
  induction l with
  | nil => exact ⟨0, Nat.le_refl _, fun k hk => by simp at hk, fun k hk => by simp at hk, rfl⟩
  | cons x r ih =>
    have h1 := List.pairwise_cons.1 h
    have hx : x ≠ n := fun e => hn (by simp [e])
    by_cases hlt : n < x
    · refine ⟨0, Nat.zero_le _, fun k hk h0 => by omega, fun k hk _ => ?_, by rw [insS, if_neg hx, if_pos hlt]; rfl⟩
      match k with
      | 0 => exact hlt
      | k + 1 =>
        have := h1.1 ((x :: r)[k + 1]) (by simp)
        omega
    · obtain ⟨p, p1, p2, p3, p4⟩ := ih h1.2 (fun h => hn (by simp [h]))
      refine ⟨p + 1, by simpa using p1, fun k hk hkp => ?_, fun k hk hkp => ?_, by rw [insS, if_neg hx, if_neg hlt, p4]; rfl⟩
      · match k with
        | 0 => show x < n; omega
        | k + 1 => exact p2 k (by simpa using hk) (by omega)
      · match k with
        | 0 => omega
        | k + 1 => exact p3 k (by simpa using hk) (by omega)
def sOut (l : List Int) (n : Int) (p i : Nat) : List Int := if i ≤ p then l.take i else l.take p ++ n :: (l.take i).drop p
theorem sOut_len {l : List Int} {n : Int} {p i : Nat} (hp : p ≤ l.length) (hi : i ≤ l.length) : (sOut l n p i).length ≤ l.length + 1 := by
  unfold sOut; split <;> simp <;> omega
theorem sOut_before {l : List Int} {n : Int} {p i : Nat} (hi : i < l.length) (h : i < p) : sOut l n p (i + 1) = sOut l n p i ++ [l[i]] := by
  unfold sOut
  rw [if_pos (by omega), if_pos (by omega), List.take_succ_eq_append_getElem hi]
theorem sOut_at {l : List Int} {n : Int} {p : Nat} (hi : p < l.length) : sOut l n p (p + 1) = (sOut l n p p ++ [n]) ++ [l[p]] := by
  unfold sOut
  rw [if_neg (by omega), if_pos (Nat.le_refl _), List.take_succ_eq_append_getElem hi, List.drop_append_of_le_length (by simp; omega), List.drop_of_length_le (by simp; omega)]
  simp
theorem sOut_behind {l : List Int} {n : Int} {p i : Nat} (hi : i < l.length) (h : p < i) : sOut l n p (i + 1) = sOut l n p i ++ [l[i]] := by
  unfold sOut
  rw [if_neg (by omega), if_neg (by omega), List.take_succ_eq_append_getElem hi, List.drop_append_of_le_length (by simp; omega)]
  simp

theorem l10Sorted_ok (l : List Int) (n : Int) (h : Asc l) (hl : l.length ≤ 1048576) : CallsA Tryz.prog 302 [ints l, .int n] [] (ints (insS l n)) [] := by
  by_cases hn : n ∈ l
  · rw [insS_old h hn]
    obtain ⟨j, hj, rfl⟩ := List.mem_iff_getElem.1 hn
    have hlt : ∀ k (hk : k < l.length), k < j → l[k] < l[j] := fun k hk hkj => List.pairwise_iff_getElem.1 h k j hk hj hkj
    refine z14 z26 Tryz.func302 rfl rfl 50 Tryz.ntmps302 (by simp) ?_
    repeat' ((apply AWP.go ok; rfl; conv => whnf))
    refine z100 (fun i : Nat => ([(0, ints l), (1, .int l[j]), (5, .sref 0 0 i), (6, .bool false), (7, .int i)], [.cells 1 ((l.take i).map enI)])) (fun i => i ≤ j) (fun i => l.length - i) 0 (by omega) ⟨[0], rfl, by decide, rfl, ⟨⟨rfl, rfl⟩, ⟨rfl, rfl⟩, ⟨rfl, rfl⟩, ⟨rfl, rfl⟩, ⟨rfl, rfl⟩, trivial⟩, ⟨z41 rfl (z12 fun _ => rfl), trivial⟩⟩ ?_
    intro i hi
    by_cases hij : i = j
    · subst hij
      repeat' (first | (apply AWP.go ok; rfl; conv => whnf) | (apply And.intro; (omega); conv => whnf) | (with_reducible apply z13; omega; intro _; conv => whnf) | (apply z10 <;> intro _ <;> conv => whnf))
      all_goals first | (exfalso; omega) | skip
      exact z57 rfl rfl rfl
    · have h1 := hlt i (by omega) (by omega)
      repeat' (first | (apply AWP.go ok; rfl; conv => whnf) | (apply And.intro; (first | omega | (unfold inI; omega) | ((try dsimp only); simp only [List.length_map, List.length_take, List.length_append, List.length_replicate, List.length_cons, List.length_nil]; omega) | exact ⟨rfl, z18 rfl z23⟩); conv => whnf) | (with_reducible apply z13; omega; intro _; conv => whnf) | (apply z10 <;> intro _ <;> conv => whnf))
      all_goals first | (exfalso; omega) | skip
      exact z84 (i + 1) [2] (by omega) (by omega) ⟨rfl, by decide, rfl, ⟨⟨rfl, rfl⟩, ⟨rfl, rfl⟩, ⟨rfl, rfl⟩, ⟨rfl, rfl⟩, ⟨rfl, rfl⟩, trivial⟩, ⟨obj_app (by omega) _ rfl rfl rfl (fun _ => rfl), trivial⟩⟩
  · obtain ⟨p, p1, p2, p3, p4⟩ := insS_at h hn
    rw [p4]
    refine keepI (n := (l.take p ++ n :: l.drop p).length) ?_ rfl
    refine z14 z26 Tryz.func302 rfl rfl 50 Tryz.ntmps302 (by simp) ?_
    repeat' ((apply AWP.go ok; rfl; conv => whnf))
    refine z100 (fun i : Nat => ([(0, ints l), (1, .int n), (5, .sref 0 0 (sOut l n p i).length), (6, .bool (decide (p < i))), (7, .int i)], [.cells 1 ((sOut l n p i).map enI)])) (fun i => i ≤ l.length) (fun i => l.length - i) 0 (by omega) ⟨[0], rfl, by decide, rfl, ⟨⟨rfl, rfl⟩, ⟨rfl, rfl⟩, ⟨rfl, env_sref (by simp [sOut]) rfl⟩, ⟨rfl, rfl⟩, ⟨rfl, rfl⟩, trivial⟩, ⟨z41 (z64 (by simp [sOut])) (z12 fun _ => rfl), trivial⟩⟩ ?_
    intro i hi
    have hsl := sOut_len (n := n) p1 hi
    by_cases hil : i < l.length
    · have hne : l[i] ≠ n := fun e => hn (e ▸ List.getElem_mem _)
      by_cases h1 : i < p
      · have h2 := p2 i hil h1
        have h3 := sOut_before (n := n) hil h1
        repeat' (first | (apply AWP.go ok; rfl; conv => whnf) | (apply And.intro; (first | omega | (unfold inI; omega) | ((try dsimp only); simp only [List.length_map, List.length_take, List.length_append, List.length_replicate, List.length_cons, List.length_nil]; omega) | exact ⟨rfl, z18 rfl z23⟩); conv => whnf) | (with_reducible apply z13; omega; intro _; conv => whnf) | (apply z10 <;> intro _ <;> conv => whnf) | (apply z21 <;> intro _ <;> conv => whnf))
        all_goals first | (exfalso; omega) | skip
        exact z84 (i + 1) [2] (by omega) (by omega) ⟨rfl, by decide, rfl, ⟨⟨rfl, rfl⟩, ⟨rfl, rfl⟩, ⟨rfl, env_sref (by rw [h3]; simp) rfl⟩, ⟨rfl, by rw [decide_eq_false (show ¬ p < i by omega), decide_eq_false (show ¬ p < i + 1 by omega)]; rfl⟩, ⟨rfl, rfl⟩, trivial⟩, ⟨z41 (z64 (push_cellsN rfl h3 rfl)) (z12 fun _ => rfl), trivial⟩⟩
      · have h2 := p3 i hil (by omega)
        by_cases h4 : i = p
        · subst h4
          have h3 := sOut_at (n := n) hil
          repeat' (first | (apply AWP.go ok; rfl; conv => whnf) | (apply And.intro; (first | omega | (unfold inI; omega) | ((try dsimp only); simp only [List.length_map, List.length_take, List.length_append, List.length_replicate, List.length_cons, List.length_nil]; omega) | exact ⟨rfl, z18 rfl z23⟩); conv => whnf) | (with_reducible apply z13; omega; intro _; conv => whnf) | (apply z10 <;> intro _ <;> conv => whnf) | (apply z21 <;> intro _ <;> conv => whnf))
          all_goals first | (exfalso; omega) | skip
          exact z84 (i + 1) [4] (by omega) (by omega) ⟨rfl, by decide, rfl, ⟨⟨rfl, rfl⟩, ⟨rfl, rfl⟩, ⟨rfl, env_sref (by rw [h3]; simp) rfl⟩, ⟨rfl, by rw [decide_eq_true (show i < i + 1 by omega)]; rfl⟩, ⟨rfl, rfl⟩, trivial⟩, ⟨z41 (z64 (push_two rfl rfl h3 rfl rfl)) (z12 fun _ => rfl), trivial⟩⟩
        · have h3 := sOut_behind (n := n) hil (show p < i by omega)
          repeat' (first | (apply AWP.go ok; rfl; conv => whnf) | (apply And.intro; (first | omega | (unfold inI; omega) | ((try dsimp only); simp only [List.length_map, List.length_take, List.length_append, List.length_replicate, List.length_cons, List.length_nil]; omega) | exact ⟨rfl, z18 rfl z23⟩); conv => whnf) | (with_reducible apply z13; omega; intro _; conv => whnf) | (apply z10 <;> intro _ <;> conv => whnf) | (apply z21 <;> intro _ <;> conv => whnf))
          all_goals first | (exfalso; omega) | skip
          exact z84 (i + 1) [2] (by omega) (by omega) ⟨rfl, by decide, rfl, ⟨⟨rfl, rfl⟩, ⟨rfl, rfl⟩, ⟨rfl, env_sref (by rw [h3]; simp) rfl⟩, ⟨rfl, by rw [decide_eq_true (show p < i by omega), decide_eq_true (show p < i + 1 by omega)]; rfl⟩, ⟨rfl, rfl⟩, trivial⟩, ⟨z41 (z64 (push_cellsN rfl h3 rfl)) (z12 fun _ => rfl), trivial⟩⟩
    · obtain rfl : i = l.length := by omega
      by_cases h1 : p < l.length
      · have e : sOut l n p l.length = l.take p ++ n :: l.drop p := by unfold sOut; rw [if_neg (by omega), List.take_length]
        repeat' (first | (apply AWP.go ok; rfl; conv => whnf) | (apply And.intro; (omega); conv => whnf) | (with_reducible apply z13; omega; intro _; conv => whnf) | (apply z10 <;> intro _ <;> conv => whnf) | (apply z21 <;> intro _ <;> conv => whnf))
        all_goals first | (exfalso; omega) | skip
        rw [e]
        exact ret_newN rfl (z12 fun _ => rfl) rfl rfl rfl
      · have e : sOut l n p l.length ++ [n] = l.take p ++ n :: l.drop p := by unfold sOut; rw [if_pos (by omega), List.take_of_length_le (Nat.le_refl _), List.take_of_length_le (by omega), List.drop_of_length_le (by omega)]
        repeat' (first | (apply AWP.go ok; rfl; conv => whnf) | (apply And.intro; (first | omega | ((try dsimp only); simp only [List.length_map, List.length_take, List.length_append, List.length_replicate, List.length_cons, List.length_nil]; omega) | exact ⟨rfl, z18 rfl z23⟩); conv => whnf) | (with_reducible apply z13; omega; intro _; conv => whnf) | (apply z10 <;> intro _ <;> conv => whnf) | (apply z21 <;> intro _ <;> conv => whnf))
        all_goals first | (exfalso; omega) | skip
        exact ret_newN rfl (z12 fun _ => rfl) (by rw [← e]; simp) rfl (push_cellsN rfl e.symm rfl)

theorem l10After_ok (g : Graph) (hG : GB g) (bl : List Int) (hb : bl.length = g.st.length) (i : Nat) (hi : i < g.nx.length) : CallsA Tryz.prog 272 [.agg g.cs, ints bl, .int i] [] (ints (sortD (g.nx[i].map (pick bl)))) [] := by
  obtain ⟨r1, r2, r3⟩ := hG.row i hi
  have hg1 := hG.1
  generalize hrow : g.nx[i] = row at r1 r2 r3
  rw [← sortD_eq]
  refine z14 z26 Tryz.func272 rfl rfl 34 Tryz.ntmps272 (by simp) ?_
  repeat' (((fail_if_success apply stopAt 2); (fail_if_success apply z139 2); apply AWP.go ok; rfl; conv => whnf))
  refine AWP.reach (SealL.reach (π := [0]) (Bn := [1]) (env := [(1, ints bl), (2, .int i), (3, .ptr 0 none 0), (7, ints []), (8, .int (0 : Nat))]) (objs := [.cells 2 [[lst 2 State.cs g.st, lst 1 encL g.nx]]]) ⟨rfl, rfl, by simp, rfl, fun o ho => by cases List.mem_singleton.1 ho; rfl, ⟨rfl, rfl, rfl, rfl, rfl, trivial⟩, rfl⟩) ?_
  conv => whnf
  repeat' (fail)
  refine z100 (fun k : Nat => ([(1, ints bl), (2, .int i), (3, .ptr 0 none 0), (7, ints (((row.take k).map (pick bl)).foldl insS [])), (8, .int k)], [.cells 2 [[lst 2 State.cs g.st, lst 1 encL g.nx]]])) (fun k => k ≤ row.length) (fun k => row.length - k) 0 (by omega) ⟨[0], rfl, by decide, rfl, ⟨⟨rfl, rfl⟩, ⟨rfl, rfl⟩, ⟨rfl, rfl⟩, ⟨rfl, rfl⟩, ⟨rfl, rfl⟩, trivial⟩, ⟨z42 rfl rfl, trivial⟩⟩ ?_
  intro k hk
  have hgr : (g.nx.map encL)[i]? = some (encL row) := by rw [List.getElem?_map, List.getElem?_eq_getElem hi, hrow]; rfl
  have hasc := (foldl_insS (l := (row.take k).map (pick bl)) (out := []) (by simp [Asc])).1
  have hln := foldl_insS_len ((row.take k).map (pick bl)) []
  rw [List.length_map, List.length_take] at hln
  simp only [List.length_nil] at hln
  by_cases hkl : k < row.length
  · have hx := r3 row[k] (List.getElem_mem _)
    have hxb : row[k].toNat < bl.length := by omega
    have c1 := l10Sorted_ok _ bl[row[k].toNat] hasc (by omega)
    have e : ((row.take (k + 1)).map (pick bl)).foldl insS [] = insS (((row.take k).map (pick bl)).foldl insS []) bl[row[k].toNat] := by
      rw [List.take_succ_eq_append_getElem hkl, List.map_append, List.foldl_append]
      show insS _ (pick bl row[k]) = _
      unfold pick; rw [z20 hxb]
    repeat' (first | (apply AWP.go ok; rfl; conv => whnf) | (refine z32 (i := i) (by rfl) hgr ?_; conv => whnf) | (apply And.intro; (first | omega | (unfold inI; omega)); conv => whnf) | (with_reducible apply z13; omega; intro _; conv => whnf) | (with_reducible apply z43; omega; intro _; conv => whnf) | (apply z10 <;> intro _ <;> conv => whnf) | (apply z11 (c1); rfl; rfl; conv => whnf))
    all_goals first | (exfalso; omega) | skip
    exact z84 (k + 1) [0] (by omega) (by omega) ⟨rfl, by decide, rfl, ⟨⟨rfl, rfl⟩, ⟨rfl, rfl⟩, ⟨rfl, rfl⟩, ⟨rfl, by rw [e]; rfl⟩, ⟨rfl, rfl⟩, trivial⟩, ⟨z42 rfl rfl, trivial⟩⟩
  · repeat' (first | (apply AWP.go ok; rfl; conv => whnf) | (refine z32 (i := i) (by rfl) hgr ?_; conv => whnf) | (apply And.intro; (omega); conv => whnf) | (with_reducible apply z13; omega; intro _; conv => whnf) | (with_reducible apply z43; omega; intro _; conv => whnf) | (apply z10 <;> intro _ <;> conv => whnf))
    all_goals first | (exfalso; omega) | skip
    rw [List.take_of_length_le (by omega)]
    exact z57 rfl rfl rfl
end Go.Proofs.YtknlmbniicacmaaGreat

namespace Go.Proofs.YtknlmbniicacmaaGreat
open Go.Gl
attribute [local irreducible] z35 AWP z65 z78 z74

/-- the blocks of the successors -/
def aft (g : Graph) (bl : List Int) (i : Nat) : List Int := sortD ((g.nx.getD i []).map (pick bl))
/-- what tells states apart in the next partition -/
def keyA (g : Graph) (bl : List Int) (i : Nat) : List Int := bl.getD i 0 :: aft g bl i
def refL (g : Graph) (bl : List Int) : List Int := (numK (keyA g bl) g.st.length).1
theorem refL_len (g : Graph) (bl : List Int) : (refL g bl).length = g.st.length := numK_len _
theorem sortD_len (l : List Int) : (sortD l).length ≤ l.length := by
  unfold sortD Lib.compact
  have : ∀ (z : List Int) m, (Lib.compactUpTo z.toArray m).length ≤ m := by
    intro z m
    induction m with
    | zero => simp [Lib.compactUpTo]
    | succ m ih => rw [Lib.compactUpTo_succ]; split <;> simp <;> omega
  have := this (l.mergeSort fun x y => decide (x ≤ y)) (l.mergeSort fun x y => decide (x ≤ y)).length
  rw [List.length_mergeSort] at this
  rw [List.length_mergeSort]; exact this

theorem l10Refine_new (g : Graph) (hG : GB g) (bl : List Int) (hb : bl.length = g.st.length) : CallsA Tryz.prog 226 [.agg g.cs, ints bl] [] (.sref 0 0 g.st.length) [.cells 1 ((refL g bl).map enI)] := by
  have hg1 := hG.1
  have hg2 := hG.2.1
  have hkl : ((List.range bl.length).map (keyA g bl)).length = g.st.length := by simp [hb]
  have hk60 : ∀ i (hi : i < g.nx.length), (aft g bl i).length ≤ 60 := fun i hi => by
    have h1 := sortD_len ((g.nx.getD i []).map (pick bl))
    have h2 := (hG.row i hi).2.1
    rw [z20 hi, List.length_map] at h1
    unfold aft
    rw [z20 hi]; omega
  have c2 := l10Number_new ((List.range bl.length).map (keyA g bl)) (by rw [hkl]; omega) (fun r hr => by
    obtain ⟨i, hi, rfl⟩ := List.mem_map.1 hr
    have := hk60 i (by have := List.mem_range.1 hi; omega)
    unfold maxLen keyA
    simp only [List.length_cons]; omega)
  have e2 : (numF (sameK ((List.range bl.length).map (keyA g bl))) ((List.range bl.length).map (keyA g bl)).length).1 = refL g bl := by
    rw [hkl]
    unfold refL numK
    rw [numF_congr]
    intro i k hki hi
    unfold sameK
    rw [z20 (by rw [hkl]; omega), z20 (by rw [hkl]; omega)]
    simp
  rw [e2, hkl] at c2
  refine z14 z26 Tryz.func226 rfl rfl 29 Tryz.ntmps226 (by simp) ?_
  repeat' ((apply AWP.go ok; rfl; conv => whnf))
  refine z100 (fun i : Nat => ([(1, ints bl), (2, .ptr 0 none 0), (5, .sref 1 0 i), (6, .int i)], [.cells 2 [[lst 2 State.cs g.st, lst 1 encL g.nx]], .cells 1 (((List.range bl.length).take i).map fun i => ownRow (keyA g bl i))])) (fun i => i ≤ bl.length) (fun i => bl.length - i) 0 (by omega) ⟨[0, 1], rfl, by decide, rfl, ⟨⟨rfl, rfl⟩, ⟨rfl, rfl⟩, ⟨rfl, rfl⟩, ⟨rfl, rfl⟩, trivial⟩, ⟨z42 rfl rfl, z41 rfl (z12 fun _ => rfl), trivial⟩⟩ ?_
  intro i hi
  by_cases hil : i < bl.length
  · have hin : i < g.nx.length := by omega
    have hir : i < (List.range bl.length).length := by simpa using hil
    have c1 := l10After_ok g hG bl hb i hin
    have ea : sortD (g.nx[i].map (pick bl)) = aft g bl i := by unfold aft; rw [z20 hin]
    have h60 := hk60 i hin
    rw [ea] at c1
    have ek : keyA g bl i = bl[i] :: aft g bl i := by unfold keyA; rw [z20 hil]
    repeat' (first | ((fail_if_success apply stopAt 4); (fail_if_success apply z139 4); apply AWP.go ok; rfl; conv => whnf) | (apply z30; kernel_rfl; conv => whnf) | (apply And.intro; (first | omega | ((try dsimp only); simp only [List.length_map, List.length_take, List.length_append, List.length_replicate, List.length_cons, List.length_nil]; omega) | exact z16 (fun _ => rfl) | exact ⟨rfl, z18 rfl z23⟩); conv => whnf) | (with_reducible apply z13; omega; intro _; conv => whnf) | (apply z10 <;> intro _ <;> conv => whnf) | (apply z11 (c1); rfl; rfl; conv => whnf))
    all_goals first | (exfalso; omega) | skip
    refine AWP.reach (Gl.Reach.absorb 5 3 i 0 rfl (app_last (app_len (by omega) rfl)) rfl rfl (by simp; omega) rfl (z58 (flat_cons rfl z49) (z12 fun _ => rfl)) rfl) ?_
    conv => whnf
    repeat' (first | (apply AWP.go ok; rfl; conv => whnf) | (apply And.intro; ((unfold inI; omega)); conv => whnf))
    refine z84 (i + 1) [0, 5] (by omega) (by omega) ⟨rfl, by decide, rfl, ⟨⟨rfl, rfl⟩, ⟨rfl, rfl⟩, ⟨rfl, rfl⟩, ⟨rfl, rfl⟩, trivial⟩, ⟨z42 rfl rfl, z41 (z64 (app_fin hir rfl ?_)) (z12 fun _ => rfl), trivial⟩⟩
    simp only [List.getElem_range]
    rw [ek]; rfl
  · obtain rfl : i = bl.length := by omega
    rw [List.take_of_length_le (by simp)]
    repeat' (first | (apply AWP.go ok; rfl; conv => whnf) | (apply And.intro; (omega); conv => whnf) | (with_reducible apply z13; omega; intro _; conv => whnf) | (apply z10 <;> intro _ <;> conv => whnf) | (apply z8 [] [1] [2] (c2); (focus (exact z54 (bor_rows (l := (List.range bl.length).map (keyA g bl)) (by show AObj.cells 1 _ = _; rw [List.map_map]; rfl) rfl rfl (by simp)) z94)); (focus ((repeat' (exact z6)) <;> (fail))); rfl; rfl; rfl; rfl; rfl; (focus ((repeat' (first | exact z17 | apply z15)) <;> ((refine z29 ?_; ((exact z12 (fun _ => rfl))))))); ((refine .inr ⟨rfl, ?_⟩; repeat' (first | exact True.intro | apply And.intro | exact z98 (fun _ => rfl) _))); conv => whnf))
    all_goals first | (exfalso; omega) | skip
    exact ret_newN rfl (z12 fun _ => rfl) rfl rfl rfl

theorem grouped2_ok (c : List Int) (d : List (List Int)) (n : Nat) (hn : n ≤ 1048576) (same : Nat → Nat → Bool) (f : FuncId) (hf : ∀ i k : Nat, k < i → i < n → CallsA Tryz.prog f [.int i, .int k, .pt [ints c], .pt [lst 1 encL d]] [] (.bool (same i k)) []) : CallsA Tryz.prog 230 [.int n, .fn (.func f) [] [.pt [ints c], .pt [lst 1 encL d]]] [] (.sref 0 0 n) [.cells 1 ((numF same n).1.map enI)] := by
  have hlen := z77 same n
  have hfl : ∀ i, Flat (((numF same n).1.take i).map enI ++ List.replicate ((numF same n).1.length - i) [AC.int 0]) := fun i => z58 (z12 fun _ => rfl) (z31 rfl)
  refine z14 z26 Tryz.func230 rfl rfl 46 Tryz.ntmps230 (by simp) ?_
  repeat' (first | (apply AWP.go ok; rfl; conv => whnf) | (apply And.intro; ((dsimp only; omega)); conv => whnf))
  refine z100 (fun i : Nat => ([(1, .fn (.func f) [] [.pt [ints c], .pt [lst 1 encL d]]), (5, .sref 0 0 n), (6, .int ((numF same i).2 : Int)), (12, .int n), (13, .int i)], [.cells 1 (((numF same n).1.take i).map enI ++ List.replicate ((numF same n).1.length - i) [AC.int 0])])) (fun i => i ≤ n) (fun i => n - i) 0 (by omega) ⟨[0], rfl, by decide, rfl, ⟨⟨rfl, rfl⟩, ⟨rfl, rfl⟩, ⟨rfl, rfl⟩, ⟨rfl, rfl⟩, ⟨rfl, rfl⟩, trivial⟩, ⟨z41 (z64 (by rw [hlen]; rfl)) (hfl 0), trivial⟩⟩ ?_
  intro i hi
  by_cases hin : i < n
  · have hc := (numF_lt same i).2
    have hF : i < (((numF same n).1.take i).map enI ++ List.replicate ((numF same n).1.length - i) [AC.int 0]).length := by rw [fill_len (by omega)]; omega
    repeat' (first | (apply AWP.go ok; rfl; conv => whnf) | (apply And.intro; (omega); conv => whnf) | (apply z48; omega; conv => whnf) | (apply z10 <;> intro _ <;> conv => whnf))
    all_goals first | (exfalso; omega) | skip
    refine z100 (fun k : Nat => ([(1, .fn (.func f) [] [.pt [ints c], .pt [lst 1 encL d]]), (5, .sref 0 0 n), (6, .int ((numF same i).2 : Int)), (12, .int n), (13, .int i), (7, .int i), (20, .int i), (21, .int k)], [.cells 1 ((((numF same n).1.take i).map enI ++ List.replicate ((numF same n).1.length - i) [AC.int 0]).set i [AC.int ((numF same i).2 : Int)])])) (fun k => k ≤ i ∧ ∀ j, j < k → same i j = false) (fun k => i - k) 0 ⟨by omega, fun j hj => by omega⟩ ⟨[0], rfl, by decide, rfl, ⟨⟨rfl, rfl⟩, ⟨rfl, rfl⟩, ⟨rfl, rfl⟩, ⟨rfl, rfl⟩, ⟨rfl, rfl⟩, ⟨rfl, rfl⟩, ⟨rfl, rfl⟩, ⟨rfl, rfl⟩, trivial⟩, ⟨z41 rfl (flat_set (hfl i) rfl), trivial⟩⟩ ?_
    rintro k ⟨hk1, hk2⟩
    generalize hFF : (((numF same n).1.take i).map enI ++ List.replicate ((numF same n).1.length - i) [AC.int 0]) = F at hF
    by_cases hki : k < i
    · have hg : (F.set i [AC.int ((numF same i).2 : Int)])[k]? = some (enI ((numF same n).1[k]'(by omega))) := by rw [← hFF]; exact fill_got hki (by omega)
      have hlt := numF_lt' (same := same) (n := n) hi hki
      repeat' (first | (apply AWP.go ok; rfl; conv => whnf) | (apply get_set; (exact Int.toNat_natCast i); (first | exact hF | (rw [List.length_set]; exact hF)); conv => whnf) | (apply z32; (exact Int.toNat_natCast k); exact hg; conv => whnf) | (apply And.intro; (first | omega | (unfold inI; omega)); conv => whnf) | (apply z10 <;> intro _ <;> conv => whnf) | (apply z55 <;> intro _ <;> conv => whnf) | (apply z11 (hf i k hki hin); rfl; rfl; conv => whnf))
      all_goals first | (exfalso; omega) | skip
      · rename_i hs
        obtain ⟨h3, h4⟩ := z109 hin hki (by assumption) hk2
        exact z84 (i + 1) [0] (by omega) (by omega) ⟨rfl, by decide, rfl, ⟨⟨rfl, rfl⟩, ⟨rfl, rfl⟩, ⟨rfl, env_int (by rw [h4])⟩, ⟨rfl, rfl⟩, ⟨rfl, rfl⟩, trivial⟩, ⟨z41 (z64 (by rw [← hFF]; exact fill_set2 (by omega) rfl (by rw [h3]; rfl))) (hfl _), trivial⟩⟩
      · refine z84 (k + 1) [0] ⟨by omega, fun j hj => ?_⟩ (by omega) ⟨rfl, by decide, rfl, ⟨⟨rfl, rfl⟩, ⟨rfl, rfl⟩, ⟨rfl, rfl⟩, ⟨rfl, rfl⟩, ⟨rfl, rfl⟩, ⟨rfl, rfl⟩, ⟨rfl, rfl⟩, ⟨rfl, rfl⟩, trivial⟩, ⟨z41 rfl (flat_set (hFF ▸ hfl i) rfl), trivial⟩⟩
        rcases Nat.lt_or_ge j k with h3 | h3
        · exact hk2 j h3
        · obtain rfl : j = k := by omega
          assumption
    · obtain rfl : k = i := by omega
      obtain ⟨h3, h4⟩ := z116 hin hk2
      repeat' (first | (apply AWP.go ok; rfl; conv => whnf) | (apply get_set; (exact Int.toNat_natCast k); exact hF; conv => whnf) | (apply And.intro; (first | omega | (unfold inI; omega)); conv => whnf) | (apply z10 <;> intro _ <;> conv => whnf))
      all_goals first | (exfalso; omega) | skip
      exact z84 (k + 1) [0] (by omega) (by omega) ⟨rfl, by decide, rfl, ⟨⟨rfl, rfl⟩, ⟨rfl, rfl⟩, ⟨rfl, env_int (by rw [h4]; simp)⟩, ⟨rfl, rfl⟩, ⟨rfl, rfl⟩, trivial⟩, ⟨z41 (z64 (by rw [← hFF, ← fill_set (f := enI) _ _ _ (by omega), h3]; rfl)) (hfl _), trivial⟩⟩
  · repeat' (first | (apply AWP.go ok; rfl; conv => whnf) | (apply And.intro; (omega); conv => whnf) | (apply z48; omega; conv => whnf) | (apply z10 <;> intro _ <;> conv => whnf))
    all_goals first | (exfalso; omega) | skip
    obtain rfl : i = n := by omega
    exact ret_new rfl (z12 fun _ => rfl) rfl (by rw [List.take_of_length_le (by omega), hlen, Nat.sub_self]; simp)

def sameR (bl : List Int) (sets : List (List Int)) (i k : Nat) : Bool := decide (bl.getD i 0 = bl.getD k 0) && decide (sets.getD i [] = sets.getD k [])
theorem refine1_ok (bl : List Int) (sets : List (List Int)) (hs : ∀ s ∈ sets, s.length ≤ maxLen) (i k : Nat) (hk : k < i) (hi : i < bl.length) (hi2 : i < sets.length) : CallsA Tryz.prog 234 [.int i, .int k, .pt [ints bl], .pt [lst 1 encL sets]] [] (.bool (sameR bl sets i k)) [] := by
  have c1 := equalI_ok sets[i] sets[k] (hs _ (List.getElem_mem _)) (hs _ (List.getElem_mem _))
  unfold sameR
  rw [z20 hi, z20 (by omega), z20 hi2, z20 (by omega)]
  have g1 : (sets.map encL)[i]? = some (encL sets[i]) := by rw [List.getElem?_map, List.getElem?_eq_getElem hi2]; rfl
  have g2 : (sets.map encL)[k]? = some (encL sets[k]) := by rw [List.getElem?_map, List.getElem?_eq_getElem (by omega)]; rfl
  have g3 : (bl.map enI)[i]? = some (enI bl[i]) := by rw [List.getElem?_map, List.getElem?_eq_getElem hi]; rfl
  have g4 : (bl.map enI)[k]? = some (enI bl[k]) := by rw [List.getElem?_map, List.getElem?_eq_getElem (by omega)]; rfl
  generalize sets[i] = si at *
  generalize sets[k] = sk at *
  generalize bl[i] = bi at *
  generalize bl[k] = bk at *
  refine z14 z26 Tryz.func234 rfl rfl 27 Tryz.ntmps234 (by simp) ?_
  repeat' (first | (apply AWP.go ok; rfl; conv => whnf) | (apply z30; kernel_rfl; conv => whnf) | (refine z32 (i := k) rfl g4 ?_; conv => whnf) | (refine z32 (i := i) rfl g3 ?_; conv => whnf) | (refine z32 (i := k) rfl g2 ?_; conv => whnf) | (refine z32 (i := i) rfl g1 ?_; conv => whnf) | (apply And.intro; (omega); conv => whnf) | (apply z10 <;> intro _ <;> conv => whnf) | (apply z11 (c1); rfl; rfl; conv => whnf))
  · rename_i h
    exact z24 rfl (by rw [decide_eq_true h]; rfl)
  · rename_i h
    exact z24 rfl (by rw [decide_eq_false h]; rfl)
end Go.Proofs.YtknlmbniicacmaaGreat

namespace Go.Proofs.YtknlmbniicacmaaGreat
open Go.Gl
attribute [local irreducible] z35 AWP z65 z78 z74

theorem get_fill2 {α : Type} {f : α → List AC} {l : List α} {z : List AC} {k n : Nat} {K : List AC → Prop} (hn : n = k) (h : k < l.length) (kk : K z) : ∃ e, ((l.take k).map f ++ List.replicate (l.length - k) z)[n]? = some e ∧ K e :=
  ⟨z, by subst hn; exact fill_get _ _ _ _ h, kk⟩
theorem bor_fnC {objs : Nat → AObj} {π Bn : List Nat} {f : Fn} {caps caps' : List AC} (h : borL objs π Bn caps = caps') : bor objs π Bn (.fn f [] caps) = .fn f [] caps' := by
  simp only [bor, borL, h]
theorem bor_ptrRows {objs : Nat → AObj} {π Bn : List Nat} {o w : Nat} {l : List (List Int)} (ho : objs o = .cells w [[.own 1 (l.map ownRow)]]) (h1 : idx π o = none) (h2 : inB Bn o = true) : bor objs π Bn (.ptr o none 0) = .pt [lst 1 encL l] := by
  simp only [bor, h1, h2, ho]
  show AC.pt [AC.list 1 (l.map ownRow).length (z67 (l.map ownRow))] = _
  rw [rows_unown, List.length_map]; rfl

theorem refine_new (g : Graph) (hG : GB g) (bl : List Int) (hb : bl.length = g.st.length) : CallsA Tryz.prog 181 [.agg g.cs, ints bl] [] (.sref 0 0 g.st.length) [.cells 1 ((refL g bl).map enI)] := by
  have hg1 := hG.1
  have hg2 := hG.2.1
  have hsl : ∀ s ∈ (List.range g.nx.length).map (aft g bl), s.length ≤ maxLen := fun s hs => by
    obtain ⟨i, hi, rfl⟩ := List.mem_map.1 hs
    have hi := List.mem_range.1 hi
    have h1 := sortD_len ((g.nx.getD i []).map (pick bl))
    have h2 := (hG.row i hi).2.1
    rw [z20 hi, List.length_map] at h1
    unfold aft maxLen
    rw [z20 hi]; omega
  have c4 := grouped2_ok bl ((List.range g.nx.length).map (aft g bl)) bl.length (by omega) (sameR bl ((List.range g.nx.length).map (aft g bl))) 234 (fun i k hk hi => refine1_ok bl _ hsl i k hk hi (by simp; omega))
  have e4 : (numF (sameR bl ((List.range g.nx.length).map (aft g bl))) bl.length).1 = refL g bl := by
    unfold refL numK
    rw [hb, numF_congr]
    intro i k hki hi
    unfold sameR keyA
    rw [z20 (l := (List.range g.nx.length).map (aft g bl)) (by simp; omega), z20 (l := (List.range g.nx.length).map (aft g bl)) (by simp; omega)]
    simp only [List.getElem_map, List.getElem_range]
    rw [← Bool.decide_and]
    simp only [decide_eq_decide, List.cons.injEq]
    constructor
    · rintro ⟨h1, h2⟩; exact ⟨h1.symm, h2.symm⟩
    · rintro ⟨h1, h2⟩; exact ⟨h1.symm, h2.symm⟩
  rw [e4] at c4
  refine z14 z26 Tryz.func181 rfl rfl 35 Tryz.ntmps181 (by simp) ?_
  repeat' (first | (apply AWP.go ok; rfl; conv => whnf) | (apply And.intro; ((dsimp only; omega)); conv => whnf))
  refine AWP.reach (Gl.Reach.weaken (es' := List.replicate bl.length [.own 1 []]) 2 rfl (by rw [List.length_replicate, List.length_replicate]; rfl) rows_weaken rfl) ?_
  conv => whnf
  refine z100 (fun i : Nat => ([(3, .ptr 0 none 0), (5, .ptr 1 none 0), (13, lst 1 encL g.nx), (14, .int g.nx.length), (15, .int i)], [.cells 1 [[ints bl]], .cells 1 [[.sref 2 0 bl.length]], .cells 1 (((List.range g.nx.length).take i).map (fun j => ownRow (aft g bl j)) ++ List.replicate ((List.range g.nx.length).length - i) [.own 1 []])])) (fun i => i ≤ g.nx.length) (fun i => g.nx.length - i) 0 (by omega) ⟨[1, 3, 2], rfl, by decide, rfl, ⟨⟨rfl, rfl⟩, ⟨rfl, rfl⟩, ⟨rfl, rfl⟩, ⟨rfl, rfl⟩, ⟨rfl, rfl⟩, trivial⟩, ⟨z42 rfl rfl, z42 rfl rfl, z41 (z64 (by rw [List.length_range, hg2, hb]; rfl)) (z58 (z12 fun _ => rfl) (z31 rfl)), trivial⟩⟩ ?_
  intro i hi
  by_cases hil : i < g.nx.length
  · obtain ⟨r1, r2, r3⟩ := hG.row i hil
    have hir : i < (List.range g.nx.length).length := by simpa using hil
    have hgr : (g.nx.map encL)[i]? = some (encL g.nx[i]) := by rw [List.getElem?_map, List.getElem?_eq_getElem hil]; rfl
    have ea : sortD (g.nx[i].map (pick bl)) = aft g bl i := by unfold aft; rw [z20 hil]
    generalize g.nx[i] = row at *
    have c1 := picked_new bl row (by omega) (by rw [hb]; exact r3) (by omega)
    have c2 := sort_ok (row.map (pick bl)) (by simp; omega) (by simp; omega)
    have c3 := compact_ok ((row.map (pick bl)).mergeSort fun x y => decide (x ≤ y)) (by rw [List.length_mergeSort]; simp; omega) (by rw [List.length_mergeSort]; simp; omega)
    rw [List.length_map] at c2
    rw [List.length_mergeSort, List.length_map] at c3
    have e3 : Lib.compact ((row.map (pick bl)).mergeSort fun x y => decide (x ≤ y)) = aft g bl i := ea
    rw [e3] at c3
    repeat' (first | ((fail_if_success apply stopAt 8); (fail_if_success apply z139 8); apply AWP.go ok; rfl; conv => whnf) | (apply z30; kernel_rfl; conv => whnf) | (refine get_fill2 rfl hir ?_; conv => whnf) | (refine z32 (i := i) rfl hgr ?_; conv => whnf) | (apply And.intro; (omega); conv => whnf) | (apply z10 <;> intro _ <;> conv => whnf) | (apply z8 [] [] [3] (c1); rfl; (focus ((repeat' (exact z6)) <;> (fail))); rfl; rfl; rfl; rfl; rfl; (focus ((repeat' (first | exact z17 | apply z15)) <;> ((refine z29 ?_; ((exact z12 (fun _ => rfl))))))); (exact .inl rfl); conv => whnf) | (apply z8 [3] [] [] (c2); rfl; (focus ((repeat' (first | exact z6 | apply z7)) <;> ((refine z95 rfl ?_; ((exact z12 (fun _ => rfl))))))); rfl; rfl; rfl; rfl; rfl; (focus ((repeat' (first | exact z17 | apply z15)) <;> ((refine z29 ?_; ((exact z12 (fun _ => rfl))))))); (exact .inl rfl); conv => whnf) | (apply z8 [3] [] [] (c3); rfl; (focus ((repeat' (first | exact z6 | apply z7)) <;> ((refine z95 rfl ?_; ((exact z12 (fun _ => rfl))))))); rfl; rfl; rfl; rfl; rfl; (focus ((repeat' (first | exact z17 | apply z15)) <;> ((refine z29 ?_; ((exact z12 (fun _ => rfl))))))); (exact .inl rfl); conv => whnf))
    all_goals first | (exfalso; omega) | skip
    refine AWP.reach (Gl.Reach.absorb 2 3 i 0 rfl (getset rfl (by rw [fill_len (by omega)]; exact hir)) rfl rfl (by simp) rfl (z12 fun _ => rfl) rfl) ?_
    conv => whnf
    repeat' (first | (apply AWP.go ok; rfl; conv => whnf) | (apply And.intro; ((unfold inI; omega)); conv => whnf))
    exact z84 (i + 1) [0, 1, 2] (by omega) (by omega) ⟨rfl, by decide, rfl, ⟨⟨rfl, rfl⟩, ⟨rfl, rfl⟩, ⟨rfl, rfl⟩, ⟨rfl, rfl⟩, ⟨rfl, rfl⟩, trivial⟩, ⟨z42 rfl rfl, z42 rfl rfl, z41 (z64 (fill_set2 hir rfl (by rw [List.getElem_range]; rfl))) (z58 (z12 fun _ => rfl) (z31 rfl)), trivial⟩⟩
  · repeat' (first | ((fail_if_success apply stopAt 9); (fail_if_success apply z139 9); apply AWP.go ok; rfl; conv => whnf) | (apply And.intro; (omega); conv => whnf) | (with_reducible apply z13; omega; intro _; conv => whnf) | (apply z10 <;> intro _ <;> conv => whnf))
    all_goals first | (exfalso; omega) | skip
    have e5 : ((List.range g.nx.length).take i).map (fun j => ownRow (aft g bl j)) ++ List.replicate ((List.range g.nx.length).length - i) [AC.own 1 []] = ((List.range g.nx.length).map (aft g bl)).map ownRow := by
      rw [List.take_of_length_le (by simp; omega), List.map_map, show (List.range g.nx.length).length - i = 0 by simp; omega]
      simp
    rw [e5]
    refine AWP.reach (Gl.Reach.absorb 1 2 0 0 rfl rfl rfl rfl (by simp; omega) rfl (z12 fun _ => rfl) rfl) ?_
    conv => whnf
    repeat' (first | (apply AWP.go ok; rfl; conv => whnf) | (apply z8 [] [0, 1] [3] (c4); (focus (exact z54 rfl (z54 (bor_fnC (z54 rfl (z54 (bor_ptrRows rfl rfl rfl) z94))) z94))); (focus ((repeat' (exact z6)) <;> (fail))); rfl; rfl; rfl; rfl; rfl; (focus ((repeat' (first | exact z17 | apply z15)) <;> ((refine z29 ?_; ((exact z12 (fun _ => rfl))))))); ((refine .inr ⟨rfl, ?_⟩; repeat' (first | exact True.intro | apply And.intro | exact z98 (fun _ => rfl) _))); conv => whnf))
    all_goals skip
    exact ret_newN rfl (z12 fun _ => rfl) hb rfl rfl
end Go.Proofs.YtknlmbniicacmaaGreat

namespace Go.Proofs.YtknlmbniicacmaaGreat
open Go.Gl
attribute [local irreducible] z35 AWP z65 z78 z74

def bisN (g : Graph) (b : List Int) : Nat → List Int
  | 0 => b
  | k + 1 => refL g (bisN g b k)
def bis0 (g : Graph) (l : List Tree) : List Int := (numF (sameL (g.st.map (z63 l))) g.st.length).1
def bisF (g : Graph) (l : List Tree) : List Int := bisN g (bis0 g l) g.st.length
theorem bisN_len (g : Graph) (b : List Int) (hb : b.length = g.st.length) (k : Nat) : (bisN g b k).length = g.st.length := by
  cases k with
  | zero => exact hb
  | succ k => exact refL_len _ _
/-- the k-th partition has at least k blocks -/
def BK (g : Graph) (b : List Int) (k : Nat) : Prop := ∃ κ : Nat → List Int, bisN g b k = (numK κ g.st.length).1 ∧ k ≤ (numK κ g.st.length).2
theorem numK_cnt {K : Type} [DecidableEq K] (κ : Nat → K) (n : Nat) : (numK κ n).2 ≤ n := (numF_lt _ n).2
theorem BK.le {g : Graph} {b : List Int} {k : Nat} (h : BK g b k) : k ≤ g.st.length := by
  obtain ⟨κ, _, h2⟩ := h
  have := numK_cnt κ g.st.length; omega
theorem BK.step {g : Graph} {b : List Int} {k : Nat} (h : BK g b k) (hne : bisN g b (k + 1) ≠ bisN g b k) : BK g b (k + 1) := by
  obtain ⟨κ, h1, h2⟩ := h
  refine ⟨keyA g (bisN g b k), rfl, ?_⟩
  obtain ⟨h3, h4, _⟩ := numK_finer (κ := κ) (κ' := keyA g (bisN g b k)) (n := g.st.length) (fun x y hx hy he => by
    have h5 : (bisN g b k).getD x 0 = (bisN g b k).getD y 0 := (List.cons.inj he).1
    rw [h1] at h5
    rw [z20 (by rw [numK_len]; exact hx), z20 (by rw [numK_len]; exact hy)] at h5
    exact (numK_iff (κ := κ) (n := g.st.length) g.st.length (Nat.le_refl _) x y hx hy).1 h5) g.st.length (Nat.le_refl _)
  rcases Nat.lt_or_ge k (numK (keyA g (bisN g b k)) g.st.length).2 with h | h
  · exact h
  · exfalso
    refine hne ?_
    show (numK (keyA g (bisN g b k)) g.st.length).1 = _
    rw [h1] at h4 ⊢
    rw [h1] at h3 h
    exact h4 (by omega)
theorem bisN_stable {g : Graph} {b : List Int} {k : Nat} (h : bisN g b (k + 1) = bisN g b k) : ∀ j, k ≤ j → bisN g b j = bisN g b k := by
  intro j hj
  induction j with
  | zero => obtain rfl : k = 0 := by omega
            rfl
  | succ j ih =>
    rcases Nat.lt_or_ge j k with h1 | h1
    · obtain rfl : k = j + 1 := by omega
      rfl
    · rw [bisN, ih h1]; exact h
theorem BK.zero (g : Graph) (l : List Tree) : BK g (bis0 g l) 0 := by
  refine ⟨fun i => [(g.st.map (z63 l)).getD i 0], ?_, Nat.zero_le _⟩
  show (numF _ _).1 = (numF _ _).1
  rw [numF_congr]
  intro i k _ _
  unfold sameL
  simp [eq_comm]
theorem BK.end {g : Graph} {l : List Tree} {k : Nat} (h : BK g (bis0 g l) k) (he : refL g (bisN g (bis0 g l) k) = bisN g (bis0 g l) k) : bisN g (bis0 g l) k = bisF g l :=
  (bisN_stable he _ h.le).symm

theorem bisim_new (g : Graph) (hG : GB g) (l : List Tree) (hL : LabelsOk l) : CallsA Tryz.prog 96 [.agg g.cs, lst 3 Tree.cs' l] [] (.sref 0 0 g.st.length) [.cells 1 ((bisF g l).map enI)] := by
  have c1 := labelBlocks_new g hG.vals hG.1.2 l hL
  have hb0 : (bis0 g l).length = g.st.length := z77 _ _
  have hg1 := hG.1
  refine z14 z26 Tryz.func96 rfl rfl 18 Tryz.ntmps96 (by simp) ?_
  repeat' (first | (apply AWP.go ok; rfl; conv => whnf) | (apply z8 [] [] [1] (c1); rfl; (focus ((repeat' (exact z6)) <;> (fail))); rfl; rfl; rfl; rfl; rfl; (focus ((repeat' (first | exact z17 | apply z15)) <;> ((refine z29 ?_; ((exact z12 (fun _ => rfl))))))); (exact .inl rfl); conv => whnf))
  refine z100 (fun k : Nat => ([(2, .ptr 0 none 0), (5, .sref 1 0 g.st.length)], [.cells 2 [[lst 2 State.cs g.st, lst 1 encL g.nx]], .cells 1 ((bisN g (bis0 g l) k).map enI)])) (BK g (bis0 g l)) (fun k => g.st.length + 1 - k) 0 (BK.zero g l) ⟨[0, 1], rfl, by decide, rfl, ⟨⟨rfl, rfl⟩, ⟨rfl, rfl⟩, trivial⟩, ⟨z42 rfl rfl, z41 rfl (z12 fun _ => rfl), trivial⟩⟩ ?_
  intro k hk
  have hkl := bisN_len g _ hb0 k
  have hkle := hk.le
  have c2 := refine_new g hG (bisN g (bis0 g l) k) hkl
  have c3 := equalI_ok (refL g (bisN g (bis0 g l) k)) (bisN g (bis0 g l) k) (by rw [refL_len]; unfold maxLen; omega) (by rw [hkl]; unfold maxLen; omega)
  by_cases he : refL g (bisN g (bis0 g l) k) = bisN g (bis0 g l) k
  · have hend := hk.end he
    repeat' (first | (apply AWP.go ok; rfl; conv => whnf) | (apply z10 <;> intro _ <;> conv => whnf) | (apply z8 [] [1] [2] (c2); (focus (exact z54 rfl (z54 (bor_intsN rfl rfl rfl hkl) z94))); (focus ((repeat' (exact z6)) <;> (fail))); rfl; rfl; rfl; rfl; rfl; (focus ((repeat' (first | exact z17 | apply z15)) <;> ((refine z29 ?_; ((exact z12 (fun _ => rfl))))))); ((refine .inr ⟨rfl, ?_⟩; repeat' (first | exact True.intro | apply And.intro | exact z98 (fun _ => rfl) _))); conv => whnf) | (apply z8 [] [2, 1] [] (c3); (focus (exact z54 (bor_intsN rfl rfl rfl (refL_len _ _)) (z54 (bor_intsN rfl rfl rfl hkl) z94))); (focus ((repeat' (exact z6)) <;> (fail))); rfl; rfl; rfl; rfl; rfl; (focus ((repeat' (exact z17)) <;> (fail))); ((refine .inr ⟨rfl, ?_⟩; repeat' (exact True.intro))); conv => whnf))
    all_goals first | (exfalso; exact absurd he (by assumption)) | skip
    rw [he, hend]
    exact ret_newN rfl (z12 fun _ => rfl) rfl rfl rfl
  · repeat' (first | (apply AWP.go ok; rfl; conv => whnf) | (apply z10 <;> intro _ <;> conv => whnf) | (apply z8 [] [1] [2] (c2); (focus (exact z54 rfl (z54 (bor_intsN rfl rfl rfl hkl) z94))); (focus ((repeat' (exact z6)) <;> (fail))); rfl; rfl; rfl; rfl; rfl; (focus ((repeat' (first | exact z17 | apply z15)) <;> ((refine z29 ?_; ((exact z12 (fun _ => rfl))))))); ((refine .inr ⟨rfl, ?_⟩; repeat' (first | exact True.intro | apply And.intro | exact z98 (fun _ => rfl) _))); conv => whnf) | (apply z8 [] [2, 1] [] (c3); (focus (exact z54 (bor_intsN rfl rfl rfl (refL_len _ _)) (z54 (bor_intsN rfl rfl rfl hkl) z94))); (focus ((repeat' (exact z6)) <;> (fail))); rfl; rfl; rfl; rfl; rfl; (focus ((repeat' (exact z17)) <;> (fail))); ((refine .inr ⟨rfl, ?_⟩; repeat' (exact True.intro))); conv => whnf))
    all_goals first | (exfalso; exact absurd (by assumption) he) | skip
    have hs := hk.step he
    have := hs.le
    exact z84 (k + 1) [0, 2] hs (by omega) ⟨rfl, by decide, rfl, ⟨⟨rfl, rfl⟩, ⟨rfl, rfl⟩, trivial⟩, ⟨z42 rfl rfl, z41 rfl (z12 fun _ => rfl), trivial⟩⟩

/-- the coarsest stable partition -/
noncomputable def bisR (g : Graph) (l : List Tree) : List Int := if glB g l then bisF g l else []
theorem bisF_len (g : Graph) (l : List Tree) : (bisF g l).length = g.st.length := bisN_len g _ (z77 _ _) _
theorem bisR_le (g : Graph) (l : List Tree) : (bisR g l).length ≤ g.st.length := by
  unfold bisR; split
  · rw [bisF_len]; omega
  · simp

theorem implBisimulation_new (g : Graph) (hg : g.mx) (l : List Tree) (hl : Lmx l) : CallsA Tryz.prog 24 [.agg g.cs, lst 3 Tree.cs' l] [] (.tup [.sref 0 0 (bisR g l).length, .bool (glB g l)]) [.cells 1 ((bisR g l).map enI)] := by
  have c1 := graphValid_ok g hg
  have c2 := labelsValid_ok l hl.1 hl.2
  by_cases h : glB g l = true
  · have h1 : z125 g = true := by unfold glB at h; exact (Bool.and_eq_true_iff.1 h).1
    have h2 : labelsB l = true := by unfold glB at h; exact (Bool.and_eq_true_iff.1 h).2
    have hG := (z90 g).1 h1
    have hL := LabelsOk.of h2
    have c3 := bisim_new g hG l hL
    have e : bisR g l = bisF g l := by unfold bisR; rw [if_pos h]
    rw [e, bisF_len, h]
    rw [h1] at c1
    rw [h2] at c2
    refine z14 z26 Tryz.func24 rfl rfl 17 Tryz.ntmps24 (by simp) ?_
    repeat' (first | (apply AWP.go ok; rfl; conv => whnf) | (apply z11 (c1); rfl; rfl; conv => whnf) | (apply z11 (c2); rfl; rfl; conv => whnf) | (apply z8 [] [] [1] (c3); rfl; (focus ((repeat' (exact z6)) <;> (fail))); rfl; rfl; rfl; rfl; rfl; (focus ((repeat' (first | exact z17 | apply z15)) <;> ((refine z29 ?_; ((exact z12 (fun _ => rfl))))))); (exact .inl rfl); conv => whnf))
    exact z96 [1] (by decide) rfl rfl rfl ⟨z41 rfl (z12 fun _ => rfl), trivial⟩
  · have h := (Bool.not_eq_true _).mp h
    have e : bisR g l = [] := by unfold bisR; rw [h]; rfl
    rw [e, h]
    refine CallsA.nils (res := .tup [.nils, .bool false]) ?_ (by simp) (tup_sref nil_sref)
    refine z14 z26 Tryz.func24 rfl rfl 17 Tryz.ntmps24 (by simp) ?_
    repeat' (first | (apply AWP.go ok; rfl; conv => whnf) | (apply z39 <;> intro _ <;> conv => whnf) | (apply z11 (c1); rfl; rfl; conv => whnf) | (apply z11 (c2); rfl; rfl; conv => whnf))
    all_goals first | exact z57 rfl rfl rfl | (exfalso; unfold glB at h; simp_all; done)
theorem implBisimulation_ok (g : Graph) (hg : g.mx) (l : List Tree) (hl : Lmx l) : CallsA Tryz.prog 24 [.agg g.cs, lst 3 Tree.cs' l] [] (.tup [ints (bisR g l), .bool (glB g l)]) [] := by
  have := (implBisimulation_new g hg l hl).keepT (L := (bisR g l).map enI) (z136 _ _) (by simp) rfl
  exact this

theorem specBisimulation_ok (g : Graph) (hg : g.mx) (l : List Tree) (hl : Lmx l) : CallsA Tryz.prog 170 [.agg g.cs, lst 3 Tree.cs' l] [] (.tup [ints (bisR g l), .bool (glB g l)]) [] := by
  have c1 := specLabelBlocks_ok g hg l hl
  by_cases h : glB g l = true
  · have h1 : z125 g = true := by unfold glB at h; exact (Bool.and_eq_true_iff.1 h).1
    have hG := (z90 g).1 h1
    have e : bisR g l = bisF g l := by unfold bisR; rw [if_pos h]
    have e2 : lblB g l = bis0 g l := by unfold lblB; rw [if_pos h]; rfl
    have hb0 : (bis0 g l).length = g.st.length := z77 _ _
    have hg1 := hG.1
    rw [h, e2] at c1
    rw [e, h]
    refine z14 z26 Tryz.func170 rfl rfl 26 Tryz.ntmps170 (by simp) ?_
    repeat' (first | (apply AWP.go ok; rfl; conv => whnf) | (apply z11 (c1); rfl; rfl; conv => whnf))
    refine z100 (fun k : Nat => ([(2, .ptr 0 none 0), (6, ints (bisN g (bis0 g l) k))], [.cells 2 [[lst 2 State.cs g.st, lst 1 encL g.nx]]])) (BK g (bis0 g l)) (fun k => g.st.length + 1 - k) 0 (BK.zero g l) ⟨[0], rfl, by decide, rfl, ⟨⟨rfl, rfl⟩, ⟨rfl, rfl⟩, trivial⟩, ⟨z42 rfl rfl, trivial⟩⟩ ?_
    intro k hk
    have hkl := bisN_len g _ hb0 k
    have hkle := hk.le
    have c2 := keepI (l10Refine_new g hG (bisN g (bis0 g l) k) hkl) (refL_len _ _)
    have c3 := l2Ints_ok (refL g (bisN g (bis0 g l) k)) (bisN g (bis0 g l) k) (by rw [refL_len]; unfold maxLen; omega) (by rw [hkl]; unfold maxLen; omega)
    by_cases he : refL g (bisN g (bis0 g l) k) = bisN g (bis0 g l) k
    · have hend := hk.end he
      repeat' (first | (apply AWP.go ok; rfl; conv => whnf) | (apply z10 <;> intro _ <;> conv => whnf) | (apply z11 (c2); rfl; rfl; conv => whnf) | (apply z11 (c3); rfl; rfl; conv => whnf))
      all_goals first | (exfalso; exact absurd he (by assumption)) | skip
      rw [hend]
      exact z57 rfl rfl rfl
    · repeat' (first | (apply AWP.go ok; rfl; conv => whnf) | (apply z10 <;> intro _ <;> conv => whnf) | (apply z11 (c2); rfl; rfl; conv => whnf) | (apply z11 (c3); rfl; rfl; conv => whnf))
      all_goals first | (exfalso; exact absurd (by assumption) he) | skip
      have hs := hk.step he
      have := hs.le
      exact z84 (k + 1) [0] hs (by omega) ⟨rfl, by decide, rfl, ⟨⟨rfl, rfl⟩, ⟨rfl, rfl⟩, trivial⟩, ⟨z42 rfl rfl, trivial⟩⟩
  · have h := (Bool.not_eq_true _).mp h
    have e : bisR g l = [] := by unfold bisR; rw [h]; rfl
    rw [h] at c1
    rw [e, h]
    refine z14 z26 Tryz.func170 rfl rfl 26 Tryz.ntmps170 (by simp) ?_
    repeat' (first | (apply AWP.go ok; rfl; conv => whnf) | (apply z11 (c1); rfl; rfl; conv => whnf))
    all_goals exact ret_le rfl rfl (tup_le2 sref_le)
end Go.Proofs.YtknlmbniicacmaaGreat

namespace Go.Proofs.YtknlmbniicacmaaGreat
open Go.Gl
attribute [local irreducible] z35 AWP z65 z78 z74

end Go.Proofs.YtknlmbniicacmaaGreat

namespace Go.Proofs.YtknlmbniicacmaaGreat
open Go.Gl
attribute [local irreducible] z35 AWP z65 z78 z74 RetS z97

theorem bisN_eq (g : Graph) (b : List Int) (k : Nat) : bisN g b k = bisM g.nx g.st.length b k := by
  induction k with
  | zero => rfl
  | succ k ih => rw [bisN, bisM, ih]; rfl
def lsT (g : Graph) (l : List Tree) (i : Nat) : Int := z63 l (g.st.getD i ⟨[], []⟩)
theorem sameL_numT (l : List Int) (n : Nat) : numF (sameL l) n = numK (fun k => l.getD k 0) n := by
  unfold numK
  refine numF_congr fun i k _ _ => ?_
  unfold sameL
  rw [decide_eq_decide]
  exact eq_comm
theorem bis0_iff (g : Graph) (l : List Tree) {i j : Nat} (hi : i < g.st.length) (hj : j < g.st.length) : (bis0 g l).getD i 0 = (bis0 g l).getD j 0 ↔ lsT g l i = lsT g l j := by
  unfold bis0 lsT
  rw [sameL_numT, numK_getD _ hi hj, z20 (by simpa using hi), z20 (by simpa using hj), z20 hi, z20 hj, List.getElem_map, List.getElem_map]
theorem bisF_ref (g : Graph) (l : List Tree) : refL g (bisF g l) = bisF g l := by
  have h : ∃ k, k ≤ g.st.length ∧ bisN g (bis0 g l) (k + 1) = bisN g (bis0 g l) k := by
    refine Classical.byContradiction fun hn => ?_
    have hb : ∀ k, k ≤ g.st.length + 1 → BK g (bis0 g l) k := by
      intro k
      induction k with
      | zero => exact fun _ => BK.zero g l
      | succ k ih => exact fun hk => (ih (by omega)).step fun e => hn ⟨k, by omega, e⟩
    have := (hb _ (Nat.le_refl _)).le
    omega
  obtain ⟨k, hk, e⟩ := h
  unfold bisF
  rw [bisN_stable e _ hk]
  exact e
theorem bisF_M (g : Graph) (l : List Tree) : bisF g l = bisM g.nx g.st.length (bis0 g l) g.st.length := bisN_eq _ _ _
theorem bisF_stb (g : Graph) (l : List Tree) : Stb g.nx g.st.length (fun i => (bisF g l).getD i 0) := Stb.of_ref (bisF_ref g l)
theorem bisF_part (g : Graph) (l : List Tree) : Part (bisF g l) g.st.length := by
  refine ⟨?_⟩
  rw [← bisF_ref]
  exact numF_partD _ _
theorem bisF_let (g : Graph) (l : List Tree) {i j : Nat} (hi : i < g.st.length) (hj : j < g.st.length) (e : (bisF g l).getD i 0 = (bisF g l).getD j 0) : lsT g l i = lsT g l j := by
  rw [bisF_M] at e
  exact (bis0_iff g l hi hj).1 (bisM_finer hi hj _ e)

theorem GB.inG {g : Graph} (h : GB g) : ∀ r ∈ g.nx, InN g.st.length r := fun r hr => by
  obtain ⟨i, hi, rfl⟩ := List.mem_iff_getElem.1 hr
  exact (GB.row h i hi).2.2
theorem glB_GB {g : Graph} {l : List Tree} (h : glB g l = true) : GB g ∧ LabelsOk l := by
  unfold glB at h
  obtain ⟨h1, h2⟩ := Bool.and_eq_true_iff.1 h
  exact ⟨(z90 g).1 h1, LabelsOk.of h2⟩

end Go.Proofs.YtknlmbniicacmaaGreat

namespace Go.Proofs.YtknlmbniicacmaaGreat
open Go.Gl
attribute [local irreducible] z35 AWP z65 z78 z74

theorem specBlocksValid_ok (g : Graph) (hg : g.mx) (bl : List Int) (hl : bl.length ≤ 1048576) (hst : g.st.length ≤ 1048576) : CallsA Tryz.prog 91 [.agg g.cs, ints bl] [] (.bool (bvB g bl)) [] := by
  have c1 := z121 g hg
  unfold bvB
  generalize z125 g = q at *
  refine z14 z26 Tryz.func91 rfl rfl 45 Tryz.ntmps91 (by simp) ?_
  cases q
  · repeat' (first | (apply AWP.go ok; rfl; conv => whnf) | (apply z11 (c1); rfl; rfl; conv => whnf))
    all_goals exact z24 rfl rfl
  by_cases hlen : (bl.length : Int) = g.st.length
  · repeat' (first | (apply AWP.go ok; rfl; conv => whnf) | (apply z21 <;> intro _ <;> conv => whnf) | (apply z11 (c1); rfl; rfl; conv => whnf))
    all_goals first | (exfalso; simp_all; done) | skip
    rw [decide_eq_true hlen]
    refine z100 (fun i : Nat => ([(1, ints bl), (5, .int (mst bl i)), (6, .int i)], [])) (fun i => i ≤ bl.length ∧ ∀ j (h : j < bl.length), j < i → 0 ≤ bl[j] ∧ bl[j] ≤ mst bl j) (fun i => bl.length - i) 0 ⟨by omega, fun j _ h => by omega⟩ ⟨[], rfl, by decide, rfl, ⟨⟨rfl, rfl⟩, ⟨rfl, rfl⟩, ⟨rfl, rfl⟩, trivial⟩, trivial⟩ ?_
    rintro i ⟨hi1, hi2⟩
    have hm := mst_range bl i
    by_cases hil : i < bl.length
    · have em : mst bl (i + 1) = if bl[i] = mst bl i then mst bl i + 1 else mst bl i := by rw [mst, z20 hil]
      have hgi : (bl.map enI)[i]? = some (enI bl[i]) := by rw [List.getElem?_map, List.getElem?_eq_getElem hil]; rfl
      by_cases hb : 0 ≤ bl[i] ∧ bl[i] ≤ mst bl i
      · have hok : ∀ j (h : j < bl.length), j < i + 1 → 0 ≤ bl[j] ∧ bl[j] ≤ mst bl j := fun j hj hji => by
          rcases Nat.lt_or_ge j i with h3 | h3
          · exact hi2 j hj h3
          · obtain rfl : j = i := by omega
            exact hb
        by_cases he : bl[i] = mst bl i
        · rw [if_pos he] at em
          repeat' (first | (apply AWP.go ok; rfl; conv => whnf) | (refine z32 (i := i) rfl hgi ?_; conv => whnf) | (apply And.intro; (first | omega | (unfold inI; omega)); conv => whnf) | (apply z10 <;> intro _ <;> conv => whnf))
          all_goals first | (exfalso; omega) | skip
          exact z84 (i + 1) [] ⟨by omega, hok⟩ (by omega) ⟨rfl, by decide, rfl, ⟨⟨rfl, rfl⟩, ⟨rfl, env_int em.symm⟩, ⟨rfl, rfl⟩, trivial⟩, trivial⟩
        · rw [if_neg he] at em
          repeat' (first | (apply AWP.go ok; rfl; conv => whnf) | (refine z32 (i := i) rfl hgi ?_; conv => whnf) | (apply And.intro; (first | omega | (unfold inI; omega)); conv => whnf) | (apply z10 <;> intro _ <;> conv => whnf))
          all_goals first | (exfalso; omega) | skip
          exact z84 (i + 1) [] ⟨by omega, hok⟩ (by omega) ⟨rfl, by decide, rfl, ⟨⟨rfl, rfl⟩, ⟨rfl, env_int em.symm⟩, ⟨rfl, rfl⟩, trivial⟩, trivial⟩
      · have hno : ¬ PartP bl := fun h => hb (h i hil)
        repeat' (first | (apply AWP.go ok; rfl; conv => whnf) | (refine z32 (i := i) rfl hgi ?_; conv => whnf) | (apply And.intro; (omega); conv => whnf) | (apply z10 <;> intro _ <;> conv => whnf))
        all_goals first | (exfalso; omega) | skip
        all_goals exact z24 rfl (by rw [decide_eq_false hno]; rfl)
    · have hp : PartP bl := fun j hj => hi2 j hj (by omega)
      repeat' (first | (apply AWP.go ok; rfl; conv => whnf) | (apply And.intro; (omega); conv => whnf) | (with_reducible apply z13; omega; intro _; conv => whnf) | (apply z10 <;> intro _ <;> conv => whnf))
      all_goals first | (exfalso; omega) | skip
      exact z24 rfl (by rw [decide_eq_true hp]; rfl)
  · rw [decide_eq_false hlen, Bool.and_false]
    repeat' (first | (apply AWP.go ok; rfl; conv => whnf) | (apply z21 <;> intro _ <;> conv => whnf) | (apply z11 (c1); rfl; rfl; conv => whnf))
    all_goals first | (exfalso; simp_all; done) | skip
    all_goals exact z24 rfl rfl

/-- states of one block have one letter -/
def LetP (bl ls : List Int) : Prop := ∀ i k : Nat, k < i → i < bl.length → bl.getD i 0 = bl.getD k 0 → ls.getD i 0 = ls.getD k 0
noncomputable instance {bl ls : List Int} : Decidable (LetP bl ls) := Classical.propDecidable _
end Go.Proofs.YtknlmbniicacmaaGreat

namespace Go.Proofs.YtknlmbniicacmaaGreat
open Go.Gl
attribute [local irreducible] z35 AWP z65 z78 z74 RetS z97

theorem Part.P {bl : List Int} (h : Part bl bl.length) : PartP bl := fun i hi => by
  have := h.rng i hi
  rw [z20 hi] at this
  rw [mst_eq]; exact this
theorem bisF_bv {g : Graph} {l : List Tree} (hG : GB g) : bvB g (bisF g l) = true := by
  refine bvB_iff.2 ⟨hG, ?_, bisF_len g l⟩
  have := bisF_part g l
  rw [← bisF_len g l] at this
  exact Part.P this

/-- the quotient of a valid graph is valid -/
theorem quoG_st {g : Graph} {bl : List Int} {b : Nat} (hb : b < (fstB bl g.st.length).length) : (quoG g bl).st.getD b ⟨[], []⟩ = g.st.getD ((fstB bl g.st.length).getD b 0) ⟨[], []⟩ := by
  show (quoS g bl g.st.length).getD b _ = _
  unfold quoS
  rw [z20 (by simpa using hb), List.getElem_map, z20 hb]
theorem lsT_map {g : Graph} {l : List Tree} {i : Nat} (h : i < g.st.length) : (g.st.map (z63 l)).getD i 0 = lsT g l i := by
  unfold lsT; rw [z20 (by simpa using h), List.getElem_map, z20 h]
theorem visits_pos {l : List Int} (h : 1 ≤ l.length) : 1 ≤ (visits [] l).length := by
  have hm : l[0] ∈ visits [] l := visits_mem.2 (.inr (List.getElem_mem h))
  exact List.length_pos_of_mem hm
theorem quoG_GB {g : Graph} (hG : GB g) {bl : List Int} (hp : Part bl g.st.length) : GB (quoG g bl) := by
  have hin := quoN_in hG.inG hp
  have hl := fstB_len bl g.st.length
  have h60 := hG.1
  have e1 : (quoG g bl).st.length = (fstB bl g.st.length).length := quoS_len _ _ _
  have e2 : (quoG g bl).nx.length = (fstB bl g.st.length).length := quoN_len _ _ _
  have hpos : 0 < (fstB bl g.st.length).length := by
    have := hp.lt (show 0 < g.st.length by omega)
    omega
  refine ⟨⟨by omega, by omega⟩, by omega, fun b hb h1 h2 => ?_⟩
  have hbm : b < (fstB bl g.st.length).length := by omega
  have hf := hp.fst_lt hbm
  have e3 : (quoG g bl).nx[b] = visits [] ((g.nx.getD ((fstB bl g.st.length).getD b 0) []).map fun p : Int => bl.getD p.toNat 0) := by
    have e : (quoG g bl).nx.getD b [] = visits [] ((g.nx.getD ((fstB bl g.st.length).getD b 0) []).map fun p : Int => bl.getD p.toNat 0) := by
      show (quoN g.nx g.st.length bl).getD b [] = _
      unfold quoN
      rw [z20 (by simpa using hbm), List.getElem_map, z20 hbm]
    rw [← e, z20 h1]
  have hrow := GB.row hG ((fstB bl g.st.length).getD b 0) (by have := hG.2.1; omega)
  rw [← z20 (d := [])] at hrow
  have hnd : (quoG g bl).nx[b].Nodup := by rw [e3]; exact visits_nodup List.nodup_nil
  have hinb := hin _ (List.getElem_mem h1)
  have hle := pigeon _ _ hnd hinb
  refine ⟨by rw [e3]; exact visits_pos (by simp; exact hrow.1), by rw [e1]; exact hle, ?_, fun i hi hi2 => ⟨?_, ?_⟩⟩
  · have e4 : (quoG g bl).st[b] = g.st.getD ((fstB bl g.st.length).getD b 0) ⟨[], []⟩ := by rw [← quoG_st hbm, z20 h2]
    rw [e4, z20 hf]
    exact valsB_of (hG.vals _ (List.getElem_mem hf))
  · have := hinb _ (List.getElem_mem hi)
    have e5 : ((quoG g bl).st.length : Int) = ((fstB bl g.st.length).length : Int) := by omega
    exact ⟨this.1, by have h6 := this.2; rw [e5]; exact Int.le_sub_one_of_lt h6⟩
  · intro hm
    obtain ⟨j, hj, e⟩ := List.mem_iff_getElem.1 hm
    rw [List.getElem_take] at e
    have hj' : j < i := by simp at hj; omega
    have := List.pairwise_iff_getElem.1 hnd j i (by omega) hi hj'
    exact this e
theorem quoG_d {g : Graph} (hg : g.d) (hG : GB g) {bl : List Int} (hp : Part bl g.st.length) : (quoG g bl).d := by
  have hQ := quoG_GB hG hp
  have h1 := hQ.1.2
  have h2 := hQ.2.1
  refine ⟨by omega, by omega, fun s hs => ?_, fun r hr => ?_⟩
  · have hs : s ∈ quoS g bl g.st.length := hs
    unfold quoS at hs
    obtain ⟨i, hi, rfl⟩ := List.mem_map.1 hs
    have := fstB_in hi
    rw [z20 this]
    exact hg.el _ (List.getElem_mem _)
  · obtain ⟨i, hi, rfl⟩ := List.mem_iff_getElem.1 hr
    have := (GB.row hQ i hi).2.1
    omega

theorem drawBisimulation_ok (bs : List Int) (hb : CodeOk bs) : ∃ (g : Graph) (l : List Tree), (g.d ∧ Lab.d l) ∧ CallsA Tryz.prog 23 [lst 1 enU bs] [] (.tup [.agg g.cs, lst 3 Tree.cs' l]) [] := by
  obtain ⟨g, l, h, c⟩ := drawLabelBlocks_ok bs hb
  refine ⟨g, l, h, ?_⟩
  refine z19 z26 Tryz.func23 rfl rfl 8 Tryz.ntmps23 (by simp) ?_
  repeat' ((first | (apply AWP.go ok; rfl) | (apply z11 (c); rfl; rfl)) <;> conv => whnf)
  all_goals (refine RetS.lay [] [] rfl rfl rfl ?_; refine RetS.done ?_ ?_ <;> (repeat' (first | exact LocLe.refl _ | exact F2.nil)))
end Go.Proofs.YtknlmbniicacmaaGreat

