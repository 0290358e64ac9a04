/- A part of the proofs over this program: T92, T93, T94, T94W, T95, T49A, T33P, T34, T35, Shelf, T43. -/
import Derived.Test.YtknlmbniicacmaaGreatG0
import Derived.Test.YtknlmbniicacmaaGreatG1
import Derived.Test.YtknlmbniicacmaaGreatG2
import Derived.Test.YtknlmbniicacmaaGreatG3
import Derived.Test.YtknlmbniicacmaaGreatP0
import Derived.Test.YtknlmbniicacmaaGreatP1
import Derived.Test.YtknlmbniicacmaaGreatP2
import Derived.Shelf.Sort.Plain
import Derived.Shelf.Slices.CompactI
set_option linter.all false
namespace Go.Proofs.YtknlmbniicacmaaGreat
open Go.Gl
attribute [local irreducible] z35 AWP z65 z78 z74 RetS z97

noncomputable def buildB (s : Sys) : Option Graph := if sysB s = true then grow s 61 [⟨List.replicate s.ps.length 0, s.init⟩] [] 0 else none
theorem zeroG_le {q : Bool} : LocLe (.tup [.agg [.nils, .nils], .bool q]) (.tup [.agg (⟨[], []⟩ : Graph).cs, .bool q]) := tup_le (.cons (z75 (.cons z61 (.cons z61 .nil))) (.cons (LocLe.refl _) .nil))
theorem bor_stt {objs : Nat → AObj} {π Bn : List Nat} {o : Nat} {l : List State} (ho : objs o = .cells 2 (l.map State.cs)) (h1 : idx π o = none) (h2 : inB Bn o = true) : bor objs π Bn (.sref o 0 l.length) = lst 2 State.cs l :=
  bor_list ho h1 h2 (by simp) (z36 (fun _ => rfl) _)

set_option maxHeartbeats 6400000 in
theorem buildGraph_ok (s : Sys) (hsm : s.sm) : CallsA Tryz.prog 168 [.agg s.cs] [] (.tup [.agg ((buildB s).getD ⟨[], []⟩).cs, .bool (buildB s).isSome]) [] := by
  have c0 := initState_ok s hsm
  by_cases hv : sysB s = true
  · have hs := Sys.ok_of hv
    have hn3 := hs.n3
    have eb : buildB s = grow s 61 [⟨List.replicate s.ps.length 0, s.init⟩] [] 0 := by unfold buildB; rw [if_pos hv]
    rw [if_pos hv, hv] at c0
    have hI0 : GInv s [⟨List.replicate s.ps.length 0, s.init⟩] [] 0 := ⟨by simp, by simp, by simp, rfl, fun t ht => by
      rw [List.mem_singleton.1 ht]
      exact ⟨by simp, hs.init⟩, by simp⟩
    rw [eb]
    generalize (⟨List.replicate s.ps.length 0, s.init⟩ : State) = st1 at *
    generalize hR : grow s 61 [st1] [] 0 = R at *
    refine z19 z26 Tryz.func168 rfl rfl 96 Tryz.ntmps168 (by simp) ?_
    repeat' ((first | (apply AWP.go ok; rfl) | (apply z11 (c0); rfl; rfl)) <;> conv => whnf)
    all_goals skip
    refine AWP.reach (Reach.empty 1 rfl) ?_
    refine loopR (fun x : Nat × List State × List (List Int) => ([(1, .ptr 0 none 0), (2, .ptr 1 none 0), (6, .ptr 2 none 0), (7, .int x.1)], [.cells 2 [s.cs], .cells 2 [[.nils, .nils]], .cells 2 [[.sref 3 0 x.2.1.length, .sref 4 0 x.2.2.length]], .cells 2 (x.2.1.map State.cs), .cells 1 (x.2.2.map encL)])) (fun x => GInv s x.2.1 x.2.2 x.1 ∧ grow s (61 - x.1) x.2.1 x.2.2 x.1 = R) (fun x => 61 - x.1) (0, [st1], []) ⟨hI0, hR⟩ (by refine SealW.reach [0, 1, 4, 3, 5] [] rfl rfl rfl rfl ?_ ?_ <;> (repeat' (first | exact LocLe.refl _ | exact z99 | exact F2.nil | apply F2.cons | apply ObjLe.box | ((refine z33 rfl ?_ ?_); (focus ((repeat' (exact z49)); done))) | exact True.intro | apply And.intro))) ?_
    rintro ⟨i, S, G⟩ ⟨hI, hg⟩
    simp only at hI hg
    have hS60 := hI.n
    have hGi := hI.g
    have hile := hI.le
    by_cases hil : i < S.length
    · obtain ⟨st0, hst⟩ : ∃ st0, S[i]? = some st0 := ⟨S[i], List.getElem?_eq_getElem hil⟩
      have h0 := hI.st st0 (List.mem_of_getElem? hst)
      rw [show 61 - i = (60 - i) + 1 by omega, grow, hst] at hg
      dsimp only at hg
      have cS := l3Steps_ok s hs st0 h0
      have hLl := stepL_len hs (st := st0)
      have hLo : ∀ x ∈ stepL s st0, x.ok s := fun x hx => stepL_ok x hx
      have gS : (S.map State.cs)[i]? = some (State.cs st0) := by rw [List.getElem?_map, hst]; rfl
      generalize stepL s st0 = LST at *
      generalize hRIN : inn s st0 LST S [] = RIN at *
      repeat' ((first | (apply AWP.go ok; rfl) | (apply z30; kernel_rfl) | (refine z32 (i := i) rfl gS ?_) | (apply And.intro; omega) | ((apply z10) <;> intro _) | (apply z11 (cS); rfl; rfl)) <;> conv => whnf)
      all_goals first | (exfalso; dsimp only at *; omega) | skip
      refine loopR (fun x : Nat × List State × List Int => ([(1, .ptr 0 none 0), (2, .ptr 1 none 0), (6, .ptr 2 none 0), (7, .int i), (8, lst 4 Stp.cs LST), (9, .sref 5 0 x.2.2.length), (10, .int x.1)], [.cells 2 [s.cs], .cells 2 [[.nils, .nils]], .cells 2 [[.sref 3 0 x.2.1.length, .sref 4 0 G.length]], .cells 2 (x.2.1.map State.cs), .cells 1 (G.map encL), .cells 1 (x.2.2.map enI)])) (fun x => x.1 ≤ LST.length ∧ x.2.1.length ≤ 60 ∧ (∀ t ∈ x.2.1, t.ok s) ∧ x.2.1[i]? = some st0 ∧ x.2.2.length ≤ x.1 ∧ inn s st0 (LST.drop x.1) x.2.1 x.2.2 = RIN) (fun x => LST.length - x.1) (0, S, []) ⟨by simp, hS60, hI.st, hst, by simp, hRIN⟩ (by refine SealW.reach [0, 1, 2, 3, 4, 5] [] rfl rfl rfl rfl ?_ ?_ <;> (repeat' (first | exact LocLe.refl _ | exact F2.nil | apply F2.cons | exact z34 _ | apply ObjLe.box | ((refine z33 rfl ?_ ?_); (focus ((repeat' (first | exact z49 | exact z12 (fun _ => rfl))); done))) | exact True.intro | apply And.intro))) ?_
      rintro ⟨k, S', N⟩ ⟨hk, hS', hSo, hSi, hN, hin⟩
      simp only at hk hS' hSo hSi hN hin
      by_cases hkl : k < LST.length
      · rw [List.drop_eq_getElem_cons hkl, inn] at hin
        have hx := hLo LST[k] (List.getElem_mem _)
        have g1 : (LST.map Stp.cs)[k]? = some (Stp.cs LST[k]) := by rw [List.getElem?_map, List.getElem?_eq_getElem hkl]; rfl
        have c83 := l3Apply_ok s hs st0 h0 LST[k] hx
        have hto := applyS_ok hs h0 hx
        have g0 : (S'.map State.cs)[i]? = some (State.cs st0) := by rw [List.getElem?_map, hSi]; rfl
        have hiS : i < S'.length := (List.getElem?_eq_some_iff.1 hSi).1
        generalize applyS s st0 LST[k] = to at *
        have c84 := l4Find_ok S' to (by omega) (fun t ht => (hSo t ht).sm hs) (hto.sm hs)
        have hfr := findZ_range to S' 0 (by omega)
        generalize findZ to S' 0 = n at *
        generalize LST[k] = x at *
        have cN := fun v => l4In_ok N (by unfold maxLen; omega) v
        by_cases hn : n < 0
        · rw [if_pos hn] at hin
          by_cases h60 : 60 ≤ (S'.length : Int)
          · rw [if_pos h60] at hin
            subst hin
            dsimp only at hg
            subst hg
            repeat' ((first | (apply AWP.go ok; rfl) | (apply z30; kernel_rfl) | (refine z32 (i := i) rfl g0 ?_) | (refine z32 (i := k) rfl g1 ?_) | (apply And.intro; first | omega | (dsimp only; omega) | ((try dsimp only); simp only [List.length_map, List.length_take, List.length_append, List.length_replicate, List.length_cons, List.length_nil]; omega) | exact ⟨rfl, z18 rfl z23⟩) | ((apply z10) <;> intro _) | (apply z11 (c83); rfl; rfl) | (((apply z8 [] [3] [] (c84); (focus (exact z54 (bor_stt rfl rfl rfl) (z54 rfl z94))); (focus ((repeat' exact z6) <;> fail)))); rfl; rfl; rfl; rfl; rfl; (focus ((repeat' exact z17) <;> fail)); ((refine .inr ⟨rfl, ?_⟩; repeat' exact True.intro)))) <;> conv => whnf)
            all_goals first | (exfalso; omega) | (exfalso; dsimp only at *; omega) | skip
            all_goals refine RetS.lay [] [] rfl rfl rfl ?_
            all_goals exact RetS.done zeroG_le .nil
          · rw [if_neg h60] at hin
            have cM := cN S'.length
            by_cases hm : (S'.length : Int) ∈ N
            · rw [if_pos hm] at hin
              rw [decide_eq_true hm] at cM
              repeat' ((first | (apply AWP.go ok; rfl) | (apply z30; kernel_rfl) | (refine z32 (i := i) rfl g0 ?_) | (refine z32 (i := k) rfl g1 ?_) | (apply And.intro; first | omega | (unfold inI; omega) | (dsimp only; omega) | ((try dsimp only); simp only [List.length_map, List.length_take, List.length_append, List.length_replicate, List.length_cons, List.length_nil]; omega) | exact ⟨rfl, z18 rfl z23⟩) | ((apply z10) <;> intro _) | (apply z11 (c83); rfl; rfl) | ((first | (apply z8 [] [3] [] (c84); (focus (exact z54 (bor_stt rfl rfl rfl) (z54 rfl z94))); (focus ((repeat' exact z6) <;> fail))) | (apply z8 [] [5] [] (cM); (focus ((repeat' first | exact z94 | apply z54) <;> first | exact z129 rfl rfl rfl | rfl)); (focus ((repeat' exact z6) <;> fail)))); rfl; rfl; rfl; rfl; rfl; (focus ((repeat' exact z17) <;> fail)); ((refine .inr ⟨rfl, ?_⟩; repeat' exact True.intro)))) <;> conv => whnf)
              all_goals first | (exfalso; omega) | (exfalso; contradiction) | skip
              all_goals refine z79 (k + 1, S' ++ [to], N) ⟨by omega, by simp; omega, fun t ht => by rcases List.mem_append.1 ht with h | h; exact hSo t h; rw [List.mem_singleton.1 h]; exact hto, by rw [← hSi]; exact List.getElem?_append_left hiS, by show N.length ≤ k + 1; omega, hin⟩ (by show LST.length - (k + 1) < LST.length - k; omega) (by refine SealW.reach [0, 1, 2, 8, 4, 5] [] rfl rfl rfl rfl ?_ ?_ <;> (repeat' (first | exact LocLe.refl _ | exact F2.nil | apply F2.cons | exact z34 _ | (refine z120 ?_; ((simp; done))) | apply ObjLe.box | ((first | refine z56 rfl ?_ ?_ | refine z33 rfl ?_ ?_); (focus ((repeat' (first | exact z12 (fun _ => rfl) | apply z37)); done))) | (refine z114 ?_ ?_; (focus (omega))) | exact True.intro | apply And.intro)))
            · rw [if_neg hm] at hin
              rw [decide_eq_false hm] at cM
              repeat' ((first | (apply AWP.go ok; rfl) | (apply z30; kernel_rfl) | (refine z32 (i := i) rfl g0 ?_) | (refine z32 (i := k) rfl g1 ?_) | (apply And.intro; first | omega | (unfold inI; omega) | (dsimp only; omega) | ((try dsimp only); simp only [List.length_map, List.length_take, List.length_append, List.length_replicate, List.length_cons, List.length_nil]; omega) | exact ⟨rfl, z18 rfl z23⟩) | ((apply z10) <;> intro _) | (apply z11 (c83); rfl; rfl) | ((first | (apply z8 [] [3] [] (c84); (focus (exact z54 (bor_stt rfl rfl rfl) (z54 rfl z94))); (focus ((repeat' exact z6) <;> fail))) | (apply z8 [] [5] [] (cM); (focus ((repeat' first | exact z94 | apply z54) <;> first | exact z129 rfl rfl rfl | rfl)); (focus ((repeat' exact z6) <;> fail)))); rfl; rfl; rfl; rfl; rfl; (focus ((repeat' exact z17) <;> fail)); ((refine .inr ⟨rfl, ?_⟩; repeat' exact True.intro)))) <;> conv => whnf)
              all_goals first | (exfalso; omega) | (exfalso; contradiction) | skip
              all_goals refine z79 (k + 1, S' ++ [to], N ++ [(S'.length : Int)]) ⟨by omega, by simp; omega, fun t ht => by rcases List.mem_append.1 ht with h | h; exact hSo t h; rw [List.mem_singleton.1 h]; exact hto, by rw [← hSi]; exact List.getElem?_append_left hiS, by simp; omega, hin⟩ (by show LST.length - (k + 1) < LST.length - k; omega) (by refine SealW.reach [0, 1, 2, 8, 4, 10] [] rfl rfl rfl rfl ?_ ?_ <;> (repeat' (first | exact LocLe.refl _ | exact F2.nil | apply F2.cons | exact z34 _ | (refine z120 ?_; ((simp; done))) | apply ObjLe.box | ((first | refine z56 rfl ?_ ?_ | refine z33 rfl ?_ ?_); (focus ((repeat' (first | exact z12 (fun _ => rfl) | apply z37)); done))) | (refine z114 ?_ ?_; (focus (omega))) | exact True.intro | apply And.intro)))
        · rw [if_neg hn] at hin
          by_cases h60 : 60 ≤ n
          · rw [if_pos h60] at hin
            subst hin
            dsimp only at hg
            subst hg
            repeat' ((first | (apply AWP.go ok; rfl) | (apply z30; kernel_rfl) | (refine z32 (i := i) rfl g0 ?_) | (refine z32 (i := k) rfl g1 ?_) | (apply And.intro; omega) | ((apply z10) <;> intro _) | (apply z11 (c83); rfl; rfl) | (((apply z8 [] [3] [] (c84); (focus (exact z54 (bor_stt rfl rfl rfl) (z54 rfl z94))); (focus ((repeat' exact z6) <;> fail)))); rfl; rfl; rfl; rfl; rfl; (focus ((repeat' exact z17) <;> fail)); ((refine .inr ⟨rfl, ?_⟩; repeat' exact True.intro)))) <;> conv => whnf)
            all_goals (exfalso; omega)
            all_goals refine RetS.lay [] [] rfl rfl rfl ?_
            all_goals exact RetS.done zeroG_le .nil
          · rw [if_neg h60] at hin
            have cM := cN n
            by_cases hm : n ∈ N
            · rw [if_pos hm] at hin
              rw [decide_eq_true hm] at cM
              repeat' ((first | (apply AWP.go ok; rfl) | (apply z30; kernel_rfl) | (refine z32 (i := i) rfl g0 ?_) | (refine z32 (i := k) rfl g1 ?_) | (apply And.intro; first | omega | (unfold inI; omega) | (dsimp only; omega)) | ((apply z10) <;> intro _) | (apply z11 (c83); rfl; rfl) | ((first | (apply z8 [] [3] [] (c84); (focus (exact z54 (bor_stt rfl rfl rfl) (z54 rfl z94))); (focus ((repeat' exact z6) <;> fail))) | (apply z8 [] [5] [] (cM); (focus ((repeat' first | exact z94 | apply z54) <;> first | exact z129 rfl rfl rfl | rfl)); (focus ((repeat' exact z6) <;> fail)))); rfl; rfl; rfl; rfl; rfl; (focus ((repeat' exact z17) <;> fail)); ((refine .inr ⟨rfl, ?_⟩; repeat' exact True.intro)))) <;> conv => whnf)
              all_goals first | (exfalso; omega) | skip
              all_goals refine z79 (k + 1, S', N) ⟨by omega, hS', hSo, hSi, by show N.length ≤ k + 1; omega, hin⟩ (by show LST.length - (k + 1) < LST.length - k; omega) (by refine SealW.reach [0, 1, 2, 3, 4, 5] [] rfl rfl rfl rfl ?_ ?_ <;> (repeat' (first | exact LocLe.refl _ | exact F2.nil | apply F2.cons | exact z34 _ | apply ObjLe.box | ((refine z33 rfl ?_ ?_); (focus ((repeat' ((exact z12 (fun _ => rfl)))); done))) | exact True.intro | apply And.intro)))
            · rw [if_neg hm] at hin
              rw [decide_eq_false hm] at cM
              repeat' ((first | (apply AWP.go ok; rfl) | (apply z30; kernel_rfl) | (refine z32 (i := i) rfl g0 ?_) | (refine z32 (i := k) rfl g1 ?_) | (apply And.intro; first | omega | (unfold inI; omega) | (dsimp only; omega) | ((try dsimp only); simp only [List.length_map, List.length_take, List.length_append, List.length_replicate, List.length_cons, List.length_nil]; omega) | exact ⟨rfl, z18 rfl z23⟩) | ((apply z10) <;> intro _) | (apply z11 (c83); rfl; rfl) | ((first | (apply z8 [] [3] [] (c84); (focus (exact z54 (bor_stt rfl rfl rfl) (z54 rfl z94))); (focus ((repeat' exact z6) <;> fail))) | (apply z8 [] [5] [] (cM); (focus ((repeat' first | exact z94 | apply z54) <;> first | exact z129 rfl rfl rfl | rfl)); (focus ((repeat' exact z6) <;> fail)))); rfl; rfl; rfl; rfl; rfl; (focus ((repeat' exact z17) <;> fail)); ((refine .inr ⟨rfl, ?_⟩; repeat' exact True.intro)))) <;> conv => whnf)
              all_goals first | (exfalso; omega) | skip
              all_goals refine z79 (k + 1, S', N ++ [n]) ⟨by omega, hS', hSo, hSi, by simp; omega, hin⟩ (by show LST.length - (k + 1) < LST.length - k; omega) (by refine SealW.reach [0, 1, 2, 3, 4, 8] [] rfl rfl rfl rfl ?_ ?_ <;> (repeat' (first | exact LocLe.refl _ | exact F2.nil | apply F2.cons | exact z34 _ | (refine z120 ?_; ((simp; done))) | apply ObjLe.box | ((first | refine z56 rfl ?_ ?_ | refine z33 rfl ?_ ?_); (focus ((repeat' (first | exact z12 (fun _ => rfl) | apply z37)); done))) | (refine z114 ?_ ?_; (focus (omega))) | exact True.intro | apply And.intro)))
      · rw [List.drop_eq_nil_of_le (by omega), inn] at hin
        subst hin
        dsimp only at hg
        have hiS : i < S'.length := (List.getElem?_eq_some_iff.1 hSi).1
        have hnext : GInv s S' (G ++ [rowOf LST N i]) (i + 1) := ⟨by omega, hS', by omega, by simp [hGi], hSo, fun r hr => by
          rcases List.mem_append.1 hr with h | h
          · exact hI.row r h
          · rw [List.mem_singleton.1 h]
            unfold rowOf
            split <;> (try simp) <;> omega⟩
        rw [show 60 - i = 61 - (i + 1) by omega] at hg
        by_cases hz : LST = []
        · have er : rowOf LST N i = N ++ [(i : Int)] := by unfold rowOf; rw [if_pos hz]
          have hz0 : LST.length = 0 := by rw [hz]; rfl
          rw [er] at hg hnext
          repeat' ((first | (apply AWP.go ok; rfl) | (apply And.intro; first | omega | (unfold inI; omega) | (dsimp only; omega) | ((try dsimp only); simp only [List.length_map, List.length_take, List.length_append, List.length_replicate, List.length_cons, List.length_nil]; omega) | exact ⟨rfl, z18 rfl z23⟩) | ((first | (with_reducible apply z13; omega) | (apply z13; omega)); intro _) | ((apply z10) <;> intro _)) <;> conv => whnf)
          all_goals first | (exfalso; omega) | skip
          all_goals refine z79 (i + 1, S', G ++ [N ++ [(i : Int)]]) ⟨hnext, hg⟩ (by show 61 - (i + 1) < 61 - i; omega) (by refine SealW.reach [0, 1, 2, 3, 9] [7] rfl rfl rfl rfl ?_ ?_ <;> (repeat' (first | exact LocLe.refl _ | exact F2.nil | apply F2.cons | exact z34 _ | (refine z120 ?_; ((simp; done))) | apply ObjLe.box | ((first | refine z56 rfl ?_ ?_ | refine z33 rfl ?_ ?_); (focus ((repeat' (first | exact z12 (fun _ => rfl) | apply z37)); done))) | (refine z114 ?_ ?_; (focus (omega))) | ((apply z92 rfl rfl rfl); (focus ((repeat (first | exact z36 (fun _ => rfl) _ | apply z107 | apply z137 | rfl)); done)); (focus (((simp; done)); done))) | (refine z83 ?_ ?_; (focus (simp; done))) | exact True.intro | apply And.intro)))
        · have er : rowOf LST N i = N := by unfold rowOf; rw [if_neg hz]
          have hz0 : LST.length ≠ 0 := fun h => hz (List.eq_nil_of_length_eq_zero h)
          rw [er] at hg hnext
          repeat' ((first | (apply AWP.go ok; rfl) | (apply And.intro; first | omega | (unfold inI; omega) | ((try dsimp only); simp only [List.length_map, List.length_take, List.length_append, List.length_replicate, List.length_cons, List.length_nil]; omega) | exact ⟨rfl, z18 rfl z23⟩) | ((first | (with_reducible apply z13; omega) | (apply z13; omega)); intro _) | ((apply z10) <;> intro _)) <;> conv => whnf)
          all_goals first | (exfalso; omega) | skip
          all_goals refine z79 (i + 1, S', G ++ [N]) ⟨hnext, hg⟩ (by show 61 - (i + 1) < 61 - i; omega) (by refine SealW.reach [0, 1, 2, 3, 7] [5] rfl rfl rfl rfl ?_ ?_ <;> (repeat' (first | exact LocLe.refl _ | exact F2.nil | apply F2.cons | exact z34 _ | (refine z120 ?_; ((simp; done))) | apply ObjLe.box | ((first | refine z56 rfl ?_ ?_ | refine z33 rfl ?_ ?_); (focus ((repeat' (first | exact z12 (fun _ => rfl) | apply z37)); done))) | (refine z114 ?_ ?_; (focus (omega))) | ((apply z92 rfl rfl rfl); (focus ((repeat ((exact z36 (fun _ => rfl) _))); done)); (focus (((simp; done)); done))) | exact True.intro | apply And.intro)))
    · have hn : S[i]? = none := List.getElem?_eq_none_iff.2 (by omega)
      rw [show 61 - i = (60 - i) + 1 by omega, grow, hn] at hg
      dsimp only at hg
      subst hg
      repeat' ((first | (apply AWP.go ok; rfl) | (apply And.intro; omega) | (((apply z13; omega)); intro _) | ((apply z10) <;> intro _)) <;> conv => whnf)
      all_goals first | (exfalso; contradiction) | skip
      all_goals (refine RetS.lay [] [3, 4] rfl rfl rfl ?_; refine RetS.done ?_ ?_ <;> (repeat' (first | exact LocLe.refl _ | exact F2.nil | apply F2.cons | ((apply z47 rfl rfl rfl); (focus ((repeat ((exact z36 (fun _ => rfl) _))); done)); (focus (((simp; done)); done))) | apply z75 | apply tup_le)))
  · have eb : buildB s = none := by unfold buildB; rw [if_neg hv]
    rw [if_neg hv, (Bool.not_eq_true _).mp hv] at c0
    rw [eb]
    refine z19 z26 Tryz.func168 rfl rfl 96 Tryz.ntmps168 (by simp) ?_
    repeat' ((first | (apply AWP.go ok; rfl) | (apply z11 (c0); rfl; rfl)) <;> conv => whnf)
    all_goals skip
    all_goals refine RetS.lay [] [] rfl rfl rfl ?_
    all_goals exact RetS.done zeroG_le .nil
end Go.Proofs.YtknlmbniicacmaaGreat

namespace Go.Proofs.YtknlmbniicacmaaGreat
open Go.Gl
attribute [local irreducible] z35 AWP z65 z78 z74 RetS z97

def isSt (bs : List Int) (i : Int) (q : Int) (t : State) (q' : Int) : Prop := ∃ a b : Int, t = ⟨[i % 3], [a, b, 0]⟩ ∧ q' = q + 1 + 1 ∧
  CallsA Tryz.prog 73 [.ptr 0 none 0, .int 3] [rdO bs q] (.int a) [rdO bs (q + 1)] ∧ CallsA Tryz.prog 73 [.ptr 0 none 0, .int 2] [rdO bs (q + 1)] (.int b) [rdO bs (q + 1 + 1)]
def isRow (bs : List Int) (n : Nat) (q : Int) (r : List Int) (q' : Int) : Prop := ∃ a b c : Int, r = (if c = 0 ∧ b ≠ a then [a, b] else [a]) ∧ q' = q + 1 + 1 + 1 ∧
  CallsA Tryz.prog 73 [.ptr 0 none 0, .int n] [rdO bs q] (.int a) [rdO bs (q + 1)] ∧ CallsA Tryz.prog 73 [.ptr 0 none 0, .int n] [rdO bs (q + 1)] (.int b) [rdO bs (q + 1 + 1)] ∧
  CallsA Tryz.prog 73 [.ptr 0 none 0, .int 2] [rdO bs (q + 1 + 1)] (.int c) [rdO bs (q + 1 + 1 + 1)]
structure Small (bs : List Int) (q q' : Int) (g : Graph) (m : Nat) (pf pg : Nat → Int) : Prop where
  num : CallsA Tryz.prog 158 [.ptr 0 none 0, .sref 1 0 6] [rdO bs q, .cells 1 ([3, 4, 2, 5, 1, 6].map enI)] (.int m) [rdO bs (pf 0), .cells 1 ([3, 4, 2, 5, 1, 6].map enI)]
  m1 : 1 ≤ m
  m6 : m ≤ 6
  sl : g.st.length = m
  nl : g.nx.length = m
  st : ∀ k (h : k < g.st.length), isSt bs (m - k) (pf k) g.st[k] (pf (k + 1))
  mid : pf m = pg 0
  row : ∀ k (h : k < g.nx.length), isRow bs m (pg k) g.nx[k] (pg (k + 1))
  last : pg m = q'
  q0 : q ≤ q'
  q1 : q' ≤ q + 40
theorem small_ex (bs : List Int) (hb : BytesOk bs) (q : Int) (hq : 0 ≤ q ∧ q ≤ 999990000) : ∃ g q' m pf pg, Small bs q q' g m pf pg := by
  obtain ⟨w, mw, cw⟩ := z113 bs hb q (by omega) (by omega) [3, 4, 2, 5, 1, 6] (by decide) (by decide)
  simp only [List.mem_cons, List.not_mem_nil, or_false] at mw
  obtain ⟨m, rfl⟩ : ∃ m : Nat, w = m := ⟨w.toNat, by omega⟩
  obtain ⟨S, pf, h1, h2, h3, h4⟩ := seq_ex (fun k r t r' => isSt bs (m - k) r t r') (q + 1) 2 m (fun k r hk a1 a2 => by
    obtain ⟨a, _, ca⟩ := z69 bs hb r 3 (by omega) (by omega) (by omega)
    obtain ⟨b, _, cb⟩ := z69 bs hb (r + 1) 2 (by omega) (by omega) (by omega)
    exact ⟨_, _, ⟨a, b, rfl, rfl, ca, cb⟩, by omega, by omega⟩)
  have h5 := h4 m (Nat.le_refl _)
  obtain ⟨G, pg, g1, g2, g3, g4⟩ := seq_ex (fun _ r t r' => isRow bs m r t r') (pf m) 3 m (fun k r hk a1 a2 => by
    obtain ⟨a, _, ca⟩ := z69 bs hb r m (by omega) (by omega) (by omega)
    obtain ⟨b, _, cb⟩ := z69 bs hb (r + 1) m (by omega) (by omega) (by omega)
    obtain ⟨c, _, cc⟩ := z69 bs hb (r + 1 + 1) 2 (by omega) (by omega) (by omega)
    exact ⟨_, _, ⟨a, b, c, rfl, rfl, ca, cb, cc⟩, by omega, by omega⟩)
  have g5 := g4 m (Nat.le_refl _)
  exact ⟨⟨S, G⟩, pg m, m, pf, pg, by rw [← h2] at cw; exact cw, by omega, by omega, h1, g1, h3, g2.symm, g3, rfl, by omega, by omega⟩
theorem Small.sm {bs : List Int} {q q' : Int} {g : Graph} {m : Nat} {pf pg : Nat → Int} (h : Small bs q q' g m pf pg) : g.sm := by
  have h1 := h.sl
  have h2 := h.nl
  have h3 := h.m6
  refine ⟨by omega, by omega, fun s hs => ?_, fun r hr => ?_⟩
  · obtain ⟨i, hi, rfl⟩ := List.mem_iff_getElem.1 hs
    obtain ⟨a, b, e, _⟩ := h.st i hi
    rw [e]; exact ⟨by simp, by simp⟩
  · obtain ⟨i, hi, rfl⟩ := List.mem_iff_getElem.1 hr
    obtain ⟨a, b, c, e, _⟩ := h.row i hi
    rw [e]; split <;> simp

set_option maxHeartbeats 6400000 in
theorem l4Graph_ok (bs : List Int) (hb : BytesOk bs) (p : Int) (hp : few3 p) : ∃ (g : Graph) (p' : Int), (g.sm ∧ 1 ≤ g.st.length ∧ g.nx.length = g.st.length ∧ p ≤ p' ∧ p' ≤ p + 5000) ∧ CallsA Tryz.prog 86 [.ptr 0 none 0] [rdO bs p] (.agg g.cs) [rdO bs p'] := by
  obtain ⟨v, ⟨v0, v1⟩, cv⟩ := z69 bs hb p 3 (by omega) (by omega) (by omega)
  by_cases hv : 0 < v
  · obtain ⟨s, q0, ⟨hs, s0, s1⟩, cs⟩ := l2System_ok bs hb (p + 1) ⟨by omega, by omega⟩
    have cB := buildGraph_ok s hs
    by_cases hr : ∃ g, buildB s = some g ∧ g.st.length ≤ 24
    · obtain ⟨g, hg, hl⟩ := hr
      have hI : GInv s g.st g.nx g.st.length := by
        have h := hg
        unfold buildB at h
        split at h
        · rename_i hv2
          have hso := Sys.ok_of hv2
          exact grow_inv hso 61 _ _ 0 g ⟨by simp, by simp, by simp, rfl, fun t ht => by
            rw [List.mem_singleton.1 ht]
            exact ⟨by simp, hso.init⟩, by simp⟩ h
        · cases h
      have hso : s.ok := by
        have h := hg
        unfold buildB at h
        split at h
        · exact Sys.ok_of (by assumption)
        · cases h
      refine ⟨g, q0, ⟨⟨by omega, by have := hI.g; omega, fun t ht => (hI.st t ht).sm hso, fun r hr => by have := hI.row r hr; omega⟩, hI.one, hI.g, by omega, by omega⟩, ?_⟩
      rw [hg] at cB
      simp only [Option.getD_some, Option.isSome_some] at cB
      refine z19 z26 Tryz.func86 rfl rfl 88 Tryz.ntmps86 (by simp) ?_
      repeat' ((first | (apply AWP.go ok; rfl) | ((apply z10) <;> intro _) | (apply z11 (cB); rfl; rfl) | ((first | (apply z8 [0] [] [] (cv); rfl; (focus ((repeat' first | exact z6 | apply z7) <;> rfl))) | (apply z8 [0] [] [] (cs); rfl; (focus ((repeat' first | exact z6 | apply z7) <;> rfl)))); rfl; rfl; rfl; rfl; rfl; (focus ((repeat' first | exact z17 | apply z15) <;> exact z25 rfl rfl)); (exact .inl rfl))) <;> conv => whnf)
      all_goals first | (exfalso; omega) | skip
      all_goals (refine RetS.lay [0] [] rfl rfl rfl ?_; refine RetS.done ?_ ?_ <;> (repeat' (first | exact LocLe.refl _ | exact F2.nil | apply F2.cons | apply ObjLe.box)))
    · obtain ⟨g, q', m, pf, pg, F⟩ := small_ex bs hb q0 (by omega)
      have m1 := F.m1
      have m6 := F.m6
      have sl := F.sl
      have nl := F.nl
      have z0 := F.q0
      have z1 := F.q1
      cases hB : buildB s with
      | none =>
        rw [hB] at cB
        simp only [Option.getD_none, Option.isSome_none] at cB
        refine ⟨g, q', ⟨F.sm, by omega, by omega, by omega, by omega⟩, ?_⟩
        have Fn := F.num
        refine z19 z26 Tryz.func86 rfl rfl 88 Tryz.ntmps86 (by simp) ?_
        repeat' ((first | (apply AWP.go ok; rfl) | ((apply z10) <;> intro _) | (apply z11 (cB); rfl; rfl) | ((first | (apply z8 [0] [] [] (cv); rfl; (focus ((repeat' first | exact z6 | apply z7) <;> rfl))) | (apply z8 [0] [] [] (cs); rfl; (focus ((repeat' first | exact z6 | apply z7) <;> rfl))) | (apply z8 [0, 4] [] [] (Fn); rfl; (focus ((repeat' first | exact z6 | apply z7) <;> rfl)))); rfl; rfl; rfl; rfl; rfl; (focus ((repeat' first | exact z17 | apply z15) <;> first | exact z25 rfl rfl | (refine z29 ?_; ((exact z12 fun _ => rfl))))); (exact .inl rfl))) <;> conv => whnf)
        all_goals first | (exfalso; omega) | skip
        all_goals
          refine AWP.reach (Reach.empty 2 rfl) ?_
          refine loopR (fun k : Nat => ([(0, .ptr 0 none 0), (2, .ptr 1 none 0), (5, .ptr 2 none 0), (6, .int (m - k))], [rdO bs (pf k), .cells 2 [[.nils, .nils]], .cells 2 [[.sref 3 0 k, .nils]], .cells 2 ((g.st.take k).map State.cs)])) (fun k => k ≤ m) (fun k => m - k) 0 (by omega) (by refine SealW.reach [0, 1, 3, 5] [] rfl rfl rfl rfl ?_ ?_ <;> (repeat' (first | exact LocLe.refl _ | exact z99 | exact F2.nil | apply F2.cons | apply ObjLe.box | ((refine z33 rfl ?_ ?_); (focus ((repeat' (exact z49)); done))) | exact True.intro | apply And.intro))) ?_
          intro k hk
          by_cases hkm : k < m
          · have hkl : k < g.st.length := by omega
            obtain ⟨a, b, es, eq, ca, cb⟩ := F.st k hkl
            rw [← eq] at cb
            repeat' ((first | (apply AWP.go ok; rfl) | (apply z30; kernel_rfl) | (apply And.intro; first | omega | (unfold inI; omega) | ((try dsimp only); simp only [List.length_map, List.length_take, List.length_append, List.length_replicate, List.length_cons, List.length_nil]; omega) | exact ⟨rfl, z18 rfl z23⟩) | ((apply z10) <;> intro _) | ((first | (apply z8 [0] [] [] (ca); rfl; (focus ((repeat' first | exact z6 | apply z7) <;> rfl))) | (apply z8 [0] [] [] (cb); rfl; (focus ((repeat' first | exact z6 | apply z7) <;> rfl)))); rfl; rfl; rfl; rfl; rfl; (focus ((repeat' first | exact z17 | apply z15) <;> exact z25 rfl rfl)); (exact .inl rfl))) <;> conv => whnf)
            all_goals first | (exfalso; omega) | skip
            all_goals refine z79 (k + 1) (by omega) (by omega) (by refine SealW.reach [0, 1, 2, 7] [4, 5] rfl rfl rfl rfl ?_ ?_ <;> (repeat' (first | exact LocLe.refl _ | exact F2.nil | apply F2.cons | (refine int_le ?_; omega) | apply ObjLe.box | ((refine z56 rfl ?_ ?_); (focus ((repeat' (first | exact z12 (fun _ => rfl) | apply z37)); done))) | (refine z126 (by omega) (by omega) ?_) | ((apply z92 rfl rfl rfl); (focus ((repeat (rfl)); done)); (focus ((rfl); done))) | exact True.intro | apply And.intro)) <;> (rw [es]; exact LocLe.refl _))
          · have e : k = m := by omega
            subst e
            rw [List.take_of_length_le (show g.st.length ≤ k by omega)]
            repeat' ((first | (apply AWP.go ok; rfl) | (apply And.intro; omega) | ((apply z10) <;> intro _)) <;> conv => whnf)
            all_goals first | (exfalso; omega) | skip
            refine AWP.reach (Reach.empty 1 rfl) ?_
            have Fm := F.mid
            rw [Fm]
            refine loopR (fun i : Nat => ([(0, .ptr 0 none 0), (2, .ptr 1 none 0), (5, .ptr 2 none 0), (7, .int i)], [rdO bs (pg i), .cells 2 [[.nils, .nils]], .cells 2 [[.sref 3 0 k, .sref 4 0 i]], .cells 2 (g.st.map State.cs), .cells 1 ((g.nx.take i).map encL)])) (fun i => i ≤ k) (fun i => k - i) 0 (by omega) (by refine SealW.reach [0, 1, 2, 3, 4] [] rfl rfl rfl rfl ?_ ?_ <;> (repeat' (first | exact LocLe.refl _ | exact z99 | exact F2.nil | apply F2.cons | exact z34 _ | apply ObjLe.box | ((refine z33 rfl ?_ ?_); (focus ((repeat' (first | exact z49 | exact z12 (fun _ => rfl))); done))) | exact True.intro | apply And.intro))) ?_
            intro i hi
            by_cases hik : i < k
            · have hil : i < g.nx.length := by omega
              obtain ⟨a, b, c, er, eq, ca, cb, cc⟩ := F.row i hil
              rw [← eq] at cc
              by_cases hc : c = 0
              · by_cases hba : b = a
                · rw [if_neg (fun h => h.2 hba)] at er
                  repeat' ((first | (apply AWP.go ok; rfl) | (apply And.intro; first | omega | (unfold inI; omega) | ((try dsimp only); simp only [List.length_map, List.length_take, List.length_append, List.length_replicate, List.length_cons, List.length_nil]; omega) | exact ⟨rfl, z18 rfl z23⟩) | apply z50 | ((first | apply z10 | apply z21) <;> intro _) | ((first | (apply z8 [0] [] [] (ca); rfl; (focus ((repeat' first | exact z6 | apply z7) <;> rfl))) | (apply z8 [0] [] [] (cb); rfl; (focus ((repeat' first | exact z6 | apply z7) <;> rfl))) | (apply z8 [0] [] [] (cc); rfl; (focus ((repeat' first | exact z6 | apply z7) <;> rfl)))); rfl; rfl; rfl; rfl; rfl; (focus ((repeat' first | exact z17 | apply z15) <;> exact z25 rfl rfl)); (exact .inl rfl))) <;> conv => whnf)
                  all_goals first | (exfalso; omega) | skip
                  all_goals refine z79 (i + 1) (by omega) (by omega) (by refine SealW.reach [0, 1, 2, 3, 7] [5] rfl rfl rfl rfl ?_ ?_ <;> (repeat' (first | exact LocLe.refl _ | exact F2.nil | apply F2.cons | exact z34 _ | apply ObjLe.box | ((first | refine z56 rfl ?_ ?_ | refine z33 rfl ?_ ?_); (focus ((repeat' (first | exact z12 (fun _ => rfl) | apply z37)); done))) | (refine z126 (by omega) (by omega) ?_) | ((apply z92 rfl rfl rfl); (focus ((repeat (rfl)); done)); (focus ((rfl); done))) | exact True.intro | apply And.intro)) <;> ((rw [er]; exact LocLe.refl _)))
                · rw [if_pos ⟨hc, hba⟩] at er
                  repeat' ((first | (apply AWP.go ok; rfl) | (apply And.intro; first | omega | (unfold inI; omega) | ((try dsimp only); simp only [List.length_map, List.length_take, List.length_append, List.length_replicate, List.length_cons, List.length_nil]; omega) | exact ⟨rfl, z18 rfl z23⟩) | apply z50 | ((first | apply z10 | apply z21) <;> intro _) | ((first | (apply z8 [0] [] [] (ca); rfl; (focus ((repeat' first | exact z6 | apply z7) <;> rfl))) | (apply z8 [0] [] [] (cb); rfl; (focus ((repeat' first | exact z6 | apply z7) <;> rfl))) | (apply z8 [0] [] [] (cc); rfl; (focus ((repeat' first | exact z6 | apply z7) <;> rfl)))); rfl; rfl; rfl; rfl; rfl; (focus ((repeat' first | exact z17 | apply z15) <;> exact z25 rfl rfl)); (exact .inl rfl))) <;> conv => whnf)
                  all_goals first | (exfalso; omega) | skip
                  all_goals refine z79 (i + 1) (by omega) (by omega) (by refine SealW.reach [0, 1, 2, 3, 9] [7] rfl rfl rfl rfl ?_ ?_ <;> (repeat' (first | exact LocLe.refl _ | exact F2.nil | apply F2.cons | exact z34 _ | apply ObjLe.box | ((first | refine z56 rfl ?_ ?_ | refine z33 rfl ?_ ?_); (focus ((repeat' (first | exact z12 (fun _ => rfl) | apply z37)); done))) | (refine z126 (by omega) (by omega) ?_) | ((apply z92 rfl rfl rfl); (focus ((repeat (first | apply z107 | apply z137 | rfl)); done)); (focus ((rfl); done))) | exact True.intro | apply And.intro)) <;> ((rw [er]; exact LocLe.refl _)))
              · rw [if_neg (fun h => hc h.1)] at er
                repeat' ((first | (apply AWP.go ok; rfl) | (apply And.intro; first | omega | (unfold inI; omega) | ((try dsimp only); simp only [List.length_map, List.length_take, List.length_append, List.length_replicate, List.length_cons, List.length_nil]; omega) | exact ⟨rfl, z18 rfl z23⟩) | apply z50 | ((first | apply z10 | apply z21) <;> intro _) | ((first | (apply z8 [0] [] [] (ca); rfl; (focus ((repeat' first | exact z6 | apply z7) <;> rfl))) | (apply z8 [0] [] [] (cb); rfl; (focus ((repeat' first | exact z6 | apply z7) <;> rfl))) | (apply z8 [0] [] [] (cc); rfl; (focus ((repeat' first | exact z6 | apply z7) <;> rfl)))); rfl; rfl; rfl; rfl; rfl; (focus ((repeat' first | exact z17 | apply z15) <;> exact z25 rfl rfl)); (exact .inl rfl))) <;> conv => whnf)
                all_goals first | (exfalso; omega) | skip
                all_goals refine z79 (i + 1) (by omega) (by omega) (by refine SealW.reach [0, 1, 2, 3, 7] [5] rfl rfl rfl rfl ?_ ?_ <;> (repeat' (first | exact LocLe.refl _ | exact F2.nil | apply F2.cons | exact z34 _ | apply ObjLe.box | ((first | refine z56 rfl ?_ ?_ | refine z33 rfl ?_ ?_); (focus ((repeat' (first | exact z12 (fun _ => rfl) | apply z37)); done))) | (refine z126 (by omega) (by omega) ?_) | ((apply z92 rfl rfl rfl); (focus ((repeat (rfl)); done)); (focus ((rfl); done))) | exact True.intro | apply And.intro)) <;> ((rw [er]; exact LocLe.refl _)))
            · have e : i = k := by omega
              subst e
              rw [List.take_of_length_le (show g.nx.length ≤ i by omega)]
              repeat' ((first | (apply AWP.go ok; rfl) | ((apply z10) <;> intro _)) <;> conv => whnf)
              all_goals first | (exfalso; omega) | skip
              all_goals rw [F.last]
              all_goals (refine RetS.lay [0] [3, 4] rfl rfl rfl ?_; refine RetS.done ?_ ?_ <;> (repeat' (first | exact LocLe.refl _ | exact F2.nil | apply F2.cons | (refine lst_le ?_; omega) | apply ObjLe.box | ((apply z47 rfl rfl rfl); (focus ((repeat ((exact z36 (fun _ => rfl) _))); done)); (focus (((simp; omega)); done))) | apply z75)))
      | some g0 =>
        have hl : ¬(g0.st.length ≤ 24) := fun h => hr ⟨g0, hB, h⟩
        rw [hB] at cB
        simp only [Option.getD_some, Option.isSome_some] at cB
        refine ⟨g, q', ⟨F.sm, by omega, by omega, by omega, by omega⟩, ?_⟩
        have Fn := F.num
        refine z19 z26 Tryz.func86 rfl rfl 88 Tryz.ntmps86 (by simp) ?_
        repeat' ((first | (apply AWP.go ok; rfl) | ((apply z10) <;> intro _) | (apply z11 (cB); rfl; rfl) | ((first | (apply z8 [0] [] [] (cv); rfl; (focus ((repeat' first | exact z6 | apply z7) <;> rfl))) | (apply z8 [0] [] [] (cs); rfl; (focus ((repeat' first | exact z6 | apply z7) <;> rfl))) | (apply z8 [0, 4] [] [] (Fn); rfl; (focus ((repeat' first | exact z6 | apply z7) <;> rfl)))); rfl; rfl; rfl; rfl; rfl; (focus ((repeat' first | exact z17 | apply z15) <;> first | exact z25 rfl rfl | (refine z29 ?_; ((exact z12 fun _ => rfl))))); (exact .inl rfl))) <;> conv => whnf)
        all_goals first | (exfalso; omega) | skip
        all_goals
          refine AWP.reach (Reach.empty 2 rfl) ?_
          refine loopR (fun k : Nat => ([(0, .ptr 0 none 0), (2, .ptr 1 none 0), (5, .ptr 2 none 0), (6, .int (m - k))], [rdO bs (pf k), .cells 2 [[.nils, .nils]], .cells 2 [[.sref 3 0 k, .nils]], .cells 2 ((g.st.take k).map State.cs)])) (fun k => k ≤ m) (fun k => m - k) 0 (by omega) (by refine SealW.reach [0, 1, 3, 5] [] rfl rfl rfl rfl ?_ ?_ <;> (repeat' (first | exact LocLe.refl _ | exact z99 | exact F2.nil | apply F2.cons | apply ObjLe.box | ((refine z33 rfl ?_ ?_); (focus ((repeat' (exact z49)); done))) | exact True.intro | apply And.intro))) ?_
          intro k hk
          by_cases hkm : k < m
          · have hkl : k < g.st.length := by omega
            obtain ⟨a, b, es, eq, ca, cb⟩ := F.st k hkl
            rw [← eq] at cb
            repeat' ((first | (apply AWP.go ok; rfl) | (apply z30; kernel_rfl) | (apply And.intro; first | omega | (unfold inI; omega) | ((try dsimp only); simp only [List.length_map, List.length_take, List.length_append, List.length_replicate, List.length_cons, List.length_nil]; omega) | exact ⟨rfl, z18 rfl z23⟩) | ((apply z10) <;> intro _) | ((first | (apply z8 [0] [] [] (ca); rfl; (focus ((repeat' first | exact z6 | apply z7) <;> rfl))) | (apply z8 [0] [] [] (cb); rfl; (focus ((repeat' first | exact z6 | apply z7) <;> rfl)))); rfl; rfl; rfl; rfl; rfl; (focus ((repeat' first | exact z17 | apply z15) <;> exact z25 rfl rfl)); (exact .inl rfl))) <;> conv => whnf)
            all_goals first | (exfalso; omega) | skip
            all_goals refine z79 (k + 1) (by omega) (by omega) (by refine SealW.reach [0, 1, 2, 7] [4, 5] rfl rfl rfl rfl ?_ ?_ <;> (repeat' (first | exact LocLe.refl _ | exact F2.nil | apply F2.cons | (refine int_le ?_; omega) | apply ObjLe.box | ((refine z56 rfl ?_ ?_); (focus ((repeat' (first | exact z12 (fun _ => rfl) | apply z37)); done))) | (refine z126 (by omega) (by omega) ?_) | ((apply z92 rfl rfl rfl); (focus ((repeat (rfl)); done)); (focus ((rfl); done))) | exact True.intro | apply And.intro)) <;> (rw [es]; exact LocLe.refl _))
          · have e : k = m := by omega
            subst e
            rw [List.take_of_length_le (show g.st.length ≤ k by omega)]
            repeat' ((first | (apply AWP.go ok; rfl) | (apply And.intro; omega) | ((apply z10) <;> intro _)) <;> conv => whnf)
            all_goals first | (exfalso; omega) | skip
            refine AWP.reach (Reach.empty 1 rfl) ?_
            have Fm := F.mid
            rw [Fm]
            refine loopR (fun i : Nat => ([(0, .ptr 0 none 0), (2, .ptr 1 none 0), (5, .ptr 2 none 0), (7, .int i)], [rdO bs (pg i), .cells 2 [[.nils, .nils]], .cells 2 [[.sref 3 0 k, .sref 4 0 i]], .cells 2 (g.st.map State.cs), .cells 1 ((g.nx.take i).map encL)])) (fun i => i ≤ k) (fun i => k - i) 0 (by omega) (by refine SealW.reach [0, 1, 2, 3, 4] [] rfl rfl rfl rfl ?_ ?_ <;> (repeat' (first | exact LocLe.refl _ | exact z99 | exact F2.nil | apply F2.cons | exact z34 _ | apply ObjLe.box | ((refine z33 rfl ?_ ?_); (focus ((repeat' (first | exact z49 | exact z12 (fun _ => rfl))); done))) | exact True.intro | apply And.intro))) ?_
            intro i hi
            by_cases hik : i < k
            · have hil : i < g.nx.length := by omega
              obtain ⟨a, b, c, er, eq, ca, cb, cc⟩ := F.row i hil
              rw [← eq] at cc
              by_cases hc : c = 0
              · by_cases hba : b = a
                · rw [if_neg (fun h => h.2 hba)] at er
                  repeat' ((first | (apply AWP.go ok; rfl) | (apply And.intro; first | omega | (unfold inI; omega) | ((try dsimp only); simp only [List.length_map, List.length_take, List.length_append, List.length_replicate, List.length_cons, List.length_nil]; omega) | exact ⟨rfl, z18 rfl z23⟩) | apply z50 | ((first | apply z10 | apply z21) <;> intro _) | ((first | (apply z8 [0] [] [] (ca); rfl; (focus ((repeat' first | exact z6 | apply z7) <;> rfl))) | (apply z8 [0] [] [] (cb); rfl; (focus ((repeat' first | exact z6 | apply z7) <;> rfl))) | (apply z8 [0] [] [] (cc); rfl; (focus ((repeat' first | exact z6 | apply z7) <;> rfl)))); rfl; rfl; rfl; rfl; rfl; (focus ((repeat' first | exact z17 | apply z15) <;> exact z25 rfl rfl)); (exact .inl rfl))) <;> conv => whnf)
                  all_goals first | (exfalso; omega) | skip
                  all_goals refine z79 (i + 1) (by omega) (by omega) (by refine SealW.reach [0, 1, 2, 3, 7] [5] rfl rfl rfl rfl ?_ ?_ <;> (repeat' (first | exact LocLe.refl _ | exact F2.nil | apply F2.cons | exact z34 _ | apply ObjLe.box | ((first | refine z56 rfl ?_ ?_ | refine z33 rfl ?_ ?_); (focus ((repeat' (first | exact z12 (fun _ => rfl) | apply z37)); done))) | (refine z126 (by omega) (by omega) ?_) | ((apply z92 rfl rfl rfl); (focus ((repeat (rfl)); done)); (focus ((rfl); done))) | exact True.intro | apply And.intro)) <;> ((rw [er]; exact LocLe.refl _)))
                · rw [if_pos ⟨hc, hba⟩] at er
                  repeat' ((first | (apply AWP.go ok; rfl) | (apply And.intro; first | omega | (unfold inI; omega) | ((try dsimp only); simp only [List.length_map, List.length_take, List.length_append, List.length_replicate, List.length_cons, List.length_nil]; omega) | exact ⟨rfl, z18 rfl z23⟩) | apply z50 | ((first | apply z10 | apply z21) <;> intro _) | ((first | (apply z8 [0] [] [] (ca); rfl; (focus ((repeat' first | exact z6 | apply z7) <;> rfl))) | (apply z8 [0] [] [] (cb); rfl; (focus ((repeat' first | exact z6 | apply z7) <;> rfl))) | (apply z8 [0] [] [] (cc); rfl; (focus ((repeat' first | exact z6 | apply z7) <;> rfl)))); rfl; rfl; rfl; rfl; rfl; (focus ((repeat' first | exact z17 | apply z15) <;> exact z25 rfl rfl)); (exact .inl rfl))) <;> conv => whnf)
                  all_goals first | (exfalso; omega) | skip
                  all_goals refine z79 (i + 1) (by omega) (by omega) (by refine SealW.reach [0, 1, 2, 3, 9] [7] rfl rfl rfl rfl ?_ ?_ <;> (repeat' (first | exact LocLe.refl _ | exact F2.nil | apply F2.cons | exact z34 _ | apply ObjLe.box | ((first | refine z56 rfl ?_ ?_ | refine z33 rfl ?_ ?_); (focus ((repeat' (first | exact z12 (fun _ => rfl) | apply z37)); done))) | (refine z126 (by omega) (by omega) ?_) | ((apply z92 rfl rfl rfl); (focus ((repeat (first | apply z107 | apply z137 | rfl)); done)); (focus ((rfl); done))) | exact True.intro | apply And.intro)) <;> ((rw [er]; exact LocLe.refl _)))
              · rw [if_neg (fun h => hc h.1)] at er
                repeat' ((first | (apply AWP.go ok; rfl) | (apply And.intro; first | omega | (unfold inI; omega) | ((try dsimp only); simp only [List.length_map, List.length_take, List.length_append, List.length_replicate, List.length_cons, List.length_nil]; omega) | exact ⟨rfl, z18 rfl z23⟩) | apply z50 | ((first | apply z10 | apply z21) <;> intro _) | ((first | (apply z8 [0] [] [] (ca); rfl; (focus ((repeat' first | exact z6 | apply z7) <;> rfl))) | (apply z8 [0] [] [] (cb); rfl; (focus ((repeat' first | exact z6 | apply z7) <;> rfl))) | (apply z8 [0] [] [] (cc); rfl; (focus ((repeat' first | exact z6 | apply z7) <;> rfl)))); rfl; rfl; rfl; rfl; rfl; (focus ((repeat' first | exact z17 | apply z15) <;> exact z25 rfl rfl)); (exact .inl rfl))) <;> conv => whnf)
                all_goals first | (exfalso; omega) | skip
                all_goals refine z79 (i + 1) (by omega) (by omega) (by refine SealW.reach [0, 1, 2, 3, 7] [5] rfl rfl rfl rfl ?_ ?_ <;> (repeat' (first | exact LocLe.refl _ | exact F2.nil | apply F2.cons | exact z34 _ | apply ObjLe.box | ((first | refine z56 rfl ?_ ?_ | refine z33 rfl ?_ ?_); (focus ((repeat' (first | exact z12 (fun _ => rfl) | apply z37)); done))) | (refine z126 (by omega) (by omega) ?_) | ((apply z92 rfl rfl rfl); (focus ((repeat (rfl)); done)); (focus ((rfl); done))) | exact True.intro | apply And.intro)) <;> ((rw [er]; exact LocLe.refl _)))
            · have e : i = k := by omega
              subst e
              rw [List.take_of_length_le (show g.nx.length ≤ i by omega)]
              repeat' ((first | (apply AWP.go ok; rfl) | ((apply z10) <;> intro _)) <;> conv => whnf)
              all_goals first | (exfalso; omega) | skip
              all_goals rw [F.last]
              all_goals (refine RetS.lay [0] [3, 4] rfl rfl rfl ?_; refine RetS.done ?_ ?_ <;> (repeat' (first | exact LocLe.refl _ | exact F2.nil | apply F2.cons | (refine lst_le ?_; omega) | apply ObjLe.box | ((apply z47 rfl rfl rfl); (focus ((repeat ((exact z36 (fun _ => rfl) _))); done)); (focus (((simp; omega)); done))) | apply z75)))
  · obtain ⟨g, q', m, pf, pg, F⟩ := small_ex bs hb (p + 1) (by omega)
    have m1 := F.m1
    have m6 := F.m6
    have sl := F.sl
    have nl := F.nl
    have z0 := F.q0
    have z1 := F.q1
    refine ⟨g, q', ⟨F.sm, by omega, by omega, by omega, by omega⟩, ?_⟩
    have Fn := F.num
    refine z19 z26 Tryz.func86 rfl rfl 88 Tryz.ntmps86 (by simp) ?_
    repeat' ((first | (apply AWP.go ok; rfl) | ((apply z10) <;> intro _) | ((first | (apply z8 [0] [] [] (cv); rfl; (focus ((repeat' first | exact z6 | apply z7) <;> rfl))) | (apply z8 [0, 3] [] [] (Fn); rfl; (focus ((repeat' first | exact z6 | apply z7) <;> rfl)))); rfl; rfl; rfl; rfl; rfl; (focus ((repeat' first | exact z17 | apply z15) <;> first | exact z25 rfl rfl | (refine z29 ?_; ((exact z12 fun _ => rfl))))); (exact .inl rfl))) <;> conv => whnf)
    all_goals first | (exfalso; omega) | skip
    all_goals
      refine AWP.reach (Reach.empty 2 rfl) ?_
      refine loopR (fun k : Nat => ([(0, .ptr 0 none 0), (2, .ptr 1 none 0), (5, .ptr 2 none 0), (6, .int (m - k))], [rdO bs (pf k), .cells 2 [[.nils, .nils]], .cells 2 [[.sref 3 0 k, .nils]], .cells 2 ((g.st.take k).map State.cs)])) (fun k => k ≤ m) (fun k => m - k) 0 (by omega) (by refine SealW.reach [0, 1, 2, 4] [] rfl rfl rfl rfl ?_ ?_ <;> (repeat' (first | exact LocLe.refl _ | exact z99 | exact F2.nil | apply F2.cons | apply ObjLe.box | ((refine z33 rfl ?_ ?_); (focus ((repeat' (exact z49)); done))) | exact True.intro | apply And.intro))) ?_
      intro k hk
      by_cases hkm : k < m
      · have hkl : k < g.st.length := by omega
        obtain ⟨a, b, es, eq, ca, cb⟩ := F.st k hkl
        rw [← eq] at cb
        repeat' ((first | (apply AWP.go ok; rfl) | (apply z30; kernel_rfl) | (apply And.intro; first | omega | (unfold inI; omega) | ((try dsimp only); simp only [List.length_map, List.length_take, List.length_append, List.length_replicate, List.length_cons, List.length_nil]; omega) | exact ⟨rfl, z18 rfl z23⟩) | ((apply z10) <;> intro _) | ((first | (apply z8 [0] [] [] (ca); rfl; (focus ((repeat' first | exact z6 | apply z7) <;> rfl))) | (apply z8 [0] [] [] (cb); rfl; (focus ((repeat' first | exact z6 | apply z7) <;> rfl)))); rfl; rfl; rfl; rfl; rfl; (focus ((repeat' first | exact z17 | apply z15) <;> exact z25 rfl rfl)); (exact .inl rfl))) <;> conv => whnf)
        all_goals first | (exfalso; omega) | skip
        all_goals refine z79 (k + 1) (by omega) (by omega) (by refine SealW.reach [0, 1, 2, 7] [4, 5] rfl rfl rfl rfl ?_ ?_ <;> (repeat' (first | exact LocLe.refl _ | exact F2.nil | apply F2.cons | (refine int_le ?_; omega) | apply ObjLe.box | ((refine z56 rfl ?_ ?_); (focus ((repeat' (first | exact z12 (fun _ => rfl) | apply z37)); done))) | (refine z126 (by omega) (by omega) ?_) | ((apply z92 rfl rfl rfl); (focus ((repeat (rfl)); done)); (focus ((rfl); done))) | exact True.intro | apply And.intro)) <;> (rw [es]; exact LocLe.refl _))
      · have e : k = m := by omega
        subst e
        rw [List.take_of_length_le (show g.st.length ≤ k by omega)]
        repeat' ((first | (apply AWP.go ok; rfl) | (apply And.intro; omega) | ((apply z10) <;> intro _)) <;> conv => whnf)
        all_goals first | (exfalso; omega) | skip
        refine AWP.reach (Reach.empty 1 rfl) ?_
        have Fm := F.mid
        rw [Fm]
        refine loopR (fun i : Nat => ([(0, .ptr 0 none 0), (2, .ptr 1 none 0), (5, .ptr 2 none 0), (7, .int i)], [rdO bs (pg i), .cells 2 [[.nils, .nils]], .cells 2 [[.sref 3 0 k, .sref 4 0 i]], .cells 2 (g.st.map State.cs), .cells 1 ((g.nx.take i).map encL)])) (fun i => i ≤ k) (fun i => k - i) 0 (by omega) (by refine SealW.reach [0, 1, 2, 3, 4] [] rfl rfl rfl rfl ?_ ?_ <;> (repeat' (first | exact LocLe.refl _ | exact z99 | exact F2.nil | apply F2.cons | exact z34 _ | apply ObjLe.box | ((refine z33 rfl ?_ ?_); (focus ((repeat' (first | exact z49 | exact z12 (fun _ => rfl))); done))) | exact True.intro | apply And.intro))) ?_
        intro i hi
        by_cases hik : i < k
        · have hil : i < g.nx.length := by omega
          obtain ⟨a, b, c, er, eq, ca, cb, cc⟩ := F.row i hil
          rw [← eq] at cc
          by_cases hc : c = 0
          · by_cases hba : b = a
            · rw [if_neg (fun h => h.2 hba)] at er
              repeat' ((first | (apply AWP.go ok; rfl) | (apply And.intro; first | omega | (unfold inI; omega) | ((try dsimp only); simp only [List.length_map, List.length_take, List.length_append, List.length_replicate, List.length_cons, List.length_nil]; omega) | exact ⟨rfl, z18 rfl z23⟩) | apply z50 | ((first | apply z10 | apply z21) <;> intro _) | ((first | (apply z8 [0] [] [] (ca); rfl; (focus ((repeat' first | exact z6 | apply z7) <;> rfl))) | (apply z8 [0] [] [] (cb); rfl; (focus ((repeat' first | exact z6 | apply z7) <;> rfl))) | (apply z8 [0] [] [] (cc); rfl; (focus ((repeat' first | exact z6 | apply z7) <;> rfl)))); rfl; rfl; rfl; rfl; rfl; (focus ((repeat' first | exact z17 | apply z15) <;> exact z25 rfl rfl)); (exact .inl rfl))) <;> conv => whnf)
              all_goals first | (exfalso; omega) | skip
              all_goals refine z79 (i + 1) (by omega) (by omega) (by refine SealW.reach [0, 1, 2, 3, 7] [5] rfl rfl rfl rfl ?_ ?_ <;> (repeat' (first | exact LocLe.refl _ | exact F2.nil | apply F2.cons | exact z34 _ | apply ObjLe.box | ((first | refine z56 rfl ?_ ?_ | refine z33 rfl ?_ ?_); (focus ((repeat' (first | exact z12 (fun _ => rfl) | apply z37)); done))) | (refine z126 (by omega) (by omega) ?_) | ((apply z92 rfl rfl rfl); (focus ((repeat (rfl)); done)); (focus ((rfl); done))) | exact True.intro | apply And.intro)) <;> ((rw [er]; exact LocLe.refl _)))
            · rw [if_pos ⟨hc, hba⟩] at er
              repeat' ((first | (apply AWP.go ok; rfl) | (apply And.intro; first | omega | (unfold inI; omega) | ((try dsimp only); simp only [List.length_map, List.length_take, List.length_append, List.length_replicate, List.length_cons, List.length_nil]; omega) | exact ⟨rfl, z18 rfl z23⟩) | apply z50 | ((first | apply z10 | apply z21) <;> intro _) | ((first | (apply z8 [0] [] [] (ca); rfl; (focus ((repeat' first | exact z6 | apply z7) <;> rfl))) | (apply z8 [0] [] [] (cb); rfl; (focus ((repeat' first | exact z6 | apply z7) <;> rfl))) | (apply z8 [0] [] [] (cc); rfl; (focus ((repeat' first | exact z6 | apply z7) <;> rfl)))); rfl; rfl; rfl; rfl; rfl; (focus ((repeat' first | exact z17 | apply z15) <;> exact z25 rfl rfl)); (exact .inl rfl))) <;> conv => whnf)
              all_goals first | (exfalso; omega) | skip
              all_goals refine z79 (i + 1) (by omega) (by omega) (by refine SealW.reach [0, 1, 2, 3, 9] [7] rfl rfl rfl rfl ?_ ?_ <;> (repeat' (first | exact LocLe.refl _ | exact F2.nil | apply F2.cons | exact z34 _ | apply ObjLe.box | ((first | refine z56 rfl ?_ ?_ | refine z33 rfl ?_ ?_); (focus ((repeat' (first | exact z12 (fun _ => rfl) | apply z37)); done))) | (refine z126 (by omega) (by omega) ?_) | ((apply z92 rfl rfl rfl); (focus ((repeat (first | apply z107 | apply z137 | rfl)); done)); (focus ((rfl); done))) | exact True.intro | apply And.intro)) <;> ((rw [er]; exact LocLe.refl _)))
          · rw [if_neg (fun h => hc h.1)] at er
            repeat' ((first | (apply AWP.go ok; rfl) | (apply And.intro; first | omega | (unfold inI; omega) | ((try dsimp only); simp only [List.length_map, List.length_take, List.length_append, List.length_replicate, List.length_cons, List.length_nil]; omega) | exact ⟨rfl, z18 rfl z23⟩) | apply z50 | ((first | apply z10 | apply z21) <;> intro _) | ((first | (apply z8 [0] [] [] (ca); rfl; (focus ((repeat' first | exact z6 | apply z7) <;> rfl))) | (apply z8 [0] [] [] (cb); rfl; (focus ((repeat' first | exact z6 | apply z7) <;> rfl))) | (apply z8 [0] [] [] (cc); rfl; (focus ((repeat' first | exact z6 | apply z7) <;> rfl)))); rfl; rfl; rfl; rfl; rfl; (focus ((repeat' first | exact z17 | apply z15) <;> exact z25 rfl rfl)); (exact .inl rfl))) <;> conv => whnf)
            all_goals first | (exfalso; omega) | skip
            all_goals refine z79 (i + 1) (by omega) (by omega) (by refine SealW.reach [0, 1, 2, 3, 7] [5] rfl rfl rfl rfl ?_ ?_ <;> (repeat' (first | exact LocLe.refl _ | exact F2.nil | apply F2.cons | exact z34 _ | apply ObjLe.box | ((first | refine z56 rfl ?_ ?_ | refine z33 rfl ?_ ?_); (focus ((repeat' (first | exact z12 (fun _ => rfl) | apply z37)); done))) | (refine z126 (by omega) (by omega) ?_) | ((apply z92 rfl rfl rfl); (focus ((repeat (rfl)); done)); (focus ((rfl); done))) | exact True.intro | apply And.intro)) <;> ((rw [er]; exact LocLe.refl _)))
        · have e : i = k := by omega
          subst e
          rw [List.take_of_length_le (show g.nx.length ≤ i by omega)]
          repeat' ((first | (apply AWP.go ok; rfl) | ((apply z10) <;> intro _)) <;> conv => whnf)
          all_goals first | (exfalso; omega) | skip
          all_goals rw [F.last]
          all_goals (refine RetS.lay [0] [3, 4] rfl rfl rfl ?_; refine RetS.done ?_ ?_ <;> (repeat' (first | exact LocLe.refl _ | exact F2.nil | apply F2.cons | (refine lst_le ?_; omega) | apply ObjLe.box | ((apply z47 rfl rfl rfl); (focus ((repeat ((exact z36 (fun _ => rfl) _))); done)); (focus (((simp; omega)); done))) | apply z75)))
end Go.Proofs.YtknlmbniicacmaaGreat

namespace Go.Proofs.YtknlmbniicacmaaGreat
open Go.Gl
attribute [local irreducible] z35 AWP z65 z78 z74 RetS z97

structure Graph.d (g : Graph) : Prop where
  st : g.st.length ≤ 100
  nx : g.nx.length ≤ 101
  el : ∀ s ∈ g.st, s.sm
  row : ∀ r ∈ g.nx, r.length ≤ 1001
theorem Graph.d.mx {g : Graph} (h : g.d) : g.mx := by
  have h1 := h.st
  have h2 := h.nx
  have h3 := h.el
  exact ⟨⟨by unfold maxLen; omega, fun s hs => ⟨by have := (h3 s hs).a; unfold maxLen; omega, by have := (h3 s hs).b; unfold maxLen; omega⟩⟩, by unfold maxLen; omega, fun l hl => by have := h.row l hl; unfold maxLen; omega⟩
structure Lab.d (l : List Tree) : Prop where
  len : l.length ≤ 3
  el : ∀ t ∈ l, t.sz ≤ 5
theorem Lab.d.mx {l : List Tree} (h : Lab.d l) : Lmx l := Lmx_of (by have := h.len; omega) fun t ht => by have := h.el t ht; omega
/-- the bytes of a law's argument -/
structure CodeOk (bs : List Int) : Prop where
  len : bs.length ≤ maxLen
  el : ∀ x ∈ bs, 0 ≤ x ∧ x ≤ 255
theorem CodeOk.take {bs : List Int} (h : CodeOk bs) : BytesOk (bs.take 2000) := ⟨by simp; omega, fun x hx => h.el x (List.mem_of_mem_take hx)⟩
theorem mutG_ok (bs : List Int) (hb : BytesOk bs) (p : Int) (hp : few3 p) : ∃ (g0 g : Graph) (p1 p2 : Int), CallsA Tryz.prog 86 [.ptr 0 none 0] [rdO bs p] (.agg g0.cs) [rdO bs p1] ∧ CallsA Tryz.prog 85 [.ptr 0 none 0, .agg g0.cs] [rdO bs p1] (.agg g.cs) [rdO bs p2] ∧ g.d ∧ p ≤ p2 ∧ p2 ≤ p + 6000 := by
  obtain ⟨g0, p1, ⟨h1, h2, h3, h4, h5⟩, c1⟩ := l4Graph_ok bs hb p hp
  obtain ⟨g, p2, ⟨k1, k2, k3, k4, k5, k6⟩, c2⟩ := l4Mutate_ok bs hb p1 ⟨by omega, by omega⟩ g0 h1 h2 h3
  exact ⟨g0, g, p1, p2, c1, c2, ⟨k1, k2, k3, k4⟩, by omega, by omega⟩

theorem drawLabelBlocks_ok (bs : List Int) (hb : CodeOk bs) : ∃ (g : Graph) (l : List Tree), (g.d ∧ Lab.d l) ∧ CallsA Tryz.prog 94 [lst 1 enU bs] [] (.tup [.agg g.cs, lst 3 Tree.cs' l]) [] := by
  have co := l16Open_ok bs hb.len
  obtain ⟨M, n, p1, ⟨a1, a2, a3, a4, a5⟩, c1⟩ := l10Labels_new (bs.take 2000) hb.take 0 ⟨by omega, by omega⟩
  obtain ⟨g0, g, p2, p3, c2, c3, hg, _, _⟩ := mutG_ok (bs.take 2000) hb.take p1 ⟨by omega, by omega⟩
  refine ⟨g, M.take n, ⟨hg, by simp; omega, fun t ht => a3 t (List.mem_of_mem_take ht)⟩, ?_⟩
  generalize bs.take 2000 = b0 at *
  obtain ⟨x, y, z, rfl⟩ := len3 a2
  have hn : n = 0 ∨ n = 1 ∨ n = 2 ∨ n = 3 := by simp at a1; omega
  rcases hn with rfl | rfl | rfl | rfl
  all_goals
    refine z19 z26 Tryz.func94 rfl rfl 15 Tryz.ntmps94 (by simp) ?_
    repeat' ((first | (apply AWP.go ok; rfl) | ((first | (apply z8 [] [] [1] (co); rfl; (focus ((repeat' exact z6) <;> fail))) | (apply z8 [1] [] [2] (c1); rfl; (focus ((repeat' first | exact z6 | apply z7) <;> rfl))) | (apply z8 [1] [] [] (c2); rfl; (focus ((repeat' first | exact z6 | apply z7) <;> rfl))) | (apply z8 [1] [] [] (c3); rfl; (focus ((repeat' first | exact z6 | apply z7) <;> rfl)))); rfl; rfl; rfl; rfl; rfl; (focus ((repeat' first | exact z17 | apply z15) <;> first | exact z25 rfl rfl | (refine z29 ?_; ((exact z12 fun _ => rfl))))); (exact .inl rfl))) <;> conv => whnf)
    all_goals (refine RetS.lay [] [2] rfl rfl rfl ?_; refine RetS.done ?_ ?_ <;> (repeat' (first | exact LocLe.refl _ | exact F2.nil)))
end Go.Proofs.YtknlmbniicacmaaGreat

namespace Go.Proofs.YtknlmbniicacmaaGreat
open Go.Gl
attribute [local irreducible] z35

theorem wpInts_ok (a b : List Int) (ha : a.length ≤ maxLen) (hb : b.length ≤ maxLen) : CallsA Tryz.prog 22 [lst 1 enI a, lst 1 enI b] [] (.bool (decide (a = b))) [] := by
  unfold maxLen at ha hb
  refine z14 z26 Tryz.func22 rfl rfl 26 Tryz.ntmps22 (by simp) ?_
  repeat (refine AWP.go ok _ _ _ _ _ rfl ?_)
  refine z21 (fun h => ?_) (fun h => ?_)
  · repeat (refine AWP.go ok _ _ _ _ _ rfl ?_)
    have hne : a ≠ b := by rintro rfl; exact h rfl
    rw [decide_eq_false hne]
    exact ⟨[], by decide, rfl, rfl, ACle.of_eq rfl, trivial⟩
  · have hl : a.length = b.length := by omega
    repeat (refine AWP.go ok _ _ _ _ _ rfl ?_)
    refine awp_loop (fun k : Nat => ([(0, lst 1 enI a), (1, lst 1 enI b), (5, .int k)], [])) (fun k => k ≤ a.length ∧ a.take k = b.take k) (fun k => a.length - k) 0 (by simp)
      ⟨[], rfl, by decide, rfl, ⟨⟨rfl, rfl⟩, ⟨rfl, rfl⟩, ⟨rfl, rfl⟩, trivial⟩, trivial⟩ ?_
    intro k hk
    repeat (refine AWP.go ok _ _ _ _ _ rfl ?_)
    refine z10 (fun h => ?_) (fun h => ?_)
    · have hka : k < a.length := by omega
      repeat (first | refine AWP.go ok _ _ _ _ _ rfl ?_ | refine And.intro (by omega) ?_)
      refine ⟨_, map_get _ _ _ (by omega), ?_⟩
      repeat ((refine And.intro (by omega) ?_))
      refine ⟨_, map_get _ _ _ (by omega), ?_⟩
      repeat (first | refine AWP.go ok _ _ _ _ _ rfl ?_ | refine z30 (by kernel_rfl) ?_)
      refine z21 (fun h => ?_) (fun h => ?_)
      · repeat (refine AWP.go ok _ _ _ _ _ rfl ?_)
        have hne : a ≠ b := by rintro rfl; exact h rfl
        rw [decide_eq_false hne]
        exact ⟨[], by decide, rfl, rfl, ACle.of_eq rfl, trivial⟩
      · repeat (first | refine AWP.go ok _ _ _ _ _ rfl ?_ | refine And.intro (by first | omega | (unfold inI; omega)) ?_)
        refine ⟨k + 1, [], ⟨by omega, ?_⟩, by omega, rfl, by decide, rfl, ⟨⟨rfl, rfl⟩, ⟨rfl, rfl⟩, ⟨rfl, rfl⟩, trivial⟩, trivial⟩
        have h' : a[k] = b[k] := h
        rw [List.take_succ_eq_append_getElem hka, List.take_succ_eq_append_getElem (by omega), hk.2, h']
    · repeat (refine AWP.go ok _ _ _ _ _ rfl ?_)
      have he : a = b := by
        have := hk.2
        rwa [List.take_of_length_le (by omega), List.take_of_length_le (by omega)] at this
      rw [decide_eq_true he]
      exact ⟨[], by decide, rfl, rfl, ACle.of_eq rfl, trivial⟩
end Go.Proofs.YtknlmbniicacmaaGreat

namespace Go.Proofs.YtknlmbniicacmaaGreat
open Go.Gl
attribute [local irreducible] z35 AWP z65 z78 z74 RetS z97

theorem valsB_of {v : List Int} (h : ValsOk v) : valsB v = true := by
  unfold valsB
  rw [Bool.and_eq_true, decide_eq_true_eq, Bool.not_eq_true', List.any_eq_false]
  exact ⟨by have := h.1; omega, fun x hx => by have := h.2 x hx; rw [Bool.not_eq_true, Bool.not_eq_false', z52]; exact this⟩
end Go.Proofs.YtknlmbniicacmaaGreat

namespace Go.Proofs.YtknlmbniicacmaaGreat
open Go.Gl
attribute [local irreducible] z35 AWP z65 z78 z74

/-- how many numbers have occurred -/
def mst (bl : List Int) : Nat → Int
  | 0 => 0
  | i + 1 => if bl.getD i 0 = mst bl i then mst bl i + 1 else mst bl i
theorem mst_range (bl : List Int) (i : Nat) : 0 ≤ mst bl i ∧ mst bl i ≤ i := by
  induction i with
  | zero => exact ⟨Int.le_refl _, Int.le_refl _⟩
  | succ i ih => rw [mst]; split <;> omega
def PartP (bl : List Int) : Prop := ∀ i (h : i < bl.length), 0 ≤ bl[i] ∧ bl[i] ≤ mst bl i
noncomputable instance {bl : List Int} : Decidable (PartP bl) := Classical.propDecidable _

theorem isPartition_ok (bl : List Int) (hl : bl.length ≤ 1048576) (n : Int) : CallsA Tryz.prog 173 [ints bl, .int n] [] (.bool (decide (PartP bl) && decide ((bl.length : Int) = n))) [] := by
  refine z14 z26 Tryz.func173 rfl rfl 28 Tryz.ntmps173 (by simp) ?_
  repeat' ((apply AWP.go ok; rfl; conv => whnf))
  refine z100 (fun i : Nat => ([(0, ints bl), (1, .int n), (5, .int (mst bl i)), (8, ints bl), (9, .int bl.length), (10, .int i)], [])) (fun i => i ≤ bl.length ∧ ∀ j (h : j < bl.length), j < i → 0 ≤ bl[j] ∧ bl[j] ≤ mst bl j) (fun i => bl.length - i) 0 ⟨by omega, fun j _ h => by omega⟩ ⟨[], rfl, by decide, rfl, ⟨⟨rfl, rfl⟩, ⟨rfl, rfl⟩, ⟨rfl, rfl⟩, ⟨rfl, rfl⟩, ⟨rfl, rfl⟩, ⟨rfl, rfl⟩, trivial⟩, trivial⟩ ?_
  rintro i ⟨hi1, hi2⟩
  have hm := mst_range bl i
  by_cases hil : i < bl.length
  · have c1 := in_ok bl[i] 0 (mst bl i)
    have em : mst bl (i + 1) = if bl[i] = mst bl i then mst bl i + 1 else mst bl i := by rw [mst, z20 hil]
    by_cases hb : 0 ≤ bl[i] ∧ bl[i] ≤ mst bl i
    · rw [z52.2 hb] at c1
      have hok : ∀ j (h : j < bl.length), j < i + 1 → 0 ≤ bl[j] ∧ bl[j] ≤ mst bl j := fun j hj hji => by
        rcases Nat.lt_or_ge j i with h3 | h3
        · exact hi2 j hj h3
        · obtain rfl : j = i := by omega
          exact hb
      by_cases he : bl[i] = mst bl i
      · rw [if_pos he] at em
        repeat' (first | (apply AWP.go ok; rfl; conv => whnf) | (apply And.intro; (first | omega | (unfold inI; omega)); conv => whnf) | (with_reducible apply z13; omega; intro _; conv => whnf) | (apply z10 <;> intro _ <;> conv => whnf) | (apply z11 (c1); rfl; rfl; conv => whnf))
        all_goals first | (exfalso; omega) | skip
        exact z84 (i + 1) [] ⟨by omega, hok⟩ (by omega) ⟨rfl, by decide, rfl, ⟨⟨rfl, rfl⟩, ⟨rfl, rfl⟩, ⟨rfl, env_int em.symm⟩, ⟨rfl, rfl⟩, ⟨rfl, rfl⟩, ⟨rfl, rfl⟩, trivial⟩, trivial⟩
      · rw [if_neg he] at em
        repeat' (first | (apply AWP.go ok; rfl; conv => whnf) | (apply And.intro; (first | omega | (unfold inI; omega)); conv => whnf) | (with_reducible apply z13; omega; intro _; conv => whnf) | (apply z10 <;> intro _ <;> conv => whnf) | (apply z11 (c1); rfl; rfl; conv => whnf))
        all_goals first | (exfalso; omega) | skip
        exact z84 (i + 1) [] ⟨by omega, hok⟩ (by omega) ⟨rfl, by decide, rfl, ⟨⟨rfl, rfl⟩, ⟨rfl, rfl⟩, ⟨rfl, env_int em.symm⟩, ⟨rfl, rfl⟩, ⟨rfl, rfl⟩, ⟨rfl, rfl⟩, trivial⟩, trivial⟩
    · rw [btw_no.2 hb] at c1
      have hno : ¬ PartP bl := fun h => hb (h i hil)
      repeat' (first | (apply AWP.go ok; rfl; conv => whnf) | (apply And.intro; (omega); conv => whnf) | (with_reducible apply z13; omega; intro _; conv => whnf) | (apply z10 <;> intro _ <;> conv => whnf) | (apply z11 (c1); rfl; rfl; conv => whnf))
      all_goals first | (exfalso; omega) | skip
      exact z24 rfl (by rw [decide_eq_false hno]; rfl)
  · have hp : PartP bl := fun j hj => hi2 j hj (by omega)
    repeat' (first | (apply AWP.go ok; rfl; conv => whnf) | (apply And.intro; (omega); conv => whnf) | (with_reducible apply z13; omega; intro _; conv => whnf) | (apply z10 <;> intro _ <;> conv => whnf))
    all_goals first | (exfalso; omega) | skip
    exact z24 rfl (by rw [decide_eq_true hp]; rfl)

noncomputable def bvB (g : Graph) (bl : List Int) : Bool := z125 g && (decide (PartP bl) && decide ((bl.length : Int) = g.st.length))
theorem implBlocksValid_ok (g : Graph) (hg : g.mx) (bl : List Int) (hl : bl.length ≤ 1048576) : CallsA Tryz.prog 89 [.agg g.cs, ints bl] [] (.bool (bvB g bl)) [] := by
  have c1 := graphValid_ok g hg
  have c2 := isPartition_ok bl hl g.st.length
  unfold bvB
  generalize z125 g = q at *
  refine z14 z26 Tryz.func89 rfl rfl 14 Tryz.ntmps89 (by simp) ?_
  cases q
  all_goals repeat' (first | (apply AWP.go ok; rfl; conv => whnf) | (apply z11 (c1); rfl; rfl; conv => whnf) | (apply z11 (c2); rfl; rfl; conv => whnf))
  all_goals exact z24 rfl rfl
end Go.Proofs.YtknlmbniicacmaaGreat

namespace Go.Proofs.YtknlmbniicacmaaGreat
open Go.Gl
attribute [local irreducible] z35 AWP z65 z78 z74

def pick (bl : List Int) (p : Int) : Int := bl.getD p.toNat 0
theorem picked_new (bl places : List Int) (hl : places.length ≤ 1048576) (hp : InN bl.length places) (hb : bl.length ≤ 1048576) : CallsA Tryz.prog 90 [ints bl, ints places] [] (.sref 0 0 places.length) [.cells 1 ((places.map (pick bl)).map enI)] := by
  refine z14 z26 Tryz.func90 rfl rfl 27 Tryz.ntmps90 (by simp) ?_
  repeat' (first | (apply AWP.go ok; rfl; conv => whnf) | (apply And.intro; ((dsimp only; omega)); conv => whnf))
  refine z100 (fun k : Nat => ([(0, ints bl), (5, .sref 0 0 places.length), (11, ints places), (12, .int places.length), (13, .int k)], [.cells 1 ((places.take k).map (fun p => enI (pick bl p)) ++ List.replicate (places.length - k) [.int 0])])) (fun k => k ≤ places.length) (fun k => places.length - k) 0 (by omega) ⟨[0], rfl, by decide, rfl, ⟨⟨rfl, rfl⟩, ⟨rfl, rfl⟩, ⟨rfl, rfl⟩, ⟨rfl, rfl⟩, ⟨rfl, rfl⟩, trivial⟩, ⟨z41 (by rfl) (z58 (z12 fun _ => rfl) (z31 rfl)), trivial⟩⟩ ?_
  intro k hk
  by_cases hkl : k < places.length
  · have hx := hp places[k] (List.getElem_mem _)
    have hxb : places[k].toNat < bl.length := by omega
    repeat' (first | (apply AWP.go ok; rfl; conv => whnf) | (apply And.intro; (first | omega | (unfold inI; omega)); conv => whnf) | (with_reducible apply z13; omega; intro _; conv => whnf) | (with_reducible apply z43; omega; intro _; conv => whnf) | (apply z48; omega; conv => whnf) | (apply z10 <;> intro _ <;> conv => whnf))
    all_goals first | (exfalso; omega) | skip
    exact z84 (k + 1) [0] (by omega) (by omega) ⟨rfl, by decide, rfl, ⟨⟨rfl, rfl⟩, ⟨rfl, rfl⟩, ⟨rfl, rfl⟩, ⟨rfl, rfl⟩, ⟨rfl, rfl⟩, trivial⟩, ⟨obj_fill hkl rfl (Int.toNat_natCast k) (by unfold pick; rw [z20 hxb]; rfl) (fun _ => rfl) rfl, trivial⟩⟩
  · repeat' (first | (apply AWP.go ok; rfl; conv => whnf) | (apply And.intro; (omega); conv => whnf) | (with_reducible apply z13; omega; intro _; conv => whnf) | (with_reducible apply z43; omega; intro _; conv => whnf) | (apply z48; omega; conv => whnf) | (apply z10 <;> intro _ <;> conv => whnf))
    all_goals first | (exfalso; omega) | skip
    obtain rfl : k = places.length := by omega
    exact ret_new rfl (z12 fun _ => rfl) rfl (by rw [fill_end _ _ _ _ rfl, List.map_map]; rfl)

end Go.Proofs.YtknlmbniicacmaaGreat

namespace Go.Proofs.YtknlmbniicacmaaGreat
open Go.Gl
attribute [local irreducible] z35 AWP z65 z78 z74

theorem bor_rows {objs : Nat → AObj} {π Bn : List Nat} {o n : Nat} {l : List (List Int)} (ho : objs o = .cells 1 (l.map ownRow)) (h1 : idx π o = none) (h2 : inB Bn o = true) (hl : l.length = n) : bor objs π Bn (.sref o 0 n) = lst 1 encL l := by
  subst hl; exact bor_list ho h1 h2 (by simp) (rows_unown l)
def sameK (keys : List (List Int)) (i k : Nat) : Bool := decide (keys.getD k [] = keys.getD i [])

theorem l10Number_of (keys : List (List Int)) (hk : keys.length ≤ 1048576) (same : Nat → Nat → Bool) (hl2 : ∀ i k (hi : i < keys.length) (hk : k < i), CallsA Tryz.prog 227 [ints keys[k], ints keys[i]] [] (.bool (same i k)) []) : CallsA Tryz.prog 171 [lst 1 encL keys] [] (.sref 0 0 keys.length) [.cells 1 ((numF same keys.length).1.map enI)] := by
  have hlen := z77 same keys.length
  refine z14 z26 Tryz.func171 rfl rfl 47 Tryz.ntmps171 (by simp) ?_
  repeat' ((apply AWP.go ok; rfl; conv => whnf))
  refine z100 (fun i : Nat => ([(0, lst 1 encL keys), (3, .sref 0 0 i), (4, .int ((numF same i).2 : Int)), (5, .int i)], [.cells 1 (((numF same keys.length).1.take i).map enI)])) (fun i => i ≤ keys.length) (fun i => keys.length - i) 0 (by omega) ⟨[0], rfl, by decide, rfl, ⟨⟨rfl, rfl⟩, ⟨rfl, rfl⟩, ⟨rfl, rfl⟩, ⟨rfl, rfl⟩, trivial⟩, ⟨z41 rfl (z12 fun _ => rfl), trivial⟩⟩ ?_
  intro i hi
  by_cases hin : i < keys.length
  · have hc := (numF_lt same i).2
    repeat' (first | (apply AWP.go ok; rfl; conv => whnf) | (apply z10 <;> intro _ <;> conv => whnf))
    · refine z100 (fun x : Nat × Int => ([(0, lst 1 encL keys), (3, .sref 0 0 i), (4, .int ((numF same i).2 : Int)), (5, .int i), (6, .int x.2), (7, .int x.1)], [.cells 1 (((numF same keys.length).1.take i).map enI)])) (fun x => x.1 ≤ i ∧ ((x.2 = -1 ∧ ∀ j, j < x.1 → same i j = false) ∨ (∃ k', ∃ hk : k' < (numF same keys.length).1.length, x.1 = k' + 1 ∧ k' < i ∧ same i k' = true ∧ (∀ j, j < k' → same i j = false) ∧ x.2 = (numF same keys.length).1[k']))) (fun x => i - x.1) (0, -1) ⟨by omega, .inl ⟨rfl, fun j hj => by omega⟩⟩ ⟨[0], rfl, by decide, rfl, ⟨⟨rfl, rfl⟩, ⟨rfl, rfl⟩, ⟨rfl, rfl⟩, ⟨rfl, rfl⟩, ⟨rfl, rfl⟩, ⟨rfl, rfl⟩, trivial⟩, ⟨z41 rfl (z12 fun _ => rfl), trivial⟩⟩ ?_
      rintro ⟨k, b⟩ ⟨hk1, ⟨rfl, hk2⟩ | ⟨k', hk', rfl, hk3, hk4, hk5, rfl⟩⟩
      · dsimp only at hk1 hk2 ⊢
        by_cases hki : k < i
        · have hg : (((numF same keys.length).1.take i).map enI)[k]? = some (enI ((numF same keys.length).1[k]'(by omega))) := take_got hki (by omega)
          repeat' (first | (apply AWP.go ok; rfl; conv => whnf) | (apply z30; kernel_rfl; conv => whnf) | (apply z32; (exact Int.toNat_natCast k); exact hg; conv => whnf) | (apply And.intro; (first | omega | (unfold inI; omega)); conv => whnf) | (with_reducible apply z13; omega; intro _; conv => whnf) | (apply z10 <;> intro _ <;> conv => whnf) | (apply z55 <;> intro _ <;> conv => whnf) | (apply z11 (hl2 i k hin hki); rfl; rfl; conv => whnf))
          all_goals first | (exfalso; omega) | skip
          · exact z84 (k + 1, (numF same keys.length).1[k]'(by omega)) [0] ⟨by dsimp only; omega, .inr ⟨k, by omega, rfl, hki, by assumption, hk2, rfl⟩⟩ (by dsimp only; omega) ⟨rfl, by decide, rfl, ⟨⟨rfl, rfl⟩, ⟨rfl, rfl⟩, ⟨rfl, rfl⟩, ⟨rfl, rfl⟩, ⟨rfl, rfl⟩, ⟨rfl, rfl⟩, trivial⟩, ⟨z41 rfl (z12 fun _ => rfl), trivial⟩⟩
          · refine z84 (k + 1, -1) [0] ⟨by dsimp only; omega, .inl ⟨rfl, fun j hj => ?_⟩⟩ (by dsimp only; omega) ⟨rfl, by decide, rfl, ⟨⟨rfl, rfl⟩, ⟨rfl, rfl⟩, ⟨rfl, rfl⟩, ⟨rfl, rfl⟩, ⟨rfl, rfl⟩, ⟨rfl, rfl⟩, trivial⟩, ⟨z41 rfl (z12 fun _ => rfl), trivial⟩⟩
            dsimp only at hj
            rcases Nat.lt_or_ge j k with h3 | h3
            · exact hk2 j h3
            · obtain rfl : j = k := by omega
              assumption
        · obtain rfl : k = i := by omega
          obtain ⟨h3, h4⟩ := z116 hin hk2
          repeat' (first | (apply AWP.go ok; rfl; conv => whnf) | (apply And.intro; (first | omega | (unfold inI; omega) | ((try dsimp only); simp only [List.length_map, List.length_take, List.length_append, List.length_replicate, List.length_cons, List.length_nil]; omega) | exact ⟨rfl, z18 rfl z23⟩); conv => whnf) | (with_reducible apply z13; omega; intro _; conv => whnf) | (apply z10 <;> intro _ <;> conv => whnf))
          all_goals first | (exfalso; omega) | skip
          exact z84 (k + 1) [2] (by omega) (by omega) ⟨rfl, by decide, rfl, ⟨⟨rfl, rfl⟩, ⟨rfl, rfl⟩, ⟨rfl, env_int (by rw [h4]; simp)⟩, ⟨rfl, rfl⟩, trivial⟩, ⟨obj_app (by omega) _ rfl rfl (by rw [h3]; rfl) (fun _ => rfl), trivial⟩⟩
      · obtain ⟨h3, h4⟩ := z109 hin hk3 hk4 hk5
        have hlt := numF_lt' (same := same) (n := keys.length) hi hk3
        dsimp only
        generalize (numF same keys.length).1[k'] = b at h3 hlt
        repeat' (first | (apply AWP.go ok; rfl; conv => whnf) | (apply And.intro; (first | omega | (unfold inI; omega) | ((try dsimp only); simp only [List.length_map, List.length_take, List.length_append, List.length_replicate, List.length_cons, List.length_nil]; omega) | exact ⟨rfl, z18 rfl z23⟩); conv => whnf) | (with_reducible apply z13; omega; intro _; conv => whnf) | (apply z10 <;> intro _ <;> conv => whnf))
        all_goals first | (exfalso; omega) | skip
        all_goals exact z84 (i + 1) [2] (by omega) (by omega) ⟨rfl, by decide, rfl, ⟨⟨rfl, rfl⟩, ⟨rfl, rfl⟩, ⟨rfl, env_int (by rw [h4])⟩, ⟨rfl, rfl⟩, trivial⟩, ⟨obj_app (by omega) _ rfl rfl (by rw [h3]; rfl) (fun _ => rfl), trivial⟩⟩
    · omega
  · repeat' (first | (apply AWP.go ok; rfl; conv => whnf) | (apply z10 <;> intro _ <;> conv => whnf))
    all_goals first | (exfalso; omega) | skip
    obtain rfl : i = keys.length := by omega
    exact ret_new rfl (z12 fun _ => rfl) rfl (by rw [List.take_of_length_le (by omega)])

theorem l10Number_new (keys : List (List Int)) (hk : keys.length ≤ 1048576) (hm : ∀ r ∈ keys, r.length ≤ maxLen) : CallsA Tryz.prog 171 [lst 1 encL keys] [] (.sref 0 0 keys.length) [.cells 1 ((numF (sameK keys) keys.length).1.map enI)] :=
  l10Number_of keys hk (sameK keys) fun i k hi hk => by
    have e : sameK keys i k = decide (keys[k] = keys[i]) := by
      unfold sameK; rw [z20 hi, z20 (by omega)]
    rw [e]; exact l2Ints_ok _ _ (hm _ (List.getElem_mem _)) (hm _ (List.getElem_mem _))

/-- the program's and the reference's blocks -/
noncomputable def lblB (g : Graph) (l : List Tree) : List Int := if glB g l then (numF (sameL (g.st.map (z63 l))) g.st.length).1 else []
theorem specLabelBlocks_ok (g : Graph) (hg : g.mx) (l : List Tree) (hl : Lmx l) : CallsA Tryz.prog 225 [.agg g.cs, lst 3 Tree.cs' l] [] (.tup [ints (lblB g l), .bool (glB g l)]) [] := by
  have k1 := specLabelGraph_ok g hg l hl
  by_cases h : glB g l = true
  · have hG := (z90 g).1 (by unfold glB at h; exact (Bool.and_eq_true_iff.1 h).1)
    have e : lblB g l = (numF (sameL (g.st.map (z63 l))) g.st.length).1 := by unfold lblB; rw [if_pos h]
    rw [if_pos h, h] at k1
    have hlen : (g.st.map (z63 l)).length ≤ 60 := by rw [List.length_map]; exact hG.1.2
    have e3 : numF (sameL (g.st.map (z63 l))) g.st.length = numF (sameK ((g.st.map (z63 l)).map fun x => [x])) ((g.st.map (z63 l)).map fun x => [x]).length := by
      rw [List.length_map, List.length_map]
      refine numF_congr fun i k hk hi => ?_
      unfold sameL sameK
      have h1 : i < (g.st.map (z63 l)).length := by rw [List.length_map]; exact hi
      rw [z20 h1, z20 (by omega), z20 (by rw [List.length_map]; omega), z20 (by rw [List.length_map]; omega), List.getElem_map, List.getElem_map]
      simp [eq_comm]
    rw [e3] at e
    have hb : lblB g l = (numF (sameK ((g.st.map (z63 l)).map fun x => [x])) ((g.st.map (z63 l)).map fun x => [x]).length).1 := e
    rw [hb, h]
    generalize g.st.map (z63 l) = ls at *
    have k2 := l10Number_new (ls.map fun x => [x]) (by rw [List.length_map]; omega) (fun r hr => by
      obtain ⟨x, _, rfl⟩ := List.mem_map.1 hr
      simp [maxLen])
    rw [List.length_map] at k2 ⊢
    have key : CallsA Tryz.prog 225 [.agg g.cs, lst 3 Tree.cs' l] [] (.tup [.sref 0 0 ls.length, .bool true]) [.cells 1 ((numF (sameK (ls.map fun x => [x])) ls.length).1.map enI)] := by
      refine z14 z26 Tryz.func225 rfl rfl 36 Tryz.ntmps225 (by simp) ?_
      repeat' (first | (apply AWP.go ok; rfl; conv => whnf) | (apply z11 (k1); rfl; rfl; conv => whnf))
      refine z100 (fun i : Nat => ([(6, ints ls), (7, .bool true), (8, .sref 0 0 i), (9, .int i)], [.cells 1 ((ls.take i).map fun x => ownRow [x])])) (fun i => i ≤ ls.length) (fun i => ls.length - i) 0 (by omega) ⟨[1], rfl, by decide, rfl, ⟨⟨rfl, rfl⟩, ⟨rfl, rfl⟩, ⟨rfl, rfl⟩, ⟨rfl, rfl⟩, trivial⟩, ⟨z41 rfl (z12 fun _ => rfl), trivial⟩⟩ ?_
      intro i hi
      by_cases hil : i < ls.length
      · repeat' (first | ((fail_if_success apply stopAt 7); (fail_if_success apply z139 7); apply AWP.go ok; rfl; conv => whnf) | (apply And.intro; (first | omega | ((try dsimp only); simp only [List.length_map, List.length_take, List.length_append, List.length_replicate, List.length_cons, List.length_nil]; omega) | exact ⟨rfl, z18 rfl z23⟩); conv => whnf) | (with_reducible apply z13; omega; intro _; conv => whnf) | (apply z10 <;> intro _ <;> conv => whnf))
        · refine AWP.reach (Gl.Reach.absorb 3 1 i 0 rfl (app_last (app_len hi rfl)) rfl rfl rfl rfl (flat_cons rfl z49) rfl) ?_
          conv => whnf
          repeat' (first | (apply AWP.go ok; rfl; conv => whnf) | (apply And.intro; ((unfold inI; omega)); conv => whnf))
          refine z84 (i + 1) [3] (by omega) (by omega) ⟨rfl, by decide, rfl, ⟨⟨rfl, rfl⟩, ⟨rfl, rfl⟩, ⟨rfl, rfl⟩, ⟨rfl, rfl⟩, trivial⟩, ⟨z41 (z64 (app_fin hil rfl rfl)) (z12 fun _ => rfl), trivial⟩⟩
        · omega
      · obtain rfl : i = ls.length := by omega
        rw [List.take_length]
        repeat' (first | (apply AWP.go ok; rfl; conv => whnf) | (apply And.intro; (omega); conv => whnf) | (with_reducible apply z13; omega; intro _; conv => whnf) | (apply z10 <;> intro _ <;> conv => whnf) | (apply z8 [] [0] [1] (k2); (focus (exact z54 (bor_rows (l := ls.map fun x => [x]) (by show AObj.cells 1 _ = _; rw [List.map_map]; rfl) rfl rfl (by simp)) z94)); (focus ((repeat' (exact z6)) <;> (fail))); rfl; rfl; rfl; rfl; rfl; (focus ((repeat' (first | exact z17 | apply z15)) <;> ((refine z29 ?_; ((exact z12 (fun _ => rfl))))))); ((refine .inr ⟨rfl, ?_⟩; repeat' (first | exact True.intro | apply And.intro | exact z98 (fun _ => rfl) _))); conv => whnf))
        all_goals first | (exfalso; omega) | skip
        exact z96 [1] (by decide) rfl rfl rfl ⟨z41 rfl (z12 fun _ => rfl), trivial⟩
    have := key.keepT (L := (numF (sameK (ls.map fun x => [x])) ls.length).1.map enI) (z136 _ _) (by rw [List.length_map, z77]) rfl
    unfold ints
    rw [z77]
    exact this
  · have h := (Bool.not_eq_true _).mp h
    have e : lblB g l = [] := by unfold lblB; rw [h]; rfl
    rw [h] at k1
    rw [e, h]
    refine z14 z26 Tryz.func225 rfl rfl 36 Tryz.ntmps225 (by simp) ?_
    repeat' (first | (apply AWP.go ok; rfl; conv => whnf) | (apply z11 (k1); rfl; rfl; conv => whnf))
    exact ret_le rfl rfl (tup_le2 sref_le)
end Go.Proofs.YtknlmbniicacmaaGreat

namespace Go.Proofs.YtknlmbniicacmaaGreat
open Go.Gl
attribute [local irreducible] z35 AWP z65 z78 z74

end Go.Proofs.YtknlmbniicacmaaGreat

namespace Go.Proofs
open Go.Shelf
def Tryz.lays189_ren : Go.Shelf.Ren := ⟨fun | 189 => 232 | 125 => 275 | 257 => 274 | 128 => 313 | 129 => 314 | 294 => 304 | 295 => 305 | 296 => 306 | 297 => 307 | 298 => 308 | 299 => 309 | 216 => 310 | 300 => 311 | 301 => 312 | 328 => 329 | 329 => 330 | 330 => 331 | 331 => 332 | 332 => 333 | 215 => 334 | 343 => 346 | n => n, fun | 28 => 28 | 3 => 3 | 46 => 257 | 0 => 0 | 51 => 319 | 53 => 321 | 4 => 4 | 183 => 313 | 182 => 312 | 131 => 260 | 5 => 5 | 9 => 9 | 218 => 329 | 222 => 291 | 228 => 337 | 229 => 262 | n => n, fun | n => n⟩
theorem Tryz.lays189 : Go.Proofs.Lays.n189 Tryz.prog Tryz.lays189_ren := {
  mixed := by kernel_rfl
  f125 := Tryz.func275.trans (congrArg some (by kernel_rfl))
  f128 := Tryz.func313.trans (congrArg some (by kernel_rfl))
  f129 := Tryz.func314.trans (congrArg some (by kernel_rfl))
  f189 := Tryz.func232.trans (congrArg some (by kernel_rfl))
  f215 := Tryz.func334.trans (congrArg some (by kernel_rfl))
  f216 := Tryz.func310.trans (congrArg some (by kernel_rfl))
  f257 := Tryz.func274.trans (congrArg some (by kernel_rfl))
  f294 := Tryz.func304.trans (congrArg some (by kernel_rfl))
  f295 := Tryz.func305.trans (congrArg some (by kernel_rfl))
  f296 := Tryz.func306.trans (congrArg some (by kernel_rfl))
  f297 := Tryz.func307.trans (congrArg some (by kernel_rfl))
  f298 := Tryz.func308.trans (congrArg some (by kernel_rfl))
  f299 := Tryz.func309.trans (congrArg some (by kernel_rfl))
  f300 := Tryz.func311.trans (congrArg some (by kernel_rfl))
  f301 := Tryz.func312.trans (congrArg some (by kernel_rfl))
  f328 := Tryz.func329.trans (congrArg some (by kernel_rfl))
  f329 := Tryz.func330.trans (congrArg some (by kernel_rfl))
  f330 := Tryz.func331.trans (congrArg some (by kernel_rfl))
  f331 := Tryz.func332.trans (congrArg some (by kernel_rfl))
  f332 := Tryz.func333.trans (congrArg some (by kernel_rfl))
  f343 := Tryz.func346.trans (congrArg some (by kernel_rfl))
  t0 := Tryz.underlying0
  a0 := Tryz.isAgg0
  z0 := Tryz.sizeOf0
  v0 := Tryz.zeroValue0
  t3 := Tryz.underlying3
  a3 := Tryz.isAgg3
  z3 := Tryz.sizeOf3
  v3 := Tryz.zeroValue3
  t4 := Tryz.underlying4
  a4 := Tryz.isAgg4
  z4 := Tryz.sizeOf4
  v4 := Tryz.zeroValue4
  t5 := Tryz.underlying5
  a5 := Tryz.isAgg5
  z5 := Tryz.sizeOf5
  v5 := Tryz.zeroValue5
  t9 := Tryz.underlying9
  a9 := Tryz.isAgg9
  z9 := Tryz.sizeOf9
  v9 := Tryz.zeroValue9
  t28 := Tryz.underlying28
  a28 := Tryz.isAgg28
  z28 := Tryz.sizeOf28
  v28 := Tryz.zeroValue28
  t46 := Tryz.underlying257
  a46 := Tryz.isAgg257
  z46 := Tryz.sizeOf257
  v46 := Tryz.zeroValue257
  t51 := Tryz.underlying319
  a51 := Tryz.isAgg319
  z51 := Tryz.sizeOf319
  v51 := Tryz.zeroValue319
  t53 := Tryz.underlying321
  a53 := Tryz.isAgg321
  z53 := Tryz.sizeOf321
  v53 := Tryz.zeroValue321
  t131 := Tryz.underlying260
  a131 := Tryz.isAgg260
  z131 := Tryz.sizeOf260
  v131 := Tryz.zeroValue260
  t182 := Tryz.underlying312
  a182 := Tryz.isAgg312
  z182 := Tryz.sizeOf312
  v182 := Tryz.zeroValue312
  t183 := Tryz.underlying313
  a183 := Tryz.isAgg313
  z183 := Tryz.sizeOf313
  v183 := Tryz.zeroValue313
  t218 := Tryz.underlying329
  a218 := Tryz.isAgg329
  z218 := Tryz.sizeOf329
  v218 := Tryz.zeroValue329
  t222 := Tryz.underlying291
  a222 := Tryz.isAgg291
  z222 := Tryz.sizeOf291
  v222 := Tryz.zeroValue291
  t228 := Tryz.underlying337
  a228 := Tryz.isAgg337
  z228 := Tryz.sizeOf337
  v228 := Tryz.zeroValue337
  t229 := Tryz.underlying262
  a229 := Tryz.isAgg262
  z229 := Tryz.sizeOf262
  v229 := Tryz.zeroValue262 }
open Go.Sort Go.RowKit in
theorem Tryz.slices_Sort_int (blk off cap : Nat) (zs : List Int) (w : World) (hH : Holds (Value.int .i64) w blk off zs.toArray) (hblk : blk < w.heap.size) (hsz : zs.length < 4611686018427387904) :
    Calls Tryz.prog 232 #[.slice (some ⟨blk, off, none⟩) zs.length cap] w fun e w' =>
      e = .returned (.tuple #[]) ∧ ∃ n os, w' = grow (putRow (Value.int .i64) (Sort.ahead w n) blk off (zs.mergeSort fun x y => decide (x ≤ y)).toArray) os := Any.slices_Sort_int Tryz.lays189 blk off cap zs w hH hblk hsz
def Tryz.laysNm220_ren : Go.Shelf.Ren := ⟨fun | 20 => 233 | n => n, fun | 22 => 28 | 3 => 3 | 4 => 4 | 0 => 0 | n => n, fun | n => n⟩
theorem Tryz.laysNm220 : Go.Proofs.Lays2.n20 Tryz.prog Tryz.laysNm220_ren := {
  mixed := by kernel_rfl
  f20 := Tryz.func233.trans (congrArg some (by kernel_rfl))
  t0 := Tryz.underlying0
  a0 := Tryz.isAgg0
  z0 := Tryz.sizeOf0
  v0 := Tryz.zeroValue0
  t3 := Tryz.underlying3
  a3 := Tryz.isAgg3
  z3 := Tryz.sizeOf3
  v3 := Tryz.zeroValue3
  t4 := Tryz.underlying4
  a4 := Tryz.isAgg4
  z4 := Tryz.sizeOf4
  v4 := Tryz.zeroValue4
  t22 := Tryz.underlying28
  a22 := Tryz.isAgg28
  z22 := Tryz.sizeOf28
  v22 := Tryz.zeroValue28
  i3 := by kernel_rfl }
open Go.RowKit Go.Lib Go.Sort in
theorem Tryz.slices_Compact_int (blk off cap : Nat) (zs : List Int) (w : World) (hH : Holds (Value.int .i64) w blk off zs.toArray) (hsz : zs.length ≤ 9223372036854775807) (hcap : zs.length ≤ cap) :
    Calls Tryz.prog 233 #[.slice (some ⟨blk, off, none⟩) zs.length cap] w fun e w' => e = .returned (.slice (some ⟨blk, off, none⟩) (Lib.compact zs).length cap) ∧ ∃ q, w' = putRow (Value.int .i64) (Sort.ahead w q) blk off (Lib.compact zs ++ List.replicate (zs.length - (Lib.compact zs).length) 0).toArray := Any.slices_Compact_int Tryz.laysNm220 blk off cap zs w hH hsz hcap
end Go.Proofs

namespace Go.Proofs.YtknlmbniicacmaaGreat
open Go.Gl
attribute [local irreducible] z35 AWP z65 z78 z74

theorem GB.row {g : Graph} (h : GB g) : ∀ i (hi : i < g.nx.length), 1 ≤ g.nx[i].length ∧ g.nx[i].length ≤ 60 ∧ InN g.st.length g.nx[i] := fun i hi => by
  obtain ⟨⟨g1, g2⟩, g3, g4⟩ := h
  have h4 := g4 i hi hi (by omega)
  refine ⟨by have := h4.2.1; omega, by have := h4.2.1; omega, fun x hx => ?_⟩
  obtain ⟨j, hj, rfl⟩ := List.mem_iff_getElem.1 hx
  have := (h4.2.2.2 j hj hj).1
  omega

theorem sort_ok (l : List Int) (hp : 0 < l.length) (hl : l.length ≤ 1048576) : CallsA Tryz.prog 232 [.sref 0 0 l.length] [.cells 1 (l.map enI)] (.tup []) [.cells 1 ((l.mergeSort fun x y => decide (x ≤ y)).map enI)] := by
  refine callsA_inplace (r := l.mergeSort fun x y => decide (x ≤ y)) (by rw [List.length_mergeSort]) hp (fun _ _ h => h) (isFunc_of Tryz.func232 rfl (by rfl)) fun blk cap w hH hb hc => ?_
  refine (Tryz.slices_Sort_int blk 0 cap l w hH hb (by omega)).mono ?_
  rintro e w' ⟨rfl, n, os, rfl⟩
  exact ⟨_, rfl, ⟨n, os, rfl⟩, fun G h size _ _ => by simp only [V, VL]; exact ⟨#[], rfl, rfl, trivial⟩⟩

theorem compact_ok (z : List Int) (hp : 0 < z.length) (hl : z.length ≤ 1048576) : CallsA Tryz.prog 233 [.sref 0 0 z.length] [.cells 1 (z.map enI)] (.sref 0 0 (Lib.compact z).length) [.cells 1 ((Lib.compact z).map enI)] := by
  have hle : (Lib.compact z).length ≤ z.length := by
    have : ∀ m, (Lib.compactUpTo z.toArray m).length ≤ m := by
      intro m
      induction m with
      | zero => simp [Lib.compactUpTo]
      | succ m ih => rw [Lib.compactUpTo_succ]; split <;> simp <;> omega
    exact this _
  refine callsA_inplace (r := Lib.compact z ++ List.replicate (z.length - (Lib.compact z).length) 0) (by simp; omega) hp (fun i x h => by
    rw [List.getElem?_append_left (List.getElem?_eq_some_iff.1 h).1]; exact h) (isFunc_of Tryz.func233 rfl (by rfl)) fun blk cap w hH hb hc => ?_
  refine (Tryz.slices_Compact_int blk 0 cap z w hH (by omega) hc).mono ?_
  rintro e w' ⟨rfl, n, rfl⟩
  refine ⟨_, rfl, ⟨n, #[], by simp⟩, fun G h size hι hsz => ?_⟩
  simp only [V]
  exact ⟨cap, by omega, .inr ⟨blk, size, 1, hι, by omega, by simp⟩⟩

theorem equalI_ok (a b : List Int) (ha : a.length ≤ maxLen) (hb : b.length ≤ maxLen) : CallsA Tryz.prog 107 [ints a, ints b] [] (.bool (decide (a = b))) [] := by
  unfold maxLen at ha hb
  refine z14 z26 Tryz.func107 rfl rfl 26 Tryz.ntmps107 (by simp) ?_
  by_cases hl : a.length = b.length
  · repeat' (first | (apply AWP.go ok; rfl; conv => whnf) | (apply z21 <;> intro _ <;> conv => whnf))
    all_goals first | (exfalso; omega) | skip
    refine z100 (fun k : Nat => ([(0, ints a), (1, ints b), (12, .int a.length), (13, .int k)], [])) (fun k => k ≤ a.length ∧ a.take k = b.take k) (fun k => a.length - k) 0 (by simp) ⟨[], rfl, by decide, rfl, ⟨⟨rfl, rfl⟩, ⟨rfl, rfl⟩, ⟨rfl, rfl⟩, ⟨rfl, rfl⟩, trivial⟩, trivial⟩ ?_
    rintro k ⟨hk1, hk2⟩
    by_cases hkl : k < a.length
    · have hkb : k < b.length := by omega
      by_cases he : a[k] = b[k]
      · repeat' (first | (apply AWP.go ok; rfl; conv => whnf) | (apply z30; kernel_rfl; conv => whnf) | (apply And.intro; (first | omega | (unfold inI; omega)); conv => whnf) | (with_reducible apply z13; omega; intro _; conv => whnf) | (apply z10 <;> intro _ <;> conv => whnf) | (apply z21 <;> intro _ <;> conv => whnf))
        all_goals first | (exfalso; omega) | skip
        refine z84 (k + 1) [] ⟨by omega, ?_⟩ (by omega) ⟨rfl, by decide, rfl, ⟨⟨rfl, rfl⟩, ⟨rfl, rfl⟩, ⟨rfl, rfl⟩, ⟨rfl, rfl⟩, trivial⟩, trivial⟩
        rw [List.take_succ_eq_append_getElem hkl, List.take_succ_eq_append_getElem hkb, hk2, he]
      · have hne : a ≠ b := by rintro rfl; exact he rfl
        repeat' (first | (apply AWP.go ok; rfl; conv => whnf) | (apply z30; kernel_rfl; conv => whnf) | (apply And.intro; (omega); conv => whnf) | (with_reducible apply z13; omega; intro _; conv => whnf) | (apply z10 <;> intro _ <;> conv => whnf) | (apply z21 <;> intro _ <;> conv => whnf))
        all_goals first | (exfalso; omega) | skip
        exact z24 rfl (decide_eq_false hne)
    · repeat' (first | (apply AWP.go ok; rfl; conv => whnf) | (apply z30; kernel_rfl; conv => whnf) | (apply And.intro; (omega); conv => whnf) | (with_reducible apply z13; omega; intro _; conv => whnf) | (apply z10 <;> intro _ <;> conv => whnf) | (apply z21 <;> intro _ <;> conv => whnf))
      all_goals first | (exfalso; omega) | skip
      rw [List.take_of_length_le (by omega), List.take_of_length_le (by omega)] at hk2
      exact z24 rfl (decide_eq_true hk2)
  · have hne : a ≠ b := by rintro rfl; exact hl rfl
    repeat' (first | (apply AWP.go ok; rfl; conv => whnf) | (apply z21 <;> intro _ <;> conv => whnf))
    all_goals first | (exfalso; omega) | skip
    exact z24 rfl (decide_eq_false hne)
end Go.Proofs.YtknlmbniicacmaaGreat

