/- Bisimulation is monotonic in the labels: with more labels that distinguish states, the bisimulation is finer. The law FnBisimulationFiner returns true at every input and leaves its input as it was. No condition. -/
import Derived.Test.YtppafngcahgagaaGreatG0
import Derived.Test.YtppafngcahgagaaGreatG1
import Derived.Test.YtppafngcahgagaaGreatG2
import Derived.Test.YtppafngcahgagaaGreatP0
import Derived.Test.YtppafngcahgagaaGreatP1
import Derived.Test.YtppafngcahgagaaGreatP2
import Derived.Test.YtppafngcahgagaaGreatP3
import Derived.Test.YtppafngcahgagaaGreatP4
import Derived.Test.YtppafngcahgagaaGreatP5
import Derived.Test.YtppafngcahgagaaGreatP6
set_option linter.all false
namespace Go.Proofs.YtppafngcahgagaaGreat
open Go.Gl
attribute [local irreducible] z31 AWP z50 z58 z55 RetS z87

theorem ltr3 (v : List Int) (x y z : Tree) : ltr v [x, y, z] 0 0 = (if x.ev v = 0 then 0 else 1) + (if y.ev v = 0 then 0 else 2) + (if z.ev v = 0 then 0 else 4) := by
  simp only [ltr]
  split <;> split <;> split <;> rfl
theorem ltr3_iff (v w : List Int) (x y z : Tree) : ltr v [x, y, z] 0 0 = ltr w [x, y, z] 0 0 ↔ (x.ev v = 0 ↔ x.ev w = 0) ∧ (y.ev v = 0 ↔ y.ev w = 0) ∧ (z.ev v = 0 ↔ z.ev w = 0) := by
  rw [ltr3, ltr3]
  by_cases a : x.ev v = 0 <;> by_cases b : y.ev v = 0 <;> by_cases c : z.ev v = 0 <;> by_cases a' : x.ev w = 0 <;> by_cases b' : y.ev w = 0 <;> by_cases c' : z.ev w = 0 <;> simp [a, b, c, a', b', c']
theorem zero_ev (v : List Int) : (leaf 1 0).ev v = 0 := by simp [leaf, Tree.ev]
theorem fewer_ls {g : Graph} {x y z x' y' z' : Tree} (hx : x' = x ∨ x' = leaf 1 0) (hy : y' = y ∨ y' = leaf 1 0) (hz : z' = z ∨ z' = leaf 1 0) {i j : Nat} (h : lsT g [x, y, z] i = lsT g [x, y, z] j) : lsT g [x', y', z'] i = lsT g [x', y', z'] j := by
  unfold lsT z39 at h ⊢
  have h1 := (ltr3_iff _ _ x y z).1 (by exact_mod_cast h)
  have h2 := (ltr3_iff (g.st.getD i ⟨[], []⟩).b (g.st.getD j ⟨[], []⟩).b x' y' z').2 ⟨by rcases hx with rfl | rfl; exact h1.1; simp [zero_ev], by rcases hy with rfl | rfl; exact h1.2.1; simp [zero_ev], by rcases hz with rfl | rfl; exact h1.2.2; simp [zero_ev]⟩
  rw [h2]
theorem finer_eq {g : Graph} (hG : GB g) {l l' : List Tree} (h : ∀ i j, lsT g l i = lsT g l j → lsT g l' i = lsT g l' j) {i j : Nat} (hi : i < g.st.length) (hj : j < g.st.length) (e : (bisF g l).getD i 0 = (bisF g l).getD j 0) : (bisF g l').getD i 0 = (bisF g l').getD j 0 := by
  rw [bisF_M] at e ⊢
  exact bisM_mono hG.inG (fun i j hi hj e => (bis0_iff g l' hi hj).2 (h i j ((bis0_iff g l hi hj).1 e))) _ i j hi hj e
theorem finer_cnt {g : Graph} (hG : GB g) {l l' : List Tree} (h : ∀ i j, lsT g l i = lsT g l j → lsT g l' i = lsT g l' j) : mstD (bisF g l') (bisF g l').length ≤ mstD (bisF g l) (bisF g l).length := by
  obtain ⟨κ, hκ⟩ := bisF_num g l hG.1.1
  obtain ⟨κ', hκ'⟩ := bisF_num g l' hG.1.1
  have h1 := (numK_finer (κ := κ') (κ' := κ) (n := g.st.length) (fun a b ha hb e => by
    have := (numK_getD κ ha hb).2 e
    rw [← hκ] at this
    have := finer_eq hG h ha hb this
    rw [hκ'] at this
    exact (numK_getD κ' ha hb).1 this) _ (Nat.le_refl _)).1
  rw [z99, z99, hκ, hκ']
  have e1 := numF_mstD (fun i k => decide (κ k = κ i)) g.st.length _ (Nat.le_refl _)
  have e2 := numF_mstD (fun i k => decide (κ' k = κ' i)) g.st.length _ (Nat.le_refl _)
  have e1' : mstD (numK κ g.st.length).1 g.st.length = ((numK κ g.st.length).2 : Int) := e1
  have e2' : mstD (numK κ' g.st.length).1 g.st.length = ((numK κ' g.st.length).2 : Int) := e2
  rw [e1', e2']
  omega
theorem leaf_good : (leaf 1 0).exprB = true := by decide

set_option maxHeartbeats 6400000 in
theorem lawFnBisimulationFiner (c : List Int) (hc : CodeOk c) (d : List Int) (hd : CodeOk d) : CallsA Tryz.prog 8 [lst 1 enU c, lst 1 enU d] [] (.bool true) [] := by
  obtain ⟨g, l, ⟨hg, hl⟩, cd⟩ := drawBisimulation_ok c hc
  have hgm := hg.mx
  have hlm := hl.mx
  have hst := hg.st
  have hlen := hc.len
  have hlen2 := hd.len
  unfold maxLen at hlen hlen2
  have k1 := z80 g hgm l hlm
  have k2 := z118 g hgm l hlm
  have bl := bisR_le g l
  have k3 := wpInts_ok (bisR g l) (bisR g l) (by unfold maxLen; omega) (by unfold maxLen; omega)
  rw [decide_eq_true rfl] at k3
  by_cases h : glB g l = true
  · obtain ⟨hG, hL⟩ := glB_GB h
    have e : bisR g l = bisF g l := by unfold bisR; rw [if_pos h]
    obtain ⟨x, y, z, rfl⟩ := len3 hL.1
    have q0 := Int.emod_nonneg (d.length : Int) (show (3 : Int) ≠ 0 by omega)
    have q1 := Int.emod_lt_of_pos (d.length : Int) (show (0 : Int) < 3 by omega)
    have hex : ∃ x' y' z', (x' = x ∨ x' = leaf 1 0) ∧ (y' = y ∨ y' = leaf 1 0) ∧ (z' = z ∨ z' = leaf 1 0) ∧ (((d.length : Int) % 3 = 0 ∧ x' = leaf 1 0 ∧ y' = y ∧ z' = z) ∨ ((d.length : Int) % 3 = 1 ∧ x' = x ∧ y' = leaf 1 0 ∧ z' = z) ∨ ((d.length : Int) % 3 = 2 ∧ x' = x ∧ y' = y ∧ z' = leaf 1 0)) := by
      have : (d.length : Int) % 3 = 0 ∨ (d.length : Int) % 3 = 1 ∨ (d.length : Int) % 3 = 2 := by omega
      rcases this with h | h | h
      · exact ⟨leaf 1 0, y, z, .inr rfl, .inl rfl, .inl rfl, .inl ⟨h, rfl, rfl, rfl⟩⟩
      · exact ⟨x, leaf 1 0, z, .inl rfl, .inr rfl, .inl rfl, .inr (.inl ⟨h, rfl, rfl, rfl⟩)⟩
      · exact ⟨x, y, leaf 1 0, .inl rfl, .inl rfl, .inr rfl, .inr (.inr ⟨h, rfl, rfl, rfl⟩)⟩
    obtain ⟨x', y', z', hx, hy, hz, hq⟩ := hex
    have hls := fun i j => fewer_ls (g := g) hx hy hz (i := i) (j := j)
    have hl' : Lab.d [x', y', z'] := ⟨by simp, fun t ht => by
      have a := hl.el x (by simp)
      have b := hl.el y (by simp)
      have c := hl.el z (by simp)
      have d : (leaf 1 0).sz ≤ 5 := by rw [z78]; omega
      simp only [List.mem_cons, List.not_mem_nil, or_false] at ht
      rcases ht with rfl | rfl | rfl
      · rcases hx with rfl | rfl <;> assumption
      · rcases hy with rfl | rfl <;> assumption
      · rcases hz with rfl | rfl <;> assumption⟩
    have h' : glB g [x', y', z'] = true := by
      unfold glB at h ⊢
      rw [(Bool.and_eq_true_iff.1 h).1, Bool.true_and]
      have hb := (Bool.and_eq_true_iff.1 h).2
      unfold labelsB at hb ⊢
      simp only [List.all_cons, List.all_nil, Bool.and_true, Bool.and_eq_true, List.length_cons, List.length_nil, decide_eq_true_eq] at hb ⊢
      obtain ⟨_, b1, b2, b3⟩ := hb
      refine ⟨rfl, ?_, ?_, ?_⟩
      · rcases hx with rfl | rfl; exact b1; exact leaf_good
      · rcases hy with rfl | rfl; exact b2; exact leaf_good
      · rcases hz with rfl | rfl; exact b3; exact leaf_good
    have k4 := z80 g hgm [x', y', z'] hl'.mx
    have e' : bisR g [x', y', z'] = bisF g [x', y', z'] := by unfold bisR; rw [if_pos h']
    have hp := bisF_part g [x, y, z]
    have hp' := bisF_part g [x', y', z']
    have hBl := z99 g [x, y, z]
    have hCl := z99 g [x', y', z']
    rw [← hBl] at hp
    rw [← hCl] at hp'
    have k5 := wpBlocks_ok _ (by rw [hBl]; omega) hp
    have k6 := wpBlocks_ok _ (by rw [hCl]; omega) hp'
    have hle := finer_cnt hG hls
    have hfin : ∀ i j, i < g.st.length → j < g.st.length → (bisF g [x, y, z]).getD i 0 = (bisF g [x, y, z]).getD j 0 → (bisF g [x', y', z']).getD i 0 = (bisF g [x', y', z']).getD j 0 := fun i j hi hj => finer_eq hG hls hi hj
    have h60 := hG.1
    have ed := decide_eq_true hle
    rw [e, h] at k1 k2
    rw [e] at k3
    rw [e', h'] at k4
    generalize bisF g [x, y, z] = B at *
    generalize bisF g [x', y', z'] = C at *
    generalize mstD B B.length = nB at *
    generalize mstD C C.length = nC at *
    refine z18 z23 Tryz.func8 rfl rfl 116 Tryz.ntmps8 (by simp) ?_
    repeat' ((first | ((fail_if_success apply stopAt 10); (fail_if_success apply stopAtS 10); apply AWP.go ok; rfl) | (apply And.intro; first | omega | ((try dsimp only); simp only [List.length_map, List.length_take, List.length_append, List.length_replicate, List.length_cons, List.length_nil]; omega) | exact z125 (fun _ => rfl)) | ((apply z8) <;> intro _) | (apply z12 (cd); rfl; rfl) | (apply z12 (k1); rfl; rfl) | (apply z12 (k2); rfl; rfl) | (apply z12 (k3); rfl; rfl)) <;> conv => whnf)
    all_goals first | (refine RetS.lay [] [] rfl rfl rfl ?_; refine RetS.done ?_ ?_ <;> (repeat' (first | exact LocLe.refl _ | exact F2.nil))) | skip
    rcases hq with ⟨hq0, ex, ey, ez⟩ | ⟨hq0, ex, ey, ez⟩ | ⟨hq0, ex, ey, ez⟩
    all_goals
      rw [hq0]
      refine ⟨_, rfl, ?_⟩
      conv => whnf
      repeat' ((fail) <;> conv => whnf)
      refine AWP.reach (SealW.reach (env := [(5, .ptr 0 none 0), (7, ints B), (11, lst 3 Tree.cs' [x', y', z'])]) (objs := [.cells 2 [g.cs]]) [0] [2] rfl rfl rfl rfl ?_ ?_) ?_
      · subst ex ey ez; (repeat' (first | exact LocLe.refl _ | exact z44 | exact F2.nil | apply F2.cons | ((apply z47 rfl rfl rfl); (focus ((repeat (first | exact z42 (fun _ => rfl) _ | apply unown_st)); done)); (focus ((rfl); done))) | (apply z86; rfl) | exact True.intro | apply And.intro))
      · subst ex ey ez; (repeat' (first | exact LocLe.refl _ | exact F2.nil | apply F2.cons | apply ObjLe.box))
      conv => whnf
      repeat' ((first | (apply AWP.go ok; rfl) | (apply z12 (k4); rfl; rfl)) <;> conv => whnf)
      all_goals skip
      refine z119 (fun i : Nat => ([(7, ints B), (12, ints C), (13, .bool true), (14, .int i)], [])) (fun i => i ≤ B.length) (fun i => B.length - i) 0 (by omega) (by refine SealW.reach [] [] rfl rfl rfl rfl ?_ ?_ <;> (repeat' (first | exact LocLe.refl _ | exact F2.nil | exact True.intro | apply And.intro))) ?_
      intro i hi
      by_cases hil : i < B.length
      · have gi : (B.map enI)[i]? = some (enI (B.getD i 0)) := by rw [List.getElem?_map, List.getElem?_eq_getElem hil, z20 hil]; rfl
        have ci : (C.map enI)[i]? = some (enI (C.getD i 0)) := by rw [List.getElem?_map, List.getElem?_eq_getElem (by omega), z20 (by omega)]; rfl
        repeat' ((first | (apply AWP.go ok; rfl) | ((apply z8) <;> intro _)) <;> conv => whnf)
        all_goals first | (exfalso; omega) | skip
        refine z119 (fun k : Nat => ([(7, ints B), (12, ints C), (13, .bool true), (14, .int i), (15, .int k)], [])) (fun k => k ≤ i) (fun k => i - k) 0 (by omega) (by refine SealW.reach [] [] rfl rfl rfl rfl ?_ ?_ <;> (repeat' (first | exact LocLe.refl _ | exact F2.nil | exact True.intro | apply And.intro))) ?_
        intro k hk
        by_cases hki : k < i
        · have gk : (B.map enI)[k]? = some (enI (B.getD k 0)) := by rw [List.getElem?_map, List.getElem?_eq_getElem (by omega), z20 (by omega)]; rfl
          have ck : (C.map enI)[k]? = some (enI (C.getD k 0)) := by rw [List.getElem?_map, List.getElem?_eq_getElem (by omega), z20 (by omega)]; rfl
          have hf := hfin i k (by omega) (by omega)
          generalize B.getD i 0 = bi at *
          generalize C.getD i 0 = ci at *
          generalize B.getD k 0 = bk at *
          generalize C.getD k 0 = ck at *
          by_cases he : bi = bk
          · have := hf he
            subst he this
            repeat' ((first | (apply AWP.go ok; rfl) | (apply z37; kernel_rfl) | (refine z21 (i := i) rfl gi ?_) | (refine z21 (i := k) rfl gk ?_) | (refine z21 (i := i) rfl ci ?_) | (refine z21 (i := k) rfl ck ?_) | (apply And.intro; first | omega | (unfold inI; omega)) | ((first | apply z8 | apply z32) <;> intro _)) <;> conv => whnf)
            all_goals first | (exfalso; omega) | skip
            all_goals refine z63 (k + 1) (by omega) (by omega) (by refine SealW.reach [] [] rfl rfl rfl rfl ?_ ?_ <;> (repeat' (first | exact LocLe.refl _ | exact F2.nil | exact True.intro | apply And.intro)))
          · repeat' ((first | (apply AWP.go ok; rfl) | (apply z37; kernel_rfl) | (refine z21 (i := i) rfl gi ?_) | (refine z21 (i := k) rfl gk ?_) | (refine z21 (i := i) rfl ci ?_) | (refine z21 (i := k) rfl ck ?_) | (apply And.intro; first | omega | (unfold inI; omega)) | ((first | apply z8 | apply z32) <;> intro _)) <;> conv => whnf)
            all_goals first | (exfalso; omega) | skip
            all_goals refine z63 (k + 1) (by omega) (by omega) (by refine SealW.reach [] [] rfl rfl rfl rfl ?_ ?_ <;> (repeat' (first | exact LocLe.refl _ | exact F2.nil | exact True.intro | apply And.intro)))
        · repeat' ((first | (apply AWP.go ok; rfl) | (apply z37; kernel_rfl) | (apply And.intro; first | omega | (unfold inI; omega)) | (((with_reducible apply z15; omega)); intro _) | ((first | apply z8 | apply z32) <;> intro _)) <;> conv => whnf)
          all_goals first | (exfalso; omega) | skip
          all_goals refine z63 (i + 1) (by omega) (by omega) (by refine SealW.reach [] [] rfl rfl rfl rfl ?_ ?_ <;> (repeat' (first | exact LocLe.refl _ | exact F2.nil | exact True.intro | apply And.intro)))
      · repeat' ((first | (apply AWP.go ok; rfl) | ((apply z8) <;> intro _) | (apply z12 (k5); rfl; rfl) | (apply z12 (k6); rfl; rfl)) <;> conv => whnf)
        all_goals first | (exfalso; omega) | (refine RetS.lay [] [] rfl rfl rfl ?_; exact RetS.done (bool_le ed) .nil)
  · rw [(Bool.not_eq_true _).mp h] at k1 k2
    refine z18 z23 Tryz.func8 rfl rfl 116 Tryz.ntmps8 (by simp) ?_
    repeat' ((first | (apply AWP.go ok; rfl) | ((apply z8) <;> intro _) | (apply z12 (cd); rfl; rfl) | (apply z12 (k1); rfl; rfl) | (apply z12 (k2); rfl; rfl) | (apply z12 (k3); rfl; rfl)) <;> conv => whnf)
    all_goals (refine RetS.lay [] [] rfl rfl rfl ?_; refine RetS.done ?_ ?_ <;> (repeat' (first | exact LocLe.refl _ | exact F2.nil)))
end Go.Proofs.YtppafngcahgagaaGreat

namespace Go.Proofs.YtppafngcahgagaaGreat
open Go.Gl
open Go.ChangeShapes Go.WideShapes Go.ChangeAt Go.RowKit
attribute [local irreducible] z31 AWP z50 z58 z55
namespace FnBisimulationFiner
theorem args_ok : ArgsOk Tryz.prog Tryz.f8.params.toList (fun xs _ => ∃ (c : List Int) (d : List Int), xs = [lst 1 enU c, lst 1 enU d] ∧ CodeOk c ∧ CodeOk d) := by
  rw [Tryz.params8]
  refine ArgsOk.imp (args_cons ad_code (args_cons ad_code (args_nil))) ?_
  rintro xs m ⟨c, _, rfl, hc, d, _, rfl, hd, rfl⟩
  exact ⟨c, d, rfl, hc, hd⟩

set_option maxRecDepth 100000 in
theorem contract (H : Type) (enc : TypeId × Value → H) (W : World) (base : Nat) (args : Array Value) (ds gs : List (DataW H)) (before : List MemPlace)
    (hval : ∀ (j : Nat) t v, Tryz.f8.params[j]? = some t → args[j]? = some v → Value.okWide Tryz.prog W .any base t v)
    (hW : DataW.Whole enc Tryz.prog Tryz.f8.params.toList Rows.fnBisimulationFinerSpec.vars false W args.toList ds gs before) :
    Calls Tryz.prog 8 args W fun e W' => ∃ v, e = .returned v ∧ Rows.fnBisimulationFinerSpec.post enc Tryz.prog Tryz.f8 false true false false W args v W' := by
  refine law_post bulk_sizeOf laidOut_ok (by rw [Tryz.params8]; decide +kernel) rfl (fun ds h => ?_) (by kernel_rfl) Tryz.underlying4 args_ok (fun xs m h _ => ?_) hval hW
  · rw [Tryz.params8] at h
    match ds, h with
    | [_, _], _ => rfl
  · obtain ⟨c, d, rfl, hc, hd⟩ := h
    exact lawFnBisimulationFiner c hc d hd

noncomputable def w0 (os : Os) : World := World.holding Tryz.prog os ⟨#[], #[], []⟩
def zeros : Array Value := #[.slice none 0 0, .slice none 0 0]
theorem reads (os : Os) {H : Type} (enc : TypeId × Value → H) : ∃ places, DataW.whole enc Tryz.prog ((w0 os).forCall (fun _ _ => 0) ⟨#[], zeros, []⟩).memory Tryz.f8.params.toList Rows.fnBisimulationFinerSpec.vars false zeros.toList 8 = some ([.nil, .nil], [], places) :=
  ⟨[], by kernel_rfl⟩

set_option maxRecDepth 100000 in
theorem lifted (os : Os) (started : os.Started) (H : Type) (enc : TypeId × Value → H) (F : Stop.Interp) :
    ReturnsInHanded {} Tryz.checked os 8 .any ((OpenSpec.ofChange Rows.fnBisimulationFinerSpec).preRow enc Tryz.prog Tryz.f8 Rows.fnBisimulationFinerRow.domain false Rows.fnBisimulationFinerRow.laid) (((OpenSpec.ofChange Rows.fnBisimulationFinerSpec).at F).post enc Tryz.prog Tryz.f8 false true false false) := by
  obtain ⟨places, hx⟩ := reads os enc
  refine returnsInHanded_of_row (C := Tryz.checked) (s := OpenSpec.ofChange Rows.fnBisimulationFinerSpec) own started (by kernel_rfl) Tryz.func8
    (witness_row_at (enc := enc) (C := Tryz.checked) false (w0 os) zeros rfl (by kernel_rfl) (by kernel_rfl) (by kernel_rfl)
      (OpenSpec.preRow_of_cond 8 hx (by kernel_rfl) (fun k hk => by cases hk) (by kernel_rfl) (laidMetH_nil _ _))) ?_
  intro W base args ds gs before hval hW _ _ _ _ _ _
  exact contract H enc W base args ds gs before hval hW

set_option maxHeartbeats 40000000 in
set_option maxRecDepth 100000 in
theorem closed : joinedFacts Tryz.prog 8 Tryz.f8 (OpenSpec.ofChange Rows.fnBisimulationFinerSpec).bare Rows.fnBisimulationFinerRow = true := by
  unfold joinedFacts
  repeat' (with_reducible apply and_mk)
  all_goals (as_aux_lemma => kernel_rfl)
theorem proved : Rows.FnBisimulationFinerSaid :=
  OpenClaim.holds_of_cond 8 Tryz.f8 rfl rfl rfl rfl rfl rfl rfl ⟨rfl, rfl, rfl, rfl, rfl⟩ rfl rfl rfl rfl rfl (by kernel_rfl) Tryz.func8 closed
    (of_decide_eq_true (by kernel_rfl)) (by unfold Func.isWrapper; first | (rw [if_pos (by decide +kernel)]; kernel_rfl) | (rw [if_neg (by decide +kernel)]; exact ⟨rfl, rfl⟩))
    (fun os started H enc _ F => by rw [OpenClaim.pre_eq_preRow]; exact lifted os started H enc F)
end FnBisimulationFiner
end Go.Proofs.YtppafngcahgagaaGreat

