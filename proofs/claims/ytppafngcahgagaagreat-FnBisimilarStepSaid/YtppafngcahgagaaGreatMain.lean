/- Bisimilar states simulate each other: each successor of a state has a bisimilar one among the successors of a bisimilar state. The law FnBisimilarStep returns true at every input and leaves its input as it was. No condition. -/
import Derived.Test.YtppafngcahgagaaGreatG0
import Derived.Test.YtppafngcahgagaaGreatG1
import Derived.Test.YtppafngcahgagaaGreatG2
import Derived.Test.YtppafngcahgagaaGreatP0
import Derived.Test.YtppafngcahgagaaGreatP1
import Derived.Test.YtppafngcahgagaaGreatP2
import Derived.Test.YtppafngcahgagaaGreatP3
import Derived.Test.YtppafngcahgagaaGreatP4
import Derived.Test.YtppafngcahgagaaGreatP5
import Derived.Test.YtppafngcahgagaaGreatP6
set_option linter.all false
namespace Go.Proofs.YtppafngcahgagaaGreat
open Go.Gl
attribute [local irreducible] z31 AWP z50 z58 z55 RetS z87

theorem take_any {α : Type} (p : α → Bool) (l : List α) (k : Nat) (h : k < l.length) : (l.take (k + 1)).any p = ((l.take k).any p || p l[k]) := by
  rw [List.take_succ_eq_append_getElem h, List.any_append]; simp
theorem bim_step {g : Graph} {l : List Tree} {a b : Nat} (h : bimB g l a b = true) : ∀ x ∈ g.nx.getD a [], ((g.nx.getD b []).any fun y => bimB g l x y) = true := by
  intro x hx
  obtain ⟨h1, ⟨_, h2⟩, ⟨_, h3⟩, h4⟩ := z129.1 h
  obtain ⟨hG, _⟩ := glB_GB h1
  rw [Int.toNat_natCast, Int.toNat_natCast] at h4
  obtain ⟨y, hy, e⟩ := bisF_stb g l a b (by omega) (by omega) h4 x hx
  rw [List.any_eq_true]
  refine ⟨y, hy, z129.2 ⟨h1, rowInN hG.inG a x hx, rowInN hG.inG b y hy, e.symm⟩⟩

set_option maxHeartbeats 3200000 in
theorem lawFnBisimilarStep (c : List Int) (hc : CodeOk c) : CallsA Tryz.prog 6 [lst 1 enU c] [] (.bool true) [] := by
  obtain ⟨g, l, i, j, ⟨hg, hl, hi, hj⟩, cd⟩ := drawBim_ok c hc
  have hgm := hg.mx
  have hlm := hl.mx
  have hst := hg.st
  have hlen := hc.len
  unfold maxLen at hlen
  have k1 := z88 g hgm l hlm (by omega) i j hi hj
  have k2 := specBisimilar_ok g hgm l hlm (by omega) i j hi hj
  by_cases hb : bimB g l i j = true
  · obtain ⟨h1, h2, h3, _⟩ := z129.1 hb
    obtain ⟨hG, _⟩ := glB_GB h1
    have hnx : g.nx.length = g.st.length := hG.2.1
    obtain ⟨a, rfl⟩ : ∃ a : Nat, i = a := ⟨i.toNat, by omega⟩
    obtain ⟨b, rfl⟩ : ∃ b : Nat, j = b := ⟨j.toNat, by omega⟩
    have hstep := bim_step hb
    have g1 : (g.nx.map encL)[a]? = some (encL (g.nx.getD a [])) := by rw [List.getElem?_map, List.getElem?_eq_getElem (by omega), z20 (by omega)]; rfl
    have g2 : (g.nx.map encL)[b]? = some (encL (g.nx.getD b [])) := by rw [List.getElem?_map, List.getElem?_eq_getElem (by omega), z20 (by omega)]; rfl
    have r1 := rowInN hG.inG a
    have r2 := rowInN hG.inG b
    have r3 := (GB.row hG a (by omega)).2.1
    have r4 := (GB.row hG b (by omega)).2.1
    rw [← z20 (d := []) (show a < g.nx.length by omega)] at r3
    rw [← z20 (d := []) (show b < g.nx.length by omega)] at r4
    generalize g.nx.getD a [] = ra at *
    generalize g.nx.getD b [] = rb at *
    have cB := fun x y hx hy => z88 g hgm l hlm (by omega) x y hx hy
    rw [hb] at k1 k2
    refine z18 z23 Tryz.func6 rfl rfl 88 Tryz.ntmps6 (by simp) ?_
    repeat' ((first | (apply AWP.go ok; rfl) | ((apply z8) <;> intro _) | (apply z12 (cd); rfl; rfl) | (apply z12 (k1); rfl; rfl) | (apply z12 (k2); rfl; rfl)) <;> conv => whnf)
    all_goals first | (refine RetS.lay [] [] rfl rfl rfl ?_; refine RetS.done ?_ ?_ <;> (repeat' (first | exact LocLe.refl _ | exact F2.nil))) | skip
    refine z119 (fun k : Nat => ([(3, .ptr 0 none 0), (4, lst 3 Tree.cs' l), (5, .int a), (6, .int b), (8, .int k)], [.cells 2 [g.cs]])) (fun k => k ≤ ra.length) (fun k => ra.length - k) 0 (by omega) (by refine SealW.reach [0] [] rfl rfl rfl rfl ?_ ?_ <;> (repeat' (first | exact LocLe.refl _ | exact F2.nil | apply F2.cons | apply ObjLe.box | exact True.intro | apply And.intro))) ?_
    intro k hk
    by_cases hkl : k < ra.length
    · have gx : (ra.map enI)[k]? = some (enI ra[k]) := by rw [List.getElem?_map, List.getElem?_eq_getElem hkl]; rfl
      have hx := r1 ra[k] (List.getElem_mem hkl)
      have hany := hstep ra[k] (List.getElem_mem hkl)
      have cB := fun y hy => cB ra[k] y (by unfold inI; omega) hy
      generalize ra[k] = x at *
      repeat' ((first | (apply AWP.go ok; rfl) | (refine z21 (i := a) rfl g1 ?_) | (apply And.intro; omega) | ((apply z8) <;> intro _)) <;> conv => whnf)
      all_goals first | (exfalso; omega) | skip
      refine z119 (fun z : Nat × Bool => ([(3, .ptr 0 none 0), (4, lst 3 Tree.cs' l), (5, .int a), (6, .int b), (8, .int k), (9, .bool z.2), (10, .int z.1)], [.cells 2 [g.cs]])) (fun z => z.1 ≤ rb.length ∧ ((rb.take z.1).any fun y => bimB g l x y) = z.2) (fun z => rb.length - z.1) (0, false) ⟨Nat.zero_le _, rfl⟩ (by refine SealW.reach [0] [] rfl rfl rfl rfl ?_ ?_ <;> (repeat' (first | exact LocLe.refl _ | exact F2.nil | apply F2.cons | apply ObjLe.box | exact True.intro | apply And.intro))) ?_
      rintro ⟨m, s⟩ ⟨hm, hs⟩
      dsimp only at hm hs ⊢
      by_cases hml : m < rb.length
      · have gy : (rb.map enI)[m]? = some (enI rb[m]) := by rw [List.getElem?_map, List.getElem?_eq_getElem hml]; rfl
        have hy := r2 rb[m] (List.getElem_mem hml)
        have ht := take_any (fun y => bimB g l x y) rb m hml
        rw [hs] at ht
        have cB := cB rb[m] (by unfold inI; omega)
        generalize rb[m] = y at *
        cases s
        · rw [Bool.false_or] at ht
          generalize bimB g l x y = z at *
          repeat' ((first | (apply AWP.go ok; rfl) | (apply z37; kernel_rfl) | (refine z21 (i := b) rfl g2 ?_) | (refine z21 (i := a) rfl g1 ?_) | (refine z21 (i := k) rfl gx ?_) | (refine z21 (i := m) rfl gy ?_) | (apply And.intro; first | omega | (unfold inI; omega)) | ((apply z8) <;> intro _) | (apply z12 (cB); rfl; rfl)) <;> conv => whnf)
          all_goals first | (exfalso; omega) | skip
          all_goals refine z63 (m + 1, z) ⟨by show m + 1 ≤ _; omega, ht⟩ (by show rb.length - (m + 1) < rb.length - m; omega) (by refine SealW.reach [0] [] rfl rfl rfl rfl ?_ ?_ <;> (repeat' (first | exact LocLe.refl _ | exact F2.nil | apply F2.cons | apply ObjLe.box | exact True.intro | apply And.intro)))
        · repeat' ((first | (apply AWP.go ok; rfl) | (apply z37; kernel_rfl) | (refine z21 (i := b) rfl g2 ?_) | (apply And.intro; first | omega | (unfold inI; omega)) | ((apply z8) <;> intro _)) <;> conv => whnf)
          all_goals first | (exfalso; omega) | skip
          all_goals refine z63 (m + 1, true) ⟨by show m + 1 ≤ _; omega, by rw [ht]; rfl⟩ (by show rb.length - (m + 1) < rb.length - m; omega) (by refine SealW.reach [0] [] rfl rfl rfl rfl ?_ ?_ <;> (repeat' (first | exact LocLe.refl _ | exact F2.nil | apply F2.cons | apply ObjLe.box | exact True.intro | apply And.intro)))
      · obtain rfl : m = rb.length := by omega
        rw [List.take_length] at hs
        obtain rfl : s = true := by rw [← hs]; exact hany
        repeat' ((first | (apply AWP.go ok; rfl) | (apply z37; kernel_rfl) | (refine z21 (i := b) rfl g2 ?_) | (apply And.intro; first | omega | (unfold inI; omega)) | ((apply z8) <;> intro _)) <;> conv => whnf)
        all_goals first | (exfalso; omega) | skip
        all_goals refine z63 (k + 1) (by omega) (by omega) (by refine SealW.reach [0] [] rfl rfl rfl rfl ?_ ?_ <;> (repeat' (first | exact LocLe.refl _ | exact F2.nil | apply F2.cons | apply ObjLe.box | exact True.intro | apply And.intro)))
    · repeat' ((first | (apply AWP.go ok; rfl) | (refine z21 (i := a) rfl g1 ?_) | (apply And.intro; omega) | ((apply z8) <;> intro _)) <;> conv => whnf)
      all_goals first | (exfalso; omega) | (refine RetS.lay [] [] rfl rfl rfl ?_; refine RetS.done ?_ ?_ <;> (repeat' (first | exact LocLe.refl _ | exact F2.nil)))
  · rw [(Bool.not_eq_true _).mp hb] at k1 k2
    refine z18 z23 Tryz.func6 rfl rfl 88 Tryz.ntmps6 (by simp) ?_
    repeat' ((first | (apply AWP.go ok; rfl) | ((apply z8) <;> intro _) | (apply z12 (cd); rfl; rfl) | (apply z12 (k1); rfl; rfl) | (apply z12 (k2); rfl; rfl)) <;> conv => whnf)
    all_goals (refine RetS.lay [] [] rfl rfl rfl ?_; refine RetS.done ?_ ?_ <;> (repeat' (first | exact LocLe.refl _ | exact F2.nil)))
end Go.Proofs.YtppafngcahgagaaGreat

namespace Go.Proofs.YtppafngcahgagaaGreat
open Go.Gl
open Go.ChangeShapes Go.WideShapes Go.ChangeAt Go.RowKit
attribute [local irreducible] z31 AWP z50 z58 z55
namespace FnBisimilarStep
theorem args_ok : ArgsOk Tryz.prog Tryz.f6.params.toList (fun xs _ => ∃ (c : List Int), xs = [lst 1 enU c] ∧ CodeOk c) := by
  rw [Tryz.params6]
  refine ArgsOk.imp (args_cons ad_code (args_nil)) ?_
  rintro xs m ⟨c, _, rfl, hc, rfl⟩
  exact ⟨c, rfl, hc⟩

set_option maxRecDepth 100000 in
theorem contract (H : Type) (enc : TypeId × Value → H) (W : World) (base : Nat) (args : Array Value) (ds gs : List (DataW H)) (before : List MemPlace)
    (hval : ∀ (j : Nat) t v, Tryz.f6.params[j]? = some t → args[j]? = some v → Value.okWide Tryz.prog W .any base t v)
    (hW : DataW.Whole enc Tryz.prog Tryz.f6.params.toList Rows.fnBisimilarStepSpec.vars false W args.toList ds gs before) :
    Calls Tryz.prog 6 args W fun e W' => ∃ v, e = .returned v ∧ Rows.fnBisimilarStepSpec.post enc Tryz.prog Tryz.f6 false true false false W args v W' := by
  refine law_post bulk_sizeOf laidOut_ok (by rw [Tryz.params6]; decide +kernel) rfl (fun ds h => ?_) (by kernel_rfl) Tryz.underlying4 args_ok (fun xs m h _ => ?_) hval hW
  · rw [Tryz.params6] at h
    match ds, h with
    | [_], _ => rfl
  · obtain ⟨c, rfl, hc⟩ := h
    exact lawFnBisimilarStep c hc

noncomputable def w0 (os : Os) : World := World.holding Tryz.prog os ⟨#[], #[], []⟩
def zeros : Array Value := #[.slice none 0 0]
theorem reads (os : Os) {H : Type} (enc : TypeId × Value → H) : ∃ places, DataW.whole enc Tryz.prog ((w0 os).forCall (fun _ _ => 0) ⟨#[], zeros, []⟩).memory Tryz.f6.params.toList Rows.fnBisimilarStepSpec.vars false zeros.toList 8 = some ([.nil], [], places) :=
  ⟨[], by kernel_rfl⟩

set_option maxRecDepth 100000 in
theorem lifted (os : Os) (started : os.Started) (H : Type) (enc : TypeId × Value → H) (F : Stop.Interp) :
    ReturnsInHanded {} Tryz.checked os 6 .any ((OpenSpec.ofChange Rows.fnBisimilarStepSpec).preRow enc Tryz.prog Tryz.f6 Rows.fnBisimilarStepRow.domain false Rows.fnBisimilarStepRow.laid) (((OpenSpec.ofChange Rows.fnBisimilarStepSpec).at F).post enc Tryz.prog Tryz.f6 false true false false) := by
  obtain ⟨places, hx⟩ := reads os enc
  refine returnsInHanded_of_row (C := Tryz.checked) (s := OpenSpec.ofChange Rows.fnBisimilarStepSpec) own started (by kernel_rfl) Tryz.func6
    (witness_row_at (enc := enc) (C := Tryz.checked) false (w0 os) zeros rfl (by kernel_rfl) (by kernel_rfl) (by kernel_rfl)
      (OpenSpec.preRow_of_cond 8 hx (by kernel_rfl) (fun k hk => by cases hk) (by kernel_rfl) (laidMetH_nil _ _))) ?_
  intro W base args ds gs before hval hW _ _ _ _ _ _
  exact contract H enc W base args ds gs before hval hW

set_option maxHeartbeats 40000000 in
set_option maxRecDepth 100000 in
theorem closed : joinedFacts Tryz.prog 6 Tryz.f6 (OpenSpec.ofChange Rows.fnBisimilarStepSpec).bare Rows.fnBisimilarStepRow = true := by
  unfold joinedFacts
  repeat' (with_reducible apply and_mk)
  all_goals (as_aux_lemma => kernel_rfl)
theorem proved : Rows.FnBisimilarStepSaid :=
  OpenClaim.holds_of_cond 6 Tryz.f6 rfl rfl rfl rfl rfl rfl rfl ⟨rfl, rfl, rfl, rfl, rfl⟩ rfl rfl rfl rfl rfl (by kernel_rfl) Tryz.func6 closed
    (of_decide_eq_true (by kernel_rfl)) (by unfold Func.isWrapper; first | (rw [if_pos (by decide +kernel)]; kernel_rfl) | (rw [if_neg (by decide +kernel)]; exact ⟨rfl, rfl⟩))
    (fun os started H enc _ F => by rw [OpenClaim.pre_eq_preRow]; exact lifted os started H enc F)
end FnBisimilarStep
end Go.Proofs.YtppafngcahgagaaGreat

