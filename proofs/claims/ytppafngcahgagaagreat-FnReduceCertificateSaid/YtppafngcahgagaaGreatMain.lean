/- ReduceCertificate keeps the ranks of the reachable nodes of a correct certificate and gives the other nodes no rank; it answers as the document's function does, its answer is a correct certificate again and is reduced to itself. The law FnReduceCertificate returns true at every input and leaves its input as it was. No condition. -/
import Derived.Test.YtppafngcahgagaaGreatG0
import Derived.Test.YtppafngcahgagaaGreatG1
import Derived.Test.YtppafngcahgagaaGreatG2
import Derived.Test.YtppafngcahgagaaGreatG3
import Derived.Test.YtppafngcahgagaaGreatP0
import Derived.Test.YtppafngcahgagaaGreatP1
import Derived.Test.YtppafngcahgagaaGreatP2
import Derived.Test.YtppafngcahgagaaGreatP3
import Derived.Test.YtppafngcahgagaaGreatP4
import Derived.Test.YtppafngcahgagaaGreatP5
import Derived.Test.YtppafngcahgagaaGreatP6
import Derived.Test.YtppafngcahgagaaGreatP7
set_option linter.all false
namespace Go.Proofs.YtppafngcahgagaaGreat
open Go.Gl
attribute [local irreducible] z32 AWP z48 z55 z50 RetS z65

set_option maxHeartbeats 6400000 in
theorem lawFnReduceCertificate (c : List Int) (hc : CodeOk c) : CallsA Tryz.prog 14 [lst 1 enU c] [] (.bool true) [] := by
  obtain ⟨g, l, a, R, ⟨hg, hl, ha, hR⟩, cd⟩ := drawRC_ok c hc
  have hgm := hg.mx
  have hlm := hl.mx
  have hlen := hc.len
  unfold maxLen at hlen
  have ham : a.mx := ⟨by have := ha.1; unfold maxLen; omega, by have := ha.2.1; unfold maxLen; omega, by have := ha.2.2.1; unfold maxLen; omega, ha.2.2.2⟩
  have hcm : (Cert.mk R).mx := by show R.length ≤ maxLen; unfold maxLen; omega
  have k1 := keepC (implReduce_new g hgm l hlm a ham ⟨R⟩ hcm) rfl
  have k2 := specReduce_ok g hgm l hlm a ham ⟨R⟩ hcm
  have hxl := redC_le g l a ⟨R⟩
  have hxm : (redC g l a ⟨R⟩).mx := by unfold Cert.mx maxLen; have : (Cert.mk R).ranks.length = R.length := rfl; omega
  have k3 := wpInts_ok (redC g l a ⟨R⟩).ranks (redC g l a ⟨R⟩).ranks hxm hxm
  rw [decide_eq_true rfl] at k3
  have k4 := keepB (implProductReach_new g hgm l hlm a ham) rfl rfl
  have k5 := keepC (implReduce_new g hgm l hlm a ham (redC g l a ⟨R⟩) hxm) rfl
  have k6 := checkCertificate_ok g hgm l hlm a ham (redC g l a ⟨R⟩) hxm
  by_cases hcb : certB g l a ⟨R⟩ = true
  · obtain ⟨r1, r2⟩ := certB_red hcb
    obtain ⟨f1, f2⟩ := cert_facts hcb
    rw [r1, r2] at k5
    rw [r1] at k6
    rw [f1] at k4
    rw [hcb] at k1 k2
    have hBl : (prB g l a).length = R.length := by
      unfold prB
      rw [if_pos f1, z124]
      unfold z34
      rw [z71, Nat.mul_comm]
      exact f2.symm
    have hX : (redC g l a ⟨R⟩).ranks = redL (prB g l a) R := by unfold redC; rw [if_pos hcb]
    have hXl : (redC g l a ⟨R⟩).ranks.length = R.length := by rw [hX, z130]
    have hXg : ∀ i (h : i < R.length), (redC g l a ⟨R⟩).ranks[i]? = some (if (prB g l a).getD i false = true then R.getD i 0 else -1) := fun i h => by
      rw [hX, List.getElem?_eq_getElem (by rw [z130]; exact h)]
      simp [redL, redAt]
    change CallsA _ _ _ _ (.tup [.agg [ints (redC g l a ⟨R⟩).ranks], .bool true]) _ at k2
    change CallsA _ _ [.agg g.cs, lst 3 Tree.cs' l, .agg a.cs, .agg [ints R]] _ _ _ at k1 k2
    change CallsA _ _ [.agg g.cs, lst 3 Tree.cs' l, .agg a.cs, .agg [ints (redC g l a ⟨R⟩).ranks]] _ _ _ at k5 k6
    generalize (redC g l a ⟨R⟩).ranks = X at *
    generalize prB g l a = B at *
    clear r1 r2 f1 f2 hcb hX
    refine z10 z18 Tryz.func14 rfl rfl 138 Tryz.ntmps14 (by simp) ?_
    repeat' ((first | (apply AWP.go ok; rfl) | ((apply z7) <;> intro _) | (apply z9 (cd); rfl; rfl) | (apply z9 (k1); rfl; rfl) | (apply z9 (k2); rfl; rfl) | (apply z9 (k3); rfl; rfl) | (apply z9 (k4); rfl; rfl)) <;> conv => whnf)
    all_goals first | (refine RetS.lay [] [] rfl rfl rfl ?_; refine RetS.done ?_ ?_ <;> (repeat' (first | exact LocLe.refl _ | exact F2.nil))) | skip
    all_goals
      refine z76 (fun i : Nat => ([(3, .ptr 0 none 0), (4, lst 3 Tree.cs' l), (5, .ptr 1 none 0), (6, .ptr 2 none 0), (7, .ptr 3 none 0), (11, lst 1 enB B), (12, .bool true), (13, .int i)], [.cells 2 [g.cs], .cells 3 [a.cs], .cells 1 [[ints R]], .cells 1 [[ints X]]])) (fun i => i ≤ B.length) (fun i => B.length - i) 0 (Nat.zero_le _) (by refine SealW.reach [0, 1, 2, 3] [] rfl rfl rfl rfl ?_ ?_ <;> (repeat' (first | exact LocLe.refl _ | exact F2.nil | apply F2.cons | apply ObjLe.box | exact True.intro | apply And.intro))) ?_
      intro i hi
      by_cases hi2 : i < B.length
      · have hgB : (B.map enB)[i]? = some (enB (B.getD i false)) := by rw [List.getElem?_map, List.getElem?_eq_getElem hi2, z25 hi2]; rfl
        have hgR : (R.map enI)[i]? = some (enI (R.getD i 0)) := by rw [List.getElem?_map, List.getElem?_eq_getElem (by omega), z25 (by omega)]; rfl
        have hgX : (X.map enI)[i]? = some (enI (if B.getD i false = true then R.getD i 0 else -1)) := by rw [List.getElem?_map, hXg i (by omega)]; rfl
        generalize B.getD i false = b at *
        generalize R.getD i 0 = r at *
        cases b
        · rw [if_neg (by simp)] at hgX
          repeat' ((first | (apply AWP.go ok; rfl) | (apply z29; kernel_rfl) | (refine z24 (i := i) (by simp) hgB ?_) | (refine z24 (i := i) (by simp) hgX ?_) | (apply And.intro; first | omega | (unfold inI; omega)) | ((apply z7) <;> intro _)) <;> conv => whnf)
          all_goals first | (exfalso; omega) | skip
          all_goals refine z31 (i + 1) hi2 (by omega) (by refine SealW.reach [0, 1, 2, 3] [] rfl rfl rfl rfl ?_ ?_ <;> (repeat' (first | exact LocLe.refl _ | exact F2.nil | apply F2.cons | apply ObjLe.box | exact True.intro | apply And.intro)))
        · rw [if_pos rfl] at hgX
          repeat' ((first | (apply AWP.go ok; rfl) | (apply z29; kernel_rfl) | (refine z24 (i := i) (by simp) hgB ?_) | (refine z24 (i := i) (by simp) hgX ?_) | (refine z24 (i := i) (by simp) hgR ?_) | (apply And.intro; first | omega | (unfold inI; omega)) | ((first | apply z7 | apply z41) <;> intro _)) <;> conv => whnf)
          all_goals first | (exfalso; omega) | skip
          all_goals refine z31 (i + 1) hi2 (by omega) (by refine SealW.reach [0, 1, 2, 3] [] rfl rfl rfl rfl ?_ ?_ <;> (repeat' (first | exact LocLe.refl _ | exact F2.nil | apply F2.cons | apply ObjLe.box | exact True.intro | apply And.intro)))
      · repeat' ((first | (apply AWP.go ok; rfl) | (apply z29; kernel_rfl) | (apply And.intro; omega) | (((with_reducible apply z13; omega)); intro _) | ((first | apply z7 | apply z41 | apply z80 | apply z84) <;> intro _) | (apply z9 (k5); rfl; rfl) | (apply z9 (k6); rfl; rfl) | (apply z9 (k3); rfl; rfl)) <;> conv => whnf)
        all_goals first | (exfalso; omega) | (refine RetS.lay [] [] rfl rfl rfl ?_; refine RetS.done ?_ ?_ <;> (repeat' (first | exact LocLe.refl _ | exact F2.nil)))
  · have hcb := (Bool.not_eq_true _).mp hcb
    rw [hcb] at k1 k2
    change CallsA _ _ _ _ (.tup [.agg [ints (redC g l a ⟨R⟩).ranks], .bool false]) _ at k2
    change CallsA _ _ [.agg g.cs, lst 3 Tree.cs' l, .agg a.cs, .agg [ints R]] _ _ _ at k1 k2
    generalize (redC g l a ⟨R⟩).ranks = X at *
    refine z10 z18 Tryz.func14 rfl rfl 138 Tryz.ntmps14 (by simp) ?_
    repeat' ((first | (apply AWP.go ok; rfl) | ((apply z7) <;> intro _) | (apply z9 (cd); rfl; rfl) | (apply z9 (k1); rfl; rfl) | (apply z9 (k2); rfl; rfl) | (apply z9 (k3); rfl; rfl)) <;> conv => whnf)
    all_goals (refine RetS.lay [] [] rfl rfl rfl ?_; refine RetS.done ?_ ?_ <;> (repeat' (first | exact LocLe.refl _ | exact F2.nil)))
end Go.Proofs.YtppafngcahgagaaGreat

namespace Go.Proofs.YtppafngcahgagaaGreat
open Go.Gl
open Go.ChangeShapes Go.WideShapes Go.ChangeAt Go.RowKit
attribute [local irreducible] z32 AWP z48 z55 z50
namespace FnReduceCertificate
theorem args_ok : ArgsOk Tryz.prog Tryz.f14.params.toList (fun xs _ => ∃ (c : List Int), xs = [lst 1 enU c] ∧ CodeOk c) := by
  rw [Tryz.params14]
  refine ArgsOk.imp (args_cons ad_code (args_nil)) ?_
  rintro xs m ⟨c, _, rfl, hc, rfl⟩
  exact ⟨c, rfl, hc⟩

set_option maxRecDepth 100000 in
theorem contract (H : Type) (enc : TypeId × Value → H) (W : World) (base : Nat) (args : Array Value) (ds gs : List (DataW H)) (before : List MemPlace)
    (hval : ∀ (j : Nat) t v, Tryz.f14.params[j]? = some t → args[j]? = some v → Value.okWide Tryz.prog W .any base t v)
    (hW : DataW.Whole enc Tryz.prog Tryz.f14.params.toList Rows.fnReduceCertificateSpec.vars false W args.toList ds gs before) :
    Calls Tryz.prog 14 args W fun e W' => ∃ v, e = .returned v ∧ Rows.fnReduceCertificateSpec.post enc Tryz.prog Tryz.f14 false true false false W args v W' := by
  refine law_post bulk_sizeOf laidOut_ok (by rw [Tryz.params14]; decide +kernel) rfl (fun ds h => ?_) (by kernel_rfl) Tryz.underlying4 args_ok (fun xs m h _ => ?_) hval hW
  · rw [Tryz.params14] at h
    match ds, h with
    | [_], _ => rfl
  · obtain ⟨c, rfl, hc⟩ := h
    exact lawFnReduceCertificate c hc

noncomputable def w0 (os : Os) : World := World.holding Tryz.prog os ⟨#[], #[], []⟩
def zeros : Array Value := #[.slice none 0 0]
theorem reads (os : Os) {H : Type} (enc : TypeId × Value → H) : ∃ places, DataW.whole enc Tryz.prog ((w0 os).forCall (fun _ _ => 0) ⟨#[], zeros, []⟩).memory Tryz.f14.params.toList Rows.fnReduceCertificateSpec.vars false zeros.toList 8 = some ([.nil], [], places) :=
  ⟨[], by kernel_rfl⟩

set_option maxRecDepth 100000 in
theorem lifted (os : Os) (started : os.Started) (H : Type) (enc : TypeId × Value → H) (F : Stop.Interp) :
    ReturnsInHanded {} Tryz.checked os 14 .any ((OpenSpec.ofChange Rows.fnReduceCertificateSpec).preRow enc Tryz.prog Tryz.f14 Rows.fnReduceCertificateRow.domain false Rows.fnReduceCertificateRow.laid) (((OpenSpec.ofChange Rows.fnReduceCertificateSpec).at F).post enc Tryz.prog Tryz.f14 false true false false) := by
  obtain ⟨places, hx⟩ := reads os enc
  refine returnsInHanded_of_row (C := Tryz.checked) (s := OpenSpec.ofChange Rows.fnReduceCertificateSpec) own started (by kernel_rfl) Tryz.func14
    (witness_row_at (enc := enc) (C := Tryz.checked) false (w0 os) zeros rfl (by kernel_rfl) (by kernel_rfl) (by kernel_rfl)
      (OpenSpec.preRow_of_cond 8 hx (by kernel_rfl) (fun k hk => by cases hk) (by kernel_rfl) (laidMetH_nil _ _))) ?_
  intro W base args ds gs before hval hW _ _ _ _ _ _
  exact contract H enc W base args ds gs before hval hW

set_option maxHeartbeats 40000000 in
set_option maxRecDepth 100000 in
theorem closed : joinedFacts Tryz.prog 14 Tryz.f14 (OpenSpec.ofChange Rows.fnReduceCertificateSpec).bare Rows.fnReduceCertificateRow = true := by
  unfold joinedFacts
  repeat' (with_reducible apply and_mk)
  all_goals (as_aux_lemma => kernel_rfl)
theorem proved : Rows.FnReduceCertificateSaid :=
  OpenClaim.holds_of_cond 14 Tryz.f14 rfl rfl rfl rfl rfl rfl rfl ⟨rfl, rfl, rfl, rfl, rfl⟩ rfl rfl rfl rfl rfl (by kernel_rfl) Tryz.func14 closed
    (of_decide_eq_true (by kernel_rfl)) (by unfold Func.isWrapper; first | (rw [if_pos (by decide +kernel)]; kernel_rfl) | (rw [if_neg (by decide +kernel)]; exact ⟨rfl, rfl⟩))
    (fun os started H enc _ F => by rw [OpenClaim.pre_eq_preRow]; exact lifted os started H enc F)
end FnReduceCertificate
end Go.Proofs.YtppafngcahgagaaGreat

