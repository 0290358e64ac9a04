/- Increasing all ranks of a certificate by the same number keeps a certificate accepted. The law FnCertificateShift returns true at every input and leaves its input as it was. No condition. -/
import Derived.Test.YtknlmbniicacmaaGreatG0
import Derived.Test.YtknlmbniicacmaaGreatG1
import Derived.Test.YtknlmbniicacmaaGreatG2
import Derived.Test.YtknlmbniicacmaaGreatG3
import Derived.Test.YtknlmbniicacmaaGreatP0
import Derived.Test.YtknlmbniicacmaaGreatP1
import Derived.Test.YtknlmbniicacmaaGreatP2
import Derived.Test.YtknlmbniicacmaaGreatP3
import Derived.Test.YtknlmbniicacmaaGreatP4
import Derived.Test.YtknlmbniicacmaaGreatP5
import Derived.Test.YtknlmbniicacmaaGreatP6
import Derived.Test.YtknlmbniicacmaaGreatP7
import Derived.Test.YtknlmbniicacmaaGreatP8
set_option linter.all false
namespace Go.Proofs.YtknlmbniicacmaaGreat
open Go.Gl
attribute [local irreducible] z48 AWP z76 z84 z81 RetS z103

/-- the greatest rank -/
def rkMax (R : List Int) : Int := R.foldl (fun m n => max m n) (-1)
theorem rkMax_take {R : List Int} {k : Nat} (h : k < R.length) : rkMax (R.take (k + 1)) = max (rkMax (R.take k)) R[k] := by
  unfold rkMax
  rw [List.take_succ_eq_append_getElem h, List.foldl_append]; rfl
theorem rkMax_le {R : List Int} {M : Int} (hM : -1 ≤ M) : rkMax R ≤ M ↔ ∀ x ∈ R, x ≤ M := by
  unfold rkMax
  have key : ∀ (l : List Int) (o : Int), l.foldl (fun m n => max m n) o ≤ M ↔ o ≤ M ∧ ∀ x ∈ l, x ≤ M := by
    intro l
    induction l with
    | nil => intro o; simp
    | cons a l ih =>
      intro o
      rw [List.foldl_cons, ih]
      simp only [List.mem_cons, forall_eq_or_imp]
      constructor
      · rintro ⟨h1, h2⟩; exact ⟨by omega, by omega, h2⟩
      · rintro ⟨h1, h2, h3⟩; exact ⟨by omega, h3⟩
  rw [key]
  exact ⟨fun h => h.2, fun h => ⟨hM, h⟩⟩
theorem implRank_ok (R : List Int) (hR : R.length ≤ maxLen) : CallsA Tryz.prog 18 [.agg [ints R]] [] (.int (rkMax R)) [] := by
  unfold maxLen at hR
  refine z14 z29 Tryz.func18 rfl rfl 18 Tryz.ntmps18 (by simp) ?_
  repeat' (((apply AWP.go ok; rfl)) <;> conv => whnf)
  all_goals skip
  refine z115 (fun k : Nat => ([(3, .int (rkMax (R.take k))), (7, ints R), (8, .int R.length), (9, .int k)], [.cells 1 [[ints R]]])) (fun k => k ≤ R.length) (fun k => R.length - k) 0 (Nat.zero_le _) (by refine SealW.reach [0] [] rfl rfl rfl rfl ?_ ?_ <;> (repeat' (first | exact LocLe.refl _ | exact F2.nil | apply F2.cons | apply ObjLe.box | exact True.intro | apply And.intro))) ?_
  intro k hk
  by_cases hk2 : k < R.length
  · have gk : (R.map enI)[k]? = some (enI R[k]) := by rw [List.getElem?_map, List.getElem?_eq_getElem hk2]; rfl
    have et := rkMax_take hk2
    generalize R[k] = r at *
    generalize hq : rkMax (R.take k) = m at *
    generalize hq2 : rkMax (R.take (k + 1)) = m2 at *
    repeat' ((first | (apply AWP.go ok; rfl) | (refine z43 (i := k) rfl gk ?_) | (apply And.intro; first | omega | (unfold inI; omega)) | ((apply z8) <;> intro _)) <;> conv => whnf)
    all_goals first | (exfalso; omega) | skip
    all_goals refine z49 (k + 1) hk2 (by omega) ?_
    all_goals dsimp only
    all_goals rw [hq2]
    all_goals exact (by refine SealW.reach [0] [] rfl rfl rfl rfl ?_ ?_ <;> (repeat' (first | exact LocLe.refl _ | exact F2.nil | apply F2.cons | (refine z78 ?_; omega) | apply ObjLe.box | exact True.intro | apply And.intro)))
  obtain rfl : k = R.length := by omega
  rw [List.take_length]
  repeat' ((first | (apply AWP.go ok; rfl) | (apply And.intro; omega) | (((with_reducible apply z13; omega)); intro _) | ((apply z8) <;> intro _)) <;> conv => whnf)
  all_goals first | (exfalso; omega) | skip
  all_goals (refine RetS.lay [] [] rfl rfl rfl ?_; refine RetS.done ?_ ?_ <;> (repeat' (first | exact LocLe.refl _ | exact F2.nil)))
set_option maxHeartbeats 6400000 in
theorem lawFnCertificateShift (c : List Int) (hc : CodeOk c) (d : List Int) (hd : CodeOk d) : CallsA Tryz.prog 3 [lst 1 enU c, lst 1 enU d] [] (.bool true) [] := by
  obtain ⟨g, l, a, R, ⟨hg, hl, ha, hR⟩, cd⟩ := drawCC_ok c hc
  have hgm := hg.mx
  have hlm := hl.mx
  have hlen := hc.len
  have hlen2 := hd.len
  unfold maxLen at hlen hlen2
  have ham : a.mx := ⟨by have := ha.1; unfold maxLen; omega, by have := ha.2.1; unfold maxLen; omega, by have := ha.2.2.1; unfold maxLen; omega, ha.2.2.2⟩
  have hcm : (Cert.mk R).mx := by show R.length ≤ maxLen; unfold maxLen; omega
  have k1 := checkCertificate_ok g hgm l hlm a ham ⟨R⟩ hcm
  have k2 := specCheckCertificate_ok g hgm l hlm a ham ⟨R⟩ hcm
  change CallsA _ _ [.agg g.cs, lst 3 Tree.cs' l, .agg a.cs, .agg [ints R]] _ _ _ at k1 k2
  by_cases hcb : certB g l a ⟨R⟩ = true
  · rw [hcb] at k1 k2
    obtain ⟨m, hm⟩ : ∃ m : Int, m = 1 + (d.length : Int) % 5 := ⟨_, rfl⟩
    have hm0 : 0 ≤ (d.length : Int) % 5 ∧ (d.length : Int) % 5 < 5 := by omega
    have hRb : ∀ x ∈ R, -1 ≤ x ∧ x ≤ 4000 := by
      unfold certB at hcb
      obtain ⟨_, h2⟩ := Bool.and_eq_true_iff.1 hcb
      exact (of_decide_eq_true h2).2.1
    have hsh := certB_shift hcb (m := m) (by omega)
    have hsl := shL_len R m
    have k3 := checkCertificate_ok g hgm l hlm a ham ⟨shL R m⟩ (by show (shL R m).length ≤ maxLen; unfold maxLen; omega)
    change CallsA _ _ [.agg g.cs, lst 3 Tree.cs' l, .agg a.cs, .agg [ints (shL R m)]] _ _ _ at k3
    rw [hsh] at k3
    have k4 := implRank_ok (shL R m) (by unfold maxLen; omega)
    have hml := rkMax_le (R := shL R m) (M := 4000) (by omega)
    have hsg : ∀ k (h : k < R.length), (shL R m)[k]'(by rw [hsl]; exact h) = shR m R[k] := fun k h => by simp [shL]
    have hgt : decide (∀ x ∈ shL R m, x ≤ 4000) = decide (rkMax (shL R m) ≤ 4000) := decide_eq_decide.2 hml.symm
    rw [hgt] at k3
    clear hsh hgt hml hcb
    generalize shL R m = X at *
    refine z14 z29 Tryz.func3 rfl rfl 87 Tryz.ntmps3 (by simp) ?_
    repeat' ((first | (apply AWP.go ok; rfl) | ((apply z8) <;> intro _) | (apply z10 (cd); rfl; rfl) | (apply z10 (k1); rfl; rfl) | (apply z10 (k2); rfl; rfl)) <;> conv => whnf)
    all_goals first | (refine RetS.lay [] [] rfl rfl rfl ?_; refine RetS.done ?_ ?_ <;> (repeat' (first | exact LocLe.refl _ | exact F2.nil))) | skip
    all_goals
      refine AWP.reach (Reach.empty 1 rfl) ?_
      refine z115 (fun k : Nat => ([(1, lst 1 enU d), (5, .ptr 0 none 0), (6, lst 3 Tree.cs' l), (7, .ptr 1 none 0), (8, .ptr 2 none 0), (10, .ptr 3 none 0), (11, .int k)], [.cells 2 [g.cs], .cells 3 [a.cs], .cells 1 [[ints R]], .cells 1 [[.sref 4 0 (X.take k).length]], .cells 1 ((X.take k).map enI)])) (fun k => k ≤ R.length) (fun k => R.length - k) 0 (Nat.zero_le _) (by refine SealW.reach [0, 1, 2, 3, 4] [] rfl rfl rfl rfl ?_ ?_ <;> (repeat' (first | exact LocLe.refl _ | exact z40 | exact F2.nil | apply F2.cons | apply ObjLe.box | ((refine z17 rfl ?_ ?_); (focus ((repeat' (exact z12)); done))) | exact True.intro | apply And.intro))) ?_
      intro k hk
      have htl : (X.take k).length = k := by rw [List.length_take]; omega
      by_cases hk2 : k < R.length
      · have gk : (R.map enI)[k]? = some (enI R[k]) := by rw [List.getElem?_map, List.getElem?_eq_getElem hk2]; rfl
        have hxk := hsg k hk2
        have hrb := hRb _ (List.getElem_mem hk2)
        generalize R[k] = r at *
        unfold shR at hxk
        by_cases hr : 0 ≤ r
        · rw [if_pos hr] at hxk
          repeat' ((first | (apply AWP.go ok; rfl) | (refine z43 (i := k) rfl gk ?_) | (apply And.intro; first | omega | (unfold inI; omega) | ((try dsimp only); simp only [List.length_map, List.length_take, List.length_append, List.length_replicate, List.length_cons, List.length_nil]; omega) | exact ⟨rfl, z21 rfl z26⟩) | ((apply z8) <;> intro _)) <;> conv => whnf)
          all_goals first | (exfalso; omega) | skip
          all_goals refine z49 (k + 1) hk2 (by omega) (by refine SealW.reach [0, 1, 2, 3, 6] [] rfl rfl rfl rfl ?_ ?_ <;> (repeat' (first | exact LocLe.refl _ | exact F2.nil | apply F2.cons | (refine z78 ?_; omega) | (refine z37 ?_; ((simp; omega))) | apply ObjLe.box | ((refine z24 rfl ?_ ?_); (focus ((repeat' (first | exact z4 (fun _ => rfl) | apply z15)); done))) | (refine z73 (by omega) (by omega) ?_) | exact True.intro | apply And.intro)))
        · rw [if_neg hr] at hxk
          repeat' ((first | (apply AWP.go ok; rfl) | (refine z43 (i := k) rfl gk ?_) | (apply And.intro; first | omega | (unfold inI; omega) | ((try dsimp only); simp only [List.length_map, List.length_take, List.length_append, List.length_replicate, List.length_cons, List.length_nil]; omega) | exact ⟨rfl, z21 rfl z26⟩) | ((apply z8) <;> intro _)) <;> conv => whnf)
          all_goals first | (exfalso; omega) | skip
          all_goals refine z49 (k + 1) hk2 (by omega) (by refine SealW.reach [0, 1, 2, 3, 6] [] rfl rfl rfl rfl ?_ ?_ <;> (repeat' (first | exact LocLe.refl _ | exact F2.nil | apply F2.cons | (refine z78 ?_; omega) | (refine z37 ?_; ((simp; omega))) | apply ObjLe.box | ((refine z24 rfl ?_ ?_); (focus ((repeat' (first | exact z4 (fun _ => rfl) | apply z15)); done))) | (refine z73 (by omega) (by omega) ?_) | exact True.intro | apply And.intro)))
      obtain rfl : k = R.length := by omega
      rw [show X.take R.length = X by rw [← hsl, List.take_length]]
      repeat' ((first | ((fail_if_success apply stopAt 15); (fail_if_success apply z147 15); apply AWP.go ok; rfl) | (apply And.intro; omega) | (((with_reducible apply z13; omega)); intro _) | ((apply z8) <;> intro _)) <;> conv => whnf)
      all_goals first | (exfalso; omega) | skip
      all_goals
        refine AWP.reach (SealW.reach (env := [(5, .ptr 0 none 0), (6, lst 3 Tree.cs' l), (7, .ptr 1 none 0), (8, .ptr 2 none 0), (10, .ptr 3 none 0)]) (objs := [.cells 2 [g.cs], .cells 3 [a.cs], .cells 1 [[ints R]], .cells 1 [[ints X]]]) [0, 1, 2, 3] [4] rfl rfl rfl rfl ?_ ?_) ?_
        · (repeat' (first | exact LocLe.refl _ | exact True.intro | apply And.intro))
        · (repeat' (first | exact LocLe.refl _ | exact F2.nil | apply F2.cons | apply ObjLe.box | ((apply z27 rfl rfl rfl); (focus ((repeat ((exact z23 (fun _ => rfl) _))); done)); (focus (((simp; done)); done)))))
        conv => whnf
        repeat' ((first | (apply AWP.go ok; rfl) | (apply z38; kernel_rfl) | (apply z10 (k3); rfl; rfl) | (apply z10 (k4); rfl; rfl)) <;> conv => whnf)
        all_goals skip
        all_goals (refine RetS.lay [] [] rfl rfl rfl ?_; refine RetS.done ?_ ?_ <;> (repeat' (exact F2.nil)))
        all_goals exact LocLe.of_eq (congrArg AC.bool (show (decide (rkMax X ≤ 4000) == decide (rkMax X ≤ 4000)) = true by simp))
  · rw [(Bool.not_eq_true _).mp hcb] at k1 k2
    refine z14 z29 Tryz.func3 rfl rfl 87 Tryz.ntmps3 (by simp) ?_
    repeat' ((first | (apply AWP.go ok; rfl) | ((apply z8) <;> intro _) | (apply z10 (cd); rfl; rfl) | (apply z10 (k1); rfl; rfl) | (apply z10 (k2); rfl; rfl)) <;> conv => whnf)
    all_goals (refine RetS.lay [] [] rfl rfl rfl ?_; refine RetS.done ?_ ?_ <;> (repeat' (first | exact LocLe.refl _ | exact F2.nil)))
end Go.Proofs.YtknlmbniicacmaaGreat

namespace Go.Proofs.YtknlmbniicacmaaGreat
open Go.Gl
open Go.ChangeShapes Go.WideShapes Go.ChangeAt Go.RowKit
attribute [local irreducible] z48 AWP z76 z84 z81
namespace FnCertificateShift
theorem args_ok : ArgsOk Tryz.prog Tryz.f3.params.toList (fun xs _ => ∃ (c : List Int) (d : List Int), xs = [lst 1 enU c, lst 1 enU d] ∧ CodeOk c ∧ CodeOk d) := by
  rw [Tryz.params3]
  refine ArgsOk.imp (args_cons ad_code (args_cons ad_code (args_nil))) ?_
  rintro xs m ⟨c, _, rfl, hc, d, _, rfl, hd, rfl⟩
  exact ⟨c, d, rfl, hc, hd⟩

set_option maxRecDepth 100000 in
theorem contract (H : Type) (enc : TypeId × Value → H) (W : World) (base : Nat) (args : Array Value) (ds gs : List (DataW H)) (before : List MemPlace)
    (hval : ∀ (j : Nat) t v, Tryz.f3.params[j]? = some t → args[j]? = some v → Value.okWide Tryz.prog W .any base t v)
    (hW : DataW.Whole enc Tryz.prog Tryz.f3.params.toList Rows.fnCertificateShiftSpec.vars false W args.toList ds gs before) :
    Calls Tryz.prog 3 args W fun e W' => ∃ v, e = .returned v ∧ Rows.fnCertificateShiftSpec.post enc Tryz.prog Tryz.f3 false true false false W args v W' := by
  refine law_post bulk_sizeOf laidOut_ok (by rw [Tryz.params3]; decide +kernel) rfl (fun ds h => ?_) (by kernel_rfl) Tryz.underlying4 args_ok (fun xs m h _ => ?_) hval hW
  · rw [Tryz.params3] at h
    match ds, h with
    | [_, _], _ => rfl
  · obtain ⟨c, d, rfl, hc, hd⟩ := h
    exact lawFnCertificateShift c hc d hd

noncomputable def w0 (os : Os) : World := World.holding Tryz.prog os ⟨#[], #[], []⟩
def zeros : Array Value := #[.slice none 0 0, .slice none 0 0]
theorem reads (os : Os) {H : Type} (enc : TypeId × Value → H) : ∃ places, DataW.whole enc Tryz.prog ((w0 os).forCall (fun _ _ => 0) ⟨#[], zeros, []⟩).memory Tryz.f3.params.toList Rows.fnCertificateShiftSpec.vars false zeros.toList 8 = some ([.nil, .nil], [], places) :=
  ⟨[], by kernel_rfl⟩

set_option maxRecDepth 100000 in
theorem lifted (os : Os) (started : os.Started) (H : Type) (enc : TypeId × Value → H) (F : Stop.Interp) :
    ReturnsInHanded {} Tryz.checked os 3 .any ((OpenSpec.ofChange Rows.fnCertificateShiftSpec).preRow enc Tryz.prog Tryz.f3 Rows.fnCertificateShiftRow.domain false Rows.fnCertificateShiftRow.laid) (((OpenSpec.ofChange Rows.fnCertificateShiftSpec).at F).post enc Tryz.prog Tryz.f3 false true false false) := by
  obtain ⟨places, hx⟩ := reads os enc
  refine returnsInHanded_of_row (C := Tryz.checked) (s := OpenSpec.ofChange Rows.fnCertificateShiftSpec) own started (by kernel_rfl) Tryz.func3
    (witness_row_at (enc := enc) (C := Tryz.checked) false (w0 os) zeros rfl (by kernel_rfl) (by kernel_rfl) (by kernel_rfl)
      (OpenSpec.preRow_of_cond 8 hx (by kernel_rfl) (fun k hk => by cases hk) (by kernel_rfl) (laidMetH_nil _ _))) ?_
  intro W base args ds gs before hval hW _ _ _ _ _ _
  exact contract H enc W base args ds gs before hval hW

set_option maxHeartbeats 40000000 in
set_option maxRecDepth 100000 in
theorem closed : joinedFacts Tryz.prog 3 Tryz.f3 (OpenSpec.ofChange Rows.fnCertificateShiftSpec).bare Rows.fnCertificateShiftRow = true := by
  unfold joinedFacts
  repeat' (with_reducible apply and_mk)
  all_goals (as_aux_lemma => kernel_rfl)
theorem proved : Rows.FnCertificateShiftSaid :=
  OpenClaim.holds_of_cond 3 Tryz.f3 rfl rfl rfl rfl rfl rfl rfl ⟨rfl, rfl, rfl, rfl, rfl⟩ rfl rfl rfl rfl rfl (by kernel_rfl) Tryz.func3 closed
    (of_decide_eq_true (by kernel_rfl)) (by unfold Func.isWrapper; first | (rw [if_pos (by decide +kernel)]; kernel_rfl) | (rw [if_neg (by decide +kernel)]; exact ⟨rfl, rfl⟩))
    (fun os started H enc _ F => by rw [OpenClaim.pre_eq_preRow]; exact lifted os started H enc F)
end FnCertificateShift
end Go.Proofs.YtknlmbniicacmaaGreat

