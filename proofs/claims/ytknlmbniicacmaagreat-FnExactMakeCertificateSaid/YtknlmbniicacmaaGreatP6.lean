/- A part of the proofs over this program: T40, T41, T42, T153, T154, T155, T156, T157, T158, T159, T160, T94W, T29, T94K, T161, T186, T162, T163, T164, T170. -/
import Derived.Test.YtknlmbniicacmaaGreatG0
import Derived.Test.YtknlmbniicacmaaGreatG1
import Derived.Test.YtknlmbniicacmaaGreatG2
import Derived.Test.YtknlmbniicacmaaGreatG3
import Derived.Test.YtknlmbniicacmaaGreatP0
import Derived.Test.YtknlmbniicacmaaGreatP1
import Derived.Test.YtknlmbniicacmaaGreatP2
import Derived.Test.YtknlmbniicacmaaGreatP3
import Derived.Test.YtknlmbniicacmaaGreatP4
import Derived.Test.YtknlmbniicacmaaGreatP5
import Derived.Test.YtknlmbniicacmaaGreatRows
import Derived.WalkKit
import Derived.ProofKit
import Derived.Deep.DeepHandedRow
import Derived.Lib.LaidTab
set_option linter.all false
namespace Go.Proofs.YtknlmbniicacmaaGreat
open Go.Gl
attribute [local irreducible] z22 AWP z46 z54 z51

theorem prod_facts {g : Graph} {a : Aut} (hG : GB g) (hA : AutP a) (ls : List Int) : (∀ r ∈ z42 g ls a, InN (z42 g ls a).length r) ∧ InN (z42 g ls a).length a.ini ∧ (z42 g ls a).length ≤ 3840 ∧ (∀ r ∈ z42 g ls a, r.length ≤ 1000000000) ∧ a.ini.length ≤ 1048576 := by
  have hrl : (z42 g ls a).length = g.st.length * a.acc.length := by unfold z42; rw [z96, Nat.mul_comm]
  have hN := mul_bound (a := (g.st.length : Int)) (b := (a.acc.length : Int)) (A := 60) (B := 64) (by omega) (by have := hG.1; omega) (by omega) (by have := hA.1; omega)
  have hN2 : ((g.st.length * a.acc.length : Nat) : Int) = (g.st.length : Int) * a.acc.length := by simp
  have ha1 := hA.1
  refine ⟨fun r hr x hx => ?_, fun x hx => ?_, by omega, fun r hr => ?_, ?_⟩
  · rw [hrl]; exact prodRows_lt g hG ls a hA r hr x hx
  · obtain ⟨i, hi, rfl⟩ := List.mem_iff_getElem.1 hx
    have h1 := (hA.2.2.1 i hi hi).1
    have h2 := mul_bound (a := (g.st.length : Int) - 1) (b := (a.acc.length : Int)) (A := 60) (B := 64) (by have := hG.1; omega) (by have := hG.1; omega) (by omega) (by omega)
    rw [Int.sub_mul, Int.one_mul] at h2
    omega
  · have := prodRows_len g hG ls a hA r hr; omega
  · have := hA.2.2.1.le (by omega); omega

/-- which nodes of the product can be reached -/
noncomputable def prB (g : Graph) (l : List Tree) (a : Aut) : List Bool := if (glB g l && autB a) = true then reachB (z42 g (g.st.map (z48 l)) a) a.ini else []
end Go.Proofs.YtknlmbniicacmaaGreat

namespace Go.Proofs.YtknlmbniicacmaaGreat
open Go.Gl
attribute [local irreducible] z22 AWP z46 z54 z51

/-! certificates: owned copies and marks -/
structure Cert.ok (c : Cert) : Prop where
  mx : c.mx
  len : c.ranks.length ≤ 1048576
theorem Cert.ok_of {c : Cert} (h : c.mx) (h1 : c.s1 ≤ 1048576) : c.ok := ⟨h, h1⟩
theorem eqCertT {c : Cert} (h : c.mx) : CallsA Tryz.prog 51 [.agg c.cs, .agg c.cs] [] (.bool true) [] := by
  have := eqCertificate_of c c (eqIntS_ok c.ranks c.ranks h h)
  rwa [decide_eq_true rfl] at this
def Cert.ml (c : Cert) : Nat := c.ranks.length
theorem Cert.ml_le {c : Cert} (h : c.ok) : c.ml ≤ 1048576 := h.len
theorem markCertT {c : Cert} (h : c.ok) (k : Int) (h0 : 0 ≤ k) (h1 : k ≤ 1000000000) : CallsA Tryz.prog 52 [.agg [.sref 0 0 c.ranks.length], .int k] [.cells 1 (c.ranks.map enI)] (.int (k + c.ml)) [.cells 1 ((marks k c.ranks.length).map enI)] := by
  have m1 := markIntS_ok c.ranks k h.len h0 (by omega)
  refine z7 z28 Tryz.func52 rfl rfl 10 Tryz.ntmps52 (by simp) ?_
  repeat' (first | (apply AWP.go ok; rfl; conv => whnf) | (apply z5; kernel_rfl; conv => whnf) | (apply And.intro; (first | omega | (unfold inI; omega) | (dsimp only; omega) | (unfold z25; omega) | ((try dsimp only); simp only [List.length_map, List.length_take, List.length_append, List.length_replicate, List.length_cons, List.length_nil]; omega) | (simp only [z38] at *; first | omega | (unfold inI; omega) | (unfold z25; omega)) | exact z6 (fun _ => rfl) | exact ⟨rfl, z12 rfl z20⟩ | exact ⟨rfl, z6 (fun _ => rfl) _⟩ | exact ⟨⟨rfl, by omega⟩, z6 (fun _ => rfl) _⟩); conv => whnf) | (with_reducible apply z3; omega; intro _; conv => whnf) | (with_reducible apply z30; omega; intro _; conv => whnf) | (apply z3; omega; intro _; conv => whnf) | (apply z35; omega; conv => whnf) | (apply z45; conv => whnf) | (apply z49; omega; intro _; conv => whnf) | (apply z53 <;> intro _ <;> conv => whnf) | (apply z36 <;> intro _ <;> conv => whnf) | (apply z52 <;> intro _ <;> conv => whnf) | (apply z63 <;> intro _ <;> conv => whnf) | (apply z2 <;> intro _ <;> conv => whnf) | (apply z8 <;> intro _ <;> conv => whnf) | (apply z24 <;> intro _ <;> conv => whnf) | (apply z34 <;> intro _ <;> conv => whnf) | (apply z21 [0] [] [] (m1); rfl; (focus ((repeat' (first | exact z11 | apply z29)) <;> (first | rfl | (refine z47 rfl ?_; (first | exact z17 | exact z1 rfl | exact z0 (fun _ => rfl) | exact z0 Tree.co_flat | (apply z9 <;> (first | exact z1 rfl | exact z0 (fun _ => rfl))) | assumption))))); rfl; rfl; rfl; rfl; rfl; (focus ((repeat' (first | exact z27 | apply z26)) <;> (first | exact z82 | exact z74 rfl rfl | (refine z39 ?_; (first | exact z17 | exact z1 rfl | exact z0 (fun _ => rfl) | exact z0 Tree.co_flat | (apply z9 <;> (first | exact z1 rfl | exact z0 (fun _ => rfl))) | assumption))))); (first | exact .inl rfl | (refine .inr ⟨rfl, ?_⟩; repeat' (first | exact True.intro | apply And.intro | exact rfl | exact z50 (fun _ => rfl) _))); conv => whnf))
  exact z84 [0] (by decide) rfl rfl rfl ⟨z10 rfl (z0 fun _ => rfl), trivial⟩
theorem bor_cert {objs : Nat → AObj} {π Bn : List Nat} {o1 : Nat} {c : Cert} (h1 : objs o1 = .cells 1 (c.ranks.map enI)) (i1 : idx π o1 = none) (b1 : inB Bn o1 = true) : bor objs π Bn (.agg [.sref o1 0 c.ranks.length]) = .agg c.cs :=
  bor_agg (z72 (bor_ints h1 i1 b1) z89)
theorem bor_certM {objs : Nat → AObj} {π Bn : List Nat} {o1 n : Nat} {c : Cert} (h1 : objs o1 = .cells 1 (c.ranks.map enI)) (i1 : idx π o1 = none) (b1 : inB Bn o1 = true) (hl : c.ranks.length = n) : bor objs π Bn (.agg [.sref o1 0 n]) = .agg c.cs := by
  subst hl; exact bor_cert h1 i1 b1
theorem heldCert_ok (n : Nat) (k : Int) (hl : n ≤ 1048576) (h0 : 0 ≤ k) (h1 : k ≤ 1000000000) : CallsA Tryz.prog 53 [.agg (Cert.mk (marks k n)).cs, .int k] [] (.int (k + n)) [] := by
  have m1 := heldIntS_ok n k hl h0 (by omega)
  refine z7 z28 Tryz.func53 rfl rfl 12 Tryz.ntmps53 (by simp) ?_
  repeat' (first | (apply AWP.go ok; rfl; conv => whnf) | (apply z5; kernel_rfl; conv => whnf) | (apply And.intro; (first | omega | (unfold inI; omega) | (dsimp only; omega) | (unfold z25; omega) | ((try dsimp only); simp only [List.length_map, List.length_take, List.length_append, List.length_replicate, List.length_cons, List.length_nil]; omega) | (simp only [z38] at *; first | omega | (unfold inI; omega) | (unfold z25; omega)) | exact z6 (fun _ => rfl) | exact ⟨rfl, z12 rfl z20⟩ | exact ⟨rfl, z6 (fun _ => rfl) _⟩ | exact ⟨⟨rfl, by omega⟩, z6 (fun _ => rfl) _⟩); conv => whnf) | (with_reducible apply z3; omega; intro _; conv => whnf) | (with_reducible apply z30; omega; intro _; conv => whnf) | (apply z3; omega; intro _; conv => whnf) | (apply z35; omega; conv => whnf) | (apply z45; conv => whnf) | (apply z49; omega; intro _; conv => whnf) | (apply z53 <;> intro _ <;> conv => whnf) | (apply z36 <;> intro _ <;> conv => whnf) | (apply z52 <;> intro _ <;> conv => whnf) | (apply z63 <;> intro _ <;> conv => whnf) | (apply z2 <;> intro _ <;> conv => whnf) | (apply z8 <;> intro _ <;> conv => whnf) | (apply z24 <;> intro _ <;> conv => whnf) | (apply z34 <;> intro _ <;> conv => whnf) | (apply z4 (m1); rfl; rfl; conv => whnf))
  all_goals first | (exfalso; omega) | exact z56 rfl rfl rfl

end Go.Proofs.YtknlmbniicacmaaGreat

namespace Go.Proofs.YtknlmbniicacmaaGreat
open Go.Gl
attribute [local irreducible] z22 AWP z46 z54 z51

theorem bor_tup {objs : Nat → AObj} {π Bn : List Nat} {xs ys : List AC} (h : borL objs π Bn xs = ys) : bor objs π Bn (.tup xs) = .tup ys := by
  simp only [bor, h]
end Go.Proofs.YtknlmbniicacmaaGreat

namespace Go.Proofs.YtknlmbniicacmaaGreat
open Go.Gl
attribute [local irreducible] z22 AWP z46 z54 z51 RetS z58

end Go.Proofs.YtknlmbniicacmaaGreat

namespace Go.Proofs.YtknlmbniicacmaaGreat
open Go.Gl
attribute [local irreducible] z22 AWP z46 z54 z51 RetS z58

end Go.Proofs.YtknlmbniicacmaaGreat

namespace Go.Proofs.YtknlmbniicacmaaGreat
open Go.Gl
attribute [local irreducible] z22 AWP z46 z54 z51 RetS z58

def Aut.sm (a : Aut) : Prop := a.ini.length ≤ 40 ∧ a.acc.length ≤ 20 ∧ a.ed.length ≤ 2100 ∧ ∀ t ∈ a.ed, t.mx
end Go.Proofs.YtknlmbniicacmaaGreat

namespace Go.Proofs.YtknlmbniicacmaaGreat
open Go.Gl
attribute [local irreducible] z22 AWP z46 z54 z51 RetS z58

end Go.Proofs.YtknlmbniicacmaaGreat

namespace Go.Proofs.YtknlmbniicacmaaGreat
open Go.Gl
attribute [local irreducible] z22 AWP z46 z54 z51 RetS z58

set_option maxHeartbeats 3200000 in
theorem l8Back_ok (P : List Int) (hP : P.length ≤ 100000) (f : Nat) (to : Int) (h : BackOk P f to) (hf : f ≤ 100000) : CallsA Tryz.prog 190 [ints P, .int to] [] (ints (bkw P f to [])) [] := by
  generalize hR : bkw P f to [] = R
  have hto := h
  refine z40 z28 Tryz.func190 rfl rfl 25 Tryz.ntmps190 (by simp) ?_
  repeat' (((apply AWP.go ok; rfl)) <;> conv => whnf)
  refine z99 (fun x : Nat × Int × List Int => ([(0, ints P), (5, .sref 0 0 (x.2.2.length + 1))], [.cells 1 ((x.2.1 :: x.2.2).map enI)])) (fun x => BackOk P x.1 x.2.1 ∧ bkw P x.1 x.2.1 x.2.2 = R ∧ x.1 + x.2.2.length ≤ 100000) (fun x => x.1) (f, to, []) ⟨hto, hR, by show f + 0 ≤ 100000; omega⟩ (by refine SealW.reach [0] [] rfl rfl rfl rfl ?_ ?_ <;> (repeat' (first | exact LocLe.refl _ | exact F2.nil | apply F2.cons | apply ObjLe.box | exact True.intro | apply And.intro))) ?_
  rintro ⟨g, v, tl⟩ ⟨hB, hE, hl⟩
  dsimp only at hB hE hl ⊢
  have hv : 0 ≤ v ∧ v < P.length := by cases g <;> exact hB.1
  have hg : (P.map enI)[v.toNat]? = some (enI (P.getD v.toNat 0)) := by rw [List.getElem?_map, List.getElem?_eq_getElem (by omega), z23 (by omega)]; rfl
  by_cases h0 : 0 ≤ P.getD v.toNat 0
  · cases g with
    | zero => exact absurd hB.2 (by omega)
    | succ g =>
      rw [bkw, if_pos h0] at hE
      have hB2 : BackOk P g (P.getD v.toNat 0) := by
        rcases hB.2 with h | h
        · omega
        · exact h
      generalize P.getD v.toNat 0 = y at *
      have hst : (List.map enI (v :: tl)).length = tl.length + 1 ∧ Stor (List.map enI (v :: tl)) := ⟨by simp, z6 (fun _ => rfl)⟩
      repeat' ((first | (apply AWP.go ok; rfl) | (refine z13 (i := v.toNat) (by simp) hg ?_) | (refine And.intro hst ?_) | (apply And.intro; first | omega | ((try dsimp only); simp only [List.length_map, List.length_take, List.length_append, List.length_replicate, List.length_cons, List.length_nil]; omega)) | apply z45 | ((apply z2) <;> intro _)) <;> conv => whnf)
      all_goals first | (exfalso; omega) | skip
      all_goals refine z62 (g, y, v :: tl) ⟨hB2, hE, by show g + (v :: tl).length ≤ 100000; rw [List.length_cons]; omega⟩ (by show g < g + 1; omega) (by refine SealW.reach [2] [0, 1] rfl rfl rfl rfl ?_ ?_ <;> (repeat' (first | exact LocLe.refl _ | exact F2.nil | apply F2.cons | exact z14 _ | (refine z80 ?_; ((simp; omega))) | ((refine z15 rfl ?_ ?_); (focus ((repeat' (first | exact z0 (fun _ => rfl) | exact flat_cons rfl z17 | apply z9)); done))) | exact True.intro | apply And.intro)))
  · have hE2 : v :: tl = R := by
      cases g with
      | zero => exact hE
      | succ g => rw [bkw, if_neg h0] at hE; exact hE
    subst hE2
    generalize P.getD v.toNat 0 = y at *
    repeat' ((first | (apply AWP.go ok; rfl) | (refine z13 (i := v.toNat) (by simp) hg ?_) | (apply And.intro; omega) | (((apply z3; omega)); intro _) | apply z45 | ((apply z2) <;> intro _)) <;> conv => whnf)
    all_goals first | (exfalso; omega) | skip
    all_goals (refine RetS.lay [] [0] rfl rfl rfl ?_; refine RetS.done ?_ ?_ <;> (repeat' (first | exact LocLe.refl _ | exact F2.nil | ((apply seal_leU rfl rfl rfl); (focus ((repeat ((exact unown_map (fun _ => rfl) _))); done)); (focus (((simp; done)); done))))))

def fillN (k : Nat) : List Int := List.replicate k (-1)
theorem fillN_succ (k : Nat) : fillN (k + 1) = fillN k ++ [-1] := by unfold fillN; rw [List.replicate_succ']
theorem mem_take_succ {l : List Int} {k : Nat} (h : k < l.length) (x : Int) : x ∈ l.take (k + 1) ↔ x ∈ l.take k ∨ x = l[k] := by
  rw [List.take_succ_eq_append_getElem h, List.mem_append, List.mem_singleton]
set_option maxHeartbeats 12800000 in
theorem l8Search_new (rows : List (List Int)) (ini : List Int) (hr : ∀ r ∈ rows, InN rows.length r) (hi : InN rows.length ini) (hn : ini.Nodup) (hN : rows.length ≤ 100000) (hrl : ∀ r ∈ rows, r.length ≤ 1000000000) : CallsA Tryz.prog 188 [lst 1 encL rows, ints ini] [] (.tup [.sref 0 0 (srP rows ini).length, .sref 1 0 (srQ rows ini).length]) [.cells 1 ((srP rows ini).map enI), .cells 1 ((srQ rows ini).map enI)] := by
  have hil : ini.length ≤ rows.length := z124 _ _ hn hi
  refine z40 z28 Tryz.func188 rfl rfl 91 Tryz.ntmps188 (by simp) ?_
  repeat' ((first | (apply AWP.go ok; rfl) | (apply And.intro; (dsimp only; omega))) <;> conv => whnf)
  refine z99 (fun x : Nat × List Int => ([(0, lst 1 encL rows), (1, ints ini), (6, .sref 0 0 x.2.length), (7, .sref 1 0 rows.length), (8, .int x.1)], [.cells 1 (x.2.map enI), .cells 1 ((mkB rows.length []).map enB)])) (fun x => x.1 ≤ rows.length ∧ x.2.length = x.1 ∧ x.2 = fillN x.1) (fun x => rows.length - x.1) (0, []) ⟨by show 0 ≤ rows.length; omega, rfl, rfl⟩ (by refine SealW.reach [0, 1] [] rfl rfl rfl rfl ?_ ?_ <;> (repeat' (first | exact LocLe.refl _ | exact F2.nil | apply F2.cons | ((refine z15 rfl ?_ ?_); (focus ((repeat' (first | exact z17 | exact z1 rfl)); done))) | exact True.intro | apply And.intro)) <;> ((refine z43 ?_; rw [mkB_nil, List.map_replicate]; rfl))) ?_
  rintro ⟨i, F⟩ ⟨hF1, hFl, hF2⟩
  dsimp only at hF1 hFl hF2 ⊢
  by_cases hi2 : i < rows.length
  · repeat' ((first | (apply AWP.go ok; rfl) | (apply And.intro; first | omega | (unfold inI; omega) | ((try dsimp only); simp only [List.length_map, List.length_take, List.length_append, List.length_replicate, List.length_cons, List.length_nil]; omega) | exact ⟨rfl, z12 rfl z20⟩) | ((apply z2) <;> intro _)) <;> conv => whnf)
    all_goals first | (exfalso; omega) | skip
    all_goals refine z62 (i + 1, F ++ [-1]) ⟨hi2, by rw [List.length_append, hFl]; rfl, by show _ = fillN (i + 1); rw [fillN_succ, ← hF2]⟩ (by show rows.length - (i + 1) < _; omega) (by refine SealW.reach [3, 1] [] rfl rfl rfl rfl ?_ ?_ <;> (repeat' (first | exact LocLe.refl _ | exact F2.nil | apply F2.cons | exact z14 _ | (refine z80 ?_; ((simp; done))) | ((first | refine z118 rfl ?_ ?_ | refine z15 rfl ?_ ?_); (focus ((repeat' (first | exact z0 (fun _ => rfl) | apply z94)); done))) | (refine snoc_le ?_ ?_; (focus (omega))) | exact True.intro | apply And.intro)))
  · have e : rows.length = i := by omega
    have hs0 : srS rows ini 0 = (ini, F) := by rw [hF2, ← e]; rfl
    rw [← e] at hFl
    subst e
    clear hF1 hF2 hi2
    repeat' ((first | (apply AWP.go ok; rfl) | (apply And.intro; first | omega | (dsimp only; omega) | exact z6 (fun _ => rfl)) | ((apply z2) <;> intro _)) <;> conv => whnf)
    all_goals first | (exfalso; omega) | skip
    all_goals
      refine z99 (fun i : Nat => ([(0, lst 1 encL rows), (1, ints ini), (6, .sref 0 0 rows.length), (7, .sref 1 0 rows.length), (9, .sref 2 0 ini.length), (10, .int i)], [.cells 1 (F.map enI), .cells 1 ((mkB rows.length (ini.take i)).map enB), .cells 1 (ini.map enI)])) (fun i => i ≤ ini.length) (fun i => ini.length - i) 0 (by omega) (by refine SealW.reach [0, 1, 3] [] rfl rfl rfl rfl ?_ ?_ <;> (repeat' (first | exact LocLe.refl _ | exact F2.nil | apply F2.cons | exact z14 _ | (refine z80 ?_; (omega)) | ((refine z15 rfl ?_ ?_); (focus ((repeat' ((exact z0 (fun _ => rfl)))); done))) | exact True.intro | apply And.intro))) ?_
      intro i hi1
      by_cases hi2 : i < ini.length
      · have hx := hi ini[i] (List.getElem_mem _)
        have hset := set_mkB (enc := enB) rfl hx.1 hx.2 (mem_take_succ hi2)
        have hml := mkB_len rows.length (ini.take i)
        repeat' ((first | (apply AWP.go ok; rfl) | (apply And.intro; first | omega | (unfold inI; omega)) | ((first | (with_reducible apply z3; omega) | (apply z3; omega)); intro _) | ((apply z2) <;> intro _)) <;> conv => whnf)
        all_goals first | (exfalso; omega) | skip
        all_goals refine z62 (i + 1) (by omega) (by omega) (by refine SealW.reach [0, 1, 2] [] rfl rfl rfl rfl ?_ ?_ <;> (repeat' (first | exact LocLe.refl _ | exact F2.nil | apply F2.cons | exact z14 _ | ((first | refine z67 rfl ?_ ?_ | refine z15 rfl ?_ ?_); (focus ((repeat' ((exact z0 (fun _ => rfl)))); done))) | exact True.intro | apply And.intro)) <;> (exact z43 hset))
      · have e : ini.length = i := by omega
        subst e
        rw [List.take_length]
        repeat' ((first | (apply AWP.go ok; rfl) | (apply And.intro; omega) | ((first | (with_reducible apply z3; omega) | (apply z3; omega)); intro _) | ((apply z2) <;> intro _)) <;> conv => whnf)
        all_goals first | (exfalso; omega) | skip
        refine z99 (fun x : Nat × List Int × List Int => ([(0, lst 1 encL rows), (6, .sref 0 0 rows.length), (7, .sref 1 0 rows.length), (9, .sref 2 0 x.2.1.length), (11, .int x.1)], [.cells 1 (x.2.2.map enI), .cells 1 ((mkB rows.length x.2.1).map enB), .cells 1 (x.2.1.map enI)])) (fun x => srS rows ini x.1 = (x.2.1, x.2.2) ∧ x.1 ≤ x.2.1.length) (fun x => rows.length - x.1) (0, ini, F) ⟨hs0, Nat.zero_le _⟩ (by refine SealW.reach [0, 1, 2] [] rfl rfl rfl rfl ?_ ?_ <;> (repeat' (first | exact LocLe.refl _ | exact F2.nil | apply F2.cons | exact z14 _ | ((refine z15 rfl ?_ ?_); (focus ((repeat' ((exact z0 (fun _ => rfl)))); done))) | exact True.intro | apply And.intro))) ?_
        clear hs0 hFl F
        rintro ⟨i, Q, P⟩ ⟨hS, hiQ⟩
        dsimp only at hS hiQ ⊢
        have hJ := srS_PJ hr hi hn i
        rw [hS] at hJ
        have hQl := z124 _ _ hJ.nd hJ.inn
        have hPl := hJ.len
        dsimp only at hQl hPl
        by_cases hi2 : i < Q.length
        · have hq := hJ.inn _ (List.getElem_mem hi2)
          have hS1 : srS rows ini (i + 1) = visPs Q[i] (Q, P) (rows.getD Q[i].toNat []) := by rw [srS, dif_pos (by rw [hS]; exact hi2)]; simp only [hS]
          have hqr : Q[i].toNat < rows.length := by omega
          have hrow : rows.getD Q[i].toNat [] = rows[Q[i].toNat] := z23 hqr
          have hrin : InN rows.length rows[Q[i].toNat] := hr _ (List.getElem_mem _)
          have hrl2 := hrl rows[Q[i].toNat] (List.getElem_mem _)
          rw [hrow] at hS1
          repeat' ((first | (apply AWP.go ok; rfl) | ((apply z2) <;> intro _)) <;> conv => whnf)
          all_goals first | (exfalso; omega) | skip
          refine z99 (fun y : Nat × List Int × List Int => ([(0, lst 1 encL rows), (6, .sref 0 0 rows.length), (7, .sref 1 0 rows.length), (9, .sref 2 0 y.2.1.length), (11, .int i), (12, .int y.1)], [.cells 1 (y.2.2.map enI), .cells 1 ((mkB rows.length y.2.1).map enB), .cells 1 (y.2.1.map enI)])) (fun y => visPs Q[i] (Q, P) (rows[Q[i].toNat].take y.1) = (y.2.1, y.2.2) ∧ y.1 ≤ rows[Q[i].toNat].length) (fun y => rows[Q[i].toNat].length - y.1) (0, Q, P) ⟨rfl, Nat.zero_le _⟩ (by refine SealW.reach [0, 1, 2] [] rfl rfl rfl rfl ?_ ?_ <;> (repeat' (first | exact LocLe.refl _ | exact F2.nil | apply F2.cons | exact z14 _ | ((refine z15 rfl ?_ ?_); (focus ((repeat' ((exact z0 (fun _ => rfl)))); done))) | exact True.intro | apply And.intro))) ?_
          rintro ⟨k, Q', P'⟩ ⟨hV, hk⟩
          dsimp only at hV hk ⊢
          obtain ⟨hJ', hi', hu⟩ := PJ.visPs (rows[Q[i].toNat].take k) hJ hi2 rfl (fun x hx => hrin x (List.mem_of_mem_take hx))
          simp only [hV] at hJ' hi' hu
          have hQl' := z124 _ _ hJ'.nd hJ'.inn
          have hPl' := hJ'.len
          dsimp only at hQl' hPl'
          have hg : (Q'.map enI)[i]? = some (enI Q[i]) := by rw [List.getElem?_map, List.getElem?_eq_getElem hi', hu]; rfl
          by_cases hk2 : k < rows[Q[i].toNat].length
          · have hx := hrin rows[Q[i].toNat][k] (List.getElem_mem _)
            have hv := visPs_take (u := Q[i]) (x := (Q, P)) hk2
            rw [hV] at hv
            have hkk : (rows[Q[i].toNat].map enI)[k]? = some (enI rows[Q[i].toNat][k]) := by rw [List.getElem?_map, List.getElem?_eq_getElem hk2]; rfl
            generalize Q[i] = u at *
            generalize rows[u.toNat][k] = v at *
            by_cases hn2 : v ∈ Q'
            · rw [visP_old hn2] at hv
              repeat' ((first | (apply AWP.go ok; rfl) | (refine z13 (i := i) rfl hg ?_) | (refine z13 (i := k) rfl hkk ?_) | (refine get_mkB (enc := enB) (v := v) (by rfl) hx.1 hx.2 ?_) | (apply And.intro; first | omega | (unfold inI; omega) | ((try dsimp only); simp only [List.length_map, List.length_take, List.length_append, List.length_replicate, List.length_cons, List.length_nil]; omega) | exact ⟨rfl, z12 rfl z20⟩) | ((first | (with_reducible apply z30; omega) | (apply z3; omega)); intro _) | ((first | apply z2 | apply z8) <;> intro _)) <;> conv => whnf)
              all_goals first | (exfalso; omega) | (exfalso; contradiction) | skip
              all_goals refine z62 (k + 1, Q', P') ⟨hv, hk2⟩ (by show rows[u.toNat].length - (k + 1) < rows[u.toNat].length - k; omega) (by refine SealW.reach [0, 1, 2] [] rfl rfl rfl rfl ?_ ?_ <;> (repeat' (first | exact LocLe.refl _ | exact F2.nil | apply F2.cons | exact z14 _ | ((refine z15 rfl ?_ ?_); (focus ((repeat' ((exact z0 (fun _ => rfl)))); done))) | exact True.intro | apply And.intro)))
            · rw [visP_new hn2] at hv
              have hset := set_mkB (enc := enB) (S := Q') (S' := Q' ++ [v]) rfl hx.1 hx.2 (fun x => by simp)
              repeat' ((first | (apply AWP.go ok; rfl) | (refine z13 (i := i) rfl hg ?_) | (refine z13 (i := k) rfl hkk ?_) | (refine get_mkB (enc := enB) (v := v) (by rfl) hx.1 hx.2 ?_) | (apply And.intro; first | omega | (unfold inI; omega) | ((try dsimp only); simp only [List.length_map, List.length_take, List.length_append, List.length_replicate, List.length_cons, List.length_nil]; omega) | exact ⟨rfl, z12 rfl z20⟩) | ((first | (with_reducible apply z30; omega) | (apply z3; omega)); intro _) | ((first | apply z2 | apply z8) <;> intro _)) <;> conv => whnf)
              all_goals first | (exfalso; omega) | (exfalso; contradiction) | skip
              all_goals refine z62 (k + 1, Q' ++ [v], P'.set v.toNat u) ⟨hv, hk2⟩ (by show rows[u.toNat].length - (k + 1) < rows[u.toNat].length - k; omega) (by refine SealW.reach [0, 1, 4] [] rfl rfl rfl rfl ?_ ?_ <;> (repeat' (first | exact LocLe.refl _ | exact F2.nil | apply F2.cons | (refine z80 ?_; ((simp; done))) | ((first | refine z118 rfl ?_ ?_ | refine z67 rfl ?_ ?_); (focus ((repeat' (first | exact z0 (fun _ => rfl) | apply z94)); done))) | (refine put_le (by omega) ?_) | (refine snoc_le ?_ ?_; (focus (omega))) | exact True.intro | apply And.intro)) <;> (exact z43 hset))
          · rw [List.take_of_length_le (by omega)] at hV
            rw [hV] at hS1
            repeat' ((first | (apply AWP.go ok; rfl) | (refine z13 (i := i) rfl hg ?_) | (apply And.intro; first | omega | (unfold inI; omega)) | ((first | (with_reducible apply z3; omega) | (with_reducible apply z30; omega) | (apply z3; omega)); intro _) | ((first | apply z2 | apply z24) <;> intro _)) <;> conv => whnf)
            all_goals first | (exfalso; omega) | skip
            all_goals refine z62 (i + 1, Q', P') ⟨hS1, hi'⟩ (by show rows.length - (i + 1) < rows.length - i; omega) (by refine SealW.reach [0, 1, 2] [] rfl rfl rfl rfl ?_ ?_ <;> (repeat' (first | exact LocLe.refl _ | exact F2.nil | apply F2.cons | exact z14 _ | ((refine z15 rfl ?_ ?_); (focus ((repeat' ((exact z0 (fun _ => rfl)))); done))) | exact True.intro | apply And.intro)))
        · have hE := srS_end (rows := rows) (ini := ini) (i := i) (by rw [hS]; show Q.length ≤ i; omega) (by omega)
          rw [hS] at hE
          obtain ⟨e1, e2⟩ := Prod.mk.inj hE
          rw [← e1, ← e2]
          repeat' ((first | (apply AWP.go ok; rfl) | ((apply z2) <;> intro _)) <;> conv => whnf)
          all_goals first | (exfalso; omega) | skip
          all_goals (refine RetS.lay [0, 2] [] rfl rfl rfl ?_; refine RetS.done ?_ ?_ <;> (repeat' (first | exact LocLe.refl _ | exact F2.nil | apply F2.cons | exact z14 _ | (refine z80 ?_; (omega)) | ((refine z15 rfl ?_ ?_); (focus ((repeat' ((exact z0 (fun _ => rfl)))); done))) | apply tup_le)))
theorem l8Search_ok (rows : List (List Int)) (ini : List Int) (hr : ∀ r ∈ rows, InN rows.length r) (hi : InN rows.length ini) (hn : ini.Nodup) (hN : rows.length ≤ 100000) (hrl : ∀ r ∈ rows, r.length ≤ 1000000000) : CallsA Tryz.prog 188 [lst 1 encL rows, ints ini] [] (.tup [ints (srP rows ini), ints (srQ rows ini)]) [] :=
  (l8Search_new rows ini hr hi hn hN hrl).lend [] [0, 1] rfl rfl rfl (bor_tup (z72 (bor_ints rfl rfl rfl) (z72 (bor_ints rfl rfl rfl) z89))) z11
end Go.Proofs.YtknlmbniicacmaaGreat

namespace Go.Proofs.YtknlmbniicacmaaGreat
open Go.Gl
attribute [local irreducible] z22 AWP z46 z54 z51 RetS z58

theorem rowAt {rows : List (List Int)} {v : Int} (hv : 0 ≤ v ∧ v < rows.length) : (rows.map encL)[v.toNat]? = some (encL (rows.getD v.toNat [])) := by
  rw [List.getElem?_map, List.getElem?_eq_getElem (by omega), z23 (by omega)]; rfl
theorem rowLen {rows : List (List Int)} {M : Nat} (hrl : ∀ r ∈ rows, r.length ≤ M) (v : Int) : (rows.getD v.toNat []).length ≤ M := by
  by_cases h : v.toNat < rows.length
  · rw [z23 h]; exact hrl _ (List.getElem_mem _)
  · rw [List.getD_eq_getElem?_getD, List.getElem?_eq_none (by omega)]; exact Nat.zero_le _
set_option maxHeartbeats 3200000 in
theorem l8Cycle_ok (rows : List (List Int)) (v : Int) (hr : ∀ r ∈ rows, InN rows.length r) (hv : 0 ≤ v ∧ v < rows.length) (hN : rows.length ≤ 100000) (hrl : ∀ r ∈ rows, r.length ≤ 1000000000) : CallsA Tryz.prog 189 [lst 1 encL rows, .int v] [] (ints (cycL rows v)) [] := by
  have hg := rowAt hv
  have hl := fun w => rowLen hrl w
  have c1 := l4In_ok (rows.getD v.toNat []) (by have := hl v; unfold maxLen; omega) v
  have hlv := hl v
  have c2 := l8Search_new rows [v] hr (one_in hv) (by simp) hN hrl
  have hQ := srQ_in hr (one_in hv) (by simp)
  have hB := srQ_back hr (one_in hv) (by simp)
  have hPl := srP_len hr (one_in hv) (by simp)
  have hQl := srQ_len hr (one_in hv) (by simp)
  have c3 := fun k hk => l8Back_ok (srP rows [v]) (by omega) rows.length _ (hB k hk) (by omega)
  unfold cycL
  by_cases h : v ∈ rows.getD v.toNat []
  · rw [if_pos h]
    rw [decide_eq_true h] at c1
    generalize rows.getD v.toNat [] = r0 at *
    refine z40 z28 Tryz.func189 rfl rfl 45 Tryz.ntmps189 (by simp) ?_
    repeat' ((first | (apply AWP.go ok; rfl) | (refine z13 (i := v.toNat) (by simp) hg ?_) | (apply And.intro; omega) | (apply z4 (c1); rfl; rfl)) <;> conv => whnf)
    all_goals skip
    all_goals (refine RetS.lay [] [0] rfl rfl rfl ?_; refine RetS.done ?_ ?_ <;> (repeat' (first | exact LocLe.refl _ | exact F2.nil)))
  · rw [if_neg h]
    rw [decide_eq_false h] at c1
    generalize hr0 : rows.getD v.toNat [] = r0 at hg c1 hlv
    generalize srQ rows [v] = Q at *
    generalize srP rows [v] = P at *
    generalize hR : cycT rows P v Q = R
    refine z40 z28 Tryz.func189 rfl rfl 45 Tryz.ntmps189 (by simp) ?_
    repeat' ((first | (apply AWP.go ok; rfl) | (refine z13 (i := v.toNat) (by simp) hg ?_) | (apply And.intro; omega) | (apply z4 (c1); rfl; rfl) | (((apply z21 [] [0] [1, 2] (c2); (focus ((repeat' first | exact z89 | apply z72) <;> rfl)); (focus ((repeat' exact z11) <;> fail)))); rfl; rfl; rfl; rfl; rfl; (focus ((repeat' first | exact z27 | apply z26) <;> (refine z39 ?_; ((exact z0 fun _ => rfl))))); ((refine .inr ⟨rfl, ?_⟩; repeat' first | exact True.intro | apply And.intro | exact z50 (fun _ => rfl) _)))) <;> conv => whnf)
    all_goals skip
    refine z99 (fun i : Nat => ([(0, lst 1 encL rows), (1, .int v), (5, ints P), (6, ints Q), (7, .int i)], [])) (fun i => i ≤ Q.length ∧ cycT rows P v (Q.drop i) = R) (fun i => Q.length - i) 0 ⟨Nat.zero_le _, hR⟩ (by refine SealW.reach [] [1, 2] rfl rfl rfl rfl ?_ ?_ <;> (repeat' (first | exact LocLe.refl _ | exact F2.nil | ((apply seal_leU rfl rfl rfl); (focus ((repeat ((exact unown_map (fun _ => rfl) _))); done)); (focus (((simp; done)); done))) | exact True.intro | apply And.intro))) ?_
    rintro i ⟨hi1, hi2⟩
    by_cases hi3 : i < Q.length
    · have hq := hQ _ (List.getElem_mem hi3)
      have hgq := rowAt hq
      have c4 := l4In_ok (rows.getD Q[i].toNat []) (by have := hl Q[i]; unfold maxLen; omega) v
      have hlq := hl Q[i]
      have c5 := c3 i hi3
      rw [List.drop_eq_getElem_cons hi3, cycT] at hi2
      have hgi : (Q.map enI)[i]? = some (enI Q[i]) := by rw [List.getElem?_map, List.getElem?_eq_getElem hi3]; rfl
      generalize Q[i] = u at *
      by_cases hm : v ∈ rows.getD u.toNat []
      · rw [if_pos hm] at hi2
        rw [decide_eq_true hm] at c4
        subst hi2
        generalize rows.getD u.toNat [] = r1 at *
        repeat' ((first | (apply AWP.go ok; rfl) | (refine z13 (i := u.toNat) (by simp) hgq ?_) | (refine z13 (i := i) (by simp) hgi ?_) | (apply And.intro; omega) | ((apply z2) <;> intro _) | (apply z4 (c4); rfl; rfl) | (apply z4 (c5); rfl; rfl)) <;> conv => whnf)
        all_goals first | (exfalso; omega) | skip
        all_goals (refine RetS.lay [] [] rfl rfl rfl ?_; refine RetS.done ?_ ?_ <;> (repeat' (first | exact LocLe.refl _ | exact F2.nil)))
      · rw [if_neg hm] at hi2
        rw [decide_eq_false hm] at c4
        generalize rows.getD u.toNat [] = r1 at *
        repeat' ((first | (apply AWP.go ok; rfl) | (refine z13 (i := u.toNat) (by simp) hgq ?_) | (refine z13 (i := i) (by simp) hgi ?_) | (apply And.intro; first | omega | (unfold inI; omega)) | ((apply z2) <;> intro _) | (apply z4 (c4); rfl; rfl)) <;> conv => whnf)
        all_goals first | (exfalso; omega) | skip
        all_goals refine z62 (i + 1) ⟨hi3, hi2⟩ (by omega) (by refine SealW.reach [] [] rfl rfl rfl rfl ?_ ?_ <;> (repeat' (first | exact LocLe.refl _ | exact F2.nil | exact True.intro | apply And.intro)))
    · have e : Q.length = i := by omega
      subst e
      rw [List.drop_length, cycT] at hi2
      subst hi2
      repeat' ((first | (apply AWP.go ok; rfl) | (apply And.intro; omega) | ((first | (with_reducible apply z3; omega) | (with_reducible apply z30; omega)); intro _) | ((apply z2) <;> intro _)) <;> conv => whnf)
      all_goals first | (exfalso; omega) | skip
      all_goals (refine RetS.lay [] [0] rfl rfl rfl ?_; refine RetS.done ?_ ?_ <;> (repeat' (first | exact LocLe.refl _ | exact F2.nil)))

theorem l8States_ok (l : List Int) (n : Nat) (hl : l.length ≤ 1000000) (hn : 1 ≤ n) (h0 : ∀ x ∈ l, 0 ≤ x) (h1 : ∀ x ∈ l, x ≤ 1000000000) : CallsA Tryz.prog 191 [ints l, .int n] [] (.sref 0 0 l.length) [.cells 1 ((stL l n).map enI)] := by
  refine z40 z28 Tryz.func191 rfl rfl 24 Tryz.ntmps191 (by simp) ?_
  repeat' (((apply AWP.go ok; rfl)) <;> conv => whnf)
  refine z99 (fun x : Nat × List Int => ([(0, ints l), (1, .int n), (5, .sref 0 0 x.2.length), (6, .int x.1)], [.cells 1 (x.2.map enI)])) (fun x => x.1 ≤ l.length ∧ x.2.length = x.1 ∧ x.2 = stL (l.take x.1) n) (fun x => l.length - x.1) (0, []) ⟨Nat.zero_le _, rfl, rfl⟩ (by refine SealW.reach [0] [] rfl rfl rfl rfl ?_ ?_ <;> (repeat' (first | exact LocLe.refl _ | exact F2.nil | apply F2.cons | ((refine z15 rfl ?_ ?_); (focus ((repeat' (exact z17)); done))) | exact True.intro | apply And.intro))) ?_
  rintro ⟨i, F⟩ ⟨hi1, hF1, hF2⟩
  dsimp only at hi1 hF1 hF2 ⊢
  by_cases hi2 : i < l.length
  · have a0 := h0 _ (List.getElem_mem hi2)
    have a1 := h1 _ (List.getElem_mem hi2)
    have a2 : 0 ≤ l[i] / (n : Int) := Int.ediv_nonneg a0 (by omega)
    have a3 : l[i] / (n : Int) ≤ l[i] := Int.ediv_le_self _ a0
    have hF3 : stL (l.take (i + 1)) n = F ++ [l[i] / n] := by rw [hF2, stL, List.take_succ_eq_append_getElem hi2, List.map_append]; rfl
    repeat' ((first | (apply AWP.go ok; rfl) | (apply And.intro; first | omega | (unfold inI; omega) | ((try dsimp only); simp only [List.length_map, List.length_take, List.length_append, List.length_replicate, List.length_cons, List.length_nil]; omega) | exact ⟨rfl, z12 rfl z20⟩) | (((with_reducible apply z3; omega)); intro _) | ((apply z2) <;> intro _)) <;> conv => whnf)
    all_goals first | (exfalso; omega) | skip
    all_goals refine z62 (i + 1, F ++ [l[i] / n]) ⟨hi2, by rw [List.length_append, hF1]; rfl, hF3.symm⟩ (by show l.length - (i + 1) < l.length - i; omega) (by refine SealW.reach [2] [] rfl rfl rfl rfl ?_ ?_ <;> (repeat' (first | exact LocLe.refl _ | exact F2.nil | apply F2.cons | (refine z80 ?_; ((simp; done))) | ((refine z118 rfl ?_ ?_); (focus ((repeat' (first | exact z0 (fun _ => rfl) | apply z94)); done))) | (refine snoc_le ?_ ?_; (focus (omega))) | exact True.intro | apply And.intro)))
  · have e : l.length = i := by omega
    subst e
    rw [List.take_length] at hF2
    subst hF2
    repeat' ((first | (apply AWP.go ok; rfl) | (apply And.intro; omega) | (((with_reducible apply z3; omega)); intro _) | ((apply z2) <;> intro _)) <;> conv => whnf)
    all_goals first | (exfalso; omega) | skip
    all_goals (refine RetS.lay [0] [] rfl rfl rfl ?_; refine RetS.done ?_ ?_ <;> (repeat' (first | exact F2.nil | apply F2.cons | exact z14 _ | (refine z80 ?_; (omega)) | ((refine z15 rfl ?_ ?_); (focus ((repeat' ((exact z0 (fun _ => rfl)))); done))))))
end Go.Proofs.YtknlmbniicacmaaGreat

namespace Go.Proofs.YtknlmbniicacmaaGreat
open Go.Gl
attribute [local irreducible] z22 AWP z46 z54 z51 RetS z58

theorem IniP.nd {l : List Int} {n : Int} (h : IniP l n l.length) : l.Nodup := by
  have hs : ∀ d i (hi : i + d + 1 < l.length), l[i] < l[i + d + 1] := by
    intro d
    induction d with
    | zero => intro i hi; exact (h (i + 1) hi hi).2 i rfl
    | succ d ih =>
      intro i hi
      have h1 := ih i (by omega)
      have h2 := (h (i + (d + 1) + 1) hi hi).2 (i + d + 1) (by omega)
      omega
  rw [List.nodup_iff_pairwise_ne, List.pairwise_iff_getElem]
  intro i j hi hj hij
  have := hs (j - i - 1) i (by omega)
  have e : i + (j - i - 1) + 1 = j := by omega
  simp only [e] at this
  omega
noncomputable def trcO (g : Graph) (ls : List Int) (a : Aut) : Option (List Int × List Int) := (finS (z42 g ls a) a.ini a.acc).map fun x => (stL (x.1.take (x.1.length - 1)) a.acc.length, stL x.2 a.acc.length)
noncomputable def trcL (g : Graph) (ls : List Int) (a : Aut) : List Int × List Int := (trcO g ls a).getD ([], [])
set_option maxHeartbeats 6400000 in
theorem l8Find_ok (g : Graph) (hG : GB g) (ls : List Int) (hls : ls.length = g.st.length) (hlr : ∀ x ∈ ls, 0 ≤ x ∧ x ≤ 7) (a : Aut) (hA : AutP a) : CallsA Tryz.prog 118 [.agg g.cs, ints ls, .agg a.cs] [] (.tup [.agg [ints (trcL g ls a).1, ints (trcL g ls a).2], .bool (trcO g ls a).isSome]) [] := by
  have k2 := l8Product_ok g hG ls hls hlr a hA
  obtain ⟨f1, f2, f3, f4, f5⟩ := prod_facts hG hA ls
  have hlen : (z42 g ls a).length = g.st.length * a.acc.length := by unfold z42; rw [z96, Nat.mul_comm]
  have hnd := hA.2.2.1.nd
  have hac := hA.1
  unfold trcL trcO finS
  generalize z42 g ls a = rows at *
  have k3 := l8Search_ok rows a.ini f1 f2 hnd (by omega) f4
  have hQ := srQ_in f1 f2 hnd
  have hB := srQ_back f1 f2 hnd
  have hPl := srP_len f1 f2 hnd
  have hQl := srQ_len f1 f2 hnd
  have hPle := srS_le f1 f2 hnd rows.length
  have k4 := fun v hv => l8Cycle_ok rows v f1 hv (by omega) f4
  have k5 := fun k hk => l8Back_ok (srP rows a.ini) (by omega) rows.length _ (hB k hk) (by omega)
  have n4 := fun v hv => cycL_nn f1 (v := v) hv
  have m4 := fun v hv => cycL_le f1 (v := v) hv
  change ∀ y ∈ srP rows a.ini, y ≤ (rows.length : Int) at hPle
  generalize srQ rows a.ini = Q at *
  generalize srP rows a.ini = P at *
  generalize hR : finT rows a.acc P Q = R
  refine z40 z28 Tryz.func118 rfl rfl 72 Tryz.ntmps118 (by simp) ?_
  repeat' ((first | (apply AWP.go ok; rfl) | (apply z4 (k2); rfl; rfl) | (apply z4 (k3); rfl; rfl)) <;> conv => whnf)
  all_goals skip
  refine z99 (fun i : Nat => ([(5, .ptr 0 none 0), (6, .ptr 1 none 0), (8, .int a.acc.length), (9, lst 1 encL rows), (10, ints P), (11, ints Q), (12, .int i)], [.cells 3 [a.cs], .cells 2 [[.nils, .nils]]])) (fun i => i ≤ Q.length ∧ finT rows a.acc P (Q.drop i) = R) (fun i => Q.length - i) 0 ⟨Nat.zero_le _, hR⟩ (by refine SealW.reach [1, 2] [] rfl rfl rfl rfl ?_ ?_ <;> (repeat' (first | exact LocLe.refl _ | exact F2.nil | apply F2.cons | apply ObjLe.box | exact True.intro | apply And.intro))) ?_
  rintro i ⟨hi1, hi2⟩
  by_cases hi3 : i < Q.length
  · have hq := hQ _ (List.getElem_mem hi3)
    have c5 := k5 i hi3
    rw [List.drop_eq_getElem_cons hi3, finT] at hi2
    have hgi : (Q.map enI)[i]? = some (enI Q[i]) := by rw [List.getElem?_map, List.getElem?_eq_getElem hi3]; rfl
    generalize Q[i] = u at *
    have hm0 : 0 ≤ u % (a.acc.length : Int) := Int.emod_nonneg _ (by omega)
    have hm1 : u % (a.acc.length : Int) < a.acc.length := Int.emod_lt_of_pos _ (by omega)
    have hga : (a.acc.map enB)[(u % (a.acc.length : Int)).toNat]? = some (enB (a.acc.getD (u % (a.acc.length : Int)).toNat false)) := by
      rw [List.getElem?_map, List.getElem?_eq_getElem (by omega), z23 (by omega)]; rfl
    have c4 := k4 u hq
    have l4 := cycL_len rows u
    have b1 := bkw_len P rows.length u []
    simp only [List.length_nil, Nat.add_zero] at b1
    have b2 := bkw_pos P rows.length u []
    have b3 := bkw_nn (P := P) rows.length u [] hq.1 (fun x hx => by cases hx)
    have b4 := bkw_le hPle rows.length u [] (by omega) (by omega) (fun x hx => by cases hx)
    have n5 := n4 u hq
    have m5 := m4 u hq
    generalize bkw P rows.length u [] = b at *
    generalize cycL rows u = c at *
    have c6 := l8States_ok (b.take (b.length - 1)) a.acc.length (by rw [List.length_take]; omega) (by omega) (fun x hx => b3 x (List.mem_of_mem_take hx)) (fun x hx => by have := b4 x (List.mem_of_mem_take hx); omega)
    rw [show (b.take (b.length - 1)).length = b.length - 1 by rw [List.length_take]; omega] at c6
    have eL : AC.list 1 (((b.length : Int) - 1).toNat - Int.toNat 0) (List.take (((b.length : Int) - 1).toNat - Int.toNat 0) (List.drop (Int.toNat 0) (List.map enI b))) = ints (b.take (b.length - 1)) := by
      rw [show ((b.length : Int) - 1).toNat - Int.toNat 0 = b.length - 1 by rw [show Int.toNat 0 = 0 from rfl]; omega]
      show _ = AC.list 1 (b.take (b.length - 1)).length ((b.take (b.length - 1)).map enI)
      rw [show (b.take (b.length - 1)).length = b.length - 1 by rw [List.length_take]; omega, List.map_take]; rfl
    rw [← eL] at c6
    have hs1 : (stL (b.take (b.length - 1)) a.acc.length).length = b.length - 1 := by rw [stL, List.length_map, List.length_take]; omega
    have hs2 : (stL c a.acc.length).length = c.length := by rw [stL, List.length_map]
    have c7 := l8States_ok c a.acc.length (by omega) (by omega) n5 (fun x hx => by have := m5 x hx; omega)
    generalize a.acc.getD (u % (a.acc.length : Int)).toNat false = z at *
    cases z
    · rw [if_neg (by simp)] at hi2
      repeat' ((first | (apply AWP.go ok; rfl) | (apply z5; kernel_rfl) | (refine z13 (i := i) (by simp) hgi ?_) | (refine z13 (i := (u % (a.acc.length : Int)).toNat) (by simp) hga ?_) | (apply And.intro; first | omega | (unfold inI; omega)) | ((apply z2) <;> intro _)) <;> conv => whnf)
      all_goals first | (exfalso; omega) | skip
      all_goals refine z62 (i + 1) ⟨hi3, hi2⟩ (by omega) (by refine SealW.reach [0, 1] [] rfl rfl rfl rfl ?_ ?_ <;> (repeat' (first | exact LocLe.refl _ | exact F2.nil | apply F2.cons | apply ObjLe.box | exact True.intro | apply And.intro)))
    · rw [if_pos rfl] at hi2
      by_cases hc : 0 < c.length
      · rw [if_pos hc] at hi2
        subst hi2
        repeat' ((first | (apply AWP.go ok; rfl) | (apply z5; kernel_rfl) | (refine z13 (i := i) (by simp) hgi ?_) | (refine z13 (i := (u % (a.acc.length : Int)).toNat) (by simp) hga ?_) | (apply And.intro; first | omega | (unfold inI; omega)) | ((apply z2) <;> intro _) | (apply z4 (c4); rfl; rfl) | (apply z4 (c5); rfl; rfl) | ((first | (apply z21 [] [] [2] (c6); rfl; (focus ((repeat' exact z11) <;> fail))) | (apply z21 [] [] [3] (c7); rfl; (focus ((repeat' exact z11) <;> fail)))); rfl; rfl; rfl; rfl; rfl; (focus ((repeat' first | exact z27 | apply z26) <;> (refine z39 ?_; ((exact z0 fun _ => rfl))))); (exact .inl rfl))) <;> conv => whnf)
        all_goals first | (exfalso; omega) | skip
        all_goals (refine RetS.lay [] [2, 3] rfl rfl rfl ?_; refine RetS.done ?_ ?_ <;> (repeat' (first | exact LocLe.refl _ | exact F2.nil | apply F2.cons | (refine lst_le ?_; omega) | ((apply seal_leU rfl rfl rfl); (focus ((repeat ((exact unown_map (fun _ => rfl) _))); done)); (focus (((simp; omega)); done))) | apply agg_le | apply tup_le)))
      · rw [if_neg hc] at hi2
        repeat' ((first | (apply AWP.go ok; rfl) | (apply z5; kernel_rfl) | (refine z13 (i := i) (by simp) hgi ?_) | (refine z13 (i := (u % (a.acc.length : Int)).toNat) (by simp) hga ?_) | (apply And.intro; first | omega | (unfold inI; omega)) | ((apply z2) <;> intro _) | (apply z4 (c4); rfl; rfl) | (apply z4 (c5); rfl; rfl)) <;> conv => whnf)
        all_goals first | (exfalso; omega) | skip
        all_goals refine z62 (i + 1) ⟨hi3, hi2⟩ (by omega) (by refine SealW.reach [0, 1] [] rfl rfl rfl rfl ?_ ?_ <;> (repeat' (first | exact LocLe.refl _ | exact F2.nil | apply F2.cons | apply ObjLe.box | exact True.intro | apply And.intro)))
  · have e : Q.length = i := by omega
    subst e
    rw [List.drop_length, finT] at hi2
    subst hi2
    repeat' ((first | (apply AWP.go ok; rfl) | (apply z5; kernel_rfl) | (apply And.intro; omega) | ((first | (with_reducible apply z3; omega) | (with_reducible apply z30; omega)); intro _) | ((first | apply z2 | apply z34) <;> intro _)) <;> conv => whnf)
    all_goals first | (exfalso; omega) | skip
    all_goals (refine RetS.lay [] [] rfl rfl rfl ?_; refine RetS.done ?_ ?_ <;> (repeat' (first | exact LocLe.refl _ | exact nils_list | exact F2.nil | apply F2.cons | apply agg_le | apply tup_le)))
end Go.Proofs.YtknlmbniicacmaaGreat

namespace Go.Proofs.YtknlmbniicacmaaGreat
open Go.Gl
attribute [local irreducible] z22 AWP z46 z54 z51 RetS z58

set_option maxHeartbeats 3200000 in
theorem l9Rank_ok (R row : List Int) (z : Bool) {M : Int} (hB : Bd M R) (hM : 0 ≤ M) (hM2 : M ≤ 1000000000) (hr : InN R.length row) (hRl : R.length ≤ 100000) (hrl : row.length ≤ 1000000000) : CallsA Tryz.prog 200 [ints row, ints R, .bool z] [] (.int (rkOf R z row)) [] := by
  refine z40 z28 Tryz.func200 rfl rfl 31 Tryz.ntmps200 (by simp) ?_
  repeat' (((apply AWP.go ok; rfl)) <;> conv => whnf)
  refine z99 (fun i : Nat => ([(0, ints row), (1, ints R), (2, .bool z), (7, .int ((row.take i).foldl (rkStep R z) 0)), (8, .int i)], [])) (fun i => i ≤ row.length) (fun i => row.length - i) 0 (Nat.zero_le _) (by refine SealW.reach [] [] rfl rfl rfl rfl ?_ ?_ <;> (repeat' (first | exact LocLe.refl _ | exact F2.nil | exact True.intro | apply And.intro))) ?_
  intro i hi
  by_cases hi2 : i < row.length
  · have hx := hr _ (List.getElem_mem hi2)
    have hb := hB.getD hM row[i].toNat
    have ho := rkFold_le hB hM (z := z) (row.take i) 0 ⟨by omega, by omega⟩
    have hs : (row.take (i + 1)).foldl (rkStep R z) 0 = rkStep R z ((row.take i).foldl (rkStep R z) 0) row[i] := by rw [List.take_succ_eq_append_getElem hi2, List.foldl_append]; rfl
    have hg : (row.map enI)[i]? = some (enI row[i]) := by rw [List.getElem?_map, List.getElem?_eq_getElem hi2]; rfl
    have hg2 : (R.map enI)[row[i].toNat]? = some (enI (R.getD row[i].toNat 0)) := by rw [List.getElem?_map, List.getElem?_eq_getElem (by omega), z23 (by omega)]; rfl
    generalize (row.take i).foldl (rkStep R z) 0 = o at *
    generalize row[i] = v at *
    rw [show rkStep R z o v = (if o < R.getD v.toNat 0 + (if z = true then 1 else 0) then R.getD v.toNat 0 + (if z = true then 1 else 0) else o) from rfl] at hs
    generalize R.getD v.toNat 0 = r at *
    cases z
    · simp only [if_neg (show ¬ false = true by simp), Int.add_zero] at hs
      by_cases hlt : o < r
      · rw [if_pos hlt] at hs
        repeat' ((first | (apply AWP.go ok; rfl) | (refine z13 (i := i) (by simp) hg ?_) | (refine z13 (i := v.toNat) (by simp) hg2 ?_) | (apply And.intro; first | omega | (unfold inI; omega)) | ((apply z2) <;> intro _)) <;> conv => whnf)
        all_goals first | (exfalso; omega) | skip
        all_goals refine z62 (i + 1) hi2 (by omega) (by refine SealW.reach [] [] rfl rfl rfl rfl ?_ ?_ <;> (repeat' (first | exact LocLe.refl _ | exact F2.nil | (refine int_le ?_; omega) | exact True.intro | apply And.intro)) <;> ((rw [hs]; exact LocLe.refl _)))
      · rw [if_neg hlt] at hs
        repeat' ((first | (apply AWP.go ok; rfl) | (refine z13 (i := i) (by simp) hg ?_) | (refine z13 (i := v.toNat) (by simp) hg2 ?_) | (apply And.intro; first | omega | (unfold inI; omega)) | ((apply z2) <;> intro _)) <;> conv => whnf)
        all_goals first | (exfalso; omega) | skip
        all_goals refine z62 (i + 1) hi2 (by omega) (by refine SealW.reach [] [] rfl rfl rfl rfl ?_ ?_ <;> (repeat' (first | exact LocLe.refl _ | exact F2.nil | (refine int_le ?_; omega) | exact True.intro | apply And.intro)) <;> ((rw [hs]; exact LocLe.refl _)))
    · simp only [if_pos] at hs
      by_cases hlt : o < r + 1
      · rw [if_pos hlt] at hs
        repeat' ((first | (apply AWP.go ok; rfl) | (refine z13 (i := i) (by simp) hg ?_) | (refine z13 (i := v.toNat) (by simp) hg2 ?_) | (apply And.intro; first | omega | (unfold inI; omega)) | ((apply z2) <;> intro _)) <;> conv => whnf)
        all_goals first | (exfalso; omega) | skip
        all_goals refine z62 (i + 1) hi2 (by omega) (by refine SealW.reach [] [] rfl rfl rfl rfl ?_ ?_ <;> (repeat' (first | exact LocLe.refl _ | exact F2.nil | (refine int_le ?_; omega) | exact True.intro | apply And.intro)) <;> ((rw [hs]; exact LocLe.refl _)))
      · rw [if_neg hlt] at hs
        repeat' ((first | (apply AWP.go ok; rfl) | (refine z13 (i := i) (by simp) hg ?_) | (refine z13 (i := v.toNat) (by simp) hg2 ?_) | (apply And.intro; first | omega | (unfold inI; omega)) | ((apply z2) <;> intro _)) <;> conv => whnf)
        all_goals first | (exfalso; omega) | skip
        all_goals refine z62 (i + 1) hi2 (by omega) (by refine SealW.reach [] [] rfl rfl rfl rfl ?_ ?_ <;> (repeat' (first | exact LocLe.refl _ | exact F2.nil | (refine int_le ?_; omega) | exact True.intro | apply And.intro)) <;> ((rw [hs]; exact LocLe.refl _)))
  · have e : row.length = i := by omega
    subst e
    rw [List.take_length]
    repeat' ((first | (apply AWP.go ok; rfl) | (apply And.intro; omega) | ((first | (with_reducible apply z3; omega) | (with_reducible apply z30; omega)); intro _) | ((first | apply z2 | apply z34) <;> intro _)) <;> conv => whnf)
    all_goals first | (exfalso; omega) | skip
    all_goals (refine RetS.lay [] [] rfl rfl rfl ?_; refine RetS.done ?_ ?_ <;> (repeat' (first | exact LocLe.refl _ | exact F2.nil)))

set_option maxHeartbeats 12800000 in
theorem l9Make_new (rows : List (List Int)) (a : Aut) (hr : ∀ r ∈ rows, InN rows.length r) (hi : InN rows.length a.ini) (hac : 1 ≤ a.acc.length ∧ a.acc.length ≤ 64) (hN : rows.length ≤ 3840) (hrl : ∀ r ∈ rows, r.length ≤ 1000000000) (hil : a.ini.length ≤ 1048576) : CallsA Tryz.prog 140 [lst 1 encL rows, .agg a.cs] [] (.sref 0 0 rows.length) [.cells 1 ((makeR rows a.ini a.acc).map enI)] := by
  have c1 := l7Reach_ok rows a.ini hr hi (by omega) hrl hil
  have hQn := bfs_len hr hi rows.length
  have hQi := bfs_in hr hi rows.length
  change (bfsL rows a.ini).length ≤ rows.length at hQn
  change InN rows.length (bfsL rows a.ini) at hQi
  have hml := makeR_len rows a.ini a.acc
  unfold makeR at *
  generalize bfsL rows a.ini = nodes at *
  refine z40 z28 Tryz.func140 rfl rfl 89 Tryz.ntmps140 (by simp) ?_
  repeat' ((first | (apply AWP.go ok; rfl) | (apply z4 (c1); rfl; rfl)) <;> conv => whnf)
  all_goals skip
  refine z99 (fun x : Nat × List Int => ([(0, lst 1 encL rows), (3, .ptr 0 none 0), (5, .int a.acc.length), (6, ints nodes), (7, .sref 1 0 x.2.length), (8, .int x.1)], [.cells 3 [a.cs], .cells 1 (x.2.map enI)])) (fun x => x.1 ≤ rows.length ∧ x.2.length = x.1 ∧ x.2 = fillN x.1) (fun x => rows.length - x.1) (0, []) ⟨Nat.zero_le _, rfl, rfl⟩ (by refine SealW.reach [0, 1] [] rfl rfl rfl rfl ?_ ?_ <;> (repeat' (first | exact LocLe.refl _ | exact F2.nil | apply F2.cons | apply ObjLe.box | ((refine z15 rfl ?_ ?_); (focus ((repeat' (exact z17)); done))) | exact True.intro | apply And.intro))) ?_
  rintro ⟨i, F⟩ ⟨hF1, hFl, hF2⟩
  dsimp only at hF1 hFl hF2 ⊢
  by_cases hi2 : i < rows.length
  · repeat' ((first | (apply AWP.go ok; rfl) | (apply And.intro; first | (unfold inI; omega) | ((try dsimp only); simp only [List.length_map, List.length_take, List.length_append, List.length_replicate, List.length_cons, List.length_nil]; omega) | exact ⟨rfl, z12 rfl z20⟩) | ((apply z2) <;> intro _)) <;> conv => whnf)
    all_goals first | (exfalso; omega) | skip
    all_goals refine z62 (i + 1, F ++ [-1]) ⟨hi2, by rw [List.length_append, hFl]; rfl, by show _ = fillN (i + 1); rw [fillN_succ, ← hF2]⟩ (by show rows.length - (i + 1) < _; omega) (by refine SealW.reach [0, 3] [] rfl rfl rfl rfl ?_ ?_ <;> (repeat' (first | exact LocLe.refl _ | exact F2.nil | apply F2.cons | (refine z80 ?_; ((simp; done))) | apply ObjLe.box | ((refine z118 rfl ?_ ?_); (focus ((repeat' (first | exact z0 (fun _ => rfl) | apply z94)); done))) | (refine snoc_le ?_ ?_; (focus (omega))) | exact True.intro | apply And.intro)))
  have e : rows.length = i := by omega
  have hz0 : zeroR rows.length (nodes.take 0) = F := by rw [hF2, ← e]; rfl
  subst e
  clear hF1 hF2 hi2
  repeat' ((first | (apply AWP.go ok; rfl) | (apply And.intro; omega) | ((apply z2) <;> intro _)) <;> conv => whnf)
  all_goals first | (exfalso; omega) | skip
  refine z99 (fun x : Nat × List Int => ([(0, lst 1 encL rows), (3, .ptr 0 none 0), (5, .int a.acc.length), (6, ints nodes), (7, .sref 1 0 x.2.length), (9, .int x.1)], [.cells 3 [a.cs], .cells 1 (x.2.map enI)])) (fun x => x.1 ≤ nodes.length ∧ zeroR rows.length (nodes.take x.1) = x.2) (fun x => nodes.length - x.1) (0, F) ⟨Nat.zero_le _, hz0⟩ (by refine SealW.reach [0, 1] [] rfl rfl rfl rfl ?_ ?_ <;> (repeat' (first | exact LocLe.refl _ | exact F2.nil | apply F2.cons | exact z14 _ | apply ObjLe.box | ((refine z15 rfl ?_ ?_); (focus ((repeat' ((exact z0 (fun _ => rfl)))); done))) | exact True.intro | apply And.intro))) ?_
  clear hz0 hFl F
  rintro ⟨i, R⟩ ⟨hi1, hR⟩
  dsimp only at hi1 hR ⊢
  have hRl := zeroR_len rows.length (nodes.take i)
  rw [hR] at hRl
  by_cases hi2 : i < nodes.length
  · have hx := hQi _ (List.getElem_mem hi2)
    have hs := zeroR_take (N := rows.length) hi2
    rw [hR] at hs
    repeat' ((first | (apply AWP.go ok; rfl) | (apply And.intro; first | omega | (unfold inI; omega)) | ((first | (with_reducible apply z3; omega) | (apply z3; omega)); intro _) | ((apply z2) <;> intro _)) <;> conv => whnf)
    all_goals first | (exfalso; omega) | skip
    all_goals refine z62 (i + 1, R.set nodes[i].toNat 0) ⟨hi2, hs⟩ (by show nodes.length - (i + 1) < _; omega) (by refine SealW.reach [0, 1] [] rfl rfl rfl rfl ?_ ?_ <;> (repeat' (first | exact LocLe.refl _ | exact F2.nil | apply F2.cons | (refine z80 ?_; ((simp; done))) | apply ObjLe.box | ((refine z67 rfl ?_ ?_); (focus ((repeat' ((exact z0 (fun _ => rfl)))); done))) | (refine put_le (by omega) ?_) | exact True.intro | apply And.intro)))
  have e : nodes.length = i := by omega
  subst e
  rw [List.take_length] at hR
  have hbd := zeroR_bd rows.length nodes
  rw [hR] at hbd hml ⊢
  clear hi2 hi1 hR
  generalize hRR : z107 rows a.acc nodes (nodes.length + 2) R true = RR at *
  have hrevl : nodes.reverse.length = nodes.length := List.length_reverse
  repeat' ((first | (apply AWP.go ok; rfl) | (apply And.intro; omega) | ((first | (with_reducible apply z3; omega) | (apply z3; omega)); intro _) | ((apply z2) <;> intro _)) <;> conv => whnf)
  all_goals first | (exfalso; omega) | skip
  refine z99 (fun x : Nat × List Int × Bool => ([(0, lst 1 encL rows), (3, .ptr 0 none 0), (5, .int a.acc.length), (6, ints nodes), (7, .sref 1 0 x.2.1.length), (10, .bool x.2.2), (11, .int x.1)], [.cells 3 [a.cs], .cells 1 (x.2.1.map enI)])) (fun x => x.1 ≤ nodes.length + 2 ∧ x.2.1.length = rows.length ∧ Bd (4000 * x.1) x.2.1 ∧ z107 rows a.acc nodes (nodes.length + 2 - x.1) x.2.1 x.2.2 = RR) (fun x => nodes.length + 2 - x.1) (0, R, true) ⟨Nat.zero_le _, hRl, hbd, hRR⟩ (by refine SealW.reach [0, 1] [] rfl rfl rfl rfl ?_ ?_ <;> (repeat' (first | exact LocLe.refl _ | exact F2.nil | apply F2.cons | exact z14 _ | apply ObjLe.box | ((refine z15 rfl ?_ ?_); (focus ((repeat' ((exact z0 (fun _ => rfl)))); done))) | exact True.intro | apply And.intro))) ?_
  clear hRR hbd hRl R
  rintro ⟨r, R, ch⟩ ⟨hr1, hRl, hbd, hRR⟩
  dsimp only at hr1 hRl hbd hRR ⊢
  have hend : ∀ f, z107 rows a.acc nodes f R false = R := fun f => by cases f <;> rfl
  cases ch
  · rw [hend] at hRR
    subst hRR
    repeat' (((apply AWP.go ok; rfl)) <;> conv => whnf)
    all_goals skip
    all_goals (refine RetS.lay [1] [] rfl rfl rfl ?_; refine RetS.done ?_ ?_ <;> (repeat' (first | exact F2.nil | apply F2.cons | exact z14 _ | (refine z80 ?_; (omega)) | ((refine z15 rfl ?_ ?_); (focus ((repeat' ((exact z0 (fun _ => rfl)))); done))))))
  by_cases hr2 : r ≤ nodes.length + 1
  · rw [show nodes.length + 2 - r = (nodes.length + 1 - r) + 1 by omega, z107, if_pos rfl] at hRR
    repeat' ((first | (apply AWP.go ok; rfl) | (apply And.intro; (unfold inI; omega)) | ((apply z2) <;> intro _)) <;> conv => whnf)
    all_goals first | (exfalso; omega) | skip
    refine z99 (fun y : Nat × List Int × Bool => ([(0, lst 1 encL rows), (3, .ptr 0 none 0), (5, .int a.acc.length), (6, ints nodes), (7, .sref 1 0 y.2.1.length), (10, .bool y.2.2), (11, .int r), (12, .int ((nodes.length : Int) - 1 - y.1))], [.cells 3 [a.cs], .cells 1 (y.2.1.map enI)])) (fun y => y.1 ≤ nodes.length ∧ (nodes.reverse.take y.1).foldl (relax rows a.acc) (R, false) = (y.2.1, y.2.2)) (fun y => nodes.length - y.1) (0, R, false) ⟨Nat.zero_le _, rfl⟩ (by refine SealW.reach [0, 1] [] rfl rfl rfl rfl ?_ ?_ <;> (repeat' (first | exact LocLe.refl _ | exact F2.nil | apply F2.cons | exact z14 _ | (refine int_le ?_; omega) | apply ObjLe.box | ((refine z15 rfl ?_ ?_); (focus ((repeat' ((exact z0 (fun _ => rfl)))); done))) | exact True.intro | apply And.intro))) ?_
    rintro ⟨k, R', c'⟩ ⟨hk, hV⟩
    dsimp only at hk hV ⊢
    have hb' := pass_bd (rows := rows) (acc := a.acc) (nodes.reverse.take k) (R, false) hbd (by omega)
    have hl' := pass_len (rows := rows) (acc := a.acc) (nodes.reverse.take k) (R, false)
    rw [hV] at hb' hl'
    rw [show (nodes.reverse.take k).length = k by rw [List.length_take]; omega] at hb'
    dsimp only at hb' hl'
    rw [hRl] at hl'
    by_cases hk2 : k < nodes.length
    · have hkr : k < nodes.reverse.length := by omega
      have hn2 : nodes.length - 1 - k < nodes.length := by omega
      have hrev : nodes.reverse[k] = nodes[nodes.length - 1 - k] := by rw [List.getElem_reverse]
      have hs : (nodes.reverse.take (k + 1)).foldl (relax rows a.acc) (R, false) = relax rows a.acc (R', c') nodes[nodes.length - 1 - k] := by
        rw [List.take_succ_eq_append_getElem hkr, List.foldl_append, hV, hrev]; rfl
      have hu := hQi _ (List.getElem_mem hn2)
      have hgn : (nodes.map enI)[nodes.length - 1 - k]? = some (enI nodes[nodes.length - 1 - k]) := by rw [List.getElem?_map, List.getElem?_eq_getElem hn2]; rfl
      generalize nodes[nodes.length - 1 - k] = u at *
      have hgr := rowAt hu
      have hm0 : 0 ≤ u % (a.acc.length : Int) := Int.emod_nonneg _ (by omega)
      have hm1 : u % (a.acc.length : Int) < a.acc.length := Int.emod_lt_of_pos _ (by omega)
      have hga : (a.acc.map enB)[(u % (a.acc.length : Int)).toNat]? = some (enB (a.acc.getD (u % (a.acc.length : Int)).toNat false)) := by
        rw [List.getElem?_map, List.getElem?_eq_getElem (by omega), z23 (by omega)]; rfl
      have hgR : (R'.map enI)[u.toNat]? = some (enI (R'.getD u.toNat 0)) := by rw [List.getElem?_map, List.getElem?_eq_getElem (by omega), z23 (by omega)]; rfl
      have hrow : InN R'.length (rows.getD u.toNat []) := by rw [hl']; exact row_in hr u
      have hrowl := rowLen hrl u
      have hbg := hb'.getD (by omega) u.toNat
      have c5 := l9Rank_ok R' (rows.getD u.toNat []) (a.acc.getD (u % (a.acc.length : Int)).toNat false) hb' (by omega) (by omega) hrow (by omega) hrowl
      have hrk := rkOf_le hb' (by omega) (a.acc.getD (u % (a.acc.length : Int)).toNat false) (rows.getD u.toNat [])
      rw [show relax rows a.acc (R', c') u = (if R'.getD u.toNat 0 < rkOf R' (a.acc.getD (u % (a.acc.length : Int)).toNat false) (rows.getD u.toNat []) then (R'.set u.toNat (rkOf R' (a.acc.getD (u % (a.acc.length : Int)).toNat false) (rows.getD u.toNat [])), true) else (R', c')) from rfl] at hs
      generalize rkOf R' (a.acc.getD (u % (a.acc.length : Int)).toNat false) (rows.getD u.toNat []) = w at *
      generalize a.acc.getD (u % (a.acc.length : Int)).toNat false = z at *
      generalize rows.getD u.toNat [] = row at *
      by_cases hlt : R'.getD u.toNat 0 < w
      · rw [if_pos hlt] at hs
        generalize R'.getD u.toNat 0 = y at *
        repeat' ((first | (apply AWP.go ok; rfl) | (refine z13 (i := nodes.length - 1 - k) (by omega) hgn ?_) | (refine z13 (i := u.toNat) (by simp) hgr ?_) | (refine z13 (i := u.toNat) (by simp) hgR ?_) | (refine z13 (i := (u % (a.acc.length : Int)).toNat) (by simp) hga ?_) | (apply And.intro; first | omega | (unfold inI; omega)) | ((apply z2) <;> intro _) | (((apply z21 [] [1] [] (c5); (focus ((repeat' first | exact z89 | apply z72) <;> first | exact bor_ints rfl rfl rfl | rfl)); (focus ((repeat' exact z11) <;> fail)))); rfl; rfl; rfl; rfl; rfl; (focus ((repeat' exact z27) <;> fail)); ((refine .inr ⟨rfl, ?_⟩; repeat' first | exact True.intro | apply And.intro)))) <;> conv => whnf)
        all_goals first | (exfalso; omega) | kernel_rfl | skip
        all_goals refine z62 (k + 1, R'.set u.toNat w, true) ⟨hk2, hs⟩ (by show nodes.length - (k + 1) < _; omega) (by refine SealW.reach [0, 1] [] rfl rfl rfl rfl ?_ ?_ <;> (repeat' (first | exact LocLe.refl _ | exact F2.nil | apply F2.cons | (refine int_le ?_; omega) | (refine z80 ?_; ((simp; done))) | apply ObjLe.box | ((refine z67 rfl ?_ ?_); (focus ((repeat' ((exact z0 (fun _ => rfl)))); done))) | (refine put_le (by omega) ?_) | exact True.intro | apply And.intro)))
      · rw [if_neg hlt] at hs
        generalize R'.getD u.toNat 0 = y at *
        repeat' ((first | (apply AWP.go ok; rfl) | (refine z13 (i := nodes.length - 1 - k) (by omega) hgn ?_) | (refine z13 (i := u.toNat) (by simp) hgr ?_) | (refine z13 (i := u.toNat) (by simp) hgR ?_) | (refine z13 (i := (u % (a.acc.length : Int)).toNat) (by simp) hga ?_) | (apply And.intro; first | omega | (unfold inI; omega)) | ((apply z2) <;> intro _) | (((apply z21 [] [1] [] (c5); (focus ((repeat' first | exact z89 | apply z72) <;> first | exact bor_ints rfl rfl rfl | rfl)); (focus ((repeat' exact z11) <;> fail)))); rfl; rfl; rfl; rfl; rfl; (focus ((repeat' exact z27) <;> fail)); ((refine .inr ⟨rfl, ?_⟩; repeat' first | exact True.intro | apply And.intro)))) <;> conv => whnf)
        all_goals first | (exfalso; omega) | kernel_rfl | skip
        all_goals refine z62 (k + 1, R', c') ⟨hk2, hs⟩ (by show nodes.length - (k + 1) < _; omega) (by refine SealW.reach [0, 1] [] rfl rfl rfl rfl ?_ ?_ <;> (repeat' (first | exact LocLe.refl _ | exact F2.nil | apply F2.cons | exact z14 _ | (refine int_le ?_; omega) | apply ObjLe.box | ((refine z15 rfl ?_ ?_); (focus ((repeat' ((exact z0 (fun _ => rfl)))); done))) | exact True.intro | apply And.intro)))
    · have e : nodes.length = k := by omega
      rw [List.take_of_length_le (by omega)] at hV
      rw [show passR rows a.acc nodes R = (R', c') from hV] at hRR
      repeat' ((first | (apply AWP.go ok; rfl) | (apply And.intro; first | omega | (unfold inI; omega)) | (((with_reducible apply z30; omega)); intro _) | ((apply z2) <;> intro _)) <;> conv => whnf)
      all_goals first | (exfalso; omega) | skip
      all_goals refine z62 (r + 1, R', c') ⟨by show r + 1 ≤ nodes.length + 2; omega, hl', hb'.mono (by show 4000 * (r : Int) + k ≤ 4000 * ((r + 1 : Nat) : Int); omega), by rw [show nodes.length + 2 - (r + 1) = nodes.length + 1 - r by omega]; exact hRR⟩ (by show nodes.length + 2 - (r + 1) < _; omega) (by refine SealW.reach [0, 1] [] rfl rfl rfl rfl ?_ ?_ <;> (repeat' (first | exact LocLe.refl _ | exact F2.nil | apply F2.cons | exact z14 _ | apply ObjLe.box | ((refine z15 rfl ?_ ?_); (focus ((repeat' ((exact z0 (fun _ => rfl)))); done))) | exact True.intro | apply And.intro)))
  · rw [show nodes.length + 2 - r = 0 by omega, z107] at hRR
    subst hRR
    repeat' ((first | (apply AWP.go ok; rfl) | (apply And.intro; first | omega | (unfold inI; omega)) | ((apply z2) <;> intro _)) <;> conv => whnf)
    all_goals first | (exfalso; omega) | skip
    all_goals (refine RetS.lay [1] [] rfl rfl rfl ?_; refine RetS.done ?_ ?_ <;> (repeat' (first | exact F2.nil | apply F2.cons | exact z14 _ | (refine z80 ?_; (omega)) | ((refine z15 rfl ?_ ?_); (focus ((repeat' ((exact z0 (fun _ => rfl)))); done))))))
end Go.Proofs.YtknlmbniicacmaaGreat

namespace Go.Proofs.YtknlmbniicacmaaGreat
open Go.Gl
attribute [local irreducible] z22

end Go.Proofs.YtknlmbniicacmaaGreat

namespace Go.Proofs.YtknlmbniicacmaaGreat
open Go.Gl
attribute [local irreducible] z22 AWP z46 z54 z51

theorem wf_inI {n : Int} (h : (Lit.int .i64 n).wf = true) : inI n := by
  have h1 : IntKind.min .i64 = -9223372036854775808 := by decide
  have h2 : IntKind.max .i64 = 9223372036854775807 := by decide
  simpa [Lit.wf, inI, h1, h2] using h

theorem tree_ok {P : Program} {tE tS tI : TypeId} {n1 n2 n3 : Field} (ht : P.underlying tE = some (.struct #[n1, n2, n3])) (e1 : n1.type = tI) (e2 : n2.type = tI) (e3 : n3.type = tS) (hI : P.underlying tI = some (.int .i64)) (hS : P.underlying tS = some (.slice tE))
    (cI : P.cellsOf tI = 1) (cS : P.cellsOf tS = 1) (cE : P.cellsOf tE = 3) (o1 : n1.offset = 0) (o2 : n2.offset = 1) (o3 : n3.offset = 2) : OpensD P tE Tree.cs' Tree.mx := by
  intro k
  induction k using Nat.strongRecOn with
  | _ k ih =>
    match k with
    | 0 => exact opens_zero
    | k + 1 =>
      refine (od_struct3 (e1 := fun n : Int => [.int n]) (ok1 := fun n => (Lit.int .i64 n).wf = true) (e2 := fun n : Int => [.int n]) (ok2 := fun n => (Lit.int .i64 n).wf = true) (e3 := fun l : List Tree => [lst 3 Tree.cs' l]) (ok3 := fun l => l.length ≤ maxLen ∧ ∀ a ∈ l, a.mx) (enc := Tree.cs') Tree.mk ht o1 (by rw [o2, e1, cI]) (by rw [o3, e1, e2, cI]) (by rw [e1, e2, e3, cI, cS, cE]) ?_ ?_ ?_ ?_).imp ?_
      · rw [e1]; exact od_int hI (fun _ => rfl) k
      · rw [e2]; exact od_int hI (fun _ => rfl) k
      · rw [e3]
        match k with
        | 0 => exact opens_zero
        | k + 1 => exact opens_list hS cE (by decide) (ih k (by omega))
      · intro a b c
        show [AC.int a, AC.int b, AC.list 3 c.length (c.map Tree.cs)] = _
        rw [Tree.lst_eq]; rfl
      · rintro xs ⟨x, rfl, a, b, c, rfl, _, _, h⟩
        exact ⟨_, rfl, (Tree.mx_iff _).2 h⟩

theorem od_intS : OpensD Tryz.prog 28 encL (fun l => l.length ≤ maxLen ∧ ∀ n ∈ l, (Lit.int .i64 n).wf = true) := od_list 1 Tryz.underlying28 (by kernel_rfl) (by decide) (od_int (enc := enI) Tryz.underlying3 (fun _ => rfl)) (fun _ => rfl)
theorem od_intSS : OpensD Tryz.prog 24 (fun l => [lst 1 encL l]) (fun l => l.length ≤ maxLen ∧ ∀ r ∈ l, r.length ≤ maxLen) := (od_list 1 (encL := fun l => [lst 1 encL l]) Tryz.underlying24 (by kernel_rfl) (by decide) od_intS (fun _ => rfl)).imp fun l h => ⟨l, rfl, h.1, fun r hr => (h.2 r hr).1⟩
theorem od_state : OpensD Tryz.prog 210 State.cs State.mx :=
  (od_struct2 (enc := State.cs) State.mk Tryz.underlying210 rfl (by kernel_rfl) (by kernel_rfl) od_intS od_intS (fun _ _ => rfl)).imp fun s ⟨a, b, e, h1, h2⟩ => ⟨s, rfl, by subst e; exact ⟨h1.1, h2.1⟩⟩
theorem od_stateS : OpensD Tryz.prog 65 (fun l => [lst 2 State.cs l]) State.mxs := (od_list 2 (encL := fun l => [lst 2 State.cs l]) Tryz.underlying65 (by kernel_rfl) (by decide) od_state (fun _ => rfl)).imp fun l h => ⟨l, rfl, h⟩
theorem od_graph : OpensD Tryz.prog 67 Graph.cs Graph.mx :=
  (od_struct2 (enc := Graph.cs) Graph.mk Tryz.underlying67 rfl (by kernel_rfl) (by kernel_rfl) od_stateS od_intSS (fun _ _ => rfl)).imp fun s ⟨a, b, e, h1, h2⟩ => ⟨s, rfl, by subst e; exact ⟨h1, h2.1, h2.2⟩⟩
theorem od_expr : OpensD Tryz.prog 153 Tree.cs' Tree.mx :=
  tree_ok (tI := 3) (tS := 68) Tryz.underlying153 rfl rfl rfl Tryz.underlying3 Tryz.underlying68 (by kernel_rfl) (by kernel_rfl) (by kernel_rfl) rfl rfl rfl
theorem ad_graph : ArgD Tryz.prog 67 (fun g : Graph => .agg g.cs) Graph.mx := argD_struct Tryz.underlying67 od_graph
theorem ad_exprS : ArgD Tryz.prog 68 (lst 3 Tree.cs') Lmx :=
  (argD_list (enc1 := lst 3 Tree.cs') Tryz.underlying68 (od_list 3 (encL := fun l => [lst 3 Tree.cs' l]) Tryz.underlying68 (by kernel_rfl) (by decide) od_expr (fun _ => rfl)) (fun _ => rfl)).imp fun l h => ⟨l, rfl, h⟩
section
open Go.ChangeShapes Go.WideShapes Go.ChangeAt Go.RowKit
theorem and_mk {a b : Bool} (h : a = true) (k : b = true) : (a && b) = true := by rw [h, k]; rfl
theorem own : ownKnob Tryz.prog.godebug = none := by kernel_rfl
theorem laidOut_ok : laidOutB Tryz.prog = true := by kernel_rfl
end
end Go.Proofs.YtknlmbniicacmaaGreat

namespace Go.Proofs.YtknlmbniicacmaaGreat
open Go.Gl
attribute [local irreducible] z22 AWP z46 z54 z51

end Go.Proofs.YtknlmbniicacmaaGreat

namespace Go.Proofs.YtknlmbniicacmaaGreat
open Go.Gl
attribute [local irreducible] z22 AWP z46 z54 z51 RetS z58

noncomputable def mkOk (g : Graph) (l : List Tree) (a : Aut) : Bool := (glB g l && autB a) && !(trcO g (g.st.map (z48 l)) a).isSome
noncomputable def mkR (g : Graph) (l : List Tree) (a : Aut) : List Int := if mkOk g l a = true then makeR (z42 g (g.st.map (z48 l)) a) a.ini a.acc else []
theorem mkR_facts {g : Graph} {l : List Tree} {a : Aut} : (mkOk g l a = true → (mkR g l a).length = (prB g l a).length) ∧ (mkR g l a).length ≤ 3840 ∧ Bd 16000000 (mkR g l a) := by
  unfold mkR prB
  by_cases h : mkOk g l a = true
  · have h1 : (glB g l && autB a) = true := by unfold mkOk at h; exact (Bool.and_eq_true_iff.1 h).1
    obtain ⟨h2, h3⟩ := Bool.and_eq_true_iff.1 h1
    obtain ⟨f1, f2, f3, f4, f5⟩ := prod_facts ((graphB_iff g).1 (by unfold glB at h2; exact (Bool.and_eq_true_iff.1 h2).1)) (autB_iff.1 h3) (g.st.map (z48 l))
    rw [if_pos h, if_pos h1, makeR_len, reachB_len]
    refine ⟨fun _ => rfl, f3, ?_⟩
    have hQn := bfs_len f1 f2 (z42 g (g.st.map (z48 l)) a).length
    have hb := rounds_bd (rows := z42 g (g.st.map (z48 l)) a) (acc := a.acc) (nodes := bfsL (z42 g (g.st.map (z48 l)) a) a.ini) ((bfsL (z42 g (g.st.map (z48 l)) a) a.ini).length + 2) _ true (zeroR_bd (z42 g (g.st.map (z48 l)) a).length (bfsL (z42 g (g.st.map (z48 l)) a) a.ini)) (by omega) (by unfold bfsL; omega)
    exact hb.mono (by unfold bfsL; omega)
  · rw [if_neg h]
    exact ⟨fun h' => absurd h' h, Nat.zero_le _, fun x hx => by cases hx⟩
set_option maxHeartbeats 3200000 in
theorem specMake_new (g : Graph) (hg : g.mx) (l : List Tree) (hl : Lmx l) (a : Aut) (ha : a.mx) : CallsA Tryz.prog 50 [.agg g.cs, lst 3 Tree.cs' l, .agg a.cs] [] (.tup [.agg [.sref 0 0 (mkR g l a).length], .bool (mkOk g l a)]) [.cells 1 ((mkR g l a).map enI)] := by
  have k0 := specLabelGraph_ok g hg l hl
  have k1 := specAutomatonValid_ok a ha
  by_cases hgl : (glB g l && autB a) = true
  · obtain ⟨h1, hab⟩ := Bool.and_eq_true_iff.1 hgl
    have hG := (graphB_iff g).1 (by unfold glB at h1; exact (Bool.and_eq_true_iff.1 h1).1)
    have hL := LabelsOk.of (by unfold glB at h1; exact (Bool.and_eq_true_iff.1 h1).2)
    have hA := autB_iff.1 hab
    have k2 := l8Product_ok g hG (g.st.map (z48 l)) (by simp) (fun x hx => by
      obtain ⟨s, _, rfl⟩ := List.mem_map.1 hx
      exact letter_range hL s) a hA
    have k3 := l8Find_ok g hG (g.st.map (z48 l)) (by simp) (fun x hx => by
      obtain ⟨s, _, rfl⟩ := List.mem_map.1 hx
      exact letter_range hL s) a hA
    obtain ⟨f1, f2, f3, f4, f5⟩ := prod_facts hG hA (g.st.map (z48 l))
    have k4 := l9Make_new (z42 g (g.st.map (z48 l)) a) a f1 f2 hA.1 f3 f4 f5
    have hml := makeR_len (z42 g (g.st.map (z48 l)) a) a.ini a.acc
    rw [if_pos h1, h1] at k0
    rw [hab] at k1
    unfold mkR mkOk
    rw [hgl, Bool.true_and]
    generalize g.st.map (z48 l) = ls at *
    generalize (trcO g ls a).isSome = tb at *
    generalize trcL g ls a = tl at *
    generalize makeR (z42 g ls a) a.ini a.acc = RR at *
    generalize z42 g ls a = rows at *
    cases tb
    · show CallsA _ _ _ _ (.tup [.agg [.sref 0 0 RR.length], .bool true]) [.cells 1 (RR.map enI)]
      rw [hml]
      refine z40 z28 Tryz.func50 rfl rfl 42 Tryz.ntmps50 (by simp) ?_
      repeat' ((first | (apply AWP.go ok; rfl) | (apply z5; kernel_rfl) | (apply z4 (k0); rfl; rfl) | (apply z4 (k1); rfl; rfl) | (apply z4 (k2); rfl; rfl) | (apply z4 (k3); rfl; rfl) | (((apply z21 [] [] [4] (k4); rfl; (focus ((repeat' exact z11) <;> fail)))); rfl; rfl; rfl; rfl; rfl; (focus ((repeat' first | exact z27 | apply z26) <;> (refine z39 ?_; ((exact z0 fun _ => rfl))))); (exact .inl rfl))) <;> conv => whnf)
      all_goals skip
      all_goals (refine RetS.lay [4] [] rfl rfl rfl ?_; refine RetS.done ?_ ?_ <;> (repeat' (first | exact LocLe.refl _ | exact F2.nil | apply F2.cons | exact z14 _ | ((refine z15 rfl ?_ ?_); (focus ((repeat' ((exact z0 (fun _ => rfl)))); done))))))
    · show CallsA _ _ _ _ (.tup [.agg [.sref 0 0 0], .bool false]) [.cells 1 []]
      refine z40 z28 Tryz.func50 rfl rfl 42 Tryz.ntmps50 (by simp) ?_
      repeat' ((first | (apply AWP.go ok; rfl) | (apply z4 (k0); rfl; rfl) | (apply z4 (k1); rfl; rfl) | (apply z4 (k3); rfl; rfl)) <;> conv => whnf)
      all_goals skip
      all_goals (refine RetS.empty 1 ?_; refine RetS.lay [4] [] rfl rfl rfl ?_; refine RetS.done ?_ ?_ <;> (repeat' (first | exact LocLe.refl _ | exact z91 | exact F2.nil | apply F2.cons | ((refine z15 rfl ?_ ?_); (focus ((repeat' (exact z17)); done))) | apply agg_le | apply tup_le)))
  · have e : mkOk g l a = false := by unfold mkOk; rw [(Bool.not_eq_true _).mp hgl]; rfl
    have e2 : mkR g l a = [] := by unfold mkR; rw [e]; rfl
    rw [e, e2]
    show CallsA _ _ _ _ (.tup [.agg [.sref 0 0 0], .bool false]) [.cells 1 []]
    generalize (if glB g l = true then g.st.map (z48 l) else []) = ls at *
    refine z40 z28 Tryz.func50 rfl rfl 42 Tryz.ntmps50 (by simp) ?_
    cases hb1 : glB g l
    · rw [hb1] at k0
      repeat' ((first | (apply AWP.go ok; rfl) | (apply z4 (k0); rfl; rfl)) <;> conv => whnf)
      all_goals skip
      all_goals (refine RetS.empty 1 ?_; refine RetS.lay [3] [] rfl rfl rfl ?_; refine RetS.done ?_ ?_ <;> (repeat' (first | exact LocLe.refl _ | exact z91 | exact F2.nil | apply F2.cons | ((refine z15 rfl ?_ ?_); (focus ((repeat' (exact z17)); done))) | apply agg_le | apply tup_le)))
    · rw [hb1] at k0 hgl
      have hb2 : autB a = false := by simpa using hgl
      rw [hb2] at k1
      repeat' ((first | (apply AWP.go ok; rfl) | (apply z4 (k0); rfl; rfl) | (apply z4 (k1); rfl; rfl)) <;> conv => whnf)
      all_goals skip
      all_goals (refine RetS.empty 1 ?_; refine RetS.lay [3] [] rfl rfl rfl ?_; refine RetS.done ?_ ?_ <;> (repeat' (first | exact LocLe.refl _ | exact z91 | exact F2.nil | apply F2.cons | ((refine z15 rfl ?_ ?_); (focus ((repeat' (exact z17)); done))) | apply agg_le | apply tup_le)))
end Go.Proofs.YtknlmbniicacmaaGreat

namespace Go.Proofs.YtknlmbniicacmaaGreat
open Go.Gl
attribute [local irreducible] z22 AWP z46 z54 z51 RetS z58

theorem findTrace1_ok (a : Aut) (hA : AutP a) (x : Int) (h0 : 0 ≤ x) : CallsA Tryz.prog 126 [.int x, .pt a.cs, .pt [.int a.acc.length]] [] (.bool (a.acc.getD (x % a.acc.length).toNat false)) [] := by
  have hac := hA.1
  have hm0 : 0 ≤ x % (a.acc.length : Int) := Int.emod_nonneg _ (by omega)
  have hm1 : x % (a.acc.length : Int) < a.acc.length := Int.emod_lt_of_pos _ (by omega)
  have hga : (a.acc.map enB)[(x % (a.acc.length : Int)).toNat]? = some (enB (a.acc.getD (x % (a.acc.length : Int)).toNat false)) := by
    rw [List.getElem?_map, List.getElem?_eq_getElem (by omega), z23 (by omega)]; rfl
  refine z40 z28 Tryz.func126 rfl rfl 12 Tryz.ntmps126 (by simp) ?_
  repeat' ((first | (apply AWP.go ok; rfl) | (apply z5; kernel_rfl) | (refine z13 (i := (x % (a.acc.length : Int)).toNat) rfl hga ?_) | (apply And.intro; omega)) <;> conv => whnf)
  all_goals skip
  all_goals (refine RetS.lay [] [] rfl rfl rfl ?_; refine RetS.done ?_ ?_ <;> (repeat' (first | exact LocLe.refl _ | exact F2.nil)))
set_option maxHeartbeats 1600000 in
theorem findTrace2_new (l : List Int) (n : Nat) (hl : l.length ≤ 1000000) (hn : 1 ≤ n) (h0 : ∀ x ∈ l, 0 ≤ x) (h1 : ∀ x ∈ l, x ≤ 1000000000) : CallsA Tryz.prog 127 [ints l, .pt [.int n]] [] (.sref 0 0 l.length) [.cells 1 ((stL l n).map enI)] := by
  refine z40 z28 Tryz.func127 rfl rfl 25 Tryz.ntmps127 (by simp) ?_
  repeat' ((first | (apply AWP.go ok; rfl) | (apply And.intro; (dsimp only; omega))) <;> conv => whnf)
  all_goals skip
  obtain ⟨qm, hqm⟩ : ∃ qm : Nat → Nat → Int, qm = fun i j => if j < i then l.getD j 0 / n else 0 := ⟨_, rfl⟩
  have q0 : qm 0 = fun _ => 0 := by rw [hqm]; rfl
  have qE : fnL l.length (qm l.length) = stL l n := by
    apply List.ext_getElem (by simp [fnL, stL])
    intro i h1 h2
    have hi' : i < l.length := by rw [z88] at h1; exact h1
    rw [fnL_get, hqm]
    dsimp only
    rw [if_pos hi', z23 hi']; simp [stL]
  have qS : ∀ i (h : i < l.length), qm (i + 1) = upd (qm i) i (l[i] / n) := fun i h => by
    funext j
    by_cases h2 : j = i
    · subst h2; rw [z19, hqm]; dsimp only; rw [if_pos (by omega), z23 h]
    · rw [z37 _ _ h2, hqm]; dsimp only; split <;> split <;> first | rfl | omega
  clear hqm
  refine z99 (fun i : Nat => ([(1, .pt [.int n]), (4, .sref 0 0 l.length), (10, ints l), (11, .int l.length), (12, .int i)], [.cells 1 ((fnL l.length (qm i)).map enI)])) (fun i => i ≤ l.length) (fun i => l.length - i) 0 (Nat.zero_le _) (by refine SealW.reach [0] [] rfl rfl rfl rfl ?_ ?_ <;> (repeat' (first | exact LocLe.refl _ | exact F2.nil | apply F2.cons | ((refine z15 rfl ?_ ?_); (focus ((repeat' (exact z1 rfl)); done))) | exact True.intro | apply And.intro)) <;> ((refine z43 ?_; rw [q0]; exact fnL_zero _))) ?_
  intro i hi
  by_cases hi2 : i < l.length
  · have g1 := fnL_at (qm i) hi2
    have l1 := z88 l.length (qm i)
    have e1 := z120 (N := l.length) (u := i) (qm i) (l[i] / n)
    rw [← qS i hi2] at e1
    have gk : (l.map enI)[i]? = some (enI l[i]) := by rw [List.getElem?_map, List.getElem?_eq_getElem hi2]; rfl
    have b0 := h0 _ (List.getElem_mem hi2)
    have b1 := h1 _ (List.getElem_mem hi2)
    generalize l[i] = v at *
    have d0 : 0 ≤ v / (n : Int) := Int.ediv_nonneg b0 (by omega)
    have d1 : v / (n : Int) ≤ v := Int.ediv_le_self _ b0
    repeat' ((first | (apply AWP.go ok; rfl) | (refine z13 (i := i) rfl gk ?_) | (refine z13 (i := i) rfl g1 ?_) | (apply And.intro; first | omega | (unfold inI; omega)) | ((apply z2) <;> intro _)) <;> conv => whnf)
    all_goals first | (exfalso; omega) | skip
    all_goals refine z62 (i + 1) hi2 (by omega) (by refine SealW.reach [0] [] rfl rfl rfl rfl ?_ ?_ <;> (repeat' (first | exact LocLe.refl _ | exact F2.nil | apply F2.cons | ((refine z67 rfl ?_ ?_); (focus ((repeat' ((exact z0 (fun _ => rfl)))); done))) | exact True.intro | apply And.intro)) <;> ((refine z43 ?_; exact e1)))
  obtain rfl : i = l.length := by omega
  rw [qE]
  repeat' ((first | (apply AWP.go ok; rfl) | (apply And.intro; omega) | ((first | (with_reducible apply z3; omega) | (apply z3; omega)); intro _) | ((apply z2) <;> intro _)) <;> conv => whnf)
  all_goals first | (exfalso; omega) | skip
  all_goals (refine RetS.lay [0] [] rfl rfl rfl ?_; refine RetS.done ?_ ?_ <;> (repeat' (first | exact LocLe.refl _ | exact F2.nil | apply F2.cons | exact z14 _ | ((refine z15 rfl ?_ ?_); (focus ((repeat' ((exact z0 (fun _ => rfl)))); done))))))

/-- the trace that is found, or none -/
noncomputable def ftO (g : Graph) (l : List Tree) (a : Aut) : Option (List Int × List Int) := if (glB g l && autB a) = true then trcO g (g.st.map (z48 l)) a else none
noncomputable def ftL (g : Graph) (l : List Tree) (a : Aut) : Trace := let t := (ftO g l a).getD ([], []); ⟨t.1, t.2⟩
set_option maxHeartbeats 6400000 in
theorem implFindTrace_new (g : Graph) (hg : g.mx) (l : List Tree) (hl : Lmx l) (a : Aut) (ha : a.mx) : CallsA Tryz.prog 40 [.agg g.cs, lst 3 Tree.cs' l, .agg a.cs] [] (.tup [.agg [.sref 0 0 (ftL g l a).stem.length, .sref 1 0 (ftL g l a).loop.length], .bool (ftO g l a).isSome]) [.cells 1 ((ftL g l a).stem.map enI), .cells 1 ((ftL g l a).loop.map enI)] := by
  have k0 := checked_ok g hg l hl a ha
  by_cases hgl : (glB g l && autB a) = true
  · rw [hgl] at k0
    obtain ⟨h1, hab⟩ := Bool.and_eq_true_iff.1 hgl
    have hG := (graphB_iff g).1 (by unfold glB at h1; exact (Bool.and_eq_true_iff.1 h1).1)
    have hL := LabelsOk.of (by unfold glB at h1; exact (Bool.and_eq_true_iff.1 h1).2)
    have hA := autB_iff.1 hab
    have k1 := product_ok g hG l hL a hA
    obtain ⟨f1, f2, f3, f4, f5⟩ := prod_facts hG hA (g.st.map (z48 l))
    have hnd := hA.2.2.1.nd
    have hac := hA.1
    have k2 := lasso_new (z42 g (g.st.map (z48 l)) a) a.ini f1 f2 hnd (by omega) f4 (fun v => a.acc.getD (v % a.acc.length).toNat false) 126 a.cs [.int a.acc.length] (fun x h0 _ => findTrace1_ok a hA x h0)
    unfold ftL ftO
    rw [if_pos hgl]
    unfold lasR at k2
    unfold trcO
    rw [lasL_fin f1 f2 hnd] at k2
    have hlen : (z42 g (g.st.map (z48 l)) a).length = g.st.length * a.acc.length := by unfold z42; rw [z96, Nat.mul_comm]
    have hF : ∀ p q, finS (z42 g (g.st.map (z48 l)) a) a.ini a.acc = some (p, q) → (∀ x ∈ p, 0 ≤ x ∧ x ≤ 100000) ∧ (∀ x ∈ q, 0 ≤ x ∧ x ≤ 100000) ∧ p.length ≤ 100000 ∧ q.length ≤ 100000 := by
      intro p q h
      rw [← lasL_fin f1 f2 hnd] at h
      obtain ⟨b1, b2, b3, b4, _⟩ := lasL_bd f1 f2 hnd h
      exact ⟨fun x hx => by have := b1 x hx; omega, fun x hx => by have := b2 x hx; omega, by omega, by omega⟩
    generalize z42 g (g.st.map (z48 l)) a = rows at *
    cases hfin : finS rows a.ini a.acc with
    | none =>
      rw [hfin] at k2
      change CallsA _ _ _ _ (.tup [.sref 0 0 0, .sref 1 0 0, .bool false]) [.cells 1 [], .cells 1 []] at k2
      show CallsA _ _ _ _ (.tup [.agg [.sref 0 0 0, .sref 1 0 0], .bool false]) [.cells 1 [], .cells 1 []]
      refine z40 z28 Tryz.func40 rfl rfl 50 Tryz.ntmps40 (by simp) ?_
      repeat' ((first | (apply AWP.go ok; rfl) | (apply z4 (k0); rfl; rfl) | (apply z4 (k1); rfl; rfl) | (((apply z21 [] [1, 3] [4, 5] (k2); (focus ((repeat' first | exact z89 | apply z72) <;> rfl)); (focus ((repeat' exact z11) <;> fail)))); rfl; rfl; rfl; rfl; rfl; (focus ((repeat' first | exact z27 | apply z26) <;> (refine z39 ?_; (exact z17)))); ((refine .inr ⟨rfl, ?_⟩; repeat' first | exact True.intro | apply And.intro | exact rfl)))) <;> conv => whnf)
      all_goals skip
      all_goals (refine RetS.empty 1 ?_; refine RetS.empty 1 ?_; refine RetS.lay [6, 7] [] rfl rfl rfl ?_; refine RetS.done ?_ ?_ <;> (repeat' (first | exact LocLe.refl _ | exact z91 | exact F2.nil | apply F2.cons | ((refine z15 rfl ?_ ?_); (focus ((repeat' (exact z17)); done))) | apply agg_le | apply tup_le)))
    | some pq =>
      obtain ⟨p, q⟩ := pq
      rw [hfin] at k2
      obtain ⟨b1, b2, b3, b4⟩ := hF p q hfin
      change CallsA _ _ _ _ (.tup [.sref 0 0 (p.take (p.length - 1)).length, .sref 1 0 q.length, .bool true]) [.cells 1 ((p.take (p.length - 1)).map enI), .cells 1 (q.map enI)] at k2
      have s1 := findTrace2_new (p.take (p.length - 1)) a.acc.length (by rw [List.length_take]; omega) (by omega) (fun x hx => (b1 x (List.mem_of_mem_take hx)).1) (fun x hx => by have := (b1 x (List.mem_of_mem_take hx)).2; omega)
      have s2 := findTrace2_new q a.acc.length (by omega) (by omega) (fun x hx => (b2 x hx).1) (fun x hx => by have := (b2 x hx).2; omega)
      have e1 : (stL (p.take (p.length - 1)) a.acc.length).length = (p.take (p.length - 1)).length := by simp [stL]
      have e2 : (stL q a.acc.length).length = q.length := by simp [stL]
      show CallsA _ _ _ _ (.tup [.agg [.sref 0 0 (stL (p.take (p.length - 1)) a.acc.length).length, .sref 1 0 (stL q a.acc.length).length], .bool true]) [.cells 1 ((stL (p.take (p.length - 1)) a.acc.length).map enI), .cells 1 ((stL q a.acc.length).map enI)]
      rw [e1, e2]
      generalize stL (p.take (p.length - 1)) a.acc.length = S1 at *
      generalize stL q a.acc.length = S2 at *
      generalize p.take (p.length - 1) = p' at *
      refine z40 z28 Tryz.func40 rfl rfl 50 Tryz.ntmps40 (by simp) ?_
      repeat' ((first | (apply AWP.go ok; rfl) | (apply z4 (k0); rfl; rfl) | (apply z4 (k1); rfl; rfl) | ((first | (apply z21 [] [1, 3] [4, 5] (k2); (focus ((repeat' first | exact z89 | apply z72) <;> rfl)); (focus ((repeat' exact z11) <;> fail))) | (apply z21 [] [3, 4] [6] (s1); (focus ((repeat' first | exact z89 | apply z72) <;> first | exact bor_ints rfl rfl rfl | rfl)); (focus ((repeat' exact z11) <;> fail))) | (apply z21 [] [3, 5] [7] (s2); (focus ((repeat' first | exact z89 | apply z72) <;> first | exact bor_ints rfl rfl rfl | rfl)); (focus ((repeat' exact z11) <;> fail)))); rfl; rfl; rfl; rfl; rfl; (focus ((repeat' first | exact z27 | apply z26) <;> (refine z39 ?_; ((exact z0 fun _ => rfl))))); ((refine .inr ⟨rfl, ?_⟩; repeat' first | exact True.intro | apply And.intro | exact z50 (fun _ => rfl) _)))) <;> conv => whnf)
      all_goals skip
      all_goals (refine RetS.lay [6, 7] [] rfl rfl rfl ?_; refine RetS.done ?_ ?_ <;> (repeat' (first | exact LocLe.refl _ | exact F2.nil | apply F2.cons | exact z14 _ | ((refine z15 rfl ?_ ?_); (focus ((repeat' ((exact z0 (fun _ => rfl)))); done))))))
  · have hgl := (Bool.not_eq_true _).mp hgl
    rw [hgl] at k0
    have e1 : ftO g l a = none := by unfold ftO; rw [hgl]; rfl
    unfold ftL
    rw [e1]
    show CallsA _ _ _ _ (.tup [.agg [.sref 0 0 0, .sref 1 0 0], .bool false]) [.cells 1 [], .cells 1 []]
    refine z40 z28 Tryz.func40 rfl rfl 50 Tryz.ntmps40 (by simp) ?_
    repeat' ((first | (apply AWP.go ok; rfl) | (apply z4 (k0); rfl; rfl)) <;> conv => whnf)
    all_goals skip
    all_goals (refine RetS.empty 1 ?_; refine RetS.empty 1 ?_; refine RetS.lay [3, 4] [] rfl rfl rfl ?_; refine RetS.done ?_ ?_ <;> (repeat' (first | exact LocLe.refl _ | exact z91 | exact F2.nil | apply F2.cons | ((refine z15 rfl ?_ ?_); (focus ((repeat' (exact z17)); done))) | apply agg_le | apply tup_le)))
end Go.Proofs.YtknlmbniicacmaaGreat

namespace Go.Proofs.YtknlmbniicacmaaGreat
open Go.Gl
attribute [local irreducible] z22 AWP z46 z54 z51 RetS z58

end Go.Proofs.YtknlmbniicacmaaGreat

namespace Go.Proofs.YtknlmbniicacmaaGreat
open Go.Gl
attribute [local irreducible] z22 AWP z46 z54 z51 RetS z58

end Go.Proofs.YtknlmbniicacmaaGreat

namespace Go.Proofs.YtknlmbniicacmaaGreat
open Go.Gl
attribute [local irreducible] z22 AWP z46 z54 z51 RetS z58

end Go.Proofs.YtknlmbniicacmaaGreat

namespace Go.Proofs.YtknlmbniicacmaaGreat
open Go.Gl
attribute [local irreducible] z22 AWP z46 z54 z51 RetS z58

/-- no accepting node that can be reached lies on a cycle -/
def NoAcc (rows : List (List Int)) (ini : List Int) (acc : List Bool) : Prop := ∀ x, RP rows ini x → Cyc rows x → acc.getD (x % acc.length).toNat false = false
section
variable {rows : List (List Int)} {ini : List Int} {acc : List Bool} {R : List Int}
theorem Wt_small (k : Nat) : ∀ u, Wt rows acc k u ≤ k := by
  induction k with
  | zero => intro u; exact Int.le_refl _
  | succ k ih =>
    intro u
    rw [Wt]
    refine foldmax_le (by omega) fun v hv => ?_
    have := ih v
    have : wtA acc u ≤ 1 := by unfold wtA; split <;> omega
    omega
theorem rkL_len (z : Int) : (rkL rows ini acc z).length = rows.length := by simp [rkL]
theorem rkL_get (z : Int) {u : Int} (hu : 0 ≤ u ∧ u < rows.length) : rk (rkL rows ini acc z) u = if RP rows ini u then Wt rows acc (bfsL rows ini).length u else z := by
  unfold rk
  rw [z23 (by rw [rkL_len]; omega)]
  simp only [rkL, List.getElem_map, List.getElem_range, Int.toNat_of_nonneg hu.1]
theorem rkL_at (z : Int) {i : Nat} (hi : i < rows.length) : (rkL rows ini acc z).getD i 0 = if RP rows ini (i : Int) then Wt rows acc (bfsL rows ini).length i else z := by
  have := rkL_get (rows := rows) (ini := ini) (acc := acc) z (u := (i : Int)) ⟨by omega, by omega⟩
  unfold rk at this
  rwa [Int.toNat_natCast] at this
end
end Go.Proofs.YtknlmbniicacmaaGreat

