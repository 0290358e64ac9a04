/- A part of the proofs over this program: T70, T64, T65, T66, T67, T68. -/
import Derived.Test.YtkophaoifmofdaaG0
import Derived.Test.YtkophaoifmofdaaG1
import Derived.Test.YtkophaoifmofdaaG2
import Derived.Test.YtkophaoifmofdaaP0
import Derived.Test.YtkophaoifmofdaaP1
import Derived.Test.YtkophaoifmofdaaP2
import Derived.Test.YtkophaoifmofdaaP3
set_option linter.all false
namespace Go.Proofs.Ytkophaoifmofdaa
open Go.Gl
attribute [local irreducible] z83 AWP z96 z107 z99

/-! the source of the drawn arguments -/
def enU (n : Int) : List AC := [.raw (.int .u8 n)]
def rdO (bs : List Int) (p : Int) : AObj := .cells 2 [[lst 1 enU bs, .int p]]
structure BytesOk (bs : List Int) : Prop where
  len : bs.length ≤ 2000
  el : ∀ x ∈ bs, 0 ≤ x ∧ x ≤ 255
theorem u_at {l : List Int} {i : Nat} (h : i < l.length) : (l.map enU)[i]? = some (enU l[i]) := by rw [List.getElem?_map, List.getElem?_eq_getElem h]; rfl
theorem rem_at {l : List Int} {i : Int} (h : 0 < l.length) (h0 : 0 ≤ i) : (i % (l.length : Int)).toNat < l.length := by
  have := Int.emod_lt_of_pos i (show (0 : Int) < l.length by omega)
  have := Int.emod_nonneg i (show (l.length : Int) ≠ 0 by omega)
  omega

set_option maxHeartbeats 1600000 in
theorem z94 (bs : List Int) (hb : BytesOk bs) (p n : Int) (h0 : 0 ≤ p) (h1 : p ≤ 1000000000) (hn : n ≤ 1000000000) : ∃ v : Int, (0 ≤ v ∧ (1 ≤ n → v < n)) ∧ CallsA Try.prog 47 [.ptr 0 none 0, .int n] [rdO bs p] (.int v) [rdO bs (p + 1)] := by
  have hlen := hb.len
  by_cases hz : n < 1 ∨ bs.length = 0
  · refine ⟨0, ⟨by omega, fun _ => by omega⟩, ?_⟩
    refine z62 z79 Try.func47 rfl rfl 99 Try.ntmps47 (by simp) ?_
    repeat' (first | (apply AWP.go ok; rfl; conv => whnf) | (apply z37; kernel_rfl; conv => whnf) | (apply And.intro; (first | omega | (unfold inI; omega) | (dsimp only; omega) | (unfold z47; omega) | ((try dsimp only); simp only [List.length_map, List.length_take, List.length_append, List.length_replicate, List.length_cons, List.length_nil]; omega) | (simp only [z58] at *; first | omega | (unfold inI; omega) | (unfold z47; omega)) | exact z6 (fun _ => rfl) | exact ⟨rfl, z14 rfl z20⟩ | exact ⟨rfl, z6 (fun _ => rfl) _⟩ | exact ⟨⟨rfl, by omega⟩, z6 (fun _ => rfl) _⟩); conv => whnf) | (with_reducible apply z9; omega; intro _; conv => whnf) | (with_reducible apply z21; omega; intro _; conv => whnf) | (apply z9; omega; intro _; conv => whnf) | (apply z22; omega; conv => whnf) | (apply z32; conv => whnf) | (apply z31; omega; intro _; conv => whnf) | (apply z30 <;> intro _ <;> conv => whnf) | (apply z19 <;> intro _ <;> conv => whnf) | (apply z29 <;> intro _ <;> conv => whnf) | (apply z45 <;> intro _ <;> conv => whnf) | (apply z17 <;> intro _ <;> conv => whnf) | (apply z13 <;> intro _ <;> conv => whnf) | (apply z18 <;> intro _ <;> conv => whnf) | (apply z28 <;> intro _ <;> conv => whnf))
    all_goals first | (exfalso; omega) | exact z113 [0] (by decide) rfl rfl rfl ⟨z81 rfl rfl, trivial⟩
  by_cases hk : p < bs.length
  · have hp : (p + 1 - 1).toNat < bs.length := by omega
    have g0 := u_at (l := bs) (i := (p + 1 - 1).toNat) hp
    have hr := hb.el bs[(p + 1 - 1).toNat] (List.getElem_mem _)
    generalize bs[(p + 1 - 1).toNat] = b at *
    have hw : IntKind.i64.wrap b = b := IntWalk.i64_in _ (by omega)
    refine ⟨b % n, ⟨Int.emod_nonneg _ (by omega), fun _ => Int.emod_lt_of_pos _ (by omega)⟩, ?_⟩
    refine z62 z79 Try.func47 rfl rfl 99 Try.ntmps47 (by simp) ?_
    repeat' (first | (apply AWP.go ok; rfl; conv => whnf) | (apply z37; kernel_rfl; conv => whnf) | (refine z80 (i := (p + 1 - 1).toNat) rfl g0 ?_; conv => whnf) | (apply And.intro; (first | omega | (unfold inI; omega) | (dsimp only; omega) | (unfold z47; omega) | ((try dsimp only); simp only [List.length_map, List.length_take, List.length_append, List.length_replicate, List.length_cons, List.length_nil]; omega) | (simp only [z58] at *; first | omega | (unfold inI; omega) | (unfold z47; omega)) | exact z6 (fun _ => rfl) | exact ⟨rfl, z14 rfl z20⟩ | exact ⟨rfl, z6 (fun _ => rfl) _⟩ | exact ⟨⟨rfl, by omega⟩, z6 (fun _ => rfl) _⟩); conv => whnf) | (with_reducible apply z9; omega; intro _; conv => whnf) | (with_reducible apply z21; omega; intro _; conv => whnf) | (apply z9; omega; intro _; conv => whnf) | (apply z22; omega; conv => whnf) | (apply z32; conv => whnf) | (apply z31; omega; intro _; conv => whnf) | (apply z30 <;> intro _ <;> conv => whnf) | (apply z19 <;> intro _ <;> conv => whnf) | (apply z29 <;> intro _ <;> conv => whnf) | (apply z45 <;> intro _ <;> conv => whnf) | (apply z17 <;> intro _ <;> conv => whnf) | (apply z13 <;> intro _ <;> conv => whnf) | (apply z18 <;> intro _ <;> conv => whnf) | (apply z28 <;> intro _ <;> conv => whnf))
    all_goals first | (exfalso; omega) | exact z113 [0] (by decide) rfl rfl rfl ⟨z81 rfl rfl, trivial⟩
  have hl0 : 0 < bs.length := by omega
  have m1 := rem_at (l := bs) (i := p + 1 - 1) hl0 (by omega)
  have m2 := rem_at (l := bs) (i := (p + 1 - 1) * 7 + 3) hl0 (by omega)
  have g1 := u_at m1
  have g2 := u_at m2
  have r1 := hb.el bs[((p + 1 - 1) % (bs.length : Int)).toNat] (List.getElem_mem _)
  have r2 := hb.el bs[(((p + 1 - 1) * 7 + 3) % (bs.length : Int)).toNat] (List.getElem_mem _)
  generalize bs[((p + 1 - 1) % (bs.length : Int)).toNat] = b1 at *
  generalize bs[(((p + 1 - 1) * 7 + 3) % (bs.length : Int)).toNat] = b2 at *
  have w1 : IntKind.i64.wrap b1 = b1 := IntWalk.i64_in _ (by omega)
  have w2 : IntKind.i64.wrap b2 = b2 := IntWalk.i64_in _ (by omega)
  have n1 := Int.emod_nonneg (p + 1 - 1) (show (bs.length : Int) ≠ 0 by omega)
  have n2 := Int.emod_nonneg ((p + 1 - 1) * 7 + 3) (show (bs.length : Int) ≠ 0 by omega)
  have l1 := Int.emod_lt_of_pos (p + 1 - 1) (show (0 : Int) < bs.length by omega)
  have l2 := Int.emod_lt_of_pos ((p + 1 - 1) * 7 + 3) (show (0 : Int) < bs.length by omega)
  have q0 : 0 ≤ (p + 1 - 1) / (bs.length : Int) := Int.ediv_nonneg (by omega) (by omega)
  have q1 : (p + 1 - 1) / (bs.length : Int) ≤ p + 1 - 1 := Int.ediv_le_self _ (by omega)
  have hx0 : 0 ≤ b1 * 131 + b2 * 1117 + (p + 1 - 1) * 29 + (p + 1 - 1) / (bs.length : Int) * 53 := by omega
  have hx1 : b1 * 131 + b2 * 1117 + (p + 1 - 1) * 29 + (p + 1 - 1) / (bs.length : Int) * 53 ≤ 1000000000000 := by omega
  have hq : 0 ≤ (b1 * 131 + b2 * 1117 + (p + 1 - 1) * 29 + (p + 1 - 1) / (bs.length : Int) * 53) / 64 ∧ (b1 * 131 + b2 * 1117 + (p + 1 - 1) * 29 + (p + 1 - 1) / (bs.length : Int) * 53) / 64 ≤ 1000000000000 := by omega
  refine ⟨(((b1 * 131 + b2 * 1117 + (p + 1 - 1) * 29 + (p + 1 - 1) / (bs.length : Int) * 53).toNat ^^^ ((b1 * 131 + b2 * 1117 + (p + 1 - 1) * 29 + (p + 1 - 1) / (bs.length : Int) * 53) / 64).toNat : Nat) : Int) % n, ⟨Int.emod_nonneg _ (by omega), fun _ => Int.emod_lt_of_pos _ (by omega)⟩, ?_⟩
  refine z62 z79 Try.func47 rfl rfl 99 Try.ntmps47 (by simp) ?_
  repeat' (first | (apply AWP.go ok; rfl; conv => whnf) | (apply z37; kernel_rfl; conv => whnf) | (refine z80 (i := (((p + 1 - 1) * 7 + 3) % (bs.length : Int)).toNat) rfl g2 ?_; conv => whnf) | (refine z80 (i := ((p + 1 - 1) % (bs.length : Int)).toNat) rfl g1 ?_; conv => whnf) | (apply And.intro; (first | omega | (unfold inI; omega) | (dsimp only; omega) | (unfold z47; omega) | ((try dsimp only); simp only [List.length_map, List.length_take, List.length_append, List.length_replicate, List.length_cons, List.length_nil]; omega) | (simp only [z58] at *; first | omega | (unfold inI; omega) | (unfold z47; omega)) | exact z6 (fun _ => rfl) | exact ⟨rfl, z14 rfl z20⟩ | exact ⟨rfl, z6 (fun _ => rfl) _⟩ | exact ⟨⟨rfl, by omega⟩, z6 (fun _ => rfl) _⟩); conv => whnf) | (with_reducible apply z9; omega; intro _; conv => whnf) | (with_reducible apply z21; omega; intro _; conv => whnf) | (apply z9; omega; intro _; conv => whnf) | (apply z22; omega; conv => whnf) | (apply z32; conv => whnf) | (apply z31; omega; intro _; conv => whnf) | (apply z30 <;> intro _ <;> conv => whnf) | (apply z19 <;> intro _ <;> conv => whnf) | (apply z29 <;> intro _ <;> conv => whnf) | (apply z45 <;> intro _ <;> conv => whnf) | (apply z17 <;> intro _ <;> conv => whnf) | (apply z13 <;> intro _ <;> conv => whnf) | (apply z18 <;> intro _ <;> conv => whnf) | (apply z28 <;> intro _ <;> conv => whnf))
  all_goals first | (exfalso; omega) | exact z113 [0] (by decide) rfl rfl rfl ⟨z81 rfl rfl, trivial⟩ | skip

theorem l16Open_ok (bs : List Int) (hl : bs.length ≤ maxLen) : CallsA Try.prog 20 [lst 1 enU bs] [] (.ptr 0 none 0) [rdO (bs.take 2000) 0] := by
  unfold maxLen at hl
  refine z62 z79 Try.func20 rfl rfl 11 Try.ntmps20 (by simp) ?_
  by_cases h : bs.length ≤ 2000
  · rw [List.take_of_length_le h]
    repeat' (first | (apply AWP.go ok; rfl; conv => whnf) | (apply z37; kernel_rfl; conv => whnf) | (apply And.intro; (first | omega | (unfold inI; omega) | (dsimp only; omega) | (unfold z47; omega) | ((try dsimp only); simp only [List.length_map, List.length_take, List.length_append, List.length_replicate, List.length_cons, List.length_nil]; omega) | (simp only [z58] at *; first | omega | (unfold inI; omega) | (unfold z47; omega)) | exact z6 (fun _ => rfl) | exact ⟨rfl, z14 rfl z20⟩ | exact ⟨rfl, z6 (fun _ => rfl) _⟩ | exact ⟨⟨rfl, by omega⟩, z6 (fun _ => rfl) _⟩); conv => whnf) | (with_reducible apply z9; omega; intro _; conv => whnf) | (with_reducible apply z21; omega; intro _; conv => whnf) | (apply z9; omega; intro _; conv => whnf) | (apply z22; omega; conv => whnf) | (apply z32; conv => whnf) | (apply z31; omega; intro _; conv => whnf) | (apply z30 <;> intro _ <;> conv => whnf) | (apply z19 <;> intro _ <;> conv => whnf) | (apply z29 <;> intro _ <;> conv => whnf) | (apply z45 <;> intro _ <;> conv => whnf) | (apply z17 <;> intro _ <;> conv => whnf) | (apply z13 <;> intro _ <;> conv => whnf) | (apply z18 <;> intro _ <;> conv => whnf) | (apply z28 <;> intro _ <;> conv => whnf))
    all_goals first | (exfalso; omega) | exact z113 [0] (by decide) rfl rfl rfl ⟨z81 rfl rfl, trivial⟩ | skip
  · repeat' (first | (apply AWP.go ok; rfl; conv => whnf) | (apply z37; kernel_rfl; conv => whnf) | (apply And.intro; (first | omega | (unfold inI; omega) | (dsimp only; omega) | (unfold z47; omega) | ((try dsimp only); simp only [List.length_map, List.length_take, List.length_append, List.length_replicate, List.length_cons, List.length_nil]; omega) | (simp only [z58] at *; first | omega | (unfold inI; omega) | (unfold z47; omega)) | exact z6 (fun _ => rfl) | exact ⟨rfl, z14 rfl z20⟩ | exact ⟨rfl, z6 (fun _ => rfl) _⟩ | exact ⟨⟨rfl, by omega⟩, z6 (fun _ => rfl) _⟩); conv => whnf) | (with_reducible apply z9; omega; intro _; conv => whnf) | (with_reducible apply z21; omega; intro _; conv => whnf) | (apply z9; omega; intro _; conv => whnf) | (apply z22; omega; conv => whnf) | (apply z32; conv => whnf) | (apply z31; omega; intro _; conv => whnf) | (apply z30 <;> intro _ <;> conv => whnf) | (apply z19 <;> intro _ <;> conv => whnf) | (apply z29 <;> intro _ <;> conv => whnf) | (apply z45 <;> intro _ <;> conv => whnf) | (apply z17 <;> intro _ <;> conv => whnf) | (apply z13 <;> intro _ <;> conv => whnf) | (apply z18 <;> intro _ <;> conv => whnf) | (apply z28 <;> intro _ <;> conv => whnf))
    all_goals first | (exfalso; omega) | skip
    all_goals exact z113 [0] (by decide) rfl rfl rfl ⟨z81 rfl (congrArg (fun x => AObj.cells 2 [[x, AC.int 0]]) (slice_take 1 enU bs 2000 (by omega))), trivial⟩
end Go.Proofs.Ytkophaoifmofdaa

namespace Go.Proofs.Ytkophaoifmofdaa
open Go.Gl
attribute [local irreducible] z83 AWP z96 z107 z99

theorem growNil_new (n : Nat) (h0 : 0 < n) (h1 : n ≤ 1048576) : CallsA Try.prog 73 [.nils, .int n] [] (.sref 0 0 0) [.cells 1 (List.replicate n [.int 0])] := by
  refine z62 z79 Try.func73 rfl rfl 27 Try.ntmps73 (by simp) ?_
  repeat' (first | (apply AWP.go ok; rfl; conv => whnf) | (apply z37; kernel_rfl; conv => whnf) | (apply And.intro; (first | omega | (unfold inI; omega) | (dsimp only; omega) | (unfold z47; omega) | ((try dsimp only); simp only [List.length_map, List.length_take, List.length_append, List.length_replicate, List.length_cons, List.length_nil]; omega) | (simp only [z58] at *; first | omega | (unfold inI; omega) | (unfold z47; omega)) | exact z6 (fun _ => rfl) | exact ⟨rfl, z14 rfl z20⟩ | exact ⟨rfl, z6 (fun _ => rfl) _⟩ | exact ⟨⟨rfl, by omega⟩, z6 (fun _ => rfl) _⟩); conv => whnf) | (with_reducible apply z9; omega; intro _; conv => whnf) | (with_reducible apply z21; omega; intro _; conv => whnf) | (apply z9; omega; intro _; conv => whnf) | (apply z22; omega; conv => whnf) | (apply z32; conv => whnf) | (apply z31; omega; intro _; conv => whnf) | (apply z30 <;> intro _ <;> conv => whnf) | (apply z19 <;> intro _ <;> conv => whnf) | (apply z29 <;> intro _ <;> conv => whnf) | (apply z45 <;> intro _ <;> conv => whnf) | (apply z17 <;> intro _ <;> conv => whnf) | (apply z13 <;> intro _ <;> conv => whnf) | (apply z18 <;> intro _ <;> conv => whnf) | (apply z28 <;> intro _ <;> conv => whnf))
  all_goals first | (exfalso; omega) | skip
  exact z113 [0] (by decide) rfl rfl rfl ⟨z82 (cells_congr (by rw [show ((n : Int) - (((0 : Nat) : Int) - ((0 : Nat) : Int))).toNat = n by omega])) (z4 rfl), trivial⟩

def szK (a b : List Int) : Nat → Nat
  | 0 => 0
  | 1 => a.length
  | _ => a.length + b.length
def clK (a b : List Int) : Nat → List (List AC)
  | 0 => List.replicate (a.length + b.length) [.int 0]
  | 1 => a.map enI
  | _ => (a ++ b).map enI
theorem clK_flat (a b : List Int) (k : Nat) : Flat (clK a b k) := by
  match k with
  | 0 => exact z4 rfl
  | 1 => exact z5 fun _ => rfl
  | _ + 2 => exact z5 fun _ => rfl

theorem concat_new (a b : List Int) (h0 : 0 < a.length + b.length) (h1 : a.length + b.length ≤ 1048576) : CallsA Try.prog 39 [lst 1 encL [a, b]] [] (.sref 0 0 (a.length + b.length)) [.cells 1 ((a ++ b).map enI)] := by
  have cg := growNil_new (a.length + b.length) h0 h1
  have e0 : szK a b 0 = 0 := rfl
  have e1 : szK a b 1 = a.length := rfl
  have e2 : szK a b 2 = a.length + b.length := rfl
  have hc1 : (clK a b 1).length = szK a b 1 := by simp [clK, szK]
  refine z62 z79 Try.func39 rfl rfl 36 Try.ntmps39 (by simp) ?_
  repeat' (first | (apply AWP.go ok; rfl; conv => whnf) | (apply z37; kernel_rfl; conv => whnf) | (apply And.intro; (first | omega | (unfold inI; omega) | (dsimp only; omega) | (unfold z47; omega) | ((try dsimp only); simp only [List.length_map, List.length_take, List.length_append, List.length_replicate, List.length_cons, List.length_nil]; omega) | (simp only [z58] at *; first | omega | (unfold inI; omega) | (unfold z47; omega)) | exact z6 (fun _ => rfl) | exact ⟨rfl, z14 rfl z20⟩ | exact ⟨rfl, z6 (fun _ => rfl) _⟩ | exact ⟨⟨rfl, by omega⟩, z6 (fun _ => rfl) _⟩); conv => whnf) | (with_reducible apply z9; omega; intro _; conv => whnf) | (with_reducible apply z21; omega; intro _; conv => whnf) | (apply z9; omega; intro _; conv => whnf) | (apply z22; omega; conv => whnf) | (apply z32; conv => whnf) | (apply z31; omega; intro _; conv => whnf) | (apply z30 <;> intro _ <;> conv => whnf) | (apply z19 <;> intro _ <;> conv => whnf) | (apply z29 <;> intro _ <;> conv => whnf) | (apply z45 <;> intro _ <;> conv => whnf) | (apply z17 <;> intro _ <;> conv => whnf) | (apply z13 <;> intro _ <;> conv => whnf) | (apply z18 <;> intro _ <;> conv => whnf) | (apply z28 <;> intro _ <;> conv => whnf))
  refine z138 (fun k : Nat => ([(0, lst 1 encL [a, b]), (3, .int (szK a b k)), (9, lst 1 encL [a, b]), (10, .int (2 : Nat)), (11, .int k)], [])) (fun k => k ≤ 2) (fun k => 2 - k) 0 (by omega) ⟨[], rfl, by decide, rfl, ⟨⟨rfl, rfl⟩, ⟨rfl, rfl⟩, ⟨rfl, rfl⟩, ⟨rfl, rfl⟩, ⟨rfl, rfl⟩, trivial⟩, trivial⟩ ?_
  intro k hk
  have hk3 : k = 0 ∨ k = 1 ∨ k = 2 := by omega
  rcases hk3 with rfl | rfl | rfl
  · repeat' (first | (apply AWP.go ok; rfl; conv => whnf) | (apply z37; kernel_rfl; conv => whnf) | (refine z80 (i := 0) rfl rfl ?_; conv => whnf) | (apply And.intro; (first | omega | (unfold inI; omega) | (dsimp only; omega) | (unfold z47; omega) | ((try dsimp only); simp only [List.length_map, List.length_take, List.length_append, List.length_replicate, List.length_cons, List.length_nil]; omega) | (simp only [z58] at *; first | omega | (unfold inI; omega) | (unfold z47; omega)) | exact z6 (fun _ => rfl) | exact ⟨rfl, z14 rfl z20⟩ | exact ⟨rfl, z6 (fun _ => rfl) _⟩ | exact ⟨⟨rfl, by omega⟩, z6 (fun _ => rfl) _⟩); conv => whnf) | (with_reducible apply z9; omega; intro _; conv => whnf) | (with_reducible apply z21; omega; intro _; conv => whnf) | (apply z9; omega; intro _; conv => whnf) | (apply z22; omega; conv => whnf) | (apply z32; conv => whnf) | (apply z31; omega; intro _; conv => whnf) | (apply z30 <;> intro _ <;> conv => whnf) | (apply z19 <;> intro _ <;> conv => whnf) | (apply z29 <;> intro _ <;> conv => whnf) | (apply z45 <;> intro _ <;> conv => whnf) | (apply z17 <;> intro _ <;> conv => whnf) | (apply z13 <;> intro _ <;> conv => whnf) | (apply z18 <;> intro _ <;> conv => whnf) | (apply z28 <;> intro _ <;> conv => whnf))
    all_goals first | (exfalso; omega) | skip
    all_goals exact z117 1 [] (by omega) (by omega) ⟨rfl, by decide, rfl, ⟨⟨rfl, rfl⟩, ⟨rfl, env_int (by omega)⟩, ⟨rfl, rfl⟩, ⟨rfl, rfl⟩, ⟨rfl, rfl⟩, trivial⟩, trivial⟩
  · repeat' (first | (apply AWP.go ok; rfl; conv => whnf) | (apply z37; kernel_rfl; conv => whnf) | (refine z80 (i := 1) rfl rfl ?_; conv => whnf) | (apply And.intro; (first | omega | (unfold inI; omega) | (dsimp only; omega) | (unfold z47; omega) | ((try dsimp only); simp only [List.length_map, List.length_take, List.length_append, List.length_replicate, List.length_cons, List.length_nil]; omega) | (simp only [z58] at *; first | omega | (unfold inI; omega) | (unfold z47; omega)) | exact z6 (fun _ => rfl) | exact ⟨rfl, z14 rfl z20⟩ | exact ⟨rfl, z6 (fun _ => rfl) _⟩ | exact ⟨⟨rfl, by omega⟩, z6 (fun _ => rfl) _⟩); conv => whnf) | (with_reducible apply z9; omega; intro _; conv => whnf) | (with_reducible apply z21; omega; intro _; conv => whnf) | (apply z9; omega; intro _; conv => whnf) | (apply z22; omega; conv => whnf) | (apply z32; conv => whnf) | (apply z31; omega; intro _; conv => whnf) | (apply z30 <;> intro _ <;> conv => whnf) | (apply z19 <;> intro _ <;> conv => whnf) | (apply z29 <;> intro _ <;> conv => whnf) | (apply z45 <;> intro _ <;> conv => whnf) | (apply z17 <;> intro _ <;> conv => whnf) | (apply z13 <;> intro _ <;> conv => whnf) | (apply z18 <;> intro _ <;> conv => whnf) | (apply z28 <;> intro _ <;> conv => whnf))
    all_goals first | (exfalso; omega) | skip
    all_goals exact z117 2 [] (by omega) (by omega) ⟨rfl, by decide, rfl, ⟨⟨rfl, rfl⟩, ⟨rfl, env_int (by omega)⟩, ⟨rfl, rfl⟩, ⟨rfl, rfl⟩, ⟨rfl, rfl⟩, trivial⟩, trivial⟩
  · rw [← e2] at cg
    repeat' (first | (apply AWP.go ok; rfl; conv => whnf) | (apply z37; kernel_rfl; conv => whnf) | (apply And.intro; (first | omega | (unfold inI; omega) | (dsimp only; omega) | (unfold z47; omega) | ((try dsimp only); simp only [List.length_map, List.length_take, List.length_append, List.length_replicate, List.length_cons, List.length_nil]; omega) | (simp only [z58] at *; first | omega | (unfold inI; omega) | (unfold z47; omega)) | exact z6 (fun _ => rfl) | exact ⟨rfl, z14 rfl z20⟩ | exact ⟨rfl, z6 (fun _ => rfl) _⟩ | exact ⟨⟨rfl, by omega⟩, z6 (fun _ => rfl) _⟩); conv => whnf) | (with_reducible apply z9; omega; intro _; conv => whnf) | (with_reducible apply z21; omega; intro _; conv => whnf) | (apply z9; omega; intro _; conv => whnf) | (apply z22; omega; conv => whnf) | (apply z32; conv => whnf) | (apply z31; omega; intro _; conv => whnf) | (apply z30 <;> intro _ <;> conv => whnf) | (apply z19 <;> intro _ <;> conv => whnf) | (apply z29 <;> intro _ <;> conv => whnf) | (apply z45 <;> intro _ <;> conv => whnf) | (apply z17 <;> intro _ <;> conv => whnf) | (apply z13 <;> intro _ <;> conv => whnf) | (apply z18 <;> intro _ <;> conv => whnf) | (apply z28 <;> intro _ <;> conv => whnf) | (apply z23 [] [] [0] (cg); rfl; (focus ((repeat' (first | exact z12 | apply z11)) <;> (first | rfl | (refine z15 rfl ?_; (first | exact z8 | exact z4 rfl | exact z5 (fun _ => rfl) | exact z5 Tree.co_flat | (apply z7 <;> (first | exact z4 rfl | exact z5 (fun _ => rfl))) | assumption))))); rfl; rfl; rfl; rfl; rfl; (focus ((repeat' (first | exact z64 | apply z63)) <;> (first | exact z66 | exact z77 rfl rfl | (refine z65 ?_; (first | exact z8 | exact z4 rfl | exact z5 (fun _ => rfl) | exact z5 Tree.co_flat | (apply z7 <;> (first | exact z4 rfl | exact z5 (fun _ => rfl))) | assumption))))); (first | exact .inl rfl | (refine .inr ⟨rfl, ?_⟩; repeat' (first | exact True.intro | apply And.intro | exact rfl | exact z48 (fun _ => rfl) _))); conv => whnf))
    all_goals first | (exfalso; omega) | skip
    refine z138 (fun k : Nat => ([(6, .sref 0 0 (szK a b k)), (25, lst 1 encL [a, b]), (26, .int (2 : Nat)), (27, .int k)], [.cells 1 (clK a b k)])) (fun k => k ≤ 2) (fun k => 2 - k) 0 (by omega) ⟨[0], rfl, by decide, rfl, ⟨⟨rfl, rfl⟩, ⟨rfl, rfl⟩, ⟨rfl, rfl⟩, ⟨rfl, rfl⟩, trivial⟩, ⟨z82 rfl (clK_flat a b 0), trivial⟩⟩ ?_
    intro k hk
    have hk3 : k = 0 ∨ k = 1 ∨ k = 2 := by omega
    rcases hk3 with rfl | rfl | rfl
    · repeat' (first | (apply AWP.go ok; rfl; conv => whnf) | (apply z37; kernel_rfl; conv => whnf) | (refine z80 (i := 0) rfl rfl ?_; conv => whnf) | (apply And.intro; (first | omega | (unfold inI; omega) | (dsimp only; omega) | (unfold z47; omega) | ((try dsimp only); simp only [List.length_map, List.length_take, List.length_append, List.length_replicate, List.length_cons, List.length_nil]; omega) | (simp only [z58] at *; first | omega | (unfold inI; omega) | (unfold z47; omega)) | exact z6 (fun _ => rfl) | exact ⟨rfl, z14 rfl z20⟩ | exact ⟨rfl, z6 (fun _ => rfl) _⟩ | exact ⟨⟨rfl, by omega⟩, z6 (fun _ => rfl) _⟩); conv => whnf) | (with_reducible apply z9; omega; intro _; conv => whnf) | (with_reducible apply z21; omega; intro _; conv => whnf) | (apply z9; omega; intro _; conv => whnf) | (apply z22; omega; conv => whnf) | (apply z32; conv => whnf) | (apply z31; omega; intro _; conv => whnf) | (apply z30 <;> intro _ <;> conv => whnf) | (apply z19 <;> intro _ <;> conv => whnf) | (apply z29 <;> intro _ <;> conv => whnf) | (apply z45 <;> intro _ <;> conv => whnf) | (apply z17 <;> intro _ <;> conv => whnf) | (apply z13 <;> intro _ <;> conv => whnf) | (apply z18 <;> intro _ <;> conv => whnf) | (apply z28 <;> intro _ <;> conv => whnf))
      all_goals first | (exfalso; omega) | skip
      all_goals exact z117 1 [1] (by omega) (by omega) ⟨rfl, by decide, rfl, ⟨⟨rfl, congrArg (AC.sref 1 0) (show szK a b 0 + a.length = szK a b 1 by omega)⟩, ⟨rfl, rfl⟩, ⟨rfl, rfl⟩, ⟨rfl, rfl⟩, trivial⟩, ⟨z82 (cells_congr (by rw [e0, List.take_zero]; rfl)) (clK_flat a b 1), trivial⟩⟩
    · repeat' (first | (apply AWP.go ok; rfl; conv => whnf) | (apply z37; kernel_rfl; conv => whnf) | (refine z80 (i := 1) rfl rfl ?_; conv => whnf) | (apply And.intro; (first | omega | (unfold inI; omega) | (dsimp only; omega) | (unfold z47; omega) | ((try dsimp only); simp only [List.length_map, List.length_take, List.length_append, List.length_replicate, List.length_cons, List.length_nil]; omega) | (simp only [z58] at *; first | omega | (unfold inI; omega) | (unfold z47; omega)) | exact z6 (fun _ => rfl) | exact ⟨rfl, z14 rfl z20⟩ | exact ⟨rfl, z6 (fun _ => rfl) _⟩ | exact ⟨⟨rfl, by omega⟩, z6 (fun _ => rfl) _⟩); conv => whnf) | (with_reducible apply z9; omega; intro _; conv => whnf) | (with_reducible apply z21; omega; intro _; conv => whnf) | (apply z9; omega; intro _; conv => whnf) | (apply z22; omega; conv => whnf) | (apply z32; conv => whnf) | (apply z31; omega; intro _; conv => whnf) | (apply z30 <;> intro _ <;> conv => whnf) | (apply z19 <;> intro _ <;> conv => whnf) | (apply z29 <;> intro _ <;> conv => whnf) | (apply z45 <;> intro _ <;> conv => whnf) | (apply z17 <;> intro _ <;> conv => whnf) | (apply z13 <;> intro _ <;> conv => whnf) | (apply z18 <;> intro _ <;> conv => whnf) | (apply z28 <;> intro _ <;> conv => whnf))
      all_goals first | (exfalso; omega) | skip
      all_goals exact z117 2 [1] (by omega) (by omega) ⟨rfl, by decide, rfl, ⟨⟨rfl, congrArg (AC.sref 1 0) (show szK a b 1 + b.length = szK a b 2 by omega)⟩, ⟨rfl, rfl⟩, ⟨rfl, rfl⟩, ⟨rfl, rfl⟩, trivial⟩, ⟨z82 (cells_congr (by rw [List.take_of_length_le (by omega)]; exact (List.map_append ..).symm)) (clK_flat a b 2), trivial⟩⟩
    · repeat' (first | (apply AWP.go ok; rfl; conv => whnf) | (apply z37; kernel_rfl; conv => whnf) | (apply And.intro; (first | omega | (unfold inI; omega) | (dsimp only; omega) | (unfold z47; omega) | ((try dsimp only); simp only [List.length_map, List.length_take, List.length_append, List.length_replicate, List.length_cons, List.length_nil]; omega) | (simp only [z58] at *; first | omega | (unfold inI; omega) | (unfold z47; omega)) | exact z6 (fun _ => rfl) | exact ⟨rfl, z14 rfl z20⟩ | exact ⟨rfl, z6 (fun _ => rfl) _⟩ | exact ⟨⟨rfl, by omega⟩, z6 (fun _ => rfl) _⟩); conv => whnf) | (with_reducible apply z9; omega; intro _; conv => whnf) | (with_reducible apply z21; omega; intro _; conv => whnf) | (apply z9; omega; intro _; conv => whnf) | (apply z22; omega; conv => whnf) | (apply z32; conv => whnf) | (apply z31; omega; intro _; conv => whnf) | (apply z30 <;> intro _ <;> conv => whnf) | (apply z19 <;> intro _ <;> conv => whnf) | (apply z29 <;> intro _ <;> conv => whnf) | (apply z45 <;> intro _ <;> conv => whnf) | (apply z17 <;> intro _ <;> conv => whnf) | (apply z13 <;> intro _ <;> conv => whnf) | (apply z18 <;> intro _ <;> conv => whnf) | (apply z28 <;> intro _ <;> conv => whnf))
      all_goals first | (exfalso; omega) | skip
      all_goals exact z113 [0] (by decide) rfl rfl rfl ⟨z82 rfl (z5 fun _ => rfl), trivial⟩
end Go.Proofs.Ytkophaoifmofdaa

namespace Go.Proofs.Ytkophaoifmofdaa
open Go.Gl
attribute [local irreducible] z83 AWP z96 z107 z99

noncomputable def stepP (g : Graph) (p : List Int) (i : Nat) : Bool := (decide (0 ≤ p.getD i 0) && decide (p.getD i 0 < g.st.length)) && (decide (i = 0) || decide (p.getD i 0 ∈ g.nx.getD (p.getD (i - 1) 0).toNat []))
noncomputable def pathB (g : Graph) (p : List Int) : Bool := z142 g && (decide (1 ≤ p.length) && (List.range p.length).all (stepP g p))
theorem pathB_false {g : Graph} {p : List Int} {i : Nat} (hi : i < p.length) (h : stepP g p i = false) : pathB g p = false := by
  unfold pathB
  have : (List.range p.length).all (stepP g p) = false := by
    rw [List.all_eq_false]
    exact ⟨i, List.mem_range.2 hi, by simp [h]⟩
  rw [this]; simp
theorem pathB_true {g : Graph} {p : List Int} (hg : z142 g = true) (h0 : 1 ≤ p.length) (h : ∀ i, i < p.length → stepP g p i = true) : pathB g p = true := by
  unfold pathB
  have : (List.range p.length).all (stepP g p) = true := by
    rw [List.all_eq_true]
    exact fun i hi => h i (List.mem_range.1 hi)
  rw [this, hg, decide_eq_true h0]; rfl
theorem stepP_0 (g : Graph) (p : List Int) (h : 0 < p.length) : stepP g p 0 = (decide (0 ≤ p[0]) && decide (p[0] < g.st.length)) := by
  unfold stepP; rw [z106 h]; simp
theorem stepP_s (g : Graph) (p : List Int) (j : Nat) (h : j + 1 < p.length) (h2 : p[j].toNat < g.nx.length) : stepP g p (j + 1) = (decide (0 ≤ p[j + 1]) && decide (p[j + 1] < g.st.length) && decide (p[j + 1] ∈ g.nx[p[j].toNat])) := by
  unfold stepP
  rw [z106 h, Nat.add_sub_cancel, z106 (show j < p.length by omega), z106 h2]; simp
theorem stepP_in {g : Graph} {p : List Int} {j : Nat} (h : j < p.length) (k : stepP g p j = true) : 0 ≤ p[j] ∧ p[j] < g.st.length := by
  unfold stepP at k
  rw [z106 h] at k
  simp only [Bool.and_eq_true, decide_eq_true_eq] at k
  exact k.1
theorem upto_succ {P : Nat → Prop} {i : Nat} (h : ∀ j, j < i → P j) (k : P i) : ∀ j, j < i + 1 → P j := fun j hj => by
  rcases Nat.lt_or_ge j i with h3 | h3
  · exact h j h3
  · obtain rfl : j = i := by omega
    exact k

set_option maxHeartbeats 1600000 in
theorem implPath_ok (g : Graph) (hg : g.mx) (p : List Int) (hp : p.length ≤ maxLen) : CallsA Try.prog 40 [.agg g.cs, ints p] [] (.bool (pathB g p)) [] := by
  have k1 := graphValid_ok g hg
  unfold maxLen at hp
  by_cases hgb : z142 g = true
  · have hG := (z119 g).1 hgb
    have hgl := hG.2.1
    have h60 := hG.1.2
    have hrl := hg.2.2
    rw [hgb] at k1
    by_cases h0 : p.length = 0
    · have e : pathB g p = false := by unfold pathB; rw [decide_eq_false (show ¬ 1 ≤ p.length by omega)]; simp
      rw [e]
      refine z62 z79 Try.func40 rfl rfl 48 Try.ntmps40 (by simp) ?_
      repeat' (first | (apply AWP.go ok; rfl; conv => whnf) | (apply z37; kernel_rfl; conv => whnf) | (apply And.intro; (first | omega | (unfold inI; omega) | (dsimp only; omega) | (unfold z47; omega) | ((try dsimp only); simp only [List.length_map, List.length_take, List.length_append, List.length_replicate, List.length_cons, List.length_nil]; omega) | (simp only [z58] at *; first | omega | (unfold inI; omega) | (unfold z47; omega)) | exact z6 (fun _ => rfl) | exact ⟨rfl, z14 rfl z20⟩ | exact ⟨rfl, z6 (fun _ => rfl) _⟩ | exact ⟨⟨rfl, by omega⟩, z6 (fun _ => rfl) _⟩); conv => whnf) | (with_reducible apply z9; omega; intro _; conv => whnf) | (with_reducible apply z21; omega; intro _; conv => whnf) | (apply z9; omega; intro _; conv => whnf) | (apply z22; omega; conv => whnf) | (apply z32; conv => whnf) | (apply z31; omega; intro _; conv => whnf) | (apply z30 <;> intro _ <;> conv => whnf) | (apply z19 <;> intro _ <;> conv => whnf) | (apply z29 <;> intro _ <;> conv => whnf) | (apply z45 <;> intro _ <;> conv => whnf) | (apply z17 <;> intro _ <;> conv => whnf) | (apply z13 <;> intro _ <;> conv => whnf) | (apply z18 <;> intro _ <;> conv => whnf) | (apply z28 <;> intro _ <;> conv => whnf) | (apply z34 (k1); rfl; rfl; conv => whnf))
      all_goals first | (exfalso; omega) | exact z76 rfl rfl | (exfalso; simp_all; done) | skip
    refine z62 z79 Try.func40 rfl rfl 48 Try.ntmps40 (by simp) ?_
    repeat' (first | (apply AWP.go ok; rfl; conv => whnf) | (apply z37; kernel_rfl; conv => whnf) | (apply And.intro; (first | omega | (unfold inI; omega) | (dsimp only; omega) | (unfold z47; omega) | ((try dsimp only); simp only [List.length_map, List.length_take, List.length_append, List.length_replicate, List.length_cons, List.length_nil]; omega) | (simp only [z58] at *; first | omega | (unfold inI; omega) | (unfold z47; omega)) | exact z6 (fun _ => rfl) | exact ⟨rfl, z14 rfl z20⟩ | exact ⟨rfl, z6 (fun _ => rfl) _⟩ | exact ⟨⟨rfl, by omega⟩, z6 (fun _ => rfl) _⟩); conv => whnf) | (with_reducible apply z9; omega; intro _; conv => whnf) | (with_reducible apply z21; omega; intro _; conv => whnf) | (apply z9; omega; intro _; conv => whnf) | (apply z22; omega; conv => whnf) | (apply z32; conv => whnf) | (apply z31; omega; intro _; conv => whnf) | (apply z30 <;> intro _ <;> conv => whnf) | (apply z19 <;> intro _ <;> conv => whnf) | (apply z29 <;> intro _ <;> conv => whnf) | (apply z45 <;> intro _ <;> conv => whnf) | (apply z17 <;> intro _ <;> conv => whnf) | (apply z13 <;> intro _ <;> conv => whnf) | (apply z18 <;> intro _ <;> conv => whnf) | (apply z28 <;> intro _ <;> conv => whnf) | (apply z34 (k1); rfl; rfl; conv => whnf))
    all_goals first | (exfalso; omega) | (exfalso; simp_all; done) | skip
    refine z138 (fun i : Nat => ([(1, ints p), (2, .ptr 0 none 0), (15, ints p), (16, .int p.length), (17, .int i)], [.cells 2 [[lst 2 State.cs g.st, lst 1 encL g.nx]]])) (fun i => i ≤ p.length ∧ ∀ j, j < i → stepP g p j = true) (fun i => p.length - i) 0 ⟨by omega, fun j hj => by omega⟩ ⟨[0], rfl, by decide, rfl, ⟨⟨rfl, rfl⟩, ⟨rfl, rfl⟩, ⟨rfl, rfl⟩, ⟨rfl, rfl⟩, ⟨rfl, rfl⟩, trivial⟩, ⟨z81 rfl rfl, trivial⟩⟩ ?_
    rintro i ⟨hi, hs⟩
    by_cases hil : i < p.length
    · have g0 : (p.map enI)[i]? = some (enI p[i]) := by rw [List.getElem?_map, List.getElem?_eq_getElem hil]; rfl
      have c1 := in_ok p[i] 0 ((g.st.length : Int) - 1)
      cases i with
      | zero =>
        have hst := stepP_0 g p hil
        generalize p[0] = x at *
        repeat' (first | (apply AWP.go ok; rfl; conv => whnf) | (apply z37; kernel_rfl; conv => whnf) | (refine z80 (i := 0) rfl g0 ?_; conv => whnf) | (apply And.intro; (first | omega | (unfold inI; omega) | (dsimp only; omega) | (unfold z47; omega) | ((try dsimp only); simp only [List.length_map, List.length_take, List.length_append, List.length_replicate, List.length_cons, List.length_nil]; omega) | (simp only [z58] at *; first | omega | (unfold inI; omega) | (unfold z47; omega)) | exact z6 (fun _ => rfl) | exact ⟨rfl, z14 rfl z20⟩ | exact ⟨rfl, z6 (fun _ => rfl) _⟩ | exact ⟨⟨rfl, by omega⟩, z6 (fun _ => rfl) _⟩); conv => whnf) | (with_reducible apply z9; omega; intro _; conv => whnf) | (with_reducible apply z21; omega; intro _; conv => whnf) | (apply z9; omega; intro _; conv => whnf) | (apply z22; omega; conv => whnf) | (apply z32; conv => whnf) | (apply z31; omega; intro _; conv => whnf) | (apply z30 <;> intro _ <;> conv => whnf) | (apply z19 <;> intro _ <;> conv => whnf) | (apply z29 <;> intro _ <;> conv => whnf) | (apply z45 <;> intro _ <;> conv => whnf) | (apply z17 <;> intro _ <;> conv => whnf) | (apply z13 <;> intro _ <;> conv => whnf) | (apply z18 <;> intro _ <;> conv => whnf) | (apply z28 <;> intro _ <;> conv => whnf) | (apply z34 (c1); rfl; rfl; conv => whnf))
        all_goals (try simp only [z58, btw_no] at *)
        all_goals first
          | (exfalso; omega)
          | exact z76 rfl (pathB_false hil (by rw [hst]; grind))
          | exact z117 1 [0] ⟨by omega, upto_succ hs (by rw [hst]; grind)⟩ (by omega) ⟨rfl, by decide, rfl, ⟨⟨rfl, rfl⟩, ⟨rfl, rfl⟩, ⟨rfl, rfl⟩, ⟨rfl, rfl⟩, ⟨rfl, rfl⟩, trivial⟩, ⟨z81 rfl rfl, trivial⟩⟩
      | succ j =>
        have hy := stepP_in (show j < p.length by omega) (hs j (by omega))
        have hst := stepP_s g p j hil (by omega)
        have g1 : (p.map enI)[j]? = some (enI p[j]) := by rw [List.getElem?_map, List.getElem?_eq_getElem (by omega)]; rfl
        have c2 := containsInt_ok g.nx[p[j].toNat] (hrl _ (List.getElem_mem _)) p[j + 1]
        have g2 : (g.nx.map encL)[p[j].toNat]? = some (encL (g.nx[p[j].toNat]'(by omega))) := by rw [List.getElem?_map, List.getElem?_eq_getElem (by omega)]; rfl
        generalize g.nx[p[j].toNat] = row at *
        generalize p[j] = y at *
        generalize p[j + 1] = x at *
        repeat' (first | (apply AWP.go ok; rfl; conv => whnf) | (apply z37; kernel_rfl; conv => whnf) | (refine z80 (i := y.toNat) rfl g2 ?_; conv => whnf) | (refine z80 (i := j) (by omega) g1 ?_; conv => whnf) | (refine z80 (i := j + 1) (by first | rfl | omega) g0 ?_; conv => whnf) | (apply And.intro; (first | omega | (unfold inI; omega) | (dsimp only; omega) | (unfold z47; omega) | ((try dsimp only); simp only [List.length_map, List.length_take, List.length_append, List.length_replicate, List.length_cons, List.length_nil]; omega) | (simp only [z58] at *; first | omega | (unfold inI; omega) | (unfold z47; omega)) | exact z6 (fun _ => rfl) | exact ⟨rfl, z14 rfl z20⟩ | exact ⟨rfl, z6 (fun _ => rfl) _⟩ | exact ⟨⟨rfl, by omega⟩, z6 (fun _ => rfl) _⟩); conv => whnf) | (with_reducible apply z9; omega; intro _; conv => whnf) | (with_reducible apply z21; omega; intro _; conv => whnf) | (apply z9; omega; intro _; conv => whnf) | (apply z22; omega; conv => whnf) | (apply z32; conv => whnf) | (apply z31; omega; intro _; conv => whnf) | (apply z30 <;> intro _ <;> conv => whnf) | (apply z19 <;> intro _ <;> conv => whnf) | (apply z29 <;> intro _ <;> conv => whnf) | (apply z45 <;> intro _ <;> conv => whnf) | (apply z17 <;> intro _ <;> conv => whnf) | (apply z13 <;> intro _ <;> conv => whnf) | (apply z18 <;> intro _ <;> conv => whnf) | (apply z28 <;> intro _ <;> conv => whnf) | (apply z34 (c1); rfl; rfl; conv => whnf) | (apply z34 (c2); rfl; rfl; conv => whnf))
        all_goals (try simp only [z58, btw_no] at *)
        all_goals first
          | (exfalso; omega)
          | exact z76 rfl (pathB_false hil (by rw [hst]; grind))
          | exact z117 (j + 2) [0] ⟨by omega, upto_succ hs (by rw [hst]; grind)⟩ (by omega) ⟨rfl, by decide, rfl, ⟨⟨rfl, rfl⟩, ⟨rfl, rfl⟩, ⟨rfl, rfl⟩, ⟨rfl, rfl⟩, ⟨rfl, rfl⟩, trivial⟩, ⟨z81 rfl rfl, trivial⟩⟩
          | skip
    · repeat' (first | (apply AWP.go ok; rfl; conv => whnf) | (apply z37; kernel_rfl; conv => whnf) | (apply And.intro; (first | omega | (unfold inI; omega) | (dsimp only; omega) | (unfold z47; omega) | ((try dsimp only); simp only [List.length_map, List.length_take, List.length_append, List.length_replicate, List.length_cons, List.length_nil]; omega) | (simp only [z58] at *; first | omega | (unfold inI; omega) | (unfold z47; omega)) | exact z6 (fun _ => rfl) | exact ⟨rfl, z14 rfl z20⟩ | exact ⟨rfl, z6 (fun _ => rfl) _⟩ | exact ⟨⟨rfl, by omega⟩, z6 (fun _ => rfl) _⟩); conv => whnf) | (with_reducible apply z9; omega; intro _; conv => whnf) | (with_reducible apply z21; omega; intro _; conv => whnf) | (apply z9; omega; intro _; conv => whnf) | (apply z22; omega; conv => whnf) | (apply z32; conv => whnf) | (apply z31; omega; intro _; conv => whnf) | (apply z30 <;> intro _ <;> conv => whnf) | (apply z19 <;> intro _ <;> conv => whnf) | (apply z29 <;> intro _ <;> conv => whnf) | (apply z45 <;> intro _ <;> conv => whnf) | (apply z17 <;> intro _ <;> conv => whnf) | (apply z13 <;> intro _ <;> conv => whnf) | (apply z18 <;> intro _ <;> conv => whnf) | (apply z28 <;> intro _ <;> conv => whnf))
      all_goals first | (exfalso; omega) | skip
      exact z76 rfl (pathB_true hgb (by omega) fun j hj => hs j (by omega))
  · have hgb := (Bool.not_eq_true _).mp hgb
    have e : pathB g p = false := by unfold pathB; rw [hgb]; rfl
    rw [hgb] at k1
    rw [e]
    refine z62 z79 Try.func40 rfl rfl 48 Try.ntmps40 (by simp) ?_
    repeat' (first | (apply AWP.go ok; rfl; conv => whnf) | (apply z37; kernel_rfl; conv => whnf) | (apply And.intro; (first | omega | (unfold inI; omega) | (dsimp only; omega) | (unfold z47; omega) | ((try dsimp only); simp only [List.length_map, List.length_take, List.length_append, List.length_replicate, List.length_cons, List.length_nil]; omega) | (simp only [z58] at *; first | omega | (unfold inI; omega) | (unfold z47; omega)) | exact z6 (fun _ => rfl) | exact ⟨rfl, z14 rfl z20⟩ | exact ⟨rfl, z6 (fun _ => rfl) _⟩ | exact ⟨⟨rfl, by omega⟩, z6 (fun _ => rfl) _⟩); conv => whnf) | (with_reducible apply z9; omega; intro _; conv => whnf) | (with_reducible apply z21; omega; intro _; conv => whnf) | (apply z9; omega; intro _; conv => whnf) | (apply z22; omega; conv => whnf) | (apply z32; conv => whnf) | (apply z31; omega; intro _; conv => whnf) | (apply z30 <;> intro _ <;> conv => whnf) | (apply z19 <;> intro _ <;> conv => whnf) | (apply z29 <;> intro _ <;> conv => whnf) | (apply z45 <;> intro _ <;> conv => whnf) | (apply z17 <;> intro _ <;> conv => whnf) | (apply z13 <;> intro _ <;> conv => whnf) | (apply z18 <;> intro _ <;> conv => whnf) | (apply z28 <;> intro _ <;> conv => whnf) | (apply z34 (k1); rfl; rfl; conv => whnf))
    all_goals first | exact z76 rfl rfl | (exfalso; simp_all; done) | skip
set_option maxHeartbeats 1600000 in
theorem specPath_ok (g : Graph) (hg : g.mx) (p : List Int) (hp : p.length ≤ maxLen) : CallsA Try.prog 71 [.agg g.cs, ints p] [] (.bool (pathB g p)) [] := by
  have k1 := specGraphValid_ok g hg
  unfold maxLen at hp
  by_cases hgb : z142 g = true
  · have hG := (z119 g).1 hgb
    have hgl := hG.2.1
    have h60 := hG.1.2
    have hrl := hg.2.2
    rw [hgb] at k1
    by_cases h0 : p.length = 0
    · have e : pathB g p = false := by unfold pathB; rw [decide_eq_false (show ¬ 1 ≤ p.length by omega)]; simp
      rw [e]
      refine z62 z79 Try.func71 rfl rfl 56 Try.ntmps71 (by simp) ?_
      repeat' (first | (apply AWP.go ok; rfl; conv => whnf) | (apply z37; kernel_rfl; conv => whnf) | (apply And.intro; (first | omega | (unfold inI; omega) | (dsimp only; omega) | (unfold z47; omega) | ((try dsimp only); simp only [List.length_map, List.length_take, List.length_append, List.length_replicate, List.length_cons, List.length_nil]; omega) | (simp only [z58] at *; first | omega | (unfold inI; omega) | (unfold z47; omega)) | exact z6 (fun _ => rfl) | exact ⟨rfl, z14 rfl z20⟩ | exact ⟨rfl, z6 (fun _ => rfl) _⟩ | exact ⟨⟨rfl, by omega⟩, z6 (fun _ => rfl) _⟩); conv => whnf) | (with_reducible apply z9; omega; intro _; conv => whnf) | (with_reducible apply z21; omega; intro _; conv => whnf) | (apply z9; omega; intro _; conv => whnf) | (apply z22; omega; conv => whnf) | (apply z32; conv => whnf) | (apply z31; omega; intro _; conv => whnf) | (apply z30 <;> intro _ <;> conv => whnf) | (apply z19 <;> intro _ <;> conv => whnf) | (apply z29 <;> intro _ <;> conv => whnf) | (apply z45 <;> intro _ <;> conv => whnf) | (apply z17 <;> intro _ <;> conv => whnf) | (apply z13 <;> intro _ <;> conv => whnf) | (apply z18 <;> intro _ <;> conv => whnf) | (apply z28 <;> intro _ <;> conv => whnf) | (apply z34 (k1); rfl; rfl; conv => whnf))
      all_goals first | (exfalso; omega) | exact z76 rfl rfl | (exfalso; simp_all; done) | skip
    refine z62 z79 Try.func71 rfl rfl 56 Try.ntmps71 (by simp) ?_
    repeat' (first | (apply AWP.go ok; rfl; conv => whnf) | (apply z37; kernel_rfl; conv => whnf) | (apply And.intro; (first | omega | (unfold inI; omega) | (dsimp only; omega) | (unfold z47; omega) | ((try dsimp only); simp only [List.length_map, List.length_take, List.length_append, List.length_replicate, List.length_cons, List.length_nil]; omega) | (simp only [z58] at *; first | omega | (unfold inI; omega) | (unfold z47; omega)) | exact z6 (fun _ => rfl) | exact ⟨rfl, z14 rfl z20⟩ | exact ⟨rfl, z6 (fun _ => rfl) _⟩ | exact ⟨⟨rfl, by omega⟩, z6 (fun _ => rfl) _⟩); conv => whnf) | (with_reducible apply z9; omega; intro _; conv => whnf) | (with_reducible apply z21; omega; intro _; conv => whnf) | (apply z9; omega; intro _; conv => whnf) | (apply z22; omega; conv => whnf) | (apply z32; conv => whnf) | (apply z31; omega; intro _; conv => whnf) | (apply z30 <;> intro _ <;> conv => whnf) | (apply z19 <;> intro _ <;> conv => whnf) | (apply z29 <;> intro _ <;> conv => whnf) | (apply z45 <;> intro _ <;> conv => whnf) | (apply z17 <;> intro _ <;> conv => whnf) | (apply z13 <;> intro _ <;> conv => whnf) | (apply z18 <;> intro _ <;> conv => whnf) | (apply z28 <;> intro _ <;> conv => whnf) | (apply z34 (k1); rfl; rfl; conv => whnf))
    all_goals first | (exfalso; omega) | (exfalso; simp_all; done) | skip
    refine z138 (fun i : Nat => ([(1, ints p), (2, .ptr 0 none 0), (5, .int i)], [.cells 2 [[lst 2 State.cs g.st, lst 1 encL g.nx]]])) (fun i => i ≤ p.length ∧ ∀ j, j < i → stepP g p j = true) (fun i => p.length - i) 0 ⟨by omega, fun j hj => by omega⟩ ⟨[0], rfl, by decide, rfl, ⟨⟨rfl, rfl⟩, ⟨rfl, rfl⟩, ⟨rfl, rfl⟩, trivial⟩, ⟨z81 rfl rfl, trivial⟩⟩ ?_
    rintro i ⟨hi, hs⟩
    by_cases hil : i < p.length
    · have g0 : (p.map enI)[i]? = some (enI p[i]) := by rw [List.getElem?_map, List.getElem?_eq_getElem hil]; rfl
      cases i with
      | zero =>
        have hst := stepP_0 g p hil
        generalize p[0] = x at *
        repeat' (first | (apply AWP.go ok; rfl; conv => whnf) | (apply z37; kernel_rfl; conv => whnf) | (refine z80 (i := 0) rfl g0 ?_; conv => whnf) | (apply And.intro; (first | omega | (unfold inI; omega) | (dsimp only; omega) | (unfold z47; omega) | ((try dsimp only); simp only [List.length_map, List.length_take, List.length_append, List.length_replicate, List.length_cons, List.length_nil]; omega) | (simp only [z58] at *; first | omega | (unfold inI; omega) | (unfold z47; omega)) | exact z6 (fun _ => rfl) | exact ⟨rfl, z14 rfl z20⟩ | exact ⟨rfl, z6 (fun _ => rfl) _⟩ | exact ⟨⟨rfl, by omega⟩, z6 (fun _ => rfl) _⟩); conv => whnf) | (with_reducible apply z9; omega; intro _; conv => whnf) | (with_reducible apply z21; omega; intro _; conv => whnf) | (apply z9; omega; intro _; conv => whnf) | (apply z22; omega; conv => whnf) | (apply z32; conv => whnf) | (apply z31; omega; intro _; conv => whnf) | (apply z30 <;> intro _ <;> conv => whnf) | (apply z19 <;> intro _ <;> conv => whnf) | (apply z29 <;> intro _ <;> conv => whnf) | (apply z45 <;> intro _ <;> conv => whnf) | (apply z17 <;> intro _ <;> conv => whnf) | (apply z13 <;> intro _ <;> conv => whnf) | (apply z18 <;> intro _ <;> conv => whnf) | (apply z28 <;> intro _ <;> conv => whnf))
        all_goals (try simp only [z58, btw_no] at *)
        all_goals first
          | (exfalso; omega)
          | exact z76 rfl (pathB_false hil (by rw [hst]; grind))
          | exact z117 1 [0] ⟨by omega, upto_succ hs (by rw [hst]; grind)⟩ (by omega) ⟨rfl, by decide, rfl, ⟨⟨rfl, rfl⟩, ⟨rfl, rfl⟩, ⟨rfl, rfl⟩, trivial⟩, ⟨z81 rfl rfl, trivial⟩⟩
      | succ j =>
        have hy := stepP_in (show j < p.length by omega) (hs j (by omega))
        have hst := stepP_s g p j hil (by omega)
        have g1 : (p.map enI)[j]? = some (enI p[j]) := by rw [List.getElem?_map, List.getElem?_eq_getElem (by omega)]; rfl
        have c2 := l4In_ok g.nx[p[j].toNat] (hrl _ (List.getElem_mem _)) p[j + 1]
        have g2 : (g.nx.map encL)[p[j].toNat]? = some (encL (g.nx[p[j].toNat]'(by omega))) := by rw [List.getElem?_map, List.getElem?_eq_getElem (by omega)]; rfl
        generalize g.nx[p[j].toNat] = row at *
        generalize p[j] = y at *
        generalize p[j + 1] = x at *
        repeat' (first | (apply AWP.go ok; rfl; conv => whnf) | (apply z37; kernel_rfl; conv => whnf) | (refine z80 (i := y.toNat) rfl g2 ?_; conv => whnf) | (refine z80 (i := j) (by omega) g1 ?_; conv => whnf) | (refine z80 (i := j + 1) (by first | rfl | omega) g0 ?_; conv => whnf) | (apply And.intro; (first | omega | (unfold inI; omega) | (dsimp only; omega) | (unfold z47; omega) | ((try dsimp only); simp only [List.length_map, List.length_take, List.length_append, List.length_replicate, List.length_cons, List.length_nil]; omega) | (simp only [z58] at *; first | omega | (unfold inI; omega) | (unfold z47; omega)) | exact z6 (fun _ => rfl) | exact ⟨rfl, z14 rfl z20⟩ | exact ⟨rfl, z6 (fun _ => rfl) _⟩ | exact ⟨⟨rfl, by omega⟩, z6 (fun _ => rfl) _⟩); conv => whnf) | (with_reducible apply z9; omega; intro _; conv => whnf) | (with_reducible apply z21; omega; intro _; conv => whnf) | (apply z9; omega; intro _; conv => whnf) | (apply z22; omega; conv => whnf) | (apply z32; conv => whnf) | (apply z31; omega; intro _; conv => whnf) | (apply z30 <;> intro _ <;> conv => whnf) | (apply z19 <;> intro _ <;> conv => whnf) | (apply z29 <;> intro _ <;> conv => whnf) | (apply z45 <;> intro _ <;> conv => whnf) | (apply z17 <;> intro _ <;> conv => whnf) | (apply z13 <;> intro _ <;> conv => whnf) | (apply z18 <;> intro _ <;> conv => whnf) | (apply z28 <;> intro _ <;> conv => whnf) | (apply z34 (c2); rfl; rfl; conv => whnf))
        all_goals (try simp only [z58, btw_no] at *)
        all_goals first
          | (exfalso; omega)
          | exact z76 rfl (pathB_false hil (by rw [hst]; grind))
          | exact z117 (j + 2) [0] ⟨by omega, upto_succ hs (by rw [hst]; grind)⟩ (by omega) ⟨rfl, by decide, rfl, ⟨⟨rfl, rfl⟩, ⟨rfl, rfl⟩, ⟨rfl, rfl⟩, trivial⟩, ⟨z81 rfl rfl, trivial⟩⟩
          | skip
    · repeat' (first | (apply AWP.go ok; rfl; conv => whnf) | (apply z37; kernel_rfl; conv => whnf) | (apply And.intro; (first | omega | (unfold inI; omega) | (dsimp only; omega) | (unfold z47; omega) | ((try dsimp only); simp only [List.length_map, List.length_take, List.length_append, List.length_replicate, List.length_cons, List.length_nil]; omega) | (simp only [z58] at *; first | omega | (unfold inI; omega) | (unfold z47; omega)) | exact z6 (fun _ => rfl) | exact ⟨rfl, z14 rfl z20⟩ | exact ⟨rfl, z6 (fun _ => rfl) _⟩ | exact ⟨⟨rfl, by omega⟩, z6 (fun _ => rfl) _⟩); conv => whnf) | (with_reducible apply z9; omega; intro _; conv => whnf) | (with_reducible apply z21; omega; intro _; conv => whnf) | (apply z9; omega; intro _; conv => whnf) | (apply z22; omega; conv => whnf) | (apply z32; conv => whnf) | (apply z31; omega; intro _; conv => whnf) | (apply z30 <;> intro _ <;> conv => whnf) | (apply z19 <;> intro _ <;> conv => whnf) | (apply z29 <;> intro _ <;> conv => whnf) | (apply z45 <;> intro _ <;> conv => whnf) | (apply z17 <;> intro _ <;> conv => whnf) | (apply z13 <;> intro _ <;> conv => whnf) | (apply z18 <;> intro _ <;> conv => whnf) | (apply z28 <;> intro _ <;> conv => whnf))
      all_goals first | (exfalso; omega) | skip
      exact z76 rfl (pathB_true hgb (by omega) fun j hj => hs j (by omega))
  · have hgb := (Bool.not_eq_true _).mp hgb
    have e : pathB g p = false := by unfold pathB; rw [hgb]; rfl
    rw [hgb] at k1
    rw [e]
    refine z62 z79 Try.func71 rfl rfl 56 Try.ntmps71 (by simp) ?_
    repeat' (first | (apply AWP.go ok; rfl; conv => whnf) | (apply z37; kernel_rfl; conv => whnf) | (apply And.intro; (first | omega | (unfold inI; omega) | (dsimp only; omega) | (unfold z47; omega) | ((try dsimp only); simp only [List.length_map, List.length_take, List.length_append, List.length_replicate, List.length_cons, List.length_nil]; omega) | (simp only [z58] at *; first | omega | (unfold inI; omega) | (unfold z47; omega)) | exact z6 (fun _ => rfl) | exact ⟨rfl, z14 rfl z20⟩ | exact ⟨rfl, z6 (fun _ => rfl) _⟩ | exact ⟨⟨rfl, by omega⟩, z6 (fun _ => rfl) _⟩); conv => whnf) | (with_reducible apply z9; omega; intro _; conv => whnf) | (with_reducible apply z21; omega; intro _; conv => whnf) | (apply z9; omega; intro _; conv => whnf) | (apply z22; omega; conv => whnf) | (apply z32; conv => whnf) | (apply z31; omega; intro _; conv => whnf) | (apply z30 <;> intro _ <;> conv => whnf) | (apply z19 <;> intro _ <;> conv => whnf) | (apply z29 <;> intro _ <;> conv => whnf) | (apply z45 <;> intro _ <;> conv => whnf) | (apply z17 <;> intro _ <;> conv => whnf) | (apply z13 <;> intro _ <;> conv => whnf) | (apply z18 <;> intro _ <;> conv => whnf) | (apply z28 <;> intro _ <;> conv => whnf) | (apply z34 (k1); rfl; rfl; conv => whnf))
    all_goals first | exact z76 rfl rfl | (exfalso; simp_all; done) | skip
end Go.Proofs.Ytkophaoifmofdaa

namespace Go.Proofs.Ytkophaoifmofdaa
open Go.Gl
attribute [local irreducible] z83 AWP z96 z107 z99

structure Trace where
  stem : List Int
  loop : List Int
deriving DecidableEq
def Trace.cs (t : Trace) : List AC := [ints t.stem, ints t.loop]
def Trace.all (t : Trace) : List Int := t.stem ++ t.loop
noncomputable def trB (g : Graph) (t : Trace) : Bool := decide (1 ≤ t.loop.length ∧ t.stem.length + t.loop.length ≤ 8000) && (pathB g t.all && (decide (t.all.getD 0 0 = 0) && decide (t.loop.getD 0 0 ∈ g.nx.getD ((t.loop.getD (t.loop.length - 1) 0).toNat) [])))

theorem path_step {g : Graph} {p : List Int} (h : pathB g p = true) (i : Nat) (hi : i < p.length) : 0 ≤ p[i] ∧ p[i] < g.st.length := by
  unfold pathB at h
  rw [Bool.and_eq_true, Bool.and_eq_true, List.all_eq_true] at h
  exact stepP_in hi (h.2.2 i (List.mem_range.2 hi))
theorem path_graph {g : Graph} {p : List Int} (h : pathB g p = true) : z142 g = true := by
  unfold pathB at h
  exact (Bool.and_eq_true_iff.1 h).1
theorem map_at {l : List Int} {i : Nat} (h : i < l.length) : (l.map enI)[i]? = some (enI l[i]) := by rw [List.getElem?_map, List.getElem?_eq_getElem h]; rfl
theorem row_at {l : List (List Int)} {i : Nat} (h : i < l.length) : (l.map encL)[i]? = some (encL l[i]) := by rw [List.getElem?_map, List.getElem?_eq_getElem h]; rfl

theorem l8All_new (t : Trace) (h1 : t.stem.length ≤ 1048576) (h2 : t.loop.length ≤ 1048576) : CallsA Try.prog 70 [.agg t.cs] [] (.sref 0 0 (t.stem.length + t.loop.length)) [.cells 1 (t.all.map enI)] := by
  refine z62 z79 Try.func70 rfl rfl 10 Try.ntmps70 (by simp) ?_
  repeat' (first | (apply AWP.go ok; rfl; conv => whnf) | (apply z37; kernel_rfl; conv => whnf) | (apply And.intro; (first | omega | (unfold inI; omega) | (dsimp only; omega) | (unfold z47; omega) | ((try dsimp only); simp only [List.length_map, List.length_take, List.length_append, List.length_replicate, List.length_cons, List.length_nil]; omega) | (simp only [z58] at *; first | omega | (unfold inI; omega) | (unfold z47; omega)) | exact z6 (fun _ => rfl) | exact ⟨rfl, z14 rfl z20⟩ | exact ⟨rfl, z6 (fun _ => rfl) _⟩ | exact ⟨⟨rfl, by omega⟩, z6 (fun _ => rfl) _⟩); conv => whnf) | (with_reducible apply z9; omega; intro _; conv => whnf) | (with_reducible apply z21; omega; intro _; conv => whnf) | (apply z9; omega; intro _; conv => whnf) | (apply z22; omega; conv => whnf) | (apply z32; conv => whnf) | (apply z31; omega; intro _; conv => whnf) | (apply z30 <;> intro _ <;> conv => whnf) | (apply z19 <;> intro _ <;> conv => whnf) | (apply z29 <;> intro _ <;> conv => whnf) | (apply z45 <;> intro _ <;> conv => whnf) | (apply z17 <;> intro _ <;> conv => whnf) | (apply z13 <;> intro _ <;> conv => whnf) | (apply z18 <;> intro _ <;> conv => whnf) | (apply z28 <;> intro _ <;> conv => whnf))
  all_goals exact z113 [3] (by decide) rfl (by first | rfl | exact congrArg (AC.sref 3 0) (by omega)) (by first | rfl | exact congrArg (AC.sref 3 0) (show 0 + t.stem.length + t.loop.length = t.stem.length + t.loop.length by omega)) ⟨z82 (cells_congr (by unfold Trace.all; rw [List.take_of_length_le (by simp), List.map_append]; simp)) (z5 fun _ => rfl), trivial⟩

structure TrF (g : Graph) (t : Trace) (x y p0 : Int) (row : List Int) : Prop where
  hx : 0 ≤ x ∧ x < g.st.length
  gp : (t.all.map enI)[0]? = some (enI p0)
  ga : (t.all.map enI)[t.all.length - 1]? = some (enI x)
  gx : (t.loop.map enI)[t.loop.length - 1]? = some (enI x)
  gl : (t.loop.map enI)[0]? = some (enI y)
  gr : (g.nx.map encL)[x.toNat]? = some (encL row)
  rm : row.length ≤ maxLen
  e : trB g t = (decide (p0 = 0) && decide (y ∈ row))
theorem trF {g : Graph} (hg : g.mx) {t : Trace} (hs : 1 ≤ t.loop.length ∧ t.stem.length + t.loop.length ≤ 8000) (hb : pathB g t.all = true) : ∃ x y p0 row, TrF g t x y p0 row := by
  have hG := (z119 g).1 (path_graph hb)
  have hal : t.all.length = t.stem.length + t.loop.length := by unfold Trace.all; simp
  have hl : t.loop.length - 1 < t.loop.length := by omega
  have ha : t.all.length - 1 < t.all.length := by omega
  have h0 : 0 < t.loop.length := by omega
  have hp := path_step hb _ ha
  have ex : t.all[t.all.length - 1] = t.loop[t.loop.length - 1] := by
    have : t.all[t.all.length - 1]? = t.loop[t.loop.length - 1]? := by
      rw [hal]
      unfold Trace.all
      rw [List.getElem?_append_right (by omega)]
      congr 1; omega
    rw [List.getElem?_eq_getElem ha, List.getElem?_eq_getElem hl] at this
    exact Option.some.inj this
  have hxn : (t.loop[t.loop.length - 1]).toNat < g.nx.length := by
    rw [ex] at hp; have := hG.2.1; omega
  refine ⟨t.loop[t.loop.length - 1], t.loop[0], t.all[0], g.nx[(t.loop[t.loop.length - 1]).toNat], ?_⟩
  refine ⟨by rw [← ex]; exact hp, map_at (by omega), by rw [← ex]; exact map_at ha, map_at hl, map_at h0, row_at hxn, hg.2.2 _ (List.getElem_mem _), ?_⟩
  unfold trB
  rw [decide_eq_true hs, hb, z106 (show 0 < t.all.length by omega), z106 h0, z106 hl, z106 hxn]; rfl

set_option maxHeartbeats 1600000 in
theorem implTrace_ok (g : Graph) (hg : g.mx) (t : Trace) (h1 : t.stem.length ≤ 1048576) (h2 : t.loop.length ≤ 1048576) : CallsA Try.prog 15 [.agg g.cs, .agg t.cs] [] (.bool (trB g t)) [] := by
  have hal : t.all.length = t.stem.length + t.loop.length := by unfold Trace.all; simp
  by_cases hs : 1 ≤ t.loop.length ∧ t.stem.length + t.loop.length ≤ 8000
  · have kn := concat_new t.stem t.loop (by omega) (by omega)
    have k1 := implPath_ok g hg t.all (by unfold maxLen; omega)
    by_cases hb : pathB g t.all = true
    · obtain ⟨x, y, p0, row, F⟩ := trF hg hs hb
      have c2 := containsInt_ok row F.rm y
      have hx := F.hx
      have gp := F.gp
      have gx := F.gx
      have gl := F.gl
      have gr := F.gr
      rw [hb] at k1
      rw [F.e]
      unfold Trace.all at *
      refine z62 z79 Try.func15 rfl rfl 52 Try.ntmps15 (by simp) ?_
      repeat' (first | ((fail_if_success apply stopAt 5); (fail_if_success apply stopAtS 5); apply AWP.go ok; rfl; conv => whnf) | (apply z37; kernel_rfl; conv => whnf) | (apply And.intro; (first | omega | (unfold inI; omega) | (dsimp only; omega) | (unfold z47; omega) | ((try dsimp only); simp only [List.length_map, List.length_take, List.length_append, List.length_replicate, List.length_cons, List.length_nil]; omega) | (simp only [z58] at *; first | omega | (unfold inI; omega) | (unfold z47; omega)) | exact z6 (fun _ => rfl) | exact ⟨rfl, z14 rfl z20⟩ | exact ⟨rfl, z6 (fun _ => rfl) _⟩ | exact ⟨⟨rfl, by omega⟩, z6 (fun _ => rfl) _⟩); conv => whnf) | (with_reducible apply z9; omega; intro _; conv => whnf) | (with_reducible apply z21; omega; intro _; conv => whnf) | (apply z9; omega; intro _; conv => whnf) | (apply z22; omega; conv => whnf) | (apply z32; conv => whnf) | (apply z31; omega; intro _; conv => whnf) | (apply z30 <;> intro _ <;> conv => whnf) | (apply z19 <;> intro _ <;> conv => whnf) | (apply z29 <;> intro _ <;> conv => whnf) | (apply z45 <;> intro _ <;> conv => whnf) | (apply z17 <;> intro _ <;> conv => whnf) | (apply z13 <;> intro _ <;> conv => whnf) | (apply z18 <;> intro _ <;> conv => whnf) | (apply z28 <;> intro _ <;> conv => whnf) | (apply z23 [] [2] [3] (kn); (focus (exact z97 (bor_list rfl rfl rfl rfl rfl) z124)); (focus ((repeat' (first | exact z12 | apply z11)) <;> (first | rfl | (refine z15 rfl ?_; (first | exact z8 | exact z4 rfl | exact z5 (fun _ => rfl) | exact z5 Tree.co_flat | (apply z7 <;> (first | exact z4 rfl | exact z5 (fun _ => rfl))) | assumption))))); rfl; rfl; rfl; rfl; rfl; (focus ((repeat' (first | exact z64 | apply z63)) <;> (first | exact z66 | exact z77 rfl rfl | (refine z65 ?_; (first | exact z8 | exact z4 rfl | exact z5 (fun _ => rfl) | exact z5 Tree.co_flat | (apply z7 <;> (first | exact z4 rfl | exact z5 (fun _ => rfl))) | assumption))))); (first | exact .inl rfl | (refine .inr ⟨rfl, ?_⟩; repeat' (first | exact True.intro | apply And.intro | exact rfl | exact z48 (fun _ => rfl) _))); conv => whnf))
      all_goals first | (exfalso; omega) | skip
      refine AWP.reach (SealL.reach (π := [0, 1]) (Bn := [3]) (env := [(2, .ptr 0 none 0), (3, .ptr 1 none 0), (5, .int t.loop.length), (6, ints (t.stem ++ t.loop))]) (objs := [.cells 2 [[lst 2 State.cs g.st, lst 1 encL g.nx]], .cells 2 [[ints t.stem, ints t.loop]]]) ⟨rfl, rfl, by simp, rfl, fun o ho => by simp at ho; rcases ho with rfl | rfl <;> rfl, ⟨rfl, rfl, rfl, bor_intsN rfl rfl rfl (by simp), trivial⟩, rfl⟩) ?_
      conv => whnf
      repeat' (first | (apply AWP.go ok; rfl; conv => whnf) | (apply z37; kernel_rfl; conv => whnf) | (refine z80 (i := x.toNat) rfl gr ?_; conv => whnf) | (refine z80 (i := t.loop.length - 1) (by omega) gx ?_; conv => whnf) | (refine z80 (i := 0) rfl gl ?_; conv => whnf) | (refine z80 (i := 0) rfl gp ?_; conv => whnf) | (apply And.intro; (first | omega | (unfold inI; omega) | (dsimp only; omega) | (unfold z47; omega) | ((try dsimp only); simp only [List.length_map, List.length_take, List.length_append, List.length_replicate, List.length_cons, List.length_nil]; omega) | (simp only [z58] at *; first | omega | (unfold inI; omega) | (unfold z47; omega)) | exact z6 (fun _ => rfl) | exact ⟨rfl, z14 rfl z20⟩ | exact ⟨rfl, z6 (fun _ => rfl) _⟩ | exact ⟨⟨rfl, by omega⟩, z6 (fun _ => rfl) _⟩); conv => whnf) | (with_reducible apply z9; omega; intro _; conv => whnf) | (with_reducible apply z21; omega; intro _; conv => whnf) | (apply z9; omega; intro _; conv => whnf) | (apply z22; omega; conv => whnf) | (apply z32; conv => whnf) | (apply z31; omega; intro _; conv => whnf) | (apply z30 <;> intro _ <;> conv => whnf) | (apply z19 <;> intro _ <;> conv => whnf) | (apply z29 <;> intro _ <;> conv => whnf) | (apply z45 <;> intro _ <;> conv => whnf) | (apply z17 <;> intro _ <;> conv => whnf) | (apply z13 <;> intro _ <;> conv => whnf) | (apply z18 <;> intro _ <;> conv => whnf) | (apply z28 <;> intro _ <;> conv => whnf) | (apply z34 (k1); rfl; rfl; conv => whnf) | (apply z34 (c2); rfl; rfl; conv => whnf))
      all_goals first | (exfalso; omega) | exact z76 rfl (by grind) | (exfalso; simp_all; done) | skip
    · have e : trB g t = false := by unfold trB; rw [(Bool.not_eq_true _).mp hb]; simp
      rw [(Bool.not_eq_true _).mp hb] at k1
      rw [e]
      unfold Trace.all at *
      refine z62 z79 Try.func15 rfl rfl 52 Try.ntmps15 (by simp) ?_
      repeat' (first | ((fail_if_success apply stopAt 5); (fail_if_success apply stopAtS 5); apply AWP.go ok; rfl; conv => whnf) | (apply z37; kernel_rfl; conv => whnf) | (apply And.intro; (first | omega | (unfold inI; omega) | (dsimp only; omega) | (unfold z47; omega) | ((try dsimp only); simp only [List.length_map, List.length_take, List.length_append, List.length_replicate, List.length_cons, List.length_nil]; omega) | (simp only [z58] at *; first | omega | (unfold inI; omega) | (unfold z47; omega)) | exact z6 (fun _ => rfl) | exact ⟨rfl, z14 rfl z20⟩ | exact ⟨rfl, z6 (fun _ => rfl) _⟩ | exact ⟨⟨rfl, by omega⟩, z6 (fun _ => rfl) _⟩); conv => whnf) | (with_reducible apply z9; omega; intro _; conv => whnf) | (with_reducible apply z21; omega; intro _; conv => whnf) | (apply z9; omega; intro _; conv => whnf) | (apply z22; omega; conv => whnf) | (apply z32; conv => whnf) | (apply z31; omega; intro _; conv => whnf) | (apply z30 <;> intro _ <;> conv => whnf) | (apply z19 <;> intro _ <;> conv => whnf) | (apply z29 <;> intro _ <;> conv => whnf) | (apply z45 <;> intro _ <;> conv => whnf) | (apply z17 <;> intro _ <;> conv => whnf) | (apply z13 <;> intro _ <;> conv => whnf) | (apply z18 <;> intro _ <;> conv => whnf) | (apply z28 <;> intro _ <;> conv => whnf) | (apply z23 [] [2] [3] (kn); (focus (exact z97 (bor_list rfl rfl rfl rfl rfl) z124)); (focus ((repeat' (first | exact z12 | apply z11)) <;> (first | rfl | (refine z15 rfl ?_; (first | exact z8 | exact z4 rfl | exact z5 (fun _ => rfl) | exact z5 Tree.co_flat | (apply z7 <;> (first | exact z4 rfl | exact z5 (fun _ => rfl))) | assumption))))); rfl; rfl; rfl; rfl; rfl; (focus ((repeat' (first | exact z64 | apply z63)) <;> (first | exact z66 | exact z77 rfl rfl | (refine z65 ?_; (first | exact z8 | exact z4 rfl | exact z5 (fun _ => rfl) | exact z5 Tree.co_flat | (apply z7 <;> (first | exact z4 rfl | exact z5 (fun _ => rfl))) | assumption))))); (first | exact .inl rfl | (refine .inr ⟨rfl, ?_⟩; repeat' (first | exact True.intro | apply And.intro | exact rfl | exact z48 (fun _ => rfl) _))); conv => whnf))
      all_goals first | (exfalso; omega) | skip
      refine AWP.reach (SealL.reach (π := [0, 1]) (Bn := [3]) (env := [(2, .ptr 0 none 0), (3, .ptr 1 none 0), (5, .int t.loop.length), (6, ints (t.stem ++ t.loop))]) (objs := [.cells 2 [[lst 2 State.cs g.st, lst 1 encL g.nx]], .cells 2 [[ints t.stem, ints t.loop]]]) ⟨rfl, rfl, by simp, rfl, fun o ho => by simp at ho; rcases ho with rfl | rfl <;> rfl, ⟨rfl, rfl, rfl, bor_intsN rfl rfl rfl (by simp), trivial⟩, rfl⟩) ?_
      conv => whnf
      repeat' (first | (apply AWP.go ok; rfl; conv => whnf) | (apply z37; kernel_rfl; conv => whnf) | (apply And.intro; (first | omega | (unfold inI; omega) | (dsimp only; omega) | (unfold z47; omega) | ((try dsimp only); simp only [List.length_map, List.length_take, List.length_append, List.length_replicate, List.length_cons, List.length_nil]; omega) | (simp only [z58] at *; first | omega | (unfold inI; omega) | (unfold z47; omega)) | exact z6 (fun _ => rfl) | exact ⟨rfl, z14 rfl z20⟩ | exact ⟨rfl, z6 (fun _ => rfl) _⟩ | exact ⟨⟨rfl, by omega⟩, z6 (fun _ => rfl) _⟩); conv => whnf) | (with_reducible apply z9; omega; intro _; conv => whnf) | (with_reducible apply z21; omega; intro _; conv => whnf) | (apply z9; omega; intro _; conv => whnf) | (apply z22; omega; conv => whnf) | (apply z32; conv => whnf) | (apply z31; omega; intro _; conv => whnf) | (apply z30 <;> intro _ <;> conv => whnf) | (apply z19 <;> intro _ <;> conv => whnf) | (apply z29 <;> intro _ <;> conv => whnf) | (apply z45 <;> intro _ <;> conv => whnf) | (apply z17 <;> intro _ <;> conv => whnf) | (apply z13 <;> intro _ <;> conv => whnf) | (apply z18 <;> intro _ <;> conv => whnf) | (apply z28 <;> intro _ <;> conv => whnf) | (apply z34 (k1); rfl; rfl; conv => whnf))
      all_goals first | (exfalso; omega) | exact z76 rfl rfl | (exfalso; simp_all; done) | skip
  · have e : trB g t = false := by unfold trB; rw [decide_eq_false hs]; simp
    rw [e]
    refine z62 z79 Try.func15 rfl rfl 52 Try.ntmps15 (by simp) ?_
    repeat' (first | (apply AWP.go ok; rfl; conv => whnf) | (apply z37; kernel_rfl; conv => whnf) | (apply And.intro; (first | omega | (unfold inI; omega) | (dsimp only; omega) | (unfold z47; omega) | ((try dsimp only); simp only [List.length_map, List.length_take, List.length_append, List.length_replicate, List.length_cons, List.length_nil]; omega) | (simp only [z58] at *; first | omega | (unfold inI; omega) | (unfold z47; omega)) | exact z6 (fun _ => rfl) | exact ⟨rfl, z14 rfl z20⟩ | exact ⟨rfl, z6 (fun _ => rfl) _⟩ | exact ⟨⟨rfl, by omega⟩, z6 (fun _ => rfl) _⟩); conv => whnf) | (with_reducible apply z9; omega; intro _; conv => whnf) | (with_reducible apply z21; omega; intro _; conv => whnf) | (apply z9; omega; intro _; conv => whnf) | (apply z22; omega; conv => whnf) | (apply z32; conv => whnf) | (apply z31; omega; intro _; conv => whnf) | (apply z30 <;> intro _ <;> conv => whnf) | (apply z19 <;> intro _ <;> conv => whnf) | (apply z29 <;> intro _ <;> conv => whnf) | (apply z45 <;> intro _ <;> conv => whnf) | (apply z17 <;> intro _ <;> conv => whnf) | (apply z13 <;> intro _ <;> conv => whnf) | (apply z18 <;> intro _ <;> conv => whnf) | (apply z28 <;> intro _ <;> conv => whnf))
    all_goals first | (exfalso; omega) | exact z76 rfl rfl | (exfalso; simp_all; done) | skip

set_option maxHeartbeats 1600000 in
theorem specTrace_ok (g : Graph) (hg : g.mx) (t : Trace) (h1 : t.stem.length ≤ 1048576) (h2 : t.loop.length ≤ 1048576) : CallsA Try.prog 35 [.agg g.cs, .agg t.cs] [] (.bool (trB g t)) [] := by
  have hal : t.all.length = t.stem.length + t.loop.length := by unfold Trace.all; simp
  have kc := keepI (l8All_new t h1 h2) hal
  have k1 := specPath_ok g hg t.all (by unfold maxLen; omega)
  by_cases hs : 1 ≤ t.loop.length ∧ t.stem.length + t.loop.length ≤ 8000
  · by_cases hb : pathB g t.all = true
    · obtain ⟨x, y, p0, row, F⟩ := trF hg hs hb
      have c2 := l4In_ok row F.rm y
      have hx := F.hx
      have gp := F.gp
      have ga := F.ga
      have gl := F.gl
      have gr := F.gr
      rw [hb] at k1
      rw [F.e]
      generalize t.all = p at *
      refine z62 z79 Try.func35 rfl rfl 44 Try.ntmps35 (by simp) ?_
      repeat' (first | (apply AWP.go ok; rfl; conv => whnf) | (apply z37; kernel_rfl; conv => whnf) | (refine z80 (i := x.toNat) rfl gr ?_; conv => whnf) | (refine z80 (i := p.length - 1) (by omega) ga ?_; conv => whnf) | (refine z80 (i := 0) rfl gl ?_; conv => whnf) | (refine z80 (i := 0) rfl gp ?_; conv => whnf) | (apply And.intro; (first | omega | (unfold inI; omega) | (dsimp only; omega) | (unfold z47; omega) | ((try dsimp only); simp only [List.length_map, List.length_take, List.length_append, List.length_replicate, List.length_cons, List.length_nil]; omega) | (simp only [z58] at *; first | omega | (unfold inI; omega) | (unfold z47; omega)) | exact z6 (fun _ => rfl) | exact ⟨rfl, z14 rfl z20⟩ | exact ⟨rfl, z6 (fun _ => rfl) _⟩ | exact ⟨⟨rfl, by omega⟩, z6 (fun _ => rfl) _⟩); conv => whnf) | (with_reducible apply z9; omega; intro _; conv => whnf) | (with_reducible apply z21; omega; intro _; conv => whnf) | (apply z9; omega; intro _; conv => whnf) | (apply z22; omega; conv => whnf) | (apply z32; conv => whnf) | (apply z31; omega; intro _; conv => whnf) | (apply z30 <;> intro _ <;> conv => whnf) | (apply z19 <;> intro _ <;> conv => whnf) | (apply z29 <;> intro _ <;> conv => whnf) | (apply z45 <;> intro _ <;> conv => whnf) | (apply z17 <;> intro _ <;> conv => whnf) | (apply z13 <;> intro _ <;> conv => whnf) | (apply z18 <;> intro _ <;> conv => whnf) | (apply z28 <;> intro _ <;> conv => whnf) | (apply z34 (kc); rfl; rfl; conv => whnf) | (apply z34 (k1); rfl; rfl; conv => whnf) | (apply z34 (c2); rfl; rfl; conv => whnf))
      all_goals first | (exfalso; omega) | exact z76 rfl (by grind) | (exfalso; simp_all; done) | skip
    · have e : trB g t = false := by unfold trB; rw [(Bool.not_eq_true _).mp hb]; simp
      have gp := map_at (l := t.all) (i := 0) (by omega)
      rw [(Bool.not_eq_true _).mp hb] at k1
      rw [e]
      generalize t.all[0]'(by omega) = p0 at *
      generalize t.all = p at *
      refine z62 z79 Try.func35 rfl rfl 44 Try.ntmps35 (by simp) ?_
      repeat' (first | (apply AWP.go ok; rfl; conv => whnf) | (apply z37; kernel_rfl; conv => whnf) | (refine z80 (i := 0) rfl gp ?_; conv => whnf) | (apply And.intro; (first | omega | (unfold inI; omega) | (dsimp only; omega) | (unfold z47; omega) | ((try dsimp only); simp only [List.length_map, List.length_take, List.length_append, List.length_replicate, List.length_cons, List.length_nil]; omega) | (simp only [z58] at *; first | omega | (unfold inI; omega) | (unfold z47; omega)) | exact z6 (fun _ => rfl) | exact ⟨rfl, z14 rfl z20⟩ | exact ⟨rfl, z6 (fun _ => rfl) _⟩ | exact ⟨⟨rfl, by omega⟩, z6 (fun _ => rfl) _⟩); conv => whnf) | (with_reducible apply z9; omega; intro _; conv => whnf) | (with_reducible apply z21; omega; intro _; conv => whnf) | (apply z9; omega; intro _; conv => whnf) | (apply z22; omega; conv => whnf) | (apply z32; conv => whnf) | (apply z31; omega; intro _; conv => whnf) | (apply z30 <;> intro _ <;> conv => whnf) | (apply z19 <;> intro _ <;> conv => whnf) | (apply z29 <;> intro _ <;> conv => whnf) | (apply z45 <;> intro _ <;> conv => whnf) | (apply z17 <;> intro _ <;> conv => whnf) | (apply z13 <;> intro _ <;> conv => whnf) | (apply z18 <;> intro _ <;> conv => whnf) | (apply z28 <;> intro _ <;> conv => whnf) | (apply z34 (kc); rfl; rfl; conv => whnf) | (apply z34 (k1); rfl; rfl; conv => whnf))
      all_goals first | (exfalso; omega) | exact z76 rfl rfl | (exfalso; simp_all; done) | skip
  · have e : trB g t = false := by unfold trB; rw [decide_eq_false hs]; simp
    rw [e]
    generalize t.all = p at *
    refine z62 z79 Try.func35 rfl rfl 44 Try.ntmps35 (by simp) ?_
    repeat' (first | (apply AWP.go ok; rfl; conv => whnf) | (apply z37; kernel_rfl; conv => whnf) | (apply And.intro; (first | omega | (unfold inI; omega) | (dsimp only; omega) | (unfold z47; omega) | ((try dsimp only); simp only [List.length_map, List.length_take, List.length_append, List.length_replicate, List.length_cons, List.length_nil]; omega) | (simp only [z58] at *; first | omega | (unfold inI; omega) | (unfold z47; omega)) | exact z6 (fun _ => rfl) | exact ⟨rfl, z14 rfl z20⟩ | exact ⟨rfl, z6 (fun _ => rfl) _⟩ | exact ⟨⟨rfl, by omega⟩, z6 (fun _ => rfl) _⟩); conv => whnf) | (with_reducible apply z9; omega; intro _; conv => whnf) | (with_reducible apply z21; omega; intro _; conv => whnf) | (apply z9; omega; intro _; conv => whnf) | (apply z22; omega; conv => whnf) | (apply z32; conv => whnf) | (apply z31; omega; intro _; conv => whnf) | (apply z30 <;> intro _ <;> conv => whnf) | (apply z19 <;> intro _ <;> conv => whnf) | (apply z29 <;> intro _ <;> conv => whnf) | (apply z45 <;> intro _ <;> conv => whnf) | (apply z17 <;> intro _ <;> conv => whnf) | (apply z13 <;> intro _ <;> conv => whnf) | (apply z18 <;> intro _ <;> conv => whnf) | (apply z28 <;> intro _ <;> conv => whnf) | (apply z34 (kc); rfl; rfl; conv => whnf))
    all_goals first | (exfalso; omega) | exact z76 rfl rfl | (exfalso; simp_all; done) | skip
end Go.Proofs.Ytkophaoifmofdaa

namespace Go.Proofs.Ytkophaoifmofdaa
open Go.Gl
attribute [local irreducible] z83 AWP z96 z107 z99

theorem l8Pick_ok (bl places : List Int) (hl : places.length ≤ 1048576) (hp : InN bl.length places) (hb : bl.length ≤ 1048576) : CallsA Try.prog 36 [ints bl, ints places] [] (ints (places.map (pick bl))) [] := by
  refine keepI (n := places.length) ?_ (by simp)
  have hpl : (places.map (pick bl)).length = places.length := by simp
  refine z62 z79 Try.func36 rfl rfl 25 Try.ntmps36 (by simp) ?_
  repeat' (first | (apply AWP.go ok; rfl; conv => whnf) | (apply z37; kernel_rfl; conv => whnf) | (apply And.intro; (first | omega | (unfold inI; omega) | (dsimp only; omega) | (unfold z47; omega) | ((try dsimp only); simp only [List.length_map, List.length_take, List.length_append, List.length_replicate, List.length_cons, List.length_nil]; omega) | (simp only [z58] at *; first | omega | (unfold inI; omega) | (unfold z47; omega)) | exact z6 (fun _ => rfl) | exact ⟨rfl, z14 rfl z20⟩ | exact ⟨rfl, z6 (fun _ => rfl) _⟩ | exact ⟨⟨rfl, by omega⟩, z6 (fun _ => rfl) _⟩); conv => whnf) | (with_reducible apply z9; omega; intro _; conv => whnf) | (with_reducible apply z21; omega; intro _; conv => whnf) | (apply z9; omega; intro _; conv => whnf) | (apply z22; omega; conv => whnf) | (apply z32; conv => whnf) | (apply z31; omega; intro _; conv => whnf) | (apply z30 <;> intro _ <;> conv => whnf) | (apply z19 <;> intro _ <;> conv => whnf) | (apply z29 <;> intro _ <;> conv => whnf) | (apply z45 <;> intro _ <;> conv => whnf) | (apply z17 <;> intro _ <;> conv => whnf) | (apply z13 <;> intro _ <;> conv => whnf) | (apply z18 <;> intro _ <;> conv => whnf) | (apply z28 <;> intro _ <;> conv => whnf))
  refine z138 (fun k : Nat => ([(0, ints bl), (1, ints places), (5, .sref 0 0 k), (6, .int k)], [.cells 1 (((places.map (pick bl)).take k).map enI)])) (fun k => k ≤ places.length) (fun k => places.length - k) 0 (by omega) ⟨[0], rfl, by decide, rfl, ⟨⟨rfl, rfl⟩, ⟨rfl, rfl⟩, ⟨rfl, rfl⟩, ⟨rfl, rfl⟩, trivial⟩, ⟨z82 rfl (z5 fun _ => rfl), trivial⟩⟩ ?_
  intro k hk
  have htl : (((places.map (pick bl)).take k).map enI).length = k := by simp; omega
  by_cases hkl : k < places.length
  · have hx := hp places[k] (List.getElem_mem _)
    have g0 := map_at (l := places) (i := k) hkl
    have g1 := map_at (l := bl) (i := places[k].toNat) (by omega)
    have hv : (places.map (pick bl))[k]'(by omega) = bl[places[k].toNat]'(by omega) := by
      simp only [List.getElem_map]; unfold pick; rw [z106 (by omega)]
    generalize bl[places[k].toNat]'(by omega) = v at *
    generalize places[k] = x at *
    repeat' (first | (apply AWP.go ok; rfl; conv => whnf) | (apply z37; kernel_rfl; conv => whnf) | (refine z80 (i := x.toNat) rfl g1 ?_; conv => whnf) | (refine z80 (i := k) rfl g0 ?_; conv => whnf) | (apply And.intro; (first | omega | (unfold inI; omega) | (dsimp only; omega) | (unfold z47; omega) | ((try dsimp only); simp only [List.length_map, List.length_take, List.length_append, List.length_replicate, List.length_cons, List.length_nil]; omega) | (simp only [z58] at *; first | omega | (unfold inI; omega) | (unfold z47; omega)) | exact z6 (fun _ => rfl) | exact ⟨rfl, z14 rfl z20⟩ | exact ⟨rfl, z6 (fun _ => rfl) _⟩ | exact ⟨⟨rfl, by omega⟩, z6 (fun _ => rfl) _⟩); conv => whnf) | (with_reducible apply z9; omega; intro _; conv => whnf) | (with_reducible apply z21; omega; intro _; conv => whnf) | (apply z9; omega; intro _; conv => whnf) | (apply z22; omega; conv => whnf) | (apply z32; conv => whnf) | (apply z31; omega; intro _; conv => whnf) | (apply z30 <;> intro _ <;> conv => whnf) | (apply z19 <;> intro _ <;> conv => whnf) | (apply z29 <;> intro _ <;> conv => whnf) | (apply z45 <;> intro _ <;> conv => whnf) | (apply z17 <;> intro _ <;> conv => whnf) | (apply z13 <;> intro _ <;> conv => whnf) | (apply z18 <;> intro _ <;> conv => whnf) | (apply z28 <;> intro _ <;> conv => whnf))
    all_goals first | (exfalso; omega) | skip
    all_goals
      refine z117 (k + 1) [2] (by omega) (by omega) ⟨rfl, by decide, rfl, ⟨⟨rfl, rfl⟩, ⟨rfl, rfl⟩, ⟨rfl, rfl⟩, ⟨rfl, rfl⟩, trivial⟩, ⟨z82 (cells_congr ?_) (z5 fun _ => rfl), trivial⟩⟩
      rw [List.take_of_length_le (by omega), List.take_succ_eq_append_getElem (by omega), List.map_append, hv]; rfl
  · repeat' (first | (apply AWP.go ok; rfl; conv => whnf) | (apply z37; kernel_rfl; conv => whnf) | (apply And.intro; (first | omega | (unfold inI; omega) | (dsimp only; omega) | (unfold z47; omega) | ((try dsimp only); simp only [List.length_map, List.length_take, List.length_append, List.length_replicate, List.length_cons, List.length_nil]; omega) | (simp only [z58] at *; first | omega | (unfold inI; omega) | (unfold z47; omega)) | exact z6 (fun _ => rfl) | exact ⟨rfl, z14 rfl z20⟩ | exact ⟨rfl, z6 (fun _ => rfl) _⟩ | exact ⟨⟨rfl, by omega⟩, z6 (fun _ => rfl) _⟩); conv => whnf) | (with_reducible apply z9; omega; intro _; conv => whnf) | (with_reducible apply z21; omega; intro _; conv => whnf) | (apply z9; omega; intro _; conv => whnf) | (apply z22; omega; conv => whnf) | (apply z32; conv => whnf) | (apply z31; omega; intro _; conv => whnf) | (apply z30 <;> intro _ <;> conv => whnf) | (apply z19 <;> intro _ <;> conv => whnf) | (apply z29 <;> intro _ <;> conv => whnf) | (apply z45 <;> intro _ <;> conv => whnf) | (apply z17 <;> intro _ <;> conv => whnf) | (apply z13 <;> intro _ <;> conv => whnf) | (apply z18 <;> intro _ <;> conv => whnf) | (apply z28 <;> intro _ <;> conv => whnf))
    all_goals first | (exfalso; omega) | skip
    obtain rfl : k = places.length := by omega
    exact z113 [0] (by decide) rfl rfl rfl ⟨z82 (cells_congr (by rw [List.take_of_length_le (by omega)])) (z5 fun _ => rfl), trivial⟩

def letB (l : List Int) : Bool := !(l.any fun n => !btw n 0 7)
theorem letters1_ok (n : Int) : CallsA Try.prog 95 [.int n] [] (.bool (!btw n 0 7)) [] := by
  refine z62 z79 Try.func95 rfl rfl 6 Try.ntmps95 (by simp) ?_
  repeat' (first | (apply AWP.go ok; rfl; conv => whnf) | (apply z37; kernel_rfl; conv => whnf) | (apply And.intro; (first | omega | (unfold inI; omega) | (dsimp only; omega) | (unfold z47; omega) | ((try dsimp only); simp only [List.length_map, List.length_take, List.length_append, List.length_replicate, List.length_cons, List.length_nil]; omega) | (simp only [z58] at *; first | omega | (unfold inI; omega) | (unfold z47; omega)) | exact z6 (fun _ => rfl) | exact ⟨rfl, z14 rfl z20⟩ | exact ⟨rfl, z6 (fun _ => rfl) _⟩ | exact ⟨⟨rfl, by omega⟩, z6 (fun _ => rfl) _⟩); conv => whnf) | (with_reducible apply z9; omega; intro _; conv => whnf) | (with_reducible apply z21; omega; intro _; conv => whnf) | (apply z9; omega; intro _; conv => whnf) | (apply z22; omega; conv => whnf) | (apply z32; conv => whnf) | (apply z31; omega; intro _; conv => whnf) | (apply z30 <;> intro _ <;> conv => whnf) | (apply z19 <;> intro _ <;> conv => whnf) | (apply z29 <;> intro _ <;> conv => whnf) | (apply z45 <;> intro _ <;> conv => whnf) | (apply z17 <;> intro _ <;> conv => whnf) | (apply z13 <;> intro _ <;> conv => whnf) | (apply z18 <;> intro _ <;> conv => whnf) | (apply z28 <;> intro _ <;> conv => whnf) | (apply z34 (in_ok n 0 7); rfl; rfl; conv => whnf))
  exact z76 rfl rfl
theorem letters_ok (l : List Int) (hl : l.length ≤ maxLen) : CallsA Try.prog 69 [ints l] [] (.bool (letB l)) [] := by
  have hk := containsFunc_int l hl (fun n => !btw n 0 7) 95 (fun x _ => letters1_ok x)
  refine z62 z79 Try.func69 rfl rfl 6 Try.ntmps69 (by simp) ?_
  repeat' (first | (apply AWP.go ok; rfl; conv => whnf) | (apply z37; kernel_rfl; conv => whnf) | (apply And.intro; (first | omega | (unfold inI; omega) | (dsimp only; omega) | (unfold z47; omega) | ((try dsimp only); simp only [List.length_map, List.length_take, List.length_append, List.length_replicate, List.length_cons, List.length_nil]; omega) | (simp only [z58] at *; first | omega | (unfold inI; omega) | (unfold z47; omega)) | exact z6 (fun _ => rfl) | exact ⟨rfl, z14 rfl z20⟩ | exact ⟨rfl, z6 (fun _ => rfl) _⟩ | exact ⟨⟨rfl, by omega⟩, z6 (fun _ => rfl) _⟩); conv => whnf) | (with_reducible apply z9; omega; intro _; conv => whnf) | (with_reducible apply z21; omega; intro _; conv => whnf) | (apply z9; omega; intro _; conv => whnf) | (apply z22; omega; conv => whnf) | (apply z32; conv => whnf) | (apply z31; omega; intro _; conv => whnf) | (apply z30 <;> intro _ <;> conv => whnf) | (apply z19 <;> intro _ <;> conv => whnf) | (apply z29 <;> intro _ <;> conv => whnf) | (apply z45 <;> intro _ <;> conv => whnf) | (apply z17 <;> intro _ <;> conv => whnf) | (apply z13 <;> intro _ <;> conv => whnf) | (apply z18 <;> intro _ <;> conv => whnf) | (apply z28 <;> intro _ <;> conv => whnf) | (apply z34 (hk); rfl; rfl; conv => whnf))
  exact z76 rfl rfl
theorem letB_false {l : List Int} {i : Nat} (hi : i < l.length) (h : ¬ (0 ≤ l[i] ∧ l[i] ≤ 7)) : letB l = false := by
  unfold letB
  have : (l.any fun n => !btw n 0 7) = true := by
    rw [List.any_eq_true]
    exact ⟨l[i], List.getElem_mem _, by rw [btw_no.2 h]; rfl⟩
  rw [this]; rfl
theorem letB_true {l : List Int} (h : ∀ i (hi : i < l.length), 0 ≤ l[i] ∧ l[i] ≤ 7) : letB l = true := by
  unfold letB
  have : (l.any fun n => !btw n 0 7) = false := by
    rw [List.any_eq_false]
    intro x hx
    obtain ⟨i, hi, rfl⟩ := List.mem_iff_getElem.1 hx
    rw [z58.2 (h i hi)]; simp
  rw [this]; rfl
theorem l6Letters_ok (l : List Int) (hl : l.length ≤ maxLen) : CallsA Try.prog 72 [ints l] [] (.bool (letB l)) [] := by
  unfold maxLen at hl
  refine z62 z79 Try.func72 rfl rfl 22 Try.ntmps72 (by simp) ?_
  repeat' (first | (apply AWP.go ok; rfl; conv => whnf) | (apply z37; kernel_rfl; conv => whnf) | (apply And.intro; (first | omega | (unfold inI; omega) | (dsimp only; omega) | (unfold z47; omega) | ((try dsimp only); simp only [List.length_map, List.length_take, List.length_append, List.length_replicate, List.length_cons, List.length_nil]; omega) | (simp only [z58] at *; first | omega | (unfold inI; omega) | (unfold z47; omega)) | exact z6 (fun _ => rfl) | exact ⟨rfl, z14 rfl z20⟩ | exact ⟨rfl, z6 (fun _ => rfl) _⟩ | exact ⟨⟨rfl, by omega⟩, z6 (fun _ => rfl) _⟩); conv => whnf) | (with_reducible apply z9; omega; intro _; conv => whnf) | (with_reducible apply z21; omega; intro _; conv => whnf) | (apply z9; omega; intro _; conv => whnf) | (apply z22; omega; conv => whnf) | (apply z32; conv => whnf) | (apply z31; omega; intro _; conv => whnf) | (apply z30 <;> intro _ <;> conv => whnf) | (apply z19 <;> intro _ <;> conv => whnf) | (apply z29 <;> intro _ <;> conv => whnf) | (apply z45 <;> intro _ <;> conv => whnf) | (apply z17 <;> intro _ <;> conv => whnf) | (apply z13 <;> intro _ <;> conv => whnf) | (apply z18 <;> intro _ <;> conv => whnf) | (apply z28 <;> intro _ <;> conv => whnf))
  refine z138 (fun k : Nat => ([(0, ints l), (3, .int k)], [])) (fun k => k ≤ l.length ∧ ∀ j (hj : j < l.length), j < k → 0 ≤ l[j] ∧ l[j] ≤ 7) (fun k => l.length - k) 0 ⟨by omega, fun j _ hj => by omega⟩ ⟨[], rfl, by decide, rfl, ⟨⟨rfl, rfl⟩, ⟨rfl, rfl⟩, trivial⟩, trivial⟩ ?_
  rintro k ⟨hk, hs⟩
  by_cases hkl : k < l.length
  · have g0 := map_at (l := l) (i := k) hkl
    have hf := letB_false (l := l) (i := k) hkl
    have hn : (0 ≤ l[k] ∧ l[k] ≤ 7) → ∀ j (hj : j < l.length), j < k + 1 → 0 ≤ l[j] ∧ l[j] ≤ 7 := fun h j hj hjk => by
      rcases Nat.lt_or_ge j k with h3 | h3
      · exact hs j hj h3
      · obtain rfl : j = k := by omega
        exact h
    generalize l[k] = x at *
    repeat' (first | (apply AWP.go ok; rfl; conv => whnf) | (apply z37; kernel_rfl; conv => whnf) | (refine z80 (i := k) rfl g0 ?_; conv => whnf) | (apply And.intro; (first | omega | (unfold inI; omega) | (dsimp only; omega) | (unfold z47; omega) | ((try dsimp only); simp only [List.length_map, List.length_take, List.length_append, List.length_replicate, List.length_cons, List.length_nil]; omega) | (simp only [z58] at *; first | omega | (unfold inI; omega) | (unfold z47; omega)) | exact z6 (fun _ => rfl) | exact ⟨rfl, z14 rfl z20⟩ | exact ⟨rfl, z6 (fun _ => rfl) _⟩ | exact ⟨⟨rfl, by omega⟩, z6 (fun _ => rfl) _⟩); conv => whnf) | (with_reducible apply z9; omega; intro _; conv => whnf) | (with_reducible apply z21; omega; intro _; conv => whnf) | (apply z9; omega; intro _; conv => whnf) | (apply z22; omega; conv => whnf) | (apply z32; conv => whnf) | (apply z31; omega; intro _; conv => whnf) | (apply z30 <;> intro _ <;> conv => whnf) | (apply z19 <;> intro _ <;> conv => whnf) | (apply z29 <;> intro _ <;> conv => whnf) | (apply z45 <;> intro _ <;> conv => whnf) | (apply z17 <;> intro _ <;> conv => whnf) | (apply z13 <;> intro _ <;> conv => whnf) | (apply z18 <;> intro _ <;> conv => whnf) | (apply z28 <;> intro _ <;> conv => whnf))
    all_goals first
      | (exfalso; omega)
      | exact z76 rfl (hf (by omega))
      | exact z117 (k + 1) [] ⟨by omega, hn (by omega)⟩ (by omega) ⟨rfl, by decide, rfl, ⟨⟨rfl, rfl⟩, ⟨rfl, rfl⟩, trivial⟩, trivial⟩
  · repeat' (first | (apply AWP.go ok; rfl; conv => whnf) | (apply z37; kernel_rfl; conv => whnf) | (apply And.intro; (first | omega | (unfold inI; omega) | (dsimp only; omega) | (unfold z47; omega) | ((try dsimp only); simp only [List.length_map, List.length_take, List.length_append, List.length_replicate, List.length_cons, List.length_nil]; omega) | (simp only [z58] at *; first | omega | (unfold inI; omega) | (unfold z47; omega)) | exact z6 (fun _ => rfl) | exact ⟨rfl, z14 rfl z20⟩ | exact ⟨rfl, z6 (fun _ => rfl) _⟩ | exact ⟨⟨rfl, by omega⟩, z6 (fun _ => rfl) _⟩); conv => whnf) | (with_reducible apply z9; omega; intro _; conv => whnf) | (with_reducible apply z21; omega; intro _; conv => whnf) | (apply z9; omega; intro _; conv => whnf) | (apply z22; omega; conv => whnf) | (apply z32; conv => whnf) | (apply z31; omega; intro _; conv => whnf) | (apply z30 <;> intro _ <;> conv => whnf) | (apply z19 <;> intro _ <;> conv => whnf) | (apply z29 <;> intro _ <;> conv => whnf) | (apply z45 <;> intro _ <;> conv => whnf) | (apply z17 <;> intro _ <;> conv => whnf) | (apply z13 <;> intro _ <;> conv => whnf) | (apply z18 <;> intro _ <;> conv => whnf) | (apply z28 <;> intro _ <;> conv => whnf))
    all_goals first | (exfalso; omega) | skip
    exact z76 rfl (letB_true fun i hi => hs i hi (by omega))

def lasB (t : Trace) : Bool := letB t.stem && (letB t.loop && (decide (t.stem.length ≤ 80) && btw t.loop.length 1 80))
theorem implLasso_ok (t : Trace) (h1 : t.stem.length ≤ maxLen) (h2 : t.loop.length ≤ maxLen) : CallsA Try.prog 34 [.agg t.cs] [] (.bool (lasB t)) [] := by
  have k1 := letters_ok t.stem h1
  have k2 := letters_ok t.loop h2
  have k3 := in_ok (t.loop.length : Int) 1 80
  unfold maxLen at h1 h2
  unfold lasB
  generalize letB t.stem = a at *
  generalize letB t.loop = b at *
  refine z62 z79 Try.func34 rfl rfl 23 Try.ntmps34 (by simp) ?_
  cases a <;> cases b
  all_goals
    repeat' (first | (apply AWP.go ok; rfl; conv => whnf) | (apply z37; kernel_rfl; conv => whnf) | (apply And.intro; (first | omega | (unfold inI; omega) | (dsimp only; omega) | (unfold z47; omega) | ((try dsimp only); simp only [List.length_map, List.length_take, List.length_append, List.length_replicate, List.length_cons, List.length_nil]; omega) | (simp only [z58] at *; first | omega | (unfold inI; omega) | (unfold z47; omega)) | exact z6 (fun _ => rfl) | exact ⟨rfl, z14 rfl z20⟩ | exact ⟨rfl, z6 (fun _ => rfl) _⟩ | exact ⟨⟨rfl, by omega⟩, z6 (fun _ => rfl) _⟩); conv => whnf) | (with_reducible apply z9; omega; intro _; conv => whnf) | (with_reducible apply z21; omega; intro _; conv => whnf) | (apply z9; omega; intro _; conv => whnf) | (apply z22; omega; conv => whnf) | (apply z32; conv => whnf) | (apply z31; omega; intro _; conv => whnf) | (apply z30 <;> intro _ <;> conv => whnf) | (apply z19 <;> intro _ <;> conv => whnf) | (apply z29 <;> intro _ <;> conv => whnf) | (apply z45 <;> intro _ <;> conv => whnf) | (apply z17 <;> intro _ <;> conv => whnf) | (apply z13 <;> intro _ <;> conv => whnf) | (apply z18 <;> intro _ <;> conv => whnf) | (apply z28 <;> intro _ <;> conv => whnf) | (apply z34 (k1); rfl; rfl; conv => whnf) | (apply z34 (k2); rfl; rfl; conv => whnf) | (apply z34 (k3); rfl; rfl; conv => whnf))
    all_goals first | (exfalso; omega) | exact z76 rfl rfl | exact z76 rfl (by grind) | skip
theorem specLasso_ok (t : Trace) (h1 : t.stem.length ≤ maxLen) (h2 : t.loop.length ≤ maxLen) : CallsA Try.prog 37 [.agg t.cs] [] (.bool (lasB t)) [] := by
  have k1 := l6Letters_ok t.stem h1
  have k2 := l6Letters_ok t.loop h2
  unfold maxLen at h1 h2
  unfold lasB
  generalize letB t.stem = a at *
  generalize letB t.loop = b at *
  refine z62 z79 Try.func37 rfl rfl 29 Try.ntmps37 (by simp) ?_
  cases a <;> cases b
  all_goals
    repeat' (first | (apply AWP.go ok; rfl; conv => whnf) | (apply z37; kernel_rfl; conv => whnf) | (apply And.intro; (first | omega | (unfold inI; omega) | (dsimp only; omega) | (unfold z47; omega) | ((try dsimp only); simp only [List.length_map, List.length_take, List.length_append, List.length_replicate, List.length_cons, List.length_nil]; omega) | (simp only [z58] at *; first | omega | (unfold inI; omega) | (unfold z47; omega)) | exact z6 (fun _ => rfl) | exact ⟨rfl, z14 rfl z20⟩ | exact ⟨rfl, z6 (fun _ => rfl) _⟩ | exact ⟨⟨rfl, by omega⟩, z6 (fun _ => rfl) _⟩); conv => whnf) | (with_reducible apply z9; omega; intro _; conv => whnf) | (with_reducible apply z21; omega; intro _; conv => whnf) | (apply z9; omega; intro _; conv => whnf) | (apply z22; omega; conv => whnf) | (apply z32; conv => whnf) | (apply z31; omega; intro _; conv => whnf) | (apply z30 <;> intro _ <;> conv => whnf) | (apply z19 <;> intro _ <;> conv => whnf) | (apply z29 <;> intro _ <;> conv => whnf) | (apply z45 <;> intro _ <;> conv => whnf) | (apply z17 <;> intro _ <;> conv => whnf) | (apply z13 <;> intro _ <;> conv => whnf) | (apply z18 <;> intro _ <;> conv => whnf) | (apply z28 <;> intro _ <;> conv => whnf) | (apply z34 (k1); rfl; rfl; conv => whnf) | (apply z34 (k2); rfl; rfl; conv => whnf))
    all_goals first | (exfalso; omega) | exact z76 rfl rfl | exact z76 rfl (by unfold btw; grind) | skip
end Go.Proofs.Ytkophaoifmofdaa

namespace Go.Proofs.Ytkophaoifmofdaa
open Go.Gl
attribute [local irreducible] z83 AWP z96 z107 z99

def wordT (L : List Int) (t : Trace) : Trace := ⟨t.stem.map (pick L), t.loop.map (pick L)⟩
noncomputable def twB (g : Graph) (l : List Tree) (t : Trace) : Bool := glB g l && (trB g t && lasB (wordT (g.st.map (z102 l)) t))
noncomputable def twT (g : Graph) (l : List Tree) (t : Trace) : Trace := if twB g l t then wordT (g.st.map (z102 l)) t else ⟨[], []⟩
theorem trB_in {g : Graph} {t : Trace} (h : trB g t = true) : InN g.st.length t.stem ∧ InN g.st.length t.loop ∧ t.stem.length + t.loop.length ≤ 8000 := by
  unfold trB at h
  rw [Bool.and_eq_true, Bool.and_eq_true, decide_eq_true_eq] at h
  have key : ∀ x ∈ t.all, 0 ≤ x ∧ x < g.st.length := fun x hx => by
    obtain ⟨i, hi, rfl⟩ := List.mem_iff_getElem.1 hx
    exact path_step h.2.1 i hi
  exact ⟨fun x hx => key x (List.mem_append_left _ hx), fun x hx => key x (List.mem_append_right _ hx), h.1.2⟩
theorem twT_le {g : Graph} {l : List Tree} {t : Trace} : (twT g l t).stem.length ≤ 80 ∧ (twT g l t).loop.length ≤ 80 := by
  unfold twT
  split
  · rename_i h
    unfold twB lasB at h
    simp only [Bool.and_eq_true, decide_eq_true_eq, z58] at h
    exact ⟨by omega, by omega⟩
  · simp

theorem agg2_nils {o p : Nat} {b : AC} : ACle (.tup [.agg [.nils, .nils], b]) (.tup [.agg [.sref o 0 0, .sref p 0 0], b]) := fun G hh v hv => by
  simp only [V, VL] at hv ⊢
  obtain ⟨c, rfl, hs, ⟨u, h1, c2, rfl, hs2, ⟨u1, h2, h3⟩, ⟨u2, h4, h5⟩, _⟩, hr⟩ := hv
  refine ⟨c, rfl, hs, ⟨_, h1, c2, rfl, hs2, ⟨u1, h2, ?_⟩, ⟨u2, h4, ?_⟩, trivial⟩, hr⟩
  · have := (nil_sref (o := o)) G hh u1 (by simpa [V] using h3)
    simpa [V] using this
  · have := (nil_sref (o := p)) G hh u2 (by simpa [V] using h5)
    simpa [V] using this

theorem nil2_le {b : AC} : ACle (.tup [.agg [.nils, .nils], b]) (.tup [.agg (Trace.mk [] []).cs, b]) := fun G hh v hv => by
  simp only [V, VL] at hv ⊢
  obtain ⟨c, rfl, hs, ⟨u, h1, c2, rfl, hs2, ⟨u1, h2, h3⟩, ⟨u2, h4, h5⟩, _⟩, hr⟩ := hv
  exact ⟨c, rfl, hs, ⟨_, h1, c2, rfl, hs2, ⟨u1, h2, nils_le G hh u1 (by simpa [V] using h3)⟩, ⟨u2, h4, nils_le G hh u2 (by simpa [V] using h5)⟩, trivial⟩, hr⟩

set_option maxHeartbeats 1600000 in
theorem implTraceWord_new (g : Graph) (hg : g.mx) (l : List Tree) (hl : Lmx l) (t : Trace) (h1 : t.stem.length ≤ 1048576) (h2 : t.loop.length ≤ 1048576) : CallsA Try.prog 12 [.agg g.cs, lst 3 Tree.cs' l, .agg t.cs] [] (.tup [.agg [.sref 0 0 (twT g l t).stem.length, .sref 1 0 (twT g l t).loop.length], .bool (twB g l t)]) [.cells 1 ((twT g l t).stem.map enI), .cells 1 ((twT g l t).loop.map enI)] := by
  have k1 := implTrace_ok g hg t h1 h2
  have k2 := labelsValid_ok l hl.1 hl.2
  by_cases hv : (trB g t && labelsB l) = true
  · obtain ⟨ht, hlb⟩ := Bool.and_eq_true_iff.1 hv
    have hgb : z142 g = true := by
      unfold trB at ht
      rw [Bool.and_eq_true, Bool.and_eq_true] at ht
      exact path_graph ht.2.1
    have hG := (z119 g).1 hgb
    have hL := LabelsOk.of hlb
    have k3 := label_ok g hG.vals hG.1.2 l hL
    obtain ⟨i1, i2, i3⟩ := trB_in ht
    have hLl : (g.st.map (z102 l)).length = g.st.length := by simp
    have h60 := hG.1.2
    have hglb : glB g l = true := by unfold glB; rw [hgb, hlb]; rfl
    have eb : twB g l t = lasB (wordT (g.st.map (z102 l)) t) := by unfold twB; rw [hglb, ht]; rfl
    have et : twT g l t = if lasB (wordT (g.st.map (z102 l)) t) then wordT (g.st.map (z102 l)) t else ⟨[], []⟩ := by unfold twT; rw [eb]
    rw [eb, et]
    generalize g.st.map (z102 l) = L at *
    have kp1 := picked_new L t.stem h1 (by rw [hLl]; exact i1) (by omega)
    have kp2 := picked_new L t.loop h2 (by rw [hLl]; exact i2) (by omega)
    have hw1 : (wordT L t).stem.length = t.stem.length := by simp [wordT]
    have hw2 : (wordT L t).loop.length = t.loop.length := by simp [wordT]
    have kl := implLasso_ok (wordT L t) (by unfold maxLen; omega) (by unfold maxLen; omega)
    have e1 : t.stem.map (pick L) = (wordT L t).stem := rfl
    have e2 : t.loop.map (pick L) = (wordT L t).loop := rfl
    rw [e1, ← hw1] at kp1
    rw [e2, ← hw2] at kp2
    rw [ht] at k1
    rw [hlb] at k2
    generalize hW : wordT L t = W at *
    by_cases hb : lasB W = true
    · rw [hb] at kl ⊢
      rw [if_pos rfl]
      refine z62 z79 Try.func12 rfl rfl 37 Try.ntmps12 (by simp) ?_
      repeat' (first | (apply AWP.go ok; rfl; conv => whnf) | (apply z37; kernel_rfl; conv => whnf) | (apply And.intro; (first | omega | (unfold inI; omega) | (dsimp only; omega) | (unfold z47; omega) | ((try dsimp only); simp only [List.length_map, List.length_take, List.length_append, List.length_replicate, List.length_cons, List.length_nil]; omega) | (simp only [z58] at *; first | omega | (unfold inI; omega) | (unfold z47; omega)) | exact z6 (fun _ => rfl) | exact ⟨rfl, z14 rfl z20⟩ | exact ⟨rfl, z6 (fun _ => rfl) _⟩ | exact ⟨⟨rfl, by omega⟩, z6 (fun _ => rfl) _⟩); conv => whnf) | (with_reducible apply z9; omega; intro _; conv => whnf) | (with_reducible apply z21; omega; intro _; conv => whnf) | (apply z9; omega; intro _; conv => whnf) | (apply z22; omega; conv => whnf) | (apply z32; conv => whnf) | (apply z31; omega; intro _; conv => whnf) | (apply z30 <;> intro _ <;> conv => whnf) | (apply z19 <;> intro _ <;> conv => whnf) | (apply z29 <;> intro _ <;> conv => whnf) | (apply z45 <;> intro _ <;> conv => whnf) | (apply z17 <;> intro _ <;> conv => whnf) | (apply z13 <;> intro _ <;> conv => whnf) | (apply z18 <;> intro _ <;> conv => whnf) | (apply z28 <;> intro _ <;> conv => whnf) | (apply z34 (k1); rfl; rfl; conv => whnf) | (apply z34 (k2); rfl; rfl; conv => whnf) | (apply z34 (k3); rfl; rfl; conv => whnf) | (apply z23 [] [] [3] (kp1); rfl; (focus ((repeat' (first | exact z12 | apply z11)) <;> (first | rfl | (refine z15 rfl ?_; (first | exact z8 | exact z4 rfl | exact z5 (fun _ => rfl) | exact z5 Tree.co_flat | (apply z7 <;> (first | exact z4 rfl | exact z5 (fun _ => rfl))) | assumption))))); rfl; rfl; rfl; rfl; rfl; (focus ((repeat' (first | exact z64 | apply z63)) <;> (first | exact z66 | exact z77 rfl rfl | (refine z65 ?_; (first | exact z8 | exact z4 rfl | exact z5 (fun _ => rfl) | exact z5 Tree.co_flat | (apply z7 <;> (first | exact z4 rfl | exact z5 (fun _ => rfl))) | assumption))))); (first | exact .inl rfl | (refine .inr ⟨rfl, ?_⟩; repeat' (first | exact True.intro | apply And.intro | exact rfl | exact z48 (fun _ => rfl) _))); conv => whnf) | (apply z23 [] [] [4] (kp2); rfl; (focus ((repeat' (first | exact z12 | apply z11)) <;> (first | rfl | (refine z15 rfl ?_; (first | exact z8 | exact z4 rfl | exact z5 (fun _ => rfl) | exact z5 Tree.co_flat | (apply z7 <;> (first | exact z4 rfl | exact z5 (fun _ => rfl))) | assumption))))); rfl; rfl; rfl; rfl; rfl; (focus ((repeat' (first | exact z64 | apply z63)) <;> (first | exact z66 | exact z77 rfl rfl | (refine z65 ?_; (first | exact z8 | exact z4 rfl | exact z5 (fun _ => rfl) | exact z5 Tree.co_flat | (apply z7 <;> (first | exact z4 rfl | exact z5 (fun _ => rfl))) | assumption))))); (first | exact .inl rfl | (refine .inr ⟨rfl, ?_⟩; repeat' (first | exact True.intro | apply And.intro | exact rfl | exact z48 (fun _ => rfl) _))); conv => whnf) | (apply z23 [] [3, 4] [] (kl); (focus (exact z97 (bor_agg (z97 (bor_ints rfl rfl rfl) (z97 (bor_ints rfl rfl rfl) z124))) z124)); (focus ((repeat' (first | exact z12 | apply z11)) <;> (first | rfl | (refine z15 rfl ?_; (first | exact z8 | exact z4 rfl | exact z5 (fun _ => rfl) | exact z5 Tree.co_flat | (apply z7 <;> (first | exact z4 rfl | exact z5 (fun _ => rfl))) | assumption))))); rfl; rfl; rfl; rfl; rfl; (focus ((repeat' (first | exact z64 | apply z63)) <;> (first | exact z66 | exact z77 rfl rfl | (refine z65 ?_; (first | exact z8 | exact z4 rfl | exact z5 (fun _ => rfl) | exact z5 Tree.co_flat | (apply z7 <;> (first | exact z4 rfl | exact z5 (fun _ => rfl))) | assumption))))); (first | exact .inl rfl | (refine .inr ⟨rfl, ?_⟩; repeat' (first | exact True.intro | apply And.intro | exact rfl | exact z48 (fun _ => rfl) _))); conv => whnf))
      all_goals first | (exfalso; omega) | (exfalso; simp_all; done) | skip
      all_goals exact z113 [3, 4] (by decide) rfl rfl rfl ⟨z82 rfl (z5 fun _ => rfl), z82 rfl (z5 fun _ => rfl), trivial⟩
    · rw [(Bool.not_eq_true _).mp hb] at kl ⊢
      rw [if_neg (by simp)]
      refine CallsA.nils (res := .tup [.agg [.nils, .nils], .bool false]) ?_ (by simp) agg2_nils
      refine z62 z79 Try.func12 rfl rfl 37 Try.ntmps12 (by simp) ?_
      repeat' (first | (apply AWP.go ok; rfl; conv => whnf) | (apply z37; kernel_rfl; conv => whnf) | (apply And.intro; (first | omega | (unfold inI; omega) | (dsimp only; omega) | (unfold z47; omega) | ((try dsimp only); simp only [List.length_map, List.length_take, List.length_append, List.length_replicate, List.length_cons, List.length_nil]; omega) | (simp only [z58] at *; first | omega | (unfold inI; omega) | (unfold z47; omega)) | exact z6 (fun _ => rfl) | exact ⟨rfl, z14 rfl z20⟩ | exact ⟨rfl, z6 (fun _ => rfl) _⟩ | exact ⟨⟨rfl, by omega⟩, z6 (fun _ => rfl) _⟩); conv => whnf) | (with_reducible apply z9; omega; intro _; conv => whnf) | (with_reducible apply z21; omega; intro _; conv => whnf) | (apply z9; omega; intro _; conv => whnf) | (apply z22; omega; conv => whnf) | (apply z32; conv => whnf) | (apply z31; omega; intro _; conv => whnf) | (apply z30 <;> intro _ <;> conv => whnf) | (apply z19 <;> intro _ <;> conv => whnf) | (apply z29 <;> intro _ <;> conv => whnf) | (apply z45 <;> intro _ <;> conv => whnf) | (apply z17 <;> intro _ <;> conv => whnf) | (apply z13 <;> intro _ <;> conv => whnf) | (apply z18 <;> intro _ <;> conv => whnf) | (apply z28 <;> intro _ <;> conv => whnf) | (apply z34 (k1); rfl; rfl; conv => whnf) | (apply z34 (k2); rfl; rfl; conv => whnf) | (apply z34 (k3); rfl; rfl; conv => whnf) | (apply z23 [] [] [3] (kp1); rfl; (focus ((repeat' (first | exact z12 | apply z11)) <;> (first | rfl | (refine z15 rfl ?_; (first | exact z8 | exact z4 rfl | exact z5 (fun _ => rfl) | exact z5 Tree.co_flat | (apply z7 <;> (first | exact z4 rfl | exact z5 (fun _ => rfl))) | assumption))))); rfl; rfl; rfl; rfl; rfl; (focus ((repeat' (first | exact z64 | apply z63)) <;> (first | exact z66 | exact z77 rfl rfl | (refine z65 ?_; (first | exact z8 | exact z4 rfl | exact z5 (fun _ => rfl) | exact z5 Tree.co_flat | (apply z7 <;> (first | exact z4 rfl | exact z5 (fun _ => rfl))) | assumption))))); (first | exact .inl rfl | (refine .inr ⟨rfl, ?_⟩; repeat' (first | exact True.intro | apply And.intro | exact rfl | exact z48 (fun _ => rfl) _))); conv => whnf) | (apply z23 [] [] [4] (kp2); rfl; (focus ((repeat' (first | exact z12 | apply z11)) <;> (first | rfl | (refine z15 rfl ?_; (first | exact z8 | exact z4 rfl | exact z5 (fun _ => rfl) | exact z5 Tree.co_flat | (apply z7 <;> (first | exact z4 rfl | exact z5 (fun _ => rfl))) | assumption))))); rfl; rfl; rfl; rfl; rfl; (focus ((repeat' (first | exact z64 | apply z63)) <;> (first | exact z66 | exact z77 rfl rfl | (refine z65 ?_; (first | exact z8 | exact z4 rfl | exact z5 (fun _ => rfl) | exact z5 Tree.co_flat | (apply z7 <;> (first | exact z4 rfl | exact z5 (fun _ => rfl))) | assumption))))); (first | exact .inl rfl | (refine .inr ⟨rfl, ?_⟩; repeat' (first | exact True.intro | apply And.intro | exact rfl | exact z48 (fun _ => rfl) _))); conv => whnf) | (apply z23 [] [3, 4] [] (kl); (focus (exact z97 (bor_agg (z97 (bor_ints rfl rfl rfl) (z97 (bor_ints rfl rfl rfl) z124))) z124)); (focus ((repeat' (first | exact z12 | apply z11)) <;> (first | rfl | (refine z15 rfl ?_; (first | exact z8 | exact z4 rfl | exact z5 (fun _ => rfl) | exact z5 Tree.co_flat | (apply z7 <;> (first | exact z4 rfl | exact z5 (fun _ => rfl))) | assumption))))); rfl; rfl; rfl; rfl; rfl; (focus ((repeat' (first | exact z64 | apply z63)) <;> (first | exact z66 | exact z77 rfl rfl | (refine z65 ?_; (first | exact z8 | exact z4 rfl | exact z5 (fun _ => rfl) | exact z5 Tree.co_flat | (apply z7 <;> (first | exact z4 rfl | exact z5 (fun _ => rfl))) | assumption))))); (first | exact .inl rfl | (refine .inr ⟨rfl, ?_⟩; repeat' (first | exact True.intro | apply And.intro | exact rfl | exact z48 (fun _ => rfl) _))); conv => whnf))
      all_goals first | (exfalso; omega) | exact z85 rfl rfl rfl | (exfalso; simp_all; done) | skip
  · have hv := (Bool.not_eq_true _).mp hv
    have eb : twB g l t = false := by
      unfold twB glB
      revert hv
      cases trB g t <;> cases labelsB l <;> cases z142 g <;> simp
    have et : twT g l t = ⟨[], []⟩ := by unfold twT; rw [eb]; rfl
    rw [eb, et]
    generalize trB g t = b1 at *
    generalize labelsB l = b2 at *
    refine CallsA.nils (res := .tup [.agg [.nils, .nils], .bool false]) ?_ (by simp) agg2_nils
    refine z62 z79 Try.func12 rfl rfl 37 Try.ntmps12 (by simp) ?_
    cases b1 <;> cases b2 <;> first | (exfalso; revert hv; decide) | skip
    all_goals
      repeat' (first | (apply AWP.go ok; rfl; conv => whnf) | (apply z37; kernel_rfl; conv => whnf) | (apply And.intro; (first | omega | (unfold inI; omega) | (dsimp only; omega) | (unfold z47; omega) | ((try dsimp only); simp only [List.length_map, List.length_take, List.length_append, List.length_replicate, List.length_cons, List.length_nil]; omega) | (simp only [z58] at *; first | omega | (unfold inI; omega) | (unfold z47; omega)) | exact z6 (fun _ => rfl) | exact ⟨rfl, z14 rfl z20⟩ | exact ⟨rfl, z6 (fun _ => rfl) _⟩ | exact ⟨⟨rfl, by omega⟩, z6 (fun _ => rfl) _⟩); conv => whnf) | (with_reducible apply z9; omega; intro _; conv => whnf) | (with_reducible apply z21; omega; intro _; conv => whnf) | (apply z9; omega; intro _; conv => whnf) | (apply z22; omega; conv => whnf) | (apply z32; conv => whnf) | (apply z31; omega; intro _; conv => whnf) | (apply z30 <;> intro _ <;> conv => whnf) | (apply z19 <;> intro _ <;> conv => whnf) | (apply z29 <;> intro _ <;> conv => whnf) | (apply z45 <;> intro _ <;> conv => whnf) | (apply z17 <;> intro _ <;> conv => whnf) | (apply z13 <;> intro _ <;> conv => whnf) | (apply z18 <;> intro _ <;> conv => whnf) | (apply z28 <;> intro _ <;> conv => whnf) | (apply z34 (k1); rfl; rfl; conv => whnf) | (apply z34 (k2); rfl; rfl; conv => whnf))
      all_goals first | (exfalso; omega) | exact z85 rfl rfl rfl | (exfalso; simp_all; done) | skip

set_option maxHeartbeats 1600000 in
theorem specTraceWord_ok (g : Graph) (hg : g.mx) (l : List Tree) (hl : Lmx l) (t : Trace) (h1 : t.stem.length ≤ 1048576) (h2 : t.loop.length ≤ 1048576) : CallsA Try.prog 13 [.agg g.cs, lst 3 Tree.cs' l, .agg t.cs] [] (.tup [.agg (twT g l t).cs, .bool (twB g l t)]) [] := by
  have k0 := specLabelGraph_ok g hg l hl
  have k1 := specTrace_ok g hg t h1 h2
  by_cases hv : (glB g l && trB g t) = true
  · obtain ⟨hglb, ht⟩ := Bool.and_eq_true_iff.1 hv
    have hgb : z142 g = true := by unfold glB at hglb; exact (Bool.and_eq_true_iff.1 hglb).1
    have hG := (z119 g).1 hgb
    obtain ⟨i1, i2, i3⟩ := trB_in ht
    have hLl : (g.st.map (z102 l)).length = g.st.length := by simp
    have h60 := hG.1.2
    have eb : twB g l t = lasB (wordT (g.st.map (z102 l)) t) := by unfold twB; rw [hglb, ht]; rfl
    have et : twT g l t = if lasB (wordT (g.st.map (z102 l)) t) then wordT (g.st.map (z102 l)) t else ⟨[], []⟩ := by unfold twT; rw [eb]
    rw [if_pos hglb, hglb] at k0
    rw [ht] at k1
    rw [eb, et]
    generalize g.st.map (z102 l) = L at *
    have kp1 := l8Pick_ok L t.stem h1 (by rw [hLl]; exact i1) (by omega)
    have kp2 := l8Pick_ok L t.loop h2 (by rw [hLl]; exact i2) (by omega)
    have hw1 : (wordT L t).stem.length = t.stem.length := by simp [wordT]
    have hw2 : (wordT L t).loop.length = t.loop.length := by simp [wordT]
    have kl := specLasso_ok (wordT L t) (by unfold maxLen; omega) (by unfold maxLen; omega)
    have e1 : t.stem.map (pick L) = (wordT L t).stem := rfl
    have e2 : t.loop.map (pick L) = (wordT L t).loop := rfl
    rw [e1] at kp1
    rw [e2] at kp2
    generalize hW : wordT L t = W at *
    generalize hq : lasB W = q at *
    refine z62 z79 Try.func13 rfl rfl 40 Try.ntmps13 (by simp) ?_
    cases q
    · rw [if_neg (by simp)]
      repeat' (first | (apply AWP.go ok; rfl; conv => whnf) | (apply z37; kernel_rfl; conv => whnf) | (apply And.intro; (first | omega | (unfold inI; omega) | (dsimp only; omega) | (unfold z47; omega) | ((try dsimp only); simp only [List.length_map, List.length_take, List.length_append, List.length_replicate, List.length_cons, List.length_nil]; omega) | (simp only [z58] at *; first | omega | (unfold inI; omega) | (unfold z47; omega)) | exact z6 (fun _ => rfl) | exact ⟨rfl, z14 rfl z20⟩ | exact ⟨rfl, z6 (fun _ => rfl) _⟩ | exact ⟨⟨rfl, by omega⟩, z6 (fun _ => rfl) _⟩); conv => whnf) | (with_reducible apply z9; omega; intro _; conv => whnf) | (with_reducible apply z21; omega; intro _; conv => whnf) | (apply z9; omega; intro _; conv => whnf) | (apply z22; omega; conv => whnf) | (apply z32; conv => whnf) | (apply z31; omega; intro _; conv => whnf) | (apply z30 <;> intro _ <;> conv => whnf) | (apply z19 <;> intro _ <;> conv => whnf) | (apply z29 <;> intro _ <;> conv => whnf) | (apply z45 <;> intro _ <;> conv => whnf) | (apply z17 <;> intro _ <;> conv => whnf) | (apply z13 <;> intro _ <;> conv => whnf) | (apply z18 <;> intro _ <;> conv => whnf) | (apply z28 <;> intro _ <;> conv => whnf) | (apply z34 (k0); rfl; rfl; conv => whnf) | (apply z34 (k1); rfl; rfl; conv => whnf) | (apply z34 (kp1); rfl; rfl; conv => whnf) | (apply z34 (kp2); rfl; rfl; conv => whnf) | (apply z34 (kl); rfl; rfl; conv => whnf))
      all_goals first | (exfalso; omega) | exact z85 rfl rfl rfl | exact ret_le rfl rfl nil2_le | (exfalso; simp_all; done) | skip
    · rw [if_pos rfl]
      repeat' (first | (apply AWP.go ok; rfl; conv => whnf) | (apply z37; kernel_rfl; conv => whnf) | (apply And.intro; (first | omega | (unfold inI; omega) | (dsimp only; omega) | (unfold z47; omega) | ((try dsimp only); simp only [List.length_map, List.length_take, List.length_append, List.length_replicate, List.length_cons, List.length_nil]; omega) | (simp only [z58] at *; first | omega | (unfold inI; omega) | (unfold z47; omega)) | exact z6 (fun _ => rfl) | exact ⟨rfl, z14 rfl z20⟩ | exact ⟨rfl, z6 (fun _ => rfl) _⟩ | exact ⟨⟨rfl, by omega⟩, z6 (fun _ => rfl) _⟩); conv => whnf) | (with_reducible apply z9; omega; intro _; conv => whnf) | (with_reducible apply z21; omega; intro _; conv => whnf) | (apply z9; omega; intro _; conv => whnf) | (apply z22; omega; conv => whnf) | (apply z32; conv => whnf) | (apply z31; omega; intro _; conv => whnf) | (apply z30 <;> intro _ <;> conv => whnf) | (apply z19 <;> intro _ <;> conv => whnf) | (apply z29 <;> intro _ <;> conv => whnf) | (apply z45 <;> intro _ <;> conv => whnf) | (apply z17 <;> intro _ <;> conv => whnf) | (apply z13 <;> intro _ <;> conv => whnf) | (apply z18 <;> intro _ <;> conv => whnf) | (apply z28 <;> intro _ <;> conv => whnf) | (apply z34 (k0); rfl; rfl; conv => whnf) | (apply z34 (k1); rfl; rfl; conv => whnf) | (apply z34 (kp1); rfl; rfl; conv => whnf) | (apply z34 (kp2); rfl; rfl; conv => whnf) | (apply z34 (kl); rfl; rfl; conv => whnf))
      all_goals first | (exfalso; omega) | exact z85 rfl rfl rfl | (exfalso; simp_all; done) | skip
  · have hv := (Bool.not_eq_true _).mp hv
    have eb : twB g l t = false := by
      unfold twB
      revert hv
      cases trB g t <;> cases glB g l <;> simp
    have et : twT g l t = ⟨[], []⟩ := by unfold twT; rw [eb]; rfl
    rw [eb, et]
    generalize trB g t = b1 at *
    generalize glB g l = b2 at *
    refine z62 z79 Try.func13 rfl rfl 40 Try.ntmps13 (by simp) ?_
    cases b1 <;> cases b2 <;> first | (exfalso; revert hv; decide) | skip
    all_goals
      repeat' (first | (apply AWP.go ok; rfl; conv => whnf) | (apply z37; kernel_rfl; conv => whnf) | (apply And.intro; (first | omega | (unfold inI; omega) | (dsimp only; omega) | (unfold z47; omega) | ((try dsimp only); simp only [List.length_map, List.length_take, List.length_append, List.length_replicate, List.length_cons, List.length_nil]; omega) | (simp only [z58] at *; first | omega | (unfold inI; omega) | (unfold z47; omega)) | exact z6 (fun _ => rfl) | exact ⟨rfl, z14 rfl z20⟩ | exact ⟨rfl, z6 (fun _ => rfl) _⟩ | exact ⟨⟨rfl, by omega⟩, z6 (fun _ => rfl) _⟩); conv => whnf) | (with_reducible apply z9; omega; intro _; conv => whnf) | (with_reducible apply z21; omega; intro _; conv => whnf) | (apply z9; omega; intro _; conv => whnf) | (apply z22; omega; conv => whnf) | (apply z32; conv => whnf) | (apply z31; omega; intro _; conv => whnf) | (apply z30 <;> intro _ <;> conv => whnf) | (apply z19 <;> intro _ <;> conv => whnf) | (apply z29 <;> intro _ <;> conv => whnf) | (apply z45 <;> intro _ <;> conv => whnf) | (apply z17 <;> intro _ <;> conv => whnf) | (apply z13 <;> intro _ <;> conv => whnf) | (apply z18 <;> intro _ <;> conv => whnf) | (apply z28 <;> intro _ <;> conv => whnf) | (apply z34 (k0); rfl; rfl; conv => whnf) | (apply z34 (k1); rfl; rfl; conv => whnf))
      all_goals first | (exfalso; omega) | exact z85 rfl rfl rfl | exact ret_le rfl rfl nil2_le | (exfalso; simp_all; done) | skip
end Go.Proofs.Ytkophaoifmofdaa

