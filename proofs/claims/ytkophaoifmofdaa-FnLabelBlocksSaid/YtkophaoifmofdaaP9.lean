/- A part of the proofs over this program: T70. -/
import Derived.Test.YtkophaoifmofdaaG0
import Derived.Test.YtkophaoifmofdaaG1
import Derived.Test.YtkophaoifmofdaaG2
import Derived.Test.YtkophaoifmofdaaP0
import Derived.Test.YtkophaoifmofdaaP1
import Derived.Test.YtkophaoifmofdaaP2
import Derived.Test.YtkophaoifmofdaaP3
import Derived.Test.YtkophaoifmofdaaP7
set_option linter.all false
namespace Go.Proofs.Ytkophaoifmofdaa
open Go.Gl
attribute [local irreducible] vcCall AWP RetOk Again ordOk

/-! the source of the drawn arguments -/
def enU (n : Int) : List AC := [.raw (.int .u8 n)]
def rdO (bs : List Int) (p : Int) : AObj := .cells 2 [[lst 1 enU bs, .int p]]
structure BytesOk (bs : List Int) : Prop where
  len : bs.length ≤ 2000
  el : ∀ x ∈ bs, 0 ≤ x ∧ x ≤ 255
theorem u_at {l : List Int} {i : Nat} (h : i < l.length) : (l.map enU)[i]? = some (enU l[i]) := by rw [List.getElem?_map, List.getElem?_eq_getElem h]; rfl
theorem rem_at {l : List Int} {i : Int} (h : 0 < l.length) (h0 : 0 ≤ i) : (i % (l.length : Int)).toNat < l.length := by
  have := Int.emod_lt_of_pos i (show (0 : Int) < l.length by omega)
  have := Int.emod_nonneg i (show (l.length : Int) ≠ 0 by omega)
  omega

set_option maxHeartbeats 1600000 in
theorem pick_ok (bs : List Int) (hb : BytesOk bs) (p n : Int) (h0 : 0 ≤ p) (h1 : p ≤ 1000000000) (hn : n ≤ 1000000000) : ∃ v : Int, (0 ≤ v ∧ (1 ≤ n → v < n)) ∧ CallsA Try.prog 47 [.ptr 0 none 0, .int n] [rdO bs p] (.int v) [rdO bs (p + 1)] := by
  have hlen := hb.len
  by_cases hz : n < 1 ∨ bs.length = 0
  · refine ⟨0, ⟨by omega, fun _ => by omega⟩, ?_⟩
    refine callsA_of tabOk Try.func47 rfl rfl 99 Try.ntmps47 (by simp) ?_
    repeat' (first | (apply AWP.go ok; rfl; conv => whnf) | (apply ord_mk; kernel_rfl; conv => whnf) | (apply And.intro; (first | omega | (unfold inI; omega) | (dsimp only; omega) | (unfold bitsOk; omega) | ((try dsimp only); simp only [List.length_map, List.length_take, List.length_append, List.length_replicate, List.length_cons, List.length_nil]; omega) | (simp only [btw_iff] at *; first | omega | (unfold inI; omega) | (unfold bitsOk; omega)) | exact stor_map (fun _ => rfl) | exact ⟨rfl, stor_cons rfl stor_nil⟩ | exact ⟨rfl, stor_map (fun _ => rfl) _⟩ | exact ⟨⟨rfl, by omega⟩, stor_map (fun _ => rfl) _⟩); conv => whnf) | (with_reducible apply get_mapN; omega; intro _; conv => whnf) | (with_reducible apply get_mapI; omega; intro _; conv => whnf) | (apply get_mapN; omega; intro _; conv => whnf) | (apply get_fill; omega; conv => whnf) | (apply ex_some; conv => whnf) | (apply get_map; omega; intro _; conv => whnf) | (apply vcG_dec <;> intro _ <;> conv => whnf) | (apply vcG_ndec <;> intro _ <;> conv => whnf) | (apply vcG_not <;> intro _ <;> conv => whnf) | (apply vcG_mk <;> intro _ <;> conv => whnf) | (apply vcIf_dec <;> intro _ <;> conv => whnf) | (apply vcIf_ndec <;> intro _ <;> conv => whnf) | (apply vcIf_not <;> intro _ <;> conv => whnf) | (apply vcIf_mk <;> intro _ <;> conv => whnf))
    all_goals first | (exfalso; omega) | exact ret_objs [0] (by decide) rfl rfl rfl ⟨obj_box rfl rfl, trivial⟩
  by_cases hk : p < bs.length
  · have hp : (p + 1 - 1).toNat < bs.length := by omega
    have g0 := u_at (l := bs) (i := (p + 1 - 1).toNat) hp
    have hr := hb.el bs[(p + 1 - 1).toNat] (List.getElem_mem _)
    generalize bs[(p + 1 - 1).toNat] = b at *
    have hw : IntKind.i64.wrap b = b := IntWalk.i64_in _ (by omega)
    refine ⟨b % n, ⟨Int.emod_nonneg _ (by omega), fun _ => Int.emod_lt_of_pos _ (by omega)⟩, ?_⟩
    refine callsA_of tabOk Try.func47 rfl rfl 99 Try.ntmps47 (by simp) ?_
    repeat' (first | (apply AWP.go ok; rfl; conv => whnf) | (apply ord_mk; kernel_rfl; conv => whnf) | (refine get_eq (i := (p + 1 - 1).toNat) rfl g0 ?_; conv => whnf) | (apply And.intro; (first | omega | (unfold inI; omega) | (dsimp only; omega) | (unfold bitsOk; omega) | ((try dsimp only); simp only [List.length_map, List.length_take, List.length_append, List.length_replicate, List.length_cons, List.length_nil]; omega) | (simp only [btw_iff] at *; first | omega | (unfold inI; omega) | (unfold bitsOk; omega)) | exact stor_map (fun _ => rfl) | exact ⟨rfl, stor_cons rfl stor_nil⟩ | exact ⟨rfl, stor_map (fun _ => rfl) _⟩ | exact ⟨⟨rfl, by omega⟩, stor_map (fun _ => rfl) _⟩); conv => whnf) | (with_reducible apply get_mapN; omega; intro _; conv => whnf) | (with_reducible apply get_mapI; omega; intro _; conv => whnf) | (apply get_mapN; omega; intro _; conv => whnf) | (apply get_fill; omega; conv => whnf) | (apply ex_some; conv => whnf) | (apply get_map; omega; intro _; conv => whnf) | (apply vcG_dec <;> intro _ <;> conv => whnf) | (apply vcG_ndec <;> intro _ <;> conv => whnf) | (apply vcG_not <;> intro _ <;> conv => whnf) | (apply vcG_mk <;> intro _ <;> conv => whnf) | (apply vcIf_dec <;> intro _ <;> conv => whnf) | (apply vcIf_ndec <;> intro _ <;> conv => whnf) | (apply vcIf_not <;> intro _ <;> conv => whnf) | (apply vcIf_mk <;> intro _ <;> conv => whnf))
    all_goals first | (exfalso; omega) | exact ret_objs [0] (by decide) rfl rfl rfl ⟨obj_box rfl rfl, trivial⟩
  have hl0 : 0 < bs.length := by omega
  have m1 := rem_at (l := bs) (i := p + 1 - 1) hl0 (by omega)
  have m2 := rem_at (l := bs) (i := (p + 1 - 1) * 7 + 3) hl0 (by omega)
  have g1 := u_at m1
  have g2 := u_at m2
  have r1 := hb.el bs[((p + 1 - 1) % (bs.length : Int)).toNat] (List.getElem_mem _)
  have r2 := hb.el bs[(((p + 1 - 1) * 7 + 3) % (bs.length : Int)).toNat] (List.getElem_mem _)
  generalize bs[((p + 1 - 1) % (bs.length : Int)).toNat] = b1 at *
  generalize bs[(((p + 1 - 1) * 7 + 3) % (bs.length : Int)).toNat] = b2 at *
  have w1 : IntKind.i64.wrap b1 = b1 := IntWalk.i64_in _ (by omega)
  have w2 : IntKind.i64.wrap b2 = b2 := IntWalk.i64_in _ (by omega)
  have n1 := Int.emod_nonneg (p + 1 - 1) (show (bs.length : Int) ≠ 0 by omega)
  have n2 := Int.emod_nonneg ((p + 1 - 1) * 7 + 3) (show (bs.length : Int) ≠ 0 by omega)
  have l1 := Int.emod_lt_of_pos (p + 1 - 1) (show (0 : Int) < bs.length by omega)
  have l2 := Int.emod_lt_of_pos ((p + 1 - 1) * 7 + 3) (show (0 : Int) < bs.length by omega)
  have q0 : 0 ≤ (p + 1 - 1) / (bs.length : Int) := Int.ediv_nonneg (by omega) (by omega)
  have q1 : (p + 1 - 1) / (bs.length : Int) ≤ p + 1 - 1 := Int.ediv_le_self _ (by omega)
  have hx0 : 0 ≤ b1 * 131 + b2 * 1117 + (p + 1 - 1) * 29 + (p + 1 - 1) / (bs.length : Int) * 53 := by omega
  have hx1 : b1 * 131 + b2 * 1117 + (p + 1 - 1) * 29 + (p + 1 - 1) / (bs.length : Int) * 53 ≤ 1000000000000 := by omega
  have hq : 0 ≤ (b1 * 131 + b2 * 1117 + (p + 1 - 1) * 29 + (p + 1 - 1) / (bs.length : Int) * 53) / 64 ∧ (b1 * 131 + b2 * 1117 + (p + 1 - 1) * 29 + (p + 1 - 1) / (bs.length : Int) * 53) / 64 ≤ 1000000000000 := by omega
  refine ⟨(((b1 * 131 + b2 * 1117 + (p + 1 - 1) * 29 + (p + 1 - 1) / (bs.length : Int) * 53).toNat ^^^ ((b1 * 131 + b2 * 1117 + (p + 1 - 1) * 29 + (p + 1 - 1) / (bs.length : Int) * 53) / 64).toNat : Nat) : Int) % n, ⟨Int.emod_nonneg _ (by omega), fun _ => Int.emod_lt_of_pos _ (by omega)⟩, ?_⟩
  refine callsA_of tabOk Try.func47 rfl rfl 99 Try.ntmps47 (by simp) ?_
  repeat' (first | (apply AWP.go ok; rfl; conv => whnf) | (apply ord_mk; kernel_rfl; conv => whnf) | (refine get_eq (i := (((p + 1 - 1) * 7 + 3) % (bs.length : Int)).toNat) rfl g2 ?_; conv => whnf) | (refine get_eq (i := ((p + 1 - 1) % (bs.length : Int)).toNat) rfl g1 ?_; conv => whnf) | (apply And.intro; (first | omega | (unfold inI; omega) | (dsimp only; omega) | (unfold bitsOk; omega) | ((try dsimp only); simp only [List.length_map, List.length_take, List.length_append, List.length_replicate, List.length_cons, List.length_nil]; omega) | (simp only [btw_iff] at *; first | omega | (unfold inI; omega) | (unfold bitsOk; omega)) | exact stor_map (fun _ => rfl) | exact ⟨rfl, stor_cons rfl stor_nil⟩ | exact ⟨rfl, stor_map (fun _ => rfl) _⟩ | exact ⟨⟨rfl, by omega⟩, stor_map (fun _ => rfl) _⟩); conv => whnf) | (with_reducible apply get_mapN; omega; intro _; conv => whnf) | (with_reducible apply get_mapI; omega; intro _; conv => whnf) | (apply get_mapN; omega; intro _; conv => whnf) | (apply get_fill; omega; conv => whnf) | (apply ex_some; conv => whnf) | (apply get_map; omega; intro _; conv => whnf) | (apply vcG_dec <;> intro _ <;> conv => whnf) | (apply vcG_ndec <;> intro _ <;> conv => whnf) | (apply vcG_not <;> intro _ <;> conv => whnf) | (apply vcG_mk <;> intro _ <;> conv => whnf) | (apply vcIf_dec <;> intro _ <;> conv => whnf) | (apply vcIf_ndec <;> intro _ <;> conv => whnf) | (apply vcIf_not <;> intro _ <;> conv => whnf) | (apply vcIf_mk <;> intro _ <;> conv => whnf))
  all_goals first | (exfalso; omega) | exact ret_objs [0] (by decide) rfl rfl rfl ⟨obj_box rfl rfl, trivial⟩ | skip

theorem l16Open_ok (bs : List Int) (hl : bs.length ≤ maxLen) : CallsA Try.prog 20 [lst 1 enU bs] [] (.ptr 0 none 0) [rdO (bs.take 2000) 0] := by
  unfold maxLen at hl
  refine callsA_of tabOk Try.func20 rfl rfl 11 Try.ntmps20 (by simp) ?_
  by_cases h : bs.length ≤ 2000
  · rw [List.take_of_length_le h]
    repeat' (first | (apply AWP.go ok; rfl; conv => whnf) | (apply ord_mk; kernel_rfl; conv => whnf) | (apply And.intro; (first | omega | (unfold inI; omega) | (dsimp only; omega) | (unfold bitsOk; omega) | ((try dsimp only); simp only [List.length_map, List.length_take, List.length_append, List.length_replicate, List.length_cons, List.length_nil]; omega) | (simp only [btw_iff] at *; first | omega | (unfold inI; omega) | (unfold bitsOk; omega)) | exact stor_map (fun _ => rfl) | exact ⟨rfl, stor_cons rfl stor_nil⟩ | exact ⟨rfl, stor_map (fun _ => rfl) _⟩ | exact ⟨⟨rfl, by omega⟩, stor_map (fun _ => rfl) _⟩); conv => whnf) | (with_reducible apply get_mapN; omega; intro _; conv => whnf) | (with_reducible apply get_mapI; omega; intro _; conv => whnf) | (apply get_mapN; omega; intro _; conv => whnf) | (apply get_fill; omega; conv => whnf) | (apply ex_some; conv => whnf) | (apply get_map; omega; intro _; conv => whnf) | (apply vcG_dec <;> intro _ <;> conv => whnf) | (apply vcG_ndec <;> intro _ <;> conv => whnf) | (apply vcG_not <;> intro _ <;> conv => whnf) | (apply vcG_mk <;> intro _ <;> conv => whnf) | (apply vcIf_dec <;> intro _ <;> conv => whnf) | (apply vcIf_ndec <;> intro _ <;> conv => whnf) | (apply vcIf_not <;> intro _ <;> conv => whnf) | (apply vcIf_mk <;> intro _ <;> conv => whnf))
    all_goals first | (exfalso; omega) | exact ret_objs [0] (by decide) rfl rfl rfl ⟨obj_box rfl rfl, trivial⟩ | skip
  · repeat' (first | (apply AWP.go ok; rfl; conv => whnf) | (apply ord_mk; kernel_rfl; conv => whnf) | (apply And.intro; (first | omega | (unfold inI; omega) | (dsimp only; omega) | (unfold bitsOk; omega) | ((try dsimp only); simp only [List.length_map, List.length_take, List.length_append, List.length_replicate, List.length_cons, List.length_nil]; omega) | (simp only [btw_iff] at *; first | omega | (unfold inI; omega) | (unfold bitsOk; omega)) | exact stor_map (fun _ => rfl) | exact ⟨rfl, stor_cons rfl stor_nil⟩ | exact ⟨rfl, stor_map (fun _ => rfl) _⟩ | exact ⟨⟨rfl, by omega⟩, stor_map (fun _ => rfl) _⟩); conv => whnf) | (with_reducible apply get_mapN; omega; intro _; conv => whnf) | (with_reducible apply get_mapI; omega; intro _; conv => whnf) | (apply get_mapN; omega; intro _; conv => whnf) | (apply get_fill; omega; conv => whnf) | (apply ex_some; conv => whnf) | (apply get_map; omega; intro _; conv => whnf) | (apply vcG_dec <;> intro _ <;> conv => whnf) | (apply vcG_ndec <;> intro _ <;> conv => whnf) | (apply vcG_not <;> intro _ <;> conv => whnf) | (apply vcG_mk <;> intro _ <;> conv => whnf) | (apply vcIf_dec <;> intro _ <;> conv => whnf) | (apply vcIf_ndec <;> intro _ <;> conv => whnf) | (apply vcIf_not <;> intro _ <;> conv => whnf) | (apply vcIf_mk <;> intro _ <;> conv => whnf))
    all_goals first | (exfalso; omega) | skip
    all_goals exact ret_objs [0] (by decide) rfl rfl rfl ⟨obj_box rfl (congrArg (fun x => AObj.cells 2 [[x, AC.int 0]]) (slice_take 1 enU bs 2000 (by omega))), trivial⟩
end Go.Proofs.Ytkophaoifmofdaa

