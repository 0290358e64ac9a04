/- A part of the proofs over this program: T23, T23R, T23S, T35A, T70, T71, T72, T73, T74, T75, T75K, T75M, T81, T82, T83. -/
import Derived.Test.YtknlmbniicacmaaGreatG0
import Derived.Test.YtknlmbniicacmaaGreatG1
import Derived.Test.YtknlmbniicacmaaGreatG2
import Derived.Test.YtknlmbniicacmaaGreatG3
import Derived.Test.YtknlmbniicacmaaGreatP0
set_option linter.all false
namespace Go.Proofs.YtknlmbniicacmaaGreat
open Go.Gl
attribute [local irreducible] z35 AWP z65 z78 z74

/-- an empty slice that is data, is a slice of no elements, nil or not -/
theorem calls_empty {P : Program} {f : FuncId} {w : Nat} {res : AC} {objs' : List AObj} (hf : IsFunc P f) (h : ∀ a cap, CallsA P f [.raw (.slice a 0 cap)] [] res objs') : CallsA P f [.list w 0 []] [] res objs' := by
  refine ⟨hf, fun G W vs hW hs hv => ?_⟩
  simp only [VL] at hv
  obtain ⟨⟨v, hv1, hv2⟩, _⟩ := hv
  simp only [V] at hv2
  obtain ⟨a, cap, rfl, _⟩ := hv2
  exact (h a cap).2 G W vs hW hs (by simp only [VL]; exact ⟨⟨_, hv1, by simp [V]⟩, trivial⟩)

theorem nils_le {w : Nat} : ACle .nils (.list w 0 []) := fun G h v hv => by
  simp only [V] at hv ⊢
  exact ⟨none, 0, hv, Nat.le_refl _, rfl, .inl trivial⟩

theorem sref_le {o off w : Nat} : ACle (.sref o off 0) (.list w 0 []) := fun G h v hv => by
  simp only [V] at hv ⊢
  obtain ⟨cap, _, ⟨rfl, a, rfl⟩ | ⟨b, size, w', _, _, rfl⟩⟩ := hv
  · exact ⟨_, _, rfl, Nat.le_refl _, rfl, .inl trivial⟩
  · exact ⟨_, _, rfl, Nat.zero_le _, rfl, .inl trivial⟩
theorem isFunc_of {P : Program} {f : FuncId} {fn : Func} {c : Code} (hf : P.funcs[f]? = some fn) (hb : fn.body = some c) (hn : (fn.name == "runtime.NumGoroutine") = false) : IsFunc P f := ⟨fn, c, hf, hn, hb⟩

theorem clone_full (l : List Int) (hl : l.length ≤ 1048576) (hp : 0 < l.length) : CallsA Tryz.prog 215 [ints l] [] (.sref 0 0 l.length) [.cells 1 (l.map enI)] := by
  refine z14 z26 Tryz.func215 rfl rfl 8 Tryz.ntmps215 (by simp) ?_
  repeat' (first | (apply AWP.go ok; rfl; conv => whnf) | (apply And.intro; (first | omega | (dsimp only; omega) | exact z16 (fun _ => rfl)); conv => whnf))
  exact ret_newN rfl (z12 fun _ => rfl) (Nat.zero_add _) rfl rfl
theorem cloneInt_ok (l : List Int) (hl : l.length ≤ 1048576) : CallsA Tryz.prog 215 [ints l] [] (ints l) [] := by
  by_cases hp : 0 < l.length
  · have h := (clone_full l hl hp).keep (z136 _ _) (by simp)
    exact h
  · obtain rfl : l = [] := List.eq_nil_of_length_eq_zero (by omega)
    refine calls_empty (isFunc_of Tryz.func215 rfl (by rfl)) fun ad cap => ?_
    refine z14 z26 Tryz.func215 rfl rfl 8 Tryz.ntmps215 (by simp) ?_
    repeat' (first | (apply AWP.go ok; rfl; conv => whnf) | (apply And.intro; (omega); conv => whnf) | (apply z55 <;> intro _ <;> conv => whnf))
    · exact ret_le rfl rfl nils_le
    · exact ret_le rfl rfl sref_le
theorem clipInt_ok (l : List Int) (hl : l.length ≤ 1048576) : CallsA Tryz.prog 100 [ints l] [] (ints l) [] := by
  refine z14 z26 Tryz.func100 rfl rfl 9 Tryz.ntmps100 (by simp) ?_
  repeat' (first | (apply AWP.go ok; rfl; conv => whnf) | (apply And.intro; (omega); conv => whnf))
  refine z57 rfl rfl ?_
  show AC.list 1 _ _ = ints l
  rw [show AC.list 1 ((l.length : Int).toNat - (0 : Int).toNat) (((l.map enI).drop (0 : Int).toNat).take ((l.length : Int).toNat - (0 : Int).toNat)) = _ from slice_take 1 enI l l.length (Nat.le_refl _), List.take_length]
  rfl
theorem implClone_ok (l : List Int) (hl : l.length ≤ 1048576) : CallsA Tryz.prog 161 [ints l] [] (ints l) [] := by
  refine z14 z26 Tryz.func161 rfl rfl 6 Tryz.ntmps161 (by simp) ?_
  repeat' (first | (apply AWP.go ok; rfl; conv => whnf) | (apply z11 (cloneInt_ok l hl); rfl; rfl; conv => whnf) | (apply z11 (clipInt_ok l hl); rfl; rfl; conv => whnf))
  exact z57 rfl rfl rfl

theorem tup_le2 {x x' y : AC} (h : ACle x x') : ACle (.tup [x, y]) (.tup [x', y]) := fun G hh v hv => by
  simp only [V, VL] at hv ⊢
  obtain ⟨c, rfl, hc, ⟨v1, h1, h2⟩, h3, _⟩ := hv
  exact ⟨c, rfl, hc, ⟨v1, h1, h _ _ _ h2⟩, h3, trivial⟩
/-- are the graph and the labels valid? -/
noncomputable def glB (g : Graph) (l : List Tree) : Bool := z125 g && labelsB l
theorem valsOk_of {l : List Int} (h : valsB l = true) : ValsOk l := by
  unfold valsB at h
  rw [Bool.and_eq_true, decide_eq_true_eq, Bool.not_eq_true', List.any_eq_false] at h
  exact ⟨by omega, fun x hx => by simpa [z52] using h.2 x hx⟩
theorem GB.vals {g : Graph} (h : GB g) : ∀ s ∈ g.st, ValsOk s.b := fun s hs => by
  obtain ⟨i, hi, rfl⟩ := List.mem_iff_getElem.1 hs
  exact valsOk_of (h.2.2 i (by have := h.2.1; omega) (by have := h.2.1; omega) hi).2.2.1

def Lmx (l : List Tree) : Prop := l.length ≤ maxLen ∧ ∀ t ∈ l, t.mx
theorem specLabelGraph_ok (g : Graph) (hg : g.mx) (l : List Tree) (hl : Lmx l) : CallsA Tryz.prog 80 [.agg g.cs, lst 3 Tree.cs' l] [] (.tup [ints (if glB g l then g.st.map (z63 l) else []), .bool (glB g l)]) [] := by
  refine z14 z26 Tryz.func80 rfl rfl 18 Tryz.ntmps80 (by simp) ?_
  have k1 := z121 g hg
  have k2 := specLabelsValid_ok l hl.1 hl.2
  have k3 := fun (h1 : z125 g = true) (h2 : labelsB l = true) => l8Letters_ok g ((z90 g).1 h1).vals ((z90 g).1 h1).1.2 l (LabelsOk.of h2)
  repeat' (first | (apply AWP.go ok; rfl; conv => whnf) | (apply z39 <;> intro _ <;> conv => whnf) | (apply z11 (k1); rfl; rfl; conv => whnf) | (apply z11 (k2); rfl; rfl; conv => whnf) | (apply z11 (k3 (by assumption) (by assumption)); rfl; rfl; conv => whnf))
  · rename_i h
    have e : glB g l = false := by unfold glB; rw [h]; rfl
    rw [e]
    exact ret_le rfl rfl (tup_le2 sref_le)
  · rename_i h1 h2
    have e : glB g l = false := by unfold glB; rw [h1, h2]; rfl
    rw [e]
    exact ret_le rfl rfl (tup_le2 sref_le)
  · rename_i h1 h2
    have e : glB g l = true := by unfold glB; rw [h1, h2]; rfl
    rw [e]
    exact z57 rfl rfl rfl

end Go.Proofs.YtknlmbniicacmaaGreat

namespace Go.Proofs.YtknlmbniicacmaaGreat
open Go.Gl
attribute [local irreducible] z35 AWP z65 z78 z74

theorem rows_unown (l : List (List Int)) : z67 (l.map ownRow) = l.map encL := by
  rw [unownLL_eq, List.map_map]
  refine List.map_congr_left fun r _ => ?_
  show [AC.list 1 _ (z67 _)] = _
  rw [z136]
  simp [encL, ints, enI]
end Go.Proofs.YtknlmbniicacmaaGreat

namespace Go.Proofs.YtknlmbniicacmaaGreat
open Go.Gl
attribute [local irreducible] z35 AWP z65 z78 z74

theorem tup_sref {x x' y : AC} (h : ACle x x') : ACle (.tup [x, y]) (.tup [x', y]) := fun G hh v hv => by
  simp only [V, VL] at hv ⊢
  obtain ⟨c, rfl, hs, ⟨u, h1, h2⟩, h3, _⟩ := hv
  exact ⟨c, rfl, hs, ⟨u, h1, h _ _ _ h2⟩, h3, trivial⟩

end Go.Proofs.YtknlmbniicacmaaGreat

namespace Go.Proofs.YtknlmbniicacmaaGreat
open Go.Gl
attribute [local irreducible] z35 AWP z65 z78 z74

/-- an input within the law's bounds -/
structure Graph.ok (g : Graph) : Prop where
  mx : g.mx
  st : g.st.length ≤ 1048576
  nx : g.nx.length ≤ 1048576
  states : ∀ s ∈ g.st, s.small
  rows : ∀ r ∈ g.nx, r.length ≤ 1048576
  sumS : (g.st.map State.sz).sum ≤ 1048576
  sumN : (g.nx.map List.length).sum ≤ 1048576
theorem Graph.ok_of {g : Graph} (hg : g.mx) (h1 : g.s1 ≤ 1048576) (h2 : g.s2 ≤ 1048576) : g.ok := by
  unfold Graph.s1 tot at h1
  unfold Graph.s2 tot at h2
  refine ⟨hg, by omega, by omega, fun s hs => ?_, fun r hr => ?_, by omega, by omega⟩
  · have := le_sum State.sz hs
    unfold State.sz at this h1
    exact ⟨by omega, by omega⟩
  · have := le_sum List.length hr; omega
structure LabOk (l : List Tree) : Prop where
  mx : Lmx l
  len : l.length ≤ 1048576
  el : ∀ t ∈ l, t.sz ≤ 1048576
  sum : (l.map Tree.sz).sum ≤ 1048576
theorem LabOk.of {l : List Tree} (hl : Lmx l) (h : tot Tree.sz l ≤ 1048576) : LabOk l := by
  unfold tot at h
  exact ⟨hl, by omega, fun t ht => by have := le_sum Tree.sz ht; omega, by omega⟩

end Go.Proofs.YtknlmbniicacmaaGreat

namespace Go.Proofs.YtknlmbniicacmaaGreat
open Go.Gl
attribute [local irreducible] z35 AWP z65 z78 z74

/-! the source of the drawn arguments -/
def enU (n : Int) : List AC := [.raw (.int .u8 n)]
def rdO (bs : List Int) (p : Int) : AObj := .cells 2 [[lst 1 enU bs, .int p]]
structure BytesOk (bs : List Int) : Prop where
  len : bs.length ≤ 2000
  el : ∀ x ∈ bs, 0 ≤ x ∧ x ≤ 255
theorem u_at {l : List Int} {i : Nat} (h : i < l.length) : (l.map enU)[i]? = some (enU l[i]) := by rw [List.getElem?_map, List.getElem?_eq_getElem h]; rfl
theorem rem_at {l : List Int} {i : Int} (h : 0 < l.length) (h0 : 0 ≤ i) : (i % (l.length : Int)).toNat < l.length := by
  have := Int.emod_lt_of_pos i (show (0 : Int) < l.length by omega)
  have := Int.emod_nonneg i (show (l.length : Int) ≠ 0 by omega)
  omega

set_option maxHeartbeats 1600000 in
theorem z69 (bs : List Int) (hb : BytesOk bs) (p n : Int) (h0 : 0 ≤ p) (h1 : p ≤ 1000000000) (hn : n ≤ 1000000000) : ∃ v : Int, (0 ≤ v ∧ (1 ≤ n → v < n)) ∧ CallsA Tryz.prog 73 [.ptr 0 none 0, .int n] [rdO bs p] (.int v) [rdO bs (p + 1)] := by
  have hlen := hb.len
  by_cases hz : n < 1 ∨ bs.length = 0
  · refine ⟨0, ⟨by omega, fun _ => by omega⟩, ?_⟩
    refine z14 z26 Tryz.func73 rfl rfl 99 Tryz.ntmps73 (by simp) ?_
    repeat' (first | (apply AWP.go ok; rfl; conv => whnf) | (apply z30; kernel_rfl; conv => whnf) | (apply And.intro; (first | omega | (unfold inI; omega)); conv => whnf) | (with_reducible apply z43; omega; intro _; conv => whnf) | (apply z10 <;> intro _ <;> conv => whnf))
    all_goals first | (exfalso; omega) | exact z96 [0] (by decide) rfl rfl rfl ⟨z42 rfl rfl, trivial⟩
  by_cases hk : p < bs.length
  · have hp : (p + 1 - 1).toNat < bs.length := by omega
    have g0 := u_at (l := bs) (i := (p + 1 - 1).toNat) hp
    have hr := hb.el bs[(p + 1 - 1).toNat] (List.getElem_mem _)
    generalize bs[(p + 1 - 1).toNat] = b at *
    have hw : IntKind.i64.wrap b = b := IntWalk.i64_in _ (by omega)
    refine ⟨b % n, ⟨Int.emod_nonneg _ (by omega), fun _ => Int.emod_lt_of_pos _ (by omega)⟩, ?_⟩
    refine z14 z26 Tryz.func73 rfl rfl 99 Tryz.ntmps73 (by simp) ?_
    repeat' (first | (apply AWP.go ok; rfl; conv => whnf) | (apply z30; kernel_rfl; conv => whnf) | (refine z32 (i := (p + 1 - 1).toNat) rfl g0 ?_; conv => whnf) | (apply And.intro; (first | omega | (unfold inI; omega)); conv => whnf) | (with_reducible apply z43; omega; intro _; conv => whnf) | (apply z10 <;> intro _ <;> conv => whnf))
    all_goals first | (exfalso; omega) | exact z96 [0] (by decide) rfl rfl rfl ⟨z42 rfl rfl, trivial⟩
  have hl0 : 0 < bs.length := by omega
  have m1 := rem_at (l := bs) (i := p + 1 - 1) hl0 (by omega)
  have m2 := rem_at (l := bs) (i := (p + 1 - 1) * 7 + 3) hl0 (by omega)
  have g1 := u_at m1
  have g2 := u_at m2
  have r1 := hb.el bs[((p + 1 - 1) % (bs.length : Int)).toNat] (List.getElem_mem _)
  have r2 := hb.el bs[(((p + 1 - 1) * 7 + 3) % (bs.length : Int)).toNat] (List.getElem_mem _)
  generalize bs[((p + 1 - 1) % (bs.length : Int)).toNat] = b1 at *
  generalize bs[(((p + 1 - 1) * 7 + 3) % (bs.length : Int)).toNat] = b2 at *
  have w1 : IntKind.i64.wrap b1 = b1 := IntWalk.i64_in _ (by omega)
  have w2 : IntKind.i64.wrap b2 = b2 := IntWalk.i64_in _ (by omega)
  have n1 := Int.emod_nonneg (p + 1 - 1) (show (bs.length : Int) ≠ 0 by omega)
  have n2 := Int.emod_nonneg ((p + 1 - 1) * 7 + 3) (show (bs.length : Int) ≠ 0 by omega)
  have l1 := Int.emod_lt_of_pos (p + 1 - 1) (show (0 : Int) < bs.length by omega)
  have l2 := Int.emod_lt_of_pos ((p + 1 - 1) * 7 + 3) (show (0 : Int) < bs.length by omega)
  have q0 : 0 ≤ (p + 1 - 1) / (bs.length : Int) := Int.ediv_nonneg (by omega) (by omega)
  have q1 : (p + 1 - 1) / (bs.length : Int) ≤ p + 1 - 1 := Int.ediv_le_self _ (by omega)
  have hx0 : 0 ≤ b1 * 131 + b2 * 1117 + (p + 1 - 1) * 29 + (p + 1 - 1) / (bs.length : Int) * 53 := by omega
  have hx1 : b1 * 131 + b2 * 1117 + (p + 1 - 1) * 29 + (p + 1 - 1) / (bs.length : Int) * 53 ≤ 1000000000000 := by omega
  have hq : 0 ≤ (b1 * 131 + b2 * 1117 + (p + 1 - 1) * 29 + (p + 1 - 1) / (bs.length : Int) * 53) / 64 ∧ (b1 * 131 + b2 * 1117 + (p + 1 - 1) * 29 + (p + 1 - 1) / (bs.length : Int) * 53) / 64 ≤ 1000000000000 := by omega
  refine ⟨(((b1 * 131 + b2 * 1117 + (p + 1 - 1) * 29 + (p + 1 - 1) / (bs.length : Int) * 53).toNat ^^^ ((b1 * 131 + b2 * 1117 + (p + 1 - 1) * 29 + (p + 1 - 1) / (bs.length : Int) * 53) / 64).toNat : Nat) : Int) % n, ⟨Int.emod_nonneg _ (by omega), fun _ => Int.emod_lt_of_pos _ (by omega)⟩, ?_⟩
  refine z14 z26 Tryz.func73 rfl rfl 99 Tryz.ntmps73 (by simp) ?_
  repeat' (first | (apply AWP.go ok; rfl; conv => whnf) | (apply z30; kernel_rfl; conv => whnf) | (refine z32 (i := (((p + 1 - 1) * 7 + 3) % (bs.length : Int)).toNat) rfl g2 ?_; conv => whnf) | (refine z32 (i := ((p + 1 - 1) % (bs.length : Int)).toNat) rfl g1 ?_; conv => whnf) | (apply And.intro; (first | omega | (unfold inI; omega) | (unfold z38; omega)); conv => whnf) | (with_reducible apply z43; omega; intro _; conv => whnf) | (apply z10 <;> intro _ <;> conv => whnf))
  all_goals first | (exfalso; omega) | exact z96 [0] (by decide) rfl rfl rfl ⟨z42 rfl rfl, trivial⟩

theorem l16Open_ok (bs : List Int) (hl : bs.length ≤ maxLen) : CallsA Tryz.prog 71 [lst 1 enU bs] [] (.ptr 0 none 0) [rdO (bs.take 2000) 0] := by
  unfold maxLen at hl
  refine z14 z26 Tryz.func71 rfl rfl 11 Tryz.ntmps71 (by simp) ?_
  by_cases h : bs.length ≤ 2000
  · rw [List.take_of_length_le h]
    repeat' (first | (apply AWP.go ok; rfl; conv => whnf) | (apply And.intro; (omega); conv => whnf) | (apply z10 <;> intro _ <;> conv => whnf))
    all_goals first | (exfalso; omega) | exact z96 [0] (by decide) rfl rfl rfl ⟨z42 rfl rfl, trivial⟩
  · repeat' (first | (apply AWP.go ok; rfl; conv => whnf) | (apply And.intro; (omega); conv => whnf) | (apply z10 <;> intro _ <;> conv => whnf))
    all_goals first | (exfalso; omega) | skip
    all_goals exact z96 [0] (by decide) rfl rfl rfl ⟨z42 rfl (congrArg (fun x => AObj.cells 2 [[x, AC.int 0]]) (slice_take 1 enU bs 2000 (by omega))), trivial⟩
end Go.Proofs.YtknlmbniicacmaaGreat

namespace Go.Proofs.YtknlmbniicacmaaGreat
open Go.Gl
attribute [local irreducible] z35 AWP z65 z78 z74

theorem z113 (bs : List Int) (hb : BytesOk bs) (p : Int) (h0 : 0 ≤ p) (h1 : p ≤ 1000000000) (l : List Int) (hl : 0 < l.length) (hl2 : l.length ≤ 1000) : ∃ v : Int, v ∈ l ∧ CallsA Tryz.prog 158 [.ptr 0 none 0, .sref 1 0 l.length] [rdO bs p, .cells 1 (l.map enI)] (.int v) [rdO bs (p + 1), .cells 1 (l.map enI)] := by
  obtain ⟨k, ⟨hk0, hk1⟩, hc⟩ := z69 bs hb p l.length h0 h1 (by omega)
  have hk : k.toNat < l.length := by omega
  have g0 : (l.map enI)[k.toNat]? = some (enI l[k.toNat]) := by rw [List.getElem?_map, List.getElem?_eq_getElem hk]; rfl
  refine ⟨l[k.toNat], List.getElem_mem _, ?_⟩
  generalize l[k.toNat] = v at *
  refine z14 z26 Tryz.func158 rfl rfl 12 Tryz.ntmps158 (by simp) ?_
  repeat' (first | (apply AWP.go ok; rfl; conv => whnf) | (refine z32 (i := k.toNat) rfl g0 ?_; conv => whnf) | (apply And.intro; (omega); conv => whnf) | (apply z8 [0] [] [] (hc); rfl; (focus ((repeat' (first | exact z6 | apply z7)) <;> (rfl))); rfl; rfl; rfl; rfl; rfl; (focus ((repeat' (first | exact z17 | apply z15)) <;> (exact z25 rfl rfl))); (exact .inl rfl); conv => whnf))
  all_goals (exact z96 [0, 1] (by decide) rfl rfl rfl ⟨z42 rfl rfl, z41 rfl (z12 fun _ => rfl), trivial⟩)
end Go.Proofs.YtknlmbniicacmaaGreat

namespace Go.Proofs.YtknlmbniicacmaaGreat
open Go.Gl
attribute [local irreducible] z35 AWP z65 z78 z74 RetS z97

theorem mx_of_sz (t : Tree) : t.sz ≤ maxLen → t.mx := by
  induction t using Tree.ind with | h t ih => ?_
  intro h
  rw [Tree.mx_iff]
  rw [Tree.sz_eq] at h
  refine ⟨by omega, fun u hu => ih u hu ?_⟩
  have := le_sum Tree.sz hu
  omega
/-- few draws -/
abbrev few (p : Int) : Prop := 0 ≤ p ∧ p ≤ 999999000
abbrev few1 (p : Int) : Prop := 0 ≤ p ∧ p ≤ 999990000
abbrev few2 (p : Int) : Prop := 0 ≤ p ∧ p ≤ 999900000
abbrev few3 (p : Int) : Prop := 0 ≤ p ∧ p ≤ 999000000
def leaf (k v : Int) : Tree := .mk k v []
theorem z103 (k v : Int) : (leaf k v).sz = 0 := rfl
theorem mk_sz (k v : Int) (l : List Tree) : (Tree.mk k v l).sz = l.length + (l.map Tree.sz).sum := Tree.sz_eq _

set_option maxHeartbeats 1600000 in
theorem l2Guard_ok (bs : List Int) (hb : BytesOk bs) (p : Int) (hp : few p) : ∃ (t : Tree) (p' : Int), (t.sz ≤ 3 ∧ p ≤ p' ∧ p' ≤ p + 5) ∧ CallsA Tryz.prog 205 [.ptr 0 none 0] [rdO bs p] (z93 Tree.cs' t) [rdO bs p'] := by
  obtain ⟨v0, ⟨l0, u0⟩, c0⟩ := z69 bs hb p 3 (by omega) (by omega) (by omega)
  by_cases h0 : v0 = 0
  · subst h0
    refine ⟨leaf 1 1, p + 1, ⟨by rw [z103]; omega, by omega, by omega⟩, ?_⟩
    refine z19 z26 Tryz.func205 rfl rfl 31 Tryz.ntmps205 (by simp) ?_
    repeat' ((first | (apply AWP.go ok; rfl) | (((apply z8 [0] [] [] (c0); rfl; (focus ((repeat' first | exact z6 | apply z7) <;> rfl)))); rfl; rfl; rfl; rfl; rfl; (focus ((repeat' first | exact z17 | apply z15) <;> exact z25 rfl rfl)); (exact .inl rfl))) <;> conv => whnf)
    all_goals (refine RetS.lay [0] [] rfl rfl rfl ?_; refine RetS.done ?_ ?_ <;> (repeat' (first | exact LocLe.refl _ | exact z61 | exact F2.nil | apply F2.cons | apply ObjLe.box | apply z75)))
  · obtain ⟨v1, m1, c1⟩ := z113 bs hb (p + 1) (by omega) (by omega) [0, 1, 0, 2] (by decide) (by decide)
    obtain ⟨v2, ⟨l2, u2⟩, c2⟩ := z69 bs hb (p + 1 + 1) 3 (by omega) (by omega) (by omega)
    obtain ⟨v3, m3, c3⟩ := z113 bs hb (p + 1 + 1 + 1) (by omega) (by omega) [6, 7, 6] (by decide) (by decide)
    obtain ⟨v4, ⟨l4, u4⟩, c4⟩ := z69 bs hb (p + 1 + 1 + 1 + 1) 5 (by omega) (by omega) (by omega)
    have z0 : v0 ≠ 0 := h0
    by_cases h4 : v4 = 0
    · subst h4
      refine ⟨.mk 3 0 [.mk v3 0 [leaf 2 v1, leaf 1 v2]], p + 1 + 1 + 1 + 1 + 1, ⟨by simp [mk_sz, z103], by omega, by omega⟩, ?_⟩
      refine z19 z26 Tryz.func205 rfl rfl 31 Tryz.ntmps205 (by simp) ?_
      repeat' ((first | (apply AWP.go ok; rfl) | (apply z30; kernel_rfl) | ((apply z10) <;> intro _) | ((first | (apply z8 [0] [] [] (c0); rfl; (focus ((repeat' first | exact z6 | apply z7) <;> rfl))) | (apply z8 [0, 2] [] [] (c1); rfl; (focus ((repeat' first | exact z6 | apply z7) <;> rfl))) | (apply z8 [0] [] [] (c2); rfl; (focus ((repeat' first | exact z6 | apply z7) <;> rfl))) | (apply z8 [0, 5] [] [] (c3); rfl; (focus ((repeat' first | exact z6 | apply z7) <;> rfl))) | (apply z8 [0] [] [] (c4); rfl; (focus ((repeat' first | exact z6 | apply z7) <;> rfl)))); rfl; rfl; rfl; rfl; rfl; (focus ((repeat' first | exact z17 | apply z15) <;> first | exact z25 rfl rfl | (refine z29 ?_; ((exact z12 fun _ => rfl))))); (exact .inl rfl))) <;> conv => whnf)
      all_goals first | (exfalso; omega) | skip
      all_goals (refine RetS.lay [0, 8] [6] rfl rfl rfl ?_; refine RetS.lay [0] [1] rfl rfl rfl ?_; refine RetS.done ?_ ?_ <;> (repeat' (first | exact LocLe.refl _ | exact z61 | exact F2.nil | apply F2.cons | apply ObjLe.box | ((first | apply z47 rfl rfl rfl | apply z92 rfl rfl rfl); (focus ((repeat (rfl)); done)); (focus ((rfl); done))) | apply z75 | (apply z83; rfl))))
    · refine ⟨.mk v3 0 [leaf 2 v1, leaf 1 v2], p + 1 + 1 + 1 + 1 + 1, ⟨by simp [mk_sz, z103], by omega, by omega⟩, ?_⟩
      refine z19 z26 Tryz.func205 rfl rfl 31 Tryz.ntmps205 (by simp) ?_
      repeat' ((first | (apply AWP.go ok; rfl) | (apply z30; kernel_rfl) | ((apply z10) <;> intro _) | ((first | (apply z8 [0] [] [] (c0); rfl; (focus ((repeat' first | exact z6 | apply z7) <;> rfl))) | (apply z8 [0, 2] [] [] (c1); rfl; (focus ((repeat' first | exact z6 | apply z7) <;> rfl))) | (apply z8 [0] [] [] (c2); rfl; (focus ((repeat' first | exact z6 | apply z7) <;> rfl))) | (apply z8 [0, 5] [] [] (c3); rfl; (focus ((repeat' first | exact z6 | apply z7) <;> rfl))) | (apply z8 [0] [] [] (c4); rfl; (focus ((repeat' first | exact z6 | apply z7) <;> rfl)))); rfl; rfl; rfl; rfl; rfl; (focus ((repeat' first | exact z17 | apply z15) <;> first | exact z25 rfl rfl | (refine z29 ?_; ((exact z12 fun _ => rfl))))); (exact .inl rfl))) <;> conv => whnf)
      all_goals first | (exfalso; omega) | skip
      all_goals (refine RetS.lay [0] [6] rfl rfl rfl ?_; refine RetS.done ?_ ?_ <;> (repeat' (first | exact LocLe.refl _ | exact z61 | exact F2.nil | apply F2.cons | apply ObjLe.box | ((apply z47 rfl rfl rfl); (focus ((repeat (rfl)); done)); (focus ((rfl); done))) | apply z75 | (apply z83; rfl))))
end Go.Proofs.YtknlmbniicacmaaGreat

namespace Go.Proofs.YtknlmbniicacmaaGreat
open Go.Gl
attribute [local irreducible] z35 AWP z65 z78 z74 RetS z97

def drK : Nat → Int
  | 0 => 4
  | n + 1 => 4 + 2 * drK n
def drS : Nat → Nat
  | 0 => 0
  | n + 1 => 2 + 2 * drS n
theorem drK_pos (n : Nat) : 4 ≤ drK n := by induction n with
  | zero => decide
  | succ n ih => rw [drK]; omega

set_option maxHeartbeats 1600000 in
theorem l1Random_ok (bs : List Int) (hb : BytesOk bs) : ∀ (n : Nat) (d p : Int), d ≤ n + 1 → n ≤ 100 → 0 ≤ d → 0 ≤ p → p + drK n ≤ 1000000000 → ∃ (t : Tree) (p' : Int), (t.sz ≤ drS n ∧ p ≤ p' ∧ p' ≤ p + drK n) ∧ CallsA Tryz.prog 301 [.ptr 0 none 0, .int d] [rdO bs p] (z93 Tree.cs' t) [rdO bs p'] := by
  intro n
  induction n with
  | zero =>
    intro d p hd hd1 hd0 hp hq
    rw [drK] at hq ⊢
    obtain ⟨v0, ⟨l0, u0⟩, c0⟩ := z69 bs hb p 3 (by omega) (by omega) (by omega)
    by_cases h0 : v0 = 0
    · subst h0
      obtain ⟨v1, ⟨l1, u1⟩, c1⟩ := z69 bs hb (p + 1) 4 (by omega) (by omega) (by omega)
      refine ⟨leaf 1 v1, p + 1 + 1, ⟨by rw [z103]; omega, by omega, by omega⟩, ?_⟩
      refine z19 z26 Tryz.func301 rfl rfl 46 Tryz.ntmps301 (by simp) ?_
      repeat' ((first | (apply AWP.go ok; rfl) | ((apply z10) <;> intro _) | ((first | (apply z8 [0] [] [] (c0); rfl; (focus ((repeat' first | exact z6 | apply z7) <;> rfl))) | (apply z8 [0] [] [] (c1); rfl; (focus ((repeat' first | exact z6 | apply z7) <;> rfl)))); rfl; rfl; rfl; rfl; rfl; (focus ((repeat' first | exact z17 | apply z15) <;> exact z25 rfl rfl)); (exact .inl rfl))) <;> conv => whnf)
      all_goals first | (exfalso; omega) | skip
      all_goals (refine RetS.lay [0] [] rfl rfl rfl ?_; refine RetS.done ?_ ?_ <;> (repeat' (first | exact LocLe.refl _ | exact z61 | exact F2.nil | apply F2.cons | apply ObjLe.box | apply z75)))
    · obtain ⟨v1, m1, c1⟩ := z113 bs hb (p + 1) (by omega) (by omega) [0, 1, 0, 2] (by decide) (by decide)
      refine ⟨leaf 2 v1, p + 1 + 1, ⟨by rw [z103]; omega, by omega, by omega⟩, ?_⟩
      refine z19 z26 Tryz.func301 rfl rfl 46 Tryz.ntmps301 (by simp) ?_
      repeat' ((first | (apply AWP.go ok; rfl) | ((apply z10) <;> intro _) | ((first | (apply z8 [0] [] [] (c0); rfl; (focus ((repeat' first | exact z6 | apply z7) <;> rfl))) | (apply z8 [0, 2] [] [] (c1); rfl; (focus ((repeat' first | exact z6 | apply z7) <;> rfl)))); rfl; rfl; rfl; rfl; rfl; (focus ((repeat' first | exact z17 | apply z15) <;> first | exact z25 rfl rfl | (refine z29 ?_; ((exact z12 fun _ => rfl))))); (exact .inl rfl))) <;> conv => whnf)
      all_goals first | (exfalso; omega) | skip
      all_goals (refine RetS.lay [0] [] rfl rfl rfl ?_; refine RetS.done ?_ ?_ <;> (repeat' (first | exact LocLe.refl _ | exact z61 | exact F2.nil | apply F2.cons | apply ObjLe.box | apply z75)))
  | succ n ih =>
    intro d p hd hd1 hd0 hp hq
    have hK := drK_pos n
    by_cases hlt : d < 2
    · obtain ⟨t, p', h1, h2⟩ := ih d p (by omega) (by omega) hd0 hp (by rw [drK] at hq; omega)
      exact ⟨t, p', ⟨by rw [drS]; omega, h1.2.1, by rw [drK]; omega⟩, h2⟩
    rw [drK] at hq
    rw [drK, drS]
    obtain ⟨w, ⟨lw, uw⟩, cw⟩ := z69 bs hb p 5 (by omega) (by omega) (by omega)
    by_cases hw : w = 0
    · subst hw
      obtain ⟨v0, ⟨l0, u0⟩, c0⟩ := z69 bs hb (p + 1) 3 (by omega) (by omega) (by omega)
      by_cases h0 : v0 = 0
      · subst h0
        obtain ⟨v1, ⟨l1, u1⟩, c1⟩ := z69 bs hb (p + 1 + 1) 4 (by omega) (by omega) (by omega)
        refine ⟨leaf 1 v1, p + 1 + 1 + 1, ⟨by rw [z103]; omega, by omega, by omega⟩, ?_⟩
        refine z19 z26 Tryz.func301 rfl rfl 46 Tryz.ntmps301 (by simp) ?_
        repeat' ((first | (apply AWP.go ok; rfl) | ((apply z10) <;> intro _) | ((first | (apply z8 [0] [] [] (cw); rfl; (focus ((repeat' first | exact z6 | apply z7) <;> rfl))) | (apply z8 [0] [] [] (c0); rfl; (focus ((repeat' first | exact z6 | apply z7) <;> rfl))) | (apply z8 [0] [] [] (c1); rfl; (focus ((repeat' first | exact z6 | apply z7) <;> rfl)))); rfl; rfl; rfl; rfl; rfl; (focus ((repeat' first | exact z17 | apply z15) <;> exact z25 rfl rfl)); (exact .inl rfl))) <;> conv => whnf)
        all_goals first | (exfalso; omega) | skip
        all_goals (refine RetS.lay [0] [] rfl rfl rfl ?_; refine RetS.done ?_ ?_ <;> (repeat' (first | exact LocLe.refl _ | exact z61 | exact F2.nil | apply F2.cons | apply ObjLe.box | apply z75)))
      · obtain ⟨v1, m1, c1⟩ := z113 bs hb (p + 1 + 1) (by omega) (by omega) [0, 1, 0, 2] (by decide) (by decide)
        refine ⟨leaf 2 v1, p + 1 + 1 + 1, ⟨by rw [z103]; omega, by omega, by omega⟩, ?_⟩
        refine z19 z26 Tryz.func301 rfl rfl 46 Tryz.ntmps301 (by simp) ?_
        repeat' ((first | (apply AWP.go ok; rfl) | ((apply z10) <;> intro _) | ((first | (apply z8 [0] [] [] (cw); rfl; (focus ((repeat' first | exact z6 | apply z7) <;> rfl))) | (apply z8 [0] [] [] (c0); rfl; (focus ((repeat' first | exact z6 | apply z7) <;> rfl))) | (apply z8 [0, 2] [] [] (c1); rfl; (focus ((repeat' first | exact z6 | apply z7) <;> rfl)))); rfl; rfl; rfl; rfl; rfl; (focus ((repeat' first | exact z17 | apply z15) <;> first | exact z25 rfl rfl | (refine z29 ?_; ((exact z12 fun _ => rfl))))); (exact .inl rfl))) <;> conv => whnf)
        all_goals first | (exfalso; omega) | skip
        all_goals (refine RetS.lay [0] [] rfl rfl rfl ?_; refine RetS.done ?_ ?_ <;> (repeat' (first | exact LocLe.refl _ | exact z61 | exact F2.nil | apply F2.cons | apply ObjLe.box | apply z75)))
    · obtain ⟨kd, mk, ck⟩ := z113 bs hb (p + 1) (by omega) (by omega) [6, 8, 7, 4, 3, 5, 9] (by decide) (by decide)
      have ca := l1Arity_ok kd
      have ham : ∃ m : Nat, arity kd = m ∧ m ≤ 2 := by
        simp only [List.mem_cons, List.not_mem_nil, or_false] at mk
        unfold arity
        rcases mk with rfl | rfl | rfl | rfl | rfl | rfl | rfl
        all_goals first | exact ⟨2, rfl, by omega⟩ | exact ⟨1, rfl, by omega⟩
      obtain ⟨m, em, hm⟩ := ham
      rw [em] at ca
      obtain ⟨ks, pf, hks, hp0, hst, hpf⟩ := seq_ex (fun k q (t : Tree) q' => t.sz ≤ drS n ∧ CallsA Tryz.prog 301 [.ptr 0 none 0, .int (d - 1)] [rdO bs q] (z93 Tree.cs' t) [rdO bs q']) (p + 1 + 1) (drK n) m (fun k q hk h1 h2 => by
        have : drK n * k ≤ drK n := by
          have : k = 0 ∨ k = 1 := by omega
          rcases this with rfl | rfl <;> simp <;> omega
        obtain ⟨t, q', ⟨a1, a2, a3⟩, a4⟩ := ih (d - 1) q (by omega) (by omega) (by omega) (by omega) (by omega)
        exact ⟨t, q', ⟨a1, a4⟩, a2, a3⟩)
      have hpm := hpf m (Nat.le_refl _)
      have hKm : drK n * m ≤ 2 * drK n := by
        have : m = 0 ∨ m = 1 ∨ m = 2 := by omega
        rcases this with rfl | rfl | rfl <;> simp <;> omega
      have hsum : (ks.map Tree.sz).sum ≤ 2 * drS n := by
        have : ∀ (l : List Tree), (∀ t ∈ l, t.sz ≤ drS n) → (l.map Tree.sz).sum ≤ l.length * drS n := by
          intro l
          induction l with
          | nil => intro _; simp
          | cons t l ih =>
            intro h
            have h1 := h t (by simp)
            have h2 := ih fun u hu => h u (by simp [hu])
            simp only [List.map_cons, List.sum_cons, List.length_cons, Nat.add_mul]
            omega
        have h1 := this ks fun t ht => by
          obtain ⟨i, hi, rfl⟩ := List.mem_iff_getElem.1 ht
          exact (hst i hi).1
        have h2 : ks.length * drS n ≤ 2 * drS n := Nat.mul_le_mul_right _ (by omega)
        omega
      refine ⟨.mk kd 0 ks, pf m, ⟨by rw [mk_sz]; omega, by omega, by omega⟩, ?_⟩
      refine z19 z26 Tryz.func301 rfl rfl 46 Tryz.ntmps301 (by simp) ?_
      rw [← hp0] at ck
      repeat' ((first | (apply AWP.go ok; rfl) | ((apply z10) <;> intro _) | (apply z11 (ca); rfl; rfl) | ((first | (apply z8 [0] [] [] (cw); rfl; (focus ((repeat' first | exact z6 | apply z7) <;> rfl))) | (apply z8 [0, 2] [] [] (ck); rfl; (focus ((repeat' first | exact z6 | apply z7) <;> rfl)))); rfl; rfl; rfl; rfl; rfl; (focus ((repeat' first | exact z17 | apply z15) <;> first | exact z25 rfl rfl | (refine z29 ?_; ((exact z12 fun _ => rfl))))); (exact .inl rfl))) <;> conv => whnf)
      all_goals first | (exfalso; omega) | skip
      refine AWP.reach (Reach.empty 3 rfl) ?_
      refine loopR (fun k : Nat => ([(0, .ptr 0 none 0), (1, .int d), (4, .ptr 1 none 0), (6, .ptr 2 none 0), (7, .int (m - k))], [rdO bs (pf k), .cells 3 [[.int 0, .int 0, .nils]], .cells 3 [[.int kd, .int 0, .sref 3 0 k]], .cells 3 ((ks.take k).map Tree.cs')])) (fun k => k ≤ m) (fun k => m - k) 0 (by omega) (by refine SealW.reach [0, 1, 3, 4] [] rfl rfl rfl rfl ?_ ?_ <;> (repeat' (first | exact LocLe.refl _ | exact z99 | exact F2.nil | apply F2.cons | apply ObjLe.box | ((refine z33 rfl ?_ ?_); (focus ((repeat' (exact z49)); done))) | exact True.intro | apply And.intro))) ?_
      intro k hk
      by_cases hkm : k < m
      · have hc := (hst k (by omega)).2
        have hkl : k < ks.length := by omega
        rw [Tree.arg_eq] at hc
        repeat' ((first | (apply AWP.go ok; rfl) | (apply z30; kernel_rfl) | (apply And.intro; first | (unfold inI; omega) | ((try dsimp only); simp only [List.length_map, List.length_take, List.length_append, List.length_replicate, List.length_cons, List.length_nil]; omega) | exact ⟨rfl, z18 rfl z23⟩) | ((apply z10) <;> intro _) | (((apply z8 [0] [] [] (hc); rfl; (focus ((repeat' first | exact z6 | apply z7) <;> rfl)))); rfl; rfl; rfl; rfl; rfl; (focus ((repeat' first | exact z17 | apply z15) <;> exact z25 rfl rfl)); (exact .inl rfl))) <;> conv => whnf)
        all_goals first | (exfalso; omega) | skip
        refine z79 (k + 1) (by omega) (by omega) (by refine SealW.reach [0, 1, 2, 5] [] rfl rfl rfl rfl ?_ ?_ <;> (repeat' (first | exact LocLe.refl _ | exact F2.nil | apply F2.cons | exact f22_cs | (refine int_le ?_; omega) | apply ObjLe.box | ((refine z56 rfl ?_ ?_); (focus ((repeat' (first | exact z12 (fun _ => rfl) | apply z37)); done))) | (refine z126 (by omega) (by omega) ?_) | (apply z83; rfl) | exact True.intro | apply And.intro)))
      · have : k = m := by omega
        subst this
        repeat' ((first | (apply AWP.go ok; rfl) | (apply And.intro; omega) | ((apply z10) <;> intro _)) <;> conv => whnf)
        all_goals first | (exfalso; omega) | skip
        all_goals (refine RetS.lay [0] [3] rfl rfl rfl ?_; refine RetS.done ?_ ?_ <;> (repeat' (first | exact LocLe.refl _ | exact F2.nil | apply F2.cons | (refine kids_end_le ?_; omega) | apply ObjLe.box | ((apply z47 rfl rfl rfl); (focus ((repeat ((exact z36 (fun _ => rfl) _))); done)); (focus (((simp; omega)); done))) | apply z75)))
end Go.Proofs.YtknlmbniicacmaaGreat

namespace Go.Proofs.YtknlmbniicacmaaGreat
open Go.Gl
attribute [local irreducible] z35 AWP z65 z78 z74 RetS z97

theorem l1Expr_ok (bs : List Int) (hb : BytesOk bs) (p : Int) (hp : few p) : ∃ (t : Tree) (p' : Int), (t.sz ≤ 20 ∧ p ≤ p' ∧ p' ≤ p + 100) ∧ CallsA Tryz.prog 271 [.ptr 0 none 0] [rdO bs p] (z93 Tree.cs' t) [rdO bs p'] := by
  obtain ⟨d, md, cd⟩ := z113 bs hb p (by omega) (by omega) [3, 2, 3, 4] (by decide) (by decide)
  have hd : 0 ≤ d ∧ d ≤ 4 := by simp at md; omega
  obtain ⟨t, q, ⟨t1, t2, t3⟩, ct⟩ := l1Random_ok bs hb 3 d (p + 1) (by omega) (by omega) (by omega) (by omega) (by simp only [drK]; omega)
  simp only [drK] at t3
  simp only [drS] at t1
  have cv := z127 t (mx_of_sz t (by unfold maxLen; omega))
  by_cases hv : t.exprB = true
  · refine ⟨t, q, ⟨by omega, by omega, by omega⟩, ?_⟩
    rw [hv] at cv
    rw [Tree.arg_eq] at *
    refine z19 z26 Tryz.func271 rfl rfl 15 Tryz.ntmps271 (by simp) ?_
    repeat' ((first | (apply AWP.go ok; rfl) | (apply z11 (cv); rfl; rfl) | ((first | (apply z8 [0, 2] [] [] (cd); rfl; (focus ((repeat' first | exact z6 | apply z7) <;> rfl))) | (apply z8 [0] [] [] (ct); rfl; (focus ((repeat' first | exact z6 | apply z7) <;> rfl)))); rfl; rfl; rfl; rfl; rfl; (focus ((repeat' first | exact z17 | apply z15) <;> first | exact z25 rfl rfl | (refine z29 ?_; ((exact z12 fun _ => rfl))))); (exact .inl rfl))) <;> conv => whnf)
    all_goals skip
    all_goals (refine RetS.lay [0] [] rfl rfl rfl ?_; refine RetS.done ?_ ?_ <;> (repeat' (first | exact LocLe.refl _ | exact F2.nil | apply F2.cons | apply ObjLe.box)))
  · obtain ⟨w, ⟨lw, uw⟩, cw⟩ := z69 bs hb q 3 (by omega) (by omega) (by omega)
    refine ⟨leaf 2 w, q + 1, ⟨by rw [z103]; omega, by omega, by omega⟩, ?_⟩
    rw [(Bool.not_eq_true _).mp hv] at cv
    rw [Tree.arg_eq] at cv ct
    refine z19 z26 Tryz.func271 rfl rfl 15 Tryz.ntmps271 (by simp) ?_
    repeat' ((first | (apply AWP.go ok; rfl) | (apply z11 (cv); rfl; rfl) | ((first | (apply z8 [0, 2] [] [] (cd); rfl; (focus ((repeat' first | exact z6 | apply z7) <;> rfl))) | (apply z8 [0] [] [] (ct); rfl; (focus ((repeat' first | exact z6 | apply z7) <;> rfl))) | (apply z8 [0] [] [] (cw); rfl; (focus ((repeat' first | exact z6 | apply z7) <;> rfl)))); rfl; rfl; rfl; rfl; rfl; (focus ((repeat' first | exact z17 | apply z15) <;> first | exact z25 rfl rfl | (refine z29 ?_; ((exact z12 fun _ => rfl))))); (exact .inl rfl))) <;> conv => whnf)
    all_goals skip
    all_goals (refine RetS.lay [0] [] rfl rfl rfl ?_; refine RetS.done ?_ ?_ <;> (repeat' (first | exact LocLe.refl _ | exact z61 | exact F2.nil | apply F2.cons | apply ObjLe.box | apply z75)))

mutual
def subZ (t : Tree) : Tree := match t with
  | .mk k v l => if k = 2 ∧ v = -1 then .mk 0 0 [] else .mk k v (subZs l)
def subZs (l : List Tree) : List Tree := match l with
  | [] => []
  | t :: r => subZ t :: subZs r
end
theorem subZs_eq (l : List Tree) : subZs l = l.map subZ := by
  induction l with
  | nil => simp [subZs]
  | cons t l ih => simp [subZs, ih]
theorem subZ_sz (t : Tree) : (subZ t).sz ≤ t.sz := by
  induction t using Tree.ind with | h t ih => ?_
  cases t with
  | mk k v l =>
    rw [subZ]
    split
    · rw [mk_sz]; simp
    · rw [subZs_eq, mk_sz, mk_sz]
      simp only [Tree.kids] at ih
      have key : ∀ l : List Tree, (∀ u ∈ l, (subZ u).sz ≤ u.sz) → ((l.map subZ).map Tree.sz).sum ≤ (l.map Tree.sz).sum := by
        intro l
        induction l with
        | nil => intro _; simp
        | cons t l ihl =>
          intro ih
          have h1 := ih t (by simp)
          have h2 := ihl fun u hu => ih u (by simp [hu])
          simp only [List.map_cons, List.sum_cons]
          omega
      have := key l ih
      simp only [List.length_map]
      omega

def zeroE : AC := .agg [.int 0, .int 0, .nils]
def ownT (t : Tree) : AC := .agg [.int t.kind, .int t.val, .sref 0 0 t.kids.length]
theorem subst0_new : CallsA Tryz.prog 260 [zeroE, .int (-1), zeroE] [] (ownT (.mk 0 0 [])) [.cells 3 []] := by
  refine z19 z26 Tryz.func260 rfl rfl 47 Tryz.ntmps260 (by simp) ?_
  repeat' (((apply AWP.go ok; rfl)) <;> conv => whnf)
  refine z100 (fun _ : Nat => ([(6, .ptr 0 none 0), (7, .ptr 1 none 0), (8, .int 0), (3, .ptr 2 none 0)], [.cells 3 [[.int 0, .int 0, .nils]], .cells 3 [[.int 0, .int 0, .nils]], .cells 3 [[.int 0, .int 0, .nils]]])) (fun _ => True) (fun _ => 0) 0 trivial ⟨[2, 3, 0], rfl, by decide, rfl, by repeat' (first | exact True.intro | exact ⟨rfl, rfl⟩ | apply And.intro), by repeat' (first | exact True.intro | exact z42 rfl rfl | apply And.intro)⟩ ?_
  intro k hk
  repeat' (((apply AWP.go ok; rfl)) <;> conv => whnf)
  all_goals skip
  all_goals (refine RetS.lay [] [] rfl rfl rfl ?_; refine RetS.empty 3 ?_; refine RetS.done ?_ ?_ <;> (repeat' (first | exact LocLe.refl _ | exact z99 | exact F2.nil | apply F2.cons | apply z75 | apply ObjLe.mk)))
theorem own_data {f : FuncId} {args : List AC} {t : Tree} (h : CallsA Tryz.prog f args [] (ownT t) [.cells 3 (t.kids.map Tree.cs')]) : CallsA Tryz.prog f args [] (z93 Tree.cs' t) [] := by
  rw [Tree.arg_eq]
  exact (by refine CallsA.settle (h) [] [0] rfl rfl rfl ?_ ?_ <;> (repeat' (first | exact LocLe.refl _ | exact F2.nil | apply F2.cons | ((apply z47 rfl rfl rfl); (focus ((repeat ((exact z36 (fun _ => rfl) _))); done)); (focus (((simp; done)); done))) | apply z75)))

theorem l1Subst_new (t : Tree) (h : t.sz ≤ 1000000) : CallsA Tryz.prog 260 [z93 Tree.cs' t, .int (-1), zeroE] [] (ownT (subZ t)) [.cells 3 ((subZ t).kids.map Tree.cs')] := by
  induction t using Tree.ind with | h t ih => ?_
  have hkl : t.kids.length ≤ 1000000 := by rw [Tree.sz_eq] at h; omega
  have hks : ∀ u ∈ t.kids, u.sz ≤ 1000000 := fun u hu => by
    have := le_sum Tree.sz hu
    rw [Tree.sz_eq] at h; omega
  rw [Tree.arg_eq t]
  obtain ⟨k, v, l⟩ := t
  simp only [Tree.kind, Tree.val, Tree.kids] at *
  rw [subZ]
  by_cases hz : k = 2 ∧ v = -1
  · obtain ⟨rfl, rfl⟩ := hz
    rw [if_pos ⟨rfl, rfl⟩]
    have c := subst0_new
    unfold zeroE ownT at *
    refine z19 z26 Tryz.func260 rfl rfl 47 Tryz.ntmps260 (by simp) ?_
    repeat' ((first | (apply AWP.go ok; rfl) | (((apply z8 [] [] [3] (c); rfl; (focus ((repeat' exact z6) <;> fail)))); rfl; rfl; rfl; rfl; rfl; (focus ((repeat' first | exact z17 | apply z15) <;> (refine z29 ?_; (exact z49)))); (exact .inl rfl))) <;> conv => whnf)
    all_goals skip
    all_goals (refine RetS.lay [3] [] rfl rfl rfl ?_; refine RetS.done ?_ ?_ <;> (repeat' (first | exact LocLe.refl _ | exact F2.nil | apply F2.cons | ((refine z33 rfl ?_ ?_); (focus ((repeat' (exact z49)); done))))))
  · rw [if_neg hz, subZs_eq]
    have hcs : ∀ (i : Nat) (hi : i < l.length) (hi2 : i < (l.map subZ).length), CallsA Tryz.prog 260 [z93 Tree.cs' l[i], .int (-1), zeroE] [] (z93 Tree.cs' (l.map subZ)[i]) [] := fun i hi hi2 => by
      rw [List.getElem_map]
      exact own_data (ih _ (List.getElem_mem _) (hks _ (List.getElem_mem _)))
    have hll : (l.map subZ).length = l.length := List.length_map ..
    generalize l.map subZ = L at *
    unfold zeroE ownT at *
    simp only [Tree.kind, Tree.val, Tree.kids] at *
    rw [hll]
    refine z19 z26 Tryz.func260 rfl rfl 47 Tryz.ntmps260 (by simp) ?_
    by_cases h2 : k = 2
    all_goals
      repeat' ((first | (apply AWP.go ok; rfl) | ((apply z10) <;> intro _)) <;> conv => whnf)
      all_goals first | (exfalso; omega) | skip
      refine AWP.reach (Reach.empty 3 rfl) ?_
      refine loopR (fun i : Nat => ([(1, .int (-1)), (3, .ptr 0 none 0), (5, .ptr 1 none 0), (6, .ptr 2 none 0), (7, .ptr 3 none 0), (8, .int i)], [.cells 3 [[.int k, .int v, lst 3 Tree.cs' l]], .cells 3 [[.int 0, .int 0, .nils]], .cells 3 [[.int 0, .int 0, .nils]], .cells 3 [[.int k, .int v, .sref 4 0 i]], .cells 3 ((L.take i).map Tree.cs')])) (fun i => i ≤ l.length) (fun i => l.length - i) 0 (by omega) (by refine SealW.reach [0, 1, 2, 3, 4] [] rfl rfl rfl rfl ?_ ?_ <;> (repeat' (first | exact LocLe.refl _ | exact z99 | exact F2.nil | apply F2.cons | apply ObjLe.box | ((refine z33 rfl ?_ ?_); (focus ((repeat' (exact z49)); done))) | exact True.intro | apply And.intro))) ?_
      intro i hi
      by_cases hil : i < l.length
      · have hiL : i < L.length := by omega
        have hc := hcs i hil hiL
        repeat' ((first | (apply AWP.go ok; rfl) | (apply z30; kernel_rfl) | (apply And.intro; first | omega | (unfold inI; omega) | ((try dsimp only); simp only [List.length_map, List.length_take, List.length_append, List.length_replicate, List.length_cons, List.length_nil]; omega) | exact ⟨rfl, z18 rfl z23⟩) | (((with_reducible apply z13; omega)); intro _) | ((apply z10) <;> intro _) | (apply z11 (hc); rfl; rfl)) <;> conv => whnf)
        all_goals first | (exfalso; omega) | skip
        refine z79 (i + 1) (by omega) (by omega) (by refine SealW.reach [0, 1, 2, 3, 6] [] rfl rfl rfl rfl ?_ ?_ <;> (repeat' (first | exact LocLe.refl _ | exact F2.nil | apply F2.cons | apply ObjLe.box | ((refine z56 rfl ?_ ?_); (focus ((repeat' (first | exact z12 (fun _ => rfl) | apply z37)); done))) | (refine z126 (by omega) (by omega) ?_) | exact True.intro | apply And.intro)))
      · have e : i = l.length := by omega
        subst e
        rw [List.take_of_length_le (show L.length ≤ l.length by omega)]
        repeat' ((first | (apply AWP.go ok; rfl) | (apply And.intro; omega) | (((with_reducible apply z13; omega)); intro _) | ((apply z10) <;> intro _)) <;> conv => whnf)
        all_goals first | (exfalso; omega) | skip
        all_goals (refine RetS.lay [4] [] rfl rfl rfl ?_; refine RetS.done ?_ ?_ <;> (repeat' (first | exact LocLe.refl _ | exact F2.nil | apply F2.cons | exact z34 _ | ((refine z33 rfl ?_ ?_); (focus ((repeat' ((exact z12 (fun _ => rfl)))); done))))))
end Go.Proofs.YtknlmbniicacmaaGreat

namespace Go.Proofs.YtknlmbniicacmaaGreat
open Go.Gl
attribute [local irreducible] z35 AWP z65 z78 z74 RetS z97

theorem snoc_list {w n n2 : Nat} {α : Type} {f : α → List AC} {l : List α} {x : α} {e : List AC} (hn : n = l.length) (h2 : n2 = l.length + 1) (h : F2 LocLe e (f x)) : LocLe (.list w n2 (((l.map f).take n) ++ [e])) (.list w (l ++ [x]).length ((l ++ [x]).map f)) := by
  subst hn
  refine z83 (by simp [h2]) ?_
  rw [List.take_of_length_le (by simp), List.map_append]
  have : ∀ (a : List (List AC)) {b c : List AC}, F2 LocLe b c → F2 (F2 LocLe) (a ++ [b]) (a ++ [c]) := fun a b c h => by
    induction a with
    | nil => exact .cons h .nil
    | cons x a ih => exact .cons (f2_refl x) ih
  exact this _ h
theorem snoc_tree {n n2 : Nat} {l : List Tree} {x : Tree} {e : List AC} (hn : n = l.length) (h2 : n2 = l.length + 1) (h : F2 LocLe e (Tree.cs' x)) : LocLe (.list 3 n2 (((l.map Tree.cs').take n) ++ [e])) (.list 3 (l ++ [x]).length ((l ++ [x]).map Tree.cs)) := by
  rw [Tree.cs_eq]; exact snoc_list hn h2 h

set_option maxHeartbeats 1600000 in
theorem l1Mutate_ok (bs : List Int) (hb : BytesOk bs) (p : Int) (hp : few p) (t : Tree) (ht : t.sz ≤ 1000) : ∃ (t' : Tree) (p' : Int), (t'.sz ≤ t.sz + 1 ∧ p ≤ p' ∧ p' ≤ p + 2) ∧ CallsA Tryz.prog 206 [.ptr 0 none 0, z93 Tree.cs' t] [rdO bs p] (z93 Tree.cs' t') [rdO bs p'] := by
  have cs := l1Subst_new t (by omega)
  have hsz := subZ_sz t
  generalize subZ t = u at *
  have hul : u.kids.length ≤ 1000 := by rw [Tree.sz_eq] at hsz; omega
  obtain ⟨v, ⟨lv, uv⟩, cv⟩ := z69 bs hb p 40 (by omega) (by omega) (by omega)
  rw [Tree.arg_eq t]
  rw [Tree.arg_eq t] at cs
  unfold ownT zeroE at cs
  by_cases h0 : v = 0
  · subst h0
    obtain ⟨k, mk, ck⟩ := z113 bs hb (p + 1) (by omega) (by omega) [0, 10, -1, 1, 2, 3, 4] (by decide) (by decide)
    refine ⟨.mk k u.val u.kids, p + 1 + 1, ⟨by rw [mk_sz]; rw [Tree.sz_eq] at hsz; omega, by omega, by omega⟩, ?_⟩
    refine z19 z26 Tryz.func206 rfl rfl 35 Tryz.ntmps206 (by simp) ?_
    repeat' ((first | (apply AWP.go ok; rfl) | ((first | (apply z8 [] [] [3] (cs); rfl; (focus ((repeat' exact z6) <;> fail))) | (apply z8 [0] [] [] (cv); rfl; (focus ((repeat' first | exact z6 | apply z7) <;> rfl))) | (apply z8 [0, 5] [] [] (ck); rfl; (focus ((repeat' first | exact z6 | apply z7) <;> rfl)))); rfl; rfl; rfl; rfl; rfl; (focus ((repeat' first | exact z17 | apply z15) <;> first | exact z25 rfl rfl | (refine z29 ?_; ((exact z12 fun _ => rfl))))); (exact .inl rfl))) <;> conv => whnf)
    all_goals skip
    all_goals (refine RetS.lay [0] [3] rfl rfl rfl ?_; refine RetS.done ?_ ?_ <;> (repeat' (first | exact LocLe.refl _ | exact F2.nil | apply F2.cons | exact f22_cs | apply ObjLe.box | ((apply z47 rfl rfl rfl); (focus ((repeat ((exact z36 (fun _ => rfl) _))); done)); (focus (((simp; done)); done))) | apply z75 | (apply z83; rfl))))
  by_cases h1 : v = 1
  · subst h1
    obtain ⟨k, mk, ck⟩ := z113 bs hb (p + 1) (by omega) (by omega) [-1, 4, 3, 9223372036854775807] (by decide) (by decide)
    refine ⟨.mk u.kind k u.kids, p + 1 + 1, ⟨by rw [mk_sz]; rw [Tree.sz_eq] at hsz; omega, by omega, by omega⟩, ?_⟩
    refine z19 z26 Tryz.func206 rfl rfl 35 Tryz.ntmps206 (by simp) ?_
    repeat' ((first | (apply AWP.go ok; rfl) | ((first | (apply z8 [] [] [3] (cs); rfl; (focus ((repeat' exact z6) <;> fail))) | (apply z8 [0] [] [] (cv); rfl; (focus ((repeat' first | exact z6 | apply z7) <;> rfl))) | (apply z8 [0, 5] [] [] (ck); rfl; (focus ((repeat' first | exact z6 | apply z7) <;> rfl)))); rfl; rfl; rfl; rfl; rfl; (focus ((repeat' first | exact z17 | apply z15) <;> first | exact z25 rfl rfl | (refine z29 ?_; ((exact z12 fun _ => rfl))))); (exact .inl rfl))) <;> conv => whnf)
    all_goals skip
    all_goals (refine RetS.lay [0] [3] rfl rfl rfl ?_; refine RetS.done ?_ ?_ <;> (repeat' (first | exact LocLe.refl _ | exact F2.nil | apply F2.cons | exact f22_cs | apply ObjLe.box | ((apply z47 rfl rfl rfl); (focus ((repeat ((exact z36 (fun _ => rfl) _))); done)); (focus (((simp; done)); done))) | apply z75 | (apply z83; rfl))))
  by_cases h2 : v = 2
  · subst h2
    refine ⟨.mk u.kind u.val (u.kids ++ [leaf 1 0]), p + 1, ⟨by rw [mk_sz]; rw [Tree.sz_eq] at hsz; simp [z103]; omega, by omega, by omega⟩, ?_⟩
    refine z19 z26 Tryz.func206 rfl rfl 35 Tryz.ntmps206 (by simp) ?_
    repeat' ((first | (apply AWP.go ok; rfl) | (apply And.intro; first | ((try dsimp only); simp only [List.length_map, List.length_take, List.length_append, List.length_replicate, List.length_cons, List.length_nil]; omega) | exact ⟨rfl, z18 rfl z23⟩) | ((first | (apply z8 [] [] [3] (cs); rfl; (focus ((repeat' exact z6) <;> fail))) | (apply z8 [0] [] [] (cv); rfl; (focus ((repeat' first | exact z6 | apply z7) <;> rfl)))); rfl; rfl; rfl; rfl; rfl; (focus ((repeat' first | exact z17 | apply z15) <;> first | exact z25 rfl rfl | (refine z29 ?_; ((exact z12 fun _ => rfl))))); (exact .inl rfl))) <;> conv => whnf)
    all_goals skip
    all_goals (refine RetS.lay [0] [6] rfl rfl rfl ?_; refine RetS.done ?_ ?_ <;> (repeat' (first | exact LocLe.refl _ | exact F2.nil | apply F2.cons | apply ObjLe.box | ((apply z47 rfl rfl rfl); (focus ((repeat (first | exact z36 (fun _ => rfl) _ | apply z107 | apply z137 | rfl)); done)); (focus (((simp; done)); done))) | apply z75)))
    all_goals exact snoc_tree rfl rfl (node_le' z61)
  by_cases h3 : v = 3
  · subst h3
    refine ⟨leaf 0 0, p + 1, ⟨by rw [z103]; omega, by omega, by omega⟩, ?_⟩
    refine z19 z26 Tryz.func206 rfl rfl 35 Tryz.ntmps206 (by simp) ?_
    repeat' ((first | (apply AWP.go ok; rfl) | ((first | (apply z8 [] [] [3] (cs); rfl; (focus ((repeat' exact z6) <;> fail))) | (apply z8 [0] [] [] (cv); rfl; (focus ((repeat' first | exact z6 | apply z7) <;> rfl)))); rfl; rfl; rfl; rfl; rfl; (focus ((repeat' first | exact z17 | apply z15) <;> first | exact z25 rfl rfl | (refine z29 ?_; ((exact z12 fun _ => rfl))))); (exact .inl rfl))) <;> conv => whnf)
    all_goals skip
    all_goals (refine RetS.lay [0] [] rfl rfl rfl ?_; refine RetS.done ?_ ?_ <;> (repeat' (first | exact LocLe.refl _ | exact z61 | exact F2.nil | apply F2.cons | apply ObjLe.box | apply z75)))
  · refine ⟨.mk u.kind u.val u.kids, p + 1, ⟨by rw [mk_sz]; rw [Tree.sz_eq] at hsz; omega, by omega, by omega⟩, ?_⟩
    refine z19 z26 Tryz.func206 rfl rfl 35 Tryz.ntmps206 (by simp) ?_
    repeat' ((first | (apply AWP.go ok; rfl) | (apply And.intro; omega) | ((apply z10) <;> intro _) | ((first | (apply z8 [] [] [3] (cs); rfl; (focus ((repeat' exact z6) <;> fail))) | (apply z8 [0] [] [] (cv); rfl; (focus ((repeat' first | exact z6 | apply z7) <;> rfl)))); rfl; rfl; rfl; rfl; rfl; (focus ((repeat' first | exact z17 | apply z15) <;> first | exact z25 rfl rfl | (refine z29 ?_; ((exact z12 fun _ => rfl))))); (exact .inl rfl))) <;> conv => whnf)
    all_goals first | (exfalso; omega) | skip
    all_goals (refine RetS.lay [0] [3] rfl rfl rfl ?_; refine RetS.done ?_ ?_ <;> (repeat' (first | exact LocLe.refl _ | exact F2.nil | apply F2.cons | exact f22_cs | apply ObjLe.box | ((apply z47 rfl rfl rfl); (focus ((repeat ((exact z36 (fun _ => rfl) _))); done)); (focus (((simp; done)); done))) | apply z75 | (apply z83; rfl))))
end Go.Proofs.YtknlmbniicacmaaGreat

namespace Go.Proofs.YtknlmbniicacmaaGreat
open Go.Gl
attribute [local irreducible] z35 AWP z65 z78 z74 RetS z97

theorem len3 {α : Type} {l : List α} (h : l.length = 3) : ∃ a b c, l = [a, b, c] := by
  match l, h with
  | [a, b, c], _ => exact ⟨a, b, c, rfl⟩

set_option maxHeartbeats 3200000 in
theorem l8Labels_new (bs : List Int) (hb : BytesOk bs) (p : Int) (hp : few1 p) : ∃ (M : List Tree) (n : Nat) (p' : Int), (n ≤ M.length ∧ M.length = 3 ∧ (∀ t ∈ M, t.sz ≤ 5) ∧ p ≤ p' ∧ p' ≤ p + 30) ∧ CallsA Tryz.prog 147 [.ptr 0 none 0] [rdO bs p] (.sref 1 0 n) [rdO bs p', .cells 3 (M.map Tree.cs')] := by
  obtain ⟨M, pf, hM, hp0, hst, hpf⟩ := seq_ex (fun _ q (t' : Tree) q' => t'.sz ≤ 3 ∧ ∃ t q1, CallsA Tryz.prog 205 [.ptr 0 none 0] [rdO bs q] (z93 Tree.cs' t) [rdO bs q1] ∧ ((t.kind = 1 ∧ ∃ w, t' = leaf 2 w ∧ q' = q1 + 1 ∧ CallsA Tryz.prog 73 [.ptr 0 none 0, .int 3] [rdO bs q1] (.int w) [rdO bs (q1 + 1)]) ∨ (t.kind ≠ 1 ∧ t' = t ∧ q' = q1))) p 6 3 (fun k q hk h1 h2 => by
    obtain ⟨t, q1, ⟨a1, a2, a3⟩, ct⟩ := l2Guard_ok bs hb q ⟨by omega, by omega⟩
    by_cases ht : t.kind = 1
    · obtain ⟨w, ⟨lw, uw⟩, cw⟩ := z69 bs hb q1 3 (by omega) (by omega) (by omega)
      exact ⟨leaf 2 w, q1 + 1, ⟨by rw [z103]; omega, t, q1, ct, .inl ⟨ht, w, rfl, rfl, cw⟩⟩, by omega, by omega⟩
    · exact ⟨t, q1, ⟨a1, t, q1, ct, .inr ⟨ht, rfl, rfl⟩⟩, by omega, by omega⟩)
  have hMs : ∀ t ∈ M, t.sz ≤ 3 := fun t ht => by
    obtain ⟨i, hi, rfl⟩ := List.mem_iff_getElem.1 ht
    exact (hst i hi).1
  have hp3 := hpf 3 (Nat.le_refl _)
  obtain ⟨v, ⟨lv, uv⟩, cv⟩ := z69 bs hb (pf 3) 40 (by omega) (by omega) (by omega)
  have key : ∀ (M' : List Tree) (n : Nat) (p' : Int), (v = 0 → n = 2 ∧ M' = M ∧ p' = pf 3 + 1) → (v ≠ 0 → v ≠ 1 → n = 3 ∧ M' = M ∧ p' = pf 3 + 1) → (v = 1 → n = 3 ∧ ∃ a b c u w q1, M = [a, b, c] ∧ M' = [a, w, c] ∧ CallsA Tryz.prog 206 [.ptr 0 none 0, z93 Tree.cs' b] [rdO bs (pf 3 + 1)] (z93 Tree.cs' u) [rdO bs q1] ∧ CallsA Tryz.prog 206 [.ptr 0 none 0, z93 Tree.cs' u] [rdO bs q1] (z93 Tree.cs' w) [rdO bs p']) → CallsA Tryz.prog 147 [.ptr 0 none 0] [rdO bs p] (.sref 1 0 n) [rdO bs p', .cells 3 (M'.map Tree.cs')] := by
    intro M' n p' k0 k2 k1
    refine z19 z26 Tryz.func147 rfl rfl 41 Tryz.ntmps147 (by simp) ?_
    repeat' (((apply AWP.go ok; rfl)) <;> conv => whnf)
    all_goals skip
    rw [← hp0]
    refine loopR (fun i : Nat => ([(0, .ptr 0 none 0), (3, .sref 1 0 i), (4, .int i)], [rdO bs (pf i), .cells 3 ((M.take i).map Tree.cs')])) (fun i => i ≤ 3) (fun i => 3 - i) 0 (by omega) (by refine SealW.reach [0, 1] [] rfl rfl rfl rfl ?_ ?_ <;> (repeat' (first | exact LocLe.refl _ | exact F2.nil | apply F2.cons | apply ObjLe.box | ((refine z33 rfl ?_ ?_); (focus ((repeat' (exact z49)); done))) | exact True.intro | apply And.intro))) ?_
    intro i hi
    by_cases hil : i < 3
    · obtain ⟨a1, t, q1, ct, ht⟩ := hst i (by omega)
      have hiM : i < M.length := by omega
      rw [Tree.arg_eq t] at ct
      rcases ht with ⟨h1, w, h2, h3, cw⟩ | ⟨h1, h2, h3⟩
      · repeat' ((first | (apply AWP.go ok; rfl) | (apply And.intro; first | omega | (unfold inI; omega) | ((try dsimp only); simp only [List.length_map, List.length_take, List.length_append, List.length_replicate, List.length_cons, List.length_nil]; omega) | exact ⟨rfl, z18 rfl z23⟩) | ((apply z10) <;> intro _) | ((first | (apply z8 [0] [] [] (ct); rfl; (focus ((repeat' first | exact z6 | apply z7) <;> rfl))) | (apply z8 [0] [] [] (cw); rfl; (focus ((repeat' first | exact z6 | apply z7) <;> rfl)))); rfl; rfl; rfl; rfl; rfl; (focus ((repeat' first | exact z17 | apply z15) <;> exact z25 rfl rfl)); (exact .inl rfl))) <;> conv => whnf)
        all_goals first | (exfalso; omega) | skip
        have e1 : M[i].kind = 2 := by rw [h2]; rfl
        have e2 : M[i].val = w := by rw [h2]; rfl
        have e3 : M[i].kids = [] := by rw [h2]; rfl
        all_goals refine z79 (i + 1) (by omega) (by omega) (by refine SealW.reach [0, 4] [] rfl rfl rfl rfl ?_ ?_ <;> (repeat' (first | exact LocLe.refl _ | (refine nils_of ?_; assumption) | exact F2.nil | apply F2.cons | (refine int_le ?_; omega) | apply ObjLe.box | ((refine z56 rfl ?_ ?_); (focus ((repeat' (first | exact z12 (fun _ => rfl) | apply z37)); done))) | (refine z126 (by omega) (by omega) ?_) | exact True.intro | apply And.intro)))
      · subst h2
        repeat' ((first | (apply AWP.go ok; rfl) | (apply And.intro; first | (unfold inI; omega) | ((try dsimp only); simp only [List.length_map, List.length_take, List.length_append, List.length_replicate, List.length_cons, List.length_nil]; omega) | exact ⟨rfl, z18 rfl z23⟩) | ((apply z10) <;> intro _) | (((apply z8 [0] [] [] (ct); rfl; (focus ((repeat' first | exact z6 | apply z7) <;> rfl)))); rfl; rfl; rfl; rfl; rfl; (focus ((repeat' first | exact z17 | apply z15) <;> exact z25 rfl rfl)); (exact .inl rfl))) <;> conv => whnf)
        all_goals first | (exfalso; omega) | skip
        all_goals refine z79 (i + 1) (by omega) (by omega) (by refine SealW.reach [0, 4] [] rfl rfl rfl rfl ?_ ?_ <;> (repeat' (first | exact LocLe.refl _ | exact F2.nil | apply F2.cons | exact f22_cs | (refine int_le ?_; omega) | apply ObjLe.box | ((refine z56 rfl ?_ ?_); (focus ((repeat' (first | exact z12 (fun _ => rfl) | apply z37)); done))) | (refine z126 (by omega) (by omega) ?_) | (apply z83; rfl) | exact True.intro | apply And.intro)))
    · have : i = 3 := by omega
      subst this
      obtain ⟨a, b, c, rfl⟩ := len3 hM
      by_cases h0 : v = 0
      · obtain ⟨rfl, rfl, rfl⟩ := k0 h0
        subst h0
        repeat' ((first | (apply AWP.go ok; rfl) | (apply And.intro; omega) | (((apply z8 [0] [] [] (cv); rfl; (focus ((repeat' first | exact z6 | apply z7) <;> rfl)))); rfl; rfl; rfl; rfl; rfl; (focus ((repeat' first | exact z17 | apply z15) <;> exact z25 rfl rfl)); (exact .inl rfl))) <;> conv => whnf)
        all_goals skip
        all_goals (refine RetS.lay [0, 1] [] rfl rfl rfl ?_; refine RetS.done ?_ ?_ <;> (repeat' (first | exact LocLe.refl _ | exact F2.nil | apply F2.cons | apply ObjLe.box | ((refine z33 rfl ?_ ?_); (focus ((repeat' ((exact z12 (fun _ => rfl)))); done))))))
      by_cases h1 : v = 1
      · obtain ⟨rfl, a', b', c', u, w, q1, e, rfl, c1, c2⟩ := k1 h1
        simp only [List.cons.injEq, and_true] at e
        obtain ⟨rfl, rfl, rfl⟩ := e
        subst h1
        rw [Tree.arg_eq u] at c1 c2
        rw [Tree.arg_eq w] at c2
        repeat' ((first | (apply AWP.go ok; rfl) | (apply And.intro; omega) | apply z50 | ((first | (apply z8 [0] [] [] (cv); rfl; (focus ((repeat' first | exact z6 | apply z7) <;> rfl))) | (apply z8 [0] [] [] (c1); rfl; (focus ((repeat' first | exact z6 | apply z7) <;> rfl))) | (apply z8 [0] [] [] (c2); rfl; (focus ((repeat' first | exact z6 | apply z7) <;> rfl)))); rfl; rfl; rfl; rfl; rfl; (focus ((repeat' first | exact z17 | apply z15) <;> exact z25 rfl rfl)); (exact .inl rfl))) <;> conv => whnf)
        all_goals skip
        all_goals (refine RetS.lay [0, 1] [] rfl rfl rfl ?_; refine RetS.done ?_ ?_ <;> (repeat' (first | exact LocLe.refl _ | exact F2.nil | apply F2.cons | exact f22_cs | apply ObjLe.box | ((refine pass_set rfl ?_ ?_); (focus ((repeat' ((exact z12 (fun _ => rfl)))); done))) | (apply z83; rfl))))
      · obtain ⟨rfl, rfl, rfl⟩ := k2 h0 h1
        repeat' ((first | (apply AWP.go ok; rfl) | (apply And.intro; omega) | (((apply z13; omega)); intro _) | ((apply z10) <;> intro _) | (((apply z8 [0] [] [] (cv); rfl; (focus ((repeat' first | exact z6 | apply z7) <;> rfl)))); rfl; rfl; rfl; rfl; rfl; (focus ((repeat' first | exact z17 | apply z15) <;> exact z25 rfl rfl)); (exact .inl rfl))) <;> conv => whnf)
        all_goals first | (exfalso; omega) | skip
        all_goals (refine RetS.lay [0, 1] [] rfl rfl rfl ?_; refine RetS.done ?_ ?_ <;> (repeat' (first | exact LocLe.refl _ | exact F2.nil | apply F2.cons | apply ObjLe.box | ((refine z33 rfl ?_ ?_); (focus ((repeat' ((exact z12 (fun _ => rfl)))); done))))))
  by_cases h1 : v = 1
  · obtain ⟨a, b, c, rfl⟩ := len3 hM
    have hb1 := hMs b (by simp)
    obtain ⟨u, q1, ⟨b1, b2, b3⟩, c1⟩ := l1Mutate_ok bs hb (pf 3 + 1) ⟨by omega, by omega⟩ b (by omega)
    obtain ⟨w, q2, ⟨d1, d2, d3⟩, c2⟩ := l1Mutate_ok bs hb q1 ⟨by omega, by omega⟩ u (by omega)
    refine ⟨[a, w, c], 3, q2, ⟨by simp, by simp, fun t ht => ?_, by omega, by omega⟩, key _ _ _ (fun h => by omega) (fun _ h => absurd h1 h) fun _ => ⟨rfl, a, b, c, u, w, q1, rfl, rfl, c1, c2⟩⟩
    have ha := hMs a (by simp)
    have hc := hMs c (by simp)
    simp only [List.mem_cons, List.not_mem_nil, or_false] at ht
    rcases ht with rfl | rfl | rfl <;> omega
  · by_cases h0 : v = 0
    · exact ⟨M, 2, pf 3 + 1, ⟨by omega, hM, fun t ht => by have := hMs t ht; omega, by omega, by omega⟩, key _ _ _ (fun _ => ⟨rfl, rfl, rfl⟩) (fun h => absurd h0 h) fun h => absurd h h1⟩
    · exact ⟨M, 3, pf 3 + 1, ⟨by omega, hM, fun t ht => by have := hMs t ht; omega, by omega, by omega⟩, key _ _ _ (fun h => absurd h h0) (fun _ _ => ⟨rfl, rfl, rfl⟩) fun h => absurd h h1⟩
end Go.Proofs.YtknlmbniicacmaaGreat

namespace Go.Proofs.YtknlmbniicacmaaGreat
open Go.Gl
attribute [local irreducible] z35 AWP z65 z78 z74 RetS z97

theorem Lmx_of {L : List Tree} (h1 : L.length ≤ 10) (h2 : ∀ t ∈ L, t.sz ≤ 1000) : Lmx L := ⟨by unfold maxLen; omega, fun t ht => mx_of_sz t (by have := h2 t ht; unfold maxLen; omega)⟩

theorem mix_set {α : Type} {f : α → List AC} {N M : List α} {i : Nat} {e : List AC} (hi : i < M.length) (hl : N.length = M.length) (he : e = f (N[i]'(by omega))) : ((N.take i ++ M.drop i).map f).set i e = (N.take (i + 1) ++ M.drop (i + 1)).map f := by
  subst he
  have hN : i < N.length := by omega
  rw [List.map_append, List.set_append_right _ _ (by simp; omega)]
  simp only [List.length_map, List.length_take]
  rw [show i - min i N.length = 0 by omega, List.drop_eq_getElem_cons hi, List.map_cons, List.set_cons_zero, List.take_succ_eq_append_getElem hN, List.map_append, List.map_append]
  simp
theorem set_le {l : List (List AC)} {i j : Nat} {e e' : List AC} (hj : j = i) (h : F2 LocLe e e') : F2 (F2 LocLe) (l.set j e) (l.set i e') := by
  subst hj
  induction l generalizing j with
  | nil => exact .nil
  | cons x l ih =>
    cases j with
    | zero => exact .cons h (z34 _)
    | succ j => exact .cons (f2_refl _) ih
theorem mix_le {α : Type} {f : α → List AC} {N M : List α} {i j : Nat} {e : List AC} (hj : j = i) (hi : i < M.length) (hl : N.length = M.length) (he : F2 LocLe e (f (N[i]'(by omega)))) : F2 (F2 LocLe) (((N.take i ++ M.drop i).map f).set j e) ((N.take (i + 1) ++ M.drop (i + 1)).map f) := by
  rw [← mix_set hi hl rfl]; exact set_le hj he
theorem mix_keep {α : Type} {N M : List α} {i : Nat} (hi : i < M.length) (hl : N.length = M.length) (he : N[i]'(by omega) = M[i]) : N.take i ++ M.drop i = N.take (i + 1) ++ M.drop (i + 1) := by
  rw [List.drop_eq_getElem_cons hi, List.take_succ_eq_append_getElem (show i < N.length by omega), he]; simp

set_option maxHeartbeats 3200000 in
theorem l10Labels_new (bs : List Int) (hb : BytesOk bs) (p : Int) (hp : few1 p) : ∃ (M : List Tree) (n : Nat) (p' : Int), (n ≤ M.length ∧ M.length = 3 ∧ (∀ t ∈ M, t.sz ≤ 5) ∧ p ≤ p' ∧ p' ≤ p + 40) ∧ CallsA Tryz.prog 84 [.ptr 0 none 0] [rdO bs p] (.sref 1 0 n) [rdO bs p', .cells 3 (M.map Tree.cs')] := by
  obtain ⟨M, n, q, ⟨h1, h2, h3, h4, h5⟩, c⟩ := l8Labels_new bs hb p hp
  obtain ⟨W, pf, hW, hp0, hst, hpf⟩ := seq_ex (fun _ q (v : Int) q' => q' = q + 1 ∧ CallsA Tryz.prog 73 [.ptr 0 none 0, .int 2] [rdO bs q] (.int v) [rdO bs (q + 1)]) q 1 n (fun k q hk a1 a2 => by
    obtain ⟨w, _, cw⟩ := z69 bs hb q 2 (by omega) (by omega) (by omega)
    exact ⟨w, q + 1, ⟨rfl, cw⟩, by omega, by omega⟩)
  have hpn := hpf n (Nat.le_refl _)
  obtain ⟨N, hNl, hNi⟩ : ∃ (N : List Tree) (h : N.length = M.length), ∀ i (hi : i < M.length), N[i]'(by omega) = if i < n ∧ W.getD i 1 = 0 then leaf 1 1 else M[i] := by
    refine ⟨(List.range M.length).map fun j => if j < n ∧ W.getD j 1 = 0 then leaf 1 1 else M.getD j (leaf 0 0), by simp, fun i hi => ?_⟩
    simp only [List.getElem_map, List.getElem_range]
    split
    · rfl
    · exact z20 hi
  refine ⟨N, n, pf n, ⟨by omega, by omega, fun t ht => ?_, by omega, by omega⟩, ?_⟩
  · obtain ⟨i, hi, rfl⟩ := List.mem_iff_getElem.1 ht
    rw [hNi i (by omega)]
    split
    · rw [z103]; omega
    · exact h3 _ (List.getElem_mem _)
  have hNn : N = N.take n ++ M.drop n := by
    apply List.ext_getElem (by simp [hNl]; omega)
    intro i hi hi2
    by_cases hin : i < n
    · rw [List.getElem_append_left (by simp; omega), List.getElem_take]
    · rw [List.getElem_append_right (by simp; omega), hNi i (by omega), if_neg (by omega)]
      simp only [List.length_take, List.getElem_drop]
      congr 1; omega
  rw [hNn]
  rw [← hp0] at c
  refine z19 z26 Tryz.func84 rfl rfl 21 Tryz.ntmps84 (by simp) ?_
  repeat' ((first | (apply AWP.go ok; rfl) | (((apply z8 [0] [] [1] (c); rfl; (focus ((repeat' first | exact z6 | apply z7) <;> rfl)))); rfl; rfl; rfl; rfl; rfl; (focus ((repeat' first | exact z17 | apply z15) <;> first | exact z25 rfl rfl | (refine z29 ?_; ((exact z12 fun _ => rfl))))); (exact .inl rfl))) <;> conv => whnf)
  all_goals skip
  refine loopR (fun i : Nat => ([(0, .ptr 0 none 0), (3, .sref 1 0 n), (4, .int i)], [rdO bs (pf i), .cells 3 ((N.take i ++ M.drop i).map Tree.cs')])) (fun i => i ≤ n) (fun i => n - i) 0 (by omega) (by refine SealW.reach [0, 1] [] rfl rfl rfl rfl ?_ ?_ <;> (repeat' (first | exact LocLe.refl _ | exact F2.nil | apply F2.cons | exact z34 _ | apply ObjLe.box | ((refine z33 rfl ?_ ?_); (focus ((repeat' ((exact z12 (fun _ => rfl)))); done))) | exact True.intro | apply And.intro))) ?_
  intro i hi
  by_cases hin : i < n
  · obtain ⟨e1, cw⟩ := hst i (by omega)
    have hiM : i < M.length := by omega
    have e2 := hNi i hiM
    have hl3 : (N.take i ++ M.drop i).length = 3 := by simp; omega
    by_cases hw : W[i]'(by omega) = 0
    · rw [if_pos ⟨hin, by rw [z20 (by omega), hw]⟩] at e2
      rw [hw] at cw
      repeat' ((first | (apply AWP.go ok; rfl) | (apply And.intro; first | omega | (unfold inI; omega)) | (((apply z13; omega)); intro _) | ((apply z10) <;> intro _) | (((apply z8 [0] [] [] (cw); rfl; (focus ((repeat' first | exact z6 | apply z7) <;> rfl)))); rfl; rfl; rfl; rfl; rfl; (focus ((repeat' first | exact z17 | apply z15) <;> exact z25 rfl rfl)); (exact .inl rfl))) <;> conv => whnf)
      all_goals first | (exfalso; omega) | skip
      all_goals refine z79 (i + 1) (by omega) (by omega) (by refine SealW.reach [0, 1] [] rfl rfl rfl rfl ?_ ?_ <;> (repeat' (first | exact LocLe.refl _ | exact F2.nil | apply F2.cons | (refine int_le ?_; omega) | apply ObjLe.box | ((refine pass_set rfl ?_ ?_); (focus ((repeat' ((exact z12 (fun _ => rfl)))); done))) | exact True.intro | apply And.intro)) <;> (exact mix_le (by omega) hiM hNl (by rw [e2]; exact node_le' z61)))
    · rw [if_neg (fun h => hw (by rw [← h.2, z20 (by omega)]))] at e2
      have e3 := mix_keep hiM hNl e2
      repeat' ((first | (apply AWP.go ok; rfl) | (apply And.intro; first | omega | (unfold inI; omega)) | (((apply z13; omega)); intro _) | ((apply z10) <;> intro _) | (((apply z8 [0] [] [] (cw); rfl; (focus ((repeat' first | exact z6 | apply z7) <;> rfl)))); rfl; rfl; rfl; rfl; rfl; (focus ((repeat' first | exact z17 | apply z15) <;> exact z25 rfl rfl)); (exact .inl rfl))) <;> conv => whnf)
      all_goals first | (exfalso; omega) | skip
      all_goals refine z79 (i + 1) (by omega) (by omega) (by refine SealW.reach [0, 1] [] rfl rfl rfl rfl ?_ ?_ <;> (repeat' (first | exact LocLe.refl _ | exact F2.nil | apply F2.cons | (refine int_le ?_; omega) | apply ObjLe.box | ((refine z33 rfl ?_ ?_); (focus ((repeat' ((exact z12 (fun _ => rfl)))); done))) | exact True.intro | apply And.intro)) <;> (exact f22_of_eq (by rw [e3])))
  · have : i = n := by omega
    subst this
    repeat' ((first | (apply AWP.go ok; rfl) | ((apply z10) <;> intro _)) <;> conv => whnf)
    all_goals first | (exfalso; omega) | skip
    all_goals (refine RetS.lay [0, 1] [] rfl rfl rfl ?_; refine RetS.done ?_ ?_ <;> (repeat' (first | exact LocLe.refl _ | exact F2.nil | apply F2.cons | exact z34 _ | apply ObjLe.box | ((refine z33 rfl ?_ ?_); (focus ((repeat' ((exact z12 (fun _ => rfl)))); done))))))
end Go.Proofs.YtknlmbniicacmaaGreat

namespace Go.Proofs.YtknlmbniicacmaaGreat
open Go.Gl
attribute [local irreducible] z35 AWP z65 z78 z74 RetS z97

def countL (n : Nat) : List Int := (List.range n).map Int.ofNat
theorem countL_len (n : Nat) : (countL n).length = n := by simp [countL]
theorem countL_at {n i : Nat} (h : i < (countL n).length) : (countL n)[i] = i := by simp [countL]
theorem l4Count_ok (n : Nat) (hn : n ≤ 1000000) : CallsA Tryz.prog 172 [.int n] [] (ints (countL n)) [] := by
  refine z19 z26 Tryz.func172 rfl rfl 16 Tryz.ntmps172 (by simp) ?_
  repeat' (((apply AWP.go ok; rfl)) <;> conv => whnf)
  refine loopR (fun i : Nat => ([(0, .int n), (3, .sref 0 0 i), (4, .int i)], [.cells 1 (((countL n).take i).map enI)])) (fun i => i ≤ n) (fun i => n - i) 0 (by omega) (by refine SealW.reach [0] [] rfl rfl rfl rfl ?_ ?_ <;> (repeat' (first | exact LocLe.refl _ | exact F2.nil | apply F2.cons | ((refine z33 rfl ?_ ?_); (focus ((repeat' (exact z49)); done))) | exact True.intro | apply And.intro))) ?_
  intro i hi
  by_cases hin : i < n
  · have hl : i < (countL n).length := by rw [countL_len]; exact hin
    have e := countL_at hl
    repeat' ((first | (apply AWP.go ok; rfl) | (apply And.intro; first | (unfold inI; omega) | ((try dsimp only); simp only [List.length_map, List.length_take, List.length_append, List.length_replicate, List.length_cons, List.length_nil]; omega) | exact ⟨rfl, z18 rfl z23⟩) | ((apply z10) <;> intro _)) <;> conv => whnf)
    all_goals first | (exfalso; omega) | skip
    all_goals refine z79 (i + 1) (by omega) (by omega) (by refine SealW.reach [2] [] rfl rfl rfl rfl ?_ ?_ <;> (repeat' (first | exact LocLe.refl _ | exact F2.nil | apply F2.cons | (refine int_le ?_; omega) | ((refine z56 rfl ?_ ?_); (focus ((repeat' (first | exact z12 (fun _ => rfl) | apply z37)); done))) | (refine z126 (by omega) (by omega) ?_) | exact True.intro | apply And.intro)))
  · have e : i = n := by omega
    subst e
    have hl := countL_len i
    rw [List.take_of_length_le (by omega)]
    generalize countL i = L at *
    repeat' ((first | (apply AWP.go ok; rfl) | (apply And.intro; omega) | ((apply z10) <;> intro _)) <;> conv => whnf)
    all_goals first | (exfalso; omega) | skip
    all_goals (refine RetS.lay [] [0] rfl rfl rfl ?_; refine RetS.done ?_ ?_ <;> (repeat' (first | exact F2.nil | (refine lst_le ?_; omega) | ((apply z47 rfl rfl rfl); (focus ((repeat ((exact z36 (fun _ => rfl) _))); done)); (focus (((simp; omega)); done))))))

structure State.sm (s : State) : Prop where
  a : s.a.length ≤ 100
  b : s.b.length ≤ 100
structure Graph.sm (g : Graph) : Prop where
  st : g.st.length ≤ 100
  nx : g.nx.length ≤ 100
  el : ∀ s ∈ g.st, s.sm
  row : ∀ r ∈ g.nx, r.length ≤ 1000
theorem Graph.sm.mx {g : Graph} (h : g.sm) : g.mx := by
  have h1 := h.st
  have h2 := h.nx
  refine ⟨?_, by unfold maxLen; omega, fun l hl => by have := h.row l hl; unfold maxLen; omega⟩
  have h3 := h.el
  exact ⟨by unfold maxLen; omega, fun s hs => ⟨by have := (h3 s hs).a; unfold maxLen; omega, by have := (h3 s hs).b; unfold maxLen; omega⟩⟩

theorem l4States_new (g : Graph) (hg : g.sm) (path : List Int) (hp : path.length ≤ 1000) (hin : ∀ x ∈ path, 0 ≤ x ∧ x < g.st.length) (S : List State) (hS : S.length = path.length) (he : ∀ i (h : i < path.length) (h2 : i < S.length), g.st[(path[i]).toNat]? = some S[i]) :
    CallsA Tryz.prog 219 [.agg g.cs, ints path] [] (.sref 0 0 S.length) [.cells 2 (S.map State.cs)] := by
  refine z19 z26 Tryz.func219 rfl rfl 36 Tryz.ntmps219 (by simp) ?_
  repeat' (((apply AWP.go ok; rfl)) <;> conv => whnf)
  refine loopR (fun i : Nat => ([(1, ints path), (2, .ptr 0 none 0), (5, .sref 1 0 i), (6, .int i)], [.cells 2 [g.cs], .cells 2 ((S.take i).map State.cs)])) (fun i => i ≤ path.length) (fun i => path.length - i) 0 (by omega) (by refine SealW.reach [0, 1] [] rfl rfl rfl rfl ?_ ?_ <;> (repeat' (first | exact LocLe.refl _ | exact F2.nil | apply F2.cons | apply ObjLe.box | ((refine z33 rfl ?_ ?_); (focus ((repeat' (exact z49)); done))) | exact True.intro | apply And.intro))) ?_
  intro i hi
  by_cases hip : i < path.length
  · have hl : i < S.length := by omega
    have hx := hin path[i] (List.getElem_mem _)
    have g0 : (path.map enI)[i]? = some (enI path[i]) := by rw [List.getElem?_map, List.getElem?_eq_getElem hip]; rfl
    have g1 := he i hip hl
    have g2 : (g.st.map State.cs)[(path[i]).toNat]? = some (State.cs S[i]) := by rw [List.getElem?_map, g1]; rfl
    have hs := hg.el S[i] (List.mem_of_getElem? g1)
    have ha := hs.a
    have hb := hs.b
    generalize path[i] = x at *
    repeat' ((first | (apply AWP.go ok; rfl) | (apply z30; kernel_rfl) | (refine z32 (i := i) rfl g0 ?_) | (refine z32 (i := x.toNat) rfl g2 ?_) | (apply And.intro; first | omega | (unfold inI; omega) | (dsimp only; omega) | ((try dsimp only); simp only [List.length_map, List.length_take, List.length_append, List.length_replicate, List.length_cons, List.length_nil]; omega) | exact z16 (fun _ => rfl) | exact ⟨rfl, z18 rfl z23⟩) | ((apply z10) <;> intro _)) <;> conv => whnf)
    all_goals first | (exfalso; omega) | skip
    all_goals refine z79 (i + 1) (by omega) (by omega) (by refine SealW.reach [0, 8] [4, 6] rfl rfl rfl rfl ?_ ?_ <;> (repeat' (first | exact LocLe.refl _ | exact F2.nil | apply F2.cons | (refine lst_le ?_; omega) | apply ObjLe.box | ((refine z56 rfl ?_ ?_); (focus ((repeat' (first | exact z12 (fun _ => rfl) | apply z37)); done))) | (refine z126 (by omega) (by omega) ?_) | ((apply z92 rfl rfl rfl); (focus ((repeat ((exact z36 (fun _ => rfl) _))); done)); (focus (((simp; done)); done))) | exact True.intro | apply And.intro)))
  · have e : i = S.length := by omega
    subst e
    rw [List.take_of_length_le (by omega)]
    repeat' ((first | (apply AWP.go ok; rfl) | (apply z30; kernel_rfl) | (apply And.intro; omega) | ((first | (with_reducible apply z13; omega) | (with_reducible apply z43; omega)); intro _) | ((apply z10) <;> intro _)) <;> conv => whnf)
    all_goals first | (exfalso; omega) | skip
    all_goals (refine RetS.lay [1] [] rfl rfl rfl ?_; refine RetS.done ?_ ?_ <;> (repeat' (first | exact LocLe.refl _ | exact F2.nil | apply F2.cons | exact z34 _ | ((refine z33 rfl ?_ ?_); (focus ((repeat' ((exact z12 (fun _ => rfl)))); done))))))
end Go.Proofs.YtknlmbniicacmaaGreat

namespace Go.Proofs.YtknlmbniicacmaaGreat
open Go.Gl
attribute [local irreducible] z35 AWP z65 z78 z74 RetS z97

theorem countL_in {n : Nat} {x : Int} (h : x ∈ countL n) : 0 ≤ x ∧ x < n := by
  unfold countL at h
  obtain ⟨i, hi, rfl⟩ := List.mem_map.1 h
  have := List.mem_range.1 hi
  show (0 : Int) ≤ (i : Int) ∧ (i : Int) < n
  omega
theorem snoc_at {α : Type} (a : List α) (x : α) (k : Nat) (h : a.length = k) : (a ++ [x])[k]? = some x := by subst h; simp
set_option maxHeartbeats 1600000 in
theorem l4Copy_new (g : Graph) (hg : g.sm) : CallsA Tryz.prog 167 [.agg g.cs] [] (.agg [.sref 0 0 g.st.length, .sref 1 0 g.nx.length]) [.cells 2 (g.st.map State.cs), .cells 1 (g.nx.map ownRow)] := by
  have hst := hg.st
  have hnx := hg.nx
  have c1 := l4Count_ok g.st.length (by omega)
  have c2 := l4States_new g hg (countL g.st.length) (by rw [countL_len]; omega) (fun x hx => countL_in hx) g.st (by rw [countL_len]) (fun i h h2 => by rw [countL_at h]; simp)
  generalize countL g.st.length = C at *
  refine z19 z26 Tryz.func167 rfl rfl 32 Tryz.ntmps167 (by simp) ?_
  repeat' ((first | (apply AWP.go ok; rfl) | (apply z30; kernel_rfl) | (apply z11 (c1); rfl; rfl) | (((apply z8 [] [] [2] (c2); rfl; (focus ((repeat' exact z6) <;> fail)))); rfl; rfl; rfl; rfl; rfl; (focus ((repeat' first | exact z17 | apply z15) <;> (refine z29 ?_; ((exact z12 fun _ => rfl))))); (exact .inl rfl))) <;> conv => whnf)
  all_goals skip
  refine AWP.reach (Reach.empty 1 rfl) ?_
  refine loopR (fun i : Nat => ([(1, .ptr 0 none 0), (2, .ptr 1 none 0), (3, .ptr 3 none 0), (4, .int i)], [.cells 2 [g.cs], .cells 2 [[.nils, .nils]], .cells 2 (g.st.map State.cs), .cells 2 [[.sref 2 0 g.st.length, .sref 4 0 i]], .cells 1 ((g.nx.take i).map ownRow)])) (fun i => i ≤ g.nx.length) (fun i => g.nx.length - i) 0 (by omega) (by refine SealW.reach [0, 1, 2, 3, 4] [] rfl rfl rfl rfl ?_ ?_ <;> (repeat' (first | exact LocLe.refl _ | exact z99 | exact F2.nil | apply F2.cons | exact z34 _ | apply ObjLe.box | ((refine z33 rfl ?_ ?_); (focus ((repeat' (first | exact z49 | exact z12 (fun _ => rfl))); done))) | exact True.intro | apply And.intro))) ?_
  intro i hi
  by_cases hin : i < g.nx.length
  · have hr := hg.row g.nx[i] (List.getElem_mem _)
    have g0 : (g.nx.map encL)[i]? = some (encL g.nx[i]) := by rw [List.getElem?_map, List.getElem?_eq_getElem hin]; rfl
    have htl : ((g.nx.take i).map ownRow).length = i := by simp; omega
    have hrow : ownRow g.nx[i] = [.own 1 (g.nx[i].map enI)] := rfl
    have htk : (g.nx.take (i + 1)).map ownRow = (g.nx.take i).map ownRow ++ [ownRow g.nx[i]] := by rw [List.take_succ_eq_append_getElem hin, List.map_append]; rfl
    generalize hrw : g.nx[i] = row at *
    repeat' ((first | (apply AWP.go ok; rfl) | (apply z30; kernel_rfl) | (refine z32 (i := i) rfl g0 ?_) | (apply And.intro; first | omega | (unfold inI; omega) | (dsimp only; omega) | exact z16 (fun _ => rfl) | exact ⟨rfl, z18 rfl z23⟩) | ((apply z10) <;> intro _)) <;> conv => whnf)
    all_goals first | (exfalso; omega) | skip
    all_goals refine z79 (i + 1) (by omega) (by omega) (by
      refine Gl.Reach.trans (Gl.Reach.absorb (e := [.sref 6 0 (0 + row.length)]) 8 6 i 0 rfl (snoc_at _ _ i (by simp; omega)) rfl rfl (by simp) rfl (z58 z49 (z12 fun _ => rfl)) rfl) ?_
      exact (by refine SealW.reach [0, 1, 2, 3, 8] [] rfl rfl rfl rfl ?_ ?_ <;> (repeat' (first | exact LocLe.refl _ | exact F2.nil | apply F2.cons | exact z34 _ | apply ObjLe.box | ((first | refine pass_set rfl ?_ ?_ | refine z33 rfl ?_ ?_); (focus ((repeat' (first | exact z12 (fun _ => rfl) | apply z58 | apply z37)); done))) | (refine z33 rfl ?_ ?_; (focus (refine flat_snoc_set ?_ ?_ rfl <;> first | (simp; omega) | (apply z37; exact z12 fun _ => rfl)))) | (refine snoc_set_le ?_ ?_; (focus (simp; omega))) | (refine z126 (by omega) (by omega) ?_) | exact True.intro | apply And.intro)) <;> (rw [hrw]; exact LocLe.refl _)))
  · have e : i = g.nx.length := by omega
    subst e
    rw [List.take_length]
    repeat' ((first | (apply AWP.go ok; rfl) | (apply z30; kernel_rfl) | (apply And.intro; omega) | (((with_reducible apply z13; omega)); intro _) | ((apply z10) <;> intro _)) <;> conv => whnf)
    all_goals first | (exfalso; omega) | skip
    all_goals (refine RetS.lay [2, 4] [] rfl rfl rfl ?_; refine RetS.done ?_ ?_ <;> (repeat' (first | exact LocLe.refl _ | exact F2.nil | apply F2.cons | exact z34 _ | ((refine z33 rfl ?_ ?_); (focus ((repeat' ((exact z12 (fun _ => rfl)))); done))))))
end Go.Proofs.YtknlmbniicacmaaGreat

namespace Go.Proofs.YtknlmbniicacmaaGreat
open Go.Gl
attribute [local irreducible] z35 AWP z65 z78 z74 RetS z97

set_option maxHeartbeats 3200000 in
theorem l4Mutate_ok (bs : List Int) (hb : BytesOk bs) (p : Int) (hp : few p) (g : Graph) (hg : g.sm) (h1 : 1 ≤ g.st.length) (h2 : g.nx.length = g.st.length) : ∃ (g' : Graph) (p' : Int), (g'.st.length ≤ 100 ∧ g'.nx.length ≤ 101 ∧ (∀ s ∈ g'.st, s.sm) ∧ (∀ r ∈ g'.nx, r.length ≤ 1001) ∧ p ≤ p' ∧ p' ≤ p + 3) ∧ CallsA Tryz.prog 85 [.ptr 0 none 0, .agg g.cs] [rdO bs p] (.agg g'.cs) [rdO bs p'] := by
  have hst := hg.st
  have hnx := hg.nx
  have cc := l4Copy_new g hg
  obtain ⟨k, ⟨k0, k1⟩, ck⟩ := z69 bs hb p g.st.length (by omega) (by omega) (by omega)
  obtain ⟨v, ⟨v0, v1⟩, cv⟩ := z69 bs hb (p + 1) 50 (by omega) (by omega) (by omega)
  have hks : k.toNat < g.st.length := by omega
  have hkn : k.toNat < g.nx.length := by omega
  have hrows : ∀ r ∈ g.nx, r.length ≤ 1001 := fun r hr => by have := hg.row r hr; omega
  by_cases e0 : v = 0
  · subst e0
    refine ⟨⟨g.st, g.nx ++ [[0]]⟩, p + 1 + 1, ⟨hst, by simp; omega, hg.el, fun r hr => ?_, by omega, by omega⟩, ?_⟩
    · simp only [List.mem_append, List.mem_singleton] at hr
      rcases hr with hr | rfl
      · exact hrows r hr
      · simp
    refine z19 z26 Tryz.func85 rfl rfl 62 Tryz.ntmps85 (by simp) ?_
    repeat' ((first | (apply AWP.go ok; rfl) | (apply And.intro; first | ((try dsimp only); simp only [List.length_map, List.length_take, List.length_append, List.length_replicate, List.length_cons, List.length_nil]; omega) | exact ⟨rfl, z18 rfl z23⟩) | ((first | (apply z8 [] [] [3, 4] (cc); rfl; (focus ((repeat' exact z6) <;> fail))) | (apply z8 [0] [] [] (ck); rfl; (focus ((repeat' first | exact z6 | apply z7) <;> rfl))) | (apply z8 [0] [] [] (cv); rfl; (focus ((repeat' first | exact z6 | apply z7) <;> rfl)))); rfl; rfl; rfl; rfl; rfl; (focus ((repeat' first | exact z17 | apply z15) <;> first | exact z25 rfl rfl | (refine z29 ?_; ((exact z12 fun _ => rfl))))); (exact .inl rfl))) <;> conv => whnf)
    all_goals skip
    all_goals (refine RetS.mid [0, 3, 8] [6] [rdO bs (p + 1 + 1), .cells 2 (g.st.map State.cs), .cells 1 (g.nx.map ownRow ++ [encL [0]])] (.agg [.sref 1 0 g.st.length, .sref 2 0 (g.nx.length + 1)]) rfl rfl rfl ?_ ?_ ?_; (focus (repeat' (exact LocLe.refl _))); (focus (repeat' (first | exact LocLe.refl _ | exact F2.nil | apply F2.cons | exact z34 _ | apply ObjLe.box | ((first | refine z56 rfl ?_ ?_ | refine z33 rfl ?_ ?_); (focus ((repeat' (first | exact z12 (fun _ => rfl) | apply z37)); done))) | (refine app2_le ?_ ?_; (focus (simp; done)))))))
    all_goals (refine RetS.lay [0] [1, 2] rfl rfl rfl ?_; refine RetS.done ?_ ?_ <;> (repeat' (first | exact LocLe.refl _ | exact F2.nil | apply F2.cons | apply ObjLe.box | (refine app3_le ?_) | ((apply z47 rfl rfl rfl); (focus ((repeat (first | exact z36 (fun _ => rfl) _ | exact rows_unown _ | apply z107 | rfl)); done)); (focus (((simp; done)); done))) | apply z75 | (refine z83 ?_ ?_; (focus (simp; done))))))
  by_cases e1 : v = 1
  · subst e1
    obtain ⟨x, mx, cx⟩ := z113 bs hb (p + 1 + 1) (by omega) (by omega) [0, -1, 60, 9223372036854775807] (by decide) (by decide)
    refine ⟨⟨g.st, g.nx.set k.toNat (g.nx[k.toNat] ++ [x])⟩, p + 1 + 1 + 1, ⟨hst, by simp; omega, hg.el, fun r hr => ?_, by omega, by omega⟩, ?_⟩
    · rcases List.mem_or_eq_of_mem_set hr with h | rfl
      · exact hrows r h
      · have := hg.row g.nx[k.toNat] (List.getElem_mem _)
        simp; omega
    have hr := hg.row g.nx[k.toNat] (List.getElem_mem _)
    have g0 : (g.nx.map ownRow)[k.toNat]? = some (ownRow g.nx[k.toNat]) := by rw [List.getElem?_map, List.getElem?_eq_getElem hkn]; rfl
    generalize g.nx[k.toNat] = row at *
    refine z19 z26 Tryz.func85 rfl rfl 62 Tryz.ntmps85 (by simp) ?_
    repeat' ((first | ((fail_if_success apply stopAt 7); (fail_if_success apply z139 7); apply AWP.go ok; rfl) | ((first | (apply z8 [] [] [3, 4] (cc); rfl; (focus ((repeat' exact z6) <;> fail))) | (apply z8 [0] [] [] (ck); rfl; (focus ((repeat' first | exact z6 | apply z7) <;> rfl))) | (apply z8 [0] [] [] (cv); rfl; (focus ((repeat' first | exact z6 | apply z7) <;> rfl)))); rfl; rfl; rfl; rfl; rfl; (focus ((repeat' first | exact z17 | apply z15) <;> first | exact z25 rfl rfl | (refine z29 ?_; ((exact z12 fun _ => rfl))))); (exact .inl rfl))) <;> conv => whnf)
    all_goals skip
    refine AWP.reach (Gl.Reach.exposeD (e := ownRow row) 4 k.toNat 0 rfl g0 rfl rfl) ?_
    conv => whnf
    repeat' ((first | (apply AWP.go ok; rfl) | (apply z30; kernel_rfl) | (refine get_set rfl (by simp; omega) ?_) | (apply And.intro; first | omega | ((try dsimp only); simp only [List.length_map, List.length_take, List.length_append, List.length_replicate, List.length_cons, List.length_nil]; omega) | exact ⟨rfl, z18 rfl z23⟩) | (((apply z8 [0, 7] [] [] (cx); rfl; (focus ((repeat' first | exact z6 | apply z7) <;> rfl)))); rfl; rfl; rfl; rfl; rfl; (focus ((repeat' first | exact z17 | apply z15) <;> first | exact z25 rfl rfl | (refine z29 ?_; ((exact z12 fun _ => rfl))))); (exact .inl rfl))) <;> conv => whnf)
    all_goals skip
    all_goals (refine RetS.mid [0, 3, 4] [9] [rdO bs (p + 1 + 1 + 1), .cells 2 (g.st.map State.cs), .cells 1 ((g.nx.map ownRow).set k.toNat (encL (row ++ [x])))] (.agg [.sref 1 0 g.st.length, .sref 2 0 g.nx.length]) rfl rfl rfl ?_ ?_ ?_; (focus (repeat' (exact LocLe.refl _))); (focus (repeat' (first | exact LocLe.refl _ | exact F2.nil | apply F2.cons | exact z34 _ | apply ObjLe.box | ((first | refine pass_set2 rfl rfl ?_ ?_ | refine z33 rfl ?_ ?_); (focus ((repeat' ((exact z12 (fun _ => rfl)))); done))) | (refine set2_le (by omega) ?_) | (refine z114 ?_ ?_; (focus ((simp; done)))) | ((apply z92 rfl rfl rfl); (focus ((repeat (first | exact z36 (fun _ => rfl) _ | apply z107 | apply z137 | rfl)); done)); (focus (((simp; done)); done))) | (refine z83 ?_ ?_; (focus (simp; done)))))))
    all_goals (refine RetS.lay [0] [1, 2] rfl rfl rfl ?_; refine RetS.done ?_ ?_ <;> (repeat' (first | exact LocLe.refl _ | exact F2.nil | apply F2.cons | apply ObjLe.box | (refine put_le (by omega) ?_) | ((apply z47 rfl rfl rfl); (focus ((repeat (first | exact z36 (fun _ => rfl) _ | exact rows_unown _ | apply unown_st)); done)); (focus (((simp; done)); done))) | apply z75 | (refine z83 ?_ ?_; (focus (simp; done))))))
  have gs : (g.st.map State.cs)[k.toNat]? = some (State.cs g.st[k.toNat]) := by rw [List.getElem?_map, List.getElem?_eq_getElem hks]; rfl
  have hsm := hg.el g.st[k.toNat] (List.getElem_mem _)
  by_cases e2 : v = 2
  · subst e2
    refine ⟨⟨g.st, g.nx.set k.toNat []⟩, p + 1 + 1, ⟨hst, by simp; omega, hg.el, fun r hr => ?_, by omega, by omega⟩, ?_⟩
    · rcases List.mem_or_eq_of_mem_set hr with h | rfl
      · exact hrows r h
      · simp
    refine z19 z26 Tryz.func85 rfl rfl 62 Tryz.ntmps85 (by simp) ?_
    repeat' ((first | (apply AWP.go ok; rfl) | (apply And.intro; omega) | (((apply z13; omega)); intro _) | ((first | (apply z8 [] [] [3, 4] (cc); rfl; (focus ((repeat' exact z6) <;> fail))) | (apply z8 [0] [] [] (ck); rfl; (focus ((repeat' first | exact z6 | apply z7) <;> rfl))) | (apply z8 [0] [] [] (cv); rfl; (focus ((repeat' first | exact z6 | apply z7) <;> rfl)))); rfl; rfl; rfl; rfl; rfl; (focus ((repeat' first | exact z17 | apply z15) <;> first | exact z25 rfl rfl | (refine z29 ?_; ((exact z12 fun _ => rfl))))); (exact .inl rfl))) <;> conv => whnf)
    all_goals skip
    all_goals (refine RetS.mid [0, 3, 4] [6] [rdO bs (p + 1 + 1), .cells 2 (g.st.map State.cs), .cells 1 ((g.nx.map ownRow).set k.toNat (encL []))] (.agg [.sref 1 0 g.st.length, .sref 2 0 g.nx.length]) rfl rfl rfl ?_ ?_ ?_; (focus (repeat' (exact LocLe.refl _))); (focus (repeat' (first | exact LocLe.refl _ | exact F2.nil | apply F2.cons | exact z34 _ | apply ObjLe.box | ((first | refine pass_set rfl ?_ ?_ | refine z33 rfl ?_ ?_); (focus ((repeat' ((exact z12 (fun _ => rfl)))); done)))))))
    all_goals (refine RetS.lay [0] [1, 2] rfl rfl rfl ?_; refine RetS.done ?_ ?_ <;> (repeat' (first | exact LocLe.refl _ | exact F2.nil | apply F2.cons | apply ObjLe.box | (refine put_le (by omega) ?_) | ((apply z47 rfl rfl rfl); (focus ((repeat (first | exact z36 (fun _ => rfl) _ | exact rows_unown _ | apply unown_st)); done)); (focus (((simp; done)); done))) | apply z75 | (refine z83 ?_ ?_; (focus (simp; done))))))
  by_cases e3 : v = 3
  · subst e3
    obtain ⟨x, mx, cx⟩ := z113 bs hb (p + 1 + 1) (by omega) (by omega) [4, -1, 0] (by decide) (by decide)
    refine ⟨⟨g.st.set k.toNat ⟨g.st[k.toNat].a, [0, 0, x]⟩, g.nx⟩, p + 1 + 1 + 1, ⟨by simp; omega, by show g.nx.length ≤ 101; omega, fun s hs => ?_, hrows, by omega, by omega⟩, ?_⟩
    · rcases List.mem_or_eq_of_mem_set hs with h | rfl
      · exact hg.el s h
      · exact ⟨hsm.a, by simp⟩
    generalize g.st[k.toNat] = s0 at *
    refine z19 z26 Tryz.func85 rfl rfl 62 Tryz.ntmps85 (by simp) ?_
    repeat' ((first | (apply AWP.go ok; rfl) | (apply z30; kernel_rfl) | (refine z32 (i := k.toNat) rfl gs ?_) | (apply And.intro; omega) | ((first | (apply z8 [] [] [3, 4] (cc); rfl; (focus ((repeat' exact z6) <;> fail))) | (apply z8 [0] [] [] (ck); rfl; (focus ((repeat' first | exact z6 | apply z7) <;> rfl))) | (apply z8 [0] [] [] (cv); rfl; (focus ((repeat' first | exact z6 | apply z7) <;> rfl))) | (apply z8 [0, 6] [] [] (cx); rfl; (focus ((repeat' first | exact z6 | apply z7) <;> rfl)))); rfl; rfl; rfl; rfl; rfl; (focus ((repeat' first | exact z17 | apply z15) <;> first | exact z25 rfl rfl | (refine z29 ?_; ((exact z12 fun _ => rfl))))); (exact .inl rfl))) <;> conv => whnf)
    all_goals skip
    all_goals (refine RetS.mid [0, 3, 4] [7] [rdO bs (p + 1 + 1 + 1), .cells 2 ((g.st.set k.toNat ⟨s0.a, [0, 0, x]⟩).map State.cs), .cells 1 (g.nx.map ownRow)] (.agg [.sref 1 0 g.st.length, .sref 2 0 g.nx.length]) rfl rfl rfl ?_ ?_ ?_; (focus (repeat' (exact LocLe.refl _))); (focus (repeat' (first | exact LocLe.refl _ | exact F2.nil | apply F2.cons | exact z34 _ | apply ObjLe.box | ((first | refine pass_set rfl ?_ ?_ | refine z33 rfl ?_ ?_); (focus ((repeat' ((exact z12 (fun _ => rfl)))); done))) | (refine put_le (by omega) ?_)))))
    all_goals (refine RetS.lay [0] [1, 2] rfl rfl rfl ?_; refine RetS.done ?_ ?_ <;> (repeat' (first | exact LocLe.refl _ | exact F2.nil | apply F2.cons | exact z34 _ | apply ObjLe.box | ((apply z47 rfl rfl rfl); (focus ((repeat (first | exact z36 (fun _ => rfl) _ | exact rows_unown _)); done)); (focus (((simp; done)); done))) | apply z75 | (refine z83 ?_ ?_; (focus (simp; done))))))
  by_cases e4 : v = 4
  · subst e4
    refine ⟨⟨[], []⟩, p + 1 + 1, ⟨by simp, by simp, by simp, by simp, by omega, by omega⟩, ?_⟩
    refine z19 z26 Tryz.func85 rfl rfl 62 Tryz.ntmps85 (by simp) ?_
    repeat' ((first | (apply AWP.go ok; rfl) | ((first | (apply z8 [] [] [3, 4] (cc); rfl; (focus ((repeat' exact z6) <;> fail))) | (apply z8 [0] [] [] (ck); rfl; (focus ((repeat' first | exact z6 | apply z7) <;> rfl))) | (apply z8 [0] [] [] (cv); rfl; (focus ((repeat' first | exact z6 | apply z7) <;> rfl)))); rfl; rfl; rfl; rfl; rfl; (focus ((repeat' first | exact z17 | apply z15) <;> first | exact z25 rfl rfl | (refine z29 ?_; ((exact z12 fun _ => rfl))))); (exact .inl rfl))) <;> conv => whnf)
    all_goals skip
    all_goals (refine RetS.lay [0] [] rfl rfl rfl ?_; refine RetS.done ?_ ?_ <;> (repeat' (first | exact LocLe.refl _ | exact z61 | exact F2.nil | apply F2.cons | apply ObjLe.box | apply z75)))
  · refine ⟨g, p + 1 + 1, ⟨hst, by omega, hg.el, hrows, by omega, by omega⟩, ?_⟩
    refine z19 z26 Tryz.func85 rfl rfl 62 Tryz.ntmps85 (by simp) ?_
    repeat' ((first | (apply AWP.go ok; rfl) | (apply And.intro; omega) | (((apply z13; omega)); intro _) | ((apply z10) <;> intro _) | ((first | (apply z8 [] [] [3, 4] (cc); rfl; (focus ((repeat' exact z6) <;> fail))) | (apply z8 [0] [] [] (ck); rfl; (focus ((repeat' first | exact z6 | apply z7) <;> rfl))) | (apply z8 [0] [] [] (cv); rfl; (focus ((repeat' first | exact z6 | apply z7) <;> rfl)))); rfl; rfl; rfl; rfl; rfl; (focus ((repeat' first | exact z17 | apply z15) <;> first | exact z25 rfl rfl | (refine z29 ?_; ((exact z12 fun _ => rfl))))); (exact .inl rfl))) <;> conv => whnf)
    all_goals first | (exfalso; omega) | skip
    all_goals (refine RetS.lay [0] [3, 4] rfl rfl rfl ?_; refine RetS.done ?_ ?_ <;> (repeat' (first | exact LocLe.refl _ | exact F2.nil | apply F2.cons | apply ObjLe.box | ((apply z47 rfl rfl rfl); (focus ((repeat (first | exact z36 (fun _ => rfl) _ | exact rows_unown _)); done)); (focus (((simp; done)); done))) | apply z75)))
end Go.Proofs.YtknlmbniicacmaaGreat

