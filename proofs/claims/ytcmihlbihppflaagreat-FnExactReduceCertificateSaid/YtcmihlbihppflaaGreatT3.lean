/- A part of the proof: T19, T20, T21, T22, T23, D3, T24, T25. The program's ReduceCertificate returns what the reference's returns, for all arguments: the law returns true and leaves its arguments as they were. No condition. -/
import Derived.Test.YtcmihlbihppflaaGreatGl0
import Derived.Test.YtcmihlbihppflaaGreatGl1
import Derived.Test.YtcmihlbihppflaaGreatT2
set_option linter.all false
namespace Go.Proofs.YtcmihlbihppflaaGreat
open Go.Gl
attribute [local irreducible] vcCall AWP RetOk Again ordOk

theorem Tree.arg_eq (t : Tree) : argAgg Tree.cs' t = .agg [.int t.kind, .int t.val, lst 3 Tree.cs' t.kids] := by
  simp only [argAgg, Tree.cs', lst, Tree.lst_eq]

theorem exprNodes_ok (t : Tree) (hm : t.mx) : CallsA Tryz.prog 210 [argAgg Tree.cs' t] [] (.int (if t.exprB then t.count 6 else 0)) [] := by
  have hk := walk_ok t hm 1 0 (by omega) (by omega) (by omega) (by omega)
  obtain ⟨_, h2, _, _⟩ := Tree.walkE_spec.1 t 1 0 (by omega) (by omega)
  refine callsA_of tabOk Tryz.func210 rfl rfl 8 Tryz.ntmps210 (by simp) ?_
  repeat' (first | (apply AWP.go ok; rfl; conv => whnf) | (apply ord_mk; kernel_rfl; conv => whnf) | (apply And.intro; (first | omega | (unfold inI; omega) | (dsimp only; omega) | (unfold bitsOk; omega) | ((try dsimp only); simp only [List.length_map, List.length_take, List.length_append, List.length_replicate, List.length_cons, List.length_nil]; omega) | (simp only [btw_iff] at *; first | omega | (unfold inI; omega) | (unfold bitsOk; omega)) | exact stor_map (fun _ => rfl) | exact ⟨rfl, stor_cons rfl stor_nil⟩ | exact ⟨rfl, stor_map (fun _ => rfl) _⟩ | exact ⟨⟨rfl, by omega⟩, stor_map (fun _ => rfl) _⟩); conv => whnf) | (with_reducible apply get_mapN; omega; intro _; conv => whnf) | (with_reducible apply get_mapI; omega; intro _; conv => whnf) | (apply get_mapN; omega; intro _; conv => whnf) | (apply get_fill; omega; conv => whnf) | (apply ex_some; conv => whnf) | (apply get_map; omega; intro _; conv => whnf) | (apply vcG_dec <;> intro _ <;> conv => whnf) | (apply vcG_ndec <;> intro _ <;> conv => whnf) | (apply vcG_not <;> intro _ <;> conv => whnf) | (apply vcG_mk <;> intro _ <;> conv => whnf) | (apply vcIf_dec <;> intro _ <;> conv => whnf) | (apply vcIf_ndec <;> intro _ <;> conv => whnf) | (apply vcIf_not <;> intro _ <;> conv => whnf) | (apply vcIf_mk <;> intro _ <;> conv => whnf) | (apply call_gen [1] [] [] (hk); rfl; (focus ((repeat' (first | exact passOk_nil | apply passOk_cons)) <;> (first | rfl | (refine pass_flat rfl ?_; (first | exact flat_nil | exact flat_replicate rfl | exact flat_map (fun _ => rfl) | exact flat_map Tree.co_flat | (apply flat_append <;> (first | exact flat_replicate rfl | exact flat_map (fun _ => rfl))) | assumption))))); rfl; rfl; rfl; rfl; rfl; (focus ((repeat' (first | exact rens_nil | apply rens_cons)) <;> (first | exact ren_dead | exact ren_box rfl rfl | (refine ren_flat ?_; (first | exact flat_nil | exact flat_replicate rfl | exact flat_map (fun _ => rfl) | exact flat_map Tree.co_flat | (apply flat_append <;> (first | exact flat_replicate rfl | exact flat_map (fun _ => rfl))) | assumption))))); (first | exact .inl rfl | (refine .inr ⟨rfl, ?_⟩; repeat' (first | exact True.intro | apply And.intro | exact rfl | exact plainLL_map (fun _ => rfl) _))); conv => whnf))
  · rename_i h
    exact ret_data rfl rfl (by rw [if_neg (by unfold Tree.exprB; rw [h]; simp)]; rfl)
  · rename_i h
    have e := h2 h
    rw [Int.zero_add] at e
    exact ret_data rfl rfl (by rw [if_pos (show t.exprB = true from h), show t.count 6 = (t.walkE 1 0).1 from e.symm]; rfl)

theorem exprValid_ok (t : Tree) (hm : t.mx) : CallsA Tryz.prog 156 [argAgg Tree.cs' t] [] (.bool t.exprB) [] := by
  refine callsA_of tabOk Tryz.func156 rfl rfl 6 Tryz.ntmps156 (by simp) ?_
  repeat' (first | (apply AWP.go ok; rfl; conv => whnf) | (apply ord_mk; kernel_rfl; conv => whnf) | (apply And.intro; (first | omega | (unfold inI; omega) | (dsimp only; omega) | (unfold bitsOk; omega) | ((try dsimp only); simp only [List.length_map, List.length_take, List.length_append, List.length_replicate, List.length_cons, List.length_nil]; omega) | (simp only [btw_iff] at *; first | omega | (unfold inI; omega) | (unfold bitsOk; omega)) | exact stor_map (fun _ => rfl) | exact ⟨rfl, stor_cons rfl stor_nil⟩ | exact ⟨rfl, stor_map (fun _ => rfl) _⟩ | exact ⟨⟨rfl, by omega⟩, stor_map (fun _ => rfl) _⟩); conv => whnf) | (with_reducible apply get_mapN; omega; intro _; conv => whnf) | (with_reducible apply get_mapI; omega; intro _; conv => whnf) | (apply get_mapN; omega; intro _; conv => whnf) | (apply get_fill; omega; conv => whnf) | (apply ex_some; conv => whnf) | (apply get_map; omega; intro _; conv => whnf) | (apply vcG_dec <;> intro _ <;> conv => whnf) | (apply vcG_ndec <;> intro _ <;> conv => whnf) | (apply vcG_not <;> intro _ <;> conv => whnf) | (apply vcG_mk <;> intro _ <;> conv => whnf) | (apply vcIf_dec <;> intro _ <;> conv => whnf) | (apply vcIf_ndec <;> intro _ <;> conv => whnf) | (apply vcIf_not <;> intro _ <;> conv => whnf) | (apply vcIf_mk <;> intro _ <;> conv => whnf) | (apply call_data (exprNodes_ok t hm); rfl; rfl; conv => whnf))
  refine ret_bool rfl ?_
  have := Tree.count_pos.1 t 6
  cases t.exprB
  · simp
  · simp; omega

theorem labelsValid1_ok (t : Tree) (hm : t.mx) : CallsA Tryz.prog 155 [argAgg Tree.cs' t] [] (.bool (!t.exprB)) [] := by
  refine callsA_of tabOk Tryz.func155 rfl rfl 6 Tryz.ntmps155 (by simp) ?_
  repeat' (first | (apply AWP.go ok; rfl; conv => whnf) | (apply ord_mk; kernel_rfl; conv => whnf) | (apply And.intro; (first | omega | (unfold inI; omega) | (dsimp only; omega) | (unfold bitsOk; omega) | ((try dsimp only); simp only [List.length_map, List.length_take, List.length_append, List.length_replicate, List.length_cons, List.length_nil]; omega) | (simp only [btw_iff] at *; first | omega | (unfold inI; omega) | (unfold bitsOk; omega)) | exact stor_map (fun _ => rfl) | exact ⟨rfl, stor_cons rfl stor_nil⟩ | exact ⟨rfl, stor_map (fun _ => rfl) _⟩ | exact ⟨⟨rfl, by omega⟩, stor_map (fun _ => rfl) _⟩); conv => whnf) | (with_reducible apply get_mapN; omega; intro _; conv => whnf) | (with_reducible apply get_mapI; omega; intro _; conv => whnf) | (apply get_mapN; omega; intro _; conv => whnf) | (apply get_fill; omega; conv => whnf) | (apply ex_some; conv => whnf) | (apply get_map; omega; intro _; conv => whnf) | (apply vcG_dec <;> intro _ <;> conv => whnf) | (apply vcG_ndec <;> intro _ <;> conv => whnf) | (apply vcG_not <;> intro _ <;> conv => whnf) | (apply vcG_mk <;> intro _ <;> conv => whnf) | (apply vcIf_dec <;> intro _ <;> conv => whnf) | (apply vcIf_ndec <;> intro _ <;> conv => whnf) | (apply vcIf_not <;> intro _ <;> conv => whnf) | (apply vcIf_mk <;> intro _ <;> conv => whnf) | (apply call_data (exprValid_ok t hm); rfl; rfl; conv => whnf))
  exact ret_bool rfl rfl

/-- labels: three expressions -/
def labelsB (l : List Tree) : Bool := decide ((l.length : Int) = 3) && l.all Tree.exprB
theorem labelsValid_ok (l : List Tree) (hl : l.length ≤ maxLen) (hm : ∀ t ∈ l, t.mx) : CallsA Tryz.prog 97 [lst 3 Tree.cs' l] [] (.bool (labelsB l)) [] := by
  have hk := containsFunc_expr l hl (fun t => !t.exprB) 155 (fun t ht => labelsValid1_ok t (hm t ht))
  refine callsA_of tabOk Tryz.func97 rfl rfl 11 Tryz.ntmps97 (by simp) ?_
  repeat' (first | (apply AWP.go ok; rfl; conv => whnf) | (apply ord_mk; kernel_rfl; conv => whnf) | (apply And.intro; (first | omega | (unfold inI; omega) | (dsimp only; omega) | (unfold bitsOk; omega) | ((try dsimp only); simp only [List.length_map, List.length_take, List.length_append, List.length_replicate, List.length_cons, List.length_nil]; omega) | (simp only [btw_iff] at *; first | omega | (unfold inI; omega) | (unfold bitsOk; omega)) | exact stor_map (fun _ => rfl) | exact ⟨rfl, stor_cons rfl stor_nil⟩ | exact ⟨rfl, stor_map (fun _ => rfl) _⟩ | exact ⟨⟨rfl, by omega⟩, stor_map (fun _ => rfl) _⟩); conv => whnf) | (with_reducible apply get_mapN; omega; intro _; conv => whnf) | (with_reducible apply get_mapI; omega; intro _; conv => whnf) | (apply get_mapN; omega; intro _; conv => whnf) | (apply get_fill; omega; conv => whnf) | (apply ex_some; conv => whnf) | (apply get_map; omega; intro _; conv => whnf) | (apply vcG_dec <;> intro _ <;> conv => whnf) | (apply vcG_ndec <;> intro _ <;> conv => whnf) | (apply vcG_not <;> intro _ <;> conv => whnf) | (apply vcG_mk <;> intro _ <;> conv => whnf) | (apply vcIf_dec <;> intro _ <;> conv => whnf) | (apply vcIf_ndec <;> intro _ <;> conv => whnf) | (apply vcIf_not <;> intro _ <;> conv => whnf) | (apply vcIf_mk <;> intro _ <;> conv => whnf) | (apply call_data (hk); rfl; rfl; conv => whnf))
  · refine ret_bool rfl ?_
    rename_i h
    unfold labelsB
    rw [decide_eq_true h, List.all_eq_not_any_not]; rfl
  · refine ret_bool rfl ?_
    rename_i h
    unfold labelsB
    rw [decide_eq_false h]; rfl

theorem l1Arity_ok (k : Int) : CallsA Tryz.prog 280 [.int k] [] (.int (arity k)) [] := by
  refine callsA_of tabOk Tryz.func280 rfl rfl 15 Tryz.ntmps280 (by simp) ?_
  repeat' (first | (apply AWP.go ok; rfl; conv => whnf) | (apply ord_mk; kernel_rfl; conv => whnf) | (apply And.intro; (first | omega | (unfold inI; omega) | (dsimp only; omega) | (unfold bitsOk; omega) | ((try dsimp only); simp only [List.length_map, List.length_take, List.length_append, List.length_replicate, List.length_cons, List.length_nil]; omega) | (simp only [btw_iff] at *; first | omega | (unfold inI; omega) | (unfold bitsOk; omega)) | exact stor_map (fun _ => rfl) | exact ⟨rfl, stor_cons rfl stor_nil⟩ | exact ⟨rfl, stor_map (fun _ => rfl) _⟩ | exact ⟨⟨rfl, by omega⟩, stor_map (fun _ => rfl) _⟩); conv => whnf) | (with_reducible apply get_mapN; omega; intro _; conv => whnf) | (with_reducible apply get_mapI; omega; intro _; conv => whnf) | (apply get_mapN; omega; intro _; conv => whnf) | (apply get_fill; omega; conv => whnf) | (apply ex_some; conv => whnf) | (apply get_map; omega; intro _; conv => whnf) | (apply vcG_dec <;> intro _ <;> conv => whnf) | (apply vcG_ndec <;> intro _ <;> conv => whnf) | (apply vcG_not <;> intro _ <;> conv => whnf) | (apply vcG_mk <;> intro _ <;> conv => whnf) | (apply vcIf_dec <;> intro _ <;> conv => whnf) | (apply vcIf_ndec <;> intro _ <;> conv => whnf) | (apply vcIf_not <;> intro _ <;> conv => whnf) | (apply vcIf_mk <;> intro _ <;> conv => whnf))
  all_goals (refine ret_data rfl rfl ?_; unfold arity; first | (rw [if_pos (by omega)]; rfl) | (rw [if_neg (by omega), if_pos (by omega)]; rfl) | (rw [if_neg (by omega), if_neg (by omega), if_pos (by omega)]; rfl) | (rw [if_neg (by omega), if_neg (by omega), if_neg (by omega)]; rfl))

theorem shapes_all (l : List Tree) (d : Int) : Tree.shapes l d = l.all (fun t => t.shape d) := by
  induction l with
  | nil => rfl
  | cons t l ih => simp [Tree.shapes, ih]
theorem shape_eq (t : Tree) (d : Int) : t.shape d = (decide (1 ≤ d ∧ (t.kids.length : Int) = arity t.kind ∧ 0 ≤ t.val ∧ t.val ≤ mostV t.kind) && t.kids.all fun t => t.shape (d - 1)) := by
  cases t; simp only [Tree.shape, Tree.kids, Tree.kind, Tree.val, shapes_all]; rfl

theorem l1Shape_ok (t : Tree) : t.mx → ∀ d : Int, -100 ≤ d → d ≤ 100 → CallsA Tryz.prog 244 [argAgg Tree.cs' t, .int d] [] (.bool (t.shape d)) [] := by
  induction t using Tree.ind with | h t ih => ?_
  intro hm d h0 h1
  rw [Tree.mx_iff] at hm
  have hl := hm.1
  unfold maxLen at hl
  rw [Tree.arg_eq, shape_eq]
  refine callsA_of tabOk Tryz.func244 rfl rfl 49 Tryz.ntmps244 (by simp) ?_
  repeat' (first | (apply AWP.go ok; rfl; conv => whnf) | (apply ord_mk; kernel_rfl; conv => whnf) | (apply And.intro; (first | omega | (unfold inI; omega) | (dsimp only; omega) | (unfold bitsOk; omega) | ((try dsimp only); simp only [List.length_map, List.length_take, List.length_append, List.length_replicate, List.length_cons, List.length_nil]; omega) | (simp only [btw_iff] at *; first | omega | (unfold inI; omega) | (unfold bitsOk; omega)) | exact stor_map (fun _ => rfl) | exact ⟨rfl, stor_cons rfl stor_nil⟩ | exact ⟨rfl, stor_map (fun _ => rfl) _⟩ | exact ⟨⟨rfl, by omega⟩, stor_map (fun _ => rfl) _⟩); conv => whnf) | (with_reducible apply get_mapN; omega; intro _; conv => whnf) | (with_reducible apply get_mapI; omega; intro _; conv => whnf) | (apply get_mapN; omega; intro _; conv => whnf) | (apply get_fill; omega; conv => whnf) | (apply ex_some; conv => whnf) | (apply get_map; omega; intro _; conv => whnf) | (apply vcG_dec <;> intro _ <;> conv => whnf) | (apply vcG_ndec <;> intro _ <;> conv => whnf) | (apply vcG_not <;> intro _ <;> conv => whnf) | (apply vcG_mk <;> intro _ <;> conv => whnf) | (apply vcIf_dec <;> intro _ <;> conv => whnf) | (apply vcIf_ndec <;> intro _ <;> conv => whnf) | (apply vcIf_not <;> intro _ <;> conv => whnf) | (apply vcIf_mk <;> intro _ <;> conv => whnf) | (apply call_data (l1Arity_ok _); rfl; rfl; conv => whnf))
  all_goals first
    | (refine ret_bool rfl ?_
       rw [decide_eq_false]
       · rfl
       · clear ih
         rintro ⟨c1, c2, c3, c4⟩
         unfold mostV at c4
         grind)
    | (have hg : decide (1 ≤ d ∧ (t.kids.length : Int) = arity t.kind ∧ 0 ≤ t.val ∧ t.val ≤ mostV t.kind) = true := by
         clear ih
         refine decide_eq_true ?_
         unfold mostV
         grind
       rw [hg, Bool.true_and]
       refine loopA (fun k : Nat => ([(1, .int d), (2, .ptr 0 none 0), (6, .int k)], [.cells 3 [[.int t.kind, .int t.val, lst 3 Tree.cs' t.kids]]])) (fun k => k ≤ t.kids.length ∧ (t.kids.all fun t => t.shape (d - 1)) = (t.kids.drop k).all fun t => t.shape (d - 1)) (fun k => t.kids.length - k) 0 ⟨by omega, rfl⟩ ⟨[0], rfl, by decide, rfl, by repeat' (first | exact True.intro | exact ⟨rfl, rfl⟩ | apply And.intro), by repeat' (first | exact True.intro | exact obj_box rfl rfl | exact obj_flat (by rfl) (by (first | exact flat_nil | exact flat_replicate rfl | exact flat_map (fun _ => rfl) | exact flat_map Tree.co_flat | (apply flat_append <;> (first | exact flat_replicate rfl | exact flat_map (fun _ => rfl))) | assumption)) | apply And.intro)⟩ ?_
       intro k hk
       repeat' (first | (apply AWP.go ok; rfl; conv => whnf) | (apply ord_mk; kernel_rfl; conv => whnf) | (apply And.intro; (first | omega | (unfold inI; omega) | (dsimp only; omega) | (unfold bitsOk; omega) | ((try dsimp only); simp only [List.length_map, List.length_take, List.length_append, List.length_replicate, List.length_cons, List.length_nil]; omega) | (simp only [btw_iff] at *; first | omega | (unfold inI; omega) | (unfold bitsOk; omega)) | exact stor_map (fun _ => rfl) | exact ⟨rfl, stor_cons rfl stor_nil⟩ | exact ⟨rfl, stor_map (fun _ => rfl) _⟩ | exact ⟨⟨rfl, by omega⟩, stor_map (fun _ => rfl) _⟩); conv => whnf) | (with_reducible apply get_mapN; omega; intro _; conv => whnf) | (with_reducible apply get_mapI; omega; intro _; conv => whnf) | (apply get_mapN; omega; intro _; conv => whnf) | (apply get_fill; omega; conv => whnf) | (apply ex_some; conv => whnf) | (apply get_map; omega; intro _; conv => whnf) | (apply vcG_dec <;> intro _ <;> conv => whnf) | (apply vcG_ndec <;> intro _ <;> conv => whnf) | (apply vcG_not <;> intro _ <;> conv => whnf) | (apply vcG_mk <;> intro _ <;> conv => whnf) | (apply vcIf_dec <;> intro _ <;> conv => whnf) | (apply vcIf_ndec <;> intro _ <;> conv => whnf) | (apply vcIf_not <;> intro _ <;> conv => whnf) | (apply vcIf_mk <;> intro _ <;> conv => whnf) | (apply call_data (ih t.kids[k] (List.getElem_mem _) (hm.2 _ (List.getElem_mem _)) (d - 1) (by omega) (by omega)); rfl; rfl; conv => whnf))
       · rename_i h1
         exact ret_bool rfl (by rw [hk.2, drop_all _ _ _ (by assumption)]; simp [h1])
       · rename_i h1
         exact again (k + 1) [0] ⟨by omega, by rw [hk.2, drop_all _ _ _ (by assumption)]; simp [h1]⟩ (by omega) ⟨rfl, by decide, rfl, by repeat' (first | exact True.intro | exact ⟨rfl, rfl⟩ | apply And.intro), by repeat' (first | exact True.intro | exact obj_box rfl rfl | exact obj_flat (by rfl) (by (first | exact flat_nil | exact flat_replicate rfl | exact flat_map (fun _ => rfl) | exact flat_map Tree.co_flat | (apply flat_append <;> (first | exact flat_replicate rfl | exact flat_map (fun _ => rfl))) | assumption)) | apply And.intro)⟩
       · exact ret_bool rfl (by rw [hk.2, drop_all_end _ _ _ (by omega)]))

theorem count_eq (t : Tree) (d : Int) : t.count d = if 0 < d then 1 + (t.kids.map fun t => t.count (d - 1)).sum else 1 := by
  have : ∀ (l : List Tree) d, Tree.counts l d = (l.map fun t => t.count d).sum := by
    intro l d
    induction l with
    | nil => rfl
    | cons t l ih => simp [Tree.counts, ih]
  cases t; simp only [Tree.count, Tree.kids, this]

/-- below a shape of depth d lie at most 2^d - 1 nodes -/
theorem count_le (t : Tree) : ∀ d n : Nat, t.shape d = true → t.count n ≤ 2 ^ d - 1 := by
  induction t using Tree.ind with | h t ih => ?_
  intro d n h
  rw [shape_eq, Bool.and_eq_true, decide_eq_true_eq] at h
  obtain ⟨⟨h1, h2, _, _⟩, h3⟩ := h
  rw [List.all_eq_true] at h3
  obtain ⟨d, rfl⟩ : ∃ e, d = e + 1 := ⟨d - 1, by omega⟩
  have e : ((d + 1 : Nat) : Int) - 1 = (d : Nat) := by omega
  rw [e] at h3
  rw [count_eq]
  have hp : (1 : Int) ≤ 2 ^ d := by exact_mod_cast Nat.one_le_two_pow
  have hq : ((2 : Int) ^ (d + 1)) = 2 * 2 ^ d := by rw [Int.pow_succ]; omega
  split
  · rename_i hn
    obtain ⟨n, rfl⟩ : ∃ e, n = e + 1 := ⟨n - 1, by omega⟩
    have e : ((n + 1 : Nat) : Int) - 1 = (n : Nat) := by omega
    rw [e]
    have hl : (t.kids.length : Int) ≤ 2 := by rw [h2]; unfold arity; grind
    have hk : ∀ u ∈ t.kids, u.count n ≤ 2 ^ d - 1 := fun u hu => ih u hu d n (h3 u hu)
    match hkk : t.kids with
    | [] => simp only [List.map_nil, List.sum_nil]; omega
    | [a] =>
      have := hk a (by simp [hkk])
      simp only [List.map_cons, List.map_nil, List.sum_cons, List.sum_nil]; omega
    | [a, b] =>
      have := hk a (by simp [hkk])
      have := hk b (by simp [hkk])
      simp only [List.map_cons, List.map_nil, List.sum_cons, List.sum_nil]; omega
    | a :: b :: c :: r => rw [hkk] at hl; simp only [List.length_cons] at hl; omega
  · omega

theorem sum_step (f : Tree → Int) (l : List Tree) (k : Nat) (hk : k < l.length) : ((l.take (k + 1)).map f).sum = ((l.take k).map f).sum + f l[k] := by
  rw [List.take_succ_eq_append_getElem hk, List.map_append, List.sum_append]; simp

theorem count_bound (t : Tree) (e d : Int) (he : e ≤ 50) (hd : 0 ≤ d) (h : t.shape e = true) : t.count d ≤ 2 ^ 50 := by
  have h1 : 1 ≤ e := by
    rw [shape_eq, Bool.and_eq_true, decide_eq_true_eq] at h; exact h.1.1
  obtain ⟨n, rfl⟩ := Int.eq_ofNat_of_zero_le (show 0 ≤ e by omega)
  obtain ⟨m, rfl⟩ := Int.eq_ofNat_of_zero_le hd
  have h2 := count_le t n m h
  have h4 : (2 : Int) ^ n ≤ 2 ^ 50 := by exact_mod_cast Nat.pow_le_pow_right (by omega) (by omega)
  omega

theorem l1Count_ok (t : Tree) : t.mx → ∀ e d : Int, e ≤ 50 → 0 ≤ d → d ≤ 50 → t.shape e = true → CallsA Tryz.prog 245 [argAgg Tree.cs' t, .int d] [] (.int (t.count d)) [] := by
  induction t using Tree.ind with | h t ih => ?_
  intro hm e d h0 h1 h2 hs
  rw [Tree.mx_iff] at hm
  rw [shape_eq, Bool.and_eq_true, decide_eq_true_eq, List.all_eq_true] at hs
  obtain ⟨⟨hs1, hs2, _, _⟩, hs3⟩ := hs
  have hl : (t.kids.length : Int) ≤ 2 := by rw [hs2]; unfold arity; grind
  rw [Tree.arg_eq, count_eq]
  have hb : 0 < d → ∀ k, k ≤ t.kids.length → 0 ≤ ((t.kids.take k).map fun t => t.count (d - 1)).sum ∧ ((t.kids.take k).map fun t => t.count (d - 1)).sum ≤ k * 2 ^ 50 := by
    intro hd k
    induction k with
    | zero => intro _; simp
    | succ k ihk =>
      intro hk
      have h1 := ihk (by omega)
      rw [sum_step _ _ _ (by omega)]
      have h2 := count_bound t.kids[k] (e - 1) (d - 1) (by omega) (by omega) (hs3 _ (List.getElem_mem _))
      have h3 := Tree.count_pos.1 t.kids[k] (d - 1)
      omega
  refine callsA_of tabOk Tryz.func245 rfl rfl 29 Tryz.ntmps245 (by simp) ?_
  repeat' (first | (apply AWP.go ok; rfl; conv => whnf) | (apply ord_mk; kernel_rfl; conv => whnf) | (apply And.intro; (first | omega | (unfold inI; omega) | (dsimp only; omega) | (unfold bitsOk; omega) | ((try dsimp only); simp only [List.length_map, List.length_take, List.length_append, List.length_replicate, List.length_cons, List.length_nil]; omega) | (simp only [btw_iff] at *; first | omega | (unfold inI; omega) | (unfold bitsOk; omega)) | exact stor_map (fun _ => rfl) | exact ⟨rfl, stor_cons rfl stor_nil⟩ | exact ⟨rfl, stor_map (fun _ => rfl) _⟩ | exact ⟨⟨rfl, by omega⟩, stor_map (fun _ => rfl) _⟩); conv => whnf) | (with_reducible apply get_mapN; omega; intro _; conv => whnf) | (with_reducible apply get_mapI; omega; intro _; conv => whnf) | (apply get_mapN; omega; intro _; conv => whnf) | (apply get_fill; omega; conv => whnf) | (apply ex_some; conv => whnf) | (apply get_map; omega; intro _; conv => whnf) | (apply vcG_dec <;> intro _ <;> conv => whnf) | (apply vcG_ndec <;> intro _ <;> conv => whnf) | (apply vcG_not <;> intro _ <;> conv => whnf) | (apply vcG_mk <;> intro _ <;> conv => whnf) | (apply vcIf_dec <;> intro _ <;> conv => whnf) | (apply vcIf_ndec <;> intro _ <;> conv => whnf) | (apply vcIf_not <;> intro _ <;> conv => whnf) | (apply vcIf_mk <;> intro _ <;> conv => whnf))
  by_cases hd : 0 < d
  · rw [if_pos hd]
    refine loopA (fun k : Nat => ([(1, .int d), (2, .ptr 0 none 0), (5, .int (1 + ((t.kids.take k).map fun t => t.count (d - 1)).sum)), (6, .int k)], [.cells 3 [[.int t.kind, .int t.val, lst 3 Tree.cs' t.kids]]])) (fun k => k ≤ t.kids.length) (fun k => t.kids.length - k) 0 (by omega) ⟨[0], rfl, by decide, rfl, by repeat' (first | exact True.intro | exact ⟨rfl, rfl⟩ | apply And.intro), by repeat' (first | exact True.intro | exact obj_box rfl rfl | exact obj_flat (by rfl) (by (first | exact flat_nil | exact flat_replicate rfl | exact flat_map (fun _ => rfl) | exact flat_map Tree.co_flat | (apply flat_append <;> (first | exact flat_replicate rfl | exact flat_map (fun _ => rfl))) | assumption)) | apply And.intro)⟩ ?_
    intro k hk
    have hbk := hb hd k hk
    have hbk1 := fun h => hb hd (k + 1) h
    have hss := fun h => sum_step (fun t => t.count (d - 1)) t.kids k h
    repeat' (first | (apply AWP.go ok; rfl; conv => whnf) | (apply ord_mk; kernel_rfl; conv => whnf) | (apply And.intro; (first | omega | (unfold inI; omega) | (dsimp only; omega) | (unfold bitsOk; omega) | ((try dsimp only); simp only [List.length_map, List.length_take, List.length_append, List.length_replicate, List.length_cons, List.length_nil]; omega) | (simp only [btw_iff] at *; first | omega | (unfold inI; omega) | (unfold bitsOk; omega)) | exact stor_map (fun _ => rfl) | exact ⟨rfl, stor_cons rfl stor_nil⟩ | exact ⟨rfl, stor_map (fun _ => rfl) _⟩ | exact ⟨⟨rfl, by omega⟩, stor_map (fun _ => rfl) _⟩); conv => whnf) | (with_reducible apply get_mapN; omega; intro _; conv => whnf) | (with_reducible apply get_mapI; omega; intro _; conv => whnf) | (apply get_mapN; omega; intro _; conv => whnf) | (apply get_fill; omega; conv => whnf) | (apply ex_some; conv => whnf) | (apply get_map; omega; intro _; conv => whnf) | (apply vcG_dec <;> intro _ <;> conv => whnf) | (apply vcG_ndec <;> intro _ <;> conv => whnf) | (apply vcG_not <;> intro _ <;> conv => whnf) | (apply vcG_mk <;> intro _ <;> conv => whnf) | (apply vcIf_dec <;> intro _ <;> conv => whnf) | (apply vcIf_ndec <;> intro _ <;> conv => whnf) | (apply vcIf_not <;> intro _ <;> conv => whnf) | (apply vcIf_mk <;> intro _ <;> conv => whnf) | (apply call_data (ih t.kids[k] (List.getElem_mem _) (hm.2 _ (List.getElem_mem _)) (e - 1) (d - 1) (by omega) (by omega) (by omega) (hs3 _ (List.getElem_mem _))); rfl; rfl; conv => whnf))
    · have e1 := hss ‹_›
      have e2 := hbk1 (by omega)
      refine And.intro (by unfold inI; omega) ?_
      conv => whnf
      repeat' (first | (apply AWP.go ok; rfl; conv => whnf) | (apply ord_mk; kernel_rfl; conv => whnf) | (apply And.intro; (first | omega | (unfold inI; omega) | (dsimp only; omega) | (unfold bitsOk; omega) | ((try dsimp only); simp only [List.length_map, List.length_take, List.length_append, List.length_replicate, List.length_cons, List.length_nil]; omega) | (simp only [btw_iff] at *; first | omega | (unfold inI; omega) | (unfold bitsOk; omega)) | exact stor_map (fun _ => rfl) | exact ⟨rfl, stor_cons rfl stor_nil⟩ | exact ⟨rfl, stor_map (fun _ => rfl) _⟩ | exact ⟨⟨rfl, by omega⟩, stor_map (fun _ => rfl) _⟩); conv => whnf) | (with_reducible apply get_mapN; omega; intro _; conv => whnf) | (with_reducible apply get_mapI; omega; intro _; conv => whnf) | (apply get_mapN; omega; intro _; conv => whnf) | (apply get_fill; omega; conv => whnf) | (apply ex_some; conv => whnf) | (apply get_map; omega; intro _; conv => whnf) | (apply vcG_dec <;> intro _ <;> conv => whnf) | (apply vcG_ndec <;> intro _ <;> conv => whnf) | (apply vcG_not <;> intro _ <;> conv => whnf) | (apply vcG_mk <;> intro _ <;> conv => whnf) | (apply vcIf_dec <;> intro _ <;> conv => whnf) | (apply vcIf_ndec <;> intro _ <;> conv => whnf) | (apply vcIf_not <;> intro _ <;> conv => whnf) | (apply vcIf_mk <;> intro _ <;> conv => whnf))
      exact again (k + 1) [0] (by omega) (by omega) ⟨rfl, by decide, rfl, ⟨⟨rfl, rfl⟩, ⟨rfl, rfl⟩, ⟨rfl, by rw [e1, ← Int.add_assoc]; rfl⟩, ⟨rfl, rfl⟩, trivial⟩, ⟨obj_box rfl rfl, trivial⟩⟩
    · omega
    · obtain rfl : k = t.kids.length := by omega
      exact ret_data rfl rfl (by rw [List.take_length]; rfl)
  · rw [if_neg hd]
    refine loopA (fun k : Nat => ([(1, .int d), (2, .ptr 0 none 0), (5, .int 1), (6, .int k)], [.cells 3 [[.int t.kind, .int t.val, lst 3 Tree.cs' t.kids]]])) (fun k => k ≤ t.kids.length) (fun k => t.kids.length - k) 0 (by omega) ⟨[0], rfl, by decide, rfl, by repeat' (first | exact True.intro | exact ⟨rfl, rfl⟩ | apply And.intro), by repeat' (first | exact True.intro | exact obj_box rfl rfl | exact obj_flat (by rfl) (by (first | exact flat_nil | exact flat_replicate rfl | exact flat_map (fun _ => rfl) | exact flat_map Tree.co_flat | (apply flat_append <;> (first | exact flat_replicate rfl | exact flat_map (fun _ => rfl))) | assumption)) | apply And.intro)⟩ ?_
    intro k hk
    repeat' (first | (apply AWP.go ok; rfl; conv => whnf) | (apply ord_mk; kernel_rfl; conv => whnf) | (apply And.intro; (first | omega | (unfold inI; omega) | (dsimp only; omega) | (unfold bitsOk; omega) | ((try dsimp only); simp only [List.length_map, List.length_take, List.length_append, List.length_replicate, List.length_cons, List.length_nil]; omega) | (simp only [btw_iff] at *; first | omega | (unfold inI; omega) | (unfold bitsOk; omega)) | exact stor_map (fun _ => rfl) | exact ⟨rfl, stor_cons rfl stor_nil⟩ | exact ⟨rfl, stor_map (fun _ => rfl) _⟩ | exact ⟨⟨rfl, by omega⟩, stor_map (fun _ => rfl) _⟩); conv => whnf) | (with_reducible apply get_mapN; omega; intro _; conv => whnf) | (with_reducible apply get_mapI; omega; intro _; conv => whnf) | (apply get_mapN; omega; intro _; conv => whnf) | (apply get_fill; omega; conv => whnf) | (apply ex_some; conv => whnf) | (apply get_map; omega; intro _; conv => whnf) | (apply vcG_dec <;> intro _ <;> conv => whnf) | (apply vcG_ndec <;> intro _ <;> conv => whnf) | (apply vcG_not <;> intro _ <;> conv => whnf) | (apply vcG_mk <;> intro _ <;> conv => whnf) | (apply vcIf_dec <;> intro _ <;> conv => whnf) | (apply vcIf_ndec <;> intro _ <;> conv => whnf) | (apply vcIf_not <;> intro _ <;> conv => whnf) | (apply vcIf_mk <;> intro _ <;> conv => whnf))
    · omega
    · exact ret_data rfl rfl rfl
    · exact ret_data rfl rfl rfl

theorem specExprValid_ok (t : Tree) (hm : t.mx) : CallsA Tryz.prog 199 [argAgg Tree.cs' t] [] (.bool t.exprB) [] := by
  rw [Tree.exprB_eq]
  refine callsA_of tabOk Tryz.func199 rfl rfl 10 Tryz.ntmps199 (by simp) ?_
  repeat' (first | (apply AWP.go ok; rfl; conv => whnf) | (apply ord_mk; kernel_rfl; conv => whnf) | (apply And.intro; (first | omega | (unfold inI; omega) | (dsimp only; omega) | (unfold bitsOk; omega) | ((try dsimp only); simp only [List.length_map, List.length_take, List.length_append, List.length_replicate, List.length_cons, List.length_nil]; omega) | (simp only [btw_iff] at *; first | omega | (unfold inI; omega) | (unfold bitsOk; omega)) | exact stor_map (fun _ => rfl) | exact ⟨rfl, stor_cons rfl stor_nil⟩ | exact ⟨rfl, stor_map (fun _ => rfl) _⟩ | exact ⟨⟨rfl, by omega⟩, stor_map (fun _ => rfl) _⟩); conv => whnf) | (with_reducible apply get_mapN; omega; intro _; conv => whnf) | (with_reducible apply get_mapI; omega; intro _; conv => whnf) | (apply get_mapN; omega; intro _; conv => whnf) | (apply get_fill; omega; conv => whnf) | (apply ex_some; conv => whnf) | (apply get_map; omega; intro _; conv => whnf) | (apply vcG_dec <;> intro _ <;> conv => whnf) | (apply vcG_ndec <;> intro _ <;> conv => whnf) | (apply vcG_not <;> intro _ <;> conv => whnf) | (apply vcG_mk <;> intro _ <;> conv => whnf) | (apply vcIf_dec <;> intro _ <;> conv => whnf) | (apply vcIf_ndec <;> intro _ <;> conv => whnf) | (apply vcIf_not <;> intro _ <;> conv => whnf) | (apply vcIf_mk <;> intro _ <;> conv => whnf) | (apply call_data (l1Shape_ok t hm 6 (by omega) (by omega)); rfl; rfl; conv => whnf) | (apply call_data (l1Count_ok t hm 6 6 (by omega) (by omega) (by omega) (by assumption)); rfl; rfl; conv => whnf))
  all_goals (refine ret_bool rfl ?_; first | rfl | (simp [*]; done) | (simp_all; done) | (simp_all; omega))

theorem specLabelsValid_ok (l : List Tree) (hl : l.length ≤ maxLen) (hm : ∀ t ∈ l, t.mx) : CallsA Tryz.prog 127 [lst 3 Tree.cs' l] [] (.bool (labelsB l)) [] := by
  unfold maxLen at hl
  unfold labelsB
  refine callsA_of tabOk Tryz.func127 rfl rfl 19 Tryz.ntmps127 (by simp) ?_
  repeat' (first | (apply AWP.go ok; rfl; conv => whnf) | (apply ord_mk; kernel_rfl; conv => whnf) | (apply And.intro; (first | omega | (unfold inI; omega) | (dsimp only; omega) | (unfold bitsOk; omega) | ((try dsimp only); simp only [List.length_map, List.length_take, List.length_append, List.length_replicate, List.length_cons, List.length_nil]; omega) | (simp only [btw_iff] at *; first | omega | (unfold inI; omega) | (unfold bitsOk; omega)) | exact stor_map (fun _ => rfl) | exact ⟨rfl, stor_cons rfl stor_nil⟩ | exact ⟨rfl, stor_map (fun _ => rfl) _⟩ | exact ⟨⟨rfl, by omega⟩, stor_map (fun _ => rfl) _⟩); conv => whnf) | (with_reducible apply get_mapN; omega; intro _; conv => whnf) | (with_reducible apply get_mapI; omega; intro _; conv => whnf) | (apply get_mapN; omega; intro _; conv => whnf) | (apply get_fill; omega; conv => whnf) | (apply ex_some; conv => whnf) | (apply get_map; omega; intro _; conv => whnf) | (apply vcG_dec <;> intro _ <;> conv => whnf) | (apply vcG_ndec <;> intro _ <;> conv => whnf) | (apply vcG_not <;> intro _ <;> conv => whnf) | (apply vcG_mk <;> intro _ <;> conv => whnf) | (apply vcIf_dec <;> intro _ <;> conv => whnf) | (apply vcIf_ndec <;> intro _ <;> conv => whnf) | (apply vcIf_not <;> intro _ <;> conv => whnf) | (apply vcIf_mk <;> intro _ <;> conv => whnf))
  refine loopA (fun k : Nat => ([(0, lst 3 Tree.cs' l), (3, .int k)], [])) (fun k => k ≤ l.length ∧ l.all Tree.exprB = (l.drop k).all Tree.exprB) (fun k => l.length - k) 0 ⟨by omega, rfl⟩ ⟨[], rfl, by decide, rfl, by repeat' (first | exact True.intro | exact ⟨rfl, rfl⟩ | apply And.intro), by repeat' (first | exact True.intro | exact obj_box rfl rfl | exact obj_flat (by rfl) (by (first | exact flat_nil | exact flat_replicate rfl | exact flat_map (fun _ => rfl) | exact flat_map Tree.co_flat | (apply flat_append <;> (first | exact flat_replicate rfl | exact flat_map (fun _ => rfl))) | assumption)) | apply And.intro)⟩ ?_
  intro k hk
  repeat' (first | (apply AWP.go ok; rfl; conv => whnf) | (apply ord_mk; kernel_rfl; conv => whnf) | (apply And.intro; (first | omega | (unfold inI; omega) | (dsimp only; omega) | (unfold bitsOk; omega) | ((try dsimp only); simp only [List.length_map, List.length_take, List.length_append, List.length_replicate, List.length_cons, List.length_nil]; omega) | (simp only [btw_iff] at *; first | omega | (unfold inI; omega) | (unfold bitsOk; omega)) | exact stor_map (fun _ => rfl) | exact ⟨rfl, stor_cons rfl stor_nil⟩ | exact ⟨rfl, stor_map (fun _ => rfl) _⟩ | exact ⟨⟨rfl, by omega⟩, stor_map (fun _ => rfl) _⟩); conv => whnf) | (with_reducible apply get_mapN; omega; intro _; conv => whnf) | (with_reducible apply get_mapI; omega; intro _; conv => whnf) | (apply get_mapN; omega; intro _; conv => whnf) | (apply get_fill; omega; conv => whnf) | (apply ex_some; conv => whnf) | (apply get_map; omega; intro _; conv => whnf) | (apply vcG_dec <;> intro _ <;> conv => whnf) | (apply vcG_ndec <;> intro _ <;> conv => whnf) | (apply vcG_not <;> intro _ <;> conv => whnf) | (apply vcG_mk <;> intro _ <;> conv => whnf) | (apply vcIf_dec <;> intro _ <;> conv => whnf) | (apply vcIf_ndec <;> intro _ <;> conv => whnf) | (apply vcIf_not <;> intro _ <;> conv => whnf) | (apply vcIf_mk <;> intro _ <;> conv => whnf) | (apply call_data (specExprValid_ok l[k] (hm _ (List.getElem_mem _))); rfl; rfl; conv => whnf))
  · rename_i h1
    exact ret_bool rfl (by rw [hk.2, drop_all _ _ _ (by assumption)]; simp [h1])
  · rename_i h1
    exact again (k + 1) [] ⟨by omega, by rw [hk.2, drop_all _ _ _ (by assumption)]; simp [h1]⟩ (by omega) ⟨rfl, by decide, rfl, by repeat' (first | exact True.intro | exact ⟨rfl, rfl⟩ | apply And.intro), by repeat' (first | exact True.intro | exact obj_box rfl rfl | exact obj_flat (by rfl) (by (first | exact flat_nil | exact flat_replicate rfl | exact flat_map (fun _ => rfl) | exact flat_map Tree.co_flat | (apply flat_append <;> (first | exact flat_replicate rfl | exact flat_map (fun _ => rfl))) | assumption)) | apply And.intro)⟩
  · exact ret_bool rfl (by rw [hk.2, drop_all_end _ _ _ (by omega), Bool.and_true])

theorem truth_ok (b : Bool) : CallsA Tryz.prog 250 [.bool b] [] (.int (b2i b)) [] := by
  refine callsA_of tabOk Tryz.func250 rfl rfl 4 Tryz.ntmps250 (by simp) ?_
  repeat' (first | (apply AWP.go ok; rfl; conv => whnf) | (apply ord_mk; kernel_rfl; conv => whnf) | (apply And.intro; (first | omega | (unfold inI; omega) | (dsimp only; omega) | (unfold bitsOk; omega) | ((try dsimp only); simp only [List.length_map, List.length_take, List.length_append, List.length_replicate, List.length_cons, List.length_nil]; omega) | (simp only [btw_iff] at *; first | omega | (unfold inI; omega) | (unfold bitsOk; omega)) | exact stor_map (fun _ => rfl) | exact ⟨rfl, stor_cons rfl stor_nil⟩ | exact ⟨rfl, stor_map (fun _ => rfl) _⟩ | exact ⟨⟨rfl, by omega⟩, stor_map (fun _ => rfl) _⟩); conv => whnf) | (with_reducible apply get_mapN; omega; intro _; conv => whnf) | (with_reducible apply get_mapI; omega; intro _; conv => whnf) | (apply get_mapN; omega; intro _; conv => whnf) | (apply get_fill; omega; conv => whnf) | (apply ex_some; conv => whnf) | (apply get_map; omega; intro _; conv => whnf) | (apply vcG_dec <;> intro _ <;> conv => whnf) | (apply vcG_ndec <;> intro _ <;> conv => whnf) | (apply vcG_not <;> intro _ <;> conv => whnf) | (apply vcG_mk <;> intro _ <;> conv => whnf) | (apply vcIf_dec <;> intro _ <;> conv => whnf) | (apply vcIf_ndec <;> intro _ <;> conv => whnf) | (apply vcIf_not <;> intro _ <;> conv => whnf) | (apply vcIf_mk <;> intro _ <;> conv => whnf))
  all_goals (refine ret_data rfl rfl ?_; simp only [*]; rfl)
theorem l1Bool_ok (b : Bool) : CallsA Tryz.prog 281 [.bool b] [] (.int (b2i b)) [] := by
  refine callsA_of tabOk Tryz.func281 rfl rfl 4 Tryz.ntmps281 (by simp) ?_
  repeat' (first | (apply AWP.go ok; rfl; conv => whnf) | (apply ord_mk; kernel_rfl; conv => whnf) | (apply And.intro; (first | omega | (unfold inI; omega) | (dsimp only; omega) | (unfold bitsOk; omega) | ((try dsimp only); simp only [List.length_map, List.length_take, List.length_append, List.length_replicate, List.length_cons, List.length_nil]; omega) | (simp only [btw_iff] at *; first | omega | (unfold inI; omega) | (unfold bitsOk; omega)) | exact stor_map (fun _ => rfl) | exact ⟨rfl, stor_cons rfl stor_nil⟩ | exact ⟨rfl, stor_map (fun _ => rfl) _⟩ | exact ⟨⟨rfl, by omega⟩, stor_map (fun _ => rfl) _⟩); conv => whnf) | (with_reducible apply get_mapN; omega; intro _; conv => whnf) | (with_reducible apply get_mapI; omega; intro _; conv => whnf) | (apply get_mapN; omega; intro _; conv => whnf) | (apply get_fill; omega; conv => whnf) | (apply ex_some; conv => whnf) | (apply get_map; omega; intro _; conv => whnf) | (apply vcG_dec <;> intro _ <;> conv => whnf) | (apply vcG_ndec <;> intro _ <;> conv => whnf) | (apply vcG_not <;> intro _ <;> conv => whnf) | (apply vcG_mk <;> intro _ <;> conv => whnf) | (apply vcIf_dec <;> intro _ <;> conv => whnf) | (apply vcIf_ndec <;> intro _ <;> conv => whnf) | (apply vcIf_not <;> intro _ <;> conv => whnf) | (apply vcIf_mk <;> intro _ <;> conv => whnf))
  all_goals (refine ret_data rfl rfl ?_; simp only [*]; rfl)

theorem good_cases {t : Tree} (hg : t.good) : (∃ x, t = .mk 1 x [] ∧ 0 ≤ x ∧ x ≤ 3) ∨ (∃ x, t = .mk 2 x [] ∧ 0 ≤ x ∧ x ≤ 2) ∨ (∃ x a, t = .mk 3 x [a] ∧ a.good) ∨ (∃ k x a b, t = .mk k x [a, b] ∧ 4 ≤ k ∧ k ≤ 9 ∧ a.good ∧ b.good) := by
  obtain ⟨g1, g2, g3, g4⟩ := Tree.good_iff hg
  obtain ⟨k, x, l⟩ := t
  simp only [Tree.kind, Tree.val, Tree.kids] at *
  unfold arity at g1
  unfold mostV at g3
  match l, g1, g4 with
  | [], g1, _ =>
    simp only [List.length_nil] at g1
    have : k = 1 ∨ k = 2 := by grind
    rcases this with rfl | rfl
    · exact .inl ⟨x, rfl, g2, by grind⟩
    · exact .inr (.inl ⟨x, rfl, g2, by grind⟩)
  | [a], g1, g4 =>
    simp only [List.length_cons, List.length_nil] at g1
    have : k = 3 := by grind
    subst this
    exact .inr (.inr (.inl ⟨x, a, rfl, g4 a (by simp)⟩))
  | [a, b], g1, g4 =>
    simp only [List.length_cons, List.length_nil] at g1
    exact .inr (.inr (.inr ⟨k, x, a, b, rfl, by grind, by grind, g4 a (by simp), g4 b (by simp)⟩))
  | a :: b :: c :: r, g1, _ => simp only [List.length_cons] at g1; grind

theorem eval_ok (v : List Int) (hv : ValsOk v) (t : Tree) : t.good → CallsA Tryz.prog 216 [argAgg Tree.cs' t, ints v] [] (.int (t.ev v)) [] := by
  induction t using Tree.ind with | h t ih => ?_
  intro hg
  have hl := hv.1
  rw [Tree.arg_eq]
  rcases good_cases hg with ⟨x, rfl, h1, h2⟩ | ⟨x, rfl, h1, h2⟩ | ⟨x, a, rfl, h1⟩ | ⟨k, x, a, b, rfl, h1, h2, h3, h4⟩ <;> simp only [Tree.kind, Tree.val, Tree.kids] at *
  · refine callsA_of tabOk Tryz.func216 rfl rfl 82 Tryz.ntmps216 (by simp) ?_
    repeat' (first | (apply AWP.go ok; rfl; conv => whnf) | (apply ord_mk; kernel_rfl; conv => whnf) | (apply And.intro; (first | omega | (unfold inI; omega) | (dsimp only; omega) | (unfold bitsOk; omega) | ((try dsimp only); simp only [List.length_map, List.length_take, List.length_append, List.length_replicate, List.length_cons, List.length_nil]; omega) | (simp only [btw_iff] at *; first | omega | (unfold inI; omega) | (unfold bitsOk; omega)) | exact stor_map (fun _ => rfl) | exact ⟨rfl, stor_cons rfl stor_nil⟩ | exact ⟨rfl, stor_map (fun _ => rfl) _⟩ | exact ⟨⟨rfl, by omega⟩, stor_map (fun _ => rfl) _⟩); conv => whnf) | (with_reducible apply get_mapN; omega; intro _; conv => whnf) | (with_reducible apply get_mapI; omega; intro _; conv => whnf) | (apply get_mapN; omega; intro _; conv => whnf) | (apply get_fill; omega; conv => whnf) | (apply ex_some; conv => whnf) | (apply get_map; omega; intro _; conv => whnf) | (apply vcG_dec <;> intro _ <;> conv => whnf) | (apply vcG_ndec <;> intro _ <;> conv => whnf) | (apply vcG_not <;> intro _ <;> conv => whnf) | (apply vcG_mk <;> intro _ <;> conv => whnf) | (apply vcIf_dec <;> intro _ <;> conv => whnf) | (apply vcIf_ndec <;> intro _ <;> conv => whnf) | (apply vcIf_not <;> intro _ <;> conv => whnf) | (apply vcIf_mk <;> intro _ <;> conv => whnf))
    all_goals first | (exfalso; omega) | exact ret_data rfl rfl (by rw [Tree.ev, if_pos rfl]; rfl)
  · refine callsA_of tabOk Tryz.func216 rfl rfl 82 Tryz.ntmps216 (by simp) ?_
    repeat' (first | (apply AWP.go ok; rfl; conv => whnf) | (apply ord_mk; kernel_rfl; conv => whnf) | (apply And.intro; (first | omega | (unfold inI; omega) | (dsimp only; omega) | (unfold bitsOk; omega) | ((try dsimp only); simp only [List.length_map, List.length_take, List.length_append, List.length_replicate, List.length_cons, List.length_nil]; omega) | (simp only [btw_iff] at *; first | omega | (unfold inI; omega) | (unfold bitsOk; omega)) | exact stor_map (fun _ => rfl) | exact ⟨rfl, stor_cons rfl stor_nil⟩ | exact ⟨rfl, stor_map (fun _ => rfl) _⟩ | exact ⟨⟨rfl, by omega⟩, stor_map (fun _ => rfl) _⟩); conv => whnf) | (with_reducible apply get_mapN; omega; intro _; conv => whnf) | (with_reducible apply get_mapI; omega; intro _; conv => whnf) | (apply get_mapN; omega; intro _; conv => whnf) | (apply get_fill; omega; conv => whnf) | (apply ex_some; conv => whnf) | (apply get_map; omega; intro _; conv => whnf) | (apply vcG_dec <;> intro _ <;> conv => whnf) | (apply vcG_ndec <;> intro _ <;> conv => whnf) | (apply vcG_not <;> intro _ <;> conv => whnf) | (apply vcG_mk <;> intro _ <;> conv => whnf) | (apply vcIf_dec <;> intro _ <;> conv => whnf) | (apply vcIf_ndec <;> intro _ <;> conv => whnf) | (apply vcIf_not <;> intro _ <;> conv => whnf) | (apply vcIf_mk <;> intro _ <;> conv => whnf))
    all_goals first | (exfalso; omega) | skip
    refine ret_data rfl rfl ?_
    rw [Tree.ev, if_neg (by omega), if_pos rfl, List.getD_eq_getElem?_getD, List.getElem?_eq_getElem (by omega)]; rfl
  · have ha := Tree.ev_range hv a h1
    refine callsA_of tabOk Tryz.func216 rfl rfl 82 Tryz.ntmps216 (by simp) ?_
    repeat' (first | (apply AWP.go ok; rfl; conv => whnf) | (apply ord_mk; kernel_rfl; conv => whnf) | (apply And.intro; (first | omega | (unfold inI; omega) | (dsimp only; omega) | (unfold bitsOk; omega) | ((try dsimp only); simp only [List.length_map, List.length_take, List.length_append, List.length_replicate, List.length_cons, List.length_nil]; omega) | (simp only [btw_iff] at *; first | omega | (unfold inI; omega) | (unfold bitsOk; omega)) | exact stor_map (fun _ => rfl) | exact ⟨rfl, stor_cons rfl stor_nil⟩ | exact ⟨rfl, stor_map (fun _ => rfl) _⟩ | exact ⟨⟨rfl, by omega⟩, stor_map (fun _ => rfl) _⟩); conv => whnf) | (with_reducible apply get_mapN; omega; intro _; conv => whnf) | (with_reducible apply get_mapI; omega; intro _; conv => whnf) | (apply get_mapN; omega; intro _; conv => whnf) | (apply get_fill; omega; conv => whnf) | (apply ex_some; conv => whnf) | (apply get_map; omega; intro _; conv => whnf) | (apply vcG_dec <;> intro _ <;> conv => whnf) | (apply vcG_ndec <;> intro _ <;> conv => whnf) | (apply vcG_not <;> intro _ <;> conv => whnf) | (apply vcG_mk <;> intro _ <;> conv => whnf) | (apply vcIf_dec <;> intro _ <;> conv => whnf) | (apply vcIf_ndec <;> intro _ <;> conv => whnf) | (apply vcIf_not <;> intro _ <;> conv => whnf) | (apply vcIf_mk <;> intro _ <;> conv => whnf) | (apply call_data (ih a (by simp) h1); rfl; rfl; conv => whnf) | (apply call_data (truth_ok _); rfl; rfl; conv => whnf))
    all_goals first | (exfalso; omega) | skip
    all_goals (refine ret_data rfl rfl ?_; rw [Tree.ev, if_neg (by omega), if_neg (by omega)]; simp only [Tree.evs]; rfl)
  · have ha := Tree.ev_range hv a h3
    have hb := Tree.ev_range hv b h4
    refine callsA_of tabOk Tryz.func216 rfl rfl 82 Tryz.ntmps216 (by simp) ?_
    repeat' (first | (apply AWP.go ok; rfl; conv => whnf) | (apply ord_mk; kernel_rfl; conv => whnf) | (apply And.intro; (first | omega | (unfold inI; omega) | (dsimp only; omega) | (unfold bitsOk; omega) | ((try dsimp only); simp only [List.length_map, List.length_take, List.length_append, List.length_replicate, List.length_cons, List.length_nil]; omega) | (simp only [btw_iff] at *; first | omega | (unfold inI; omega) | (unfold bitsOk; omega)) | exact stor_map (fun _ => rfl) | exact ⟨rfl, stor_cons rfl stor_nil⟩ | exact ⟨rfl, stor_map (fun _ => rfl) _⟩ | exact ⟨⟨rfl, by omega⟩, stor_map (fun _ => rfl) _⟩); conv => whnf) | (with_reducible apply get_mapN; omega; intro _; conv => whnf) | (with_reducible apply get_mapI; omega; intro _; conv => whnf) | (apply get_mapN; omega; intro _; conv => whnf) | (apply get_fill; omega; conv => whnf) | (apply ex_some; conv => whnf) | (apply get_map; omega; intro _; conv => whnf) | (apply vcG_dec <;> intro _ <;> conv => whnf) | (apply vcG_ndec <;> intro _ <;> conv => whnf) | (apply vcG_not <;> intro _ <;> conv => whnf) | (apply vcG_mk <;> intro _ <;> conv => whnf) | (apply vcIf_dec <;> intro _ <;> conv => whnf) | (apply vcIf_ndec <;> intro _ <;> conv => whnf) | (apply vcIf_not <;> intro _ <;> conv => whnf) | (apply vcIf_mk <;> intro _ <;> conv => whnf) | (apply call_data (ih a (by simp) h3); rfl; rfl; conv => whnf) | (apply call_data (ih b (by simp) h4); rfl; rfl; conv => whnf) | (apply call_data (truth_ok _); rfl; rfl; conv => whnf))
    all_goals first | (exfalso; omega) | skip
    all_goals (refine ret_int rfl ?_; clear ih; simp only [Tree.ev, Tree.evs, b2i]; grind)

theorem l1Eval_ok (v : List Int) (hv : ValsOk v) (t : Tree) : t.good → CallsA Tryz.prog 246 [argAgg Tree.cs' t, ints v] [] (.int (t.ev v)) [] := by
  induction t using Tree.ind with | h t ih => ?_
  intro hg
  have hl := hv.1
  rw [Tree.arg_eq]
  rcases good_cases hg with ⟨x, rfl, h1, h2⟩ | ⟨x, rfl, h1, h2⟩ | ⟨x, a, rfl, h1⟩ | ⟨k, x, a, b, rfl, h1, h2, h3, h4⟩ <;> simp only [Tree.kind, Tree.val, Tree.kids] at *
  · refine callsA_of tabOk Tryz.func246 rfl rfl 86 Tryz.ntmps246 (by simp) ?_
    repeat' (first | (apply AWP.go ok; rfl; conv => whnf) | (apply ord_mk; kernel_rfl; conv => whnf) | (apply And.intro; (first | omega | (unfold inI; omega) | (dsimp only; omega) | (unfold bitsOk; omega) | ((try dsimp only); simp only [List.length_map, List.length_take, List.length_append, List.length_replicate, List.length_cons, List.length_nil]; omega) | (simp only [btw_iff] at *; first | omega | (unfold inI; omega) | (unfold bitsOk; omega)) | exact stor_map (fun _ => rfl) | exact ⟨rfl, stor_cons rfl stor_nil⟩ | exact ⟨rfl, stor_map (fun _ => rfl) _⟩ | exact ⟨⟨rfl, by omega⟩, stor_map (fun _ => rfl) _⟩); conv => whnf) | (with_reducible apply get_mapN; omega; intro _; conv => whnf) | (with_reducible apply get_mapI; omega; intro _; conv => whnf) | (apply get_mapN; omega; intro _; conv => whnf) | (apply get_fill; omega; conv => whnf) | (apply ex_some; conv => whnf) | (apply get_map; omega; intro _; conv => whnf) | (apply vcG_dec <;> intro _ <;> conv => whnf) | (apply vcG_ndec <;> intro _ <;> conv => whnf) | (apply vcG_not <;> intro _ <;> conv => whnf) | (apply vcG_mk <;> intro _ <;> conv => whnf) | (apply vcIf_dec <;> intro _ <;> conv => whnf) | (apply vcIf_ndec <;> intro _ <;> conv => whnf) | (apply vcIf_not <;> intro _ <;> conv => whnf) | (apply vcIf_mk <;> intro _ <;> conv => whnf))
    all_goals first | (exfalso; omega) | exact ret_data rfl rfl (by rw [Tree.ev, if_pos rfl]; rfl)
  · refine callsA_of tabOk Tryz.func246 rfl rfl 86 Tryz.ntmps246 (by simp) ?_
    repeat' (first | (apply AWP.go ok; rfl; conv => whnf) | (apply ord_mk; kernel_rfl; conv => whnf) | (apply And.intro; (first | omega | (unfold inI; omega) | (dsimp only; omega) | (unfold bitsOk; omega) | ((try dsimp only); simp only [List.length_map, List.length_take, List.length_append, List.length_replicate, List.length_cons, List.length_nil]; omega) | (simp only [btw_iff] at *; first | omega | (unfold inI; omega) | (unfold bitsOk; omega)) | exact stor_map (fun _ => rfl) | exact ⟨rfl, stor_cons rfl stor_nil⟩ | exact ⟨rfl, stor_map (fun _ => rfl) _⟩ | exact ⟨⟨rfl, by omega⟩, stor_map (fun _ => rfl) _⟩); conv => whnf) | (with_reducible apply get_mapN; omega; intro _; conv => whnf) | (with_reducible apply get_mapI; omega; intro _; conv => whnf) | (apply get_mapN; omega; intro _; conv => whnf) | (apply get_fill; omega; conv => whnf) | (apply ex_some; conv => whnf) | (apply get_map; omega; intro _; conv => whnf) | (apply vcG_dec <;> intro _ <;> conv => whnf) | (apply vcG_ndec <;> intro _ <;> conv => whnf) | (apply vcG_not <;> intro _ <;> conv => whnf) | (apply vcG_mk <;> intro _ <;> conv => whnf) | (apply vcIf_dec <;> intro _ <;> conv => whnf) | (apply vcIf_ndec <;> intro _ <;> conv => whnf) | (apply vcIf_not <;> intro _ <;> conv => whnf) | (apply vcIf_mk <;> intro _ <;> conv => whnf))
    all_goals first | (exfalso; omega) | skip
    refine ret_data rfl rfl ?_
    rw [Tree.ev, if_neg (by omega), if_pos rfl, List.getD_eq_getElem?_getD, List.getElem?_eq_getElem (by omega)]; rfl
  · have ha := Tree.ev_range hv a h1
    refine callsA_of tabOk Tryz.func246 rfl rfl 86 Tryz.ntmps246 (by simp) ?_
    repeat' (first | (apply AWP.go ok; rfl; conv => whnf) | (apply ord_mk; kernel_rfl; conv => whnf) | (apply And.intro; (first | omega | (unfold inI; omega) | (dsimp only; omega) | (unfold bitsOk; omega) | ((try dsimp only); simp only [List.length_map, List.length_take, List.length_append, List.length_replicate, List.length_cons, List.length_nil]; omega) | (simp only [btw_iff] at *; first | omega | (unfold inI; omega) | (unfold bitsOk; omega)) | exact stor_map (fun _ => rfl) | exact ⟨rfl, stor_cons rfl stor_nil⟩ | exact ⟨rfl, stor_map (fun _ => rfl) _⟩ | exact ⟨⟨rfl, by omega⟩, stor_map (fun _ => rfl) _⟩); conv => whnf) | (with_reducible apply get_mapN; omega; intro _; conv => whnf) | (with_reducible apply get_mapI; omega; intro _; conv => whnf) | (apply get_mapN; omega; intro _; conv => whnf) | (apply get_fill; omega; conv => whnf) | (apply ex_some; conv => whnf) | (apply get_map; omega; intro _; conv => whnf) | (apply vcG_dec <;> intro _ <;> conv => whnf) | (apply vcG_ndec <;> intro _ <;> conv => whnf) | (apply vcG_not <;> intro _ <;> conv => whnf) | (apply vcG_mk <;> intro _ <;> conv => whnf) | (apply vcIf_dec <;> intro _ <;> conv => whnf) | (apply vcIf_ndec <;> intro _ <;> conv => whnf) | (apply vcIf_not <;> intro _ <;> conv => whnf) | (apply vcIf_mk <;> intro _ <;> conv => whnf) | (apply call_data (ih a (by simp) h1); rfl; rfl; conv => whnf) | (apply call_data (l1Bool_ok _); rfl; rfl; conv => whnf))
    all_goals first | (exfalso; omega) | skip
    all_goals (refine ret_data rfl rfl ?_; rw [Tree.ev, if_neg (by omega), if_neg (by omega)]; simp only [Tree.evs]; rfl)
  · have ha := Tree.ev_range hv a h3
    have hb := Tree.ev_range hv b h4
    refine callsA_of tabOk Tryz.func246 rfl rfl 86 Tryz.ntmps246 (by simp) ?_
    repeat' (first | (apply AWP.go ok; rfl; conv => whnf) | (apply ord_mk; kernel_rfl; conv => whnf) | (apply And.intro; (first | omega | (unfold inI; omega) | (dsimp only; omega) | (unfold bitsOk; omega) | ((try dsimp only); simp only [List.length_map, List.length_take, List.length_append, List.length_replicate, List.length_cons, List.length_nil]; omega) | (simp only [btw_iff] at *; first | omega | (unfold inI; omega) | (unfold bitsOk; omega)) | exact stor_map (fun _ => rfl) | exact ⟨rfl, stor_cons rfl stor_nil⟩ | exact ⟨rfl, stor_map (fun _ => rfl) _⟩ | exact ⟨⟨rfl, by omega⟩, stor_map (fun _ => rfl) _⟩); conv => whnf) | (with_reducible apply get_mapN; omega; intro _; conv => whnf) | (with_reducible apply get_mapI; omega; intro _; conv => whnf) | (apply get_mapN; omega; intro _; conv => whnf) | (apply get_fill; omega; conv => whnf) | (apply ex_some; conv => whnf) | (apply get_map; omega; intro _; conv => whnf) | (apply vcG_dec <;> intro _ <;> conv => whnf) | (apply vcG_ndec <;> intro _ <;> conv => whnf) | (apply vcG_not <;> intro _ <;> conv => whnf) | (apply vcG_mk <;> intro _ <;> conv => whnf) | (apply vcIf_dec <;> intro _ <;> conv => whnf) | (apply vcIf_ndec <;> intro _ <;> conv => whnf) | (apply vcIf_not <;> intro _ <;> conv => whnf) | (apply vcIf_mk <;> intro _ <;> conv => whnf) | (apply call_data (ih a (by simp) h3); rfl; rfl; conv => whnf) | (apply call_data (ih b (by simp) h4); rfl; rfl; conv => whnf) | (apply call_data (l1Bool_ok _); rfl; rfl; conv => whnf))
    all_goals first | (exfalso; omega) | skip
    all_goals (refine ret_int rfl ?_; clear ih; simp only [Tree.ev, Tree.evs, b2i]; grind)
end Go.Proofs.YtcmihlbihppflaaGreat

namespace Go.Proofs.YtcmihlbihppflaaGreat
open Go.Gl
attribute [local irreducible] vcCall AWP RetOk Again ordOk

/-- the letter of values, from the k-th label on -/
def ltr (v : List Int) (l : List Tree) (k n : Nat) : Nat := match l with
  | [] => n
  | t :: r => ltr v r (k + 1) (if t.ev v = 0 then n else n ||| 2 ^ k)
theorem ltr_cons (v : List Int) (l : List Tree) (k n : Nat) (h : k < l.length) : ltr v (l.drop k) k n = ltr v (l.drop (k + 1)) (k + 1) (if l[k].ev v = 0 then n else n ||| 2 ^ k) := by
  rw [List.drop_eq_getElem_cons h, ltr]
theorem ltr_end (v : List Int) (l : List Tree) (k n : Nat) (h : l.length ≤ k) : ltr v (l.drop k) k n = n := by
  rw [List.drop_eq_nil_of_le h, ltr]
def letterZ (labels : List Tree) (s : State) : Int := ltr s.b labels 0 0
theorem or_lt {n k : Nat} (h : n < 2 ^ k) : n ||| 2 ^ k < 2 ^ (k + 1) :=
  Nat.or_lt_two_pow (by rw [Nat.pow_succ]; omega) (by rw [Nat.pow_succ]; have := Nat.two_pow_pos k; omega)

def LabelsOk (l : List Tree) : Prop := l.length = 3 ∧ ∀ t ∈ l, t.good
theorem LabelsOk.of {l : List Tree} (h : labelsB l = true) : LabelsOk l := by
  simp only [labelsB, Bool.and_eq_true, decide_eq_true_eq, List.all_eq_true] at h
  exact ⟨by omega, fun t ht => Tree.good_of (h.2 t ht)⟩

theorem shl_eq (k : Nat) (hk : k < 3) : (1 : Int) * 2 ^ ((k : Int).toNat) = ((2 ^ k : Nat) : Int) := by simp
theorem pow_bound {k : Nat} (hk : k < 3) : 2 ^ k ≤ 8 ∧ 2 ^ (k + 1) ≤ 8 ∧ 0 < 2 ^ k := by
  have : k = 0 ∨ k = 1 ∨ k = 2 := by omega
  rcases this with rfl | rfl | rfl <;> simp

theorem letter_ok (s : State) (hv : ValsOk s.b) (l : List Tree) (hl : LabelsOk l) : CallsA Tryz.prog 172 [ints s.b, lst 3 Tree.cs' l] [] (.int (letterZ l s)) [] := by
  have h3 := hl.1
  refine callsA_of tabOk Tryz.func172 rfl rfl 25 Tryz.ntmps172 (by simp) ?_
  repeat' (first | (apply AWP.go ok; rfl; conv => whnf) | (apply ord_mk; kernel_rfl; conv => whnf) | (apply And.intro; (first | omega | (unfold inI; omega) | (dsimp only; omega) | (unfold bitsOk; omega) | ((try dsimp only); simp only [List.length_map, List.length_take, List.length_append, List.length_replicate, List.length_cons, List.length_nil]; omega) | (simp only [btw_iff] at *; first | omega | (unfold inI; omega) | (unfold bitsOk; omega)) | exact stor_map (fun _ => rfl) | exact ⟨rfl, stor_cons rfl stor_nil⟩ | exact ⟨rfl, stor_map (fun _ => rfl) _⟩ | exact ⟨⟨rfl, by omega⟩, stor_map (fun _ => rfl) _⟩); conv => whnf) | (with_reducible apply get_mapN; omega; intro _; conv => whnf) | (with_reducible apply get_mapI; omega; intro _; conv => whnf) | (apply get_mapN; omega; intro _; conv => whnf) | (apply get_fill; omega; conv => whnf) | (apply ex_some; conv => whnf) | (apply get_map; omega; intro _; conv => whnf) | (apply vcG_dec <;> intro _ <;> conv => whnf) | (apply vcG_ndec <;> intro _ <;> conv => whnf) | (apply vcG_not <;> intro _ <;> conv => whnf) | (apply vcG_mk <;> intro _ <;> conv => whnf) | (apply vcIf_dec <;> intro _ <;> conv => whnf) | (apply vcIf_ndec <;> intro _ <;> conv => whnf) | (apply vcIf_not <;> intro _ <;> conv => whnf) | (apply vcIf_mk <;> intro _ <;> conv => whnf))
  refine loopA (fun x : Nat × Nat => ([(0, ints s.b), (5, .int x.2), (8, lst 3 Tree.cs' l), (9, .int l.length), (10, .int x.1)], [])) (fun x => x.1 ≤ l.length ∧ x.2 < 2 ^ x.1 ∧ ltr s.b l 0 0 = ltr s.b (l.drop x.1) x.1 x.2) (fun x => l.length - x.1) (0, 0) ⟨by omega, by decide, rfl⟩ ⟨[], rfl, by decide, rfl, by repeat' (first | exact True.intro | exact ⟨rfl, rfl⟩ | apply And.intro), by repeat' (first | exact True.intro | exact obj_box rfl rfl | exact obj_flat (by rfl) (by (first | exact flat_nil | exact flat_replicate rfl | exact flat_map (fun _ => rfl) | exact flat_map Tree.co_flat | (apply flat_append <;> (first | exact flat_replicate rfl | exact flat_map (fun _ => rfl))) | assumption)) | apply And.intro)⟩ ?_
  rintro ⟨k, n⟩ ⟨hk1, hk2, hk3⟩
  dsimp only at hk1 hk2 hk3
  repeat' (first | (apply AWP.go ok; rfl; conv => whnf) | (apply ord_mk; kernel_rfl; conv => whnf) | (apply And.intro; (first | omega | (unfold inI; omega) | (dsimp only; omega) | (unfold bitsOk; omega) | ((try dsimp only); simp only [List.length_map, List.length_take, List.length_append, List.length_replicate, List.length_cons, List.length_nil]; omega) | (simp only [btw_iff] at *; first | omega | (unfold inI; omega) | (unfold bitsOk; omega)) | exact stor_map (fun _ => rfl) | exact ⟨rfl, stor_cons rfl stor_nil⟩ | exact ⟨rfl, stor_map (fun _ => rfl) _⟩ | exact ⟨⟨rfl, by omega⟩, stor_map (fun _ => rfl) _⟩); conv => whnf) | (with_reducible apply get_mapN; omega; intro _; conv => whnf) | (with_reducible apply get_mapI; omega; intro _; conv => whnf) | (apply get_mapN; omega; intro _; conv => whnf) | (apply get_fill; omega; conv => whnf) | (apply ex_some; conv => whnf) | (apply get_map; omega; intro _; conv => whnf) | (apply vcG_dec <;> intro _ <;> conv => whnf) | (apply vcG_ndec <;> intro _ <;> conv => whnf) | (apply vcG_not <;> intro _ <;> conv => whnf) | (apply vcG_mk <;> intro _ <;> conv => whnf) | (apply vcIf_dec <;> intro _ <;> conv => whnf) | (apply vcIf_ndec <;> intro _ <;> conv => whnf) | (apply vcIf_not <;> intro _ <;> conv => whnf) | (apply vcIf_mk <;> intro _ <;> conv => whnf) | (apply call_data (eval_ok s.b hv l[k] (hl.2 _ (List.getElem_mem _))); rfl; rfl; conv => whnf))
  · rename_i hkl h
    have hp := pow_bound (show k < 3 by omega)
    have e := shl_eq k (by omega)
    refine And.intro ⟨by omega, by omega, by rw [e]; unfold inI; omega⟩ ?_
    conv => whnf
    refine And.intro (by rw [e]; unfold bitsOk; omega) ?_
    conv => whnf
    repeat' (first | (apply AWP.go ok; rfl; conv => whnf) | (apply ord_mk; kernel_rfl; conv => whnf) | (apply And.intro; (first | omega | (unfold inI; omega) | (dsimp only; omega) | (unfold bitsOk; omega) | ((try dsimp only); simp only [List.length_map, List.length_take, List.length_append, List.length_replicate, List.length_cons, List.length_nil]; omega) | (simp only [btw_iff] at *; first | omega | (unfold inI; omega) | (unfold bitsOk; omega)) | exact stor_map (fun _ => rfl) | exact ⟨rfl, stor_cons rfl stor_nil⟩ | exact ⟨rfl, stor_map (fun _ => rfl) _⟩ | exact ⟨⟨rfl, by omega⟩, stor_map (fun _ => rfl) _⟩); conv => whnf) | (with_reducible apply get_mapN; omega; intro _; conv => whnf) | (with_reducible apply get_mapI; omega; intro _; conv => whnf) | (apply get_mapN; omega; intro _; conv => whnf) | (apply get_fill; omega; conv => whnf) | (apply ex_some; conv => whnf) | (apply get_map; omega; intro _; conv => whnf) | (apply vcG_dec <;> intro _ <;> conv => whnf) | (apply vcG_ndec <;> intro _ <;> conv => whnf) | (apply vcG_not <;> intro _ <;> conv => whnf) | (apply vcG_mk <;> intro _ <;> conv => whnf) | (apply vcIf_dec <;> intro _ <;> conv => whnf) | (apply vcIf_ndec <;> intro _ <;> conv => whnf) | (apply vcIf_not <;> intro _ <;> conv => whnf) | (apply vcIf_mk <;> intro _ <;> conv => whnf))
    rw [ltr_cons _ _ _ _ hkl, if_neg h] at hk3
    refine again (k + 1, n ||| 2 ^ k) [] ⟨by dsimp only; omega, or_lt hk2, hk3⟩ (by dsimp only; omega) ⟨rfl, by decide, rfl, ⟨⟨rfl, rfl⟩, ⟨rfl, ?_⟩, ⟨rfl, rfl⟩, ⟨rfl, rfl⟩, ⟨rfl, rfl⟩, trivial⟩, trivial⟩
    show AC.raw (.int .i64 (((n : Int).toNat ||| ((1 : Int) * 2 ^ ((k : Int).toNat)).toNat : Nat) : Int)) = _
    rw [e]; rfl
  · rename_i hkl h
    rw [ltr_cons _ _ _ _ hkl, if_pos h] at hk3
    have : 2 ^ k ≤ 2 ^ (k + 1) := by rw [Nat.pow_succ]; omega
    exact again (k + 1, n) [] ⟨by dsimp only; omega, by dsimp only; omega, hk3⟩ (by dsimp only; omega) ⟨rfl, by decide, rfl, by repeat' (first | exact True.intro | exact ⟨rfl, rfl⟩ | apply And.intro), by repeat' (first | exact True.intro | exact obj_box rfl rfl | exact obj_flat (by rfl) (by (first | exact flat_nil | exact flat_replicate rfl | exact flat_map (fun _ => rfl) | exact flat_map Tree.co_flat | (apply flat_append <;> (first | exact flat_replicate rfl | exact flat_map (fun _ => rfl))) | assumption)) | apply And.intro)⟩
  · rw [ltr_end _ _ _ _ (by omega)] at hk3
    exact ret_data rfl rfl (by unfold letterZ; rw [hk3]; rfl)

theorem l8Letter_ok (s : State) (hv : ValsOk s.b) (l : List Tree) (hl : LabelsOk l) : CallsA Tryz.prog 200 [argAgg State.cs s, lst 3 Tree.cs' l] [] (.int (letterZ l s)) [] := by
  have h3 := hl.1
  refine callsA_of tabOk Tryz.func200 rfl rfl 27 Tryz.ntmps200 (by simp) ?_
  repeat' (first | (apply AWP.go ok; rfl; conv => whnf) | (apply ord_mk; kernel_rfl; conv => whnf) | (apply And.intro; (first | omega | (unfold inI; omega) | (dsimp only; omega) | (unfold bitsOk; omega) | ((try dsimp only); simp only [List.length_map, List.length_take, List.length_append, List.length_replicate, List.length_cons, List.length_nil]; omega) | (simp only [btw_iff] at *; first | omega | (unfold inI; omega) | (unfold bitsOk; omega)) | exact stor_map (fun _ => rfl) | exact ⟨rfl, stor_cons rfl stor_nil⟩ | exact ⟨rfl, stor_map (fun _ => rfl) _⟩ | exact ⟨⟨rfl, by omega⟩, stor_map (fun _ => rfl) _⟩); conv => whnf) | (with_reducible apply get_mapN; omega; intro _; conv => whnf) | (with_reducible apply get_mapI; omega; intro _; conv => whnf) | (apply get_mapN; omega; intro _; conv => whnf) | (apply get_fill; omega; conv => whnf) | (apply ex_some; conv => whnf) | (apply get_map; omega; intro _; conv => whnf) | (apply vcG_dec <;> intro _ <;> conv => whnf) | (apply vcG_ndec <;> intro _ <;> conv => whnf) | (apply vcG_not <;> intro _ <;> conv => whnf) | (apply vcG_mk <;> intro _ <;> conv => whnf) | (apply vcIf_dec <;> intro _ <;> conv => whnf) | (apply vcIf_ndec <;> intro _ <;> conv => whnf) | (apply vcIf_not <;> intro _ <;> conv => whnf) | (apply vcIf_mk <;> intro _ <;> conv => whnf))
  refine loopA (fun x : Nat × Nat => ([(1, lst 3 Tree.cs' l), (2, .ptr 0 none 0), (5, .int x.2), (6, .int x.1)], [.cells 2 [[ints s.a, ints s.b]]])) (fun x => x.1 ≤ l.length ∧ x.2 < 2 ^ x.1 ∧ ltr s.b l 0 0 = ltr s.b (l.drop x.1) x.1 x.2) (fun x => l.length - x.1) (0, 0) ⟨by omega, by decide, rfl⟩ ⟨[0], rfl, by decide, rfl, by repeat' (first | exact True.intro | exact ⟨rfl, rfl⟩ | apply And.intro), by repeat' (first | exact True.intro | exact obj_box rfl rfl | exact obj_flat (by rfl) (by (first | exact flat_nil | exact flat_replicate rfl | exact flat_map (fun _ => rfl) | exact flat_map Tree.co_flat | (apply flat_append <;> (first | exact flat_replicate rfl | exact flat_map (fun _ => rfl))) | assumption)) | apply And.intro)⟩ ?_
  rintro ⟨k, n⟩ ⟨hk1, hk2, hk3⟩
  dsimp only at hk1 hk2 hk3
  repeat' (first | (apply AWP.go ok; rfl; conv => whnf) | (apply ord_mk; kernel_rfl; conv => whnf) | (apply And.intro; (first | omega | (unfold inI; omega) | (dsimp only; omega) | (unfold bitsOk; omega) | ((try dsimp only); simp only [List.length_map, List.length_take, List.length_append, List.length_replicate, List.length_cons, List.length_nil]; omega) | (simp only [btw_iff] at *; first | omega | (unfold inI; omega) | (unfold bitsOk; omega)) | exact stor_map (fun _ => rfl) | exact ⟨rfl, stor_cons rfl stor_nil⟩ | exact ⟨rfl, stor_map (fun _ => rfl) _⟩ | exact ⟨⟨rfl, by omega⟩, stor_map (fun _ => rfl) _⟩); conv => whnf) | (with_reducible apply get_mapN; omega; intro _; conv => whnf) | (with_reducible apply get_mapI; omega; intro _; conv => whnf) | (apply get_mapN; omega; intro _; conv => whnf) | (apply get_fill; omega; conv => whnf) | (apply ex_some; conv => whnf) | (apply get_map; omega; intro _; conv => whnf) | (apply vcG_dec <;> intro _ <;> conv => whnf) | (apply vcG_ndec <;> intro _ <;> conv => whnf) | (apply vcG_not <;> intro _ <;> conv => whnf) | (apply vcG_mk <;> intro _ <;> conv => whnf) | (apply vcIf_dec <;> intro _ <;> conv => whnf) | (apply vcIf_ndec <;> intro _ <;> conv => whnf) | (apply vcIf_not <;> intro _ <;> conv => whnf) | (apply vcIf_mk <;> intro _ <;> conv => whnf) | (apply call_data (l1Eval_ok s.b hv l[k] (hl.2 _ (List.getElem_mem _))); rfl; rfl; conv => whnf))
  · rename_i hkl h
    have hp := pow_bound (show k < 3 by omega)
    have e := shl_eq k (by omega)
    refine And.intro ?_ ?_
    · show IntKind.u64.wrap k = k
      have : k = 0 ∨ k = 1 ∨ k = 2 := by dsimp only at hkl; omega
      rcases this with rfl | rfl | rfl <;> rfl
    conv => whnf
    refine And.intro ⟨by omega, by omega, by rw [e]; unfold inI; omega⟩ ?_
    conv => whnf
    refine And.intro (by rw [e]; unfold bitsOk; omega) ?_
    conv => whnf
    repeat' (first | (apply AWP.go ok; rfl; conv => whnf) | (apply ord_mk; kernel_rfl; conv => whnf) | (apply And.intro; (first | omega | (unfold inI; omega) | (dsimp only; omega) | (unfold bitsOk; omega) | ((try dsimp only); simp only [List.length_map, List.length_take, List.length_append, List.length_replicate, List.length_cons, List.length_nil]; omega) | (simp only [btw_iff] at *; first | omega | (unfold inI; omega) | (unfold bitsOk; omega)) | exact stor_map (fun _ => rfl) | exact ⟨rfl, stor_cons rfl stor_nil⟩ | exact ⟨rfl, stor_map (fun _ => rfl) _⟩ | exact ⟨⟨rfl, by omega⟩, stor_map (fun _ => rfl) _⟩); conv => whnf) | (with_reducible apply get_mapN; omega; intro _; conv => whnf) | (with_reducible apply get_mapI; omega; intro _; conv => whnf) | (apply get_mapN; omega; intro _; conv => whnf) | (apply get_fill; omega; conv => whnf) | (apply ex_some; conv => whnf) | (apply get_map; omega; intro _; conv => whnf) | (apply vcG_dec <;> intro _ <;> conv => whnf) | (apply vcG_ndec <;> intro _ <;> conv => whnf) | (apply vcG_not <;> intro _ <;> conv => whnf) | (apply vcG_mk <;> intro _ <;> conv => whnf) | (apply vcIf_dec <;> intro _ <;> conv => whnf) | (apply vcIf_ndec <;> intro _ <;> conv => whnf) | (apply vcIf_not <;> intro _ <;> conv => whnf) | (apply vcIf_mk <;> intro _ <;> conv => whnf))
    rw [ltr_cons _ _ _ _ hkl, if_neg h] at hk3
    refine again (k + 1, n ||| 2 ^ k) [0] ⟨by dsimp only; omega, or_lt hk2, hk3⟩ (by dsimp only; omega) ⟨rfl, by decide, rfl, ⟨⟨rfl, rfl⟩, ⟨rfl, rfl⟩, ⟨rfl, ?_⟩, ⟨rfl, rfl⟩, trivial⟩, ⟨obj_box rfl rfl, trivial⟩⟩
    show AC.raw (.int .i64 (((n : Int).toNat ||| ((1 : Int) * 2 ^ ((k : Int).toNat)).toNat : Nat) : Int)) = _
    rw [e]; rfl
  · rename_i hkl h
    rw [ltr_cons _ _ _ _ hkl, if_pos h] at hk3
    have : 2 ^ k ≤ 2 ^ (k + 1) := by rw [Nat.pow_succ]; omega
    exact again (k + 1, n) [0] ⟨by dsimp only; omega, by dsimp only; omega, hk3⟩ (by dsimp only; omega) ⟨rfl, by decide, rfl, by repeat' (first | exact True.intro | exact ⟨rfl, rfl⟩ | apply And.intro), by repeat' (first | exact True.intro | exact obj_box rfl rfl | exact obj_flat (by rfl) (by (first | exact flat_nil | exact flat_replicate rfl | exact flat_map (fun _ => rfl) | exact flat_map Tree.co_flat | (apply flat_append <;> (first | exact flat_replicate rfl | exact flat_map (fun _ => rfl))) | assumption)) | apply And.intro)⟩
  · rw [ltr_end _ _ _ _ (by omega)] at hk3
    exact ret_data rfl rfl (by unfold letterZ; rw [hk3]; rfl)

theorem label_new (g : Graph) (hg : ∀ s ∈ g.st, ValsOk s.b) (hn : g.st.length ≤ 60) (l : List Tree) (hl : LabelsOk l) : CallsA Tryz.prog 100 [.agg g.cs, lst 3 Tree.cs' l] [] (.sref 0 0 g.st.length) [.cells 1 (g.st.map fun s => enI (letterZ l s))] := by
  refine callsA_of tabOk Tryz.func100 rfl rfl 29 Tryz.ntmps100 (by simp) ?_
  repeat' (first | (apply AWP.go ok; rfl; conv => whnf) | (apply ord_mk; kernel_rfl; conv => whnf) | (apply And.intro; (first | omega | (unfold inI; omega) | (dsimp only; omega) | (unfold bitsOk; omega) | ((try dsimp only); simp only [List.length_map, List.length_take, List.length_append, List.length_replicate, List.length_cons, List.length_nil]; omega) | (simp only [btw_iff] at *; first | omega | (unfold inI; omega) | (unfold bitsOk; omega)) | exact stor_map (fun _ => rfl) | exact ⟨rfl, stor_cons rfl stor_nil⟩ | exact ⟨rfl, stor_map (fun _ => rfl) _⟩ | exact ⟨⟨rfl, by omega⟩, stor_map (fun _ => rfl) _⟩); conv => whnf) | (with_reducible apply get_mapN; omega; intro _; conv => whnf) | (with_reducible apply get_mapI; omega; intro _; conv => whnf) | (apply get_mapN; omega; intro _; conv => whnf) | (apply get_fill; omega; conv => whnf) | (apply ex_some; conv => whnf) | (apply get_map; omega; intro _; conv => whnf) | (apply vcG_dec <;> intro _ <;> conv => whnf) | (apply vcG_ndec <;> intro _ <;> conv => whnf) | (apply vcG_not <;> intro _ <;> conv => whnf) | (apply vcG_mk <;> intro _ <;> conv => whnf) | (apply vcIf_dec <;> intro _ <;> conv => whnf) | (apply vcIf_ndec <;> intro _ <;> conv => whnf) | (apply vcIf_not <;> intro _ <;> conv => whnf) | (apply vcIf_mk <;> intro _ <;> conv => whnf))
  refine loopA (fun k : Nat => ([(1, lst 3 Tree.cs' l), (5, .sref 0 0 g.st.length), (13, lst 2 State.cs g.st), (14, .int g.st.length), (15, .int k)], [.cells 1 ((g.st.take k).map (fun s => enI (letterZ l s)) ++ List.replicate (g.st.length - k) (enI 0))])) (fun k => k ≤ g.st.length) (fun k => g.st.length - k) 0 (by omega) ⟨[1], rfl, by decide, rfl, by repeat' (first | exact True.intro | exact ⟨rfl, rfl⟩ | apply And.intro), by repeat' (first | exact True.intro | exact obj_box rfl rfl | exact obj_flat (by rfl) (by (first | exact flat_nil | exact flat_replicate rfl | exact flat_map (fun _ => rfl) | exact flat_map Tree.co_flat | (apply flat_append <;> (first | exact flat_replicate rfl | exact flat_map (fun _ => rfl))) | assumption)) | apply And.intro)⟩ ?_
  intro k hk
  repeat' (first | (apply AWP.go ok; rfl; conv => whnf) | (apply ord_mk; kernel_rfl; conv => whnf) | (apply And.intro; (first | omega | (unfold inI; omega) | (dsimp only; omega) | (unfold bitsOk; omega) | ((try dsimp only); simp only [List.length_map, List.length_take, List.length_append, List.length_replicate, List.length_cons, List.length_nil]; omega) | (simp only [btw_iff] at *; first | omega | (unfold inI; omega) | (unfold bitsOk; omega)) | exact stor_map (fun _ => rfl) | exact ⟨rfl, stor_cons rfl stor_nil⟩ | exact ⟨rfl, stor_map (fun _ => rfl) _⟩ | exact ⟨⟨rfl, by omega⟩, stor_map (fun _ => rfl) _⟩); conv => whnf) | (with_reducible apply get_mapN; omega; intro _; conv => whnf) | (with_reducible apply get_mapI; omega; intro _; conv => whnf) | (apply get_mapN; omega; intro _; conv => whnf) | (apply get_fill; omega; conv => whnf) | (apply ex_some; conv => whnf) | (apply get_map; omega; intro _; conv => whnf) | (apply vcG_dec <;> intro _ <;> conv => whnf) | (apply vcG_ndec <;> intro _ <;> conv => whnf) | (apply vcG_not <;> intro _ <;> conv => whnf) | (apply vcG_mk <;> intro _ <;> conv => whnf) | (apply vcIf_dec <;> intro _ <;> conv => whnf) | (apply vcIf_ndec <;> intro _ <;> conv => whnf) | (apply vcIf_not <;> intro _ <;> conv => whnf) | (apply vcIf_mk <;> intro _ <;> conv => whnf) | (apply call_data (letter_ok g.st[k] (hg _ (List.getElem_mem _)) l hl); rfl; rfl; conv => whnf))
  · rename_i h hkl
    exact again (k + 1) [0] (by omega) (by omega) ⟨rfl, by decide, rfl, ⟨⟨rfl, rfl⟩, ⟨rfl, rfl⟩, ⟨rfl, rfl⟩, ⟨rfl, rfl⟩, ⟨rfl, rfl⟩, trivial⟩, ⟨obj_fill hkl rfl rfl rfl (fun _ => rfl) rfl, trivial⟩⟩
  · exact ret_new rfl (flat_map fun _ => rfl) rfl (fill_end _ _ _ _ (by omega))

theorem label_ok (g : Graph) (hg : ∀ s ∈ g.st, ValsOk s.b) (hn : g.st.length ≤ 60) (l : List Tree) (hl : LabelsOk l) : CallsA Tryz.prog 100 [.agg g.cs, lst 3 Tree.cs' l] [] (ints (g.st.map (letterZ l))) [] := by
  have h := (label_new g hg hn l hl).keep (enc_unown1 _ _) (by simp)
  unfold ints
  rw [List.length_map, List.map_map]
  exact h

theorem l8Letters_new (g : Graph) (hg : ∀ s ∈ g.st, ValsOk s.b) (hn : g.st.length ≤ 60) (l : List Tree) (hl : LabelsOk l) : CallsA Tryz.prog 128 [.agg g.cs, lst 3 Tree.cs' l] [] (.sref 0 0 g.st.length) [.cells 1 (g.st.map fun s => enI (letterZ l s))] := by
  refine callsA_of tabOk Tryz.func128 rfl rfl 26 Tryz.ntmps128 (by simp) ?_
  repeat' (first | (apply AWP.go ok; rfl; conv => whnf) | (apply ord_mk; kernel_rfl; conv => whnf) | (apply And.intro; (first | omega | (unfold inI; omega) | (dsimp only; omega) | (unfold bitsOk; omega) | ((try dsimp only); simp only [List.length_map, List.length_take, List.length_append, List.length_replicate, List.length_cons, List.length_nil]; omega) | (simp only [btw_iff] at *; first | omega | (unfold inI; omega) | (unfold bitsOk; omega)) | exact stor_map (fun _ => rfl) | exact ⟨rfl, stor_cons rfl stor_nil⟩ | exact ⟨rfl, stor_map (fun _ => rfl) _⟩ | exact ⟨⟨rfl, by omega⟩, stor_map (fun _ => rfl) _⟩); conv => whnf) | (with_reducible apply get_mapN; omega; intro _; conv => whnf) | (with_reducible apply get_mapI; omega; intro _; conv => whnf) | (apply get_mapN; omega; intro _; conv => whnf) | (apply get_fill; omega; conv => whnf) | (apply ex_some; conv => whnf) | (apply get_map; omega; intro _; conv => whnf) | (apply vcG_dec <;> intro _ <;> conv => whnf) | (apply vcG_ndec <;> intro _ <;> conv => whnf) | (apply vcG_not <;> intro _ <;> conv => whnf) | (apply vcG_mk <;> intro _ <;> conv => whnf) | (apply vcIf_dec <;> intro _ <;> conv => whnf) | (apply vcIf_ndec <;> intro _ <;> conv => whnf) | (apply vcIf_not <;> intro _ <;> conv => whnf) | (apply vcIf_mk <;> intro _ <;> conv => whnf))
  refine loopA (fun k : Nat => ([(1, lst 3 Tree.cs' l), (2, .ptr 0 none 0), (5, .sref 1 0 k), (6, .int k)], [.cells 2 [[lst 2 State.cs g.st, lst 1 encL g.nx]], .cells 1 ((g.st.take k).map fun s => enI (letterZ l s))])) (fun k => k ≤ g.st.length) (fun k => g.st.length - k) 0 (by omega) ⟨[0, 1], rfl, by decide, rfl, by repeat' (first | exact True.intro | exact ⟨rfl, rfl⟩ | apply And.intro), by repeat' (first | exact True.intro | exact obj_box rfl rfl | exact obj_flat (by rfl) (by (first | exact flat_nil | exact flat_replicate rfl | exact flat_map (fun _ => rfl) | exact flat_map Tree.co_flat | (apply flat_append <;> (first | exact flat_replicate rfl | exact flat_map (fun _ => rfl))) | assumption)) | apply And.intro)⟩ ?_
  intro k hk
  repeat' (first | (apply AWP.go ok; rfl; conv => whnf) | (apply ord_mk; kernel_rfl; conv => whnf) | (apply And.intro; (first | omega | (unfold inI; omega) | (dsimp only; omega) | (unfold bitsOk; omega) | ((try dsimp only); simp only [List.length_map, List.length_take, List.length_append, List.length_replicate, List.length_cons, List.length_nil]; omega) | (simp only [btw_iff] at *; first | omega | (unfold inI; omega) | (unfold bitsOk; omega)) | exact stor_map (fun _ => rfl) | exact ⟨rfl, stor_cons rfl stor_nil⟩ | exact ⟨rfl, stor_map (fun _ => rfl) _⟩ | exact ⟨⟨rfl, by omega⟩, stor_map (fun _ => rfl) _⟩); conv => whnf) | (with_reducible apply get_mapN; omega; intro _; conv => whnf) | (with_reducible apply get_mapI; omega; intro _; conv => whnf) | (apply get_mapN; omega; intro _; conv => whnf) | (apply get_fill; omega; conv => whnf) | (apply ex_some; conv => whnf) | (apply get_map; omega; intro _; conv => whnf) | (apply vcG_dec <;> intro _ <;> conv => whnf) | (apply vcG_ndec <;> intro _ <;> conv => whnf) | (apply vcG_not <;> intro _ <;> conv => whnf) | (apply vcG_mk <;> intro _ <;> conv => whnf) | (apply vcIf_dec <;> intro _ <;> conv => whnf) | (apply vcIf_ndec <;> intro _ <;> conv => whnf) | (apply vcIf_not <;> intro _ <;> conv => whnf) | (apply vcIf_mk <;> intro _ <;> conv => whnf) | (apply call_data (l8Letter_ok g.st[k] (hg _ (List.getElem_mem _)) l hl); rfl; rfl; conv => whnf))
  · rename_i h hkl
    exact again (k + 1) [0, 3] (by omega) (by omega) ⟨rfl, by decide, rfl, ⟨⟨rfl, rfl⟩, ⟨rfl, rfl⟩, ⟨rfl, rfl⟩, ⟨rfl, rfl⟩, trivial⟩, ⟨obj_box rfl rfl, obj_app hkl _ rfl rfl rfl (fun _ => rfl), trivial⟩⟩
  · obtain rfl : k = g.st.length := by omega
    exact ret_new rfl (flat_map fun _ => rfl) rfl (by rw [List.take_length])
theorem l8Letters_ok (g : Graph) (hg : ∀ s ∈ g.st, ValsOk s.b) (hn : g.st.length ≤ 60) (l : List Tree) (hl : LabelsOk l) : CallsA Tryz.prog 128 [.agg g.cs, lst 3 Tree.cs' l] [] (ints (g.st.map (letterZ l))) [] := by
  have h := (l8Letters_new g hg hn l hl).keep (enc_unown1 _ _) (by simp)
  unfold ints
  rw [List.length_map, List.map_map]
  exact h
end Go.Proofs.YtcmihlbihppflaaGreat

namespace Go.Proofs.YtcmihlbihppflaaGreat
open Go.Gl
attribute [local irreducible] vcCall AWP RetOk Again ordOk

theorem l1Vals_ok (l : List Int) (hl : l.length ≤ maxLen) : CallsA Tryz.prog 197 [ints l] [] (.bool (valsB l)) [] := by
  unfold maxLen at hl
  have e : valsB l = (l.all (fun n => btw n 0 3) && decide ((l.length : Int) = 3)) := by
    unfold valsB; rw [Bool.and_comm, List.all_eq_not_any_not]
  rw [e]
  refine callsA_of tabOk Tryz.func197 rfl rfl 25 Tryz.ntmps197 (by simp) ?_
  repeat' (first | (apply AWP.go ok; rfl; conv => whnf) | (apply ord_mk; kernel_rfl; conv => whnf) | (apply And.intro; (first | omega | (unfold inI; omega) | (dsimp only; omega) | (unfold bitsOk; omega) | ((try dsimp only); simp only [List.length_map, List.length_take, List.length_append, List.length_replicate, List.length_cons, List.length_nil]; omega) | (simp only [btw_iff] at *; first | omega | (unfold inI; omega) | (unfold bitsOk; omega)) | exact stor_map (fun _ => rfl) | exact ⟨rfl, stor_cons rfl stor_nil⟩ | exact ⟨rfl, stor_map (fun _ => rfl) _⟩ | exact ⟨⟨rfl, by omega⟩, stor_map (fun _ => rfl) _⟩); conv => whnf) | (with_reducible apply get_mapN; omega; intro _; conv => whnf) | (with_reducible apply get_mapI; omega; intro _; conv => whnf) | (apply get_mapN; omega; intro _; conv => whnf) | (apply get_fill; omega; conv => whnf) | (apply ex_some; conv => whnf) | (apply get_map; omega; intro _; conv => whnf) | (apply vcG_dec <;> intro _ <;> conv => whnf) | (apply vcG_ndec <;> intro _ <;> conv => whnf) | (apply vcG_not <;> intro _ <;> conv => whnf) | (apply vcG_mk <;> intro _ <;> conv => whnf) | (apply vcIf_dec <;> intro _ <;> conv => whnf) | (apply vcIf_ndec <;> intro _ <;> conv => whnf) | (apply vcIf_not <;> intro _ <;> conv => whnf) | (apply vcIf_mk <;> intro _ <;> conv => whnf))
  refine loopA (fun k : Nat => ([(0, ints l), (3, .int k)], [])) (fun k => k ≤ l.length ∧ l.all (fun n => btw n 0 3) = (l.drop k).all (fun n => btw n 0 3)) (fun k => l.length - k) 0 ⟨by omega, rfl⟩ ⟨[], rfl, by decide, rfl, by repeat' (first | exact True.intro | exact ⟨rfl, rfl⟩ | apply And.intro), by repeat' (first | exact True.intro | exact obj_box rfl rfl | exact obj_flat (by rfl) (by (first | exact flat_nil | exact flat_replicate rfl | exact flat_map (fun _ => rfl) | exact flat_map Tree.co_flat | (apply flat_append <;> (first | exact flat_replicate rfl | exact flat_map (fun _ => rfl))) | assumption)) | apply And.intro)⟩ ?_
  intro k hk
  repeat' (first | (apply AWP.go ok; rfl; conv => whnf) | (apply ord_mk; kernel_rfl; conv => whnf) | (apply And.intro; (first | omega | (unfold inI; omega) | (dsimp only; omega) | (unfold bitsOk; omega) | ((try dsimp only); simp only [List.length_map, List.length_take, List.length_append, List.length_replicate, List.length_cons, List.length_nil]; omega) | (simp only [btw_iff] at *; first | omega | (unfold inI; omega) | (unfold bitsOk; omega)) | exact stor_map (fun _ => rfl) | exact ⟨rfl, stor_cons rfl stor_nil⟩ | exact ⟨rfl, stor_map (fun _ => rfl) _⟩ | exact ⟨⟨rfl, by omega⟩, stor_map (fun _ => rfl) _⟩); conv => whnf) | (with_reducible apply get_mapN; omega; intro _; conv => whnf) | (with_reducible apply get_mapI; omega; intro _; conv => whnf) | (apply get_mapN; omega; intro _; conv => whnf) | (apply get_fill; omega; conv => whnf) | (apply ex_some; conv => whnf) | (apply get_map; omega; intro _; conv => whnf) | (apply vcG_dec <;> intro _ <;> conv => whnf) | (apply vcG_ndec <;> intro _ <;> conv => whnf) | (apply vcG_not <;> intro _ <;> conv => whnf) | (apply vcG_mk <;> intro _ <;> conv => whnf) | (apply vcIf_dec <;> intro _ <;> conv => whnf) | (apply vcIf_ndec <;> intro _ <;> conv => whnf) | (apply vcIf_not <;> intro _ <;> conv => whnf) | (apply vcIf_mk <;> intro _ <;> conv => whnf))
  · refine ret_bool rfl ?_
    have : btw l[k] 0 3 = false := btw_no.2 (by omega)
    rw [hk.2, drop_all _ _ _ (by assumption), this]; rfl
  · refine ret_bool rfl ?_
    have : btw l[k] 0 3 = false := btw_no.2 (by omega)
    rw [hk.2, drop_all _ _ _ (by assumption), this]; rfl
  · have : btw l[k] 0 3 = true := btw_iff.2 (by omega)
    exact again (k + 1) [] ⟨by omega, by rw [hk.2, drop_all _ _ _ (by assumption), this]; rfl⟩ (by omega) ⟨rfl, by decide, rfl, by repeat' (first | exact True.intro | exact ⟨rfl, rfl⟩ | apply And.intro), by repeat' (first | exact True.intro | exact obj_box rfl rfl | exact obj_flat (by rfl) (by (first | exact flat_nil | exact flat_replicate rfl | exact flat_map (fun _ => rfl) | exact flat_map Tree.co_flat | (apply flat_append <;> (first | exact flat_replicate rfl | exact flat_map (fun _ => rfl))) | assumption)) | apply And.intro)⟩
  · exact ret_bool rfl (by rw [hk.2, drop_all_end _ _ _ (by omega), Bool.true_and])

theorem l4In_ok (l : List Int) (hl : l.length ≤ maxLen) (v : Int) : CallsA Tryz.prog 198 [ints l, .int v] [] (.bool (decide (v ∈ l))) [] := by
  unfold maxLen at hl
  have e : decide (v ∈ l) = l.any (fun x => decide (x = v)) := by
    rw [Bool.eq_iff_iff]; simp
  rw [e]
  refine callsA_of tabOk Tryz.func198 rfl rfl 18 Tryz.ntmps198 (by simp) ?_
  repeat' (first | (apply AWP.go ok; rfl; conv => whnf) | (apply ord_mk; kernel_rfl; conv => whnf) | (apply And.intro; (first | omega | (unfold inI; omega) | (dsimp only; omega) | (unfold bitsOk; omega) | ((try dsimp only); simp only [List.length_map, List.length_take, List.length_append, List.length_replicate, List.length_cons, List.length_nil]; omega) | (simp only [btw_iff] at *; first | omega | (unfold inI; omega) | (unfold bitsOk; omega)) | exact stor_map (fun _ => rfl) | exact ⟨rfl, stor_cons rfl stor_nil⟩ | exact ⟨rfl, stor_map (fun _ => rfl) _⟩ | exact ⟨⟨rfl, by omega⟩, stor_map (fun _ => rfl) _⟩); conv => whnf) | (with_reducible apply get_mapN; omega; intro _; conv => whnf) | (with_reducible apply get_mapI; omega; intro _; conv => whnf) | (apply get_mapN; omega; intro _; conv => whnf) | (apply get_fill; omega; conv => whnf) | (apply ex_some; conv => whnf) | (apply get_map; omega; intro _; conv => whnf) | (apply vcG_dec <;> intro _ <;> conv => whnf) | (apply vcG_ndec <;> intro _ <;> conv => whnf) | (apply vcG_not <;> intro _ <;> conv => whnf) | (apply vcG_mk <;> intro _ <;> conv => whnf) | (apply vcIf_dec <;> intro _ <;> conv => whnf) | (apply vcIf_ndec <;> intro _ <;> conv => whnf) | (apply vcIf_not <;> intro _ <;> conv => whnf) | (apply vcIf_mk <;> intro _ <;> conv => whnf))
  refine loopA (fun k : Nat => ([(0, ints l), (1, .int v), (5, .int k)], [])) (fun k => k ≤ l.length ∧ l.any (fun x => decide (x = v)) = (l.drop k).any (fun x => decide (x = v))) (fun k => l.length - k) 0 ⟨by omega, rfl⟩ ⟨[], rfl, by decide, rfl, by repeat' (first | exact True.intro | exact ⟨rfl, rfl⟩ | apply And.intro), by repeat' (first | exact True.intro | exact obj_box rfl rfl | exact obj_flat (by rfl) (by (first | exact flat_nil | exact flat_replicate rfl | exact flat_map (fun _ => rfl) | exact flat_map Tree.co_flat | (apply flat_append <;> (first | exact flat_replicate rfl | exact flat_map (fun _ => rfl))) | assumption)) | apply And.intro)⟩ ?_
  intro k hk
  repeat' (first | (apply AWP.go ok; rfl; conv => whnf) | (apply ord_mk; kernel_rfl; conv => whnf) | (apply And.intro; (first | omega | (unfold inI; omega) | (dsimp only; omega) | (unfold bitsOk; omega) | ((try dsimp only); simp only [List.length_map, List.length_take, List.length_append, List.length_replicate, List.length_cons, List.length_nil]; omega) | (simp only [btw_iff] at *; first | omega | (unfold inI; omega) | (unfold bitsOk; omega)) | exact stor_map (fun _ => rfl) | exact ⟨rfl, stor_cons rfl stor_nil⟩ | exact ⟨rfl, stor_map (fun _ => rfl) _⟩ | exact ⟨⟨rfl, by omega⟩, stor_map (fun _ => rfl) _⟩); conv => whnf) | (with_reducible apply get_mapN; omega; intro _; conv => whnf) | (with_reducible apply get_mapI; omega; intro _; conv => whnf) | (apply get_mapN; omega; intro _; conv => whnf) | (apply get_fill; omega; conv => whnf) | (apply ex_some; conv => whnf) | (apply get_map; omega; intro _; conv => whnf) | (apply vcG_dec <;> intro _ <;> conv => whnf) | (apply vcG_ndec <;> intro _ <;> conv => whnf) | (apply vcG_not <;> intro _ <;> conv => whnf) | (apply vcG_mk <;> intro _ <;> conv => whnf) | (apply vcIf_dec <;> intro _ <;> conv => whnf) | (apply vcIf_ndec <;> intro _ <;> conv => whnf) | (apply vcIf_not <;> intro _ <;> conv => whnf) | (apply vcIf_mk <;> intro _ <;> conv => whnf))
  · rename_i h
    exact ret_bool rfl (by rw [hk.2, drop_any _ _ _ (by assumption), decide_eq_true h]; rfl)
  · rename_i h
    exact again (k + 1) [] ⟨by omega, by rw [hk.2, drop_any _ _ _ (by assumption), decide_eq_false h]; rfl⟩ (by omega) ⟨rfl, by decide, rfl, by repeat' (first | exact True.intro | exact ⟨rfl, rfl⟩ | apply And.intro), by repeat' (first | exact True.intro | exact obj_box rfl rfl | exact obj_flat (by rfl) (by (first | exact flat_nil | exact flat_replicate rfl | exact flat_map (fun _ => rfl) | exact flat_map Tree.co_flat | (apply flat_append <;> (first | exact flat_replicate rfl | exact flat_map (fun _ => rfl))) | assumption)) | apply And.intro)⟩
  · exact ret_bool rfl (by rw [hk.2, drop_any_end _ _ _ (by omega)])

/-- numbers that differ, each below n, are at most n -/
theorem Distinct.le {l : List Int} {n : Int} (h : Distinct l n l.length) (h0 : 0 ≤ n) : (l.length : Int) ≤ n := by
  have hnd : (l.map Int.toNat).Nodup := by
    rw [List.nodup_iff_pairwise_ne, List.pairwise_map, List.pairwise_iff_getElem]
    intro i j hi hj hij he
    have h1 := h i hi hi
    have h2 := h j hj hj
    refine h2.2 ?_
    have : l[j] = l[i] := by omega
    rw [this, List.mem_take_iff_getElem]
    exact ⟨i, by omega, rfl⟩
  have hsub : (l.map Int.toNat) ⊆ List.range n.toNat := by
    intro x hx
    obtain ⟨y, hy, rfl⟩ := List.mem_map.1 hx
    obtain ⟨i, hi, rfl⟩ := List.mem_iff_getElem.1 hy
    have := (h i hi hi).1
    rw [List.mem_range]; omega
  have := hnd.length_le_of_subset hsub
  simp at this
  omega

def RowOk (g : Graph) (i : Nat) : Prop := ∀ (h : i < g.nx.length) (h' : i < g.st.length), 1 ≤ g.nx[i].length ∧ g.nx[i].length ≤ g.st.length ∧ valsB g.st[i].b = true ∧ Distinct g.nx[i] g.st.length g.nx[i].length
def GB (g : Graph) : Prop := (1 ≤ g.st.length ∧ g.st.length ≤ 60) ∧ g.nx.length = g.st.length ∧ ∀ i, i < g.nx.length → RowOk g i

theorem succB_iff {n : Int} {l : List Int} : succB n l = true ↔ 1 ≤ l.length ∧ Distinct l n l.length := by
  unfold succB
  rw [Bool.and_eq_true, decide_eq_true_eq, Bool.not_eq_true', decide_eq_false_iff_not]
  exact and_congr (by omega) Iff.rfl

theorem graphB_iff (g : Graph) : graphB g = true ↔ GB g := by
  unfold graphB GB
  simp only [Bool.and_eq_true, btw_iff, decide_eq_true_eq, Bool.not_eq_true', List.any_eq_false]
  constructor
  · rintro ⟨h1, h2, h3, h4⟩
    refine ⟨by omega, by omega, fun i hi h h' => ?_⟩
    have h5 := succB_iff.1 (by simpa using h4 _ (List.getElem_mem h))
    have h6 := h5.2.le (by omega)
    exact ⟨h5.1, by omega, by simpa using h3 _ (List.getElem_mem h'), h5.2⟩
  · rintro ⟨h1, h2, h3⟩
    refine ⟨by omega, by omega, fun s hs => ?_, fun l hl => ?_⟩
    · obtain ⟨i, hi, rfl⟩ := List.mem_iff_getElem.1 hs
      simpa using (h3 i (by omega) (by omega) hi).2.2.1
    · obtain ⟨i, hi, rfl⟩ := List.mem_iff_getElem.1 hl
      have := h3 i hi hi (by omega)
      simpa using succB_iff.2 ⟨this.1, this.2.2.2⟩

set_option maxHeartbeats 800000 in
theorem specGraphValid_ok (g : Graph) (hg : g.mx) : CallsA Tryz.prog 126 [.agg g.cs] [] (.bool (graphB g)) [] := by
  obtain ⟨hs, hn, hm⟩ := hg
  have hl1 := hs.1
  unfold maxLen at hl1 hn
  have hiff := graphB_iff g
  refine callsA_of tabOk Tryz.func126 rfl rfl 111 Tryz.ntmps126 (by simp) ?_
  repeat' (first | (apply AWP.go ok; rfl; conv => whnf) | (apply ord_mk; kernel_rfl; conv => whnf) | (apply And.intro; (first | omega | (unfold inI; omega) | (dsimp only; omega) | (unfold bitsOk; omega) | ((try dsimp only); simp only [List.length_map, List.length_take, List.length_append, List.length_replicate, List.length_cons, List.length_nil]; omega) | (simp only [btw_iff] at *; first | omega | (unfold inI; omega) | (unfold bitsOk; omega)) | exact stor_map (fun _ => rfl) | exact ⟨rfl, stor_cons rfl stor_nil⟩ | exact ⟨rfl, stor_map (fun _ => rfl) _⟩ | exact ⟨⟨rfl, by omega⟩, stor_map (fun _ => rfl) _⟩); conv => whnf) | (with_reducible apply get_mapN; omega; intro _; conv => whnf) | (with_reducible apply get_mapI; omega; intro _; conv => whnf) | (apply get_mapN; omega; intro _; conv => whnf) | (apply get_fill; omega; conv => whnf) | (apply ex_some; conv => whnf) | (apply get_map; omega; intro _; conv => whnf) | (apply vcG_dec <;> intro _ <;> conv => whnf) | (apply vcG_ndec <;> intro _ <;> conv => whnf) | (apply vcG_not <;> intro _ <;> conv => whnf) | (apply vcG_mk <;> intro _ <;> conv => whnf) | (apply vcIf_dec <;> intro _ <;> conv => whnf) | (apply vcIf_ndec <;> intro _ <;> conv => whnf) | (apply vcIf_not <;> intro _ <;> conv => whnf) | (apply vcIf_mk <;> intro _ <;> conv => whnf))
  · exact ret_bool rfl (by rw [← Bool.not_eq_true, hiff]; rintro ⟨h1, h2, _⟩; omega)
  · exact ret_bool rfl (by rw [← Bool.not_eq_true, hiff]; rintro ⟨h1, h2, _⟩; omega)
  · exact ret_bool rfl (by rw [← Bool.not_eq_true, hiff]; rintro ⟨h1, h2, _⟩; omega)
  rename_i b1 b2 b3
  have hne : g.nx.length = g.st.length := by omega
  refine loopA (fun k : Nat => ([(1, .ptr 0 none 0), (3, .int k)], [.cells 2 [[lst 2 State.cs g.st, lst 1 encL g.nx]]])) (fun k => k ≤ g.nx.length ∧ ∀ i, i < k → RowOk g i) (fun k => g.nx.length - k) 0 ⟨by omega, fun i h => by omega⟩ ⟨[0], rfl, by decide, rfl, by repeat' (first | exact True.intro | exact ⟨rfl, rfl⟩ | apply And.intro), by repeat' (first | exact True.intro | exact obj_box rfl rfl | exact obj_flat (by rfl) (by (first | exact flat_nil | exact flat_replicate rfl | exact flat_map (fun _ => rfl) | exact flat_map Tree.co_flat | (apply flat_append <;> (first | exact flat_replicate rfl | exact flat_map (fun _ => rfl))) | assumption)) | apply And.intro)⟩ ?_
  intro k hk
  have bad : k < g.nx.length → ¬ RowOk g k → graphB g = false := fun h1 h2 => by
    rw [← Bool.not_eq_true, hiff]; rintro ⟨_, _, h3⟩; exact h2 (h3 k h1)
  repeat' (first | (apply AWP.go ok; rfl; conv => whnf) | (apply ord_mk; kernel_rfl; conv => whnf) | (apply And.intro; (first | omega | (unfold inI; omega) | (dsimp only; omega) | (unfold bitsOk; omega) | ((try dsimp only); simp only [List.length_map, List.length_take, List.length_append, List.length_replicate, List.length_cons, List.length_nil]; omega) | (simp only [btw_iff] at *; first | omega | (unfold inI; omega) | (unfold bitsOk; omega)) | exact stor_map (fun _ => rfl) | exact ⟨rfl, stor_cons rfl stor_nil⟩ | exact ⟨rfl, stor_map (fun _ => rfl) _⟩ | exact ⟨⟨rfl, by omega⟩, stor_map (fun _ => rfl) _⟩); conv => whnf) | (with_reducible apply get_mapN; omega; intro _; conv => whnf) | (with_reducible apply get_mapI; omega; intro _; conv => whnf) | (apply get_mapN; omega; intro _; conv => whnf) | (apply get_fill; omega; conv => whnf) | (apply ex_some; conv => whnf) | (apply get_map; omega; intro _; conv => whnf) | (apply vcG_dec <;> intro _ <;> conv => whnf) | (apply vcG_ndec <;> intro _ <;> conv => whnf) | (apply vcG_not <;> intro _ <;> conv => whnf) | (apply vcG_mk <;> intro _ <;> conv => whnf) | (apply vcIf_dec <;> intro _ <;> conv => whnf) | (apply vcIf_ndec <;> intro _ <;> conv => whnf) | (apply vcIf_not <;> intro _ <;> conv => whnf) | (apply vcIf_mk <;> intro _ <;> conv => whnf) | (apply call_data (l1Vals_ok _ (hs.2 _ (List.getElem_mem _)).2); rfl; rfl; conv => whnf))
  · refine ret_bool rfl (bad (by assumption) fun h => ?_)
    have := h (by assumption) (by omega); omega
  · refine ret_bool rfl (bad (by assumption) fun h => ?_)
    have := h (by assumption) (by omega); omega
  · rename_i hv
    refine ret_bool rfl (bad (by assumption) fun h => ?_)
    have := h (by assumption) (by omega)
    rw [hv] at this; simp at this
  · rename_i hv
    have hkn : k < g.nx.length := by assumption
    have hks : k < g.st.length := by omega
    refine loopA (fun j : Nat => ([(1, .ptr 0 none 0), (3, .int k), (4, .int j)], [.cells 2 [[lst 2 State.cs g.st, lst 1 encL g.nx]]])) (fun j => j ≤ g.nx[k].length ∧ Distinct g.nx[k] g.st.length j) (fun j => g.nx[k].length - j) 0 ⟨by omega, fun i h hi => by omega⟩ ⟨[0], rfl, by decide, rfl, by repeat' (first | exact True.intro | exact ⟨rfl, rfl⟩ | apply And.intro), by repeat' (first | exact True.intro | exact obj_box rfl rfl | exact obj_flat (by rfl) (by (first | exact flat_nil | exact flat_replicate rfl | exact flat_map (fun _ => rfl) | exact flat_map Tree.co_flat | (apply flat_append <;> (first | exact flat_replicate rfl | exact flat_map (fun _ => rfl))) | assumption)) | apply And.intro)⟩ ?_
    intro j hj
    repeat' (first | (apply AWP.go ok; rfl; conv => whnf) | (apply ord_mk; kernel_rfl; conv => whnf) | (apply And.intro; (first | omega | (unfold inI; omega) | (dsimp only; omega) | (unfold bitsOk; omega) | ((try dsimp only); simp only [List.length_map, List.length_take, List.length_append, List.length_replicate, List.length_cons, List.length_nil]; omega) | (simp only [btw_iff] at *; first | omega | (unfold inI; omega) | (unfold bitsOk; omega)) | exact stor_map (fun _ => rfl) | exact ⟨rfl, stor_cons rfl stor_nil⟩ | exact ⟨rfl, stor_map (fun _ => rfl) _⟩ | exact ⟨⟨rfl, by omega⟩, stor_map (fun _ => rfl) _⟩); conv => whnf) | (with_reducible apply get_mapN; omega; intro _; conv => whnf) | (with_reducible apply get_mapI; omega; intro _; conv => whnf) | (apply get_mapN; omega; intro _; conv => whnf) | (apply get_fill; omega; conv => whnf) | (apply ex_some; conv => whnf) | (apply get_map; omega; intro _; conv => whnf) | (apply vcG_dec <;> intro _ <;> conv => whnf) | (apply vcG_ndec <;> intro _ <;> conv => whnf) | (apply vcG_not <;> intro _ <;> conv => whnf) | (apply vcG_mk <;> intro _ <;> conv => whnf) | (apply vcIf_dec <;> intro _ <;> conv => whnf) | (apply vcIf_ndec <;> intro _ <;> conv => whnf) | (apply vcIf_not <;> intro _ <;> conv => whnf) | (apply vcIf_mk <;> intro _ <;> conv => whnf))
    · refine ret_bool rfl (bad hkn fun h => ?_)
      have := ((h hkn hks).2.2.2 j (by assumption) (by assumption)).1; omega
    · refine ret_bool rfl (bad hkn fun h => ?_)
      have := ((h hkn hks).2.2.2 j (by assumption) (by assumption)).1; omega
    · apply call_data (l4In_ok (g.nx[k].take j) (by rw [List.length_take]; unfold maxLen; omega) g.nx[k][j])
      · show _ = [AC.list 1 _ _, _]
        rw [show AC.list 1 (g.nx[k].take j).length ((g.nx[k].take j).map enI) = _ from (slice_take 1 enI g.nx[k] j hj.1).symm]
        rfl
      · rfl
      conv => whnf
      repeat' (first | (apply AWP.go ok; rfl; conv => whnf) | (apply ord_mk; kernel_rfl; conv => whnf) | (apply And.intro; (first | omega | (unfold inI; omega) | (dsimp only; omega) | (unfold bitsOk; omega) | ((try dsimp only); simp only [List.length_map, List.length_take, List.length_append, List.length_replicate, List.length_cons, List.length_nil]; omega) | (simp only [btw_iff] at *; first | omega | (unfold inI; omega) | (unfold bitsOk; omega)) | exact stor_map (fun _ => rfl) | exact ⟨rfl, stor_cons rfl stor_nil⟩ | exact ⟨rfl, stor_map (fun _ => rfl) _⟩ | exact ⟨⟨rfl, by omega⟩, stor_map (fun _ => rfl) _⟩); conv => whnf) | (with_reducible apply get_mapN; omega; intro _; conv => whnf) | (with_reducible apply get_mapI; omega; intro _; conv => whnf) | (apply get_mapN; omega; intro _; conv => whnf) | (apply get_fill; omega; conv => whnf) | (apply ex_some; conv => whnf) | (apply get_map; omega; intro _; conv => whnf) | (apply vcG_dec <;> intro _ <;> conv => whnf) | (apply vcG_ndec <;> intro _ <;> conv => whnf) | (apply vcG_not <;> intro _ <;> conv => whnf) | (apply vcG_mk <;> intro _ <;> conv => whnf) | (apply vcIf_dec <;> intro _ <;> conv => whnf) | (apply vcIf_ndec <;> intro _ <;> conv => whnf) | (apply vcIf_not <;> intro _ <;> conv => whnf) | (apply vcIf_mk <;> intro _ <;> conv => whnf))
      · rename_i h2
        exact ret_bool rfl (bad hkn fun h => ((h hkn hks).2.2.2 j (by assumption) (by assumption)).2 h2)
      · rename_i h2
        refine again (j + 1) [0] ⟨by omega, fun i hi hik => ?_⟩ (by omega) ⟨rfl, by decide, rfl, by repeat' (first | exact True.intro | exact ⟨rfl, rfl⟩ | apply And.intro), by repeat' (first | exact True.intro | exact obj_box rfl rfl | exact obj_flat (by rfl) (by (first | exact flat_nil | exact flat_replicate rfl | exact flat_map (fun _ => rfl) | exact flat_map Tree.co_flat | (apply flat_append <;> (first | exact flat_replicate rfl | exact flat_map (fun _ => rfl))) | assumption)) | apply And.intro)⟩
        rcases Nat.lt_or_ge i j with h3 | h3
        · exact hj.2 i hi h3
        · obtain rfl : i = j := by omega
          exact ⟨by omega, h2⟩
    · refine again (k + 1) [0] ⟨by omega, fun i hi => ?_⟩ (by omega) ⟨rfl, by decide, rfl, by repeat' (first | exact True.intro | exact ⟨rfl, rfl⟩ | apply And.intro), by repeat' (first | exact True.intro | exact obj_box rfl rfl | exact obj_flat (by rfl) (by (first | exact flat_nil | exact flat_replicate rfl | exact flat_map (fun _ => rfl) | exact flat_map Tree.co_flat | (apply flat_append <;> (first | exact flat_replicate rfl | exact flat_map (fun _ => rfl))) | assumption)) | apply And.intro)⟩
      rcases Nat.lt_or_ge i k with h3 | h3
      · exact hk.2 i h3
      · obtain rfl : i = k := by omega
        intro _ _
        obtain rfl : j = g.nx[i].length := by omega
        exact ⟨by omega, by omega, hv, hj.2⟩
  · exact ret_bool rfl (by rw [hiff]; exact ⟨by omega, hne, fun i hi => hk.2 i (by omega)⟩)
end Go.Proofs.YtcmihlbihppflaaGreat

namespace Go.Proofs.YtcmihlbihppflaaGreat
open Go.Gl
attribute [local irreducible] vcCall AWP RetOk Again ordOk

def Trans.mx (t : Trans) : Prop := inI t.val
def edgeP (n : Int) (t : Trans) : Prop := (0 ≤ t.src ∧ t.src ≤ n - 1) ∧ (0 ≤ t.dst ∧ t.dst ≤ n - 1) ∧ (0 ≤ t.care ∧ t.care ≤ 7) ∧ 0 ≤ t.val ∧ t.val.toNat &&& t.care.toNat = t.val.toNat
instance {n : Int} {t : Trans} : Decidable (edgeP n t) := by unfold edgeP; infer_instance
def edgeB (n : Int) (t : Trans) : Bool := decide (edgeP n t)
theorem edgeB_iff {n : Int} {t : Trans} : edgeB n t = true ↔ edgeP n t := by unfold edgeB; exact decide_eq_true_iff
theorem edgeB_no {n : Int} {t : Trans} : edgeB n t = false ↔ ¬ edgeP n t := by rw [← edgeB_iff, Bool.not_eq_true]
def IniP (l : List Int) (n : Int) (k : Nat) : Prop := ∀ i (h : i < l.length), i < k → (0 ≤ l[i] ∧ l[i] ≤ n - 1) ∧ ∀ j (hj : j + 1 = i), l[j]'(by omega) < l[i]
def AutP (a : Aut) : Prop := (1 ≤ a.acc.length ∧ a.acc.length ≤ 64) ∧ a.ed.length ≤ 2048 ∧ IniP a.ini a.acc.length a.ini.length ∧ ∀ e ∈ a.ed, edgeP a.acc.length e
noncomputable instance {a : Aut} : Decidable (AutP a) := Classical.propDecidable _
noncomputable def autB (a : Aut) : Bool := decide (AutP a)
theorem autB_iff {a : Aut} : autB a = true ↔ AutP a := by unfold autB; exact decide_eq_true_iff
theorem autB_no {a : Aut} : autB a = false ↔ ¬ AutP a := by rw [← autB_iff, Bool.not_eq_true]

theorem IniP.ge {l : List Int} {n : Int} (h : IniP l n l.length) : ∀ i (hi : i < l.length), (i : Int) ≤ l[i] := by
  intro i
  induction i with
  | zero => intro hi; exact (h 0 hi hi).1.1
  | succ i ih =>
    intro hi
    have h1 := ih (by omega)
    have h2 := (h (i + 1) hi hi).2 i rfl
    omega
theorem IniP.le {l : List Int} {n : Int} (h : IniP l n l.length) (h0 : 0 ≤ n) : (l.length : Int) ≤ n := by
  rcases Nat.eq_zero_or_pos l.length with e | e
  · omega
  · have h1 := h.ge (l.length - 1) (by omega)
    have h2 := (h (l.length - 1) (by omega) (by omega)).1.2
    omega

theorem andNot_iff {v c : Int} (h0 : 0 ≤ v) (h1 : v ≤ 9223372036854775807) (h2 : 0 ≤ c) (h3 : c ≤ 7) : (((BitVec.ofNat 64 v.toNat &&& ~~~BitVec.ofNat 64 c.toNat).toNat : Nat) : Int) = 0 ↔ v.toNat &&& c.toNat = v.toNat := by
  obtain ⟨v, rfl⟩ := Int.eq_ofNat_of_zero_le h0
  obtain ⟨c, rfl⟩ := Int.eq_ofNat_of_zero_le h2
  simp only [Int.toNat_natCast]
  have hv : v < 2 ^ 64 := by omega
  have hc : c < 2 ^ 64 := by omega
  have e : ∀ x y : BitVec 64, (x &&& ~~~y) = 0#64 ↔ x &&& y = x := by
    intro x y
    constructor
    · intro h
      apply BitVec.eq_of_getElem_eq
      intro i hi
      have := congrArg (fun z => z[i]) h
      simp at this ⊢
      cases hx : x[i] <;> simp_all
    · intro h
      apply BitVec.eq_of_getElem_eq
      intro i hi
      have := congrArg (fun z => z[i]) h
      simp at this ⊢
      cases hx : x[i] <;> simp_all
  have e2 := e (BitVec.ofNat 64 v) (BitVec.ofNat 64 c)
  constructor
  · intro h
    have h4 : (BitVec.ofNat 64 v &&& ~~~BitVec.ofNat 64 c) = 0#64 := BitVec.eq_of_toNat_eq (by simpa using h)
    have h5 := congrArg BitVec.toNat (e2.1 h4)
    simpa [BitVec.toNat_and, Nat.mod_eq_of_lt hv, Nat.mod_eq_of_lt hc] using h5
  · intro h
    have h4 : BitVec.ofNat 64 v &&& BitVec.ofNat 64 c = BitVec.ofNat 64 v := BitVec.eq_of_toNat_eq (by
      simpa [BitVec.toNat_and, Nat.mod_eq_of_lt hv, Nat.mod_eq_of_lt hc] using h)
    have h5 := congrArg BitVec.toNat (e2.2 h4)
    simpa using h5

theorem autEdge_ok (n : Int) (h0 : 0 ≤ n) (h1 : n ≤ maxLen) (t : Trans) (ht : t.mx) : CallsA Tryz.prog 202 [argAgg Trans.cs t, .pt [.int n]] [] (.bool (!edgeB n t)) [] := by
  unfold Trans.mx inI at ht
  unfold maxLen at h1
  refine callsA_of tabOk Tryz.func202 rfl rfl 37 Tryz.ntmps202 (by simp) ?_
  repeat' (first | (apply AWP.go ok; rfl; conv => whnf) | (apply ord_mk; kernel_rfl; conv => whnf) | (apply And.intro; (first | omega | (unfold inI; omega) | (dsimp only; omega) | (unfold bitsOk; omega) | ((try dsimp only); simp only [List.length_map, List.length_take, List.length_append, List.length_replicate, List.length_cons, List.length_nil]; omega) | (simp only [btw_iff] at *; first | omega | (unfold inI; omega) | (unfold bitsOk; omega)) | exact stor_map (fun _ => rfl) | exact ⟨rfl, stor_cons rfl stor_nil⟩ | exact ⟨rfl, stor_map (fun _ => rfl) _⟩ | exact ⟨⟨rfl, by omega⟩, stor_map (fun _ => rfl) _⟩); conv => whnf) | (with_reducible apply get_mapN; omega; intro _; conv => whnf) | (with_reducible apply get_mapI; omega; intro _; conv => whnf) | (apply get_mapN; omega; intro _; conv => whnf) | (apply get_fill; omega; conv => whnf) | (apply ex_some; conv => whnf) | (apply get_map; omega; intro _; conv => whnf) | (apply vcG_dec <;> intro _ <;> conv => whnf) | (apply vcG_ndec <;> intro _ <;> conv => whnf) | (apply vcG_not <;> intro _ <;> conv => whnf) | (apply vcG_mk <;> intro _ <;> conv => whnf) | (apply vcIf_dec <;> intro _ <;> conv => whnf) | (apply vcIf_ndec <;> intro _ <;> conv => whnf) | (apply vcIf_not <;> intro _ <;> conv => whnf) | (apply vcIf_mk <;> intro _ <;> conv => whnf) | (apply call_data (in_ok _ 0 (n - 1)); rfl; rfl; conv => whnf) | (apply call_data (in_ok _ 0 7); rfl; rfl; conv => whnf))
  all_goals (refine ret_bool rfl ?_; rw [Bool.eq_iff_iff]; simp only [btw_iff, btw_no, edgeB_iff, edgeB_no, Bool.not_eq_true', decide_eq_false_iff_not, decide_eq_true_eq, Bool.false_eq_true, iff_false, iff_true] at *; unfold edgeP)
  all_goals try omega
  all_goals (rw [andNot_iff (by omega) (by omega) (by omega) (by omega)]; omega)

theorem l7Edge_ok (n : Int) (t : Trans) (ht : t.mx) : CallsA Tryz.prog 129 [argAgg Trans.cs t, .int n] [] (.bool (edgeB n t)) [] := by
  unfold Trans.mx inI at ht
  refine callsA_of tabOk Tryz.func129 rfl rfl 50 Tryz.ntmps129 (by simp) ?_
  repeat' (first | (apply AWP.go ok; rfl; conv => whnf) | (apply ord_mk; kernel_rfl; conv => whnf) | (apply And.intro; (first | omega | (unfold inI; omega) | (dsimp only; omega) | (unfold bitsOk; omega) | ((try dsimp only); simp only [List.length_map, List.length_take, List.length_append, List.length_replicate, List.length_cons, List.length_nil]; omega) | (simp only [btw_iff] at *; first | omega | (unfold inI; omega) | (unfold bitsOk; omega)) | exact stor_map (fun _ => rfl) | exact ⟨rfl, stor_cons rfl stor_nil⟩ | exact ⟨rfl, stor_map (fun _ => rfl) _⟩ | exact ⟨⟨rfl, by omega⟩, stor_map (fun _ => rfl) _⟩); conv => whnf) | (with_reducible apply get_mapN; omega; intro _; conv => whnf) | (with_reducible apply get_mapI; omega; intro _; conv => whnf) | (apply get_mapN; omega; intro _; conv => whnf) | (apply get_fill; omega; conv => whnf) | (apply ex_some; conv => whnf) | (apply get_map; omega; intro _; conv => whnf) | (apply vcG_dec <;> intro _ <;> conv => whnf) | (apply vcG_ndec <;> intro _ <;> conv => whnf) | (apply vcG_not <;> intro _ <;> conv => whnf) | (apply vcG_mk <;> intro _ <;> conv => whnf) | (apply vcIf_dec <;> intro _ <;> conv => whnf) | (apply vcIf_ndec <;> intro _ <;> conv => whnf) | (apply vcIf_not <;> intro _ <;> conv => whnf) | (apply vcIf_mk <;> intro _ <;> conv => whnf))
  all_goals (refine ret_bool rfl ?_; rw [Bool.eq_iff_iff]; simp only [edgeB_iff, decide_eq_true_eq, Bool.false_eq_true, iff_false] at *; unfold edgeP)
  all_goals omega

theorem takes_ok (t : Trans) (n : Int) (h0 : 0 ≤ n) (h1 : n ≤ 7) (ht : 0 ≤ t.care ∧ t.care ≤ 7) : CallsA Tryz.prog 134 [argAgg Trans.cs t, .int n] [] (.bool (decide (((n.toNat &&& t.care.toNat : Nat) : Int) = t.val))) [] := by
  refine callsA_of tabOk Tryz.func134 rfl rfl 12 Tryz.ntmps134 (by simp) ?_
  repeat' (first | (apply AWP.go ok; rfl; conv => whnf) | (apply ord_mk; kernel_rfl; conv => whnf) | (apply And.intro; (first | omega | (unfold inI; omega) | (dsimp only; omega) | (unfold bitsOk; omega) | ((try dsimp only); simp only [List.length_map, List.length_take, List.length_append, List.length_replicate, List.length_cons, List.length_nil]; omega) | (simp only [btw_iff] at *; first | omega | (unfold inI; omega) | (unfold bitsOk; omega)) | exact stor_map (fun _ => rfl) | exact ⟨rfl, stor_cons rfl stor_nil⟩ | exact ⟨rfl, stor_map (fun _ => rfl) _⟩ | exact ⟨⟨rfl, by omega⟩, stor_map (fun _ => rfl) _⟩); conv => whnf) | (with_reducible apply get_mapN; omega; intro _; conv => whnf) | (with_reducible apply get_mapI; omega; intro _; conv => whnf) | (apply get_mapN; omega; intro _; conv => whnf) | (apply get_fill; omega; conv => whnf) | (apply ex_some; conv => whnf) | (apply get_map; omega; intro _; conv => whnf) | (apply vcG_dec <;> intro _ <;> conv => whnf) | (apply vcG_ndec <;> intro _ <;> conv => whnf) | (apply vcG_not <;> intro _ <;> conv => whnf) | (apply vcG_mk <;> intro _ <;> conv => whnf) | (apply vcIf_dec <;> intro _ <;> conv => whnf) | (apply vcIf_ndec <;> intro _ <;> conv => whnf) | (apply vcIf_not <;> intro _ <;> conv => whnf) | (apply vcIf_mk <;> intro _ <;> conv => whnf))
  exact ret_bool rfl rfl
theorem l7On_ok (t : Trans) (n : Int) (h0 : 0 ≤ n) (h1 : n ≤ 7) (ht : 0 ≤ t.care ∧ t.care ≤ 7) : CallsA Tryz.prog 130 [argAgg Trans.cs t, .int n] [] (.bool (decide (((n.toNat &&& t.care.toNat : Nat) : Int) = t.val))) [] := by
  refine callsA_of tabOk Tryz.func130 rfl rfl 12 Tryz.ntmps130 (by simp) ?_
  repeat' (first | (apply AWP.go ok; rfl; conv => whnf) | (apply ord_mk; kernel_rfl; conv => whnf) | (apply And.intro; (first | omega | (unfold inI; omega) | (dsimp only; omega) | (unfold bitsOk; omega) | ((try dsimp only); simp only [List.length_map, List.length_take, List.length_append, List.length_replicate, List.length_cons, List.length_nil]; omega) | (simp only [btw_iff] at *; first | omega | (unfold inI; omega) | (unfold bitsOk; omega)) | exact stor_map (fun _ => rfl) | exact ⟨rfl, stor_cons rfl stor_nil⟩ | exact ⟨rfl, stor_map (fun _ => rfl) _⟩ | exact ⟨⟨rfl, by omega⟩, stor_map (fun _ => rfl) _⟩); conv => whnf) | (with_reducible apply get_mapN; omega; intro _; conv => whnf) | (with_reducible apply get_mapI; omega; intro _; conv => whnf) | (apply get_mapN; omega; intro _; conv => whnf) | (apply get_fill; omega; conv => whnf) | (apply ex_some; conv => whnf) | (apply get_map; omega; intro _; conv => whnf) | (apply vcG_dec <;> intro _ <;> conv => whnf) | (apply vcG_ndec <;> intro _ <;> conv => whnf) | (apply vcG_not <;> intro _ <;> conv => whnf) | (apply vcG_mk <;> intro _ <;> conv => whnf) | (apply vcIf_dec <;> intro _ <;> conv => whnf) | (apply vcIf_ndec <;> intro _ <;> conv => whnf) | (apply vcIf_not <;> intro _ <;> conv => whnf) | (apply vcIf_mk <;> intro _ <;> conv => whnf))
  exact ret_bool rfl rfl

def Aut.mx (a : Aut) : Prop := a.ini.length ≤ maxLen ∧ a.acc.length ≤ maxLen ∧ a.ed.length ≤ maxLen ∧ ∀ t ∈ a.ed, t.mx
theorem indexFunc_trans1 (c : Int) (l : List Trans) (hl : l.length ≤ maxLen) (p : Trans → Bool) (f : FuncId) (hf : ∀ x ∈ l, CallsA Tryz.prog f [argAgg Trans.cs x, .pt [.int c]] [] (.bool (p x)) []) : CallsA Tryz.prog 247 [lst 4 Trans.cs l, .fn (.func f) [] [.pt [.int c]]] [] (.int (idxF p l)) [] := by
  unfold maxLen at hl
  refine callsA_of tabOk Tryz.func247 rfl rfl 19 Tryz.ntmps247 (by simp) ?_
  repeat' (first | (apply AWP.go ok; rfl; conv => whnf) | (apply ord_mk; kernel_rfl; conv => whnf) | (apply And.intro; (first | omega | (unfold inI; omega) | (dsimp only; omega) | (unfold bitsOk; omega) | ((try dsimp only); simp only [List.length_map, List.length_take, List.length_append, List.length_replicate, List.length_cons, List.length_nil]; omega) | (simp only [btw_iff] at *; first | omega | (unfold inI; omega) | (unfold bitsOk; omega)) | exact stor_map (fun _ => rfl) | exact ⟨rfl, stor_cons rfl stor_nil⟩ | exact ⟨rfl, stor_map (fun _ => rfl) _⟩ | exact ⟨⟨rfl, by omega⟩, stor_map (fun _ => rfl) _⟩); conv => whnf) | (with_reducible apply get_mapN; omega; intro _; conv => whnf) | (with_reducible apply get_mapI; omega; intro _; conv => whnf) | (apply get_mapN; omega; intro _; conv => whnf) | (apply get_fill; omega; conv => whnf) | (apply ex_some; conv => whnf) | (apply get_map; omega; intro _; conv => whnf) | (apply vcG_dec <;> intro _ <;> conv => whnf) | (apply vcG_ndec <;> intro _ <;> conv => whnf) | (apply vcG_not <;> intro _ <;> conv => whnf) | (apply vcG_mk <;> intro _ <;> conv => whnf) | (apply vcIf_dec <;> intro _ <;> conv => whnf) | (apply vcIf_ndec <;> intro _ <;> conv => whnf) | (apply vcIf_not <;> intro _ <;> conv => whnf) | (apply vcIf_mk <;> intro _ <;> conv => whnf))
  refine loopA (fun k : Nat => ([(0, lst 4 Trans.cs l), (1, .fn (.func f) [] [.pt [.int c]]), (7, .int l.length), (8, .int k)], [])) (fun k => k ≤ l.length ∧ ∀ j (hj : j < l.length), j < k → p l[j] = false) (fun k => l.length - k) 0 (by simp)
    ⟨[], rfl, by decide, rfl, ⟨⟨rfl, rfl⟩, ⟨rfl, rfl⟩, ⟨rfl, rfl⟩, ⟨rfl, rfl⟩, trivial⟩, trivial⟩ ?_
  intro k hk
  repeat' (first | (apply AWP.go ok; rfl; conv => whnf) | (apply ord_mk; kernel_rfl; conv => whnf) | (apply And.intro; (first | omega | (unfold inI; omega) | (dsimp only; omega) | (unfold bitsOk; omega) | ((try dsimp only); simp only [List.length_map, List.length_take, List.length_append, List.length_replicate, List.length_cons, List.length_nil]; omega) | (simp only [btw_iff] at *; first | omega | (unfold inI; omega) | (unfold bitsOk; omega)) | exact stor_map (fun _ => rfl) | exact ⟨rfl, stor_cons rfl stor_nil⟩ | exact ⟨rfl, stor_map (fun _ => rfl) _⟩ | exact ⟨⟨rfl, by omega⟩, stor_map (fun _ => rfl) _⟩); conv => whnf) | (with_reducible apply get_mapN; omega; intro _; conv => whnf) | (with_reducible apply get_mapI; omega; intro _; conv => whnf) | (apply get_mapN; omega; intro _; conv => whnf) | (apply get_fill; omega; conv => whnf) | (apply ex_some; conv => whnf) | (apply get_map; omega; intro _; conv => whnf) | (apply vcG_dec <;> intro _ <;> conv => whnf) | (apply vcG_ndec <;> intro _ <;> conv => whnf) | (apply vcG_not <;> intro _ <;> conv => whnf) | (apply vcG_mk <;> intro _ <;> conv => whnf) | (apply vcIf_dec <;> intro _ <;> conv => whnf) | (apply vcIf_ndec <;> intro _ <;> conv => whnf) | (apply vcIf_not <;> intro _ <;> conv => whnf) | (apply vcIf_mk <;> intro _ <;> conv => whnf) | (apply call_data (hf l[k] (List.getElem_mem _)); rfl; rfl; conv => whnf))
  · rename_i h h1
    exact ret_data rfl rfl (by rw [idxF_some (by omega) h1 hk.2]; rfl)
  · rename_i h h1
    refine again (k + 1) [] ⟨by omega, fun j hj hjk => ?_⟩ (by omega) ⟨rfl, by decide, rfl, ⟨⟨rfl, rfl⟩, ⟨rfl, rfl⟩, ⟨rfl, rfl⟩, ⟨rfl, rfl⟩, trivial⟩, trivial⟩
    rcases Nat.lt_or_ge j k with h2 | h2
    · exact hk.2 j hj h2
    · obtain rfl : j = k := by omega
      exact h1
  · exact ret_data rfl rfl (by rw [idxF_none fun j hj => hk.2 j hj (by omega)]; rfl)
theorem containsFunc_trans1 (c : Int) (l : List Trans) (hl : l.length ≤ maxLen) (p : Trans → Bool) (f : FuncId) (hf : ∀ x ∈ l, CallsA Tryz.prog f [argAgg Trans.cs x, .pt [.int c]] [] (.bool (p x)) []) : CallsA Tryz.prog 201 [lst 4 Trans.cs l, .fn (.func f) [] [.pt [.int c]]] [] (.bool (l.any p)) [] := by
  refine callsA_of tabOk Tryz.func201 rfl rfl 9 Tryz.ntmps201 (by simp) ?_
  repeat' (first | (apply AWP.go ok; rfl; conv => whnf) | (apply ord_mk; kernel_rfl; conv => whnf) | (apply And.intro; (first | omega | (unfold inI; omega) | (dsimp only; omega) | (unfold bitsOk; omega) | ((try dsimp only); simp only [List.length_map, List.length_take, List.length_append, List.length_replicate, List.length_cons, List.length_nil]; omega) | (simp only [btw_iff] at *; first | omega | (unfold inI; omega) | (unfold bitsOk; omega)) | exact stor_map (fun _ => rfl) | exact ⟨rfl, stor_cons rfl stor_nil⟩ | exact ⟨rfl, stor_map (fun _ => rfl) _⟩ | exact ⟨⟨rfl, by omega⟩, stor_map (fun _ => rfl) _⟩); conv => whnf) | (with_reducible apply get_mapN; omega; intro _; conv => whnf) | (with_reducible apply get_mapI; omega; intro _; conv => whnf) | (apply get_mapN; omega; intro _; conv => whnf) | (apply get_fill; omega; conv => whnf) | (apply ex_some; conv => whnf) | (apply get_map; omega; intro _; conv => whnf) | (apply vcG_dec <;> intro _ <;> conv => whnf) | (apply vcG_ndec <;> intro _ <;> conv => whnf) | (apply vcG_not <;> intro _ <;> conv => whnf) | (apply vcG_mk <;> intro _ <;> conv => whnf) | (apply vcIf_dec <;> intro _ <;> conv => whnf) | (apply vcIf_ndec <;> intro _ <;> conv => whnf) | (apply vcIf_not <;> intro _ <;> conv => whnf) | (apply vcIf_mk <;> intro _ <;> conv => whnf) | (apply call_data (indexFunc_trans1 c l hl p f hf); rfl; rfl; conv => whnf))
  exact ret_bool rfl (by rw [← idxF_any])

theorem IniP.step {l : List Int} {n : Int} {k : Nat} (h : IniP l n k) (hk : k < l.length) (h1 : 0 ≤ l[k] ∧ l[k] ≤ n - 1) (h2 : ∀ j (hj : j + 1 = k), l[j]'(by omega) < l[k]) : IniP l n (k + 1) := by
  intro i hi hik
  rcases Nat.lt_or_ge i k with h3 | h3
  · exact h i hi h3
  · obtain rfl : i = k := by omega
    exact ⟨h1, h2⟩

/-- the last number of the first k, or -1 -/
def lastOf (l : List Int) (k : Nat) : Int := if h : 0 < k ∧ k ≤ l.length then l[k - 1]'(by omega) else -1
theorem automatonValid_ok (a : Aut) (ha : a.mx) : CallsA Tryz.prog 133 [.agg a.cs] [] (.bool (autB a)) [] := by
  obtain ⟨hi, hc, he, hm⟩ := ha
  have hk := containsFunc_trans1 (a.acc.length : Int) a.ed he (fun t => !edgeB a.acc.length t) 202 (fun t ht => autEdge_ok _ (by omega) (by omega) t (hm t ht))
  unfold maxLen at hi hc he
  refine callsA_of tabOk Tryz.func133 rfl rfl 41 Tryz.ntmps133 (by simp) ?_
  repeat' (first | (apply AWP.go ok; rfl; conv => whnf) | (apply ord_mk; kernel_rfl; conv => whnf) | (apply And.intro; (first | omega | (unfold inI; omega) | (dsimp only; omega) | (unfold bitsOk; omega) | ((try dsimp only); simp only [List.length_map, List.length_take, List.length_append, List.length_replicate, List.length_cons, List.length_nil]; omega) | (simp only [btw_iff] at *; first | omega | (unfold inI; omega) | (unfold bitsOk; omega)) | exact stor_map (fun _ => rfl) | exact ⟨rfl, stor_cons rfl stor_nil⟩ | exact ⟨rfl, stor_map (fun _ => rfl) _⟩ | exact ⟨⟨rfl, by omega⟩, stor_map (fun _ => rfl) _⟩); conv => whnf) | (with_reducible apply get_mapN; omega; intro _; conv => whnf) | (with_reducible apply get_mapI; omega; intro _; conv => whnf) | (apply get_mapN; omega; intro _; conv => whnf) | (apply get_fill; omega; conv => whnf) | (apply ex_some; conv => whnf) | (apply get_map; omega; intro _; conv => whnf) | (apply vcG_dec <;> intro _ <;> conv => whnf) | (apply vcG_ndec <;> intro _ <;> conv => whnf) | (apply vcG_not <;> intro _ <;> conv => whnf) | (apply vcG_mk <;> intro _ <;> conv => whnf) | (apply vcIf_dec <;> intro _ <;> conv => whnf) | (apply vcIf_ndec <;> intro _ <;> conv => whnf) | (apply vcIf_not <;> intro _ <;> conv => whnf) | (apply vcIf_mk <;> intro _ <;> conv => whnf))
  refine loopA (fun k : Nat => ([(1, .ptr 0 none 0), (3, .ptr 1 none 0), (4, .int (lastOf a.ini k)), (11, lst 1 enI a.ini), (12, .int a.ini.length), (13, .int k)], [.cells 3 [[lst 1 enI a.ini, lst 1 enB a.acc, lst 4 Trans.cs a.ed]], .cells 1 [[.int a.acc.length]]])) (fun k => k ≤ a.ini.length ∧ IniP a.ini a.acc.length k) (fun k => a.ini.length - k) 0 ⟨by omega, fun i h hi => by omega⟩ ⟨[0, 1], rfl, by decide, rfl, by repeat' (first | exact True.intro | exact ⟨rfl, rfl⟩ | apply And.intro), by repeat' (first | exact True.intro | exact obj_box rfl rfl | exact obj_flat (by rfl) (by (first | exact flat_nil | exact flat_replicate rfl | exact flat_map (fun _ => rfl) | exact flat_map Tree.co_flat | (apply flat_append <;> (first | exact flat_replicate rfl | exact flat_map (fun _ => rfl))) | assumption)) | apply And.intro)⟩ ?_
  rintro k ⟨hk1, hk2⟩
  have hlast : -1 ≤ lastOf a.ini k ∧ lastOf a.ini k ≤ a.acc.length - 1 := by
    unfold lastOf
    split
    · rename_i h
      have := (hk2 (k - 1) (by omega) (by omega)).1; omega
    · omega
  repeat' (first | (apply AWP.go ok; rfl; conv => whnf) | (apply ord_mk; kernel_rfl; conv => whnf) | (apply And.intro; (first | omega | (unfold inI; omega) | (dsimp only; omega) | (unfold bitsOk; omega) | ((try dsimp only); simp only [List.length_map, List.length_take, List.length_append, List.length_replicate, List.length_cons, List.length_nil]; omega) | (simp only [btw_iff] at *; first | omega | (unfold inI; omega) | (unfold bitsOk; omega)) | exact stor_map (fun _ => rfl) | exact ⟨rfl, stor_cons rfl stor_nil⟩ | exact ⟨rfl, stor_map (fun _ => rfl) _⟩ | exact ⟨⟨rfl, by omega⟩, stor_map (fun _ => rfl) _⟩); conv => whnf) | (with_reducible apply get_mapN; omega; intro _; conv => whnf) | (with_reducible apply get_mapI; omega; intro _; conv => whnf) | (apply get_mapN; omega; intro _; conv => whnf) | (apply get_fill; omega; conv => whnf) | (apply ex_some; conv => whnf) | (apply get_map; omega; intro _; conv => whnf) | (apply vcG_dec <;> intro _ <;> conv => whnf) | (apply vcG_ndec <;> intro _ <;> conv => whnf) | (apply vcG_not <;> intro _ <;> conv => whnf) | (apply vcG_mk <;> intro _ <;> conv => whnf) | (apply vcIf_dec <;> intro _ <;> conv => whnf) | (apply vcIf_ndec <;> intro _ <;> conv => whnf) | (apply vcIf_not <;> intro _ <;> conv => whnf) | (apply vcIf_mk <;> intro _ <;> conv => whnf) | (apply call_data (in_ok _ (lastOf a.ini k + 1) _); rfl; rfl; conv => whnf) | (apply call_data (in_ok _ 1 64); rfl; rfl; conv => whnf) | (apply call_bor [1] (hk); rfl; rfl; rfl; rfl; conv => whnf))
  · rename_i hkl hb
    refine ret_bool rfl (autB_no.2 fun ⟨_, _, h, _⟩ => ?_)
    have h1 := h k hkl hkl
    rw [btw_no] at hb
    refine hb ⟨?_, h1.1.2⟩
    unfold lastOf
    split
    · rename_i hp
      have := h1.2 (k - 1) (by omega); omega
    · omega
  · rename_i hkl hb
    rw [btw_iff] at hb
    refine again (k + 1) [0, 1] ⟨by omega, hk2.step hkl (by omega) fun j hj => ?_⟩ (by omega) ⟨rfl, by decide, rfl, ⟨⟨rfl, rfl⟩, ⟨rfl, rfl⟩, ⟨rfl, ?_⟩, ⟨rfl, rfl⟩, ⟨rfl, rfl⟩, ⟨rfl, rfl⟩, trivial⟩, ⟨obj_box rfl rfl, obj_box rfl rfl, trivial⟩⟩
    · subst hj
      have := hb.1
      unfold lastOf at this
      rw [dif_pos (by omega)] at this
      simp only [Nat.add_sub_cancel] at this
      omega
    · have : lastOf a.ini (k + 1) = a.ini[k] := by unfold lastOf; rw [dif_pos (by omega)]; rfl
      rw [this]; rfl
  all_goals (have hfull : IniP a.ini a.acc.length a.ini.length := by (have : k = a.ini.length := by omega); rw [← this]; exact hk2)
  · rename_i hb hl
    refine ret_bool rfl ?_
    rw [btw_iff] at hb
    rw [Bool.eq_iff_iff, autB_iff, Bool.not_eq_true', List.any_eq_false]
    constructor
    · rintro ⟨_, _, _, h⟩ x hx
      simpa using edgeB_iff.2 (h x hx)
    · intro h
      exact ⟨by omega, by omega, hfull, fun e he => edgeB_iff.1 (by simpa using h e he)⟩
  · refine ret_bool rfl (autB_no.2 fun hh => ?_)
    have := hh.2.1; omega
  · rename_i hb
    refine ret_bool rfl (autB_no.2 fun hh => ?_)
    have := hh.1
    rw [btw_no] at hb; omega

theorem specAutomatonValid_ok (a : Aut) (ha : a.mx) : CallsA Tryz.prog 71 [.agg a.cs] [] (.bool (autB a)) [] := by
  obtain ⟨hi, hc, he, hm⟩ := ha
  unfold maxLen at hi hc he
  refine callsA_of tabOk Tryz.func71 rfl rfl 83 Tryz.ntmps71 (by simp) ?_
  repeat' (first | (apply AWP.go ok; rfl; conv => whnf) | (apply ord_mk; kernel_rfl; conv => whnf) | (apply And.intro; (first | omega | (unfold inI; omega) | (dsimp only; omega) | (unfold bitsOk; omega) | ((try dsimp only); simp only [List.length_map, List.length_take, List.length_append, List.length_replicate, List.length_cons, List.length_nil]; omega) | (simp only [btw_iff] at *; first | omega | (unfold inI; omega) | (unfold bitsOk; omega)) | exact stor_map (fun _ => rfl) | exact ⟨rfl, stor_cons rfl stor_nil⟩ | exact ⟨rfl, stor_map (fun _ => rfl) _⟩ | exact ⟨⟨rfl, by omega⟩, stor_map (fun _ => rfl) _⟩); conv => whnf) | (with_reducible apply get_mapN; omega; intro _; conv => whnf) | (with_reducible apply get_mapI; omega; intro _; conv => whnf) | (apply get_mapN; omega; intro _; conv => whnf) | (apply get_fill; omega; conv => whnf) | (apply ex_some; conv => whnf) | (apply get_map; omega; intro _; conv => whnf) | (apply vcG_dec <;> intro _ <;> conv => whnf) | (apply vcG_ndec <;> intro _ <;> conv => whnf) | (apply vcG_not <;> intro _ <;> conv => whnf) | (apply vcG_mk <;> intro _ <;> conv => whnf) | (apply vcIf_dec <;> intro _ <;> conv => whnf) | (apply vcIf_ndec <;> intro _ <;> conv => whnf) | (apply vcIf_not <;> intro _ <;> conv => whnf) | (apply vcIf_mk <;> intro _ <;> conv => whnf))
  · exact ret_bool rfl (autB_no.2 fun ⟨h, _⟩ => by omega)
  · exact ret_bool rfl (autB_no.2 fun ⟨h, _⟩ => by omega)
  · exact ret_bool rfl (autB_no.2 fun ⟨h, _, h2, _⟩ => by have := h2.le (by omega); omega)
  · exact ret_bool rfl (autB_no.2 fun ⟨_, h, _⟩ => by omega)
  refine loopA (fun k : Nat => ([(1, .ptr 0 none 0), (3, .int a.acc.length), (4, .int k)], [.cells 3 [[lst 1 enI a.ini, lst 1 enB a.acc, lst 4 Trans.cs a.ed]]])) (fun k => k ≤ a.ini.length ∧ IniP a.ini a.acc.length k) (fun k => a.ini.length - k) 0 ⟨by omega, fun i h hi => by omega⟩ ⟨[0], rfl, by decide, rfl, by repeat' (first | exact True.intro | exact ⟨rfl, rfl⟩ | apply And.intro), by repeat' (first | exact True.intro | exact obj_box rfl rfl | exact obj_flat (by rfl) (by (first | exact flat_nil | exact flat_replicate rfl | exact flat_map (fun _ => rfl) | exact flat_map Tree.co_flat | (apply flat_append <;> (first | exact flat_replicate rfl | exact flat_map (fun _ => rfl))) | assumption)) | apply And.intro)⟩ ?_
  rintro k ⟨hk1, hk2⟩
  repeat' (first | (apply AWP.go ok; rfl; conv => whnf) | (apply ord_mk; kernel_rfl; conv => whnf) | (apply And.intro; (first | omega | (unfold inI; omega) | (dsimp only; omega) | (unfold bitsOk; omega) | ((try dsimp only); simp only [List.length_map, List.length_take, List.length_append, List.length_replicate, List.length_cons, List.length_nil]; omega) | (simp only [btw_iff] at *; first | omega | (unfold inI; omega) | (unfold bitsOk; omega)) | exact stor_map (fun _ => rfl) | exact ⟨rfl, stor_cons rfl stor_nil⟩ | exact ⟨rfl, stor_map (fun _ => rfl) _⟩ | exact ⟨⟨rfl, by omega⟩, stor_map (fun _ => rfl) _⟩); conv => whnf) | (with_reducible apply get_mapN; omega; intro _; conv => whnf) | (with_reducible apply get_mapI; omega; intro _; conv => whnf) | (apply get_mapN; omega; intro _; conv => whnf) | (apply get_fill; omega; conv => whnf) | (apply ex_some; conv => whnf) | (apply get_map; omega; intro _; conv => whnf) | (apply vcG_dec <;> intro _ <;> conv => whnf) | (apply vcG_ndec <;> intro _ <;> conv => whnf) | (apply vcG_not <;> intro _ <;> conv => whnf) | (apply vcG_mk <;> intro _ <;> conv => whnf) | (apply vcIf_dec <;> intro _ <;> conv => whnf) | (apply vcIf_ndec <;> intro _ <;> conv => whnf) | (apply vcIf_not <;> intro _ <;> conv => whnf) | (apply vcIf_mk <;> intro _ <;> conv => whnf))
  · refine ret_bool rfl (autB_no.2 fun ⟨_, _, h, _⟩ => ?_)
    have := (h k (by assumption) (by assumption)).1; omega
  · refine ret_bool rfl (autB_no.2 fun ⟨_, _, h, _⟩ => ?_)
    have := (h k (by assumption) (by assumption)).1; omega
  · rename_i hk0 _ _ hb
    refine ret_bool rfl (autB_no.2 fun ⟨_, _, h, _⟩ => ?_)
    have := (h k (by assumption) (by assumption)).2 (k - 1) (by omega)
    have e : ((k : Int) - 1).toNat = k - 1 := by omega
    simp only [e] at hb
    omega
  · rename_i hk0 _ _ hb
    refine again (k + 1) [0] ⟨by omega, hk2.step (by assumption) (by omega) fun j hj => ?_⟩ (by omega) ⟨rfl, by decide, rfl, by repeat' (first | exact True.intro | exact ⟨rfl, rfl⟩ | apply And.intro), by repeat' (first | exact True.intro | exact obj_box rfl rfl | exact obj_flat (by rfl) (by (first | exact flat_nil | exact flat_replicate rfl | exact flat_map (fun _ => rfl) | exact flat_map Tree.co_flat | (apply flat_append <;> (first | exact flat_replicate rfl | exact flat_map (fun _ => rfl))) | assumption)) | apply And.intro)⟩
    have e : ((k : Int) - 1).toNat = k - 1 := by omega
    simp only [e] at hb
    subst hj
    simp only [Nat.add_sub_cancel] at hb
    omega
  · exact again (k + 1) [0] ⟨by omega, hk2.step (by assumption) (by omega) fun j hj => by omega⟩ (by omega) ⟨rfl, by decide, rfl, by repeat' (first | exact True.intro | exact ⟨rfl, rfl⟩ | apply And.intro), by repeat' (first | exact True.intro | exact obj_box rfl rfl | exact obj_flat (by rfl) (by (first | exact flat_nil | exact flat_replicate rfl | exact flat_map (fun _ => rfl) | exact flat_map Tree.co_flat | (apply flat_append <;> (first | exact flat_replicate rfl | exact flat_map (fun _ => rfl))) | assumption)) | apply And.intro)⟩
  have hfull : IniP a.ini a.acc.length a.ini.length := by (have : k = a.ini.length := by omega); rw [← this]; exact hk2
  clear hk2 hk1
  refine loopA (fun k : Nat => ([(1, .ptr 0 none 0), (3, .int a.acc.length), (5, .int k)], [.cells 3 [[lst 1 enI a.ini, lst 1 enB a.acc, lst 4 Trans.cs a.ed]]])) (fun k => k ≤ a.ed.length ∧ ∀ i (h : i < a.ed.length), i < k → edgeP a.acc.length a.ed[i]) (fun k => a.ed.length - k) 0 ⟨by omega, fun i h hi => by omega⟩ ⟨[0], rfl, by decide, rfl, by repeat' (first | exact True.intro | exact ⟨rfl, rfl⟩ | apply And.intro), by repeat' (first | exact True.intro | exact obj_box rfl rfl | exact obj_flat (by rfl) (by (first | exact flat_nil | exact flat_replicate rfl | exact flat_map (fun _ => rfl) | exact flat_map Tree.co_flat | (apply flat_append <;> (first | exact flat_replicate rfl | exact flat_map (fun _ => rfl))) | assumption)) | apply And.intro)⟩ ?_
  rintro k2 ⟨hk1, hk2⟩
  repeat' (first | (apply AWP.go ok; rfl; conv => whnf) | (apply ord_mk; kernel_rfl; conv => whnf) | (apply And.intro; (first | omega | (unfold inI; omega) | (dsimp only; omega) | (unfold bitsOk; omega) | ((try dsimp only); simp only [List.length_map, List.length_take, List.length_append, List.length_replicate, List.length_cons, List.length_nil]; omega) | (simp only [btw_iff] at *; first | omega | (unfold inI; omega) | (unfold bitsOk; omega)) | exact stor_map (fun _ => rfl) | exact ⟨rfl, stor_cons rfl stor_nil⟩ | exact ⟨rfl, stor_map (fun _ => rfl) _⟩ | exact ⟨⟨rfl, by omega⟩, stor_map (fun _ => rfl) _⟩); conv => whnf) | (with_reducible apply get_mapN; omega; intro _; conv => whnf) | (with_reducible apply get_mapI; omega; intro _; conv => whnf) | (apply get_mapN; omega; intro _; conv => whnf) | (apply get_fill; omega; conv => whnf) | (apply ex_some; conv => whnf) | (apply get_map; omega; intro _; conv => whnf) | (apply vcG_dec <;> intro _ <;> conv => whnf) | (apply vcG_ndec <;> intro _ <;> conv => whnf) | (apply vcG_not <;> intro _ <;> conv => whnf) | (apply vcG_mk <;> intro _ <;> conv => whnf) | (apply vcIf_dec <;> intro _ <;> conv => whnf) | (apply vcIf_ndec <;> intro _ <;> conv => whnf) | (apply vcIf_not <;> intro _ <;> conv => whnf) | (apply vcIf_mk <;> intro _ <;> conv => whnf) | (apply call_data (l7Edge_ok _ a.ed[k2] (hm _ (List.getElem_mem _))); rfl; rfl; conv => whnf))
  · rename_i hb
    exact ret_bool rfl (autB_no.2 fun ⟨_, _, _, h⟩ => hb (h _ (List.getElem_mem _)))
  · rename_i hb
    refine again (k2 + 1) [0] ⟨by omega, fun i hi hik => ?_⟩ (by omega) ⟨rfl, by decide, rfl, by repeat' (first | exact True.intro | exact ⟨rfl, rfl⟩ | apply And.intro), by repeat' (first | exact True.intro | exact obj_box rfl rfl | exact obj_flat (by rfl) (by (first | exact flat_nil | exact flat_replicate rfl | exact flat_map (fun _ => rfl) | exact flat_map Tree.co_flat | (apply flat_append <;> (first | exact flat_replicate rfl | exact flat_map (fun _ => rfl))) | assumption)) | apply And.intro)⟩
    rcases Nat.lt_or_ge i k2 with h3 | h3
    · exact hk2 i hi h3
    · obtain rfl : i = k2 := by omega
      exact hb
  · refine ret_bool rfl (autB_iff.2 ⟨by omega, by omega, hfull, fun e he => ?_⟩)
    obtain ⟨i, hi, rfl⟩ := List.mem_iff_getElem.1 he
    exact hk2 i hi (by omega)
end Go.Proofs.YtcmihlbihppflaaGreat

namespace Go.Proofs.YtcmihlbihppflaaGreat
open Go.Gl
attribute [local irreducible] vcCall AWP RetOk Again ordOk

/-- an empty slice that is data, is a slice of no elements, nil or not -/
theorem calls_empty {P : Program} {f : FuncId} {w : Nat} {res : AC} {objs' : List AObj} (hf : IsFunc P f) (h : ∀ a cap, CallsA P f [.raw (.slice a 0 cap)] [] res objs') : CallsA P f [.list w 0 []] [] res objs' := by
  refine ⟨hf, fun G W vs hW hs hv => ?_⟩
  simp only [VL] at hv
  obtain ⟨⟨v, hv1, hv2⟩, _⟩ := hv
  simp only [V] at hv2
  obtain ⟨a, cap, rfl, _⟩ := hv2
  exact (h a cap).2 G W vs hW hs (by simp only [VL]; exact ⟨⟨_, hv1, by simp [V]⟩, trivial⟩)

theorem nils_le {w : Nat} : ACle .nils (.list w 0 []) := fun G h v hv => by
  simp only [V] at hv ⊢
  exact ⟨none, 0, hv, Nat.le_refl _, rfl, .inl trivial⟩

theorem sref_le {o off w : Nat} : ACle (.sref o off 0) (.list w 0 []) := fun G h v hv => by
  simp only [V] at hv ⊢
  obtain ⟨cap, _, ⟨rfl, a, rfl⟩ | ⟨b, size, w', _, _, rfl⟩⟩ := hv
  · exact ⟨_, _, rfl, Nat.le_refl _, rfl, .inl trivial⟩
  · exact ⟨_, _, rfl, Nat.zero_le _, rfl, .inl trivial⟩
theorem isFunc_of {P : Program} {f : FuncId} {fn : Func} {c : Code} (hf : P.funcs[f]? = some fn) (hb : fn.body = some c) (hn : (fn.name == "runtime.NumGoroutine") = false) : IsFunc P f := ⟨fn, c, hf, hn, hb⟩

theorem clone_full (l : List Int) (hl : l.length ≤ 1048576) (hp : 0 < l.length) : CallsA Tryz.prog 141 [ints l] [] (.sref 0 0 l.length) [.cells 1 (l.map enI)] := by
  refine callsA_of tabOk Tryz.func141 rfl rfl 8 Tryz.ntmps141 (by simp) ?_
  repeat' (first | (apply AWP.go ok; rfl; conv => whnf) | (apply ord_mk; kernel_rfl; conv => whnf) | (apply And.intro; (first | omega | (unfold inI; omega) | (dsimp only; omega) | (unfold bitsOk; omega) | ((try dsimp only); simp only [List.length_map, List.length_take, List.length_append, List.length_replicate, List.length_cons, List.length_nil]; omega) | (simp only [btw_iff] at *; first | omega | (unfold inI; omega) | (unfold bitsOk; omega)) | exact stor_map (fun _ => rfl) | exact ⟨rfl, stor_cons rfl stor_nil⟩ | exact ⟨rfl, stor_map (fun _ => rfl) _⟩ | exact ⟨⟨rfl, by omega⟩, stor_map (fun _ => rfl) _⟩); conv => whnf) | (with_reducible apply get_mapN; omega; intro _; conv => whnf) | (with_reducible apply get_mapI; omega; intro _; conv => whnf) | (apply get_mapN; omega; intro _; conv => whnf) | (apply get_fill; omega; conv => whnf) | (apply ex_some; conv => whnf) | (apply get_map; omega; intro _; conv => whnf) | (apply vcG_dec <;> intro _ <;> conv => whnf) | (apply vcG_ndec <;> intro _ <;> conv => whnf) | (apply vcG_not <;> intro _ <;> conv => whnf) | (apply vcG_mk <;> intro _ <;> conv => whnf) | (apply vcIf_dec <;> intro _ <;> conv => whnf) | (apply vcIf_ndec <;> intro _ <;> conv => whnf) | (apply vcIf_not <;> intro _ <;> conv => whnf) | (apply vcIf_mk <;> intro _ <;> conv => whnf))
  exact ret_newN rfl (flat_map fun _ => rfl) (Nat.zero_add _) rfl rfl
theorem cloneInt_ok (l : List Int) (hl : l.length ≤ 1048576) : CallsA Tryz.prog 141 [ints l] [] (ints l) [] := by
  by_cases hp : 0 < l.length
  · have h := (clone_full l hl hp).keep (enc_unown1 _ _) (by simp)
    exact h
  · obtain rfl : l = [] := List.eq_nil_of_length_eq_zero (by omega)
    refine calls_empty (isFunc_of Tryz.func141 rfl (by rfl)) fun ad cap => ?_
    refine callsA_of tabOk Tryz.func141 rfl rfl 8 Tryz.ntmps141 (by simp) ?_
    repeat' (first | (apply AWP.go ok; rfl; conv => whnf) | (apply ord_mk; kernel_rfl; conv => whnf) | (apply And.intro; (first | omega | (unfold inI; omega) | (dsimp only; omega) | (unfold bitsOk; omega) | ((try dsimp only); simp only [List.length_map, List.length_take, List.length_append, List.length_replicate, List.length_cons, List.length_nil]; omega) | (simp only [btw_iff] at *; first | omega | (unfold inI; omega) | (unfold bitsOk; omega)) | exact stor_map (fun _ => rfl) | exact ⟨rfl, stor_cons rfl stor_nil⟩ | exact ⟨rfl, stor_map (fun _ => rfl) _⟩ | exact ⟨⟨rfl, by omega⟩, stor_map (fun _ => rfl) _⟩); conv => whnf) | (with_reducible apply get_mapN; omega; intro _; conv => whnf) | (with_reducible apply get_mapI; omega; intro _; conv => whnf) | (apply get_mapN; omega; intro _; conv => whnf) | (apply get_fill; omega; conv => whnf) | (apply ex_some; conv => whnf) | (apply get_map; omega; intro _; conv => whnf) | (apply vcG_dec <;> intro _ <;> conv => whnf) | (apply vcG_ndec <;> intro _ <;> conv => whnf) | (apply vcG_not <;> intro _ <;> conv => whnf) | (apply vcG_mk <;> intro _ <;> conv => whnf) | (apply vcIf_dec <;> intro _ <;> conv => whnf) | (apply vcIf_ndec <;> intro _ <;> conv => whnf) | (apply vcIf_not <;> intro _ <;> conv => whnf) | (apply vcIf_mk <;> intro _ <;> conv => whnf))
    · exact ret_le rfl rfl nils_le
    · exact ret_le rfl rfl sref_le
theorem clipInt_ok (l : List Int) (hl : l.length ≤ 1048576) : CallsA Tryz.prog 140 [ints l] [] (ints l) [] := by
  refine callsA_of tabOk Tryz.func140 rfl rfl 9 Tryz.ntmps140 (by simp) ?_
  repeat' (first | (apply AWP.go ok; rfl; conv => whnf) | (apply ord_mk; kernel_rfl; conv => whnf) | (apply And.intro; (first | omega | (unfold inI; omega) | (dsimp only; omega) | (unfold bitsOk; omega) | ((try dsimp only); simp only [List.length_map, List.length_take, List.length_append, List.length_replicate, List.length_cons, List.length_nil]; omega) | (simp only [btw_iff] at *; first | omega | (unfold inI; omega) | (unfold bitsOk; omega)) | exact stor_map (fun _ => rfl) | exact ⟨rfl, stor_cons rfl stor_nil⟩ | exact ⟨rfl, stor_map (fun _ => rfl) _⟩ | exact ⟨⟨rfl, by omega⟩, stor_map (fun _ => rfl) _⟩); conv => whnf) | (with_reducible apply get_mapN; omega; intro _; conv => whnf) | (with_reducible apply get_mapI; omega; intro _; conv => whnf) | (apply get_mapN; omega; intro _; conv => whnf) | (apply get_fill; omega; conv => whnf) | (apply ex_some; conv => whnf) | (apply get_map; omega; intro _; conv => whnf) | (apply vcG_dec <;> intro _ <;> conv => whnf) | (apply vcG_ndec <;> intro _ <;> conv => whnf) | (apply vcG_not <;> intro _ <;> conv => whnf) | (apply vcG_mk <;> intro _ <;> conv => whnf) | (apply vcIf_dec <;> intro _ <;> conv => whnf) | (apply vcIf_ndec <;> intro _ <;> conv => whnf) | (apply vcIf_not <;> intro _ <;> conv => whnf) | (apply vcIf_mk <;> intro _ <;> conv => whnf))
  refine ret_data rfl rfl ?_
  show AC.list 1 _ _ = ints l
  rw [show AC.list 1 ((l.length : Int).toNat - (0 : Int).toNat) (((l.map enI).drop (0 : Int).toNat).take ((l.length : Int).toNat - (0 : Int).toNat)) = _ from slice_take 1 enI l l.length (Nat.le_refl _), List.take_length]
  rfl
theorem implClone_ok (l : List Int) (hl : l.length ≤ 1048576) : CallsA Tryz.prog 91 [ints l] [] (ints l) [] := by
  refine callsA_of tabOk Tryz.func91 rfl rfl 6 Tryz.ntmps91 (by simp) ?_
  repeat' (first | (apply AWP.go ok; rfl; conv => whnf) | (apply ord_mk; kernel_rfl; conv => whnf) | (apply And.intro; (first | omega | (unfold inI; omega) | (dsimp only; omega) | (unfold bitsOk; omega) | ((try dsimp only); simp only [List.length_map, List.length_take, List.length_append, List.length_replicate, List.length_cons, List.length_nil]; omega) | (simp only [btw_iff] at *; first | omega | (unfold inI; omega) | (unfold bitsOk; omega)) | exact stor_map (fun _ => rfl) | exact ⟨rfl, stor_cons rfl stor_nil⟩ | exact ⟨rfl, stor_map (fun _ => rfl) _⟩ | exact ⟨⟨rfl, by omega⟩, stor_map (fun _ => rfl) _⟩); conv => whnf) | (with_reducible apply get_mapN; omega; intro _; conv => whnf) | (with_reducible apply get_mapI; omega; intro _; conv => whnf) | (apply get_mapN; omega; intro _; conv => whnf) | (apply get_fill; omega; conv => whnf) | (apply ex_some; conv => whnf) | (apply get_map; omega; intro _; conv => whnf) | (apply vcG_dec <;> intro _ <;> conv => whnf) | (apply vcG_ndec <;> intro _ <;> conv => whnf) | (apply vcG_not <;> intro _ <;> conv => whnf) | (apply vcG_mk <;> intro _ <;> conv => whnf) | (apply vcIf_dec <;> intro _ <;> conv => whnf) | (apply vcIf_ndec <;> intro _ <;> conv => whnf) | (apply vcIf_not <;> intro _ <;> conv => whnf) | (apply vcIf_mk <;> intro _ <;> conv => whnf) | (apply call_data (cloneInt_ok l hl); rfl; rfl; conv => whnf) | (apply call_data (clipInt_ok l hl); rfl; rfl; conv => whnf))
  exact ret_data rfl rfl rfl

theorem tup_le2 {x x' y : AC} (h : ACle x x') : ACle (.tup [x, y]) (.tup [x', y]) := fun G hh v hv => by
  simp only [V, VL] at hv ⊢
  obtain ⟨c, rfl, hc, ⟨v1, h1, h2⟩, h3, _⟩ := hv
  exact ⟨c, rfl, hc, ⟨v1, h1, h _ _ _ h2⟩, h3, trivial⟩
/-- are the graph and the labels valid? -/
noncomputable def glB (g : Graph) (l : List Tree) : Bool := graphB g && labelsB l
theorem valsOk_of {l : List Int} (h : valsB l = true) : ValsOk l := by
  unfold valsB at h
  rw [Bool.and_eq_true, decide_eq_true_eq, Bool.not_eq_true', List.any_eq_false] at h
  exact ⟨by omega, fun x hx => by simpa [btw_iff] using h.2 x hx⟩
theorem GB.vals {g : Graph} (h : GB g) : ∀ s ∈ g.st, ValsOk s.b := fun s hs => by
  obtain ⟨i, hi, rfl⟩ := List.mem_iff_getElem.1 hs
  exact valsOk_of (h.2.2 i (by have := h.2.1; omega) (by have := h.2.1; omega) hi).2.2.1

def Lmx (l : List Tree) : Prop := l.length ≤ maxLen ∧ ∀ t ∈ l, t.mx
theorem specLabelGraph_ok (g : Graph) (hg : g.mx) (l : List Tree) (hl : Lmx l) : CallsA Tryz.prog 70 [.agg g.cs, lst 3 Tree.cs' l] [] (.tup [ints (if glB g l then g.st.map (letterZ l) else []), .bool (glB g l)]) [] := by
  refine callsA_of tabOk Tryz.func70 rfl rfl 18 Tryz.ntmps70 (by simp) ?_
  have k1 := specGraphValid_ok g hg
  have k2 := specLabelsValid_ok l hl.1 hl.2
  have k3 := fun (h1 : graphB g = true) (h2 : labelsB l = true) => l8Letters_ok g ((graphB_iff g).1 h1).vals ((graphB_iff g).1 h1).1.2 l (LabelsOk.of h2)
  repeat' (first | (apply AWP.go ok; rfl; conv => whnf) | (apply ord_mk; kernel_rfl; conv => whnf) | (apply And.intro; (first | omega | (unfold inI; omega) | (dsimp only; omega) | (unfold bitsOk; omega) | ((try dsimp only); simp only [List.length_map, List.length_take, List.length_append, List.length_replicate, List.length_cons, List.length_nil]; omega) | (simp only [btw_iff] at *; first | omega | (unfold inI; omega) | (unfold bitsOk; omega)) | exact stor_map (fun _ => rfl) | exact ⟨rfl, stor_cons rfl stor_nil⟩ | exact ⟨rfl, stor_map (fun _ => rfl) _⟩ | exact ⟨⟨rfl, by omega⟩, stor_map (fun _ => rfl) _⟩); conv => whnf) | (with_reducible apply get_mapN; omega; intro _; conv => whnf) | (with_reducible apply get_mapI; omega; intro _; conv => whnf) | (apply get_mapN; omega; intro _; conv => whnf) | (apply get_fill; omega; conv => whnf) | (apply ex_some; conv => whnf) | (apply get_map; omega; intro _; conv => whnf) | (apply vcG_dec <;> intro _ <;> conv => whnf) | (apply vcG_ndec <;> intro _ <;> conv => whnf) | (apply vcG_not <;> intro _ <;> conv => whnf) | (apply vcG_mk <;> intro _ <;> conv => whnf) | (apply vcIf_dec <;> intro _ <;> conv => whnf) | (apply vcIf_ndec <;> intro _ <;> conv => whnf) | (apply vcIf_not <;> intro _ <;> conv => whnf) | (apply vcIf_mk <;> intro _ <;> conv => whnf) | (apply call_data (k1); rfl; rfl; conv => whnf) | (apply call_data (k2); rfl; rfl; conv => whnf) | (apply call_data (k3 (by assumption) (by assumption)); rfl; rfl; conv => whnf))
  · rename_i h
    have e : glB g l = false := by unfold glB; rw [h]; rfl
    rw [e]
    exact ret_le rfl rfl (tup_le2 sref_le)
  · rename_i h1 h2
    have e : glB g l = false := by unfold glB; rw [h1, h2]; rfl
    rw [e]
    exact ret_le rfl rfl (tup_le2 sref_le)
  · rename_i h1 h2
    have e : glB g l = true := by unfold glB; rw [h1, h2]; rfl
    rw [e]
    exact ret_data rfl rfl rfl

theorem checked_ok (g : Graph) (hg : g.mx) (l : List Tree) (hl : Lmx l) (a : Aut) (ha : a.mx) : CallsA Tryz.prog 79 [.agg g.cs, lst 3 Tree.cs' l, .agg a.cs] [] (.bool (glB g l && autB a)) [] := by
  refine callsA_of tabOk Tryz.func79 rfl rfl 17 Tryz.ntmps79 (by simp) ?_
  repeat' (first | (apply AWP.go ok; rfl; conv => whnf) | (apply ord_mk; kernel_rfl; conv => whnf) | (apply And.intro; (first | omega | (unfold inI; omega) | (dsimp only; omega) | (unfold bitsOk; omega) | ((try dsimp only); simp only [List.length_map, List.length_take, List.length_append, List.length_replicate, List.length_cons, List.length_nil]; omega) | (simp only [btw_iff] at *; first | omega | (unfold inI; omega) | (unfold bitsOk; omega)) | exact stor_map (fun _ => rfl) | exact ⟨rfl, stor_cons rfl stor_nil⟩ | exact ⟨rfl, stor_map (fun _ => rfl) _⟩ | exact ⟨⟨rfl, by omega⟩, stor_map (fun _ => rfl) _⟩); conv => whnf) | (with_reducible apply get_mapN; omega; intro _; conv => whnf) | (with_reducible apply get_mapI; omega; intro _; conv => whnf) | (apply get_mapN; omega; intro _; conv => whnf) | (apply get_fill; omega; conv => whnf) | (apply ex_some; conv => whnf) | (apply get_map; omega; intro _; conv => whnf) | (apply vcG_dec <;> intro _ <;> conv => whnf) | (apply vcG_ndec <;> intro _ <;> conv => whnf) | (apply vcG_not <;> intro _ <;> conv => whnf) | (apply vcG_mk <;> intro _ <;> conv => whnf) | (apply vcIf_dec <;> intro _ <;> conv => whnf) | (apply vcIf_ndec <;> intro _ <;> conv => whnf) | (apply vcIf_not <;> intro _ <;> conv => whnf) | (apply vcIf_mk <;> intro _ <;> conv => whnf) | (apply call_data (graphValid_ok g hg); rfl; rfl; conv => whnf) | (apply call_data (labelsValid_ok l hl.1 hl.2); rfl; rfl; conv => whnf) | (apply call_data (automatonValid_ok a ha); rfl; rfl; conv => whnf))
  all_goals (refine ret_bool rfl ?_; first | rfl | (unfold glB; simp [*]; done) | (unfold glB; simp_all; done) | (unfold glB; simp_all; omega))
end Go.Proofs.YtcmihlbihppflaaGreat

/- Rows that are filled by pushes. -/
namespace Go.Gl

def build (N : Nat) (ps : List (Nat × Int)) : List (List Int) := (List.range N).map fun r => (ps.filter (fun p => p.1 == r)).map (·.2)
theorem build_length (N : Nat) (ps : List (Nat × Int)) : (build N ps).length = N := by simp [build]
theorem build_get {N : Nat} {ps : List (Nat × Int)} {i : Nat} (h : i < (build N ps).length) : (build N ps)[i] = (ps.filter (fun p => p.1 == i)).map (·.2) := by
  simp [build]
theorem build_push {N : Nat} {ps : List (Nat × Int)} {i : Nat} {v : Int} (h : i < (build N ps).length) : build N (ps ++ [(i, v)]) = (build N ps).set i ((build N ps)[i] ++ [v]) := by
  apply List.ext_getElem (by simp [build])
  intro j h1 h2
  rw [List.getElem_set]
  simp only [build_get]
  by_cases hj : i = j
  · subst hj; rw [if_pos rfl]; simp
  · rw [if_neg hj]; simp [hj]
theorem build_nil (N : Nat) : build N [] = List.replicate N [] := by
  apply List.ext_getElem (by simp [build])
  intro j h1 h2
  simp [build_get]
def rowEnc (r : List Int) : List AC := r.map fun n => AC.raw (.int .i64 n)
def ownRow (r : List Int) : List AC := [.own 1 (r.map fun n => [AC.raw (.int .i64 n)])]
theorem rows_push {N : Nat} {ps : List (Nat × Int)} {i : Nat} {v : Int} {a b : List AC} (h : i < (build N ps).length) :
    ((((build N ps).map ownRow).set i a).set i b).set i (ownRow ((build N ps)[i] ++ [v])) = (build N (ps ++ [(i, v)])).map ownRow := by
  rw [List.set_set, List.set_set, build_push h, List.map_set]
theorem rows_push' {N : Nat} {ps : List (Nat × Int)} {i n len : Nat} {v : Int} {a b : List AC} (h : i < (build N ps).length) (hn : n = i) (hl : len = (build N ps)[i].length) :
    ((((build N ps).map ownRow).set i a).set n b).set i [.own 1 ((((build N ps)[i].map fun n => [AC.raw (.int .i64 n)]).take len) ++ [[AC.raw (.int .i64 v)]])] = (build N (ps ++ [(i, v)])).map ownRow := by
  subst hn hl
  rw [← rows_push h (a := a) (b := b)]
  congr 1
  simp only [ownRow]
  rw [List.take_of_length_le (by simp), List.map_append]
  rfl
theorem getset {es : List (List AC)} {i n : Nat} {r : List AC} (h : n = i) (hi : i < es.length) : (es.set n r)[i]? = some r := by
  subst h; exact List.getElem?_set_self hi
theorem flat_len {α β : Type} {f : α → List β} {c : Nat} : ∀ (l : List α), (∀ x ∈ l, (f x).length ≤ c) → (l.flatMap f).length ≤ l.length * c := by
  intro l
  induction l with
  | nil => intro _; simp
  | cons x l ih =>
    intro h
    have h1 := h x (by simp)
    have h2 := ih fun y hy => h y (by simp [hy])
    rw [List.flatMap_cons, List.length_append, List.length_cons, Nat.add_mul]
    omega
theorem flat_congr {α β : Type} {f g : α → List β} : ∀ {l : List α}, (∀ x ∈ l, f x = g x) → l.flatMap f = l.flatMap g := by
  intro l
  induction l with
  | nil => intro _; rfl
  | cons x l ih =>
    intro h
    rw [List.flatMap_cons, List.flatMap_cons, h x (by simp), ih fun y hy => h y (by simp [hy])]
theorem build_row_le {N : Nat} {ps : List (Nat × Int)} {i : Nat} (h : i < (build N ps).length) : (build N ps)[i].length ≤ ps.length := by
  rw [build_get, List.length_map]
  exact List.length_filter_le _ _
theorem rows_nil (N : Nat) : (build N []).map ownRow = List.replicate N [.own 1 []] := by
  rw [build_nil, List.map_replicate]; rfl
theorem getD_at {α : Type} {l : List α} {i : Nat} {d : α} (h : i < l.length) : l.getD i d = l[i] := by
  rw [List.getD_eq_getElem?_getD, List.getElem?_eq_getElem h]; rfl
theorem mul_bound {a b A B : Int} (h1 : 0 ≤ a) (h2 : a ≤ A) (h3 : 0 ≤ b) (h4 : b ≤ B) : 0 ≤ a * b ∧ a * b ≤ A * B :=
  ⟨Int.mul_nonneg h1 h3, Int.mul_le_mul h2 h4 h3 (by omega)⟩
theorem drop_flat {α β : Type} (f : α → List β) (l : List α) (k : Nat) (h : k < l.length) : (l.drop k).flatMap f = f l[k] ++ (l.drop (k + 1)).flatMap f := by
  rw [List.drop_eq_getElem_cons h, List.flatMap_cons]
theorem drop_flat_end {α β : Type} (f : α → List β) (l : List α) (k : Nat) (h : l.length ≤ k) : (l.drop k).flatMap f = [] := by
  rw [List.drop_eq_nil_of_le h]; rfl

/- the same, of any elements -/
section gen
variable {α : Type}
def buildG (N : Nat) (ps : List (Nat × α)) : List (List α) := (List.range N).map fun r => (ps.filter (fun p => p.1 == r)).map (·.2)
theorem buildG_length (N : Nat) (ps : List (Nat × α)) : (buildG N ps).length = N := by simp [buildG]
theorem buildG_get {N : Nat} {ps : List (Nat × α)} {i : Nat} (h : i < (buildG N ps).length) : (buildG N ps)[i] = (ps.filter (fun p => p.1 == i)).map (·.2) := by
  simp [buildG]
theorem buildG_push {N : Nat} {ps : List (Nat × α)} {i : Nat} {v : α} (h : i < (buildG N ps).length) : buildG N (ps ++ [(i, v)]) = (buildG N ps).set i ((buildG N ps)[i] ++ [v]) := by
  apply List.ext_getElem (by simp [buildG])
  intro j h1 h2
  rw [List.getElem_set]
  simp only [buildG_get]
  by_cases hj : i = j
  · subst hj; rw [if_pos rfl]; simp
  · rw [if_neg hj]; simp [hj]
theorem buildG_nil (N : Nat) : buildG N ([] : List (Nat × α)) = List.replicate N [] := by
  apply List.ext_getElem (by simp [buildG])
  intro j h1 h2
  simp [buildG_get]
def ownG (w : Nat) (f : α → List AC) (r : List α) : List AC := [.own w (r.map f)]
theorem rowsG_push {w : Nat} {f : α → List AC} {N : Nat} {ps : List (Nat × α)} {i n len : Nat} {v : α} {a b e : List AC} (h : i < (buildG N ps).length) (hn : n = i) (hl : len = (buildG N ps)[i].length) (he : e = f v) :
    ((((buildG N ps).map (ownG w f)).set i a).set n b).set i [.own w ((((buildG N ps)[i].map f).take len) ++ [e])] = (buildG N (ps ++ [(i, v)])).map (ownG w f) := by
  subst hn hl he
  rw [List.set_set, List.set_set, buildG_push h, List.map_set]
  congr 1
  simp only [ownG]
  rw [List.take_of_length_le (by simp), List.map_append]
  rfl
theorem rowsG_nil (w : Nat) (f : α → List AC) (N : Nat) : (buildG N []).map (ownG w f) = List.replicate N [.own w []] := by
  rw [buildG_nil, List.map_replicate]; rfl
theorem buildG_row_le {N : Nat} {ps : List (Nat × α)} {i : Nat} (h : i < (buildG N ps).length) : (buildG N ps)[i].length ≤ ps.length := by
  rw [buildG_get, List.length_map]
  exact List.length_filter_le _ _
theorem rowsG_unown {w : Nat} {f : α → List AC} (hf : ∀ a, ∀ x ∈ f a, x.unown = x) (l : List (List α)) : unownLL (l.map (ownG w f)) = l.map fun r => [AC.list w r.length (r.map f)] := by
  rw [unownLL_eq, List.map_map]
  refine List.map_congr_left fun r _ => ?_
  show [AC.list w _ (unownLL _)] = _
  rw [unownLL_map hf]
  simp
end gen
end Go.Gl

namespace Go.Proofs.YtcmihlbihppflaaGreat
open Go.Gl
attribute [local irreducible] vcCall AWP RetOk Again ordOk

def onB (t : Trans) (n : Int) : Bool := decide (((n.toNat &&& t.care.toNat : Nat) : Int) = t.val)
/-- what one edge adds at one state and one successor -/
def pushE (n : Nat) (i : Nat) (ℓ to : Int) (e : Trans) : List (Nat × Int) := if onB e ℓ then [((i : Nat) * n + e.src.toNat, to * n + e.dst)] else []
def pushJ (n : Nat) (ed : List Trans) (i : Nat) (ℓ to : Int) : List (Nat × Int) := ed.flatMap (pushE n i ℓ to)
def pushI (n : Nat) (ed : List Trans) (nx : List (List Int)) (ls : List Int) (i : Nat) : List (Nat × Int) := (nx.getD i []).flatMap (pushJ n ed i (ls.getD i 0))
def pushS (g : Graph) (ls : List Int) (a : Aut) : List (Nat × Int) := (List.range g.st.length).flatMap (pushI a.acc.length a.ed g.nx ls)
/-- the successors of the nodes of the product -/
def prodRows (g : Graph) (ls : List Int) (a : Aut) : List (List Int) := build (a.acc.length * g.st.length) (pushS g ls a)

theorem pushS_len (g : Graph) (hg : GB g) (ls : List Int) (a : Aut) (ha : AutP a) : (pushS g ls a).length ≤ 7372800 := by
  obtain ⟨⟨g1, g2⟩, g3, g4⟩ := hg
  have h1 : ∀ i ℓ to, (pushJ a.acc.length a.ed i ℓ to).length ≤ 2048 := fun i ℓ to => by
    have := flat_len (f := pushE a.acc.length i ℓ to) (c := 1) a.ed (fun e _ => by unfold pushE; split <;> simp)
    have := ha.2.1
    unfold pushJ; omega
  have h2 : ∀ i ∈ List.range g.st.length, (pushI a.acc.length a.ed g.nx ls i).length ≤ 122880 := fun i hi => by
    rw [List.mem_range] at hi
    unfold pushI
    rw [getD_at (l := g.nx) (by omega)]
    have h3 := flat_len (f := pushJ a.acc.length a.ed i (ls.getD i 0)) (c := 2048) g.nx[i] (fun e _ => h1 _ _ _)
    have h4 := (g4 i (by omega) (by omega) hi).2.1
    have : g.nx[i].length * 2048 ≤ 60 * 2048 := Nat.mul_le_mul_right _ (by omega)
    omega
  have h5 := flat_len (f := pushI a.acc.length a.ed g.nx ls) (c := 122880) (List.range g.st.length) h2
  rw [List.length_range] at h5
  have : g.st.length * 122880 ≤ 60 * 122880 := Nat.mul_le_mul_right _ (by omega)
  unfold pushS; omega

theorem l8Product_new (g : Graph) (hg : GB g) (ls : List Int) (hls : ls.length = g.st.length) (hlr : ∀ x ∈ ls, 0 ≤ x ∧ x ≤ 7) (a : Aut) (ha : AutP a) : CallsA Tryz.prog 72 [.agg g.cs, ints ls, .agg a.cs] [] (.sref 0 0 (a.acc.length * g.st.length)) [.cells 1 ((prodRows g ls a).map ownRow)] := by
  have hpl := pushS_len g hg ls a ha
  obtain ⟨⟨g1, g2⟩, g3, g4⟩ := hg
  obtain ⟨⟨a1, a2⟩, a3, _, a5⟩ := ha
  have hN := mul_bound (a := (a.acc.length : Int)) (b := (g.st.length : Int)) (A := 64) (B := 60) (by omega) (by omega) (by omega) (by omega)
  have hNn : ((a.acc.length * g.st.length : Nat) : Int) = (a.acc.length : Int) * g.st.length := by simp
  refine callsA_of tabOk Tryz.func72 rfl rfl 93 Tryz.ntmps72 (by simp) ?_
  repeat' (first | (apply AWP.go ok; rfl; conv => whnf) | (apply ord_mk; kernel_rfl; conv => whnf) | (apply And.intro; (first | omega | (unfold inI; omega) | (dsimp only; omega) | (unfold bitsOk; omega) | ((try dsimp only); simp only [List.length_map, List.length_take, List.length_append, List.length_replicate, List.length_cons, List.length_nil]; omega) | (simp only [btw_iff] at *; first | omega | (unfold inI; omega) | (unfold bitsOk; omega)) | exact stor_map (fun _ => rfl) | exact ⟨rfl, stor_cons rfl stor_nil⟩ | exact ⟨rfl, stor_map (fun _ => rfl) _⟩ | exact ⟨⟨rfl, by omega⟩, stor_map (fun _ => rfl) _⟩); conv => whnf) | (with_reducible apply get_mapN; omega; intro _; conv => whnf) | (with_reducible apply get_mapI; omega; intro _; conv => whnf) | (apply get_mapN; omega; intro _; conv => whnf) | (apply get_fill; omega; conv => whnf) | (apply ex_some; conv => whnf) | (apply get_map; omega; intro _; conv => whnf) | (apply vcG_dec <;> intro _ <;> conv => whnf) | (apply vcG_ndec <;> intro _ <;> conv => whnf) | (apply vcG_not <;> intro _ <;> conv => whnf) | (apply vcG_mk <;> intro _ <;> conv => whnf) | (apply vcIf_dec <;> intro _ <;> conv => whnf) | (apply vcIf_ndec <;> intro _ <;> conv => whnf) | (apply vcIf_not <;> intro _ <;> conv => whnf) | (apply vcIf_mk <;> intro _ <;> conv => whnf))
  refine AWP.reach (Gl.Reach.weaken (es' := List.replicate (a.acc.length * g.st.length) [.own 1 []]) 2 rfl (by rw [List.length_replicate, List.length_replicate]; rfl) rows_weaken rfl) ?_
  conv => whnf
  have hrow : ∀ i (hi : i < g.nx.length), ∀ x ∈ g.nx[i], 0 ≤ x ∧ x ≤ g.st.length - 1 := fun i hi x hx => by
    obtain ⟨j, hj, rfl⟩ := List.mem_iff_getElem.1 hx
    exact ((g4 i hi hi (by omega)).2.2.2 j hj hj).1
  have hlen : ∀ i (hi : i < g.nx.length), g.nx[i].length ≤ 60 := fun i hi => by
    have := (g4 i hi hi (by omega)).2.1; omega
  refine loopA (fun x : Nat × List (Nat × Int) => ([(1, ints ls), (3, .ptr 0 none 0), (5, .ptr 1 none 0), (7, .int a.acc.length), (8, .sref 2 0 (a.acc.length * g.st.length)), (9, .int x.1)], [.cells 2 [[lst 2 State.cs g.st, lst 1 encL g.nx]], .cells 3 [[lst 1 enI a.ini, lst 1 enB a.acc, lst 4 Trans.cs a.ed]], .cells 1 ((build (a.acc.length * g.st.length) x.2).map ownRow)])) (fun x => x.1 ≤ g.st.length ∧ x.2 ++ ((List.range g.st.length).drop x.1).flatMap (pushI a.acc.length a.ed g.nx ls) = pushS g ls a) (fun x => g.st.length - x.1) (0, []) ⟨by omega, rfl⟩
    ⟨[0, 1, 2], rfl, by decide, rfl, ⟨⟨rfl, rfl⟩, ⟨rfl, rfl⟩, ⟨rfl, rfl⟩, ⟨rfl, rfl⟩, ⟨rfl, rfl⟩, ⟨rfl, rfl⟩, trivial⟩, ⟨obj_box rfl rfl, obj_box rfl rfl, obj_flat (cells_congr (rows_nil _).symm) (flat_map fun _ => rfl), trivial⟩⟩ ?_
  rintro ⟨i, ps⟩ ⟨hi1, hi2⟩
  dsimp only at hi1 hi2 ⊢
  repeat' (first | (apply AWP.go ok; rfl; conv => whnf) | (apply ord_mk; kernel_rfl; conv => whnf) | (apply And.intro; (first | omega | (unfold inI; omega) | (dsimp only; omega) | (unfold bitsOk; omega) | ((try dsimp only); simp only [List.length_map, List.length_take, List.length_append, List.length_replicate, List.length_cons, List.length_nil]; omega) | (simp only [btw_iff] at *; first | omega | (unfold inI; omega) | (unfold bitsOk; omega)) | exact stor_map (fun _ => rfl) | exact ⟨rfl, stor_cons rfl stor_nil⟩ | exact ⟨rfl, stor_map (fun _ => rfl) _⟩ | exact ⟨⟨rfl, by omega⟩, stor_map (fun _ => rfl) _⟩); conv => whnf) | (with_reducible apply get_mapN; omega; intro _; conv => whnf) | (with_reducible apply get_mapI; omega; intro _; conv => whnf) | (apply get_mapN; omega; intro _; conv => whnf) | (apply get_fill; omega; conv => whnf) | (apply ex_some; conv => whnf) | (apply get_map; omega; intro _; conv => whnf) | (apply vcG_dec <;> intro _ <;> conv => whnf) | (apply vcG_ndec <;> intro _ <;> conv => whnf) | (apply vcG_not <;> intro _ <;> conv => whnf) | (apply vcG_mk <;> intro _ <;> conv => whnf) | (apply vcIf_dec <;> intro _ <;> conv => whnf) | (apply vcIf_ndec <;> intro _ <;> conv => whnf) | (apply vcIf_not <;> intro _ <;> conv => whnf) | (apply vcIf_mk <;> intro _ <;> conv => whnf))
  · have hig : i < g.st.length := by omega
    rw [drop_flat _ _ _ (by simpa using hig), List.getElem_range] at hi2
    have hin : i < g.nx.length := by omega
    have hrow := hrow i hin
    have hlen := hlen i hin
    have hli := hlr ls[i] (List.getElem_mem _)
    have hpI : pushI a.acc.length a.ed g.nx ls i = g.nx[i].flatMap (pushJ a.acc.length a.ed i ls[i]) := by
      unfold pushI
      rw [getD_at hin, getD_at (by omega)]
    rw [hpI] at hi2
    refine loopA (fun x : Nat × List (Nat × Int) => ([(1, ints ls), (3, .ptr 0 none 0), (5, .ptr 1 none 0), (7, .int a.acc.length), (8, .sref 2 0 (a.acc.length * g.st.length)), (9, .int i), (10, .int x.1)], [.cells 2 [[lst 2 State.cs g.st, lst 1 encL g.nx]], .cells 3 [[lst 1 enI a.ini, lst 1 enB a.acc, lst 4 Trans.cs a.ed]], .cells 1 ((build (a.acc.length * g.st.length) x.2).map ownRow)])) (fun x => x.1 ≤ g.nx[i].length ∧ x.2 ++ ((g.nx[i].drop x.1).flatMap (pushJ a.acc.length a.ed i ls[i]) ++ ((List.range g.st.length).drop (i + 1)).flatMap (pushI a.acc.length a.ed g.nx ls)) = pushS g ls a) (fun x => g.nx[i].length - x.1) (0, ps) ⟨by omega, hi2⟩
      ⟨[0, 1, 2], rfl, by decide, rfl, ⟨⟨rfl, rfl⟩, ⟨rfl, rfl⟩, ⟨rfl, rfl⟩, ⟨rfl, rfl⟩, ⟨rfl, rfl⟩, ⟨rfl, rfl⟩, ⟨rfl, rfl⟩, trivial⟩, ⟨obj_box rfl rfl, obj_box rfl rfl, obj_flat rfl (flat_map fun _ => rfl), trivial⟩⟩ ?_
    rintro ⟨j, ps⟩ ⟨hj1, hj2⟩
    dsimp only at hj1 hj2 ⊢
    repeat' (first | (apply AWP.go ok; rfl; conv => whnf) | (apply ord_mk; kernel_rfl; conv => whnf) | (apply And.intro; (first | omega | (unfold inI; omega) | (dsimp only; omega) | (unfold bitsOk; omega) | ((try dsimp only); simp only [List.length_map, List.length_take, List.length_append, List.length_replicate, List.length_cons, List.length_nil]; omega) | (simp only [btw_iff] at *; first | omega | (unfold inI; omega) | (unfold bitsOk; omega)) | exact stor_map (fun _ => rfl) | exact ⟨rfl, stor_cons rfl stor_nil⟩ | exact ⟨rfl, stor_map (fun _ => rfl) _⟩ | exact ⟨⟨rfl, by omega⟩, stor_map (fun _ => rfl) _⟩); conv => whnf) | (with_reducible apply get_mapN; omega; intro _; conv => whnf) | (with_reducible apply get_mapI; omega; intro _; conv => whnf) | (apply get_mapN; omega; intro _; conv => whnf) | (apply get_fill; omega; conv => whnf) | (apply ex_some; conv => whnf) | (apply get_map; omega; intro _; conv => whnf) | (apply vcG_dec <;> intro _ <;> conv => whnf) | (apply vcG_ndec <;> intro _ <;> conv => whnf) | (apply vcG_not <;> intro _ <;> conv => whnf) | (apply vcG_mk <;> intro _ <;> conv => whnf) | (apply vcIf_dec <;> intro _ <;> conv => whnf) | (apply vcIf_ndec <;> intro _ <;> conv => whnf) | (apply vcIf_not <;> intro _ <;> conv => whnf) | (apply vcIf_mk <;> intro _ <;> conv => whnf))
    · have hjn : j < g.nx[i].length := by omega
      rw [drop_flat _ _ _ hjn, List.append_assoc] at hj2
      have hto := hrow g.nx[i][j] (List.getElem_mem _)
      refine loopA (fun x : Nat × List (Nat × Int) => ([(1, ints ls), (3, .ptr 0 none 0), (5, .ptr 1 none 0), (7, .int a.acc.length), (8, .sref 2 0 (a.acc.length * g.st.length)), (9, .int i), (10, .int j), (11, .int x.1)], [.cells 2 [[lst 2 State.cs g.st, lst 1 encL g.nx]], .cells 3 [[lst 1 enI a.ini, lst 1 enB a.acc, lst 4 Trans.cs a.ed]], .cells 1 ((build (a.acc.length * g.st.length) x.2).map ownRow)])) (fun x => x.1 ≤ a.ed.length ∧ x.2 ++ ((a.ed.drop x.1).flatMap (pushE a.acc.length i ls[i] g.nx[i][j]) ++ ((g.nx[i].drop (j + 1)).flatMap (pushJ a.acc.length a.ed i ls[i]) ++ ((List.range g.st.length).drop (i + 1)).flatMap (pushI a.acc.length a.ed g.nx ls))) = pushS g ls a) (fun x => a.ed.length - x.1) (0, ps) ⟨by omega, hj2⟩
        ⟨[0, 1, 2], rfl, by decide, rfl, ⟨⟨rfl, rfl⟩, ⟨rfl, rfl⟩, ⟨rfl, rfl⟩, ⟨rfl, rfl⟩, ⟨rfl, rfl⟩, ⟨rfl, rfl⟩, ⟨rfl, rfl⟩, ⟨rfl, rfl⟩, trivial⟩, ⟨obj_box rfl rfl, obj_box rfl rfl, obj_flat rfl (flat_map fun _ => rfl), trivial⟩⟩ ?_
      rintro ⟨k, ps⟩ ⟨hk1, hk2⟩
      dsimp only at hk1 hk2 ⊢
      have hm1 := mul_bound (a := (i : Int)) (b := (a.acc.length : Int)) (A := 60) (B := 64) (by omega) (by omega) (by omega) (by omega)
      have hm2 := mul_bound (a := g.nx[i][j]) (b := (a.acc.length : Int)) (A := 60) (B := 64) (by omega) (by omega) (by omega) (by omega)
      by_cases hke : k < a.ed.length
      · have he := a5 a.ed[k] (List.getElem_mem hke)
        unfold edgeP at he
        have hlt : i * a.acc.length + a.ed[k].src.toNat < (build (a.acc.length * g.st.length) ps).length := by
          rw [build_length]
          have h1 : (i + 1) * a.acc.length ≤ g.st.length * a.acc.length := Nat.mul_le_mul_right _ hig
          rw [Nat.add_mul, Nat.one_mul, Nat.mul_comm g.st.length] at h1
          omega
        repeat' (first | ((fail_if_success apply stopAt 14); (fail_if_success apply stopAtS 14); apply AWP.go ok; rfl; conv => whnf) | (apply ord_mk; kernel_rfl; conv => whnf) | (apply And.intro; (first | omega | (unfold inI; omega) | (dsimp only; omega) | (unfold bitsOk; omega) | ((try dsimp only); simp only [List.length_map, List.length_take, List.length_append, List.length_replicate, List.length_cons, List.length_nil]; omega) | (simp only [btw_iff] at *; first | omega | (unfold inI; omega) | (unfold bitsOk; omega)) | exact stor_map (fun _ => rfl) | exact ⟨rfl, stor_cons rfl stor_nil⟩ | exact ⟨rfl, stor_map (fun _ => rfl) _⟩ | exact ⟨⟨rfl, by omega⟩, stor_map (fun _ => rfl) _⟩); conv => whnf) | (with_reducible apply get_mapN; omega; intro _; conv => whnf) | (with_reducible apply get_mapI; omega; intro _; conv => whnf) | (apply get_mapN; omega; intro _; conv => whnf) | (apply get_fill; omega; conv => whnf) | (apply ex_some; conv => whnf) | (apply get_map; omega; intro _; conv => whnf) | (apply vcG_dec <;> intro _ <;> conv => whnf) | (apply vcG_ndec <;> intro _ <;> conv => whnf) | (apply vcG_not <;> intro _ <;> conv => whnf) | (apply vcG_mk <;> intro _ <;> conv => whnf) | (apply vcIf_dec <;> intro _ <;> conv => whnf) | (apply vcIf_ndec <;> intro _ <;> conv => whnf) | (apply vcIf_not <;> intro _ <;> conv => whnf) | (apply vcIf_mk <;> intro _ <;> conv => whnf) | (apply call_data (l7On_ok a.ed[k] ls[i] hli.1 hli.2 (a5 _ (List.getElem_mem _)).2.2.1); rfl; rfl; conv => whnf))
        · have hon : ((ls[i].toNat &&& a.ed[k].care.toNat : Nat) : Int) = a.ed[k].val := by assumption
          have hrl : (build (a.acc.length * g.st.length) ps)[i * a.acc.length + a.ed[k].src.toNat].length ≤ 1000000000 := by
            have h1 := build_row_le (N := a.acc.length * g.st.length) (ps := ps) hlt
            have h2 := congrArg List.length hk2
            rw [List.length_append] at h2
            omega
          have hin : ((i : Int) * a.acc.length + a.ed[k].src).toNat = i * a.acc.length + a.ed[k].src.toNat := by
            have e : ((i * a.acc.length : Nat) : Int) = (i : Int) * a.acc.length := by simp
            omega
          have hlt2 : ((i : Int) * a.acc.length + a.ed[k].src).toNat < a.acc.length * g.st.length := by
            rw [hin, ← build_length (a.acc.length * g.st.length) ps]; exact hlt
          have hmap : i * a.acc.length + a.ed[k].src.toNat < ((build (a.acc.length * g.st.length) ps).map ownRow).length := by rw [List.length_map]; exact hlt
          refine AWP.reach (Gl.Reach.expose (e := ownRow (build (a.acc.length * g.st.length) ps)[i * a.acc.length + a.ed[k].src.toNat]) 2 (i * a.acc.length + a.ed[k].src.toNat) 0 rfl (by rw [List.getElem?_map, List.getElem?_eq_getElem hlt]; rfl) rfl (leaf_map (fun _ => rfl) _) rfl) ?_
          conv => whnf
          (apply AWP.go ok; rfl; conv => whnf)
          repeat' (first | (apply ord_mk; kernel_rfl; conv => whnf) | (apply And.intro; (first | omega | (unfold inI; omega) | (dsimp only; omega) | (unfold bitsOk; omega) | ((try dsimp only); simp only [List.length_map, List.length_take, List.length_append, List.length_replicate, List.length_cons, List.length_nil]; omega) | (simp only [btw_iff] at *; first | omega | (unfold inI; omega) | (unfold bitsOk; omega)) | exact stor_map (fun _ => rfl) | exact ⟨rfl, stor_cons rfl stor_nil⟩ | exact ⟨rfl, stor_map (fun _ => rfl) _⟩ | exact ⟨⟨rfl, by omega⟩, stor_map (fun _ => rfl) _⟩); conv => whnf) | (with_reducible apply get_mapN; omega; intro _; conv => whnf) | (with_reducible apply get_mapI; omega; intro _; conv => whnf) | (apply get_mapN; omega; intro _; conv => whnf) | (apply get_fill; omega; conv => whnf) | (apply ex_some; conv => whnf) | (apply get_map; omega; intro _; conv => whnf) | (apply vcG_dec <;> intro _ <;> conv => whnf) | (apply vcG_ndec <;> intro _ <;> conv => whnf) | (apply vcG_not <;> intro _ <;> conv => whnf) | (apply vcG_mk <;> intro _ <;> conv => whnf) | (apply vcIf_dec <;> intro _ <;> conv => whnf) | (apply vcIf_ndec <;> intro _ <;> conv => whnf) | (apply vcIf_not <;> intro _ <;> conv => whnf) | (apply vcIf_mk <;> intro _ <;> conv => whnf) | (apply get_set; exact hin; exact hmap; conv => whnf))
          refine AWP.reach (Gl.Reach.absorb 2 5 (i * a.acc.length + a.ed[k].src.toNat) 0 rfl (getset hin (by rw [List.length_set]; exact hmap)) rfl rfl (by simp) rfl (flat_append (fun e he => (flat_map (fun _ => rfl)) e (List.mem_of_mem_take he)) (flat_cons rfl flat_nil)) rfl) ?_
          conv => whnf
          repeat' (first | (apply AWP.go ok; rfl; conv => whnf) | (apply ord_mk; kernel_rfl; conv => whnf) | (apply And.intro; (first | omega | (unfold inI; omega) | (dsimp only; omega) | (unfold bitsOk; omega) | ((try dsimp only); simp only [List.length_map, List.length_take, List.length_append, List.length_replicate, List.length_cons, List.length_nil]; omega) | (simp only [btw_iff] at *; first | omega | (unfold inI; omega) | (unfold bitsOk; omega)) | exact stor_map (fun _ => rfl) | exact ⟨rfl, stor_cons rfl stor_nil⟩ | exact ⟨rfl, stor_map (fun _ => rfl) _⟩ | exact ⟨⟨rfl, by omega⟩, stor_map (fun _ => rfl) _⟩); conv => whnf) | (with_reducible apply get_mapN; omega; intro _; conv => whnf) | (with_reducible apply get_mapI; omega; intro _; conv => whnf) | (apply get_mapN; omega; intro _; conv => whnf) | (apply get_fill; omega; conv => whnf) | (apply ex_some; conv => whnf) | (apply get_map; omega; intro _; conv => whnf) | (apply vcG_dec <;> intro _ <;> conv => whnf) | (apply vcG_ndec <;> intro _ <;> conv => whnf) | (apply vcG_not <;> intro _ <;> conv => whnf) | (apply vcG_mk <;> intro _ <;> conv => whnf) | (apply vcIf_dec <;> intro _ <;> conv => whnf) | (apply vcIf_ndec <;> intro _ <;> conv => whnf) | (apply vcIf_not <;> intro _ <;> conv => whnf) | (apply vcIf_mk <;> intro _ <;> conv => whnf))
          rw [drop_flat _ _ _ hke] at hk2
          have hpe : pushE a.acc.length i ls[i] g.nx[i][j] a.ed[k] = [(i * a.acc.length + a.ed[k].src.toNat, g.nx[i][j] * a.acc.length + a.ed[k].dst)] := by
            unfold pushE onB; rw [if_pos (decide_eq_true hon)]
          rw [hpe, List.append_assoc, ← List.append_assoc] at hk2
          exact again (k + 1, ps ++ [(i * a.acc.length + a.ed[k].src.toNat, g.nx[i][j] * a.acc.length + a.ed[k].dst)]) [0, 1, 2] ⟨by dsimp only; omega, hk2⟩ (by dsimp only; omega)
            ⟨rfl, by decide, rfl, ⟨⟨rfl, rfl⟩, ⟨rfl, rfl⟩, ⟨rfl, rfl⟩, ⟨rfl, rfl⟩, ⟨rfl, rfl⟩, ⟨rfl, rfl⟩, ⟨rfl, rfl⟩, ⟨rfl, rfl⟩, trivial⟩, ⟨obj_box rfl rfl, obj_box rfl rfl, obj_flat (cells_congr (rows_push' hlt hin (by simp))) (flat_map fun _ => rfl), trivial⟩⟩
        · rename_i hon
          rw [drop_flat _ _ _ hke] at hk2
          have hpe : pushE a.acc.length i ls[i] g.nx[i][j] a.ed[k] = [] := by
            unfold pushE onB; rw [if_neg (by simpa using hon)]
          rw [hpe, List.nil_append] at hk2
          exact again (k + 1, ps) [0, 1, 2] ⟨by dsimp only; omega, hk2⟩ (by dsimp only; omega)
            ⟨rfl, by decide, rfl, ⟨⟨rfl, rfl⟩, ⟨rfl, rfl⟩, ⟨rfl, rfl⟩, ⟨rfl, rfl⟩, ⟨rfl, rfl⟩, ⟨rfl, rfl⟩, ⟨rfl, rfl⟩, ⟨rfl, rfl⟩, trivial⟩, ⟨obj_box rfl rfl, obj_box rfl rfl, obj_flat rfl (flat_map fun _ => rfl), trivial⟩⟩
        · omega
      · repeat' (first | ((fail_if_success apply stopAt 14); (fail_if_success apply stopAtS 14); apply AWP.go ok; rfl; conv => whnf) | (apply ord_mk; kernel_rfl; conv => whnf) | (apply And.intro; (first | omega | (unfold inI; omega) | (dsimp only; omega) | (unfold bitsOk; omega) | ((try dsimp only); simp only [List.length_map, List.length_take, List.length_append, List.length_replicate, List.length_cons, List.length_nil]; omega) | (simp only [btw_iff] at *; first | omega | (unfold inI; omega) | (unfold bitsOk; omega)) | exact stor_map (fun _ => rfl) | exact ⟨rfl, stor_cons rfl stor_nil⟩ | exact ⟨rfl, stor_map (fun _ => rfl) _⟩ | exact ⟨⟨rfl, by omega⟩, stor_map (fun _ => rfl) _⟩); conv => whnf) | (with_reducible apply get_mapN; omega; intro _; conv => whnf) | (with_reducible apply get_mapI; omega; intro _; conv => whnf) | (apply get_mapN; omega; intro _; conv => whnf) | (apply get_fill; omega; conv => whnf) | (apply ex_some; conv => whnf) | (apply get_map; omega; intro _; conv => whnf) | (apply vcG_dec <;> intro _ <;> conv => whnf) | (apply vcG_ndec <;> intro _ <;> conv => whnf) | (apply vcG_not <;> intro _ <;> conv => whnf) | (apply vcG_mk <;> intro _ <;> conv => whnf) | (apply vcIf_dec <;> intro _ <;> conv => whnf) | (apply vcIf_ndec <;> intro _ <;> conv => whnf) | (apply vcIf_not <;> intro _ <;> conv => whnf) | (apply vcIf_mk <;> intro _ <;> conv => whnf))
        · omega
        · rw [drop_flat_end _ _ _ (by omega), List.nil_append] at hk2
          exact again (j + 1, ps) [0, 1, 2] ⟨by dsimp only; omega, hk2⟩ (by dsimp only; omega)
            ⟨rfl, by decide, rfl, ⟨⟨rfl, rfl⟩, ⟨rfl, rfl⟩, ⟨rfl, rfl⟩, ⟨rfl, rfl⟩, ⟨rfl, rfl⟩, ⟨rfl, rfl⟩, ⟨rfl, rfl⟩, trivial⟩, ⟨obj_box rfl rfl, obj_box rfl rfl, obj_flat rfl (flat_map fun _ => rfl), trivial⟩⟩
    · rw [drop_flat_end _ _ _ (by omega), List.nil_append] at hj2
      exact again (i + 1, ps) [0, 1, 2] ⟨by dsimp only; omega, hj2⟩ (by dsimp only; omega)
        ⟨rfl, by decide, rfl, ⟨⟨rfl, rfl⟩, ⟨rfl, rfl⟩, ⟨rfl, rfl⟩, ⟨rfl, rfl⟩, ⟨rfl, rfl⟩, ⟨rfl, rfl⟩, trivial⟩, ⟨obj_box rfl rfl, obj_box rfl rfl, obj_flat rfl (flat_map fun _ => rfl), trivial⟩⟩
  · rw [drop_flat_end _ _ _ (by simp; omega), List.append_nil] at hi2
    subst hi2
    exact ret_new rfl (flat_map fun _ => rfl) rfl rfl

theorem rows_unown (l : List (List Int)) : unownLL (l.map ownRow) = l.map encL := by
  rw [unownLL_eq, List.map_map]
  refine List.map_congr_left fun r _ => ?_
  show [AC.list 1 _ (unownLL _)] = _
  rw [enc_unown1]
  simp [encL, ints, enI]
theorem keepRows {f : FuncId} {args : List AC} {n : Nat} {l : List (List Int)} (h : CallsA Tryz.prog f args [] (.sref 0 0 n) [.cells 1 (l.map ownRow)]) (hl : l.length = n) : CallsA Tryz.prog f args [] (lst 1 encL l) [] := by
  refine h.lend [] [0] rfl rfl rfl ?_ passOk_nil
  rw [bor_full (w := 1) (es := l.map ownRow) rfl rfl rfl (by rw [List.length_map]; exact hl), rows_unown, ← hl]; rfl

theorem l8Product_ok (g : Graph) (hg : GB g) (ls : List Int) (hls : ls.length = g.st.length) (hlr : ∀ x ∈ ls, 0 ≤ x ∧ x ≤ 7) (a : Aut) (ha : AutP a) : CallsA Tryz.prog 72 [.agg g.cs, ints ls, .agg a.cs] [] (lst 1 encL (prodRows g ls a)) [] :=
  keepRows (l8Product_new g hg ls hls hlr a ha) (build_length _ _)
end Go.Proofs.YtcmihlbihppflaaGreat

namespace Go.Proofs.YtcmihlbihppflaaGreat
open Go.Gl
attribute [local irreducible] vcCall AWP RetOk Again ordOk

/-- the edges of each state -/
def edRows (a : Aut) : List (List Trans) := buildG a.acc.length (a.ed.map fun e => (e.src.toNat, e))
def encT (r : List Trans) : List AC := [.list 4 r.length (r.map Trans.cs)]
def ownT (r : List Trans) : List AC := ownG 4 Trans.cs r

theorem ltr_lt (v : List Int) : ∀ (l : List Tree) (k n : Nat), n < 2 ^ k → ltr v l k n < 2 ^ (k + l.length) := by
  intro l
  induction l with
  | nil => intro k n h; simpa [ltr] using h
  | cons t l ih =>
    intro k n h
    rw [ltr]
    have e : k + (t :: l).length = k + 1 + l.length := by simp only [List.length_cons]; omega
    rw [e]
    refine ih (k + 1) _ ?_
    split
    · rw [Nat.pow_succ]; omega
    · exact or_lt h
theorem letter_range {l : List Tree} (hl : LabelsOk l) (s : State) : 0 ≤ letterZ l s ∧ letterZ l s ≤ 7 := by
  have := ltr_lt s.b l 0 0 (by decide)
  rw [hl.1] at this
  unfold letterZ
  have e : (2 : Nat) ^ (0 + 3) = 8 := by decide
  omega

def pE2 (n i q : Nat) (ℓ to : Int) (e : Trans) : List (Nat × Int) := if onB e ℓ then [(i * n + q, to * n + e.dst)] else []
def pTo (n : Nat) (row : List Trans) (i q : Nat) (ℓ to : Int) : List (Nat × Int) := row.flatMap (pE2 n i q ℓ to)
def pQ (n : Nat) (nxi : List Int) (rows : List (List Trans)) (i : Nat) (ℓ : Int) (q : Nat) : List (Nat × Int) := nxi.flatMap (pTo n (rows.getD q []) i q ℓ)
def pI2 (n : Nat) (nx : List (List Int)) (rows : List (List Trans)) (ls : List Int) (i : Nat) : List (Nat × Int) := (List.range n).flatMap (pQ n (nx.getD i []) rows i (ls.getD i 0))
def pS2 (g : Graph) (ls : List Int) (a : Aut) : List (Nat × Int) := (List.range g.st.length).flatMap (pI2 a.acc.length g.nx (edRows a) ls)

theorem edRows_get {a : Aut} {q : Nat} (h : q < a.acc.length) : (edRows a).getD q [] = a.ed.filter (fun e => e.src.toNat == q) := by
  unfold edRows
  rw [getD_at (by rw [buildG_length]; exact h), buildG_get, List.filter_map, List.map_map]
  exact List.map_id _
theorem range_one {β : Type} {F : Nat → List β} {n q0 : Nat} (hq : q0 < n) (h : ∀ q, q < n → q ≠ q0 → F q = []) : (List.range n).flatMap F = F q0 := by
  have : ∀ m, (List.range m).flatMap F = if q0 < m ∧ m ≤ n then F q0 else if m ≤ n then [] else (List.range m).flatMap F := by
    intro m
    induction m with
    | zero => simp
    | succ m ih =>
      by_cases hm : m + 1 ≤ n
      · rw [List.range_succ, List.flatMap_append, ih, List.flatMap_cons, List.flatMap_nil, List.append_nil]
        by_cases h1 : q0 < m
        · rw [if_pos ⟨h1, by omega⟩, if_pos ⟨by omega, hm⟩, h m (by omega) (by omega), List.append_nil]
        · rw [if_neg (by omega), if_pos (by omega)]
          by_cases h2 : q0 = m
          · subst h2; rw [if_pos ⟨by omega, hm⟩]; rfl
          · rw [if_neg (by omega), if_pos hm, h m (by omega) (by omega)]; rfl
      · rw [if_neg (by omega), if_neg hm]
  rw [this n, if_pos ⟨hq, Nat.le_refl _⟩]
theorem range_none {β : Type} {F : Nat → List β} {n : Nat} (h : ∀ q, q < n → F q = []) : (List.range n).flatMap F = [] := by
  rw [List.flatMap_eq_nil_iff]
  intro q hq
  exact h q (List.mem_range.1 hq)

/-- the program's pushes fill the same rows -/
theorem pS2_rows (g : Graph) (ls : List Int) (a : Aut) (ha : AutP a) (r : Nat) : (pS2 g ls a).filter (fun p => p.1 == r) = (pushS g ls a).filter (fun p => p.1 == r) := by
  unfold pS2 pushS
  rw [List.filter_flatMap, List.filter_flatMap]
  refine flat_congr fun i hi => ?_
  unfold pI2 pushI
  rw [List.filter_flatMap, List.filter_flatMap]
  have hsrc : ∀ e ∈ a.ed, e.src.toNat < a.acc.length := fun e he => by
    have := (ha.2.2.2 e he).1; omega
  by_cases hr : i * a.acc.length ≤ r ∧ r < i * a.acc.length + a.acc.length
  · obtain ⟨q0, rfl⟩ : ∃ q0, r = i * a.acc.length + q0 := ⟨r - i * a.acc.length, by omega⟩
    have hq0 : q0 < a.acc.length := by omega
    rw [range_one hq0 (fun q hq hne => by
      unfold pQ
      rw [List.filter_flatMap]
      refine List.flatMap_eq_nil_iff.2 fun to _ => ?_
      unfold pTo
      rw [List.filter_flatMap]
      refine List.flatMap_eq_nil_iff.2 fun e _ => ?_
      unfold pE2
      split
      · simp; omega
      · rfl)]
    unfold pQ
    rw [List.filter_flatMap, edRows_get hq0]
    refine flat_congr fun to _ => ?_
    unfold pTo pushJ
    rw [List.filter_flatMap, List.filter_flatMap]
    induction a.ed with
    | nil => rfl
    | cons e es ih =>
      rw [List.flatMap_cons, ← ih, List.filter_cons]
      by_cases he : e.src.toNat = q0
      · rw [if_pos (by simpa using he), List.flatMap_cons]
        unfold pE2 pushE
        rw [he]
      · rw [if_neg (by simpa using he)]
        have : (pushE a.acc.length i (ls.getD i 0) to e).filter (fun p => p.1 == i * a.acc.length + q0) = [] := by
          unfold pushE
          split
          · simp; omega
          · rfl
        rw [this, List.nil_append]
  · rw [range_none (fun q hq => by
      unfold pQ
      rw [List.filter_flatMap]
      refine List.flatMap_eq_nil_iff.2 fun to _ => ?_
      unfold pTo
      rw [List.filter_flatMap]
      refine List.flatMap_eq_nil_iff.2 fun e _ => ?_
      unfold pE2
      split
      · simp; omega
      · rfl)]
    symm
    refine List.flatMap_eq_nil_iff.2 fun to _ => ?_
    unfold pushJ
    rw [List.filter_flatMap]
    refine List.flatMap_eq_nil_iff.2 fun e he => ?_
    have := hsrc e he
    unfold pushE
    split
    · simp; omega
    · rfl
theorem pS2_len (g : Graph) (hg : GB g) (ls : List Int) (a : Aut) (ha : AutP a) : (pS2 g ls a).length ≤ 1000000000 := by
  obtain ⟨⟨g1, g2⟩, g3, g4⟩ := hg
  have h2 : ∀ i ∈ List.range g.st.length, (pI2 a.acc.length g.nx (edRows a) ls i).length ≤ 7864320 := fun i hi => by
    rw [List.mem_range] at hi
    unfold pI2
    rw [getD_at (l := g.nx) (by omega)]
    have h3 := flat_len (f := pQ a.acc.length g.nx[i] (edRows a) i (ls.getD i 0)) (c := 122880) (List.range a.acc.length) (fun q hq => by
      have h1 : ∀ to, (pTo a.acc.length ((edRows a).getD q []) i q (ls.getD i 0) to).length ≤ 2048 := fun to => by
        have h5 := flat_len (f := pE2 a.acc.length i q (ls.getD i 0) to) (c := 1) ((edRows a).getD q []) (fun e _ => by unfold pE2; split <;> simp)
        rw [edRows_get (List.mem_range.1 hq)] at h5 ⊢
        have := List.length_filter_le (fun e : Trans => e.src.toNat == q) a.ed
        have := ha.2.1
        unfold pTo; omega
      have h3 := flat_len (f := pTo a.acc.length ((edRows a).getD q []) i q (ls.getD i 0)) (c := 2048) g.nx[i] (fun to _ => h1 to)
      have h4 := (g4 i (by omega) (by omega) hi).2.1
      have : g.nx[i].length * 2048 ≤ 60 * 2048 := Nat.mul_le_mul_right _ (by omega)
      unfold pQ; omega)
    rw [List.length_range] at h3
    have : a.acc.length * 122880 ≤ 64 * 122880 := Nat.mul_le_mul_right _ ha.1.2
    omega
  have h5 := flat_len (f := pI2 a.acc.length g.nx (edRows a) ls) (c := 7864320) (List.range g.st.length) h2
  rw [List.length_range] at h5
  have : g.st.length * 7864320 ≤ 60 * 7864320 := Nat.mul_le_mul_right _ (by omega)
  unfold pS2; omega
theorem build_pS2 (g : Graph) (ls : List Int) (a : Aut) (ha : AutP a) : build (g.st.length * a.acc.length) (pS2 g ls a) = prodRows g ls a := by
  unfold prodRows build
  rw [Nat.mul_comm]
  refine List.map_congr_left fun r _ => ?_
  rw [pS2_rows g ls a ha r]

set_option maxHeartbeats 800000 in
theorem product_new (g : Graph) (hg : GB g) (l : List Tree) (hl : LabelsOk l) (a : Aut) (ha : AutP a) : CallsA Tryz.prog 81 [.agg g.cs, lst 3 Tree.cs' l, .agg a.cs] [] (.tup [.sref 0 0 (g.st.length * a.acc.length), ints a.ini]) [.cells 1 ((prodRows g (g.st.map (letterZ l)) a).map ownRow)] := by
  have hvals := hg.vals
  have hpl := pushS_len g hg (g.st.map (letterZ l)) a ha
  have hini := ha.2.2.1.le (by omega)
  obtain ⟨⟨g1, g2⟩, g3, g4⟩ := hg
  obtain ⟨⟨a1, a2⟩, a3, a4, a5⟩ := ha
  have hN := mul_bound (a := (g.st.length : Int)) (b := (a.acc.length : Int)) (A := 60) (B := 64) (by omega) (by omega) (by omega) (by omega)
  refine callsA_of tabOk Tryz.func81 rfl rfl 117 Tryz.ntmps81 (by simp) ?_
  repeat' (first | (apply AWP.go ok; rfl; conv => whnf) | (apply ord_mk; kernel_rfl; conv => whnf) | (apply And.intro; (first | omega | (unfold inI; omega) | (dsimp only; omega) | (unfold bitsOk; omega) | ((try dsimp only); simp only [List.length_map, List.length_take, List.length_append, List.length_replicate, List.length_cons, List.length_nil]; omega) | (simp only [btw_iff] at *; first | omega | (unfold inI; omega) | (unfold bitsOk; omega)) | exact stor_map (fun _ => rfl) | exact ⟨rfl, stor_cons rfl stor_nil⟩ | exact ⟨rfl, stor_map (fun _ => rfl) _⟩ | exact ⟨⟨rfl, by omega⟩, stor_map (fun _ => rfl) _⟩); conv => whnf) | (with_reducible apply get_mapN; omega; intro _; conv => whnf) | (with_reducible apply get_mapI; omega; intro _; conv => whnf) | (apply get_mapN; omega; intro _; conv => whnf) | (apply get_fill; omega; conv => whnf) | (apply ex_some; conv => whnf) | (apply get_map; omega; intro _; conv => whnf) | (apply vcG_dec <;> intro _ <;> conv => whnf) | (apply vcG_ndec <;> intro _ <;> conv => whnf) | (apply vcG_not <;> intro _ <;> conv => whnf) | (apply vcG_mk <;> intro _ <;> conv => whnf) | (apply vcIf_dec <;> intro _ <;> conv => whnf) | (apply vcIf_ndec <;> intro _ <;> conv => whnf) | (apply vcIf_not <;> intro _ <;> conv => whnf) | (apply vcIf_mk <;> intro _ <;> conv => whnf))
  refine AWP.reach (Gl.Reach.weaken (es' := List.replicate a.acc.length [.own 4 []]) 2 rfl (by rw [List.length_replicate, List.length_replicate]; rfl) rows_weaken rfl) ?_
  conv => whnf
  refine loopA (fun k : Nat => ([(1, lst 3 Tree.cs' l), (3, .ptr 0 none 0), (5, .ptr 1 none 0), (8, .int a.acc.length), (9, .sref 2 0 a.acc.length), (26, lst 4 Trans.cs a.ed), (27, .int a.ed.length), (28, .int k)], [.cells 2 [[lst 2 State.cs g.st, lst 1 encL g.nx]], .cells 3 [[lst 1 enI a.ini, lst 1 enB a.acc, lst 4 Trans.cs a.ed]], .cells 1 ((buildG a.acc.length ((a.ed.take k).map fun e => (e.src.toNat, e))).map (ownG 4 Trans.cs))])) (fun k => k ≤ a.ed.length) (fun k => a.ed.length - k) 0 (by omega)
    ⟨[0, 1, 2], rfl, by decide, rfl, ⟨⟨rfl, rfl⟩, ⟨rfl, rfl⟩, ⟨rfl, rfl⟩, ⟨rfl, rfl⟩, ⟨rfl, rfl⟩, ⟨rfl, rfl⟩, ⟨rfl, rfl⟩, ⟨rfl, rfl⟩, trivial⟩, ⟨obj_box rfl rfl, obj_box rfl rfl, obj_flat (cells_congr (rowsG_nil _ _ _).symm) (flat_map fun _ => rfl), trivial⟩⟩ ?_
  intro k hk
  have hN2 : ((g.st.length * a.acc.length : Nat) : Int) = (g.st.length : Int) * a.acc.length := by simp
  repeat' (first | ((fail_if_success apply stopAt 6); (fail_if_success apply stopAtS 6); (fail_if_success apply stopAt 8); (fail_if_success apply stopAtS 8); apply AWP.go ok; rfl; conv => whnf) | (apply ord_mk; kernel_rfl; conv => whnf) | (apply And.intro; (first | omega | (unfold inI; omega) | (dsimp only; omega) | (unfold bitsOk; omega) | ((try dsimp only); simp only [List.length_map, List.length_take, List.length_append, List.length_replicate, List.length_cons, List.length_nil]; omega) | (simp only [btw_iff] at *; first | omega | (unfold inI; omega) | (unfold bitsOk; omega)) | exact stor_map (fun _ => rfl) | exact ⟨rfl, stor_cons rfl stor_nil⟩ | exact ⟨rfl, stor_map (fun _ => rfl) _⟩ | exact ⟨⟨rfl, by omega⟩, stor_map (fun _ => rfl) _⟩); conv => whnf) | (with_reducible apply get_mapN; omega; intro _; conv => whnf) | (with_reducible apply get_mapI; omega; intro _; conv => whnf) | (apply get_mapN; omega; intro _; conv => whnf) | (apply get_fill; omega; conv => whnf) | (apply ex_some; conv => whnf) | (apply get_map; omega; intro _; conv => whnf) | (apply vcG_dec <;> intro _ <;> conv => whnf) | (apply vcG_ndec <;> intro _ <;> conv => whnf) | (apply vcG_not <;> intro _ <;> conv => whnf) | (apply vcG_mk <;> intro _ <;> conv => whnf) | (apply vcIf_dec <;> intro _ <;> conv => whnf) | (apply vcIf_ndec <;> intro _ <;> conv => whnf) | (apply vcIf_not <;> intro _ <;> conv => whnf) | (apply vcIf_mk <;> intro _ <;> conv => whnf))
  · have hkl : k < a.ed.length := by assumption
    have he := a5 a.ed[k] (List.getElem_mem hkl)
    unfold edgeP at he
    have hlt : a.ed[k].src.toNat < (buildG a.acc.length ((a.ed.take k).map fun e => (e.src.toNat, e))).length := by rw [buildG_length]; omega
    have hmap : a.ed[k].src.toNat < ((buildG a.acc.length ((a.ed.take k).map fun e => (e.src.toNat, e))).map (ownG 4 Trans.cs)).length := by rw [List.length_map]; exact hlt
    have hrl := buildG_row_le hlt
    rw [List.length_map, List.length_take] at hrl
    refine AWP.reach (Gl.Reach.expose (e := ownG 4 Trans.cs (buildG a.acc.length ((a.ed.take k).map fun e => (e.src.toNat, e)))[a.ed[k].src.toNat]) 2 a.ed[k].src.toNat 0 rfl (by rw [List.getElem?_map, List.getElem?_eq_getElem hlt]; rfl) rfl (leaf_map (fun _ => rfl) _) rfl) ?_
    conv => whnf
    (apply AWP.go ok; rfl; conv => whnf)
    repeat' (first | (apply ord_mk; kernel_rfl; conv => whnf) | (apply And.intro; (first | omega | (unfold inI; omega) | (dsimp only; omega) | (unfold bitsOk; omega) | ((try dsimp only); simp only [List.length_map, List.length_take, List.length_append, List.length_replicate, List.length_cons, List.length_nil]; omega) | (simp only [btw_iff] at *; first | omega | (unfold inI; omega) | (unfold bitsOk; omega)) | exact stor_map (fun _ => rfl) | exact ⟨rfl, stor_cons rfl stor_nil⟩ | exact ⟨rfl, stor_map (fun _ => rfl) _⟩ | exact ⟨⟨rfl, by omega⟩, stor_map (fun _ => rfl) _⟩); conv => whnf) | (with_reducible apply get_mapN; omega; intro _; conv => whnf) | (with_reducible apply get_mapI; omega; intro _; conv => whnf) | (apply get_mapN; omega; intro _; conv => whnf) | (apply get_fill; omega; conv => whnf) | (apply ex_some; conv => whnf) | (apply get_map; omega; intro _; conv => whnf) | (apply vcG_dec <;> intro _ <;> conv => whnf) | (apply vcG_ndec <;> intro _ <;> conv => whnf) | (apply vcG_not <;> intro _ <;> conv => whnf) | (apply vcG_mk <;> intro _ <;> conv => whnf) | (apply vcIf_dec <;> intro _ <;> conv => whnf) | (apply vcIf_ndec <;> intro _ <;> conv => whnf) | (apply vcIf_not <;> intro _ <;> conv => whnf) | (apply vcIf_mk <;> intro _ <;> conv => whnf) | (apply get_set; exact Nat.add_zero _; exact hmap; conv => whnf))
    refine AWP.reach (Gl.Reach.absorb 2 6 a.ed[k].src.toNat 0 rfl (getset (Nat.add_zero _) (by rw [List.length_set]; exact hmap)) rfl rfl (by simp) rfl (flat_append (fun e he => (flat_map (fun _ => rfl)) e (List.mem_of_mem_take he)) (flat_cons rfl flat_nil)) rfl) ?_
    conv => whnf
    repeat' (first | ((fail_if_success apply stopAt 6); (fail_if_success apply stopAtS 6); (fail_if_success apply stopAt 8); (fail_if_success apply stopAtS 8); apply AWP.go ok; rfl; conv => whnf) | (apply ord_mk; kernel_rfl; conv => whnf) | (apply And.intro; (first | omega | (unfold inI; omega) | (dsimp only; omega) | (unfold bitsOk; omega) | ((try dsimp only); simp only [List.length_map, List.length_take, List.length_append, List.length_replicate, List.length_cons, List.length_nil]; omega) | (simp only [btw_iff] at *; first | omega | (unfold inI; omega) | (unfold bitsOk; omega)) | exact stor_map (fun _ => rfl) | exact ⟨rfl, stor_cons rfl stor_nil⟩ | exact ⟨rfl, stor_map (fun _ => rfl) _⟩ | exact ⟨⟨rfl, by omega⟩, stor_map (fun _ => rfl) _⟩); conv => whnf) | (with_reducible apply get_mapN; omega; intro _; conv => whnf) | (with_reducible apply get_mapI; omega; intro _; conv => whnf) | (apply get_mapN; omega; intro _; conv => whnf) | (apply get_fill; omega; conv => whnf) | (apply ex_some; conv => whnf) | (apply get_map; omega; intro _; conv => whnf) | (apply vcG_dec <;> intro _ <;> conv => whnf) | (apply vcG_ndec <;> intro _ <;> conv => whnf) | (apply vcG_not <;> intro _ <;> conv => whnf) | (apply vcG_mk <;> intro _ <;> conv => whnf) | (apply vcIf_dec <;> intro _ <;> conv => whnf) | (apply vcIf_ndec <;> intro _ <;> conv => whnf) | (apply vcIf_not <;> intro _ <;> conv => whnf) | (apply vcIf_mk <;> intro _ <;> conv => whnf))
    refine again (k + 1) [0, 1, 2] (by omega) (by omega)
      ⟨rfl, by decide, rfl, ⟨⟨rfl, rfl⟩, ⟨rfl, rfl⟩, ⟨rfl, rfl⟩, ⟨rfl, rfl⟩, ⟨rfl, rfl⟩, ⟨rfl, rfl⟩, ⟨rfl, rfl⟩, ⟨rfl, rfl⟩, trivial⟩, ⟨obj_box rfl rfl, obj_box rfl rfl, obj_flat (cells_congr ?_) (flat_map fun _ => rfl), trivial⟩⟩
    have e1 : ((a.ed.take (k + 1)).map fun e => (e.src.toNat, e)) = ((a.ed.take k).map fun e => (e.src.toNat, e)) ++ [(a.ed[k].src.toNat, a.ed[k])] := by
      rw [List.take_succ_eq_append_getElem hkl, List.map_append]; rfl
    rw [e1]
    exact rowsG_push hlt (Nat.add_zero _) (by simp) rfl
  obtain rfl : k = a.ed.length := by omega
  refine AWP.reach (SealL.reach (π := [0, 1]) (Bn := [2]) (env := [(1, lst 3 Tree.cs' l), (3, .ptr 0 none 0), (5, .ptr 1 none 0), (8, .int a.acc.length), (9, lst 1 encT (edRows a))]) (objs := [.cells 2 [[lst 2 State.cs g.st, lst 1 encL g.nx]], .cells 3 [[lst 1 enI a.ini, lst 1 enB a.acc, lst 4 Trans.cs a.ed]]]) ⟨rfl, rfl, by simp, rfl, by intro o ho; simp at ho; rcases ho with rfl | rfl <;> rfl, ⟨rfl, rfl, rfl, rfl, ?_, trivial⟩, rfl⟩) ?_
  · show bor _ _ _ (.sref 2 0 a.acc.length) = _
    rw [bor_full (w := 1) (es := (buildG a.acc.length ((a.ed.take a.ed.length).map fun e => (e.src.toNat, e))).map (ownG 4 Trans.cs)) rfl rfl rfl (by rw [List.length_map, buildG_length]), rowsG_unown (fun t => Trans.unown t), List.take_length]
    unfold lst edRows
    rw [buildG_length]; rfl
  conv => whnf
  repeat' (first | (apply AWP.go ok; rfl; conv => whnf) | (apply ord_mk; kernel_rfl; conv => whnf) | (apply And.intro; (first | omega | (unfold inI; omega) | (dsimp only; omega) | (unfold bitsOk; omega) | ((try dsimp only); simp only [List.length_map, List.length_take, List.length_append, List.length_replicate, List.length_cons, List.length_nil]; omega) | (simp only [btw_iff] at *; first | omega | (unfold inI; omega) | (unfold bitsOk; omega)) | exact stor_map (fun _ => rfl) | exact ⟨rfl, stor_cons rfl stor_nil⟩ | exact ⟨rfl, stor_map (fun _ => rfl) _⟩ | exact ⟨⟨rfl, by omega⟩, stor_map (fun _ => rfl) _⟩); conv => whnf) | (with_reducible apply get_mapN; omega; intro _; conv => whnf) | (with_reducible apply get_mapI; omega; intro _; conv => whnf) | (apply get_mapN; omega; intro _; conv => whnf) | (apply get_fill; omega; conv => whnf) | (apply ex_some; conv => whnf) | (apply get_map; omega; intro _; conv => whnf) | (apply vcG_dec <;> intro _ <;> conv => whnf) | (apply vcG_ndec <;> intro _ <;> conv => whnf) | (apply vcG_not <;> intro _ <;> conv => whnf) | (apply vcG_mk <;> intro _ <;> conv => whnf) | (apply vcIf_dec <;> intro _ <;> conv => whnf) | (apply vcIf_ndec <;> intro _ <;> conv => whnf) | (apply vcIf_not <;> intro _ <;> conv => whnf) | (apply vcIf_mk <;> intro _ <;> conv => whnf) | (apply call_data (label_ok g hvals g2 l hl); rfl; rfl; conv => whnf))
  refine AWP.reach (Gl.Reach.weaken (es' := List.replicate (g.st.length * a.acc.length) [.own 1 []]) 2 rfl (by rw [List.length_replicate, List.length_replicate]; rfl) rows_weaken rfl) ?_
  conv => whnf
  have hls : (g.st.map (letterZ l)).length = g.st.length := by simp
  have hlr : ∀ x ∈ g.st.map (letterZ l), 0 ≤ x ∧ x ≤ 7 := fun x hx => by
    obtain ⟨s, _, rfl⟩ := List.mem_map.1 hx
    exact letter_range hl s
  rw [← build_pS2 g _ a ⟨⟨a1, a2⟩, a3, a4, a5⟩]
  have hpl2 := pS2_len g ⟨⟨g1, g2⟩, g3, g4⟩ (g.st.map (letterZ l)) a ⟨⟨a1, a2⟩, a3, a4, a5⟩
  generalize hlsd : g.st.map (letterZ l) = ls at hls hlr hpl hpl2
  have hrow : ∀ i (hi : i < g.nx.length), ∀ x ∈ g.nx[i], 0 ≤ x ∧ x ≤ g.st.length - 1 := fun i hi x hx => by
    obtain ⟨j, hj, rfl⟩ := List.mem_iff_getElem.1 hx
    exact ((g4 i hi hi (by omega)).2.2.2 j hj hj).1
  have hlen : ∀ i (hi : i < g.nx.length), g.nx[i].length ≤ 60 := fun i hi => by
    have := (g4 i hi hi (by omega)).2.1; omega
  have hel : (edRows a).length = a.acc.length := buildG_length _ _
  have hed : ∀ q (hq : q < (edRows a).length), ∀ e ∈ (edRows a)[q], e ∈ a.ed := fun q hq e he => by
    rw [← getD_at (d := []) hq, edRows_get (by omega)] at he; exact (List.mem_filter.1 he).1
  have hedl : ∀ q (hq : q < (edRows a).length), (edRows a)[q].length ≤ 2048 := fun q hq => by
    rw [← getD_at (d := []) hq, edRows_get (by omega)]; exact Nat.le_trans (List.length_filter_le _ _) a3
  refine loopA (fun x : Nat × List (Nat × Int) => ([(3, .ptr 0 none 0), (5, .ptr 1 none 0), (8, .int a.acc.length), (9, lst 1 encT (edRows a)), (12, .sref 2 0 (g.st.length * a.acc.length)), (53, ints ls), (54, .int ls.length), (55, .int x.1)], [.cells 2 [[lst 2 State.cs g.st, lst 1 encL g.nx]], .cells 3 [[lst 1 enI a.ini, lst 1 enB a.acc, lst 4 Trans.cs a.ed]], .cells 1 ((build (g.st.length * a.acc.length) x.2).map ownRow)])) (fun x => x.1 ≤ ls.length ∧ x.2 ++ ((List.range g.st.length).drop x.1).flatMap (pI2 a.acc.length g.nx (edRows a) ls) = pS2 g ls a) (fun x => ls.length - x.1) (0, []) ⟨by omega, rfl⟩
    ⟨[0, 1, 2], rfl, by decide, rfl, ⟨⟨rfl, by first | rfl | (rw [← hlsd]; rfl)⟩, ⟨rfl, by first | rfl | (rw [← hlsd]; rfl)⟩, ⟨rfl, by first | rfl | (rw [← hlsd]; rfl)⟩, ⟨rfl, by first | rfl | (rw [← hlsd]; rfl)⟩, ⟨rfl, by first | rfl | (rw [← hlsd]; rfl)⟩, ⟨rfl, by first | rfl | (rw [← hlsd]; rfl)⟩, ⟨rfl, by first | rfl | (rw [← hlsd]; rfl)⟩, ⟨rfl, by first | rfl | (rw [← hlsd]; rfl)⟩, trivial⟩, ⟨obj_box rfl rfl, obj_box rfl rfl, obj_flat (cells_congr (rows_nil _).symm) (flat_map fun _ => rfl), trivial⟩⟩ ?_
  rintro ⟨i, ps⟩ ⟨hi1, hi2⟩
  dsimp only at hi1 hi2 ⊢
  repeat' (first | (apply AWP.go ok; rfl; conv => whnf) | (apply ord_mk; kernel_rfl; conv => whnf) | (apply And.intro; (first | omega | (unfold inI; omega) | (dsimp only; omega) | (unfold bitsOk; omega) | ((try dsimp only); simp only [List.length_map, List.length_take, List.length_append, List.length_replicate, List.length_cons, List.length_nil]; omega) | (simp only [btw_iff] at *; first | omega | (unfold inI; omega) | (unfold bitsOk; omega)) | exact stor_map (fun _ => rfl) | exact ⟨rfl, stor_cons rfl stor_nil⟩ | exact ⟨rfl, stor_map (fun _ => rfl) _⟩ | exact ⟨⟨rfl, by omega⟩, stor_map (fun _ => rfl) _⟩); conv => whnf) | (with_reducible apply get_mapN; omega; intro _; conv => whnf) | (with_reducible apply get_mapI; omega; intro _; conv => whnf) | (apply get_mapN; omega; intro _; conv => whnf) | (apply get_fill; omega; conv => whnf) | (apply ex_some; conv => whnf) | (apply get_map; omega; intro _; conv => whnf) | (apply vcG_dec <;> intro _ <;> conv => whnf) | (apply vcG_ndec <;> intro _ <;> conv => whnf) | (apply vcG_not <;> intro _ <;> conv => whnf) | (apply vcG_mk <;> intro _ <;> conv => whnf) | (apply vcIf_dec <;> intro _ <;> conv => whnf) | (apply vcIf_ndec <;> intro _ <;> conv => whnf) | (apply vcIf_not <;> intro _ <;> conv => whnf) | (apply vcIf_mk <;> intro _ <;> conv => whnf))
  · have hig : i < g.st.length := by omega
    rw [drop_flat _ _ _ (by simpa using hig), List.getElem_range] at hi2
    have hin : i < g.nx.length := by omega
    have hrow := hrow i hin
    have hlen := hlen i hin
    have hil : i < ls.length := by omega
    have hli := hlr ls[i] (List.getElem_mem _)
    have hpI : pI2 a.acc.length g.nx (edRows a) ls i = (List.range a.acc.length).flatMap (pQ a.acc.length g.nx[i] (edRows a) i ls[i]) := by
      unfold pI2
      rw [getD_at (l := g.nx) hin, getD_at (l := ls) hil]
    rw [hpI] at hi2
    have hm1 := mul_bound (a := (i : Int)) (b := (a.acc.length : Int)) (A := 60) (B := 64) (by omega) (by omega) (by omega) (by omega)
    refine loopA (fun x : Nat × List (Nat × Int) => ([(3, .ptr 0 none 0), (5, .ptr 1 none 0), (8, .int a.acc.length), (9, lst 1 encT (edRows a)), (12, .sref 2 0 (g.st.length * a.acc.length)), (53, ints ls), (54, .int ls.length), (55, .int i), (13, .int i), (14, .int ls[i]), (60, .int a.acc.length), (61, .int x.1)], [.cells 2 [[lst 2 State.cs g.st, lst 1 encL g.nx]], .cells 3 [[lst 1 enI a.ini, lst 1 enB a.acc, lst 4 Trans.cs a.ed]], .cells 1 ((build (g.st.length * a.acc.length) x.2).map ownRow)])) (fun x => x.1 ≤ a.acc.length ∧ x.2 ++ (((List.range a.acc.length).drop x.1).flatMap (pQ a.acc.length g.nx[i] (edRows a) i ls[i]) ++ ((List.range g.st.length).drop (i + 1)).flatMap (pI2 a.acc.length g.nx (edRows a) ls)) = pS2 g ls a) (fun x => a.acc.length - x.1) (0, ps) ⟨by omega, hi2⟩
      ⟨[0, 1, 2], rfl, by decide, rfl, ⟨⟨rfl, rfl⟩, ⟨rfl, rfl⟩, ⟨rfl, rfl⟩, ⟨rfl, rfl⟩, ⟨rfl, rfl⟩, ⟨rfl, rfl⟩, ⟨rfl, rfl⟩, ⟨rfl, rfl⟩, ⟨rfl, rfl⟩, ⟨rfl, rfl⟩, ⟨rfl, rfl⟩, ⟨rfl, rfl⟩, trivial⟩, ⟨obj_box rfl rfl, obj_box rfl rfl, obj_flat rfl (flat_map fun _ => rfl), trivial⟩⟩ ?_
    rintro ⟨q, ps⟩ ⟨hq1, hq2⟩
    dsimp only at hq1 hq2 ⊢
    repeat' (first | (apply AWP.go ok; rfl; conv => whnf) | (apply ord_mk; kernel_rfl; conv => whnf) | (apply And.intro; (first | omega | (unfold inI; omega) | (dsimp only; omega) | (unfold bitsOk; omega) | ((try dsimp only); simp only [List.length_map, List.length_take, List.length_append, List.length_replicate, List.length_cons, List.length_nil]; omega) | (simp only [btw_iff] at *; first | omega | (unfold inI; omega) | (unfold bitsOk; omega)) | exact stor_map (fun _ => rfl) | exact ⟨rfl, stor_cons rfl stor_nil⟩ | exact ⟨rfl, stor_map (fun _ => rfl) _⟩ | exact ⟨⟨rfl, by omega⟩, stor_map (fun _ => rfl) _⟩); conv => whnf) | (with_reducible apply get_mapN; omega; intro _; conv => whnf) | (with_reducible apply get_mapI; omega; intro _; conv => whnf) | (apply get_mapN; omega; intro _; conv => whnf) | (apply get_fill; omega; conv => whnf) | (apply ex_some; conv => whnf) | (apply get_map; omega; intro _; conv => whnf) | (apply vcG_dec <;> intro _ <;> conv => whnf) | (apply vcG_ndec <;> intro _ <;> conv => whnf) | (apply vcG_not <;> intro _ <;> conv => whnf) | (apply vcG_mk <;> intro _ <;> conv => whnf) | (apply vcIf_dec <;> intro _ <;> conv => whnf) | (apply vcIf_ndec <;> intro _ <;> conv => whnf) | (apply vcIf_not <;> intro _ <;> conv => whnf) | (apply vcIf_mk <;> intro _ <;> conv => whnf))
    · have hqn : q < a.acc.length := by omega
      rw [drop_flat _ _ _ (by simpa using hqn), List.getElem_range, List.append_assoc] at hq2
      have hqe : q < (edRows a).length := by omega
      have hpQ : pQ a.acc.length g.nx[i] (edRows a) i ls[i] q = g.nx[i].flatMap (pTo a.acc.length (edRows a)[q] i q ls[i]) := by
        unfold pQ; rw [getD_at hqe]
      rw [hpQ] at hq2
      have hedl := hedl q hqe
      have hlt : i * a.acc.length + q < g.st.length * a.acc.length := by
        have h1 : (i + 1) * a.acc.length ≤ g.st.length * a.acc.length := Nat.mul_le_mul_right _ hig
        rw [Nat.add_mul, Nat.one_mul] at h1
        omega
      refine loopA (fun x : Nat × List (Nat × Int) => ([(3, .ptr 0 none 0), (5, .ptr 1 none 0), (8, .int a.acc.length), (9, lst 1 encT (edRows a)), (12, .sref 2 0 (g.st.length * a.acc.length)), (53, ints ls), (54, .int ls.length), (55, .int i), (13, .int i), (14, .int ls[i]), (60, .int a.acc.length), (61, .int q), (15, .int q), (68, ints g.nx[i]), (69, .int g.nx[i].length), (70, .int x.1)], [.cells 2 [[lst 2 State.cs g.st, lst 1 encL g.nx]], .cells 3 [[lst 1 enI a.ini, lst 1 enB a.acc, lst 4 Trans.cs a.ed]], .cells 1 ((build (g.st.length * a.acc.length) x.2).map ownRow)])) (fun x => x.1 ≤ g.nx[i].length ∧ x.2 ++ ((g.nx[i].drop x.1).flatMap (pTo a.acc.length (edRows a)[q] i q ls[i]) ++ (((List.range a.acc.length).drop (q + 1)).flatMap (pQ a.acc.length g.nx[i] (edRows a) i ls[i]) ++ ((List.range g.st.length).drop (i + 1)).flatMap (pI2 a.acc.length g.nx (edRows a) ls))) = pS2 g ls a) (fun x => g.nx[i].length - x.1) (0, ps) ⟨by omega, hq2⟩
        ⟨[0, 1, 2], rfl, by decide, rfl, ⟨⟨rfl, rfl⟩, ⟨rfl, rfl⟩, ⟨rfl, rfl⟩, ⟨rfl, rfl⟩, ⟨rfl, rfl⟩, ⟨rfl, rfl⟩, ⟨rfl, rfl⟩, ⟨rfl, rfl⟩, ⟨rfl, rfl⟩, ⟨rfl, rfl⟩, ⟨rfl, rfl⟩, ⟨rfl, rfl⟩, ⟨rfl, rfl⟩, ⟨rfl, rfl⟩, ⟨rfl, rfl⟩, ⟨rfl, rfl⟩, trivial⟩, ⟨obj_box rfl rfl, obj_box rfl rfl, obj_flat rfl (flat_map fun _ => rfl), trivial⟩⟩ ?_
      rintro ⟨j, ps⟩ ⟨hj1, hj2⟩
      dsimp only at hj1 hj2 ⊢
      repeat' (first | (apply AWP.go ok; rfl; conv => whnf) | (apply ord_mk; kernel_rfl; conv => whnf) | (apply And.intro; (first | omega | (unfold inI; omega) | (dsimp only; omega) | (unfold bitsOk; omega) | ((try dsimp only); simp only [List.length_map, List.length_take, List.length_append, List.length_replicate, List.length_cons, List.length_nil]; omega) | (simp only [btw_iff] at *; first | omega | (unfold inI; omega) | (unfold bitsOk; omega)) | exact stor_map (fun _ => rfl) | exact ⟨rfl, stor_cons rfl stor_nil⟩ | exact ⟨rfl, stor_map (fun _ => rfl) _⟩ | exact ⟨⟨rfl, by omega⟩, stor_map (fun _ => rfl) _⟩); conv => whnf) | (with_reducible apply get_mapN; omega; intro _; conv => whnf) | (with_reducible apply get_mapI; omega; intro _; conv => whnf) | (apply get_mapN; omega; intro _; conv => whnf) | (apply get_fill; omega; conv => whnf) | (apply ex_some; conv => whnf) | (apply get_map; omega; intro _; conv => whnf) | (apply vcG_dec <;> intro _ <;> conv => whnf) | (apply vcG_ndec <;> intro _ <;> conv => whnf) | (apply vcG_not <;> intro _ <;> conv => whnf) | (apply vcG_mk <;> intro _ <;> conv => whnf) | (apply vcIf_dec <;> intro _ <;> conv => whnf) | (apply vcIf_ndec <;> intro _ <;> conv => whnf) | (apply vcIf_not <;> intro _ <;> conv => whnf) | (apply vcIf_mk <;> intro _ <;> conv => whnf))
      · have hjn : j < g.nx[i].length := by omega
        rw [drop_flat _ _ _ hjn, List.append_assoc] at hj2
        have hto := hrow g.nx[i][j] (List.getElem_mem _)
        have hm2 := mul_bound (a := g.nx[i][j]) (b := (a.acc.length : Int)) (A := 60) (B := 64) (by omega) (by omega) (by omega) (by omega)
        refine loopA (fun x : Nat × List (Nat × Int) => ([(3, .ptr 0 none 0), (5, .ptr 1 none 0), (8, .int a.acc.length), (9, lst 1 encT (edRows a)), (12, .sref 2 0 (g.st.length * a.acc.length)), (53, ints ls), (54, .int ls.length), (55, .int i), (13, .int i), (14, .int ls[i]), (60, .int a.acc.length), (61, .int q), (15, .int q), (68, ints g.nx[i]), (69, .int g.nx[i].length), (70, .int j), (17, .int g.nx[i][j]), (77, lst 4 Trans.cs (edRows a)[q]), (78, .int (edRows a)[q].length), (79, .int x.1)], [.cells 2 [[lst 2 State.cs g.st, lst 1 encL g.nx]], .cells 3 [[lst 1 enI a.ini, lst 1 enB a.acc, lst 4 Trans.cs a.ed]], .cells 1 ((build (g.st.length * a.acc.length) x.2).map ownRow)])) (fun x => x.1 ≤ (edRows a)[q].length ∧ x.2 ++ (((edRows a)[q].drop x.1).flatMap (pE2 a.acc.length i q ls[i] g.nx[i][j]) ++ ((g.nx[i].drop (j + 1)).flatMap (pTo a.acc.length (edRows a)[q] i q ls[i]) ++ (((List.range a.acc.length).drop (q + 1)).flatMap (pQ a.acc.length g.nx[i] (edRows a) i ls[i]) ++ ((List.range g.st.length).drop (i + 1)).flatMap (pI2 a.acc.length g.nx (edRows a) ls)))) = pS2 g ls a) (fun x => (edRows a)[q].length - x.1) (0, ps) ⟨by omega, hj2⟩
          ⟨[0, 1, 2], rfl, by decide, rfl, ⟨⟨rfl, rfl⟩, ⟨rfl, rfl⟩, ⟨rfl, rfl⟩, ⟨rfl, rfl⟩, ⟨rfl, rfl⟩, ⟨rfl, rfl⟩, ⟨rfl, rfl⟩, ⟨rfl, rfl⟩, ⟨rfl, rfl⟩, ⟨rfl, rfl⟩, ⟨rfl, rfl⟩, ⟨rfl, rfl⟩, ⟨rfl, rfl⟩, ⟨rfl, rfl⟩, ⟨rfl, rfl⟩, ⟨rfl, rfl⟩, ⟨rfl, rfl⟩, ⟨rfl, rfl⟩, ⟨rfl, rfl⟩, ⟨rfl, rfl⟩, trivial⟩, ⟨obj_box rfl rfl, obj_box rfl rfl, obj_flat rfl (flat_map fun _ => rfl), trivial⟩⟩ ?_
        rintro ⟨k, ps⟩ ⟨hk1, hk2⟩
        dsimp only at hk1 hk2 ⊢
        by_cases hke : k < (edRows a)[q].length
        · have he := a5 (edRows a)[q][k] (hed q hqe _ (List.getElem_mem hke))
          unfold edgeP at he
          have hlt' : i * a.acc.length + q < (build (g.st.length * a.acc.length) ps).length := by rw [build_length]; exact hlt
          have hmap : i * a.acc.length + q < ((build (g.st.length * a.acc.length) ps).map ownRow).length := by rw [List.length_map]; exact hlt'
          have hrl : (build (g.st.length * a.acc.length) ps)[i * a.acc.length + q].length ≤ 1000000000 := by
            have h1 := build_row_le (N := g.st.length * a.acc.length) (ps := ps) hlt'
            have h2 := congrArg List.length hk2
            rw [List.length_append] at h2
            omega
          have hix : ((i : Int) * a.acc.length + q).toNat = i * a.acc.length + q := by
            have e : ((i * a.acc.length : Nat) : Int) = (i : Int) * a.acc.length := by simp
            omega
          have hlt2 : ((i : Int) * a.acc.length + q).toNat < g.st.length * a.acc.length := by rw [hix]; exact hlt
          rw [drop_flat _ _ _ hke] at hk2
          repeat' (first | ((fail_if_success apply stopAt 22); (fail_if_success apply stopAtS 22); apply AWP.go ok; rfl; conv => whnf) | (apply ord_mk; kernel_rfl; conv => whnf) | (apply And.intro; (first | omega | (unfold inI; omega) | (dsimp only; omega) | (unfold bitsOk; omega) | ((try dsimp only); simp only [List.length_map, List.length_take, List.length_append, List.length_replicate, List.length_cons, List.length_nil]; omega) | (simp only [btw_iff] at *; first | omega | (unfold inI; omega) | (unfold bitsOk; omega)) | exact stor_map (fun _ => rfl) | exact ⟨rfl, stor_cons rfl stor_nil⟩ | exact ⟨rfl, stor_map (fun _ => rfl) _⟩ | exact ⟨⟨rfl, by omega⟩, stor_map (fun _ => rfl) _⟩); conv => whnf) | (with_reducible apply get_mapN; omega; intro _; conv => whnf) | (with_reducible apply get_mapI; omega; intro _; conv => whnf) | (apply get_mapN; omega; intro _; conv => whnf) | (apply get_fill; omega; conv => whnf) | (apply ex_some; conv => whnf) | (apply get_map; omega; intro _; conv => whnf) | (apply vcG_dec <;> intro _ <;> conv => whnf) | (apply vcG_ndec <;> intro _ <;> conv => whnf) | (apply vcG_not <;> intro _ <;> conv => whnf) | (apply vcG_mk <;> intro _ <;> conv => whnf) | (apply vcIf_dec <;> intro _ <;> conv => whnf) | (apply vcIf_ndec <;> intro _ <;> conv => whnf) | (apply vcIf_not <;> intro _ <;> conv => whnf) | (apply vcIf_mk <;> intro _ <;> conv => whnf) | (apply call_data (takes_ok (edRows a)[q][k] ls[i] hli.1 hli.2 he.2.2.1); rfl; rfl; conv => whnf))
          · have hon : ((ls[i].toNat &&& (edRows a)[q][k].care.toNat : Nat) : Int) = (edRows a)[q][k].val := by assumption
            refine AWP.reach (Gl.Reach.expose (e := ownRow (build (g.st.length * a.acc.length) ps)[i * a.acc.length + q]) 2 (i * a.acc.length + q) 0 rfl (by rw [List.getElem?_map, List.getElem?_eq_getElem hlt']; rfl) rfl (leaf_map (fun _ => rfl) _) rfl) ?_
            conv => whnf
            (apply AWP.go ok; rfl; conv => whnf)
            repeat' (first | (apply ord_mk; kernel_rfl; conv => whnf) | (apply And.intro; (first | omega | (unfold inI; omega) | (dsimp only; omega) | (unfold bitsOk; omega) | ((try dsimp only); simp only [List.length_map, List.length_take, List.length_append, List.length_replicate, List.length_cons, List.length_nil]; omega) | (simp only [btw_iff] at *; first | omega | (unfold inI; omega) | (unfold bitsOk; omega)) | exact stor_map (fun _ => rfl) | exact ⟨rfl, stor_cons rfl stor_nil⟩ | exact ⟨rfl, stor_map (fun _ => rfl) _⟩ | exact ⟨⟨rfl, by omega⟩, stor_map (fun _ => rfl) _⟩); conv => whnf) | (with_reducible apply get_mapN; omega; intro _; conv => whnf) | (with_reducible apply get_mapI; omega; intro _; conv => whnf) | (apply get_mapN; omega; intro _; conv => whnf) | (apply get_fill; omega; conv => whnf) | (apply ex_some; conv => whnf) | (apply get_map; omega; intro _; conv => whnf) | (apply vcG_dec <;> intro _ <;> conv => whnf) | (apply vcG_ndec <;> intro _ <;> conv => whnf) | (apply vcG_not <;> intro _ <;> conv => whnf) | (apply vcG_mk <;> intro _ <;> conv => whnf) | (apply vcIf_dec <;> intro _ <;> conv => whnf) | (apply vcIf_ndec <;> intro _ <;> conv => whnf) | (apply vcIf_not <;> intro _ <;> conv => whnf) | (apply vcIf_mk <;> intro _ <;> conv => whnf) | (apply get_set; exact hix; exact hmap; conv => whnf))
            refine AWP.reach (Gl.Reach.absorb 2 6 (i * a.acc.length + q) 0 rfl (getset hix (by rw [List.length_set]; exact hmap)) rfl rfl (by simp) rfl (flat_append (fun e he => (flat_map (fun _ => rfl)) e (List.mem_of_mem_take he)) (flat_cons rfl flat_nil)) rfl) ?_
            conv => whnf
            repeat' (first | (apply AWP.go ok; rfl; conv => whnf) | (apply ord_mk; kernel_rfl; conv => whnf) | (apply And.intro; (first | omega | (unfold inI; omega) | (dsimp only; omega) | (unfold bitsOk; omega) | ((try dsimp only); simp only [List.length_map, List.length_take, List.length_append, List.length_replicate, List.length_cons, List.length_nil]; omega) | (simp only [btw_iff] at *; first | omega | (unfold inI; omega) | (unfold bitsOk; omega)) | exact stor_map (fun _ => rfl) | exact ⟨rfl, stor_cons rfl stor_nil⟩ | exact ⟨rfl, stor_map (fun _ => rfl) _⟩ | exact ⟨⟨rfl, by omega⟩, stor_map (fun _ => rfl) _⟩); conv => whnf) | (with_reducible apply get_mapN; omega; intro _; conv => whnf) | (with_reducible apply get_mapI; omega; intro _; conv => whnf) | (apply get_mapN; omega; intro _; conv => whnf) | (apply get_fill; omega; conv => whnf) | (apply ex_some; conv => whnf) | (apply get_map; omega; intro _; conv => whnf) | (apply vcG_dec <;> intro _ <;> conv => whnf) | (apply vcG_ndec <;> intro _ <;> conv => whnf) | (apply vcG_not <;> intro _ <;> conv => whnf) | (apply vcG_mk <;> intro _ <;> conv => whnf) | (apply vcIf_dec <;> intro _ <;> conv => whnf) | (apply vcIf_ndec <;> intro _ <;> conv => whnf) | (apply vcIf_not <;> intro _ <;> conv => whnf) | (apply vcIf_mk <;> intro _ <;> conv => whnf))
            have hpe : pE2 a.acc.length i q ls[i] g.nx[i][j] (edRows a)[q][k] = [(i * a.acc.length + q, g.nx[i][j] * a.acc.length + (edRows a)[q][k].dst)] := by
              unfold pE2 onB; rw [if_pos (decide_eq_true hon)]
            rw [hpe, List.append_assoc, ← List.append_assoc] at hk2
            exact again (k + 1, ps ++ [(i * a.acc.length + q, g.nx[i][j] * a.acc.length + (edRows a)[q][k].dst)]) [0, 1, 2] ⟨by dsimp only; omega, hk2⟩ (by dsimp only; omega) ⟨rfl, by decide, rfl, ⟨⟨rfl, rfl⟩, ⟨rfl, rfl⟩, ⟨rfl, rfl⟩, ⟨rfl, rfl⟩, ⟨rfl, rfl⟩, ⟨rfl, rfl⟩, ⟨rfl, rfl⟩, ⟨rfl, rfl⟩, ⟨rfl, rfl⟩, ⟨rfl, rfl⟩, ⟨rfl, rfl⟩, ⟨rfl, rfl⟩, ⟨rfl, rfl⟩, ⟨rfl, rfl⟩, ⟨rfl, rfl⟩, ⟨rfl, rfl⟩, ⟨rfl, rfl⟩, ⟨rfl, rfl⟩, ⟨rfl, rfl⟩, ⟨rfl, rfl⟩, trivial⟩, ⟨obj_box rfl rfl, obj_box rfl rfl, obj_flat (cells_congr (rows_push' hlt' hix (by simp))) (flat_map fun _ => rfl), trivial⟩⟩
          · have hon : ¬ ((ls[i].toNat &&& (edRows a)[q][k].care.toNat : Nat) : Int) = (edRows a)[q][k].val := by assumption
            have hpe : pE2 a.acc.length i q ls[i] g.nx[i][j] (edRows a)[q][k] = [] := by
              unfold pE2 onB; rw [if_neg (by simpa using hon)]
            rw [hpe, List.nil_append] at hk2
            exact again (k + 1, ps) [0, 1, 2] ⟨by dsimp only; omega, hk2⟩ (by dsimp only; omega) ⟨rfl, by decide, rfl, ⟨⟨rfl, rfl⟩, ⟨rfl, rfl⟩, ⟨rfl, rfl⟩, ⟨rfl, rfl⟩, ⟨rfl, rfl⟩, ⟨rfl, rfl⟩, ⟨rfl, rfl⟩, ⟨rfl, rfl⟩, ⟨rfl, rfl⟩, ⟨rfl, rfl⟩, ⟨rfl, rfl⟩, ⟨rfl, rfl⟩, ⟨rfl, rfl⟩, ⟨rfl, rfl⟩, ⟨rfl, rfl⟩, ⟨rfl, rfl⟩, ⟨rfl, rfl⟩, ⟨rfl, rfl⟩, ⟨rfl, rfl⟩, ⟨rfl, rfl⟩, trivial⟩, ⟨obj_box rfl rfl, obj_box rfl rfl, obj_flat rfl (flat_map fun _ => rfl), trivial⟩⟩
          · omega
        · repeat' (first | ((fail_if_success apply stopAt 22); (fail_if_success apply stopAtS 22); apply AWP.go ok; rfl; conv => whnf) | (apply ord_mk; kernel_rfl; conv => whnf) | (apply And.intro; (first | omega | (unfold inI; omega) | (dsimp only; omega) | (unfold bitsOk; omega) | ((try dsimp only); simp only [List.length_map, List.length_take, List.length_append, List.length_replicate, List.length_cons, List.length_nil]; omega) | (simp only [btw_iff] at *; first | omega | (unfold inI; omega) | (unfold bitsOk; omega)) | exact stor_map (fun _ => rfl) | exact ⟨rfl, stor_cons rfl stor_nil⟩ | exact ⟨rfl, stor_map (fun _ => rfl) _⟩ | exact ⟨⟨rfl, by omega⟩, stor_map (fun _ => rfl) _⟩); conv => whnf) | (with_reducible apply get_mapN; omega; intro _; conv => whnf) | (with_reducible apply get_mapI; omega; intro _; conv => whnf) | (apply get_mapN; omega; intro _; conv => whnf) | (apply get_fill; omega; conv => whnf) | (apply ex_some; conv => whnf) | (apply get_map; omega; intro _; conv => whnf) | (apply vcG_dec <;> intro _ <;> conv => whnf) | (apply vcG_ndec <;> intro _ <;> conv => whnf) | (apply vcG_not <;> intro _ <;> conv => whnf) | (apply vcG_mk <;> intro _ <;> conv => whnf) | (apply vcIf_dec <;> intro _ <;> conv => whnf) | (apply vcIf_ndec <;> intro _ <;> conv => whnf) | (apply vcIf_not <;> intro _ <;> conv => whnf) | (apply vcIf_mk <;> intro _ <;> conv => whnf))
          · omega
          · rw [drop_flat_end _ _ _ (by omega), List.nil_append] at hk2
            exact again (j + 1, ps) [0, 1, 2] ⟨by dsimp only; omega, hk2⟩ (by dsimp only; omega) ⟨rfl, by decide, rfl, ⟨⟨rfl, rfl⟩, ⟨rfl, rfl⟩, ⟨rfl, rfl⟩, ⟨rfl, rfl⟩, ⟨rfl, rfl⟩, ⟨rfl, rfl⟩, ⟨rfl, rfl⟩, ⟨rfl, rfl⟩, ⟨rfl, rfl⟩, ⟨rfl, rfl⟩, ⟨rfl, rfl⟩, ⟨rfl, rfl⟩, ⟨rfl, rfl⟩, ⟨rfl, rfl⟩, ⟨rfl, rfl⟩, ⟨rfl, rfl⟩, trivial⟩, ⟨obj_box rfl rfl, obj_box rfl rfl, obj_flat rfl (flat_map fun _ => rfl), trivial⟩⟩
      · rw [drop_flat_end _ _ _ (by omega), List.nil_append] at hj2
        exact again (q + 1, ps) [0, 1, 2] ⟨by dsimp only; omega, hj2⟩ (by dsimp only; omega) ⟨rfl, by decide, rfl, ⟨⟨rfl, rfl⟩, ⟨rfl, rfl⟩, ⟨rfl, rfl⟩, ⟨rfl, rfl⟩, ⟨rfl, rfl⟩, ⟨rfl, rfl⟩, ⟨rfl, rfl⟩, ⟨rfl, rfl⟩, ⟨rfl, rfl⟩, ⟨rfl, rfl⟩, ⟨rfl, rfl⟩, ⟨rfl, rfl⟩, trivial⟩, ⟨obj_box rfl rfl, obj_box rfl rfl, obj_flat rfl (flat_map fun _ => rfl), trivial⟩⟩
    · rw [drop_flat_end _ _ _ (by simp; omega), List.nil_append] at hq2
      exact again (i + 1, ps) [0, 1, 2] ⟨by dsimp only; omega, hq2⟩ (by dsimp only; omega) ⟨rfl, by decide, rfl, ⟨⟨rfl, rfl⟩, ⟨rfl, rfl⟩, ⟨rfl, rfl⟩, ⟨rfl, rfl⟩, ⟨rfl, rfl⟩, ⟨rfl, rfl⟩, ⟨rfl, rfl⟩, ⟨rfl, rfl⟩, trivial⟩, ⟨obj_box rfl rfl, obj_box rfl rfl, obj_flat rfl (flat_map fun _ => rfl), trivial⟩⟩
  · rw [drop_flat_end _ _ _ (by simp; omega), List.append_nil] at hi2
    subst hi2
    repeat' (first | (apply AWP.go ok; rfl; conv => whnf) | (apply ord_mk; kernel_rfl; conv => whnf) | (apply And.intro; (first | omega | (unfold inI; omega) | (dsimp only; omega) | (unfold bitsOk; omega) | ((try dsimp only); simp only [List.length_map, List.length_take, List.length_append, List.length_replicate, List.length_cons, List.length_nil]; omega) | (simp only [btw_iff] at *; first | omega | (unfold inI; omega) | (unfold bitsOk; omega)) | exact stor_map (fun _ => rfl) | exact ⟨rfl, stor_cons rfl stor_nil⟩ | exact ⟨rfl, stor_map (fun _ => rfl) _⟩ | exact ⟨⟨rfl, by omega⟩, stor_map (fun _ => rfl) _⟩); conv => whnf) | (with_reducible apply get_mapN; omega; intro _; conv => whnf) | (with_reducible apply get_mapI; omega; intro _; conv => whnf) | (apply get_mapN; omega; intro _; conv => whnf) | (apply get_fill; omega; conv => whnf) | (apply ex_some; conv => whnf) | (apply get_map; omega; intro _; conv => whnf) | (apply vcG_dec <;> intro _ <;> conv => whnf) | (apply vcG_ndec <;> intro _ <;> conv => whnf) | (apply vcG_not <;> intro _ <;> conv => whnf) | (apply vcG_mk <;> intro _ <;> conv => whnf) | (apply vcIf_dec <;> intro _ <;> conv => whnf) | (apply vcIf_ndec <;> intro _ <;> conv => whnf) | (apply vcIf_not <;> intro _ <;> conv => whnf) | (apply vcIf_mk <;> intro _ <;> conv => whnf) | (apply call_data (implClone_ok a.ini (by omega)); rfl; rfl; conv => whnf))
    exact ret_objs [2] (by decide) rfl rfl rfl ⟨obj_flat rfl (flat_map fun _ => rfl), trivial⟩
end Go.Proofs.YtcmihlbihppflaaGreat

