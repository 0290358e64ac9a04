/- A part of the proofs over this program: T47, T48. -/
import Derived.Test.YtcmihlbihppflaaGreatG0
import Derived.Test.YtcmihlbihppflaaGreatG1
import Derived.Test.YtcmihlbihppflaaGreatG2
import Derived.Test.YtcmihlbihppflaaGreatP0
import Derived.Test.YtcmihlbihppflaaGreatP1
import Derived.Test.YtcmihlbihppflaaGreatP2
import Derived.Test.YtcmihlbihppflaaGreatP3
import Derived.Test.YtcmihlbihppflaaGreatP6
set_option linter.all false
namespace Go.Proofs.YtcmihlbihppflaaGreat
open Go.Gl
attribute [local irreducible] vcCall AWP RetOk Again ordOk

def bisN (g : Graph) (b : List Int) : Nat → List Int
  | 0 => b
  | k + 1 => refL g (bisN g b k)
def bis0 (g : Graph) (l : List Tree) : List Int := (numF (sameL (g.st.map (letterZ l))) g.st.length).1
def bisF (g : Graph) (l : List Tree) : List Int := bisN g (bis0 g l) g.st.length
theorem bisN_len (g : Graph) (b : List Int) (hb : b.length = g.st.length) (k : Nat) : (bisN g b k).length = g.st.length := by
  cases k with
  | zero => exact hb
  | succ k => exact refL_len _ _
/-- the k-th partition has at least k blocks -/
def BK (g : Graph) (b : List Int) (k : Nat) : Prop := ∃ κ : Nat → List Int, bisN g b k = (numK κ g.st.length).1 ∧ k ≤ (numK κ g.st.length).2
theorem numK_cnt {K : Type} [DecidableEq K] (κ : Nat → K) (n : Nat) : (numK κ n).2 ≤ n := (numF_lt _ n).2
theorem BK.le {g : Graph} {b : List Int} {k : Nat} (h : BK g b k) : k ≤ g.st.length := by
  obtain ⟨κ, _, h2⟩ := h
  have := numK_cnt κ g.st.length; omega
theorem BK.step {g : Graph} {b : List Int} {k : Nat} (h : BK g b k) (hne : bisN g b (k + 1) ≠ bisN g b k) : BK g b (k + 1) := by
  obtain ⟨κ, h1, h2⟩ := h
  refine ⟨keyA g (bisN g b k), rfl, ?_⟩
  obtain ⟨h3, h4, _⟩ := numK_finer (κ := κ) (κ' := keyA g (bisN g b k)) (n := g.st.length) (fun x y hx hy he => by
    have h5 : (bisN g b k).getD x 0 = (bisN g b k).getD y 0 := (List.cons.inj he).1
    rw [h1] at h5
    rw [getD_at (by rw [numK_len]; exact hx), getD_at (by rw [numK_len]; exact hy)] at h5
    exact (numK_iff (κ := κ) (n := g.st.length) g.st.length (Nat.le_refl _) x y hx hy).1 h5) g.st.length (Nat.le_refl _)
  rcases Nat.lt_or_ge k (numK (keyA g (bisN g b k)) g.st.length).2 with h | h
  · exact h
  · exfalso
    refine hne ?_
    show (numK (keyA g (bisN g b k)) g.st.length).1 = _
    rw [h1] at h4 ⊢
    rw [h1] at h3 h
    exact h4 (by omega)
theorem bisN_stable {g : Graph} {b : List Int} {k : Nat} (h : bisN g b (k + 1) = bisN g b k) : ∀ j, k ≤ j → bisN g b j = bisN g b k := by
  intro j hj
  induction j with
  | zero => obtain rfl : k = 0 := by omega
            rfl
  | succ j ih =>
    rcases Nat.lt_or_ge j k with h1 | h1
    · obtain rfl : k = j + 1 := by omega
      rfl
    · rw [bisN, ih h1]; exact h
theorem BK.zero (g : Graph) (l : List Tree) : BK g (bis0 g l) 0 := by
  refine ⟨fun i => [(g.st.map (letterZ l)).getD i 0], ?_, Nat.zero_le _⟩
  show (numF _ _).1 = (numF _ _).1
  rw [numF_congr]
  intro i k _ _
  unfold sameL
  simp [eq_comm]
theorem BK.end {g : Graph} {l : List Tree} {k : Nat} (h : BK g (bis0 g l) k) (he : refL g (bisN g (bis0 g l) k) = bisN g (bis0 g l) k) : bisN g (bis0 g l) k = bisF g l :=
  (bisN_stable he _ h.le).symm

theorem bisim_new (g : Graph) (hG : GB g) (l : List Tree) (hL : LabelsOk l) : CallsA Tryz.prog 119 [.agg g.cs, lst 3 Tree.cs' l] [] (.sref 0 0 g.st.length) [.cells 1 ((bisF g l).map enI)] := by
  have c1 := labelBlocks_new g hG.vals hG.1.2 l hL
  have hb0 : (bis0 g l).length = g.st.length := numF_len _ _
  have hg1 := hG.1
  refine callsA_of tabOk Tryz.func119 rfl rfl 18 Tryz.ntmps119 (by simp) ?_
  repeat' (first | (apply AWP.go ok; rfl; conv => whnf) | (apply ord_mk; kernel_rfl; conv => whnf) | (apply And.intro; (first | omega | (unfold inI; omega) | (dsimp only; omega) | (unfold bitsOk; omega) | ((try dsimp only); simp only [List.length_map, List.length_take, List.length_append, List.length_replicate, List.length_cons, List.length_nil]; omega) | (simp only [btw_iff] at *; first | omega | (unfold inI; omega) | (unfold bitsOk; omega)) | exact stor_map (fun _ => rfl) | exact ⟨rfl, stor_cons rfl stor_nil⟩ | exact ⟨rfl, stor_map (fun _ => rfl) _⟩ | exact ⟨⟨rfl, by omega⟩, stor_map (fun _ => rfl) _⟩); conv => whnf) | (with_reducible apply get_mapN; omega; intro _; conv => whnf) | (with_reducible apply get_mapI; omega; intro _; conv => whnf) | (apply get_mapN; omega; intro _; conv => whnf) | (apply get_fill; omega; conv => whnf) | (apply ex_some; conv => whnf) | (apply get_map; omega; intro _; conv => whnf) | (apply vcG_dec <;> intro _ <;> conv => whnf) | (apply vcG_ndec <;> intro _ <;> conv => whnf) | (apply vcG_not <;> intro _ <;> conv => whnf) | (apply vcG_mk <;> intro _ <;> conv => whnf) | (apply vcIf_dec <;> intro _ <;> conv => whnf) | (apply vcIf_ndec <;> intro _ <;> conv => whnf) | (apply vcIf_not <;> intro _ <;> conv => whnf) | (apply vcIf_mk <;> intro _ <;> conv => whnf) | (apply call_gen [] [] [1] (c1); rfl; (focus ((repeat' (first | exact passOk_nil | apply passOk_cons)) <;> (first | rfl | (refine pass_flat rfl ?_; (first | exact flat_nil | exact flat_replicate rfl | exact flat_map (fun _ => rfl) | exact flat_map Tree.co_flat | (apply flat_append <;> (first | exact flat_replicate rfl | exact flat_map (fun _ => rfl))) | assumption))))); rfl; rfl; rfl; rfl; rfl; (focus ((repeat' (first | exact rens_nil | apply rens_cons)) <;> (first | exact ren_dead | exact ren_box rfl rfl | (refine ren_flat ?_; (first | exact flat_nil | exact flat_replicate rfl | exact flat_map (fun _ => rfl) | exact flat_map Tree.co_flat | (apply flat_append <;> (first | exact flat_replicate rfl | exact flat_map (fun _ => rfl))) | assumption))))); (first | exact .inl rfl | (refine .inr ⟨rfl, ?_⟩; repeat' (first | exact True.intro | apply And.intro | exact rfl | exact plainLL_map (fun _ => rfl) _))); conv => whnf))
  refine loopA (fun k : Nat => ([(2, .ptr 0 none 0), (5, .sref 1 0 g.st.length)], [.cells 2 [[lst 2 State.cs g.st, lst 1 encL g.nx]], .cells 1 ((bisN g (bis0 g l) k).map enI)])) (BK g (bis0 g l)) (fun k => g.st.length + 1 - k) 0 (BK.zero g l) ⟨[0, 1], rfl, by decide, rfl, ⟨⟨rfl, rfl⟩, ⟨rfl, rfl⟩, trivial⟩, ⟨obj_box rfl rfl, obj_flat rfl (flat_map fun _ => rfl), trivial⟩⟩ ?_
  intro k hk
  have hkl := bisN_len g _ hb0 k
  have hkle := hk.le
  have c2 := refine_new g hG (bisN g (bis0 g l) k) hkl
  have c3 := equalI_ok (refL g (bisN g (bis0 g l) k)) (bisN g (bis0 g l) k) (by rw [refL_len]; unfold maxLen; omega) (by rw [hkl]; unfold maxLen; omega)
  by_cases he : refL g (bisN g (bis0 g l) k) = bisN g (bis0 g l) k
  · have hend := hk.end he
    repeat' (first | (apply AWP.go ok; rfl; conv => whnf) | (apply ord_mk; kernel_rfl; conv => whnf) | (apply And.intro; (first | omega | (unfold inI; omega) | (dsimp only; omega) | (unfold bitsOk; omega) | ((try dsimp only); simp only [List.length_map, List.length_take, List.length_append, List.length_replicate, List.length_cons, List.length_nil]; omega) | (simp only [btw_iff] at *; first | omega | (unfold inI; omega) | (unfold bitsOk; omega)) | exact stor_map (fun _ => rfl) | exact ⟨rfl, stor_cons rfl stor_nil⟩ | exact ⟨rfl, stor_map (fun _ => rfl) _⟩ | exact ⟨⟨rfl, by omega⟩, stor_map (fun _ => rfl) _⟩); conv => whnf) | (with_reducible apply get_mapN; omega; intro _; conv => whnf) | (with_reducible apply get_mapI; omega; intro _; conv => whnf) | (apply get_mapN; omega; intro _; conv => whnf) | (apply get_fill; omega; conv => whnf) | (apply ex_some; conv => whnf) | (apply get_map; omega; intro _; conv => whnf) | (apply vcG_dec <;> intro _ <;> conv => whnf) | (apply vcG_ndec <;> intro _ <;> conv => whnf) | (apply vcG_not <;> intro _ <;> conv => whnf) | (apply vcG_mk <;> intro _ <;> conv => whnf) | (apply vcIf_dec <;> intro _ <;> conv => whnf) | (apply vcIf_ndec <;> intro _ <;> conv => whnf) | (apply vcIf_not <;> intro _ <;> conv => whnf) | (apply vcIf_mk <;> intro _ <;> conv => whnf) | (apply call_gen [] [1] [2] (c2); (focus (exact bor_cons rfl (bor_cons (bor_intsN rfl rfl rfl hkl) bor_nil))); (focus ((repeat' (first | exact passOk_nil | apply passOk_cons)) <;> (first | rfl | (refine pass_flat rfl ?_; (first | exact flat_nil | exact flat_replicate rfl | exact flat_map (fun _ => rfl) | exact flat_map Tree.co_flat | (apply flat_append <;> (first | exact flat_replicate rfl | exact flat_map (fun _ => rfl))) | assumption))))); rfl; rfl; rfl; rfl; rfl; (focus ((repeat' (first | exact rens_nil | apply rens_cons)) <;> (first | exact ren_dead | exact ren_box rfl rfl | (refine ren_flat ?_; (first | exact flat_nil | exact flat_replicate rfl | exact flat_map (fun _ => rfl) | exact flat_map Tree.co_flat | (apply flat_append <;> (first | exact flat_replicate rfl | exact flat_map (fun _ => rfl))) | assumption))))); (first | exact .inl rfl | (refine .inr ⟨rfl, ?_⟩; repeat' (first | exact True.intro | apply And.intro | exact rfl | exact plainLL_map (fun _ => rfl) _))); conv => whnf) | (apply call_gen [] [2, 1] [] (c3); (focus (exact bor_cons (bor_intsN rfl rfl rfl (refL_len _ _)) (bor_cons (bor_intsN rfl rfl rfl hkl) bor_nil))); (focus ((repeat' (first | exact passOk_nil | apply passOk_cons)) <;> (first | rfl | (refine pass_flat rfl ?_; (first | exact flat_nil | exact flat_replicate rfl | exact flat_map (fun _ => rfl) | exact flat_map Tree.co_flat | (apply flat_append <;> (first | exact flat_replicate rfl | exact flat_map (fun _ => rfl))) | assumption))))); rfl; rfl; rfl; rfl; rfl; (focus ((repeat' (first | exact rens_nil | apply rens_cons)) <;> (first | exact ren_dead | exact ren_box rfl rfl | (refine ren_flat ?_; (first | exact flat_nil | exact flat_replicate rfl | exact flat_map (fun _ => rfl) | exact flat_map Tree.co_flat | (apply flat_append <;> (first | exact flat_replicate rfl | exact flat_map (fun _ => rfl))) | assumption))))); (first | exact .inl rfl | (refine .inr ⟨rfl, ?_⟩; repeat' (first | exact True.intro | apply And.intro | exact rfl | exact plainLL_map (fun _ => rfl) _))); conv => whnf))
    all_goals first | (exfalso; exact absurd he (by assumption)) | skip
    rw [he, hend]
    exact ret_newN rfl (flat_map fun _ => rfl) rfl rfl rfl
  · repeat' (first | (apply AWP.go ok; rfl; conv => whnf) | (apply ord_mk; kernel_rfl; conv => whnf) | (apply And.intro; (first | omega | (unfold inI; omega) | (dsimp only; omega) | (unfold bitsOk; omega) | ((try dsimp only); simp only [List.length_map, List.length_take, List.length_append, List.length_replicate, List.length_cons, List.length_nil]; omega) | (simp only [btw_iff] at *; first | omega | (unfold inI; omega) | (unfold bitsOk; omega)) | exact stor_map (fun _ => rfl) | exact ⟨rfl, stor_cons rfl stor_nil⟩ | exact ⟨rfl, stor_map (fun _ => rfl) _⟩ | exact ⟨⟨rfl, by omega⟩, stor_map (fun _ => rfl) _⟩); conv => whnf) | (with_reducible apply get_mapN; omega; intro _; conv => whnf) | (with_reducible apply get_mapI; omega; intro _; conv => whnf) | (apply get_mapN; omega; intro _; conv => whnf) | (apply get_fill; omega; conv => whnf) | (apply ex_some; conv => whnf) | (apply get_map; omega; intro _; conv => whnf) | (apply vcG_dec <;> intro _ <;> conv => whnf) | (apply vcG_ndec <;> intro _ <;> conv => whnf) | (apply vcG_not <;> intro _ <;> conv => whnf) | (apply vcG_mk <;> intro _ <;> conv => whnf) | (apply vcIf_dec <;> intro _ <;> conv => whnf) | (apply vcIf_ndec <;> intro _ <;> conv => whnf) | (apply vcIf_not <;> intro _ <;> conv => whnf) | (apply vcIf_mk <;> intro _ <;> conv => whnf) | (apply call_gen [] [1] [2] (c2); (focus (exact bor_cons rfl (bor_cons (bor_intsN rfl rfl rfl hkl) bor_nil))); (focus ((repeat' (first | exact passOk_nil | apply passOk_cons)) <;> (first | rfl | (refine pass_flat rfl ?_; (first | exact flat_nil | exact flat_replicate rfl | exact flat_map (fun _ => rfl) | exact flat_map Tree.co_flat | (apply flat_append <;> (first | exact flat_replicate rfl | exact flat_map (fun _ => rfl))) | assumption))))); rfl; rfl; rfl; rfl; rfl; (focus ((repeat' (first | exact rens_nil | apply rens_cons)) <;> (first | exact ren_dead | exact ren_box rfl rfl | (refine ren_flat ?_; (first | exact flat_nil | exact flat_replicate rfl | exact flat_map (fun _ => rfl) | exact flat_map Tree.co_flat | (apply flat_append <;> (first | exact flat_replicate rfl | exact flat_map (fun _ => rfl))) | assumption))))); (first | exact .inl rfl | (refine .inr ⟨rfl, ?_⟩; repeat' (first | exact True.intro | apply And.intro | exact rfl | exact plainLL_map (fun _ => rfl) _))); conv => whnf) | (apply call_gen [] [2, 1] [] (c3); (focus (exact bor_cons (bor_intsN rfl rfl rfl (refL_len _ _)) (bor_cons (bor_intsN rfl rfl rfl hkl) bor_nil))); (focus ((repeat' (first | exact passOk_nil | apply passOk_cons)) <;> (first | rfl | (refine pass_flat rfl ?_; (first | exact flat_nil | exact flat_replicate rfl | exact flat_map (fun _ => rfl) | exact flat_map Tree.co_flat | (apply flat_append <;> (first | exact flat_replicate rfl | exact flat_map (fun _ => rfl))) | assumption))))); rfl; rfl; rfl; rfl; rfl; (focus ((repeat' (first | exact rens_nil | apply rens_cons)) <;> (first | exact ren_dead | exact ren_box rfl rfl | (refine ren_flat ?_; (first | exact flat_nil | exact flat_replicate rfl | exact flat_map (fun _ => rfl) | exact flat_map Tree.co_flat | (apply flat_append <;> (first | exact flat_replicate rfl | exact flat_map (fun _ => rfl))) | assumption))))); (first | exact .inl rfl | (refine .inr ⟨rfl, ?_⟩; repeat' (first | exact True.intro | apply And.intro | exact rfl | exact plainLL_map (fun _ => rfl) _))); conv => whnf))
    all_goals first | (exfalso; exact absurd (by assumption) he) | skip
    have hs := hk.step he
    have := hs.le
    exact again (k + 1) [0, 2] hs (by omega) ⟨rfl, by decide, rfl, ⟨⟨rfl, rfl⟩, ⟨rfl, rfl⟩, trivial⟩, ⟨obj_box rfl rfl, obj_flat rfl (flat_map fun _ => rfl), trivial⟩⟩

/-- the coarsest stable partition -/
noncomputable def bisR (g : Graph) (l : List Tree) : List Int := if glB g l then bisF g l else []
theorem bisF_len (g : Graph) (l : List Tree) : (bisF g l).length = g.st.length := bisN_len g _ (numF_len _ _) _
theorem bisR_le (g : Graph) (l : List Tree) : (bisR g l).length ≤ g.st.length := by
  unfold bisR; split
  · rw [bisF_len]; omega
  · simp

theorem implBisimulation_new (g : Graph) (hg : g.mx) (l : List Tree) (hl : Lmx l) : CallsA Tryz.prog 56 [.agg g.cs, lst 3 Tree.cs' l] [] (.tup [.sref 0 0 (bisR g l).length, .bool (glB g l)]) [.cells 1 ((bisR g l).map enI)] := by
  have c1 := graphValid_ok g hg
  have c2 := labelsValid_ok l hl.1 hl.2
  by_cases h : glB g l = true
  · have h1 : graphB g = true := by unfold glB at h; exact (Bool.and_eq_true_iff.1 h).1
    have h2 : labelsB l = true := by unfold glB at h; exact (Bool.and_eq_true_iff.1 h).2
    have hG := (graphB_iff g).1 h1
    have hL := LabelsOk.of h2
    have c3 := bisim_new g hG l hL
    have e : bisR g l = bisF g l := by unfold bisR; rw [if_pos h]
    rw [e, bisF_len, h]
    rw [h1] at c1
    rw [h2] at c2
    refine callsA_of tabOk Tryz.func56 rfl rfl 17 Tryz.ntmps56 (by simp) ?_
    repeat' (first | (apply AWP.go ok; rfl; conv => whnf) | (apply ord_mk; kernel_rfl; conv => whnf) | (apply And.intro; (first | omega | (unfold inI; omega) | (dsimp only; omega) | (unfold bitsOk; omega) | ((try dsimp only); simp only [List.length_map, List.length_take, List.length_append, List.length_replicate, List.length_cons, List.length_nil]; omega) | (simp only [btw_iff] at *; first | omega | (unfold inI; omega) | (unfold bitsOk; omega)) | exact stor_map (fun _ => rfl) | exact ⟨rfl, stor_cons rfl stor_nil⟩ | exact ⟨rfl, stor_map (fun _ => rfl) _⟩ | exact ⟨⟨rfl, by omega⟩, stor_map (fun _ => rfl) _⟩); conv => whnf) | (with_reducible apply get_mapN; omega; intro _; conv => whnf) | (with_reducible apply get_mapI; omega; intro _; conv => whnf) | (apply get_mapN; omega; intro _; conv => whnf) | (apply get_fill; omega; conv => whnf) | (apply ex_some; conv => whnf) | (apply get_map; omega; intro _; conv => whnf) | (apply vcG_dec <;> intro _ <;> conv => whnf) | (apply vcG_ndec <;> intro _ <;> conv => whnf) | (apply vcG_not <;> intro _ <;> conv => whnf) | (apply vcG_mk <;> intro _ <;> conv => whnf) | (apply vcIf_dec <;> intro _ <;> conv => whnf) | (apply vcIf_ndec <;> intro _ <;> conv => whnf) | (apply vcIf_not <;> intro _ <;> conv => whnf) | (apply vcIf_mk <;> intro _ <;> conv => whnf) | (apply call_data (c1); rfl; rfl; conv => whnf) | (apply call_data (c2); rfl; rfl; conv => whnf) | (apply call_gen [] [] [1] (c3); rfl; (focus ((repeat' (first | exact passOk_nil | apply passOk_cons)) <;> (first | rfl | (refine pass_flat rfl ?_; (first | exact flat_nil | exact flat_replicate rfl | exact flat_map (fun _ => rfl) | exact flat_map Tree.co_flat | (apply flat_append <;> (first | exact flat_replicate rfl | exact flat_map (fun _ => rfl))) | assumption))))); rfl; rfl; rfl; rfl; rfl; (focus ((repeat' (first | exact rens_nil | apply rens_cons)) <;> (first | exact ren_dead | exact ren_box rfl rfl | (refine ren_flat ?_; (first | exact flat_nil | exact flat_replicate rfl | exact flat_map (fun _ => rfl) | exact flat_map Tree.co_flat | (apply flat_append <;> (first | exact flat_replicate rfl | exact flat_map (fun _ => rfl))) | assumption))))); (first | exact .inl rfl | (refine .inr ⟨rfl, ?_⟩; repeat' (first | exact True.intro | apply And.intro | exact rfl | exact plainLL_map (fun _ => rfl) _))); conv => whnf))
    exact ret_objs [1] (by decide) rfl rfl rfl ⟨obj_flat rfl (flat_map fun _ => rfl), trivial⟩
  · have h := (Bool.not_eq_true _).mp h
    have e : bisR g l = [] := by unfold bisR; rw [h]; rfl
    rw [e, h]
    refine CallsA.nils (res := .tup [.nils, .bool false]) ?_ (by simp) (tup_sref nil_sref)
    refine callsA_of tabOk Tryz.func56 rfl rfl 17 Tryz.ntmps56 (by simp) ?_
    repeat' (first | (apply AWP.go ok; rfl; conv => whnf) | (apply ord_mk; kernel_rfl; conv => whnf) | (apply And.intro; (first | omega | (unfold inI; omega) | (dsimp only; omega) | (unfold bitsOk; omega) | ((try dsimp only); simp only [List.length_map, List.length_take, List.length_append, List.length_replicate, List.length_cons, List.length_nil]; omega) | (simp only [btw_iff] at *; first | omega | (unfold inI; omega) | (unfold bitsOk; omega)) | exact stor_map (fun _ => rfl) | exact ⟨rfl, stor_cons rfl stor_nil⟩ | exact ⟨rfl, stor_map (fun _ => rfl) _⟩ | exact ⟨⟨rfl, by omega⟩, stor_map (fun _ => rfl) _⟩); conv => whnf) | (with_reducible apply get_mapN; omega; intro _; conv => whnf) | (with_reducible apply get_mapI; omega; intro _; conv => whnf) | (apply get_mapN; omega; intro _; conv => whnf) | (apply get_fill; omega; conv => whnf) | (apply ex_some; conv => whnf) | (apply get_map; omega; intro _; conv => whnf) | (apply vcG_dec <;> intro _ <;> conv => whnf) | (apply vcG_ndec <;> intro _ <;> conv => whnf) | (apply vcG_not <;> intro _ <;> conv => whnf) | (apply vcG_mk <;> intro _ <;> conv => whnf) | (apply vcIf_dec <;> intro _ <;> conv => whnf) | (apply vcIf_ndec <;> intro _ <;> conv => whnf) | (apply vcIf_not <;> intro _ <;> conv => whnf) | (apply vcIf_mk <;> intro _ <;> conv => whnf) | (apply call_data (c1); rfl; rfl; conv => whnf) | (apply call_data (c2); rfl; rfl; conv => whnf))
    all_goals first | exact ret_data rfl rfl rfl | (exfalso; unfold glB at h; simp_all; done)
theorem implBisimulation_ok (g : Graph) (hg : g.mx) (l : List Tree) (hl : Lmx l) : CallsA Tryz.prog 56 [.agg g.cs, lst 3 Tree.cs' l] [] (.tup [ints (bisR g l), .bool (glB g l)]) [] := by
  have := (implBisimulation_new g hg l hl).keepT (L := (bisR g l).map enI) (enc_unown1 _ _) (by simp) rfl
  exact this

theorem specBisimulation_ok (g : Graph) (hg : g.mx) (l : List Tree) (hl : Lmx l) : CallsA Tryz.prog 55 [.agg g.cs, lst 3 Tree.cs' l] [] (.tup [ints (bisR g l), .bool (glB g l)]) [] := by
  have c1 := specLabelBlocks_ok g hg l hl
  by_cases h : glB g l = true
  · have h1 : graphB g = true := by unfold glB at h; exact (Bool.and_eq_true_iff.1 h).1
    have hG := (graphB_iff g).1 h1
    have e : bisR g l = bisF g l := by unfold bisR; rw [if_pos h]
    have e2 : lblB g l = bis0 g l := by unfold lblB; rw [if_pos h]; rfl
    have hb0 : (bis0 g l).length = g.st.length := numF_len _ _
    have hg1 := hG.1
    rw [h, e2] at c1
    rw [e, h]
    refine callsA_of tabOk Tryz.func55 rfl rfl 26 Tryz.ntmps55 (by simp) ?_
    repeat' (first | (apply AWP.go ok; rfl; conv => whnf) | (apply ord_mk; kernel_rfl; conv => whnf) | (apply And.intro; (first | omega | (unfold inI; omega) | (dsimp only; omega) | (unfold bitsOk; omega) | ((try dsimp only); simp only [List.length_map, List.length_take, List.length_append, List.length_replicate, List.length_cons, List.length_nil]; omega) | (simp only [btw_iff] at *; first | omega | (unfold inI; omega) | (unfold bitsOk; omega)) | exact stor_map (fun _ => rfl) | exact ⟨rfl, stor_cons rfl stor_nil⟩ | exact ⟨rfl, stor_map (fun _ => rfl) _⟩ | exact ⟨⟨rfl, by omega⟩, stor_map (fun _ => rfl) _⟩); conv => whnf) | (with_reducible apply get_mapN; omega; intro _; conv => whnf) | (with_reducible apply get_mapI; omega; intro _; conv => whnf) | (apply get_mapN; omega; intro _; conv => whnf) | (apply get_fill; omega; conv => whnf) | (apply ex_some; conv => whnf) | (apply get_map; omega; intro _; conv => whnf) | (apply vcG_dec <;> intro _ <;> conv => whnf) | (apply vcG_ndec <;> intro _ <;> conv => whnf) | (apply vcG_not <;> intro _ <;> conv => whnf) | (apply vcG_mk <;> intro _ <;> conv => whnf) | (apply vcIf_dec <;> intro _ <;> conv => whnf) | (apply vcIf_ndec <;> intro _ <;> conv => whnf) | (apply vcIf_not <;> intro _ <;> conv => whnf) | (apply vcIf_mk <;> intro _ <;> conv => whnf) | (apply call_data (c1); rfl; rfl; conv => whnf))
    refine loopA (fun k : Nat => ([(2, .ptr 0 none 0), (6, ints (bisN g (bis0 g l) k))], [.cells 2 [[lst 2 State.cs g.st, lst 1 encL g.nx]]])) (BK g (bis0 g l)) (fun k => g.st.length + 1 - k) 0 (BK.zero g l) ⟨[0], rfl, by decide, rfl, ⟨⟨rfl, rfl⟩, ⟨rfl, rfl⟩, trivial⟩, ⟨obj_box rfl rfl, trivial⟩⟩ ?_
    intro k hk
    have hkl := bisN_len g _ hb0 k
    have hkle := hk.le
    have c2 := keepI (l10Refine_new g hG (bisN g (bis0 g l) k) hkl) (refL_len _ _)
    have c3 := l2Ints_ok (refL g (bisN g (bis0 g l) k)) (bisN g (bis0 g l) k) (by rw [refL_len]; unfold maxLen; omega) (by rw [hkl]; unfold maxLen; omega)
    by_cases he : refL g (bisN g (bis0 g l) k) = bisN g (bis0 g l) k
    · have hend := hk.end he
      repeat' (first | (apply AWP.go ok; rfl; conv => whnf) | (apply ord_mk; kernel_rfl; conv => whnf) | (apply And.intro; (first | omega | (unfold inI; omega) | (dsimp only; omega) | (unfold bitsOk; omega) | ((try dsimp only); simp only [List.length_map, List.length_take, List.length_append, List.length_replicate, List.length_cons, List.length_nil]; omega) | (simp only [btw_iff] at *; first | omega | (unfold inI; omega) | (unfold bitsOk; omega)) | exact stor_map (fun _ => rfl) | exact ⟨rfl, stor_cons rfl stor_nil⟩ | exact ⟨rfl, stor_map (fun _ => rfl) _⟩ | exact ⟨⟨rfl, by omega⟩, stor_map (fun _ => rfl) _⟩); conv => whnf) | (with_reducible apply get_mapN; omega; intro _; conv => whnf) | (with_reducible apply get_mapI; omega; intro _; conv => whnf) | (apply get_mapN; omega; intro _; conv => whnf) | (apply get_fill; omega; conv => whnf) | (apply ex_some; conv => whnf) | (apply get_map; omega; intro _; conv => whnf) | (apply vcG_dec <;> intro _ <;> conv => whnf) | (apply vcG_ndec <;> intro _ <;> conv => whnf) | (apply vcG_not <;> intro _ <;> conv => whnf) | (apply vcG_mk <;> intro _ <;> conv => whnf) | (apply vcIf_dec <;> intro _ <;> conv => whnf) | (apply vcIf_ndec <;> intro _ <;> conv => whnf) | (apply vcIf_not <;> intro _ <;> conv => whnf) | (apply vcIf_mk <;> intro _ <;> conv => whnf) | (apply call_data (c2); rfl; rfl; conv => whnf) | (apply call_data (c3); rfl; rfl; conv => whnf))
      all_goals first | (exfalso; exact absurd he (by assumption)) | skip
      rw [hend]
      exact ret_data rfl rfl rfl
    · repeat' (first | (apply AWP.go ok; rfl; conv => whnf) | (apply ord_mk; kernel_rfl; conv => whnf) | (apply And.intro; (first | omega | (unfold inI; omega) | (dsimp only; omega) | (unfold bitsOk; omega) | ((try dsimp only); simp only [List.length_map, List.length_take, List.length_append, List.length_replicate, List.length_cons, List.length_nil]; omega) | (simp only [btw_iff] at *; first | omega | (unfold inI; omega) | (unfold bitsOk; omega)) | exact stor_map (fun _ => rfl) | exact ⟨rfl, stor_cons rfl stor_nil⟩ | exact ⟨rfl, stor_map (fun _ => rfl) _⟩ | exact ⟨⟨rfl, by omega⟩, stor_map (fun _ => rfl) _⟩); conv => whnf) | (with_reducible apply get_mapN; omega; intro _; conv => whnf) | (with_reducible apply get_mapI; omega; intro _; conv => whnf) | (apply get_mapN; omega; intro _; conv => whnf) | (apply get_fill; omega; conv => whnf) | (apply ex_some; conv => whnf) | (apply get_map; omega; intro _; conv => whnf) | (apply vcG_dec <;> intro _ <;> conv => whnf) | (apply vcG_ndec <;> intro _ <;> conv => whnf) | (apply vcG_not <;> intro _ <;> conv => whnf) | (apply vcG_mk <;> intro _ <;> conv => whnf) | (apply vcIf_dec <;> intro _ <;> conv => whnf) | (apply vcIf_ndec <;> intro _ <;> conv => whnf) | (apply vcIf_not <;> intro _ <;> conv => whnf) | (apply vcIf_mk <;> intro _ <;> conv => whnf) | (apply call_data (c2); rfl; rfl; conv => whnf) | (apply call_data (c3); rfl; rfl; conv => whnf))
      all_goals first | (exfalso; exact absurd (by assumption) he) | skip
      have hs := hk.step he
      have := hs.le
      exact again (k + 1) [0] hs (by omega) ⟨rfl, by decide, rfl, ⟨⟨rfl, rfl⟩, ⟨rfl, rfl⟩, trivial⟩, ⟨obj_box rfl rfl, trivial⟩⟩
  · have h := (Bool.not_eq_true _).mp h
    have e : bisR g l = [] := by unfold bisR; rw [h]; rfl
    rw [h] at c1
    rw [e, h]
    refine callsA_of tabOk Tryz.func55 rfl rfl 26 Tryz.ntmps55 (by simp) ?_
    repeat' (first | (apply AWP.go ok; rfl; conv => whnf) | (apply ord_mk; kernel_rfl; conv => whnf) | (apply And.intro; (first | omega | (unfold inI; omega) | (dsimp only; omega) | (unfold bitsOk; omega) | ((try dsimp only); simp only [List.length_map, List.length_take, List.length_append, List.length_replicate, List.length_cons, List.length_nil]; omega) | (simp only [btw_iff] at *; first | omega | (unfold inI; omega) | (unfold bitsOk; omega)) | exact stor_map (fun _ => rfl) | exact ⟨rfl, stor_cons rfl stor_nil⟩ | exact ⟨rfl, stor_map (fun _ => rfl) _⟩ | exact ⟨⟨rfl, by omega⟩, stor_map (fun _ => rfl) _⟩); conv => whnf) | (with_reducible apply get_mapN; omega; intro _; conv => whnf) | (with_reducible apply get_mapI; omega; intro _; conv => whnf) | (apply get_mapN; omega; intro _; conv => whnf) | (apply get_fill; omega; conv => whnf) | (apply ex_some; conv => whnf) | (apply get_map; omega; intro _; conv => whnf) | (apply vcG_dec <;> intro _ <;> conv => whnf) | (apply vcG_ndec <;> intro _ <;> conv => whnf) | (apply vcG_not <;> intro _ <;> conv => whnf) | (apply vcG_mk <;> intro _ <;> conv => whnf) | (apply vcIf_dec <;> intro _ <;> conv => whnf) | (apply vcIf_ndec <;> intro _ <;> conv => whnf) | (apply vcIf_not <;> intro _ <;> conv => whnf) | (apply vcIf_mk <;> intro _ <;> conv => whnf) | (apply call_data (c1); rfl; rfl; conv => whnf))
    all_goals first | exact ret_le rfl rfl (tup_le2 sref_le) | (exfalso; simp_all; done)
end Go.Proofs.YtcmihlbihppflaaGreat

namespace Go.Proofs.YtcmihlbihppflaaGreat
open Go.Gl
attribute [local irreducible] vcCall AWP RetOk Again ordOk

noncomputable def bimB (g : Graph) (l : List Tree) (i j : Int) : Bool := glB g l && (decide ((0 ≤ i ∧ i < (bisR g l).length) ∧ (0 ≤ j ∧ j < (bisR g l).length)) && decide ((bisR g l).getD i.toNat 0 = (bisR g l).getD j.toNat 0))

theorem implBisimilar_ok (g : Graph) (hg : g.mx) (l : List Tree) (hl : Lmx l) (hst : g.st.length ≤ 1048576) (i j : Int) (hi : inI i) (hj : inI j) : CallsA Tryz.prog 50 [.agg g.cs, lst 3 Tree.cs' l, .int i, .int j] [] (.bool (bimB g l i j)) [] := by
  have c1 := implBisimulation_ok g hg l hl
  have hb := bisR_le g l
  unfold bimB
  generalize bisR g l = bs at *
  generalize glB g l = q at *
  have c2 := in_ok i 0 ((bs.length : Int) - 1)
  have c3 := in_ok j 0 ((bs.length : Int) - 1)
  refine callsA_of tabOk Tryz.func50 rfl rfl 43 Tryz.ntmps50 (by simp) ?_
  by_cases h1 : 0 ≤ i ∧ i < bs.length
  · rw [btw_iff.2 (show 0 ≤ i ∧ i ≤ (bs.length : Int) - 1 by omega)] at c2
    by_cases h2 : 0 ≤ j ∧ j < bs.length
    · rw [btw_iff.2 (show 0 ≤ j ∧ j ≤ (bs.length : Int) - 1 by omega)] at c3
      have e1 : bs.getD i.toNat 0 = bs[i.toNat]'(by omega) := getD_at (by omega)
      have e2 : bs.getD j.toNat 0 = bs[j.toNat]'(by omega) := getD_at (by omega)
      rw [decide_eq_true ⟨h1, h2⟩, e1, e2]
      cases q
      all_goals repeat' (first | (apply AWP.go ok; rfl; conv => whnf) | (apply ord_mk; kernel_rfl; conv => whnf) | (apply And.intro; (first | omega | (unfold inI; omega) | (dsimp only; omega) | (unfold bitsOk; omega) | ((try dsimp only); simp only [List.length_map, List.length_take, List.length_append, List.length_replicate, List.length_cons, List.length_nil]; omega) | (simp only [btw_iff] at *; first | omega | (unfold inI; omega) | (unfold bitsOk; omega)) | exact stor_map (fun _ => rfl) | exact ⟨rfl, stor_cons rfl stor_nil⟩ | exact ⟨rfl, stor_map (fun _ => rfl) _⟩ | exact ⟨⟨rfl, by omega⟩, stor_map (fun _ => rfl) _⟩); conv => whnf) | (with_reducible apply get_mapN; omega; intro _; conv => whnf) | (with_reducible apply get_mapI; omega; intro _; conv => whnf) | (apply get_mapN; omega; intro _; conv => whnf) | (apply get_fill; omega; conv => whnf) | (apply ex_some; conv => whnf) | (apply get_map; omega; intro _; conv => whnf) | (apply vcG_dec <;> intro _ <;> conv => whnf) | (apply vcG_ndec <;> intro _ <;> conv => whnf) | (apply vcG_not <;> intro _ <;> conv => whnf) | (apply vcG_mk <;> intro _ <;> conv => whnf) | (apply vcIf_dec <;> intro _ <;> conv => whnf) | (apply vcIf_ndec <;> intro _ <;> conv => whnf) | (apply vcIf_not <;> intro _ <;> conv => whnf) | (apply vcIf_mk <;> intro _ <;> conv => whnf) | (apply call_data (c1); rfl; rfl; conv => whnf) | (apply call_data (c2); rfl; rfl; conv => whnf) | (apply call_data (c3); rfl; rfl; conv => whnf))
      all_goals first | kernel_rfl | (exfalso; omega) | exact ret_bool rfl rfl | (refine ret_bool rfl ?_; simp [*]; done) | skip
    · rw [btw_no.2 (show ¬ (0 ≤ j ∧ j ≤ (bs.length : Int) - 1) by omega)] at c3
      rw [decide_eq_false (fun h => h2 h.2)]
      cases q
      all_goals repeat' (first | (apply AWP.go ok; rfl; conv => whnf) | (apply ord_mk; kernel_rfl; conv => whnf) | (apply And.intro; (first | omega | (unfold inI; omega) | (dsimp only; omega) | (unfold bitsOk; omega) | ((try dsimp only); simp only [List.length_map, List.length_take, List.length_append, List.length_replicate, List.length_cons, List.length_nil]; omega) | (simp only [btw_iff] at *; first | omega | (unfold inI; omega) | (unfold bitsOk; omega)) | exact stor_map (fun _ => rfl) | exact ⟨rfl, stor_cons rfl stor_nil⟩ | exact ⟨rfl, stor_map (fun _ => rfl) _⟩ | exact ⟨⟨rfl, by omega⟩, stor_map (fun _ => rfl) _⟩); conv => whnf) | (with_reducible apply get_mapN; omega; intro _; conv => whnf) | (with_reducible apply get_mapI; omega; intro _; conv => whnf) | (apply get_mapN; omega; intro _; conv => whnf) | (apply get_fill; omega; conv => whnf) | (apply ex_some; conv => whnf) | (apply get_map; omega; intro _; conv => whnf) | (apply vcG_dec <;> intro _ <;> conv => whnf) | (apply vcG_ndec <;> intro _ <;> conv => whnf) | (apply vcG_not <;> intro _ <;> conv => whnf) | (apply vcG_mk <;> intro _ <;> conv => whnf) | (apply vcIf_dec <;> intro _ <;> conv => whnf) | (apply vcIf_ndec <;> intro _ <;> conv => whnf) | (apply vcIf_not <;> intro _ <;> conv => whnf) | (apply vcIf_mk <;> intro _ <;> conv => whnf) | (apply call_data (c1); rfl; rfl; conv => whnf) | (apply call_data (c2); rfl; rfl; conv => whnf) | (apply call_data (c3); rfl; rfl; conv => whnf))
      all_goals first | kernel_rfl | (exfalso; omega) | exact ret_bool rfl rfl | (refine ret_bool rfl ?_; simp [*]; done) | skip
  · rw [btw_no.2 (show ¬ (0 ≤ i ∧ i ≤ (bs.length : Int) - 1) by omega)] at c2
    rw [decide_eq_false (fun h => h1 h.1)]
    cases q
    all_goals repeat' (first | (apply AWP.go ok; rfl; conv => whnf) | (apply ord_mk; kernel_rfl; conv => whnf) | (apply And.intro; (first | omega | (unfold inI; omega) | (dsimp only; omega) | (unfold bitsOk; omega) | ((try dsimp only); simp only [List.length_map, List.length_take, List.length_append, List.length_replicate, List.length_cons, List.length_nil]; omega) | (simp only [btw_iff] at *; first | omega | (unfold inI; omega) | (unfold bitsOk; omega)) | exact stor_map (fun _ => rfl) | exact ⟨rfl, stor_cons rfl stor_nil⟩ | exact ⟨rfl, stor_map (fun _ => rfl) _⟩ | exact ⟨⟨rfl, by omega⟩, stor_map (fun _ => rfl) _⟩); conv => whnf) | (with_reducible apply get_mapN; omega; intro _; conv => whnf) | (with_reducible apply get_mapI; omega; intro _; conv => whnf) | (apply get_mapN; omega; intro _; conv => whnf) | (apply get_fill; omega; conv => whnf) | (apply ex_some; conv => whnf) | (apply get_map; omega; intro _; conv => whnf) | (apply vcG_dec <;> intro _ <;> conv => whnf) | (apply vcG_ndec <;> intro _ <;> conv => whnf) | (apply vcG_not <;> intro _ <;> conv => whnf) | (apply vcG_mk <;> intro _ <;> conv => whnf) | (apply vcIf_dec <;> intro _ <;> conv => whnf) | (apply vcIf_ndec <;> intro _ <;> conv => whnf) | (apply vcIf_not <;> intro _ <;> conv => whnf) | (apply vcIf_mk <;> intro _ <;> conv => whnf) | (apply call_data (c1); rfl; rfl; conv => whnf) | (apply call_data (c2); rfl; rfl; conv => whnf) | (apply call_data (c3); rfl; rfl; conv => whnf))
    all_goals first | kernel_rfl | (exfalso; omega) | exact ret_bool rfl rfl | (refine ret_bool rfl ?_; simp [*]; done) | skip

theorem specBisimilar_ok (g : Graph) (hg : g.mx) (l : List Tree) (hl : Lmx l) (hst : g.st.length ≤ 1048576) (i j : Int) (hi : inI i) (hj : inI j) : CallsA Tryz.prog 49 [.agg g.cs, lst 3 Tree.cs' l, .int i, .int j] [] (.bool (bimB g l i j)) [] := by
  have c1 := specBisimulation_ok g hg l hl
  have hb := bisR_le g l
  unfold bimB
  generalize bisR g l = bs at *
  generalize glB g l = q at *
  refine callsA_of tabOk Tryz.func49 rfl rfl 49 Tryz.ntmps49 (by simp) ?_
  by_cases h1 : 0 ≤ i ∧ i < bs.length
  · by_cases h2 : 0 ≤ j ∧ j < bs.length
    · have e1 : bs.getD i.toNat 0 = bs[i.toNat]'(by omega) := getD_at (by omega)
      have e2 : bs.getD j.toNat 0 = bs[j.toNat]'(by omega) := getD_at (by omega)
      rw [decide_eq_true ⟨h1, h2⟩, e1, e2]
      cases q
      all_goals repeat' (first | (apply AWP.go ok; rfl; conv => whnf) | (apply ord_mk; kernel_rfl; conv => whnf) | (apply And.intro; (first | omega | (unfold inI; omega) | (dsimp only; omega) | (unfold bitsOk; omega) | ((try dsimp only); simp only [List.length_map, List.length_take, List.length_append, List.length_replicate, List.length_cons, List.length_nil]; omega) | (simp only [btw_iff] at *; first | omega | (unfold inI; omega) | (unfold bitsOk; omega)) | exact stor_map (fun _ => rfl) | exact ⟨rfl, stor_cons rfl stor_nil⟩ | exact ⟨rfl, stor_map (fun _ => rfl) _⟩ | exact ⟨⟨rfl, by omega⟩, stor_map (fun _ => rfl) _⟩); conv => whnf) | (with_reducible apply get_mapN; omega; intro _; conv => whnf) | (with_reducible apply get_mapI; omega; intro _; conv => whnf) | (apply get_mapN; omega; intro _; conv => whnf) | (apply get_fill; omega; conv => whnf) | (apply ex_some; conv => whnf) | (apply get_map; omega; intro _; conv => whnf) | (apply vcG_dec <;> intro _ <;> conv => whnf) | (apply vcG_ndec <;> intro _ <;> conv => whnf) | (apply vcG_not <;> intro _ <;> conv => whnf) | (apply vcG_mk <;> intro _ <;> conv => whnf) | (apply vcIf_dec <;> intro _ <;> conv => whnf) | (apply vcIf_ndec <;> intro _ <;> conv => whnf) | (apply vcIf_not <;> intro _ <;> conv => whnf) | (apply vcIf_mk <;> intro _ <;> conv => whnf) | (apply call_data (c1); rfl; rfl; conv => whnf))
      all_goals first | kernel_rfl | (exfalso; omega) | exact ret_bool rfl rfl | (refine ret_bool rfl ?_; simp [*]; done) | skip
    · rw [decide_eq_false (fun h => h2 h.2)]
      cases q
      all_goals repeat' (first | (apply AWP.go ok; rfl; conv => whnf) | (apply ord_mk; kernel_rfl; conv => whnf) | (apply And.intro; (first | omega | (unfold inI; omega) | (dsimp only; omega) | (unfold bitsOk; omega) | ((try dsimp only); simp only [List.length_map, List.length_take, List.length_append, List.length_replicate, List.length_cons, List.length_nil]; omega) | (simp only [btw_iff] at *; first | omega | (unfold inI; omega) | (unfold bitsOk; omega)) | exact stor_map (fun _ => rfl) | exact ⟨rfl, stor_cons rfl stor_nil⟩ | exact ⟨rfl, stor_map (fun _ => rfl) _⟩ | exact ⟨⟨rfl, by omega⟩, stor_map (fun _ => rfl) _⟩); conv => whnf) | (with_reducible apply get_mapN; omega; intro _; conv => whnf) | (with_reducible apply get_mapI; omega; intro _; conv => whnf) | (apply get_mapN; omega; intro _; conv => whnf) | (apply get_fill; omega; conv => whnf) | (apply ex_some; conv => whnf) | (apply get_map; omega; intro _; conv => whnf) | (apply vcG_dec <;> intro _ <;> conv => whnf) | (apply vcG_ndec <;> intro _ <;> conv => whnf) | (apply vcG_not <;> intro _ <;> conv => whnf) | (apply vcG_mk <;> intro _ <;> conv => whnf) | (apply vcIf_dec <;> intro _ <;> conv => whnf) | (apply vcIf_ndec <;> intro _ <;> conv => whnf) | (apply vcIf_not <;> intro _ <;> conv => whnf) | (apply vcIf_mk <;> intro _ <;> conv => whnf) | (apply call_data (c1); rfl; rfl; conv => whnf))
      all_goals first | kernel_rfl | (exfalso; omega) | exact ret_bool rfl rfl | (refine ret_bool rfl ?_; simp [*]; done) | skip
  · rw [decide_eq_false (fun h => h1 h.1)]
    cases q
    all_goals repeat' (first | (apply AWP.go ok; rfl; conv => whnf) | (apply ord_mk; kernel_rfl; conv => whnf) | (apply And.intro; (first | omega | (unfold inI; omega) | (dsimp only; omega) | (unfold bitsOk; omega) | ((try dsimp only); simp only [List.length_map, List.length_take, List.length_append, List.length_replicate, List.length_cons, List.length_nil]; omega) | (simp only [btw_iff] at *; first | omega | (unfold inI; omega) | (unfold bitsOk; omega)) | exact stor_map (fun _ => rfl) | exact ⟨rfl, stor_cons rfl stor_nil⟩ | exact ⟨rfl, stor_map (fun _ => rfl) _⟩ | exact ⟨⟨rfl, by omega⟩, stor_map (fun _ => rfl) _⟩); conv => whnf) | (with_reducible apply get_mapN; omega; intro _; conv => whnf) | (with_reducible apply get_mapI; omega; intro _; conv => whnf) | (apply get_mapN; omega; intro _; conv => whnf) | (apply get_fill; omega; conv => whnf) | (apply ex_some; conv => whnf) | (apply get_map; omega; intro _; conv => whnf) | (apply vcG_dec <;> intro _ <;> conv => whnf) | (apply vcG_ndec <;> intro _ <;> conv => whnf) | (apply vcG_not <;> intro _ <;> conv => whnf) | (apply vcG_mk <;> intro _ <;> conv => whnf) | (apply vcIf_dec <;> intro _ <;> conv => whnf) | (apply vcIf_ndec <;> intro _ <;> conv => whnf) | (apply vcIf_not <;> intro _ <;> conv => whnf) | (apply vcIf_mk <;> intro _ <;> conv => whnf) | (apply call_data (c1); rfl; rfl; conv => whnf))
    all_goals first | kernel_rfl | (exfalso; omega) | exact ret_bool rfl rfl | (refine ret_bool rfl ?_; simp [*]; done) | skip
end Go.Proofs.YtcmihlbihppflaaGreat

