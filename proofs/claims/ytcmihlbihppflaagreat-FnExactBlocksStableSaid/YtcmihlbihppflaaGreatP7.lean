/- A part of the proofs over this program: T47, T49, T50. -/
import Derived.Test.YtcmihlbihppflaaGreatG0
import Derived.Test.YtcmihlbihppflaaGreatG1
import Derived.Test.YtcmihlbihppflaaGreatG2
import Derived.Test.YtcmihlbihppflaaGreatP0
import Derived.Test.YtcmihlbihppflaaGreatP1
import Derived.Test.YtcmihlbihppflaaGreatP2
import Derived.Test.YtcmihlbihppflaaGreatP3
import Derived.Test.YtcmihlbihppflaaGreatP6
set_option linter.all false
namespace Go.Proofs.YtcmihlbihppflaaGreat
open Go.Gl
attribute [local irreducible] vcCall AWP RetOk Again ordOk

def bisN (g : Graph) (b : List Int) : Nat → List Int
  | 0 => b
  | k + 1 => refL g (bisN g b k)
def bis0 (g : Graph) (l : List Tree) : List Int := (numF (sameL (g.st.map (letterZ l))) g.st.length).1
def bisF (g : Graph) (l : List Tree) : List Int := bisN g (bis0 g l) g.st.length
theorem bisN_len (g : Graph) (b : List Int) (hb : b.length = g.st.length) (k : Nat) : (bisN g b k).length = g.st.length := by
  cases k with
  | zero => exact hb
  | succ k => exact refL_len _ _
/-- the k-th partition has at least k blocks -/
def BK (g : Graph) (b : List Int) (k : Nat) : Prop := ∃ κ : Nat → List Int, bisN g b k = (numK κ g.st.length).1 ∧ k ≤ (numK κ g.st.length).2
theorem numK_cnt {K : Type} [DecidableEq K] (κ : Nat → K) (n : Nat) : (numK κ n).2 ≤ n := (numF_lt _ n).2
theorem BK.le {g : Graph} {b : List Int} {k : Nat} (h : BK g b k) : k ≤ g.st.length := by
  obtain ⟨κ, _, h2⟩ := h
  have := numK_cnt κ g.st.length; omega
theorem BK.step {g : Graph} {b : List Int} {k : Nat} (h : BK g b k) (hne : bisN g b (k + 1) ≠ bisN g b k) : BK g b (k + 1) := by
  obtain ⟨κ, h1, h2⟩ := h
  refine ⟨keyA g (bisN g b k), rfl, ?_⟩
  obtain ⟨h3, h4, _⟩ := numK_finer (κ := κ) (κ' := keyA g (bisN g b k)) (n := g.st.length) (fun x y hx hy he => by
    have h5 : (bisN g b k).getD x 0 = (bisN g b k).getD y 0 := (List.cons.inj he).1
    rw [h1] at h5
    rw [getD_at (by rw [numK_len]; exact hx), getD_at (by rw [numK_len]; exact hy)] at h5
    exact (numK_iff (κ := κ) (n := g.st.length) g.st.length (Nat.le_refl _) x y hx hy).1 h5) g.st.length (Nat.le_refl _)
  rcases Nat.lt_or_ge k (numK (keyA g (bisN g b k)) g.st.length).2 with h | h
  · exact h
  · exfalso
    refine hne ?_
    show (numK (keyA g (bisN g b k)) g.st.length).1 = _
    rw [h1] at h4 ⊢
    rw [h1] at h3 h
    exact h4 (by omega)
theorem bisN_stable {g : Graph} {b : List Int} {k : Nat} (h : bisN g b (k + 1) = bisN g b k) : ∀ j, k ≤ j → bisN g b j = bisN g b k := by
  intro j hj
  induction j with
  | zero => obtain rfl : k = 0 := by omega
            rfl
  | succ j ih =>
    rcases Nat.lt_or_ge j k with h1 | h1
    · obtain rfl : k = j + 1 := by omega
      rfl
    · rw [bisN, ih h1]; exact h
theorem BK.zero (g : Graph) (l : List Tree) : BK g (bis0 g l) 0 := by
  refine ⟨fun i => [(g.st.map (letterZ l)).getD i 0], ?_, Nat.zero_le _⟩
  show (numF _ _).1 = (numF _ _).1
  rw [numF_congr]
  intro i k _ _
  unfold sameL
  simp [eq_comm]
theorem BK.end {g : Graph} {l : List Tree} {k : Nat} (h : BK g (bis0 g l) k) (he : refL g (bisN g (bis0 g l) k) = bisN g (bis0 g l) k) : bisN g (bis0 g l) k = bisF g l :=
  (bisN_stable he _ h.le).symm

theorem bisim_new (g : Graph) (hG : GB g) (l : List Tree) (hL : LabelsOk l) : CallsA Tryz.prog 119 [.agg g.cs, lst 3 Tree.cs' l] [] (.sref 0 0 g.st.length) [.cells 1 ((bisF g l).map enI)] := by
  have c1 := labelBlocks_new g hG.vals hG.1.2 l hL
  have hb0 : (bis0 g l).length = g.st.length := numF_len _ _
  have hg1 := hG.1
  refine callsA_of tabOk Tryz.func119 rfl rfl 18 Tryz.ntmps119 (by simp) ?_
  repeat' (first | (apply AWP.go ok; rfl; conv => whnf) | (apply ord_mk; kernel_rfl; conv => whnf) | (apply And.intro; (first | omega | (unfold inI; omega) | (dsimp only; omega) | (unfold bitsOk; omega) | ((try dsimp only); simp only [List.length_map, List.length_take, List.length_append, List.length_replicate, List.length_cons, List.length_nil]; omega) | (simp only [btw_iff] at *; first | omega | (unfold inI; omega) | (unfold bitsOk; omega)) | exact stor_map (fun _ => rfl) | exact ⟨rfl, stor_cons rfl stor_nil⟩ | exact ⟨rfl, stor_map (fun _ => rfl) _⟩ | exact ⟨⟨rfl, by omega⟩, stor_map (fun _ => rfl) _⟩); conv => whnf) | (with_reducible apply get_mapN; omega; intro _; conv => whnf) | (with_reducible apply get_mapI; omega; intro _; conv => whnf) | (apply get_mapN; omega; intro _; conv => whnf) | (apply get_fill; omega; conv => whnf) | (apply ex_some; conv => whnf) | (apply get_map; omega; intro _; conv => whnf) | (apply vcG_dec <;> intro _ <;> conv => whnf) | (apply vcG_ndec <;> intro _ <;> conv => whnf) | (apply vcG_not <;> intro _ <;> conv => whnf) | (apply vcG_mk <;> intro _ <;> conv => whnf) | (apply vcIf_dec <;> intro _ <;> conv => whnf) | (apply vcIf_ndec <;> intro _ <;> conv => whnf) | (apply vcIf_not <;> intro _ <;> conv => whnf) | (apply vcIf_mk <;> intro _ <;> conv => whnf) | (apply call_gen [] [] [1] (c1); rfl; (focus ((repeat' (first | exact passOk_nil | apply passOk_cons)) <;> (first | rfl | (refine pass_flat rfl ?_; (first | exact flat_nil | exact flat_replicate rfl | exact flat_map (fun _ => rfl) | exact flat_map Tree.co_flat | (apply flat_append <;> (first | exact flat_replicate rfl | exact flat_map (fun _ => rfl))) | assumption))))); rfl; rfl; rfl; rfl; rfl; (focus ((repeat' (first | exact rens_nil | apply rens_cons)) <;> (first | exact ren_dead | exact ren_box rfl rfl | (refine ren_flat ?_; (first | exact flat_nil | exact flat_replicate rfl | exact flat_map (fun _ => rfl) | exact flat_map Tree.co_flat | (apply flat_append <;> (first | exact flat_replicate rfl | exact flat_map (fun _ => rfl))) | assumption))))); (first | exact .inl rfl | (refine .inr ⟨rfl, ?_⟩; repeat' (first | exact True.intro | apply And.intro | exact rfl | exact plainLL_map (fun _ => rfl) _))); conv => whnf))
  refine loopA (fun k : Nat => ([(2, .ptr 0 none 0), (5, .sref 1 0 g.st.length)], [.cells 2 [[lst 2 State.cs g.st, lst 1 encL g.nx]], .cells 1 ((bisN g (bis0 g l) k).map enI)])) (BK g (bis0 g l)) (fun k => g.st.length + 1 - k) 0 (BK.zero g l) ⟨[0, 1], rfl, by decide, rfl, ⟨⟨rfl, rfl⟩, ⟨rfl, rfl⟩, trivial⟩, ⟨obj_box rfl rfl, obj_flat rfl (flat_map fun _ => rfl), trivial⟩⟩ ?_
  intro k hk
  have hkl := bisN_len g _ hb0 k
  have hkle := hk.le
  have c2 := refine_new g hG (bisN g (bis0 g l) k) hkl
  have c3 := equalI_ok (refL g (bisN g (bis0 g l) k)) (bisN g (bis0 g l) k) (by rw [refL_len]; unfold maxLen; omega) (by rw [hkl]; unfold maxLen; omega)
  by_cases he : refL g (bisN g (bis0 g l) k) = bisN g (bis0 g l) k
  · have hend := hk.end he
    repeat' (first | (apply AWP.go ok; rfl; conv => whnf) | (apply ord_mk; kernel_rfl; conv => whnf) | (apply And.intro; (first | omega | (unfold inI; omega) | (dsimp only; omega) | (unfold bitsOk; omega) | ((try dsimp only); simp only [List.length_map, List.length_take, List.length_append, List.length_replicate, List.length_cons, List.length_nil]; omega) | (simp only [btw_iff] at *; first | omega | (unfold inI; omega) | (unfold bitsOk; omega)) | exact stor_map (fun _ => rfl) | exact ⟨rfl, stor_cons rfl stor_nil⟩ | exact ⟨rfl, stor_map (fun _ => rfl) _⟩ | exact ⟨⟨rfl, by omega⟩, stor_map (fun _ => rfl) _⟩); conv => whnf) | (with_reducible apply get_mapN; omega; intro _; conv => whnf) | (with_reducible apply get_mapI; omega; intro _; conv => whnf) | (apply get_mapN; omega; intro _; conv => whnf) | (apply get_fill; omega; conv => whnf) | (apply ex_some; conv => whnf) | (apply get_map; omega; intro _; conv => whnf) | (apply vcG_dec <;> intro _ <;> conv => whnf) | (apply vcG_ndec <;> intro _ <;> conv => whnf) | (apply vcG_not <;> intro _ <;> conv => whnf) | (apply vcG_mk <;> intro _ <;> conv => whnf) | (apply vcIf_dec <;> intro _ <;> conv => whnf) | (apply vcIf_ndec <;> intro _ <;> conv => whnf) | (apply vcIf_not <;> intro _ <;> conv => whnf) | (apply vcIf_mk <;> intro _ <;> conv => whnf) | (apply call_gen [] [1] [2] (c2); (focus (exact bor_cons rfl (bor_cons (bor_intsN rfl rfl rfl hkl) bor_nil))); (focus ((repeat' (first | exact passOk_nil | apply passOk_cons)) <;> (first | rfl | (refine pass_flat rfl ?_; (first | exact flat_nil | exact flat_replicate rfl | exact flat_map (fun _ => rfl) | exact flat_map Tree.co_flat | (apply flat_append <;> (first | exact flat_replicate rfl | exact flat_map (fun _ => rfl))) | assumption))))); rfl; rfl; rfl; rfl; rfl; (focus ((repeat' (first | exact rens_nil | apply rens_cons)) <;> (first | exact ren_dead | exact ren_box rfl rfl | (refine ren_flat ?_; (first | exact flat_nil | exact flat_replicate rfl | exact flat_map (fun _ => rfl) | exact flat_map Tree.co_flat | (apply flat_append <;> (first | exact flat_replicate rfl | exact flat_map (fun _ => rfl))) | assumption))))); (first | exact .inl rfl | (refine .inr ⟨rfl, ?_⟩; repeat' (first | exact True.intro | apply And.intro | exact rfl | exact plainLL_map (fun _ => rfl) _))); conv => whnf) | (apply call_gen [] [2, 1] [] (c3); (focus (exact bor_cons (bor_intsN rfl rfl rfl (refL_len _ _)) (bor_cons (bor_intsN rfl rfl rfl hkl) bor_nil))); (focus ((repeat' (first | exact passOk_nil | apply passOk_cons)) <;> (first | rfl | (refine pass_flat rfl ?_; (first | exact flat_nil | exact flat_replicate rfl | exact flat_map (fun _ => rfl) | exact flat_map Tree.co_flat | (apply flat_append <;> (first | exact flat_replicate rfl | exact flat_map (fun _ => rfl))) | assumption))))); rfl; rfl; rfl; rfl; rfl; (focus ((repeat' (first | exact rens_nil | apply rens_cons)) <;> (first | exact ren_dead | exact ren_box rfl rfl | (refine ren_flat ?_; (first | exact flat_nil | exact flat_replicate rfl | exact flat_map (fun _ => rfl) | exact flat_map Tree.co_flat | (apply flat_append <;> (first | exact flat_replicate rfl | exact flat_map (fun _ => rfl))) | assumption))))); (first | exact .inl rfl | (refine .inr ⟨rfl, ?_⟩; repeat' (first | exact True.intro | apply And.intro | exact rfl | exact plainLL_map (fun _ => rfl) _))); conv => whnf))
    all_goals first | (exfalso; exact absurd he (by assumption)) | skip
    rw [he, hend]
    exact ret_newN rfl (flat_map fun _ => rfl) rfl rfl rfl
  · repeat' (first | (apply AWP.go ok; rfl; conv => whnf) | (apply ord_mk; kernel_rfl; conv => whnf) | (apply And.intro; (first | omega | (unfold inI; omega) | (dsimp only; omega) | (unfold bitsOk; omega) | ((try dsimp only); simp only [List.length_map, List.length_take, List.length_append, List.length_replicate, List.length_cons, List.length_nil]; omega) | (simp only [btw_iff] at *; first | omega | (unfold inI; omega) | (unfold bitsOk; omega)) | exact stor_map (fun _ => rfl) | exact ⟨rfl, stor_cons rfl stor_nil⟩ | exact ⟨rfl, stor_map (fun _ => rfl) _⟩ | exact ⟨⟨rfl, by omega⟩, stor_map (fun _ => rfl) _⟩); conv => whnf) | (with_reducible apply get_mapN; omega; intro _; conv => whnf) | (with_reducible apply get_mapI; omega; intro _; conv => whnf) | (apply get_mapN; omega; intro _; conv => whnf) | (apply get_fill; omega; conv => whnf) | (apply ex_some; conv => whnf) | (apply get_map; omega; intro _; conv => whnf) | (apply vcG_dec <;> intro _ <;> conv => whnf) | (apply vcG_ndec <;> intro _ <;> conv => whnf) | (apply vcG_not <;> intro _ <;> conv => whnf) | (apply vcG_mk <;> intro _ <;> conv => whnf) | (apply vcIf_dec <;> intro _ <;> conv => whnf) | (apply vcIf_ndec <;> intro _ <;> conv => whnf) | (apply vcIf_not <;> intro _ <;> conv => whnf) | (apply vcIf_mk <;> intro _ <;> conv => whnf) | (apply call_gen [] [1] [2] (c2); (focus (exact bor_cons rfl (bor_cons (bor_intsN rfl rfl rfl hkl) bor_nil))); (focus ((repeat' (first | exact passOk_nil | apply passOk_cons)) <;> (first | rfl | (refine pass_flat rfl ?_; (first | exact flat_nil | exact flat_replicate rfl | exact flat_map (fun _ => rfl) | exact flat_map Tree.co_flat | (apply flat_append <;> (first | exact flat_replicate rfl | exact flat_map (fun _ => rfl))) | assumption))))); rfl; rfl; rfl; rfl; rfl; (focus ((repeat' (first | exact rens_nil | apply rens_cons)) <;> (first | exact ren_dead | exact ren_box rfl rfl | (refine ren_flat ?_; (first | exact flat_nil | exact flat_replicate rfl | exact flat_map (fun _ => rfl) | exact flat_map Tree.co_flat | (apply flat_append <;> (first | exact flat_replicate rfl | exact flat_map (fun _ => rfl))) | assumption))))); (first | exact .inl rfl | (refine .inr ⟨rfl, ?_⟩; repeat' (first | exact True.intro | apply And.intro | exact rfl | exact plainLL_map (fun _ => rfl) _))); conv => whnf) | (apply call_gen [] [2, 1] [] (c3); (focus (exact bor_cons (bor_intsN rfl rfl rfl (refL_len _ _)) (bor_cons (bor_intsN rfl rfl rfl hkl) bor_nil))); (focus ((repeat' (first | exact passOk_nil | apply passOk_cons)) <;> (first | rfl | (refine pass_flat rfl ?_; (first | exact flat_nil | exact flat_replicate rfl | exact flat_map (fun _ => rfl) | exact flat_map Tree.co_flat | (apply flat_append <;> (first | exact flat_replicate rfl | exact flat_map (fun _ => rfl))) | assumption))))); rfl; rfl; rfl; rfl; rfl; (focus ((repeat' (first | exact rens_nil | apply rens_cons)) <;> (first | exact ren_dead | exact ren_box rfl rfl | (refine ren_flat ?_; (first | exact flat_nil | exact flat_replicate rfl | exact flat_map (fun _ => rfl) | exact flat_map Tree.co_flat | (apply flat_append <;> (first | exact flat_replicate rfl | exact flat_map (fun _ => rfl))) | assumption))))); (first | exact .inl rfl | (refine .inr ⟨rfl, ?_⟩; repeat' (first | exact True.intro | apply And.intro | exact rfl | exact plainLL_map (fun _ => rfl) _))); conv => whnf))
    all_goals first | (exfalso; exact absurd (by assumption) he) | skip
    have hs := hk.step he
    have := hs.le
    exact again (k + 1) [0, 2] hs (by omega) ⟨rfl, by decide, rfl, ⟨⟨rfl, rfl⟩, ⟨rfl, rfl⟩, trivial⟩, ⟨obj_box rfl rfl, obj_flat rfl (flat_map fun _ => rfl), trivial⟩⟩

/-- the coarsest stable partition -/
noncomputable def bisR (g : Graph) (l : List Tree) : List Int := if glB g l then bisF g l else []
theorem bisF_len (g : Graph) (l : List Tree) : (bisF g l).length = g.st.length := bisN_len g _ (numF_len _ _) _
theorem bisR_le (g : Graph) (l : List Tree) : (bisR g l).length ≤ g.st.length := by
  unfold bisR; split
  · rw [bisF_len]; omega
  · simp

theorem implBisimulation_new (g : Graph) (hg : g.mx) (l : List Tree) (hl : Lmx l) : CallsA Tryz.prog 56 [.agg g.cs, lst 3 Tree.cs' l] [] (.tup [.sref 0 0 (bisR g l).length, .bool (glB g l)]) [.cells 1 ((bisR g l).map enI)] := by
  have c1 := graphValid_ok g hg
  have c2 := labelsValid_ok l hl.1 hl.2
  by_cases h : glB g l = true
  · have h1 : graphB g = true := by unfold glB at h; exact (Bool.and_eq_true_iff.1 h).1
    have h2 : labelsB l = true := by unfold glB at h; exact (Bool.and_eq_true_iff.1 h).2
    have hG := (graphB_iff g).1 h1
    have hL := LabelsOk.of h2
    have c3 := bisim_new g hG l hL
    have e : bisR g l = bisF g l := by unfold bisR; rw [if_pos h]
    rw [e, bisF_len, h]
    rw [h1] at c1
    rw [h2] at c2
    refine callsA_of tabOk Tryz.func56 rfl rfl 17 Tryz.ntmps56 (by simp) ?_
    repeat' (first | (apply AWP.go ok; rfl; conv => whnf) | (apply ord_mk; kernel_rfl; conv => whnf) | (apply And.intro; (first | omega | (unfold inI; omega) | (dsimp only; omega) | (unfold bitsOk; omega) | ((try dsimp only); simp only [List.length_map, List.length_take, List.length_append, List.length_replicate, List.length_cons, List.length_nil]; omega) | (simp only [btw_iff] at *; first | omega | (unfold inI; omega) | (unfold bitsOk; omega)) | exact stor_map (fun _ => rfl) | exact ⟨rfl, stor_cons rfl stor_nil⟩ | exact ⟨rfl, stor_map (fun _ => rfl) _⟩ | exact ⟨⟨rfl, by omega⟩, stor_map (fun _ => rfl) _⟩); conv => whnf) | (with_reducible apply get_mapN; omega; intro _; conv => whnf) | (with_reducible apply get_mapI; omega; intro _; conv => whnf) | (apply get_mapN; omega; intro _; conv => whnf) | (apply get_fill; omega; conv => whnf) | (apply ex_some; conv => whnf) | (apply get_map; omega; intro _; conv => whnf) | (apply vcG_dec <;> intro _ <;> conv => whnf) | (apply vcG_ndec <;> intro _ <;> conv => whnf) | (apply vcG_not <;> intro _ <;> conv => whnf) | (apply vcG_mk <;> intro _ <;> conv => whnf) | (apply vcIf_dec <;> intro _ <;> conv => whnf) | (apply vcIf_ndec <;> intro _ <;> conv => whnf) | (apply vcIf_not <;> intro _ <;> conv => whnf) | (apply vcIf_mk <;> intro _ <;> conv => whnf) | (apply call_data (c1); rfl; rfl; conv => whnf) | (apply call_data (c2); rfl; rfl; conv => whnf) | (apply call_gen [] [] [1] (c3); rfl; (focus ((repeat' (first | exact passOk_nil | apply passOk_cons)) <;> (first | rfl | (refine pass_flat rfl ?_; (first | exact flat_nil | exact flat_replicate rfl | exact flat_map (fun _ => rfl) | exact flat_map Tree.co_flat | (apply flat_append <;> (first | exact flat_replicate rfl | exact flat_map (fun _ => rfl))) | assumption))))); rfl; rfl; rfl; rfl; rfl; (focus ((repeat' (first | exact rens_nil | apply rens_cons)) <;> (first | exact ren_dead | exact ren_box rfl rfl | (refine ren_flat ?_; (first | exact flat_nil | exact flat_replicate rfl | exact flat_map (fun _ => rfl) | exact flat_map Tree.co_flat | (apply flat_append <;> (first | exact flat_replicate rfl | exact flat_map (fun _ => rfl))) | assumption))))); (first | exact .inl rfl | (refine .inr ⟨rfl, ?_⟩; repeat' (first | exact True.intro | apply And.intro | exact rfl | exact plainLL_map (fun _ => rfl) _))); conv => whnf))
    exact ret_objs [1] (by decide) rfl rfl rfl ⟨obj_flat rfl (flat_map fun _ => rfl), trivial⟩
  · have h := (Bool.not_eq_true _).mp h
    have e : bisR g l = [] := by unfold bisR; rw [h]; rfl
    rw [e, h]
    refine CallsA.nils (res := .tup [.nils, .bool false]) ?_ (by simp) (tup_sref nil_sref)
    refine callsA_of tabOk Tryz.func56 rfl rfl 17 Tryz.ntmps56 (by simp) ?_
    repeat' (first | (apply AWP.go ok; rfl; conv => whnf) | (apply ord_mk; kernel_rfl; conv => whnf) | (apply And.intro; (first | omega | (unfold inI; omega) | (dsimp only; omega) | (unfold bitsOk; omega) | ((try dsimp only); simp only [List.length_map, List.length_take, List.length_append, List.length_replicate, List.length_cons, List.length_nil]; omega) | (simp only [btw_iff] at *; first | omega | (unfold inI; omega) | (unfold bitsOk; omega)) | exact stor_map (fun _ => rfl) | exact ⟨rfl, stor_cons rfl stor_nil⟩ | exact ⟨rfl, stor_map (fun _ => rfl) _⟩ | exact ⟨⟨rfl, by omega⟩, stor_map (fun _ => rfl) _⟩); conv => whnf) | (with_reducible apply get_mapN; omega; intro _; conv => whnf) | (with_reducible apply get_mapI; omega; intro _; conv => whnf) | (apply get_mapN; omega; intro _; conv => whnf) | (apply get_fill; omega; conv => whnf) | (apply ex_some; conv => whnf) | (apply get_map; omega; intro _; conv => whnf) | (apply vcG_dec <;> intro _ <;> conv => whnf) | (apply vcG_ndec <;> intro _ <;> conv => whnf) | (apply vcG_not <;> intro _ <;> conv => whnf) | (apply vcG_mk <;> intro _ <;> conv => whnf) | (apply vcIf_dec <;> intro _ <;> conv => whnf) | (apply vcIf_ndec <;> intro _ <;> conv => whnf) | (apply vcIf_not <;> intro _ <;> conv => whnf) | (apply vcIf_mk <;> intro _ <;> conv => whnf) | (apply call_data (c1); rfl; rfl; conv => whnf) | (apply call_data (c2); rfl; rfl; conv => whnf))
    all_goals first | exact ret_data rfl rfl rfl | (exfalso; unfold glB at h; simp_all; done)
theorem implBisimulation_ok (g : Graph) (hg : g.mx) (l : List Tree) (hl : Lmx l) : CallsA Tryz.prog 56 [.agg g.cs, lst 3 Tree.cs' l] [] (.tup [ints (bisR g l), .bool (glB g l)]) [] := by
  have := (implBisimulation_new g hg l hl).keepT (L := (bisR g l).map enI) (enc_unown1 _ _) (by simp) rfl
  exact this

theorem specBisimulation_ok (g : Graph) (hg : g.mx) (l : List Tree) (hl : Lmx l) : CallsA Tryz.prog 55 [.agg g.cs, lst 3 Tree.cs' l] [] (.tup [ints (bisR g l), .bool (glB g l)]) [] := by
  have c1 := specLabelBlocks_ok g hg l hl
  by_cases h : glB g l = true
  · have h1 : graphB g = true := by unfold glB at h; exact (Bool.and_eq_true_iff.1 h).1
    have hG := (graphB_iff g).1 h1
    have e : bisR g l = bisF g l := by unfold bisR; rw [if_pos h]
    have e2 : lblB g l = bis0 g l := by unfold lblB; rw [if_pos h]; rfl
    have hb0 : (bis0 g l).length = g.st.length := numF_len _ _
    have hg1 := hG.1
    rw [h, e2] at c1
    rw [e, h]
    refine callsA_of tabOk Tryz.func55 rfl rfl 26 Tryz.ntmps55 (by simp) ?_
    repeat' (first | (apply AWP.go ok; rfl; conv => whnf) | (apply ord_mk; kernel_rfl; conv => whnf) | (apply And.intro; (first | omega | (unfold inI; omega) | (dsimp only; omega) | (unfold bitsOk; omega) | ((try dsimp only); simp only [List.length_map, List.length_take, List.length_append, List.length_replicate, List.length_cons, List.length_nil]; omega) | (simp only [btw_iff] at *; first | omega | (unfold inI; omega) | (unfold bitsOk; omega)) | exact stor_map (fun _ => rfl) | exact ⟨rfl, stor_cons rfl stor_nil⟩ | exact ⟨rfl, stor_map (fun _ => rfl) _⟩ | exact ⟨⟨rfl, by omega⟩, stor_map (fun _ => rfl) _⟩); conv => whnf) | (with_reducible apply get_mapN; omega; intro _; conv => whnf) | (with_reducible apply get_mapI; omega; intro _; conv => whnf) | (apply get_mapN; omega; intro _; conv => whnf) | (apply get_fill; omega; conv => whnf) | (apply ex_some; conv => whnf) | (apply get_map; omega; intro _; conv => whnf) | (apply vcG_dec <;> intro _ <;> conv => whnf) | (apply vcG_ndec <;> intro _ <;> conv => whnf) | (apply vcG_not <;> intro _ <;> conv => whnf) | (apply vcG_mk <;> intro _ <;> conv => whnf) | (apply vcIf_dec <;> intro _ <;> conv => whnf) | (apply vcIf_ndec <;> intro _ <;> conv => whnf) | (apply vcIf_not <;> intro _ <;> conv => whnf) | (apply vcIf_mk <;> intro _ <;> conv => whnf) | (apply call_data (c1); rfl; rfl; conv => whnf))
    refine loopA (fun k : Nat => ([(2, .ptr 0 none 0), (6, ints (bisN g (bis0 g l) k))], [.cells 2 [[lst 2 State.cs g.st, lst 1 encL g.nx]]])) (BK g (bis0 g l)) (fun k => g.st.length + 1 - k) 0 (BK.zero g l) ⟨[0], rfl, by decide, rfl, ⟨⟨rfl, rfl⟩, ⟨rfl, rfl⟩, trivial⟩, ⟨obj_box rfl rfl, trivial⟩⟩ ?_
    intro k hk
    have hkl := bisN_len g _ hb0 k
    have hkle := hk.le
    have c2 := keepI (l10Refine_new g hG (bisN g (bis0 g l) k) hkl) (refL_len _ _)
    have c3 := l2Ints_ok (refL g (bisN g (bis0 g l) k)) (bisN g (bis0 g l) k) (by rw [refL_len]; unfold maxLen; omega) (by rw [hkl]; unfold maxLen; omega)
    by_cases he : refL g (bisN g (bis0 g l) k) = bisN g (bis0 g l) k
    · have hend := hk.end he
      repeat' (first | (apply AWP.go ok; rfl; conv => whnf) | (apply ord_mk; kernel_rfl; conv => whnf) | (apply And.intro; (first | omega | (unfold inI; omega) | (dsimp only; omega) | (unfold bitsOk; omega) | ((try dsimp only); simp only [List.length_map, List.length_take, List.length_append, List.length_replicate, List.length_cons, List.length_nil]; omega) | (simp only [btw_iff] at *; first | omega | (unfold inI; omega) | (unfold bitsOk; omega)) | exact stor_map (fun _ => rfl) | exact ⟨rfl, stor_cons rfl stor_nil⟩ | exact ⟨rfl, stor_map (fun _ => rfl) _⟩ | exact ⟨⟨rfl, by omega⟩, stor_map (fun _ => rfl) _⟩); conv => whnf) | (with_reducible apply get_mapN; omega; intro _; conv => whnf) | (with_reducible apply get_mapI; omega; intro _; conv => whnf) | (apply get_mapN; omega; intro _; conv => whnf) | (apply get_fill; omega; conv => whnf) | (apply ex_some; conv => whnf) | (apply get_map; omega; intro _; conv => whnf) | (apply vcG_dec <;> intro _ <;> conv => whnf) | (apply vcG_ndec <;> intro _ <;> conv => whnf) | (apply vcG_not <;> intro _ <;> conv => whnf) | (apply vcG_mk <;> intro _ <;> conv => whnf) | (apply vcIf_dec <;> intro _ <;> conv => whnf) | (apply vcIf_ndec <;> intro _ <;> conv => whnf) | (apply vcIf_not <;> intro _ <;> conv => whnf) | (apply vcIf_mk <;> intro _ <;> conv => whnf) | (apply call_data (c2); rfl; rfl; conv => whnf) | (apply call_data (c3); rfl; rfl; conv => whnf))
      all_goals first | (exfalso; exact absurd he (by assumption)) | skip
      rw [hend]
      exact ret_data rfl rfl rfl
    · repeat' (first | (apply AWP.go ok; rfl; conv => whnf) | (apply ord_mk; kernel_rfl; conv => whnf) | (apply And.intro; (first | omega | (unfold inI; omega) | (dsimp only; omega) | (unfold bitsOk; omega) | ((try dsimp only); simp only [List.length_map, List.length_take, List.length_append, List.length_replicate, List.length_cons, List.length_nil]; omega) | (simp only [btw_iff] at *; first | omega | (unfold inI; omega) | (unfold bitsOk; omega)) | exact stor_map (fun _ => rfl) | exact ⟨rfl, stor_cons rfl stor_nil⟩ | exact ⟨rfl, stor_map (fun _ => rfl) _⟩ | exact ⟨⟨rfl, by omega⟩, stor_map (fun _ => rfl) _⟩); conv => whnf) | (with_reducible apply get_mapN; omega; intro _; conv => whnf) | (with_reducible apply get_mapI; omega; intro _; conv => whnf) | (apply get_mapN; omega; intro _; conv => whnf) | (apply get_fill; omega; conv => whnf) | (apply ex_some; conv => whnf) | (apply get_map; omega; intro _; conv => whnf) | (apply vcG_dec <;> intro _ <;> conv => whnf) | (apply vcG_ndec <;> intro _ <;> conv => whnf) | (apply vcG_not <;> intro _ <;> conv => whnf) | (apply vcG_mk <;> intro _ <;> conv => whnf) | (apply vcIf_dec <;> intro _ <;> conv => whnf) | (apply vcIf_ndec <;> intro _ <;> conv => whnf) | (apply vcIf_not <;> intro _ <;> conv => whnf) | (apply vcIf_mk <;> intro _ <;> conv => whnf) | (apply call_data (c2); rfl; rfl; conv => whnf) | (apply call_data (c3); rfl; rfl; conv => whnf))
      all_goals first | (exfalso; exact absurd (by assumption) he) | skip
      have hs := hk.step he
      have := hs.le
      exact again (k + 1) [0] hs (by omega) ⟨rfl, by decide, rfl, ⟨⟨rfl, rfl⟩, ⟨rfl, rfl⟩, trivial⟩, ⟨obj_box rfl rfl, trivial⟩⟩
  · have h := (Bool.not_eq_true _).mp h
    have e : bisR g l = [] := by unfold bisR; rw [h]; rfl
    rw [h] at c1
    rw [e, h]
    refine callsA_of tabOk Tryz.func55 rfl rfl 26 Tryz.ntmps55 (by simp) ?_
    repeat' (first | (apply AWP.go ok; rfl; conv => whnf) | (apply ord_mk; kernel_rfl; conv => whnf) | (apply And.intro; (first | omega | (unfold inI; omega) | (dsimp only; omega) | (unfold bitsOk; omega) | ((try dsimp only); simp only [List.length_map, List.length_take, List.length_append, List.length_replicate, List.length_cons, List.length_nil]; omega) | (simp only [btw_iff] at *; first | omega | (unfold inI; omega) | (unfold bitsOk; omega)) | exact stor_map (fun _ => rfl) | exact ⟨rfl, stor_cons rfl stor_nil⟩ | exact ⟨rfl, stor_map (fun _ => rfl) _⟩ | exact ⟨⟨rfl, by omega⟩, stor_map (fun _ => rfl) _⟩); conv => whnf) | (with_reducible apply get_mapN; omega; intro _; conv => whnf) | (with_reducible apply get_mapI; omega; intro _; conv => whnf) | (apply get_mapN; omega; intro _; conv => whnf) | (apply get_fill; omega; conv => whnf) | (apply ex_some; conv => whnf) | (apply get_map; omega; intro _; conv => whnf) | (apply vcG_dec <;> intro _ <;> conv => whnf) | (apply vcG_ndec <;> intro _ <;> conv => whnf) | (apply vcG_not <;> intro _ <;> conv => whnf) | (apply vcG_mk <;> intro _ <;> conv => whnf) | (apply vcIf_dec <;> intro _ <;> conv => whnf) | (apply vcIf_ndec <;> intro _ <;> conv => whnf) | (apply vcIf_not <;> intro _ <;> conv => whnf) | (apply vcIf_mk <;> intro _ <;> conv => whnf) | (apply call_data (c1); rfl; rfl; conv => whnf))
    all_goals first | exact ret_le rfl rfl (tup_le2 sref_le) | (exfalso; simp_all; done)
end Go.Proofs.YtcmihlbihppflaaGreat

namespace Go.Proofs.YtcmihlbihppflaaGreat
open Go.Gl
attribute [local irreducible] vcCall AWP RetOk Again ordOk

/-- how many numbers have occurred -/
def mst (bl : List Int) : Nat → Int
  | 0 => 0
  | i + 1 => if bl.getD i 0 = mst bl i then mst bl i + 1 else mst bl i
theorem mst_range (bl : List Int) (i : Nat) : 0 ≤ mst bl i ∧ mst bl i ≤ i := by
  induction i with
  | zero => exact ⟨Int.le_refl _, Int.le_refl _⟩
  | succ i ih => rw [mst]; split <;> omega
def PartP (bl : List Int) : Prop := ∀ i (h : i < bl.length), 0 ≤ bl[i] ∧ bl[i] ≤ mst bl i
noncomputable instance {bl : List Int} : Decidable (PartP bl) := Classical.propDecidable _

theorem isPartition_ok (bl : List Int) (hl : bl.length ≤ 1048576) (n : Int) : CallsA Tryz.prog 186 [ints bl, .int n] [] (.bool (decide (PartP bl) && decide ((bl.length : Int) = n))) [] := by
  refine callsA_of tabOk Tryz.func186 rfl rfl 28 Tryz.ntmps186 (by simp) ?_
  repeat' (first | (apply AWP.go ok; rfl; conv => whnf) | (apply ord_mk; kernel_rfl; conv => whnf) | (apply And.intro; (first | omega | (unfold inI; omega) | (dsimp only; omega) | (unfold bitsOk; omega) | ((try dsimp only); simp only [List.length_map, List.length_take, List.length_append, List.length_replicate, List.length_cons, List.length_nil]; omega) | (simp only [btw_iff] at *; first | omega | (unfold inI; omega) | (unfold bitsOk; omega)) | exact stor_map (fun _ => rfl) | exact ⟨rfl, stor_cons rfl stor_nil⟩ | exact ⟨rfl, stor_map (fun _ => rfl) _⟩ | exact ⟨⟨rfl, by omega⟩, stor_map (fun _ => rfl) _⟩); conv => whnf) | (with_reducible apply get_mapN; omega; intro _; conv => whnf) | (with_reducible apply get_mapI; omega; intro _; conv => whnf) | (apply get_mapN; omega; intro _; conv => whnf) | (apply get_fill; omega; conv => whnf) | (apply ex_some; conv => whnf) | (apply get_map; omega; intro _; conv => whnf) | (apply vcG_dec <;> intro _ <;> conv => whnf) | (apply vcG_ndec <;> intro _ <;> conv => whnf) | (apply vcG_not <;> intro _ <;> conv => whnf) | (apply vcG_mk <;> intro _ <;> conv => whnf) | (apply vcIf_dec <;> intro _ <;> conv => whnf) | (apply vcIf_ndec <;> intro _ <;> conv => whnf) | (apply vcIf_not <;> intro _ <;> conv => whnf) | (apply vcIf_mk <;> intro _ <;> conv => whnf))
  refine loopA (fun i : Nat => ([(0, ints bl), (1, .int n), (5, .int (mst bl i)), (8, ints bl), (9, .int bl.length), (10, .int i)], [])) (fun i => i ≤ bl.length ∧ ∀ j (h : j < bl.length), j < i → 0 ≤ bl[j] ∧ bl[j] ≤ mst bl j) (fun i => bl.length - i) 0 ⟨by omega, fun j _ h => by omega⟩ ⟨[], rfl, by decide, rfl, ⟨⟨rfl, rfl⟩, ⟨rfl, rfl⟩, ⟨rfl, rfl⟩, ⟨rfl, rfl⟩, ⟨rfl, rfl⟩, ⟨rfl, rfl⟩, trivial⟩, trivial⟩ ?_
  rintro i ⟨hi1, hi2⟩
  have hm := mst_range bl i
  by_cases hil : i < bl.length
  · have c1 := in_ok bl[i] 0 (mst bl i)
    have em : mst bl (i + 1) = if bl[i] = mst bl i then mst bl i + 1 else mst bl i := by rw [mst, getD_at hil]
    by_cases hb : 0 ≤ bl[i] ∧ bl[i] ≤ mst bl i
    · rw [btw_iff.2 hb] at c1
      have hok : ∀ j (h : j < bl.length), j < i + 1 → 0 ≤ bl[j] ∧ bl[j] ≤ mst bl j := fun j hj hji => by
        rcases Nat.lt_or_ge j i with h3 | h3
        · exact hi2 j hj h3
        · obtain rfl : j = i := by omega
          exact hb
      by_cases he : bl[i] = mst bl i
      · rw [if_pos he] at em
        repeat' (first | (apply AWP.go ok; rfl; conv => whnf) | (apply ord_mk; kernel_rfl; conv => whnf) | (apply And.intro; (first | omega | (unfold inI; omega) | (dsimp only; omega) | (unfold bitsOk; omega) | ((try dsimp only); simp only [List.length_map, List.length_take, List.length_append, List.length_replicate, List.length_cons, List.length_nil]; omega) | (simp only [btw_iff] at *; first | omega | (unfold inI; omega) | (unfold bitsOk; omega)) | exact stor_map (fun _ => rfl) | exact ⟨rfl, stor_cons rfl stor_nil⟩ | exact ⟨rfl, stor_map (fun _ => rfl) _⟩ | exact ⟨⟨rfl, by omega⟩, stor_map (fun _ => rfl) _⟩); conv => whnf) | (with_reducible apply get_mapN; omega; intro _; conv => whnf) | (with_reducible apply get_mapI; omega; intro _; conv => whnf) | (apply get_mapN; omega; intro _; conv => whnf) | (apply get_fill; omega; conv => whnf) | (apply ex_some; conv => whnf) | (apply get_map; omega; intro _; conv => whnf) | (apply vcG_dec <;> intro _ <;> conv => whnf) | (apply vcG_ndec <;> intro _ <;> conv => whnf) | (apply vcG_not <;> intro _ <;> conv => whnf) | (apply vcG_mk <;> intro _ <;> conv => whnf) | (apply vcIf_dec <;> intro _ <;> conv => whnf) | (apply vcIf_ndec <;> intro _ <;> conv => whnf) | (apply vcIf_not <;> intro _ <;> conv => whnf) | (apply vcIf_mk <;> intro _ <;> conv => whnf) | (apply call_data (c1); rfl; rfl; conv => whnf))
        all_goals first | (exfalso; omega) | skip
        exact again (i + 1) [] ⟨by omega, hok⟩ (by omega) ⟨rfl, by decide, rfl, ⟨⟨rfl, rfl⟩, ⟨rfl, rfl⟩, ⟨rfl, env_int em.symm⟩, ⟨rfl, rfl⟩, ⟨rfl, rfl⟩, ⟨rfl, rfl⟩, trivial⟩, trivial⟩
      · rw [if_neg he] at em
        repeat' (first | (apply AWP.go ok; rfl; conv => whnf) | (apply ord_mk; kernel_rfl; conv => whnf) | (apply And.intro; (first | omega | (unfold inI; omega) | (dsimp only; omega) | (unfold bitsOk; omega) | ((try dsimp only); simp only [List.length_map, List.length_take, List.length_append, List.length_replicate, List.length_cons, List.length_nil]; omega) | (simp only [btw_iff] at *; first | omega | (unfold inI; omega) | (unfold bitsOk; omega)) | exact stor_map (fun _ => rfl) | exact ⟨rfl, stor_cons rfl stor_nil⟩ | exact ⟨rfl, stor_map (fun _ => rfl) _⟩ | exact ⟨⟨rfl, by omega⟩, stor_map (fun _ => rfl) _⟩); conv => whnf) | (with_reducible apply get_mapN; omega; intro _; conv => whnf) | (with_reducible apply get_mapI; omega; intro _; conv => whnf) | (apply get_mapN; omega; intro _; conv => whnf) | (apply get_fill; omega; conv => whnf) | (apply ex_some; conv => whnf) | (apply get_map; omega; intro _; conv => whnf) | (apply vcG_dec <;> intro _ <;> conv => whnf) | (apply vcG_ndec <;> intro _ <;> conv => whnf) | (apply vcG_not <;> intro _ <;> conv => whnf) | (apply vcG_mk <;> intro _ <;> conv => whnf) | (apply vcIf_dec <;> intro _ <;> conv => whnf) | (apply vcIf_ndec <;> intro _ <;> conv => whnf) | (apply vcIf_not <;> intro _ <;> conv => whnf) | (apply vcIf_mk <;> intro _ <;> conv => whnf) | (apply call_data (c1); rfl; rfl; conv => whnf))
        all_goals first | (exfalso; omega) | skip
        exact again (i + 1) [] ⟨by omega, hok⟩ (by omega) ⟨rfl, by decide, rfl, ⟨⟨rfl, rfl⟩, ⟨rfl, rfl⟩, ⟨rfl, env_int em.symm⟩, ⟨rfl, rfl⟩, ⟨rfl, rfl⟩, ⟨rfl, rfl⟩, trivial⟩, trivial⟩
    · rw [btw_no.2 hb] at c1
      have hno : ¬ PartP bl := fun h => hb (h i hil)
      repeat' (first | (apply AWP.go ok; rfl; conv => whnf) | (apply ord_mk; kernel_rfl; conv => whnf) | (apply And.intro; (first | omega | (unfold inI; omega) | (dsimp only; omega) | (unfold bitsOk; omega) | ((try dsimp only); simp only [List.length_map, List.length_take, List.length_append, List.length_replicate, List.length_cons, List.length_nil]; omega) | (simp only [btw_iff] at *; first | omega | (unfold inI; omega) | (unfold bitsOk; omega)) | exact stor_map (fun _ => rfl) | exact ⟨rfl, stor_cons rfl stor_nil⟩ | exact ⟨rfl, stor_map (fun _ => rfl) _⟩ | exact ⟨⟨rfl, by omega⟩, stor_map (fun _ => rfl) _⟩); conv => whnf) | (with_reducible apply get_mapN; omega; intro _; conv => whnf) | (with_reducible apply get_mapI; omega; intro _; conv => whnf) | (apply get_mapN; omega; intro _; conv => whnf) | (apply get_fill; omega; conv => whnf) | (apply ex_some; conv => whnf) | (apply get_map; omega; intro _; conv => whnf) | (apply vcG_dec <;> intro _ <;> conv => whnf) | (apply vcG_ndec <;> intro _ <;> conv => whnf) | (apply vcG_not <;> intro _ <;> conv => whnf) | (apply vcG_mk <;> intro _ <;> conv => whnf) | (apply vcIf_dec <;> intro _ <;> conv => whnf) | (apply vcIf_ndec <;> intro _ <;> conv => whnf) | (apply vcIf_not <;> intro _ <;> conv => whnf) | (apply vcIf_mk <;> intro _ <;> conv => whnf) | (apply call_data (c1); rfl; rfl; conv => whnf))
      all_goals first | (exfalso; omega) | skip
      exact ret_bool rfl (by rw [decide_eq_false hno]; rfl)
  · have hp : PartP bl := fun j hj => hi2 j hj (by omega)
    repeat' (first | (apply AWP.go ok; rfl; conv => whnf) | (apply ord_mk; kernel_rfl; conv => whnf) | (apply And.intro; (first | omega | (unfold inI; omega) | (dsimp only; omega) | (unfold bitsOk; omega) | ((try dsimp only); simp only [List.length_map, List.length_take, List.length_append, List.length_replicate, List.length_cons, List.length_nil]; omega) | (simp only [btw_iff] at *; first | omega | (unfold inI; omega) | (unfold bitsOk; omega)) | exact stor_map (fun _ => rfl) | exact ⟨rfl, stor_cons rfl stor_nil⟩ | exact ⟨rfl, stor_map (fun _ => rfl) _⟩ | exact ⟨⟨rfl, by omega⟩, stor_map (fun _ => rfl) _⟩); conv => whnf) | (with_reducible apply get_mapN; omega; intro _; conv => whnf) | (with_reducible apply get_mapI; omega; intro _; conv => whnf) | (apply get_mapN; omega; intro _; conv => whnf) | (apply get_fill; omega; conv => whnf) | (apply ex_some; conv => whnf) | (apply get_map; omega; intro _; conv => whnf) | (apply vcG_dec <;> intro _ <;> conv => whnf) | (apply vcG_ndec <;> intro _ <;> conv => whnf) | (apply vcG_not <;> intro _ <;> conv => whnf) | (apply vcG_mk <;> intro _ <;> conv => whnf) | (apply vcIf_dec <;> intro _ <;> conv => whnf) | (apply vcIf_ndec <;> intro _ <;> conv => whnf) | (apply vcIf_not <;> intro _ <;> conv => whnf) | (apply vcIf_mk <;> intro _ <;> conv => whnf))
    all_goals first | (exfalso; omega) | skip
    exact ret_bool rfl (by rw [decide_eq_true hp]; rfl)

noncomputable def bvB (g : Graph) (bl : List Int) : Bool := graphB g && (decide (PartP bl) && decide ((bl.length : Int) = g.st.length))
theorem implBlocksValid_ok (g : Graph) (hg : g.mx) (bl : List Int) (hl : bl.length ≤ 1048576) : CallsA Tryz.prog 114 [.agg g.cs, ints bl] [] (.bool (bvB g bl)) [] := by
  have c1 := graphValid_ok g hg
  have c2 := isPartition_ok bl hl g.st.length
  unfold bvB
  generalize graphB g = q at *
  refine callsA_of tabOk Tryz.func114 rfl rfl 14 Tryz.ntmps114 (by simp) ?_
  cases q
  all_goals repeat' (first | (apply AWP.go ok; rfl; conv => whnf) | (apply ord_mk; kernel_rfl; conv => whnf) | (apply And.intro; (first | omega | (unfold inI; omega) | (dsimp only; omega) | (unfold bitsOk; omega) | ((try dsimp only); simp only [List.length_map, List.length_take, List.length_append, List.length_replicate, List.length_cons, List.length_nil]; omega) | (simp only [btw_iff] at *; first | omega | (unfold inI; omega) | (unfold bitsOk; omega)) | exact stor_map (fun _ => rfl) | exact ⟨rfl, stor_cons rfl stor_nil⟩ | exact ⟨rfl, stor_map (fun _ => rfl) _⟩ | exact ⟨⟨rfl, by omega⟩, stor_map (fun _ => rfl) _⟩); conv => whnf) | (with_reducible apply get_mapN; omega; intro _; conv => whnf) | (with_reducible apply get_mapI; omega; intro _; conv => whnf) | (apply get_mapN; omega; intro _; conv => whnf) | (apply get_fill; omega; conv => whnf) | (apply ex_some; conv => whnf) | (apply get_map; omega; intro _; conv => whnf) | (apply vcG_dec <;> intro _ <;> conv => whnf) | (apply vcG_ndec <;> intro _ <;> conv => whnf) | (apply vcG_not <;> intro _ <;> conv => whnf) | (apply vcG_mk <;> intro _ <;> conv => whnf) | (apply vcIf_dec <;> intro _ <;> conv => whnf) | (apply vcIf_ndec <;> intro _ <;> conv => whnf) | (apply vcIf_not <;> intro _ <;> conv => whnf) | (apply vcIf_mk <;> intro _ <;> conv => whnf) | (apply call_data (c1); rfl; rfl; conv => whnf) | (apply call_data (c2); rfl; rfl; conv => whnf))
  all_goals exact ret_bool rfl rfl

theorem specBlocksValid_ok (g : Graph) (hg : g.mx) (bl : List Int) (hl : bl.length ≤ 1048576) (hst : g.st.length ≤ 1048576) : CallsA Tryz.prog 111 [.agg g.cs, ints bl] [] (.bool (bvB g bl)) [] := by
  have c1 := specGraphValid_ok g hg
  unfold bvB
  generalize graphB g = q at *
  refine callsA_of tabOk Tryz.func111 rfl rfl 45 Tryz.ntmps111 (by simp) ?_
  cases q
  · repeat' (first | (apply AWP.go ok; rfl; conv => whnf) | (apply ord_mk; kernel_rfl; conv => whnf) | (apply And.intro; (first | omega | (unfold inI; omega) | (dsimp only; omega) | (unfold bitsOk; omega) | ((try dsimp only); simp only [List.length_map, List.length_take, List.length_append, List.length_replicate, List.length_cons, List.length_nil]; omega) | (simp only [btw_iff] at *; first | omega | (unfold inI; omega) | (unfold bitsOk; omega)) | exact stor_map (fun _ => rfl) | exact ⟨rfl, stor_cons rfl stor_nil⟩ | exact ⟨rfl, stor_map (fun _ => rfl) _⟩ | exact ⟨⟨rfl, by omega⟩, stor_map (fun _ => rfl) _⟩); conv => whnf) | (with_reducible apply get_mapN; omega; intro _; conv => whnf) | (with_reducible apply get_mapI; omega; intro _; conv => whnf) | (apply get_mapN; omega; intro _; conv => whnf) | (apply get_fill; omega; conv => whnf) | (apply ex_some; conv => whnf) | (apply get_map; omega; intro _; conv => whnf) | (apply vcG_dec <;> intro _ <;> conv => whnf) | (apply vcG_ndec <;> intro _ <;> conv => whnf) | (apply vcG_not <;> intro _ <;> conv => whnf) | (apply vcG_mk <;> intro _ <;> conv => whnf) | (apply vcIf_dec <;> intro _ <;> conv => whnf) | (apply vcIf_ndec <;> intro _ <;> conv => whnf) | (apply vcIf_not <;> intro _ <;> conv => whnf) | (apply vcIf_mk <;> intro _ <;> conv => whnf) | (apply call_data (c1); rfl; rfl; conv => whnf))
    all_goals first | (exfalso; simp_all; done) | exact ret_bool rfl rfl
  by_cases hlen : (bl.length : Int) = g.st.length
  · repeat' (first | (apply AWP.go ok; rfl; conv => whnf) | (apply ord_mk; kernel_rfl; conv => whnf) | (apply And.intro; (first | omega | (unfold inI; omega) | (dsimp only; omega) | (unfold bitsOk; omega) | ((try dsimp only); simp only [List.length_map, List.length_take, List.length_append, List.length_replicate, List.length_cons, List.length_nil]; omega) | (simp only [btw_iff] at *; first | omega | (unfold inI; omega) | (unfold bitsOk; omega)) | exact stor_map (fun _ => rfl) | exact ⟨rfl, stor_cons rfl stor_nil⟩ | exact ⟨rfl, stor_map (fun _ => rfl) _⟩ | exact ⟨⟨rfl, by omega⟩, stor_map (fun _ => rfl) _⟩); conv => whnf) | (with_reducible apply get_mapN; omega; intro _; conv => whnf) | (with_reducible apply get_mapI; omega; intro _; conv => whnf) | (apply get_mapN; omega; intro _; conv => whnf) | (apply get_fill; omega; conv => whnf) | (apply ex_some; conv => whnf) | (apply get_map; omega; intro _; conv => whnf) | (apply vcG_dec <;> intro _ <;> conv => whnf) | (apply vcG_ndec <;> intro _ <;> conv => whnf) | (apply vcG_not <;> intro _ <;> conv => whnf) | (apply vcG_mk <;> intro _ <;> conv => whnf) | (apply vcIf_dec <;> intro _ <;> conv => whnf) | (apply vcIf_ndec <;> intro _ <;> conv => whnf) | (apply vcIf_not <;> intro _ <;> conv => whnf) | (apply vcIf_mk <;> intro _ <;> conv => whnf) | (apply call_data (c1); rfl; rfl; conv => whnf))
    all_goals first | (exfalso; simp_all; done) | (exfalso; omega) | skip
    rw [decide_eq_true hlen]
    refine loopA (fun i : Nat => ([(1, ints bl), (5, .int (mst bl i)), (6, .int i)], [])) (fun i => i ≤ bl.length ∧ ∀ j (h : j < bl.length), j < i → 0 ≤ bl[j] ∧ bl[j] ≤ mst bl j) (fun i => bl.length - i) 0 ⟨by omega, fun j _ h => by omega⟩ ⟨[], rfl, by decide, rfl, ⟨⟨rfl, rfl⟩, ⟨rfl, rfl⟩, ⟨rfl, rfl⟩, trivial⟩, trivial⟩ ?_
    rintro i ⟨hi1, hi2⟩
    have hm := mst_range bl i
    by_cases hil : i < bl.length
    · have em : mst bl (i + 1) = if bl[i] = mst bl i then mst bl i + 1 else mst bl i := by rw [mst, getD_at hil]
      have hgi : (bl.map enI)[i]? = some (enI bl[i]) := by rw [List.getElem?_map, List.getElem?_eq_getElem hil]; rfl
      by_cases hb : 0 ≤ bl[i] ∧ bl[i] ≤ mst bl i
      · have hok : ∀ j (h : j < bl.length), j < i + 1 → 0 ≤ bl[j] ∧ bl[j] ≤ mst bl j := fun j hj hji => by
          rcases Nat.lt_or_ge j i with h3 | h3
          · exact hi2 j hj h3
          · obtain rfl : j = i := by omega
            exact hb
        by_cases he : bl[i] = mst bl i
        · rw [if_pos he] at em
          repeat' (first | (apply AWP.go ok; rfl; conv => whnf) | (apply ord_mk; kernel_rfl; conv => whnf) | (refine get_eq (i := i) rfl hgi ?_; conv => whnf) | (apply And.intro; (first | omega | (unfold inI; omega) | (dsimp only; omega) | (unfold bitsOk; omega) | ((try dsimp only); simp only [List.length_map, List.length_take, List.length_append, List.length_replicate, List.length_cons, List.length_nil]; omega) | (simp only [btw_iff] at *; first | omega | (unfold inI; omega) | (unfold bitsOk; omega)) | exact stor_map (fun _ => rfl) | exact ⟨rfl, stor_cons rfl stor_nil⟩ | exact ⟨rfl, stor_map (fun _ => rfl) _⟩ | exact ⟨⟨rfl, by omega⟩, stor_map (fun _ => rfl) _⟩); conv => whnf) | (with_reducible apply get_mapN; omega; intro _; conv => whnf) | (with_reducible apply get_mapI; omega; intro _; conv => whnf) | (apply get_mapN; omega; intro _; conv => whnf) | (apply get_fill; omega; conv => whnf) | (apply ex_some; conv => whnf) | (apply get_map; omega; intro _; conv => whnf) | (apply vcG_dec <;> intro _ <;> conv => whnf) | (apply vcG_ndec <;> intro _ <;> conv => whnf) | (apply vcG_not <;> intro _ <;> conv => whnf) | (apply vcG_mk <;> intro _ <;> conv => whnf) | (apply vcIf_dec <;> intro _ <;> conv => whnf) | (apply vcIf_ndec <;> intro _ <;> conv => whnf) | (apply vcIf_not <;> intro _ <;> conv => whnf) | (apply vcIf_mk <;> intro _ <;> conv => whnf))
          all_goals first | (exfalso; omega) | skip
          exact again (i + 1) [] ⟨by omega, hok⟩ (by omega) ⟨rfl, by decide, rfl, ⟨⟨rfl, rfl⟩, ⟨rfl, env_int em.symm⟩, ⟨rfl, rfl⟩, trivial⟩, trivial⟩
        · rw [if_neg he] at em
          repeat' (first | (apply AWP.go ok; rfl; conv => whnf) | (apply ord_mk; kernel_rfl; conv => whnf) | (refine get_eq (i := i) rfl hgi ?_; conv => whnf) | (apply And.intro; (first | omega | (unfold inI; omega) | (dsimp only; omega) | (unfold bitsOk; omega) | ((try dsimp only); simp only [List.length_map, List.length_take, List.length_append, List.length_replicate, List.length_cons, List.length_nil]; omega) | (simp only [btw_iff] at *; first | omega | (unfold inI; omega) | (unfold bitsOk; omega)) | exact stor_map (fun _ => rfl) | exact ⟨rfl, stor_cons rfl stor_nil⟩ | exact ⟨rfl, stor_map (fun _ => rfl) _⟩ | exact ⟨⟨rfl, by omega⟩, stor_map (fun _ => rfl) _⟩); conv => whnf) | (with_reducible apply get_mapN; omega; intro _; conv => whnf) | (with_reducible apply get_mapI; omega; intro _; conv => whnf) | (apply get_mapN; omega; intro _; conv => whnf) | (apply get_fill; omega; conv => whnf) | (apply ex_some; conv => whnf) | (apply get_map; omega; intro _; conv => whnf) | (apply vcG_dec <;> intro _ <;> conv => whnf) | (apply vcG_ndec <;> intro _ <;> conv => whnf) | (apply vcG_not <;> intro _ <;> conv => whnf) | (apply vcG_mk <;> intro _ <;> conv => whnf) | (apply vcIf_dec <;> intro _ <;> conv => whnf) | (apply vcIf_ndec <;> intro _ <;> conv => whnf) | (apply vcIf_not <;> intro _ <;> conv => whnf) | (apply vcIf_mk <;> intro _ <;> conv => whnf))
          all_goals first | (exfalso; omega) | skip
          exact again (i + 1) [] ⟨by omega, hok⟩ (by omega) ⟨rfl, by decide, rfl, ⟨⟨rfl, rfl⟩, ⟨rfl, env_int em.symm⟩, ⟨rfl, rfl⟩, trivial⟩, trivial⟩
      · have hno : ¬ PartP bl := fun h => hb (h i hil)
        repeat' (first | (apply AWP.go ok; rfl; conv => whnf) | (apply ord_mk; kernel_rfl; conv => whnf) | (refine get_eq (i := i) rfl hgi ?_; conv => whnf) | (apply And.intro; (first | omega | (unfold inI; omega) | (dsimp only; omega) | (unfold bitsOk; omega) | ((try dsimp only); simp only [List.length_map, List.length_take, List.length_append, List.length_replicate, List.length_cons, List.length_nil]; omega) | (simp only [btw_iff] at *; first | omega | (unfold inI; omega) | (unfold bitsOk; omega)) | exact stor_map (fun _ => rfl) | exact ⟨rfl, stor_cons rfl stor_nil⟩ | exact ⟨rfl, stor_map (fun _ => rfl) _⟩ | exact ⟨⟨rfl, by omega⟩, stor_map (fun _ => rfl) _⟩); conv => whnf) | (with_reducible apply get_mapN; omega; intro _; conv => whnf) | (with_reducible apply get_mapI; omega; intro _; conv => whnf) | (apply get_mapN; omega; intro _; conv => whnf) | (apply get_fill; omega; conv => whnf) | (apply ex_some; conv => whnf) | (apply get_map; omega; intro _; conv => whnf) | (apply vcG_dec <;> intro _ <;> conv => whnf) | (apply vcG_ndec <;> intro _ <;> conv => whnf) | (apply vcG_not <;> intro _ <;> conv => whnf) | (apply vcG_mk <;> intro _ <;> conv => whnf) | (apply vcIf_dec <;> intro _ <;> conv => whnf) | (apply vcIf_ndec <;> intro _ <;> conv => whnf) | (apply vcIf_not <;> intro _ <;> conv => whnf) | (apply vcIf_mk <;> intro _ <;> conv => whnf))
        all_goals first | (exfalso; omega) | skip
        all_goals exact ret_bool rfl (by rw [decide_eq_false hno]; rfl)
    · have hp : PartP bl := fun j hj => hi2 j hj (by omega)
      repeat' (first | (apply AWP.go ok; rfl; conv => whnf) | (apply ord_mk; kernel_rfl; conv => whnf) | (apply And.intro; (first | omega | (unfold inI; omega) | (dsimp only; omega) | (unfold bitsOk; omega) | ((try dsimp only); simp only [List.length_map, List.length_take, List.length_append, List.length_replicate, List.length_cons, List.length_nil]; omega) | (simp only [btw_iff] at *; first | omega | (unfold inI; omega) | (unfold bitsOk; omega)) | exact stor_map (fun _ => rfl) | exact ⟨rfl, stor_cons rfl stor_nil⟩ | exact ⟨rfl, stor_map (fun _ => rfl) _⟩ | exact ⟨⟨rfl, by omega⟩, stor_map (fun _ => rfl) _⟩); conv => whnf) | (with_reducible apply get_mapN; omega; intro _; conv => whnf) | (with_reducible apply get_mapI; omega; intro _; conv => whnf) | (apply get_mapN; omega; intro _; conv => whnf) | (apply get_fill; omega; conv => whnf) | (apply ex_some; conv => whnf) | (apply get_map; omega; intro _; conv => whnf) | (apply vcG_dec <;> intro _ <;> conv => whnf) | (apply vcG_ndec <;> intro _ <;> conv => whnf) | (apply vcG_not <;> intro _ <;> conv => whnf) | (apply vcG_mk <;> intro _ <;> conv => whnf) | (apply vcIf_dec <;> intro _ <;> conv => whnf) | (apply vcIf_ndec <;> intro _ <;> conv => whnf) | (apply vcIf_not <;> intro _ <;> conv => whnf) | (apply vcIf_mk <;> intro _ <;> conv => whnf))
      all_goals first | (exfalso; omega) | skip
      exact ret_bool rfl (by rw [decide_eq_true hp]; rfl)
  · rw [decide_eq_false hlen, Bool.and_false]
    repeat' (first | (apply AWP.go ok; rfl; conv => whnf) | (apply ord_mk; kernel_rfl; conv => whnf) | (apply And.intro; (first | omega | (unfold inI; omega) | (dsimp only; omega) | (unfold bitsOk; omega) | ((try dsimp only); simp only [List.length_map, List.length_take, List.length_append, List.length_replicate, List.length_cons, List.length_nil]; omega) | (simp only [btw_iff] at *; first | omega | (unfold inI; omega) | (unfold bitsOk; omega)) | exact stor_map (fun _ => rfl) | exact ⟨rfl, stor_cons rfl stor_nil⟩ | exact ⟨rfl, stor_map (fun _ => rfl) _⟩ | exact ⟨⟨rfl, by omega⟩, stor_map (fun _ => rfl) _⟩); conv => whnf) | (with_reducible apply get_mapN; omega; intro _; conv => whnf) | (with_reducible apply get_mapI; omega; intro _; conv => whnf) | (apply get_mapN; omega; intro _; conv => whnf) | (apply get_fill; omega; conv => whnf) | (apply ex_some; conv => whnf) | (apply get_map; omega; intro _; conv => whnf) | (apply vcG_dec <;> intro _ <;> conv => whnf) | (apply vcG_ndec <;> intro _ <;> conv => whnf) | (apply vcG_not <;> intro _ <;> conv => whnf) | (apply vcG_mk <;> intro _ <;> conv => whnf) | (apply vcIf_dec <;> intro _ <;> conv => whnf) | (apply vcIf_ndec <;> intro _ <;> conv => whnf) | (apply vcIf_not <;> intro _ <;> conv => whnf) | (apply vcIf_mk <;> intro _ <;> conv => whnf) | (apply call_data (c1); rfl; rfl; conv => whnf))
    all_goals first | (exfalso; simp_all; done) | (exfalso; omega) | skip
    all_goals exact ret_bool rfl rfl

/-- states of one block have one letter -/
def LetP (bl ls : List Int) : Prop := ∀ i k : Nat, k < i → i < bl.length → bl.getD i 0 = bl.getD k 0 → ls.getD i 0 = ls.getD k 0
noncomputable instance {bl ls : List Int} : Decidable (LetP bl ls) := Classical.propDecidable _
noncomputable def stB (g : Graph) (l : List Tree) (bl : List Int) : Bool := labelsB l && (bvB g bl && (decide (refL g bl = bl) && decide (LetP bl (g.st.map (letterZ l)))))

theorem first_of (bl : List Int) (i : Nat) (hi : i < bl.length) : ∃ f, ∃ hf : f ≤ i, bl[f] = bl[i] ∧ idxF (fun x => decide (bl[i] = x)) bl = f := by
  rcases find_dec (p := fun k => decide (bl[i] = bl.getD k 0)) (i := i + 1) with h | ⟨k, h1, h2, h3⟩
  · have := h i (by omega)
    rw [getD_at hi] at this; simp at this
  · have hk : k < bl.length := by omega
    rw [getD_at hk] at h2
    refine ⟨k, by omega, (of_decide_eq_true h2).symm, idxF_some hk h2 fun j hj hjk => ?_⟩
    have := h3 j hjk
    rw [getD_at hj] at this; exact this

set_option maxHeartbeats 1600000 in
theorem implBlocksStable_ok (g : Graph) (hg : g.mx) (l : List Tree) (hl : Lmx l) (bl : List Int) (hb : bl.length ≤ 1048576) : CallsA Tryz.prog 53 [.agg g.cs, lst 3 Tree.cs' l, ints bl] [] (.bool (stB g l bl)) [] := by
  have c1 := implBlocksValid_ok g hg bl hb
  have c2 := labelsValid_ok l hl.1 hl.2
  unfold stB
  by_cases hv : bvB g bl = true
  · have hG := (graphB_iff g).1 (by unfold bvB at hv; exact (Bool.and_eq_true_iff.1 hv).1)
    have hbl : bl.length = g.st.length := by
      have : (bl.length : Int) = g.st.length := by unfold bvB at hv; exact of_decide_eq_true (Bool.and_eq_true_iff.1 (Bool.and_eq_true_iff.1 hv).2).2
      omega
    have hg1 := hG.1
    have c3 := keepI (refine_new g hG bl hbl) (refL_len _ _)
    have c4 := equalI_ok (refL g bl) bl (by rw [refL_len]; unfold maxLen; omega) (by unfold maxLen; omega)
    rw [hv] at c1 ⊢
    by_cases h2 : labelsB l = true
    · have c5 := label_ok g hG.vals hG.1.2 l (LabelsOk.of h2)
      have hls : (g.st.map (letterZ l)).length = bl.length := by rw [List.length_map, hbl]
      rw [h2] at c2 ⊢
      generalize g.st.map (letterZ l) = ls at *
      refine callsA_of tabOk Tryz.func53 rfl rfl 49 Tryz.ntmps53 (by simp) ?_
      by_cases h3 : refL g bl = bl
      · rw [decide_eq_true h3] at c4 ⊢
        repeat' (first | (apply AWP.go ok; rfl; conv => whnf) | (apply ord_mk; kernel_rfl; conv => whnf) | (apply And.intro; (first | omega | (unfold inI; omega) | (dsimp only; omega) | (unfold bitsOk; omega) | ((try dsimp only); simp only [List.length_map, List.length_take, List.length_append, List.length_replicate, List.length_cons, List.length_nil]; omega) | (simp only [btw_iff] at *; first | omega | (unfold inI; omega) | (unfold bitsOk; omega)) | exact stor_map (fun _ => rfl) | exact ⟨rfl, stor_cons rfl stor_nil⟩ | exact ⟨rfl, stor_map (fun _ => rfl) _⟩ | exact ⟨⟨rfl, by omega⟩, stor_map (fun _ => rfl) _⟩); conv => whnf) | (with_reducible apply get_mapN; omega; intro _; conv => whnf) | (with_reducible apply get_mapI; omega; intro _; conv => whnf) | (apply get_mapN; omega; intro _; conv => whnf) | (apply get_fill; omega; conv => whnf) | (apply ex_some; conv => whnf) | (apply get_map; omega; intro _; conv => whnf) | (apply vcG_dec <;> intro _ <;> conv => whnf) | (apply vcG_ndec <;> intro _ <;> conv => whnf) | (apply vcG_not <;> intro _ <;> conv => whnf) | (apply vcG_mk <;> intro _ <;> conv => whnf) | (apply vcIf_dec <;> intro _ <;> conv => whnf) | (apply vcIf_ndec <;> intro _ <;> conv => whnf) | (apply vcIf_not <;> intro _ <;> conv => whnf) | (apply vcIf_mk <;> intro _ <;> conv => whnf) | (apply call_data (c1); rfl; rfl; conv => whnf) | (apply call_data (c2); rfl; rfl; conv => whnf) | (apply call_data (c3); rfl; rfl; conv => whnf) | (apply call_data (c4); rfl; rfl; conv => whnf) | (apply call_data (c5); rfl; rfl; conv => whnf))
        all_goals first | (exfalso; simp_all; done) | skip
        refine loopA (fun i : Nat => ([(2, ints bl), (7, ints ls), (30, ints bl), (31, .int bl.length), (32, .int i)], [])) (fun i => i ≤ bl.length ∧ ∀ j f (hj : j < bl.length) (hf : f ≤ j), j < i → bl[f] = bl[j] → idxF (fun x => decide (bl[j] = x)) bl = f → ls.getD f 0 = ls.getD j 0) (fun i => bl.length - i) 0 ⟨by omega, fun j f hj hf h => by omega⟩ ⟨[], rfl, by decide, rfl, ⟨⟨rfl, rfl⟩, ⟨rfl, rfl⟩, ⟨rfl, rfl⟩, ⟨rfl, rfl⟩, ⟨rfl, rfl⟩, trivial⟩, trivial⟩ ?_
        rintro i ⟨hi1, hi2⟩
        by_cases hil : i < bl.length
        · obtain ⟨f, hf, e1, e2⟩ := first_of bl i hil
          have c6 := indexInt_ok bl (by unfold maxLen; omega) bl[i]
          rw [e2] at c6
          have g1 : (bl.map enI)[i]? = some (enI bl[i]) := by rw [List.getElem?_map, List.getElem?_eq_getElem hil]; rfl
          have g2 : (ls.map enI)[i]? = some (enI ls[i]) := by rw [List.getElem?_map, List.getElem?_eq_getElem (by omega)]; rfl
          have g3 : (ls.map enI)[f]? = some (enI ls[f]) := by rw [List.getElem?_map, List.getElem?_eq_getElem (by omega)]; rfl
          by_cases he : ls[f] = ls[i]
          · repeat' (first | (apply AWP.go ok; rfl; conv => whnf) | (apply ord_mk; kernel_rfl; conv => whnf) | (refine get_eq (i := f) rfl g3 ?_; conv => whnf) | (refine get_eq (i := i) rfl g2 ?_; conv => whnf) | (refine get_eq (i := i) rfl g1 ?_; conv => whnf) | (apply And.intro; (first | omega | (unfold inI; omega) | (dsimp only; omega) | (unfold bitsOk; omega) | ((try dsimp only); simp only [List.length_map, List.length_take, List.length_append, List.length_replicate, List.length_cons, List.length_nil]; omega) | (simp only [btw_iff] at *; first | omega | (unfold inI; omega) | (unfold bitsOk; omega)) | exact stor_map (fun _ => rfl) | exact ⟨rfl, stor_cons rfl stor_nil⟩ | exact ⟨rfl, stor_map (fun _ => rfl) _⟩ | exact ⟨⟨rfl, by omega⟩, stor_map (fun _ => rfl) _⟩); conv => whnf) | (with_reducible apply get_mapN; omega; intro _; conv => whnf) | (with_reducible apply get_mapI; omega; intro _; conv => whnf) | (apply get_mapN; omega; intro _; conv => whnf) | (apply get_fill; omega; conv => whnf) | (apply ex_some; conv => whnf) | (apply get_map; omega; intro _; conv => whnf) | (apply vcG_dec <;> intro _ <;> conv => whnf) | (apply vcG_ndec <;> intro _ <;> conv => whnf) | (apply vcG_not <;> intro _ <;> conv => whnf) | (apply vcG_mk <;> intro _ <;> conv => whnf) | (apply vcIf_dec <;> intro _ <;> conv => whnf) | (apply vcIf_ndec <;> intro _ <;> conv => whnf) | (apply vcIf_not <;> intro _ <;> conv => whnf) | (apply vcIf_mk <;> intro _ <;> conv => whnf) | (apply call_data (c6); rfl; rfl; conv => whnf))
            all_goals first | kernel_rfl | (exfalso; omega) | (exfalso; simp_all; done) | skip
            refine again (i + 1) [] ⟨by omega, fun j f' hj hf' hji h5 h6 => ?_⟩ (by omega) ⟨rfl, by decide, rfl, ⟨⟨rfl, rfl⟩, ⟨rfl, rfl⟩, ⟨rfl, rfl⟩, ⟨rfl, rfl⟩, ⟨rfl, rfl⟩, trivial⟩, trivial⟩
            rcases Nat.lt_or_ge j i with h7 | h7
            · exact hi2 j f' hj hf' h7 h5 h6
            · obtain rfl : j = i := by omega
              have : f' = f := by rw [e2] at h6; omega
              subst this
              rw [getD_at (by omega), getD_at (by omega)]; exact he
          · have hno : ¬ LetP bl ls := fun h => by
              have hne : f ≠ i := by rintro rfl; exact he rfl
              have := h i f (by omega) hil (by rw [getD_at hil, getD_at (by omega), e1])
              rw [getD_at (by omega), getD_at (by omega)] at this
              exact he this.symm
            repeat' (first | (apply AWP.go ok; rfl; conv => whnf) | (apply ord_mk; kernel_rfl; conv => whnf) | (refine get_eq (i := f) rfl g3 ?_; conv => whnf) | (refine get_eq (i := i) rfl g2 ?_; conv => whnf) | (refine get_eq (i := i) rfl g1 ?_; conv => whnf) | (apply And.intro; (first | omega | (unfold inI; omega) | (dsimp only; omega) | (unfold bitsOk; omega) | ((try dsimp only); simp only [List.length_map, List.length_take, List.length_append, List.length_replicate, List.length_cons, List.length_nil]; omega) | (simp only [btw_iff] at *; first | omega | (unfold inI; omega) | (unfold bitsOk; omega)) | exact stor_map (fun _ => rfl) | exact ⟨rfl, stor_cons rfl stor_nil⟩ | exact ⟨rfl, stor_map (fun _ => rfl) _⟩ | exact ⟨⟨rfl, by omega⟩, stor_map (fun _ => rfl) _⟩); conv => whnf) | (with_reducible apply get_mapN; omega; intro _; conv => whnf) | (with_reducible apply get_mapI; omega; intro _; conv => whnf) | (apply get_mapN; omega; intro _; conv => whnf) | (apply get_fill; omega; conv => whnf) | (apply ex_some; conv => whnf) | (apply get_map; omega; intro _; conv => whnf) | (apply vcG_dec <;> intro _ <;> conv => whnf) | (apply vcG_ndec <;> intro _ <;> conv => whnf) | (apply vcG_not <;> intro _ <;> conv => whnf) | (apply vcG_mk <;> intro _ <;> conv => whnf) | (apply vcIf_dec <;> intro _ <;> conv => whnf) | (apply vcIf_ndec <;> intro _ <;> conv => whnf) | (apply vcIf_not <;> intro _ <;> conv => whnf) | (apply vcIf_mk <;> intro _ <;> conv => whnf) | (apply call_data (c6); rfl; rfl; conv => whnf))
            all_goals first | kernel_rfl | (exfalso; omega) | (exfalso; simp_all; done) | skip
            exact ret_bool rfl (by rw [decide_eq_false hno]; rfl)
        · have hyes : LetP bl ls := fun i' k hk hi' he => by
            rw [getD_at hi', getD_at (by omega)] at he
            obtain ⟨f, hf, e1, e2⟩ := first_of bl i' hi'
            obtain ⟨f', hf', e1', e2'⟩ := first_of bl k (by omega)
            have hff : f = f' := by
              rw [he] at e2
              rw [e2] at e2'; omega
            subst hff
            rw [← hi2 i' f hi' hf (by omega) e1 e2, ← hi2 k f (by omega) hf' (by omega) e1' e2']
          repeat' (first | (apply AWP.go ok; rfl; conv => whnf) | (apply ord_mk; kernel_rfl; conv => whnf) | (apply And.intro; (first | omega | (unfold inI; omega) | (dsimp only; omega) | (unfold bitsOk; omega) | ((try dsimp only); simp only [List.length_map, List.length_take, List.length_append, List.length_replicate, List.length_cons, List.length_nil]; omega) | (simp only [btw_iff] at *; first | omega | (unfold inI; omega) | (unfold bitsOk; omega)) | exact stor_map (fun _ => rfl) | exact ⟨rfl, stor_cons rfl stor_nil⟩ | exact ⟨rfl, stor_map (fun _ => rfl) _⟩ | exact ⟨⟨rfl, by omega⟩, stor_map (fun _ => rfl) _⟩); conv => whnf) | (with_reducible apply get_mapN; omega; intro _; conv => whnf) | (with_reducible apply get_mapI; omega; intro _; conv => whnf) | (apply get_mapN; omega; intro _; conv => whnf) | (apply get_fill; omega; conv => whnf) | (apply ex_some; conv => whnf) | (apply get_map; omega; intro _; conv => whnf) | (apply vcG_dec <;> intro _ <;> conv => whnf) | (apply vcG_ndec <;> intro _ <;> conv => whnf) | (apply vcG_not <;> intro _ <;> conv => whnf) | (apply vcG_mk <;> intro _ <;> conv => whnf) | (apply vcIf_dec <;> intro _ <;> conv => whnf) | (apply vcIf_ndec <;> intro _ <;> conv => whnf) | (apply vcIf_not <;> intro _ <;> conv => whnf) | (apply vcIf_mk <;> intro _ <;> conv => whnf))
          all_goals first | (exfalso; omega) | skip
          exact ret_bool rfl (by rw [decide_eq_true hyes]; rfl)
      · rw [decide_eq_false h3] at c4 ⊢
        repeat' (first | (apply AWP.go ok; rfl; conv => whnf) | (apply ord_mk; kernel_rfl; conv => whnf) | (apply And.intro; (first | omega | (unfold inI; omega) | (dsimp only; omega) | (unfold bitsOk; omega) | ((try dsimp only); simp only [List.length_map, List.length_take, List.length_append, List.length_replicate, List.length_cons, List.length_nil]; omega) | (simp only [btw_iff] at *; first | omega | (unfold inI; omega) | (unfold bitsOk; omega)) | exact stor_map (fun _ => rfl) | exact ⟨rfl, stor_cons rfl stor_nil⟩ | exact ⟨rfl, stor_map (fun _ => rfl) _⟩ | exact ⟨⟨rfl, by omega⟩, stor_map (fun _ => rfl) _⟩); conv => whnf) | (with_reducible apply get_mapN; omega; intro _; conv => whnf) | (with_reducible apply get_mapI; omega; intro _; conv => whnf) | (apply get_mapN; omega; intro _; conv => whnf) | (apply get_fill; omega; conv => whnf) | (apply ex_some; conv => whnf) | (apply get_map; omega; intro _; conv => whnf) | (apply vcG_dec <;> intro _ <;> conv => whnf) | (apply vcG_ndec <;> intro _ <;> conv => whnf) | (apply vcG_not <;> intro _ <;> conv => whnf) | (apply vcG_mk <;> intro _ <;> conv => whnf) | (apply vcIf_dec <;> intro _ <;> conv => whnf) | (apply vcIf_ndec <;> intro _ <;> conv => whnf) | (apply vcIf_not <;> intro _ <;> conv => whnf) | (apply vcIf_mk <;> intro _ <;> conv => whnf) | (apply call_data (c1); rfl; rfl; conv => whnf) | (apply call_data (c2); rfl; rfl; conv => whnf) | (apply call_data (c3); rfl; rfl; conv => whnf) | (apply call_data (c4); rfl; rfl; conv => whnf))
        all_goals first | (exfalso; simp_all; done) | skip
        all_goals exact ret_bool rfl rfl
    · have h2 := (Bool.not_eq_true _).mp h2
      rw [h2] at c2 ⊢
      refine callsA_of tabOk Tryz.func53 rfl rfl 49 Tryz.ntmps53 (by simp) ?_
      repeat' (first | (apply AWP.go ok; rfl; conv => whnf) | (apply ord_mk; kernel_rfl; conv => whnf) | (apply And.intro; (first | omega | (unfold inI; omega) | (dsimp only; omega) | (unfold bitsOk; omega) | ((try dsimp only); simp only [List.length_map, List.length_take, List.length_append, List.length_replicate, List.length_cons, List.length_nil]; omega) | (simp only [btw_iff] at *; first | omega | (unfold inI; omega) | (unfold bitsOk; omega)) | exact stor_map (fun _ => rfl) | exact ⟨rfl, stor_cons rfl stor_nil⟩ | exact ⟨rfl, stor_map (fun _ => rfl) _⟩ | exact ⟨⟨rfl, by omega⟩, stor_map (fun _ => rfl) _⟩); conv => whnf) | (with_reducible apply get_mapN; omega; intro _; conv => whnf) | (with_reducible apply get_mapI; omega; intro _; conv => whnf) | (apply get_mapN; omega; intro _; conv => whnf) | (apply get_fill; omega; conv => whnf) | (apply ex_some; conv => whnf) | (apply get_map; omega; intro _; conv => whnf) | (apply vcG_dec <;> intro _ <;> conv => whnf) | (apply vcG_ndec <;> intro _ <;> conv => whnf) | (apply vcG_not <;> intro _ <;> conv => whnf) | (apply vcG_mk <;> intro _ <;> conv => whnf) | (apply vcIf_dec <;> intro _ <;> conv => whnf) | (apply vcIf_ndec <;> intro _ <;> conv => whnf) | (apply vcIf_not <;> intro _ <;> conv => whnf) | (apply vcIf_mk <;> intro _ <;> conv => whnf) | (apply call_data (c1); rfl; rfl; conv => whnf) | (apply call_data (c2); rfl; rfl; conv => whnf))
      all_goals first | (exfalso; simp_all; done) | skip
      all_goals exact ret_bool rfl rfl
  · have hv := (Bool.not_eq_true _).mp hv
    rw [hv] at c1 ⊢
    rw [Bool.false_and, Bool.and_false]
    refine callsA_of tabOk Tryz.func53 rfl rfl 49 Tryz.ntmps53 (by simp) ?_
    repeat' (first | (apply AWP.go ok; rfl; conv => whnf) | (apply ord_mk; kernel_rfl; conv => whnf) | (apply And.intro; (first | omega | (unfold inI; omega) | (dsimp only; omega) | (unfold bitsOk; omega) | ((try dsimp only); simp only [List.length_map, List.length_take, List.length_append, List.length_replicate, List.length_cons, List.length_nil]; omega) | (simp only [btw_iff] at *; first | omega | (unfold inI; omega) | (unfold bitsOk; omega)) | exact stor_map (fun _ => rfl) | exact ⟨rfl, stor_cons rfl stor_nil⟩ | exact ⟨rfl, stor_map (fun _ => rfl) _⟩ | exact ⟨⟨rfl, by omega⟩, stor_map (fun _ => rfl) _⟩); conv => whnf) | (with_reducible apply get_mapN; omega; intro _; conv => whnf) | (with_reducible apply get_mapI; omega; intro _; conv => whnf) | (apply get_mapN; omega; intro _; conv => whnf) | (apply get_fill; omega; conv => whnf) | (apply ex_some; conv => whnf) | (apply get_map; omega; intro _; conv => whnf) | (apply vcG_dec <;> intro _ <;> conv => whnf) | (apply vcG_ndec <;> intro _ <;> conv => whnf) | (apply vcG_not <;> intro _ <;> conv => whnf) | (apply vcG_mk <;> intro _ <;> conv => whnf) | (apply vcIf_dec <;> intro _ <;> conv => whnf) | (apply vcIf_ndec <;> intro _ <;> conv => whnf) | (apply vcIf_not <;> intro _ <;> conv => whnf) | (apply vcIf_mk <;> intro _ <;> conv => whnf) | (apply call_data (c1); rfl; rfl; conv => whnf))
    all_goals first | (exfalso; simp_all; done) | skip
    all_goals exact ret_bool rfl rfl
end Go.Proofs.YtcmihlbihppflaaGreat

namespace Go.Proofs.YtcmihlbihppflaaGreat
open Go.Gl
attribute [local irreducible] vcCall AWP RetOk Again ordOk

set_option maxHeartbeats 1600000 in
theorem specBlocksStable_ok (g : Graph) (hg : g.mx) (l : List Tree) (hl : Lmx l) (bl : List Int) (hb : bl.length ≤ 1048576) (hst : g.st.length ≤ 1048576) : CallsA Tryz.prog 51 [.agg g.cs, lst 3 Tree.cs' l, ints bl] [] (.bool (stB g l bl)) [] := by
  have c0 := specLabelGraph_ok g hg l hl
  have c1 := specBlocksValid_ok g hg bl hb hst
  unfold stB
  by_cases hv : bvB g bl = true
  · have h0 : graphB g = true := by unfold bvB at hv; exact (Bool.and_eq_true_iff.1 hv).1
    have hG := (graphB_iff g).1 h0
    have hbl : bl.length = g.st.length := by
      have : (bl.length : Int) = g.st.length := by unfold bvB at hv; exact of_decide_eq_true (Bool.and_eq_true_iff.1 (Bool.and_eq_true_iff.1 hv).2).2
      omega
    have hg1 := hG.1
    have c3 := keepI (l10Refine_new g hG bl hbl) (refL_len _ _)
    have c4 := l2Ints_ok (refL g bl) bl (by rw [refL_len]; unfold maxLen; omega) (by unfold maxLen; omega)
    rw [hv] at c1 ⊢
    have hgl : glB g l = labelsB l := by unfold glB; rw [h0]; rfl
    rw [hgl] at c0
    by_cases h2 : labelsB l = true
    · have hls : (g.st.map (letterZ l)).length = bl.length := by rw [List.length_map, hbl]
      rw [if_pos h2, h2] at c0
      rw [h2]
      generalize g.st.map (letterZ l) = ls at *
      refine callsA_of tabOk Tryz.func51 rfl rfl 64 Tryz.ntmps51 (by simp) ?_
      by_cases h3 : refL g bl = bl
      · rw [decide_eq_true h3] at c4 ⊢
        repeat' (first | (apply AWP.go ok; rfl; conv => whnf) | (apply ord_mk; kernel_rfl; conv => whnf) | (apply And.intro; (first | omega | (unfold inI; omega) | (dsimp only; omega) | (unfold bitsOk; omega) | ((try dsimp only); simp only [List.length_map, List.length_take, List.length_append, List.length_replicate, List.length_cons, List.length_nil]; omega) | (simp only [btw_iff] at *; first | omega | (unfold inI; omega) | (unfold bitsOk; omega)) | exact stor_map (fun _ => rfl) | exact ⟨rfl, stor_cons rfl stor_nil⟩ | exact ⟨rfl, stor_map (fun _ => rfl) _⟩ | exact ⟨⟨rfl, by omega⟩, stor_map (fun _ => rfl) _⟩); conv => whnf) | (with_reducible apply get_mapN; omega; intro _; conv => whnf) | (with_reducible apply get_mapI; omega; intro _; conv => whnf) | (apply get_mapN; omega; intro _; conv => whnf) | (apply get_fill; omega; conv => whnf) | (apply ex_some; conv => whnf) | (apply get_map; omega; intro _; conv => whnf) | (apply vcG_dec <;> intro _ <;> conv => whnf) | (apply vcG_ndec <;> intro _ <;> conv => whnf) | (apply vcG_not <;> intro _ <;> conv => whnf) | (apply vcG_mk <;> intro _ <;> conv => whnf) | (apply vcIf_dec <;> intro _ <;> conv => whnf) | (apply vcIf_ndec <;> intro _ <;> conv => whnf) | (apply vcIf_not <;> intro _ <;> conv => whnf) | (apply vcIf_mk <;> intro _ <;> conv => whnf) | (apply call_data (c0); rfl; rfl; conv => whnf) | (apply call_data (c1); rfl; rfl; conv => whnf) | (apply call_data (c3); rfl; rfl; conv => whnf) | (apply call_data (c4); rfl; rfl; conv => whnf))
        all_goals first | (exfalso; simp_all; done) | skip
        refine loopA (fun i : Nat => ([(2, ints bl), (7, ints ls), (9, .int i)], [])) (fun i => i ≤ bl.length ∧ ∀ j k : Nat, k < j → j < i → bl.getD j 0 = bl.getD k 0 → ls.getD j 0 = ls.getD k 0) (fun i => bl.length - i) 0 ⟨by omega, fun j k hk hj => by omega⟩ ⟨[], rfl, by decide, rfl, ⟨⟨rfl, rfl⟩, ⟨rfl, rfl⟩, ⟨rfl, rfl⟩, trivial⟩, trivial⟩ ?_
        rintro i ⟨hi1, hi2⟩
        by_cases hil : i < bl.length
        · repeat' (first | (apply AWP.go ok; rfl; conv => whnf) | (apply ord_mk; kernel_rfl; conv => whnf) | (apply And.intro; (first | omega | (unfold inI; omega) | (dsimp only; omega) | (unfold bitsOk; omega) | ((try dsimp only); simp only [List.length_map, List.length_take, List.length_append, List.length_replicate, List.length_cons, List.length_nil]; omega) | (simp only [btw_iff] at *; first | omega | (unfold inI; omega) | (unfold bitsOk; omega)) | exact stor_map (fun _ => rfl) | exact ⟨rfl, stor_cons rfl stor_nil⟩ | exact ⟨rfl, stor_map (fun _ => rfl) _⟩ | exact ⟨⟨rfl, by omega⟩, stor_map (fun _ => rfl) _⟩); conv => whnf) | (with_reducible apply get_mapN; omega; intro _; conv => whnf) | (with_reducible apply get_mapI; omega; intro _; conv => whnf) | (apply get_mapN; omega; intro _; conv => whnf) | (apply get_fill; omega; conv => whnf) | (apply ex_some; conv => whnf) | (apply get_map; omega; intro _; conv => whnf) | (apply vcG_dec <;> intro _ <;> conv => whnf) | (apply vcG_ndec <;> intro _ <;> conv => whnf) | (apply vcG_not <;> intro _ <;> conv => whnf) | (apply vcG_mk <;> intro _ <;> conv => whnf) | (apply vcIf_dec <;> intro _ <;> conv => whnf) | (apply vcIf_ndec <;> intro _ <;> conv => whnf) | (apply vcIf_not <;> intro _ <;> conv => whnf) | (apply vcIf_mk <;> intro _ <;> conv => whnf))
          all_goals first | (exfalso; omega) | skip
          refine loopA (fun k : Nat => ([(2, ints bl), (7, ints ls), (9, .int i), (10, .int k)], [])) (fun k => k ≤ i ∧ ∀ k', k' < k → bl.getD i 0 = bl.getD k' 0 → ls.getD i 0 = ls.getD k' 0) (fun k => i - k) 0 ⟨by omega, fun k' hk => by omega⟩ ⟨[], rfl, by decide, rfl, ⟨⟨rfl, rfl⟩, ⟨rfl, rfl⟩, ⟨rfl, rfl⟩, ⟨rfl, rfl⟩, trivial⟩, trivial⟩ ?_
          rintro k ⟨hk1, hk2⟩
          by_cases hki : k < i
          · have g1 : (bl.map enI)[i]? = some (enI bl[i]) := by rw [List.getElem?_map, List.getElem?_eq_getElem hil]; rfl
            have g2 : (bl.map enI)[k]? = some (enI bl[k]) := by rw [List.getElem?_map, List.getElem?_eq_getElem (by omega)]; rfl
            have g3 : (ls.map enI)[i]? = some (enI ls[i]) := by rw [List.getElem?_map, List.getElem?_eq_getElem (by omega)]; rfl
            have g4 : (ls.map enI)[k]? = some (enI ls[k]) := by rw [List.getElem?_map, List.getElem?_eq_getElem (by omega)]; rfl
            have e1 : bl.getD i 0 = bl[i] := getD_at hil
            have e2 : bl.getD k 0 = bl[k] := getD_at (by omega)
            have e3 : ls.getD i 0 = ls[i] := getD_at (by omega)
            have e4 : ls.getD k 0 = ls[k] := getD_at (by omega)
            by_cases hbad : bl[i] = bl[k] ∧ ls[i] ≠ ls[k]
            · have hno : ¬ LetP bl ls := fun h => hbad.2 (by rw [← e3, ← e4]; exact h i k hki hil (by rw [e1, e2]; exact hbad.1))
              repeat' (first | (apply AWP.go ok; rfl; conv => whnf) | (apply ord_mk; kernel_rfl; conv => whnf) | (refine get_eq (i := k) rfl g4 ?_; conv => whnf) | (refine get_eq (i := i) rfl g3 ?_; conv => whnf) | (refine get_eq (i := k) rfl g2 ?_; conv => whnf) | (refine get_eq (i := i) rfl g1 ?_; conv => whnf) | (apply And.intro; (first | omega | (unfold inI; omega) | (dsimp only; omega) | (unfold bitsOk; omega) | ((try dsimp only); simp only [List.length_map, List.length_take, List.length_append, List.length_replicate, List.length_cons, List.length_nil]; omega) | (simp only [btw_iff] at *; first | omega | (unfold inI; omega) | (unfold bitsOk; omega)) | exact stor_map (fun _ => rfl) | exact ⟨rfl, stor_cons rfl stor_nil⟩ | exact ⟨rfl, stor_map (fun _ => rfl) _⟩ | exact ⟨⟨rfl, by omega⟩, stor_map (fun _ => rfl) _⟩); conv => whnf) | (with_reducible apply get_mapN; omega; intro _; conv => whnf) | (with_reducible apply get_mapI; omega; intro _; conv => whnf) | (apply get_mapN; omega; intro _; conv => whnf) | (apply get_fill; omega; conv => whnf) | (apply ex_some; conv => whnf) | (apply get_map; omega; intro _; conv => whnf) | (apply vcG_dec <;> intro _ <;> conv => whnf) | (apply vcG_ndec <;> intro _ <;> conv => whnf) | (apply vcG_not <;> intro _ <;> conv => whnf) | (apply vcG_mk <;> intro _ <;> conv => whnf) | (apply vcIf_dec <;> intro _ <;> conv => whnf) | (apply vcIf_ndec <;> intro _ <;> conv => whnf) | (apply vcIf_not <;> intro _ <;> conv => whnf) | (apply vcIf_mk <;> intro _ <;> conv => whnf))
              all_goals first | kernel_rfl | (exfalso; omega) | (exfalso; simp_all; done) | skip
              exact ret_bool rfl (by rw [decide_eq_false hno]; rfl)
            · have hok : ∀ k', k' < k + 1 → bl.getD i 0 = bl.getD k' 0 → ls.getD i 0 = ls.getD k' 0 := fun k' hk' he => by
                rcases Nat.lt_or_ge k' k with h7 | h7
                · exact hk2 k' h7 he
                · obtain rfl : k' = k := by omega
                  rw [e3, e4]
                  rw [e1, e2] at he
                  exact Decidable.byContradiction fun h => hbad ⟨he, h⟩
              repeat' (first | (apply AWP.go ok; rfl; conv => whnf) | (apply ord_mk; kernel_rfl; conv => whnf) | (refine get_eq (i := k) rfl g4 ?_; conv => whnf) | (refine get_eq (i := i) rfl g3 ?_; conv => whnf) | (refine get_eq (i := k) rfl g2 ?_; conv => whnf) | (refine get_eq (i := i) rfl g1 ?_; conv => whnf) | (apply And.intro; (first | omega | (unfold inI; omega) | (dsimp only; omega) | (unfold bitsOk; omega) | ((try dsimp only); simp only [List.length_map, List.length_take, List.length_append, List.length_replicate, List.length_cons, List.length_nil]; omega) | (simp only [btw_iff] at *; first | omega | (unfold inI; omega) | (unfold bitsOk; omega)) | exact stor_map (fun _ => rfl) | exact ⟨rfl, stor_cons rfl stor_nil⟩ | exact ⟨rfl, stor_map (fun _ => rfl) _⟩ | exact ⟨⟨rfl, by omega⟩, stor_map (fun _ => rfl) _⟩); conv => whnf) | (with_reducible apply get_mapN; omega; intro _; conv => whnf) | (with_reducible apply get_mapI; omega; intro _; conv => whnf) | (apply get_mapN; omega; intro _; conv => whnf) | (apply get_fill; omega; conv => whnf) | (apply ex_some; conv => whnf) | (apply get_map; omega; intro _; conv => whnf) | (apply vcG_dec <;> intro _ <;> conv => whnf) | (apply vcG_ndec <;> intro _ <;> conv => whnf) | (apply vcG_not <;> intro _ <;> conv => whnf) | (apply vcG_mk <;> intro _ <;> conv => whnf) | (apply vcIf_dec <;> intro _ <;> conv => whnf) | (apply vcIf_ndec <;> intro _ <;> conv => whnf) | (apply vcIf_not <;> intro _ <;> conv => whnf) | (apply vcIf_mk <;> intro _ <;> conv => whnf))
              all_goals first | kernel_rfl | (exfalso; omega) | (exfalso; simp_all; done) | skip
              all_goals exact again (k + 1) [] ⟨by omega, hok⟩ (by omega) ⟨rfl, by decide, rfl, ⟨⟨rfl, rfl⟩, ⟨rfl, rfl⟩, ⟨rfl, rfl⟩, ⟨rfl, rfl⟩, trivial⟩, trivial⟩
          · repeat' (first | (apply AWP.go ok; rfl; conv => whnf) | (apply ord_mk; kernel_rfl; conv => whnf) | (apply And.intro; (first | omega | (unfold inI; omega) | (dsimp only; omega) | (unfold bitsOk; omega) | ((try dsimp only); simp only [List.length_map, List.length_take, List.length_append, List.length_replicate, List.length_cons, List.length_nil]; omega) | (simp only [btw_iff] at *; first | omega | (unfold inI; omega) | (unfold bitsOk; omega)) | exact stor_map (fun _ => rfl) | exact ⟨rfl, stor_cons rfl stor_nil⟩ | exact ⟨rfl, stor_map (fun _ => rfl) _⟩ | exact ⟨⟨rfl, by omega⟩, stor_map (fun _ => rfl) _⟩); conv => whnf) | (with_reducible apply get_mapN; omega; intro _; conv => whnf) | (with_reducible apply get_mapI; omega; intro _; conv => whnf) | (apply get_mapN; omega; intro _; conv => whnf) | (apply get_fill; omega; conv => whnf) | (apply ex_some; conv => whnf) | (apply get_map; omega; intro _; conv => whnf) | (apply vcG_dec <;> intro _ <;> conv => whnf) | (apply vcG_ndec <;> intro _ <;> conv => whnf) | (apply vcG_not <;> intro _ <;> conv => whnf) | (apply vcG_mk <;> intro _ <;> conv => whnf) | (apply vcIf_dec <;> intro _ <;> conv => whnf) | (apply vcIf_ndec <;> intro _ <;> conv => whnf) | (apply vcIf_not <;> intro _ <;> conv => whnf) | (apply vcIf_mk <;> intro _ <;> conv => whnf))
            all_goals first | (exfalso; omega) | skip
            refine again (i + 1) [] ⟨by omega, fun j k' hk' hj he => ?_⟩ (by omega) ⟨rfl, by decide, rfl, ⟨⟨rfl, rfl⟩, ⟨rfl, rfl⟩, ⟨rfl, rfl⟩, trivial⟩, trivial⟩
            rcases Nat.lt_or_ge j i with h7 | h7
            · exact hi2 j k' hk' h7 he
            · obtain rfl : j = i := by omega
              exact hk2 k' (by omega) he
        · have hyes : LetP bl ls := fun i' k hk hi' he => hi2 i' k hk (by omega) he
          repeat' (first | (apply AWP.go ok; rfl; conv => whnf) | (apply ord_mk; kernel_rfl; conv => whnf) | (apply And.intro; (first | omega | (unfold inI; omega) | (dsimp only; omega) | (unfold bitsOk; omega) | ((try dsimp only); simp only [List.length_map, List.length_take, List.length_append, List.length_replicate, List.length_cons, List.length_nil]; omega) | (simp only [btw_iff] at *; first | omega | (unfold inI; omega) | (unfold bitsOk; omega)) | exact stor_map (fun _ => rfl) | exact ⟨rfl, stor_cons rfl stor_nil⟩ | exact ⟨rfl, stor_map (fun _ => rfl) _⟩ | exact ⟨⟨rfl, by omega⟩, stor_map (fun _ => rfl) _⟩); conv => whnf) | (with_reducible apply get_mapN; omega; intro _; conv => whnf) | (with_reducible apply get_mapI; omega; intro _; conv => whnf) | (apply get_mapN; omega; intro _; conv => whnf) | (apply get_fill; omega; conv => whnf) | (apply ex_some; conv => whnf) | (apply get_map; omega; intro _; conv => whnf) | (apply vcG_dec <;> intro _ <;> conv => whnf) | (apply vcG_ndec <;> intro _ <;> conv => whnf) | (apply vcG_not <;> intro _ <;> conv => whnf) | (apply vcG_mk <;> intro _ <;> conv => whnf) | (apply vcIf_dec <;> intro _ <;> conv => whnf) | (apply vcIf_ndec <;> intro _ <;> conv => whnf) | (apply vcIf_not <;> intro _ <;> conv => whnf) | (apply vcIf_mk <;> intro _ <;> conv => whnf))
          all_goals first | (exfalso; omega) | skip
          exact ret_bool rfl (by rw [decide_eq_true hyes]; rfl)
      · rw [decide_eq_false h3] at c4 ⊢
        repeat' (first | (apply AWP.go ok; rfl; conv => whnf) | (apply ord_mk; kernel_rfl; conv => whnf) | (apply And.intro; (first | omega | (unfold inI; omega) | (dsimp only; omega) | (unfold bitsOk; omega) | ((try dsimp only); simp only [List.length_map, List.length_take, List.length_append, List.length_replicate, List.length_cons, List.length_nil]; omega) | (simp only [btw_iff] at *; first | omega | (unfold inI; omega) | (unfold bitsOk; omega)) | exact stor_map (fun _ => rfl) | exact ⟨rfl, stor_cons rfl stor_nil⟩ | exact ⟨rfl, stor_map (fun _ => rfl) _⟩ | exact ⟨⟨rfl, by omega⟩, stor_map (fun _ => rfl) _⟩); conv => whnf) | (with_reducible apply get_mapN; omega; intro _; conv => whnf) | (with_reducible apply get_mapI; omega; intro _; conv => whnf) | (apply get_mapN; omega; intro _; conv => whnf) | (apply get_fill; omega; conv => whnf) | (apply ex_some; conv => whnf) | (apply get_map; omega; intro _; conv => whnf) | (apply vcG_dec <;> intro _ <;> conv => whnf) | (apply vcG_ndec <;> intro _ <;> conv => whnf) | (apply vcG_not <;> intro _ <;> conv => whnf) | (apply vcG_mk <;> intro _ <;> conv => whnf) | (apply vcIf_dec <;> intro _ <;> conv => whnf) | (apply vcIf_ndec <;> intro _ <;> conv => whnf) | (apply vcIf_not <;> intro _ <;> conv => whnf) | (apply vcIf_mk <;> intro _ <;> conv => whnf) | (apply call_data (c0); rfl; rfl; conv => whnf) | (apply call_data (c1); rfl; rfl; conv => whnf) | (apply call_data (c3); rfl; rfl; conv => whnf) | (apply call_data (c4); rfl; rfl; conv => whnf))
        all_goals first | (exfalso; simp_all; done) | skip
        all_goals exact ret_bool rfl rfl
    · have h2 := (Bool.not_eq_true _).mp h2
      rw [h2] at c0 ⊢
      refine callsA_of tabOk Tryz.func51 rfl rfl 64 Tryz.ntmps51 (by simp) ?_
      repeat' (first | (apply AWP.go ok; rfl; conv => whnf) | (apply ord_mk; kernel_rfl; conv => whnf) | (apply And.intro; (first | omega | (unfold inI; omega) | (dsimp only; omega) | (unfold bitsOk; omega) | ((try dsimp only); simp only [List.length_map, List.length_take, List.length_append, List.length_replicate, List.length_cons, List.length_nil]; omega) | (simp only [btw_iff] at *; first | omega | (unfold inI; omega) | (unfold bitsOk; omega)) | exact stor_map (fun _ => rfl) | exact ⟨rfl, stor_cons rfl stor_nil⟩ | exact ⟨rfl, stor_map (fun _ => rfl) _⟩ | exact ⟨⟨rfl, by omega⟩, stor_map (fun _ => rfl) _⟩); conv => whnf) | (with_reducible apply get_mapN; omega; intro _; conv => whnf) | (with_reducible apply get_mapI; omega; intro _; conv => whnf) | (apply get_mapN; omega; intro _; conv => whnf) | (apply get_fill; omega; conv => whnf) | (apply ex_some; conv => whnf) | (apply get_map; omega; intro _; conv => whnf) | (apply vcG_dec <;> intro _ <;> conv => whnf) | (apply vcG_ndec <;> intro _ <;> conv => whnf) | (apply vcG_not <;> intro _ <;> conv => whnf) | (apply vcG_mk <;> intro _ <;> conv => whnf) | (apply vcIf_dec <;> intro _ <;> conv => whnf) | (apply vcIf_ndec <;> intro _ <;> conv => whnf) | (apply vcIf_not <;> intro _ <;> conv => whnf) | (apply vcIf_mk <;> intro _ <;> conv => whnf) | (apply call_data (c0); rfl; rfl; conv => whnf) | (apply call_data (c1); rfl; rfl; conv => whnf))
      all_goals first | (exfalso; simp_all; done) | skip
      all_goals exact ret_bool rfl rfl
  · have hv := (Bool.not_eq_true _).mp hv
    rw [hv] at c1 ⊢
    rw [Bool.false_and, Bool.and_false]
    refine callsA_of tabOk Tryz.func51 rfl rfl 64 Tryz.ntmps51 (by simp) ?_
    repeat' (first | (apply AWP.go ok; rfl; conv => whnf) | (apply ord_mk; kernel_rfl; conv => whnf) | (apply And.intro; (first | omega | (unfold inI; omega) | (dsimp only; omega) | (unfold bitsOk; omega) | ((try dsimp only); simp only [List.length_map, List.length_take, List.length_append, List.length_replicate, List.length_cons, List.length_nil]; omega) | (simp only [btw_iff] at *; first | omega | (unfold inI; omega) | (unfold bitsOk; omega)) | exact stor_map (fun _ => rfl) | exact ⟨rfl, stor_cons rfl stor_nil⟩ | exact ⟨rfl, stor_map (fun _ => rfl) _⟩ | exact ⟨⟨rfl, by omega⟩, stor_map (fun _ => rfl) _⟩); conv => whnf) | (with_reducible apply get_mapN; omega; intro _; conv => whnf) | (with_reducible apply get_mapI; omega; intro _; conv => whnf) | (apply get_mapN; omega; intro _; conv => whnf) | (apply get_fill; omega; conv => whnf) | (apply ex_some; conv => whnf) | (apply get_map; omega; intro _; conv => whnf) | (apply vcG_dec <;> intro _ <;> conv => whnf) | (apply vcG_ndec <;> intro _ <;> conv => whnf) | (apply vcG_not <;> intro _ <;> conv => whnf) | (apply vcG_mk <;> intro _ <;> conv => whnf) | (apply vcIf_dec <;> intro _ <;> conv => whnf) | (apply vcIf_ndec <;> intro _ <;> conv => whnf) | (apply vcIf_not <;> intro _ <;> conv => whnf) | (apply vcIf_mk <;> intro _ <;> conv => whnf) | (apply call_data (c0); rfl; rfl; conv => whnf) | (apply call_data (c1); rfl; rfl; conv => whnf))
    all_goals first | (exfalso; simp_all; done) | skip
    all_goals exact ret_bool rfl rfl

structure IntsOk (b : List Int) : Prop where
  mx : b.length ≤ maxLen
  len : b.length ≤ 1048576
theorem IntsOk.of {b : List Int} (h : b.length ≤ maxLen) (h1 : b.length ≤ 1048576) : IntsOk b := ⟨h, h1⟩
theorem szIntST (b : List Int) (hb : b.length ≤ maxLen) (n : Int) (h0 : 0 ≤ n) (h1 : n ≤ 1048576) : CallsA Tryz.prog 67 [ints b, .int n] [] (.int (bud n b.length)) [] := szIntS_ok b n hb h0 h1
theorem toIntsS {b : List Int} (h : IntsOk b) : CallsA Tryz.prog 52 [ints b] [] (ints b) [] := toIntS_ok b h.len
theorem toIntsN {b : List Int} (h : IntsOk b) : CallsA Tryz.prog 52 [ints b] [] (.sref 0 0 b.length) [.cells 1 (b.map enI)] := toIntS_new b h.len
end Go.Proofs.YtcmihlbihppflaaGreat

