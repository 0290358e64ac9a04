/- A part of the proofs over this program: T23, T24, T25, T26, T27. -/
import Derived.Test.YtcmihlbihppflaaGreatG0
import Derived.Test.YtcmihlbihppflaaGreatG1
import Derived.Test.YtcmihlbihppflaaGreatG2
import Derived.Test.YtcmihlbihppflaaGreatP0
import Derived.Test.YtcmihlbihppflaaGreatP1
set_option linter.all false
namespace Go.Proofs.YtcmihlbihppflaaGreat
open Go.Gl
attribute [local irreducible] vcCall AWP RetOk Again ordOk

/-- an empty slice that is data, is a slice of no elements, nil or not -/
theorem calls_empty {P : Program} {f : FuncId} {w : Nat} {res : AC} {objs' : List AObj} (hf : IsFunc P f) (h : ∀ a cap, CallsA P f [.raw (.slice a 0 cap)] [] res objs') : CallsA P f [.list w 0 []] [] res objs' := by
  refine ⟨hf, fun G W vs hW hs hv => ?_⟩
  simp only [VL] at hv
  obtain ⟨⟨v, hv1, hv2⟩, _⟩ := hv
  simp only [V] at hv2
  obtain ⟨a, cap, rfl, _⟩ := hv2
  exact (h a cap).2 G W vs hW hs (by simp only [VL]; exact ⟨⟨_, hv1, by simp [V]⟩, trivial⟩)

theorem nils_le {w : Nat} : ACle .nils (.list w 0 []) := fun G h v hv => by
  simp only [V] at hv ⊢
  exact ⟨none, 0, hv, Nat.le_refl _, rfl, .inl trivial⟩

theorem sref_le {o off w : Nat} : ACle (.sref o off 0) (.list w 0 []) := fun G h v hv => by
  simp only [V] at hv ⊢
  obtain ⟨cap, _, ⟨rfl, a, rfl⟩ | ⟨b, size, w', _, _, rfl⟩⟩ := hv
  · exact ⟨_, _, rfl, Nat.le_refl _, rfl, .inl trivial⟩
  · exact ⟨_, _, rfl, Nat.zero_le _, rfl, .inl trivial⟩
theorem isFunc_of {P : Program} {f : FuncId} {fn : Func} {c : Code} (hf : P.funcs[f]? = some fn) (hb : fn.body = some c) (hn : (fn.name == "runtime.NumGoroutine") = false) : IsFunc P f := ⟨fn, c, hf, hn, hb⟩

theorem clone_full (l : List Int) (hl : l.length ≤ 1048576) (hp : 0 < l.length) : CallsA Tryz.prog 141 [ints l] [] (.sref 0 0 l.length) [.cells 1 (l.map enI)] := by
  refine callsA_of tabOk Tryz.func141 rfl rfl 8 Tryz.ntmps141 (by simp) ?_
  repeat' (first | (apply AWP.go ok; rfl; conv => whnf) | (apply ord_mk; kernel_rfl; conv => whnf) | (apply And.intro; (first | omega | (unfold inI; omega) | (dsimp only; omega) | (unfold bitsOk; omega) | ((try dsimp only); simp only [List.length_map, List.length_take, List.length_append, List.length_replicate, List.length_cons, List.length_nil]; omega) | (simp only [btw_iff] at *; first | omega | (unfold inI; omega) | (unfold bitsOk; omega)) | exact stor_map (fun _ => rfl) | exact ⟨rfl, stor_cons rfl stor_nil⟩ | exact ⟨rfl, stor_map (fun _ => rfl) _⟩ | exact ⟨⟨rfl, by omega⟩, stor_map (fun _ => rfl) _⟩); conv => whnf) | (with_reducible apply get_mapN; omega; intro _; conv => whnf) | (with_reducible apply get_mapI; omega; intro _; conv => whnf) | (apply get_mapN; omega; intro _; conv => whnf) | (apply get_fill; omega; conv => whnf) | (apply ex_some; conv => whnf) | (apply get_map; omega; intro _; conv => whnf) | (apply vcG_dec <;> intro _ <;> conv => whnf) | (apply vcG_ndec <;> intro _ <;> conv => whnf) | (apply vcG_not <;> intro _ <;> conv => whnf) | (apply vcG_mk <;> intro _ <;> conv => whnf) | (apply vcIf_dec <;> intro _ <;> conv => whnf) | (apply vcIf_ndec <;> intro _ <;> conv => whnf) | (apply vcIf_not <;> intro _ <;> conv => whnf) | (apply vcIf_mk <;> intro _ <;> conv => whnf))
  exact ret_newN rfl (flat_map fun _ => rfl) (Nat.zero_add _) rfl rfl
theorem cloneInt_ok (l : List Int) (hl : l.length ≤ 1048576) : CallsA Tryz.prog 141 [ints l] [] (ints l) [] := by
  by_cases hp : 0 < l.length
  · have h := (clone_full l hl hp).keep (enc_unown1 _ _) (by simp)
    exact h
  · obtain rfl : l = [] := List.eq_nil_of_length_eq_zero (by omega)
    refine calls_empty (isFunc_of Tryz.func141 rfl (by rfl)) fun ad cap => ?_
    refine callsA_of tabOk Tryz.func141 rfl rfl 8 Tryz.ntmps141 (by simp) ?_
    repeat' (first | (apply AWP.go ok; rfl; conv => whnf) | (apply ord_mk; kernel_rfl; conv => whnf) | (apply And.intro; (first | omega | (unfold inI; omega) | (dsimp only; omega) | (unfold bitsOk; omega) | ((try dsimp only); simp only [List.length_map, List.length_take, List.length_append, List.length_replicate, List.length_cons, List.length_nil]; omega) | (simp only [btw_iff] at *; first | omega | (unfold inI; omega) | (unfold bitsOk; omega)) | exact stor_map (fun _ => rfl) | exact ⟨rfl, stor_cons rfl stor_nil⟩ | exact ⟨rfl, stor_map (fun _ => rfl) _⟩ | exact ⟨⟨rfl, by omega⟩, stor_map (fun _ => rfl) _⟩); conv => whnf) | (with_reducible apply get_mapN; omega; intro _; conv => whnf) | (with_reducible apply get_mapI; omega; intro _; conv => whnf) | (apply get_mapN; omega; intro _; conv => whnf) | (apply get_fill; omega; conv => whnf) | (apply ex_some; conv => whnf) | (apply get_map; omega; intro _; conv => whnf) | (apply vcG_dec <;> intro _ <;> conv => whnf) | (apply vcG_ndec <;> intro _ <;> conv => whnf) | (apply vcG_not <;> intro _ <;> conv => whnf) | (apply vcG_mk <;> intro _ <;> conv => whnf) | (apply vcIf_dec <;> intro _ <;> conv => whnf) | (apply vcIf_ndec <;> intro _ <;> conv => whnf) | (apply vcIf_not <;> intro _ <;> conv => whnf) | (apply vcIf_mk <;> intro _ <;> conv => whnf))
    · exact ret_le rfl rfl nils_le
    · exact ret_le rfl rfl sref_le
theorem clipInt_ok (l : List Int) (hl : l.length ≤ 1048576) : CallsA Tryz.prog 140 [ints l] [] (ints l) [] := by
  refine callsA_of tabOk Tryz.func140 rfl rfl 9 Tryz.ntmps140 (by simp) ?_
  repeat' (first | (apply AWP.go ok; rfl; conv => whnf) | (apply ord_mk; kernel_rfl; conv => whnf) | (apply And.intro; (first | omega | (unfold inI; omega) | (dsimp only; omega) | (unfold bitsOk; omega) | ((try dsimp only); simp only [List.length_map, List.length_take, List.length_append, List.length_replicate, List.length_cons, List.length_nil]; omega) | (simp only [btw_iff] at *; first | omega | (unfold inI; omega) | (unfold bitsOk; omega)) | exact stor_map (fun _ => rfl) | exact ⟨rfl, stor_cons rfl stor_nil⟩ | exact ⟨rfl, stor_map (fun _ => rfl) _⟩ | exact ⟨⟨rfl, by omega⟩, stor_map (fun _ => rfl) _⟩); conv => whnf) | (with_reducible apply get_mapN; omega; intro _; conv => whnf) | (with_reducible apply get_mapI; omega; intro _; conv => whnf) | (apply get_mapN; omega; intro _; conv => whnf) | (apply get_fill; omega; conv => whnf) | (apply ex_some; conv => whnf) | (apply get_map; omega; intro _; conv => whnf) | (apply vcG_dec <;> intro _ <;> conv => whnf) | (apply vcG_ndec <;> intro _ <;> conv => whnf) | (apply vcG_not <;> intro _ <;> conv => whnf) | (apply vcG_mk <;> intro _ <;> conv => whnf) | (apply vcIf_dec <;> intro _ <;> conv => whnf) | (apply vcIf_ndec <;> intro _ <;> conv => whnf) | (apply vcIf_not <;> intro _ <;> conv => whnf) | (apply vcIf_mk <;> intro _ <;> conv => whnf))
  refine ret_data rfl rfl ?_
  show AC.list 1 _ _ = ints l
  rw [show AC.list 1 ((l.length : Int).toNat - (0 : Int).toNat) (((l.map enI).drop (0 : Int).toNat).take ((l.length : Int).toNat - (0 : Int).toNat)) = _ from slice_take 1 enI l l.length (Nat.le_refl _), List.take_length]
  rfl
theorem implClone_ok (l : List Int) (hl : l.length ≤ 1048576) : CallsA Tryz.prog 91 [ints l] [] (ints l) [] := by
  refine callsA_of tabOk Tryz.func91 rfl rfl 6 Tryz.ntmps91 (by simp) ?_
  repeat' (first | (apply AWP.go ok; rfl; conv => whnf) | (apply ord_mk; kernel_rfl; conv => whnf) | (apply And.intro; (first | omega | (unfold inI; omega) | (dsimp only; omega) | (unfold bitsOk; omega) | ((try dsimp only); simp only [List.length_map, List.length_take, List.length_append, List.length_replicate, List.length_cons, List.length_nil]; omega) | (simp only [btw_iff] at *; first | omega | (unfold inI; omega) | (unfold bitsOk; omega)) | exact stor_map (fun _ => rfl) | exact ⟨rfl, stor_cons rfl stor_nil⟩ | exact ⟨rfl, stor_map (fun _ => rfl) _⟩ | exact ⟨⟨rfl, by omega⟩, stor_map (fun _ => rfl) _⟩); conv => whnf) | (with_reducible apply get_mapN; omega; intro _; conv => whnf) | (with_reducible apply get_mapI; omega; intro _; conv => whnf) | (apply get_mapN; omega; intro _; conv => whnf) | (apply get_fill; omega; conv => whnf) | (apply ex_some; conv => whnf) | (apply get_map; omega; intro _; conv => whnf) | (apply vcG_dec <;> intro _ <;> conv => whnf) | (apply vcG_ndec <;> intro _ <;> conv => whnf) | (apply vcG_not <;> intro _ <;> conv => whnf) | (apply vcG_mk <;> intro _ <;> conv => whnf) | (apply vcIf_dec <;> intro _ <;> conv => whnf) | (apply vcIf_ndec <;> intro _ <;> conv => whnf) | (apply vcIf_not <;> intro _ <;> conv => whnf) | (apply vcIf_mk <;> intro _ <;> conv => whnf) | (apply call_data (cloneInt_ok l hl); rfl; rfl; conv => whnf) | (apply call_data (clipInt_ok l hl); rfl; rfl; conv => whnf))
  exact ret_data rfl rfl rfl

theorem tup_le2 {x x' y : AC} (h : ACle x x') : ACle (.tup [x, y]) (.tup [x', y]) := fun G hh v hv => by
  simp only [V, VL] at hv ⊢
  obtain ⟨c, rfl, hc, ⟨v1, h1, h2⟩, h3, _⟩ := hv
  exact ⟨c, rfl, hc, ⟨v1, h1, h _ _ _ h2⟩, h3, trivial⟩
/-- are the graph and the labels valid? -/
noncomputable def glB (g : Graph) (l : List Tree) : Bool := graphB g && labelsB l
theorem valsOk_of {l : List Int} (h : valsB l = true) : ValsOk l := by
  unfold valsB at h
  rw [Bool.and_eq_true, decide_eq_true_eq, Bool.not_eq_true', List.any_eq_false] at h
  exact ⟨by omega, fun x hx => by simpa [btw_iff] using h.2 x hx⟩
theorem GB.vals {g : Graph} (h : GB g) : ∀ s ∈ g.st, ValsOk s.b := fun s hs => by
  obtain ⟨i, hi, rfl⟩ := List.mem_iff_getElem.1 hs
  exact valsOk_of (h.2.2 i (by have := h.2.1; omega) (by have := h.2.1; omega) hi).2.2.1

def Lmx (l : List Tree) : Prop := l.length ≤ maxLen ∧ ∀ t ∈ l, t.mx
theorem specLabelGraph_ok (g : Graph) (hg : g.mx) (l : List Tree) (hl : Lmx l) : CallsA Tryz.prog 70 [.agg g.cs, lst 3 Tree.cs' l] [] (.tup [ints (if glB g l then g.st.map (letterZ l) else []), .bool (glB g l)]) [] := by
  refine callsA_of tabOk Tryz.func70 rfl rfl 18 Tryz.ntmps70 (by simp) ?_
  have k1 := specGraphValid_ok g hg
  have k2 := specLabelsValid_ok l hl.1 hl.2
  have k3 := fun (h1 : graphB g = true) (h2 : labelsB l = true) => l8Letters_ok g ((graphB_iff g).1 h1).vals ((graphB_iff g).1 h1).1.2 l (LabelsOk.of h2)
  repeat' (first | (apply AWP.go ok; rfl; conv => whnf) | (apply ord_mk; kernel_rfl; conv => whnf) | (apply And.intro; (first | omega | (unfold inI; omega) | (dsimp only; omega) | (unfold bitsOk; omega) | ((try dsimp only); simp only [List.length_map, List.length_take, List.length_append, List.length_replicate, List.length_cons, List.length_nil]; omega) | (simp only [btw_iff] at *; first | omega | (unfold inI; omega) | (unfold bitsOk; omega)) | exact stor_map (fun _ => rfl) | exact ⟨rfl, stor_cons rfl stor_nil⟩ | exact ⟨rfl, stor_map (fun _ => rfl) _⟩ | exact ⟨⟨rfl, by omega⟩, stor_map (fun _ => rfl) _⟩); conv => whnf) | (with_reducible apply get_mapN; omega; intro _; conv => whnf) | (with_reducible apply get_mapI; omega; intro _; conv => whnf) | (apply get_mapN; omega; intro _; conv => whnf) | (apply get_fill; omega; conv => whnf) | (apply ex_some; conv => whnf) | (apply get_map; omega; intro _; conv => whnf) | (apply vcG_dec <;> intro _ <;> conv => whnf) | (apply vcG_ndec <;> intro _ <;> conv => whnf) | (apply vcG_not <;> intro _ <;> conv => whnf) | (apply vcG_mk <;> intro _ <;> conv => whnf) | (apply vcIf_dec <;> intro _ <;> conv => whnf) | (apply vcIf_ndec <;> intro _ <;> conv => whnf) | (apply vcIf_not <;> intro _ <;> conv => whnf) | (apply vcIf_mk <;> intro _ <;> conv => whnf) | (apply call_data (k1); rfl; rfl; conv => whnf) | (apply call_data (k2); rfl; rfl; conv => whnf) | (apply call_data (k3 (by assumption) (by assumption)); rfl; rfl; conv => whnf))
  · rename_i h
    have e : glB g l = false := by unfold glB; rw [h]; rfl
    rw [e]
    exact ret_le rfl rfl (tup_le2 sref_le)
  · rename_i h1 h2
    have e : glB g l = false := by unfold glB; rw [h1, h2]; rfl
    rw [e]
    exact ret_le rfl rfl (tup_le2 sref_le)
  · rename_i h1 h2
    have e : glB g l = true := by unfold glB; rw [h1, h2]; rfl
    rw [e]
    exact ret_data rfl rfl rfl

theorem checked_ok (g : Graph) (hg : g.mx) (l : List Tree) (hl : Lmx l) (a : Aut) (ha : a.mx) : CallsA Tryz.prog 79 [.agg g.cs, lst 3 Tree.cs' l, .agg a.cs] [] (.bool (glB g l && autB a)) [] := by
  refine callsA_of tabOk Tryz.func79 rfl rfl 17 Tryz.ntmps79 (by simp) ?_
  repeat' (first | (apply AWP.go ok; rfl; conv => whnf) | (apply ord_mk; kernel_rfl; conv => whnf) | (apply And.intro; (first | omega | (unfold inI; omega) | (dsimp only; omega) | (unfold bitsOk; omega) | ((try dsimp only); simp only [List.length_map, List.length_take, List.length_append, List.length_replicate, List.length_cons, List.length_nil]; omega) | (simp only [btw_iff] at *; first | omega | (unfold inI; omega) | (unfold bitsOk; omega)) | exact stor_map (fun _ => rfl) | exact ⟨rfl, stor_cons rfl stor_nil⟩ | exact ⟨rfl, stor_map (fun _ => rfl) _⟩ | exact ⟨⟨rfl, by omega⟩, stor_map (fun _ => rfl) _⟩); conv => whnf) | (with_reducible apply get_mapN; omega; intro _; conv => whnf) | (with_reducible apply get_mapI; omega; intro _; conv => whnf) | (apply get_mapN; omega; intro _; conv => whnf) | (apply get_fill; omega; conv => whnf) | (apply ex_some; conv => whnf) | (apply get_map; omega; intro _; conv => whnf) | (apply vcG_dec <;> intro _ <;> conv => whnf) | (apply vcG_ndec <;> intro _ <;> conv => whnf) | (apply vcG_not <;> intro _ <;> conv => whnf) | (apply vcG_mk <;> intro _ <;> conv => whnf) | (apply vcIf_dec <;> intro _ <;> conv => whnf) | (apply vcIf_ndec <;> intro _ <;> conv => whnf) | (apply vcIf_not <;> intro _ <;> conv => whnf) | (apply vcIf_mk <;> intro _ <;> conv => whnf) | (apply call_data (graphValid_ok g hg); rfl; rfl; conv => whnf) | (apply call_data (labelsValid_ok l hl.1 hl.2); rfl; rfl; conv => whnf) | (apply call_data (automatonValid_ok a ha); rfl; rfl; conv => whnf))
  all_goals (refine ret_bool rfl ?_; first | rfl | (unfold glB; simp [*]; done) | (unfold glB; simp_all; done) | (unfold glB; simp_all; omega))
end Go.Proofs.YtcmihlbihppflaaGreat

namespace Go.Proofs.YtcmihlbihppflaaGreat
open Go.Gl
attribute [local irreducible] vcCall AWP RetOk Again ordOk

def onB (t : Trans) (n : Int) : Bool := decide (((n.toNat &&& t.care.toNat : Nat) : Int) = t.val)
/-- what one edge adds at one state and one successor -/
def pushE (n : Nat) (i : Nat) (ℓ to : Int) (e : Trans) : List (Nat × Int) := if onB e ℓ then [((i : Nat) * n + e.src.toNat, to * n + e.dst)] else []
def pushJ (n : Nat) (ed : List Trans) (i : Nat) (ℓ to : Int) : List (Nat × Int) := ed.flatMap (pushE n i ℓ to)
def pushI (n : Nat) (ed : List Trans) (nx : List (List Int)) (ls : List Int) (i : Nat) : List (Nat × Int) := (nx.getD i []).flatMap (pushJ n ed i (ls.getD i 0))
def pushS (g : Graph) (ls : List Int) (a : Aut) : List (Nat × Int) := (List.range g.st.length).flatMap (pushI a.acc.length a.ed g.nx ls)
/-- the successors of the nodes of the product -/
def prodRows (g : Graph) (ls : List Int) (a : Aut) : List (List Int) := build (a.acc.length * g.st.length) (pushS g ls a)

theorem pushS_len (g : Graph) (hg : GB g) (ls : List Int) (a : Aut) (ha : AutP a) : (pushS g ls a).length ≤ 7372800 := by
  obtain ⟨⟨g1, g2⟩, g3, g4⟩ := hg
  have h1 : ∀ i ℓ to, (pushJ a.acc.length a.ed i ℓ to).length ≤ 2048 := fun i ℓ to => by
    have := flat_len (f := pushE a.acc.length i ℓ to) (c := 1) a.ed (fun e _ => by unfold pushE; split <;> simp)
    have := ha.2.1
    unfold pushJ; omega
  have h2 : ∀ i ∈ List.range g.st.length, (pushI a.acc.length a.ed g.nx ls i).length ≤ 122880 := fun i hi => by
    rw [List.mem_range] at hi
    unfold pushI
    rw [getD_at (l := g.nx) (by omega)]
    have h3 := flat_len (f := pushJ a.acc.length a.ed i (ls.getD i 0)) (c := 2048) g.nx[i] (fun e _ => h1 _ _ _)
    have h4 := (g4 i (by omega) (by omega) hi).2.1
    have : g.nx[i].length * 2048 ≤ 60 * 2048 := Nat.mul_le_mul_right _ (by omega)
    omega
  have h5 := flat_len (f := pushI a.acc.length a.ed g.nx ls) (c := 122880) (List.range g.st.length) h2
  rw [List.length_range] at h5
  have : g.st.length * 122880 ≤ 60 * 122880 := Nat.mul_le_mul_right _ (by omega)
  unfold pushS; omega

theorem l8Product_new (g : Graph) (hg : GB g) (ls : List Int) (hls : ls.length = g.st.length) (hlr : ∀ x ∈ ls, 0 ≤ x ∧ x ≤ 7) (a : Aut) (ha : AutP a) : CallsA Tryz.prog 72 [.agg g.cs, ints ls, .agg a.cs] [] (.sref 0 0 (a.acc.length * g.st.length)) [.cells 1 ((prodRows g ls a).map ownRow)] := by
  have hpl := pushS_len g hg ls a ha
  obtain ⟨⟨g1, g2⟩, g3, g4⟩ := hg
  obtain ⟨⟨a1, a2⟩, a3, _, a5⟩ := ha
  have hN := mul_bound (a := (a.acc.length : Int)) (b := (g.st.length : Int)) (A := 64) (B := 60) (by omega) (by omega) (by omega) (by omega)
  have hNn : ((a.acc.length * g.st.length : Nat) : Int) = (a.acc.length : Int) * g.st.length := by simp
  refine callsA_of tabOk Tryz.func72 rfl rfl 93 Tryz.ntmps72 (by simp) ?_
  repeat' (first | (apply AWP.go ok; rfl; conv => whnf) | (apply ord_mk; kernel_rfl; conv => whnf) | (apply And.intro; (first | omega | (unfold inI; omega) | (dsimp only; omega) | (unfold bitsOk; omega) | ((try dsimp only); simp only [List.length_map, List.length_take, List.length_append, List.length_replicate, List.length_cons, List.length_nil]; omega) | (simp only [btw_iff] at *; first | omega | (unfold inI; omega) | (unfold bitsOk; omega)) | exact stor_map (fun _ => rfl) | exact ⟨rfl, stor_cons rfl stor_nil⟩ | exact ⟨rfl, stor_map (fun _ => rfl) _⟩ | exact ⟨⟨rfl, by omega⟩, stor_map (fun _ => rfl) _⟩); conv => whnf) | (with_reducible apply get_mapN; omega; intro _; conv => whnf) | (with_reducible apply get_mapI; omega; intro _; conv => whnf) | (apply get_mapN; omega; intro _; conv => whnf) | (apply get_fill; omega; conv => whnf) | (apply ex_some; conv => whnf) | (apply get_map; omega; intro _; conv => whnf) | (apply vcG_dec <;> intro _ <;> conv => whnf) | (apply vcG_ndec <;> intro _ <;> conv => whnf) | (apply vcG_not <;> intro _ <;> conv => whnf) | (apply vcG_mk <;> intro _ <;> conv => whnf) | (apply vcIf_dec <;> intro _ <;> conv => whnf) | (apply vcIf_ndec <;> intro _ <;> conv => whnf) | (apply vcIf_not <;> intro _ <;> conv => whnf) | (apply vcIf_mk <;> intro _ <;> conv => whnf))
  refine AWP.reach (Gl.Reach.weaken (es' := List.replicate (a.acc.length * g.st.length) [.own 1 []]) 2 rfl (by rw [List.length_replicate, List.length_replicate]; rfl) rows_weaken rfl) ?_
  conv => whnf
  have hrow : ∀ i (hi : i < g.nx.length), ∀ x ∈ g.nx[i], 0 ≤ x ∧ x ≤ g.st.length - 1 := fun i hi x hx => by
    obtain ⟨j, hj, rfl⟩ := List.mem_iff_getElem.1 hx
    exact ((g4 i hi hi (by omega)).2.2.2 j hj hj).1
  have hlen : ∀ i (hi : i < g.nx.length), g.nx[i].length ≤ 60 := fun i hi => by
    have := (g4 i hi hi (by omega)).2.1; omega
  refine loopA (fun x : Nat × List (Nat × Int) => ([(1, ints ls), (3, .ptr 0 none 0), (5, .ptr 1 none 0), (7, .int a.acc.length), (8, .sref 2 0 (a.acc.length * g.st.length)), (9, .int x.1)], [.cells 2 [[lst 2 State.cs g.st, lst 1 encL g.nx]], .cells 3 [[lst 1 enI a.ini, lst 1 enB a.acc, lst 4 Trans.cs a.ed]], .cells 1 ((build (a.acc.length * g.st.length) x.2).map ownRow)])) (fun x => x.1 ≤ g.st.length ∧ x.2 ++ ((List.range g.st.length).drop x.1).flatMap (pushI a.acc.length a.ed g.nx ls) = pushS g ls a) (fun x => g.st.length - x.1) (0, []) ⟨by omega, rfl⟩
    ⟨[0, 1, 2], rfl, by decide, rfl, ⟨⟨rfl, rfl⟩, ⟨rfl, rfl⟩, ⟨rfl, rfl⟩, ⟨rfl, rfl⟩, ⟨rfl, rfl⟩, ⟨rfl, rfl⟩, trivial⟩, ⟨obj_box rfl rfl, obj_box rfl rfl, obj_flat (cells_congr (rows_nil _).symm) (flat_map fun _ => rfl), trivial⟩⟩ ?_
  rintro ⟨i, ps⟩ ⟨hi1, hi2⟩
  dsimp only at hi1 hi2 ⊢
  repeat' (first | (apply AWP.go ok; rfl; conv => whnf) | (apply ord_mk; kernel_rfl; conv => whnf) | (apply And.intro; (first | omega | (unfold inI; omega) | (dsimp only; omega) | (unfold bitsOk; omega) | ((try dsimp only); simp only [List.length_map, List.length_take, List.length_append, List.length_replicate, List.length_cons, List.length_nil]; omega) | (simp only [btw_iff] at *; first | omega | (unfold inI; omega) | (unfold bitsOk; omega)) | exact stor_map (fun _ => rfl) | exact ⟨rfl, stor_cons rfl stor_nil⟩ | exact ⟨rfl, stor_map (fun _ => rfl) _⟩ | exact ⟨⟨rfl, by omega⟩, stor_map (fun _ => rfl) _⟩); conv => whnf) | (with_reducible apply get_mapN; omega; intro _; conv => whnf) | (with_reducible apply get_mapI; omega; intro _; conv => whnf) | (apply get_mapN; omega; intro _; conv => whnf) | (apply get_fill; omega; conv => whnf) | (apply ex_some; conv => whnf) | (apply get_map; omega; intro _; conv => whnf) | (apply vcG_dec <;> intro _ <;> conv => whnf) | (apply vcG_ndec <;> intro _ <;> conv => whnf) | (apply vcG_not <;> intro _ <;> conv => whnf) | (apply vcG_mk <;> intro _ <;> conv => whnf) | (apply vcIf_dec <;> intro _ <;> conv => whnf) | (apply vcIf_ndec <;> intro _ <;> conv => whnf) | (apply vcIf_not <;> intro _ <;> conv => whnf) | (apply vcIf_mk <;> intro _ <;> conv => whnf))
  · have hig : i < g.st.length := by omega
    rw [drop_flat _ _ _ (by simpa using hig), List.getElem_range] at hi2
    have hin : i < g.nx.length := by omega
    have hrow := hrow i hin
    have hlen := hlen i hin
    have hli := hlr ls[i] (List.getElem_mem _)
    have hpI : pushI a.acc.length a.ed g.nx ls i = g.nx[i].flatMap (pushJ a.acc.length a.ed i ls[i]) := by
      unfold pushI
      rw [getD_at hin, getD_at (by omega)]
    rw [hpI] at hi2
    refine loopA (fun x : Nat × List (Nat × Int) => ([(1, ints ls), (3, .ptr 0 none 0), (5, .ptr 1 none 0), (7, .int a.acc.length), (8, .sref 2 0 (a.acc.length * g.st.length)), (9, .int i), (10, .int x.1)], [.cells 2 [[lst 2 State.cs g.st, lst 1 encL g.nx]], .cells 3 [[lst 1 enI a.ini, lst 1 enB a.acc, lst 4 Trans.cs a.ed]], .cells 1 ((build (a.acc.length * g.st.length) x.2).map ownRow)])) (fun x => x.1 ≤ g.nx[i].length ∧ x.2 ++ ((g.nx[i].drop x.1).flatMap (pushJ a.acc.length a.ed i ls[i]) ++ ((List.range g.st.length).drop (i + 1)).flatMap (pushI a.acc.length a.ed g.nx ls)) = pushS g ls a) (fun x => g.nx[i].length - x.1) (0, ps) ⟨by omega, hi2⟩
      ⟨[0, 1, 2], rfl, by decide, rfl, ⟨⟨rfl, rfl⟩, ⟨rfl, rfl⟩, ⟨rfl, rfl⟩, ⟨rfl, rfl⟩, ⟨rfl, rfl⟩, ⟨rfl, rfl⟩, ⟨rfl, rfl⟩, trivial⟩, ⟨obj_box rfl rfl, obj_box rfl rfl, obj_flat rfl (flat_map fun _ => rfl), trivial⟩⟩ ?_
    rintro ⟨j, ps⟩ ⟨hj1, hj2⟩
    dsimp only at hj1 hj2 ⊢
    repeat' (first | (apply AWP.go ok; rfl; conv => whnf) | (apply ord_mk; kernel_rfl; conv => whnf) | (apply And.intro; (first | omega | (unfold inI; omega) | (dsimp only; omega) | (unfold bitsOk; omega) | ((try dsimp only); simp only [List.length_map, List.length_take, List.length_append, List.length_replicate, List.length_cons, List.length_nil]; omega) | (simp only [btw_iff] at *; first | omega | (unfold inI; omega) | (unfold bitsOk; omega)) | exact stor_map (fun _ => rfl) | exact ⟨rfl, stor_cons rfl stor_nil⟩ | exact ⟨rfl, stor_map (fun _ => rfl) _⟩ | exact ⟨⟨rfl, by omega⟩, stor_map (fun _ => rfl) _⟩); conv => whnf) | (with_reducible apply get_mapN; omega; intro _; conv => whnf) | (with_reducible apply get_mapI; omega; intro _; conv => whnf) | (apply get_mapN; omega; intro _; conv => whnf) | (apply get_fill; omega; conv => whnf) | (apply ex_some; conv => whnf) | (apply get_map; omega; intro _; conv => whnf) | (apply vcG_dec <;> intro _ <;> conv => whnf) | (apply vcG_ndec <;> intro _ <;> conv => whnf) | (apply vcG_not <;> intro _ <;> conv => whnf) | (apply vcG_mk <;> intro _ <;> conv => whnf) | (apply vcIf_dec <;> intro _ <;> conv => whnf) | (apply vcIf_ndec <;> intro _ <;> conv => whnf) | (apply vcIf_not <;> intro _ <;> conv => whnf) | (apply vcIf_mk <;> intro _ <;> conv => whnf))
    · have hjn : j < g.nx[i].length := by omega
      rw [drop_flat _ _ _ hjn, List.append_assoc] at hj2
      have hto := hrow g.nx[i][j] (List.getElem_mem _)
      refine loopA (fun x : Nat × List (Nat × Int) => ([(1, ints ls), (3, .ptr 0 none 0), (5, .ptr 1 none 0), (7, .int a.acc.length), (8, .sref 2 0 (a.acc.length * g.st.length)), (9, .int i), (10, .int j), (11, .int x.1)], [.cells 2 [[lst 2 State.cs g.st, lst 1 encL g.nx]], .cells 3 [[lst 1 enI a.ini, lst 1 enB a.acc, lst 4 Trans.cs a.ed]], .cells 1 ((build (a.acc.length * g.st.length) x.2).map ownRow)])) (fun x => x.1 ≤ a.ed.length ∧ x.2 ++ ((a.ed.drop x.1).flatMap (pushE a.acc.length i ls[i] g.nx[i][j]) ++ ((g.nx[i].drop (j + 1)).flatMap (pushJ a.acc.length a.ed i ls[i]) ++ ((List.range g.st.length).drop (i + 1)).flatMap (pushI a.acc.length a.ed g.nx ls))) = pushS g ls a) (fun x => a.ed.length - x.1) (0, ps) ⟨by omega, hj2⟩
        ⟨[0, 1, 2], rfl, by decide, rfl, ⟨⟨rfl, rfl⟩, ⟨rfl, rfl⟩, ⟨rfl, rfl⟩, ⟨rfl, rfl⟩, ⟨rfl, rfl⟩, ⟨rfl, rfl⟩, ⟨rfl, rfl⟩, ⟨rfl, rfl⟩, trivial⟩, ⟨obj_box rfl rfl, obj_box rfl rfl, obj_flat rfl (flat_map fun _ => rfl), trivial⟩⟩ ?_
      rintro ⟨k, ps⟩ ⟨hk1, hk2⟩
      dsimp only at hk1 hk2 ⊢
      have hm1 := mul_bound (a := (i : Int)) (b := (a.acc.length : Int)) (A := 60) (B := 64) (by omega) (by omega) (by omega) (by omega)
      have hm2 := mul_bound (a := g.nx[i][j]) (b := (a.acc.length : Int)) (A := 60) (B := 64) (by omega) (by omega) (by omega) (by omega)
      by_cases hke : k < a.ed.length
      · have he := a5 a.ed[k] (List.getElem_mem hke)
        unfold edgeP at he
        have hlt : i * a.acc.length + a.ed[k].src.toNat < (build (a.acc.length * g.st.length) ps).length := by
          rw [build_length]
          have h1 : (i + 1) * a.acc.length ≤ g.st.length * a.acc.length := Nat.mul_le_mul_right _ hig
          rw [Nat.add_mul, Nat.one_mul, Nat.mul_comm g.st.length] at h1
          omega
        repeat' (first | ((fail_if_success apply stopAt 14); (fail_if_success apply stopAtS 14); apply AWP.go ok; rfl; conv => whnf) | (apply ord_mk; kernel_rfl; conv => whnf) | (apply And.intro; (first | omega | (unfold inI; omega) | (dsimp only; omega) | (unfold bitsOk; omega) | ((try dsimp only); simp only [List.length_map, List.length_take, List.length_append, List.length_replicate, List.length_cons, List.length_nil]; omega) | (simp only [btw_iff] at *; first | omega | (unfold inI; omega) | (unfold bitsOk; omega)) | exact stor_map (fun _ => rfl) | exact ⟨rfl, stor_cons rfl stor_nil⟩ | exact ⟨rfl, stor_map (fun _ => rfl) _⟩ | exact ⟨⟨rfl, by omega⟩, stor_map (fun _ => rfl) _⟩); conv => whnf) | (with_reducible apply get_mapN; omega; intro _; conv => whnf) | (with_reducible apply get_mapI; omega; intro _; conv => whnf) | (apply get_mapN; omega; intro _; conv => whnf) | (apply get_fill; omega; conv => whnf) | (apply ex_some; conv => whnf) | (apply get_map; omega; intro _; conv => whnf) | (apply vcG_dec <;> intro _ <;> conv => whnf) | (apply vcG_ndec <;> intro _ <;> conv => whnf) | (apply vcG_not <;> intro _ <;> conv => whnf) | (apply vcG_mk <;> intro _ <;> conv => whnf) | (apply vcIf_dec <;> intro _ <;> conv => whnf) | (apply vcIf_ndec <;> intro _ <;> conv => whnf) | (apply vcIf_not <;> intro _ <;> conv => whnf) | (apply vcIf_mk <;> intro _ <;> conv => whnf) | (apply call_data (l7On_ok a.ed[k] ls[i] hli.1 hli.2 (a5 _ (List.getElem_mem _)).2.2.1); rfl; rfl; conv => whnf))
        · have hon : ((ls[i].toNat &&& a.ed[k].care.toNat : Nat) : Int) = a.ed[k].val := by assumption
          have hrl : (build (a.acc.length * g.st.length) ps)[i * a.acc.length + a.ed[k].src.toNat].length ≤ 1000000000 := by
            have h1 := build_row_le (N := a.acc.length * g.st.length) (ps := ps) hlt
            have h2 := congrArg List.length hk2
            rw [List.length_append] at h2
            omega
          have hin : ((i : Int) * a.acc.length + a.ed[k].src).toNat = i * a.acc.length + a.ed[k].src.toNat := by
            have e : ((i * a.acc.length : Nat) : Int) = (i : Int) * a.acc.length := by simp
            omega
          have hlt2 : ((i : Int) * a.acc.length + a.ed[k].src).toNat < a.acc.length * g.st.length := by
            rw [hin, ← build_length (a.acc.length * g.st.length) ps]; exact hlt
          have hmap : i * a.acc.length + a.ed[k].src.toNat < ((build (a.acc.length * g.st.length) ps).map ownRow).length := by rw [List.length_map]; exact hlt
          refine AWP.reach (Gl.Reach.expose (e := ownRow (build (a.acc.length * g.st.length) ps)[i * a.acc.length + a.ed[k].src.toNat]) 2 (i * a.acc.length + a.ed[k].src.toNat) 0 rfl (by rw [List.getElem?_map, List.getElem?_eq_getElem hlt]; rfl) rfl (leaf_map (fun _ => rfl) _) rfl) ?_
          conv => whnf
          (apply AWP.go ok; rfl; conv => whnf)
          repeat' (first | (apply ord_mk; kernel_rfl; conv => whnf) | (apply And.intro; (first | omega | (unfold inI; omega) | (dsimp only; omega) | (unfold bitsOk; omega) | ((try dsimp only); simp only [List.length_map, List.length_take, List.length_append, List.length_replicate, List.length_cons, List.length_nil]; omega) | (simp only [btw_iff] at *; first | omega | (unfold inI; omega) | (unfold bitsOk; omega)) | exact stor_map (fun _ => rfl) | exact ⟨rfl, stor_cons rfl stor_nil⟩ | exact ⟨rfl, stor_map (fun _ => rfl) _⟩ | exact ⟨⟨rfl, by omega⟩, stor_map (fun _ => rfl) _⟩); conv => whnf) | (with_reducible apply get_mapN; omega; intro _; conv => whnf) | (with_reducible apply get_mapI; omega; intro _; conv => whnf) | (apply get_mapN; omega; intro _; conv => whnf) | (apply get_fill; omega; conv => whnf) | (apply ex_some; conv => whnf) | (apply get_map; omega; intro _; conv => whnf) | (apply vcG_dec <;> intro _ <;> conv => whnf) | (apply vcG_ndec <;> intro _ <;> conv => whnf) | (apply vcG_not <;> intro _ <;> conv => whnf) | (apply vcG_mk <;> intro _ <;> conv => whnf) | (apply vcIf_dec <;> intro _ <;> conv => whnf) | (apply vcIf_ndec <;> intro _ <;> conv => whnf) | (apply vcIf_not <;> intro _ <;> conv => whnf) | (apply vcIf_mk <;> intro _ <;> conv => whnf) | (apply get_set; exact hin; exact hmap; conv => whnf))
          refine AWP.reach (Gl.Reach.absorb 2 5 (i * a.acc.length + a.ed[k].src.toNat) 0 rfl (getset hin (by rw [List.length_set]; exact hmap)) rfl rfl (by simp) rfl (flat_append (fun e he => (flat_map (fun _ => rfl)) e (List.mem_of_mem_take he)) (flat_cons rfl flat_nil)) rfl) ?_
          conv => whnf
          repeat' (first | (apply AWP.go ok; rfl; conv => whnf) | (apply ord_mk; kernel_rfl; conv => whnf) | (apply And.intro; (first | omega | (unfold inI; omega) | (dsimp only; omega) | (unfold bitsOk; omega) | ((try dsimp only); simp only [List.length_map, List.length_take, List.length_append, List.length_replicate, List.length_cons, List.length_nil]; omega) | (simp only [btw_iff] at *; first | omega | (unfold inI; omega) | (unfold bitsOk; omega)) | exact stor_map (fun _ => rfl) | exact ⟨rfl, stor_cons rfl stor_nil⟩ | exact ⟨rfl, stor_map (fun _ => rfl) _⟩ | exact ⟨⟨rfl, by omega⟩, stor_map (fun _ => rfl) _⟩); conv => whnf) | (with_reducible apply get_mapN; omega; intro _; conv => whnf) | (with_reducible apply get_mapI; omega; intro _; conv => whnf) | (apply get_mapN; omega; intro _; conv => whnf) | (apply get_fill; omega; conv => whnf) | (apply ex_some; conv => whnf) | (apply get_map; omega; intro _; conv => whnf) | (apply vcG_dec <;> intro _ <;> conv => whnf) | (apply vcG_ndec <;> intro _ <;> conv => whnf) | (apply vcG_not <;> intro _ <;> conv => whnf) | (apply vcG_mk <;> intro _ <;> conv => whnf) | (apply vcIf_dec <;> intro _ <;> conv => whnf) | (apply vcIf_ndec <;> intro _ <;> conv => whnf) | (apply vcIf_not <;> intro _ <;> conv => whnf) | (apply vcIf_mk <;> intro _ <;> conv => whnf))
          rw [drop_flat _ _ _ hke] at hk2
          have hpe : pushE a.acc.length i ls[i] g.nx[i][j] a.ed[k] = [(i * a.acc.length + a.ed[k].src.toNat, g.nx[i][j] * a.acc.length + a.ed[k].dst)] := by
            unfold pushE onB; rw [if_pos (decide_eq_true hon)]
          rw [hpe, List.append_assoc, ← List.append_assoc] at hk2
          exact again (k + 1, ps ++ [(i * a.acc.length + a.ed[k].src.toNat, g.nx[i][j] * a.acc.length + a.ed[k].dst)]) [0, 1, 2] ⟨by dsimp only; omega, hk2⟩ (by dsimp only; omega)
            ⟨rfl, by decide, rfl, ⟨⟨rfl, rfl⟩, ⟨rfl, rfl⟩, ⟨rfl, rfl⟩, ⟨rfl, rfl⟩, ⟨rfl, rfl⟩, ⟨rfl, rfl⟩, ⟨rfl, rfl⟩, ⟨rfl, rfl⟩, trivial⟩, ⟨obj_box rfl rfl, obj_box rfl rfl, obj_flat (cells_congr (rows_push' hlt hin (by simp))) (flat_map fun _ => rfl), trivial⟩⟩
        · rename_i hon
          rw [drop_flat _ _ _ hke] at hk2
          have hpe : pushE a.acc.length i ls[i] g.nx[i][j] a.ed[k] = [] := by
            unfold pushE onB; rw [if_neg (by simpa using hon)]
          rw [hpe, List.nil_append] at hk2
          exact again (k + 1, ps) [0, 1, 2] ⟨by dsimp only; omega, hk2⟩ (by dsimp only; omega)
            ⟨rfl, by decide, rfl, ⟨⟨rfl, rfl⟩, ⟨rfl, rfl⟩, ⟨rfl, rfl⟩, ⟨rfl, rfl⟩, ⟨rfl, rfl⟩, ⟨rfl, rfl⟩, ⟨rfl, rfl⟩, ⟨rfl, rfl⟩, trivial⟩, ⟨obj_box rfl rfl, obj_box rfl rfl, obj_flat rfl (flat_map fun _ => rfl), trivial⟩⟩
        · omega
      · repeat' (first | ((fail_if_success apply stopAt 14); (fail_if_success apply stopAtS 14); apply AWP.go ok; rfl; conv => whnf) | (apply ord_mk; kernel_rfl; conv => whnf) | (apply And.intro; (first | omega | (unfold inI; omega) | (dsimp only; omega) | (unfold bitsOk; omega) | ((try dsimp only); simp only [List.length_map, List.length_take, List.length_append, List.length_replicate, List.length_cons, List.length_nil]; omega) | (simp only [btw_iff] at *; first | omega | (unfold inI; omega) | (unfold bitsOk; omega)) | exact stor_map (fun _ => rfl) | exact ⟨rfl, stor_cons rfl stor_nil⟩ | exact ⟨rfl, stor_map (fun _ => rfl) _⟩ | exact ⟨⟨rfl, by omega⟩, stor_map (fun _ => rfl) _⟩); conv => whnf) | (with_reducible apply get_mapN; omega; intro _; conv => whnf) | (with_reducible apply get_mapI; omega; intro _; conv => whnf) | (apply get_mapN; omega; intro _; conv => whnf) | (apply get_fill; omega; conv => whnf) | (apply ex_some; conv => whnf) | (apply get_map; omega; intro _; conv => whnf) | (apply vcG_dec <;> intro _ <;> conv => whnf) | (apply vcG_ndec <;> intro _ <;> conv => whnf) | (apply vcG_not <;> intro _ <;> conv => whnf) | (apply vcG_mk <;> intro _ <;> conv => whnf) | (apply vcIf_dec <;> intro _ <;> conv => whnf) | (apply vcIf_ndec <;> intro _ <;> conv => whnf) | (apply vcIf_not <;> intro _ <;> conv => whnf) | (apply vcIf_mk <;> intro _ <;> conv => whnf))
        · omega
        · rw [drop_flat_end _ _ _ (by omega), List.nil_append] at hk2
          exact again (j + 1, ps) [0, 1, 2] ⟨by dsimp only; omega, hk2⟩ (by dsimp only; omega)
            ⟨rfl, by decide, rfl, ⟨⟨rfl, rfl⟩, ⟨rfl, rfl⟩, ⟨rfl, rfl⟩, ⟨rfl, rfl⟩, ⟨rfl, rfl⟩, ⟨rfl, rfl⟩, ⟨rfl, rfl⟩, trivial⟩, ⟨obj_box rfl rfl, obj_box rfl rfl, obj_flat rfl (flat_map fun _ => rfl), trivial⟩⟩
    · rw [drop_flat_end _ _ _ (by omega), List.nil_append] at hj2
      exact again (i + 1, ps) [0, 1, 2] ⟨by dsimp only; omega, hj2⟩ (by dsimp only; omega)
        ⟨rfl, by decide, rfl, ⟨⟨rfl, rfl⟩, ⟨rfl, rfl⟩, ⟨rfl, rfl⟩, ⟨rfl, rfl⟩, ⟨rfl, rfl⟩, ⟨rfl, rfl⟩, trivial⟩, ⟨obj_box rfl rfl, obj_box rfl rfl, obj_flat rfl (flat_map fun _ => rfl), trivial⟩⟩
  · rw [drop_flat_end _ _ _ (by simp; omega), List.append_nil] at hi2
    subst hi2
    exact ret_new rfl (flat_map fun _ => rfl) rfl rfl

theorem rows_unown (l : List (List Int)) : unownLL (l.map ownRow) = l.map encL := by
  rw [unownLL_eq, List.map_map]
  refine List.map_congr_left fun r _ => ?_
  show [AC.list 1 _ (unownLL _)] = _
  rw [enc_unown1]
  simp [encL, ints, enI]
theorem keepRows {f : FuncId} {args : List AC} {n : Nat} {l : List (List Int)} (h : CallsA Tryz.prog f args [] (.sref 0 0 n) [.cells 1 (l.map ownRow)]) (hl : l.length = n) : CallsA Tryz.prog f args [] (lst 1 encL l) [] := by
  refine h.lend [] [0] rfl rfl rfl ?_ passOk_nil
  rw [bor_full (w := 1) (es := l.map ownRow) rfl rfl rfl (by rw [List.length_map]; exact hl), rows_unown, ← hl]; rfl

theorem l8Product_ok (g : Graph) (hg : GB g) (ls : List Int) (hls : ls.length = g.st.length) (hlr : ∀ x ∈ ls, 0 ≤ x ∧ x ≤ 7) (a : Aut) (ha : AutP a) : CallsA Tryz.prog 72 [.agg g.cs, ints ls, .agg a.cs] [] (lst 1 encL (prodRows g ls a)) [] :=
  keepRows (l8Product_new g hg ls hls hlr a ha) (build_length _ _)
end Go.Proofs.YtcmihlbihppflaaGreat

namespace Go.Proofs.YtcmihlbihppflaaGreat
open Go.Gl
attribute [local irreducible] vcCall AWP RetOk Again ordOk

/-- the edges of each state -/
def edRows (a : Aut) : List (List Trans) := buildG a.acc.length (a.ed.map fun e => (e.src.toNat, e))
def encT (r : List Trans) : List AC := [.list 4 r.length (r.map Trans.cs)]
def ownT (r : List Trans) : List AC := ownG 4 Trans.cs r

theorem ltr_lt (v : List Int) : ∀ (l : List Tree) (k n : Nat), n < 2 ^ k → ltr v l k n < 2 ^ (k + l.length) := by
  intro l
  induction l with
  | nil => intro k n h; simpa [ltr] using h
  | cons t l ih =>
    intro k n h
    rw [ltr]
    have e : k + (t :: l).length = k + 1 + l.length := by simp only [List.length_cons]; omega
    rw [e]
    refine ih (k + 1) _ ?_
    split
    · rw [Nat.pow_succ]; omega
    · exact or_lt h
theorem letter_range {l : List Tree} (hl : LabelsOk l) (s : State) : 0 ≤ letterZ l s ∧ letterZ l s ≤ 7 := by
  have := ltr_lt s.b l 0 0 (by decide)
  rw [hl.1] at this
  unfold letterZ
  have e : (2 : Nat) ^ (0 + 3) = 8 := by decide
  omega

def pE2 (n i q : Nat) (ℓ to : Int) (e : Trans) : List (Nat × Int) := if onB e ℓ then [(i * n + q, to * n + e.dst)] else []
def pTo (n : Nat) (row : List Trans) (i q : Nat) (ℓ to : Int) : List (Nat × Int) := row.flatMap (pE2 n i q ℓ to)
def pQ (n : Nat) (nxi : List Int) (rows : List (List Trans)) (i : Nat) (ℓ : Int) (q : Nat) : List (Nat × Int) := nxi.flatMap (pTo n (rows.getD q []) i q ℓ)
def pI2 (n : Nat) (nx : List (List Int)) (rows : List (List Trans)) (ls : List Int) (i : Nat) : List (Nat × Int) := (List.range n).flatMap (pQ n (nx.getD i []) rows i (ls.getD i 0))
def pS2 (g : Graph) (ls : List Int) (a : Aut) : List (Nat × Int) := (List.range g.st.length).flatMap (pI2 a.acc.length g.nx (edRows a) ls)

theorem edRows_get {a : Aut} {q : Nat} (h : q < a.acc.length) : (edRows a).getD q [] = a.ed.filter (fun e => e.src.toNat == q) := by
  unfold edRows
  rw [getD_at (by rw [buildG_length]; exact h), buildG_get, List.filter_map, List.map_map]
  exact List.map_id _
theorem range_one {β : Type} {F : Nat → List β} {n q0 : Nat} (hq : q0 < n) (h : ∀ q, q < n → q ≠ q0 → F q = []) : (List.range n).flatMap F = F q0 := by
  have : ∀ m, (List.range m).flatMap F = if q0 < m ∧ m ≤ n then F q0 else if m ≤ n then [] else (List.range m).flatMap F := by
    intro m
    induction m with
    | zero => simp
    | succ m ih =>
      by_cases hm : m + 1 ≤ n
      · rw [List.range_succ, List.flatMap_append, ih, List.flatMap_cons, List.flatMap_nil, List.append_nil]
        by_cases h1 : q0 < m
        · rw [if_pos ⟨h1, by omega⟩, if_pos ⟨by omega, hm⟩, h m (by omega) (by omega), List.append_nil]
        · rw [if_neg (by omega), if_pos (by omega)]
          by_cases h2 : q0 = m
          · subst h2; rw [if_pos ⟨by omega, hm⟩]; rfl
          · rw [if_neg (by omega), if_pos hm, h m (by omega) (by omega)]; rfl
      · rw [if_neg (by omega), if_neg hm]
  rw [this n, if_pos ⟨hq, Nat.le_refl _⟩]
theorem range_none {β : Type} {F : Nat → List β} {n : Nat} (h : ∀ q, q < n → F q = []) : (List.range n).flatMap F = [] := by
  rw [List.flatMap_eq_nil_iff]
  intro q hq
  exact h q (List.mem_range.1 hq)

/-- the program's pushes fill the same rows -/
theorem pS2_rows (g : Graph) (ls : List Int) (a : Aut) (ha : AutP a) (r : Nat) : (pS2 g ls a).filter (fun p => p.1 == r) = (pushS g ls a).filter (fun p => p.1 == r) := by
  unfold pS2 pushS
  rw [List.filter_flatMap, List.filter_flatMap]
  refine flat_congr fun i hi => ?_
  unfold pI2 pushI
  rw [List.filter_flatMap, List.filter_flatMap]
  have hsrc : ∀ e ∈ a.ed, e.src.toNat < a.acc.length := fun e he => by
    have := (ha.2.2.2 e he).1; omega
  by_cases hr : i * a.acc.length ≤ r ∧ r < i * a.acc.length + a.acc.length
  · obtain ⟨q0, rfl⟩ : ∃ q0, r = i * a.acc.length + q0 := ⟨r - i * a.acc.length, by omega⟩
    have hq0 : q0 < a.acc.length := by omega
    rw [range_one hq0 (fun q hq hne => by
      unfold pQ
      rw [List.filter_flatMap]
      refine List.flatMap_eq_nil_iff.2 fun to _ => ?_
      unfold pTo
      rw [List.filter_flatMap]
      refine List.flatMap_eq_nil_iff.2 fun e _ => ?_
      unfold pE2
      split
      · simp; omega
      · rfl)]
    unfold pQ
    rw [List.filter_flatMap, edRows_get hq0]
    refine flat_congr fun to _ => ?_
    unfold pTo pushJ
    rw [List.filter_flatMap, List.filter_flatMap]
    induction a.ed with
    | nil => rfl
    | cons e es ih =>
      rw [List.flatMap_cons, ← ih, List.filter_cons]
      by_cases he : e.src.toNat = q0
      · rw [if_pos (by simpa using he), List.flatMap_cons]
        unfold pE2 pushE
        rw [he]
      · rw [if_neg (by simpa using he)]
        have : (pushE a.acc.length i (ls.getD i 0) to e).filter (fun p => p.1 == i * a.acc.length + q0) = [] := by
          unfold pushE
          split
          · simp; omega
          · rfl
        rw [this, List.nil_append]
  · rw [range_none (fun q hq => by
      unfold pQ
      rw [List.filter_flatMap]
      refine List.flatMap_eq_nil_iff.2 fun to _ => ?_
      unfold pTo
      rw [List.filter_flatMap]
      refine List.flatMap_eq_nil_iff.2 fun e _ => ?_
      unfold pE2
      split
      · simp; omega
      · rfl)]
    symm
    refine List.flatMap_eq_nil_iff.2 fun to _ => ?_
    unfold pushJ
    rw [List.filter_flatMap]
    refine List.flatMap_eq_nil_iff.2 fun e he => ?_
    have := hsrc e he
    unfold pushE
    split
    · simp; omega
    · rfl
theorem pS2_len (g : Graph) (hg : GB g) (ls : List Int) (a : Aut) (ha : AutP a) : (pS2 g ls a).length ≤ 1000000000 := by
  obtain ⟨⟨g1, g2⟩, g3, g4⟩ := hg
  have h2 : ∀ i ∈ List.range g.st.length, (pI2 a.acc.length g.nx (edRows a) ls i).length ≤ 7864320 := fun i hi => by
    rw [List.mem_range] at hi
    unfold pI2
    rw [getD_at (l := g.nx) (by omega)]
    have h3 := flat_len (f := pQ a.acc.length g.nx[i] (edRows a) i (ls.getD i 0)) (c := 122880) (List.range a.acc.length) (fun q hq => by
      have h1 : ∀ to, (pTo a.acc.length ((edRows a).getD q []) i q (ls.getD i 0) to).length ≤ 2048 := fun to => by
        have h5 := flat_len (f := pE2 a.acc.length i q (ls.getD i 0) to) (c := 1) ((edRows a).getD q []) (fun e _ => by unfold pE2; split <;> simp)
        rw [edRows_get (List.mem_range.1 hq)] at h5 ⊢
        have := List.length_filter_le (fun e : Trans => e.src.toNat == q) a.ed
        have := ha.2.1
        unfold pTo; omega
      have h3 := flat_len (f := pTo a.acc.length ((edRows a).getD q []) i q (ls.getD i 0)) (c := 2048) g.nx[i] (fun to _ => h1 to)
      have h4 := (g4 i (by omega) (by omega) hi).2.1
      have : g.nx[i].length * 2048 ≤ 60 * 2048 := Nat.mul_le_mul_right _ (by omega)
      unfold pQ; omega)
    rw [List.length_range] at h3
    have : a.acc.length * 122880 ≤ 64 * 122880 := Nat.mul_le_mul_right _ ha.1.2
    omega
  have h5 := flat_len (f := pI2 a.acc.length g.nx (edRows a) ls) (c := 7864320) (List.range g.st.length) h2
  rw [List.length_range] at h5
  have : g.st.length * 7864320 ≤ 60 * 7864320 := Nat.mul_le_mul_right _ (by omega)
  unfold pS2; omega
theorem build_pS2 (g : Graph) (ls : List Int) (a : Aut) (ha : AutP a) : build (g.st.length * a.acc.length) (pS2 g ls a) = prodRows g ls a := by
  unfold prodRows build
  rw [Nat.mul_comm]
  refine List.map_congr_left fun r _ => ?_
  rw [pS2_rows g ls a ha r]

set_option maxHeartbeats 800000 in
theorem product_new (g : Graph) (hg : GB g) (l : List Tree) (hl : LabelsOk l) (a : Aut) (ha : AutP a) : CallsA Tryz.prog 81 [.agg g.cs, lst 3 Tree.cs' l, .agg a.cs] [] (.tup [.sref 0 0 (g.st.length * a.acc.length), ints a.ini]) [.cells 1 ((prodRows g (g.st.map (letterZ l)) a).map ownRow)] := by
  have hvals := hg.vals
  have hpl := pushS_len g hg (g.st.map (letterZ l)) a ha
  have hini := ha.2.2.1.le (by omega)
  obtain ⟨⟨g1, g2⟩, g3, g4⟩ := hg
  obtain ⟨⟨a1, a2⟩, a3, a4, a5⟩ := ha
  have hN := mul_bound (a := (g.st.length : Int)) (b := (a.acc.length : Int)) (A := 60) (B := 64) (by omega) (by omega) (by omega) (by omega)
  refine callsA_of tabOk Tryz.func81 rfl rfl 117 Tryz.ntmps81 (by simp) ?_
  repeat' (first | (apply AWP.go ok; rfl; conv => whnf) | (apply ord_mk; kernel_rfl; conv => whnf) | (apply And.intro; (first | omega | (unfold inI; omega) | (dsimp only; omega) | (unfold bitsOk; omega) | ((try dsimp only); simp only [List.length_map, List.length_take, List.length_append, List.length_replicate, List.length_cons, List.length_nil]; omega) | (simp only [btw_iff] at *; first | omega | (unfold inI; omega) | (unfold bitsOk; omega)) | exact stor_map (fun _ => rfl) | exact ⟨rfl, stor_cons rfl stor_nil⟩ | exact ⟨rfl, stor_map (fun _ => rfl) _⟩ | exact ⟨⟨rfl, by omega⟩, stor_map (fun _ => rfl) _⟩); conv => whnf) | (with_reducible apply get_mapN; omega; intro _; conv => whnf) | (with_reducible apply get_mapI; omega; intro _; conv => whnf) | (apply get_mapN; omega; intro _; conv => whnf) | (apply get_fill; omega; conv => whnf) | (apply ex_some; conv => whnf) | (apply get_map; omega; intro _; conv => whnf) | (apply vcG_dec <;> intro _ <;> conv => whnf) | (apply vcG_ndec <;> intro _ <;> conv => whnf) | (apply vcG_not <;> intro _ <;> conv => whnf) | (apply vcG_mk <;> intro _ <;> conv => whnf) | (apply vcIf_dec <;> intro _ <;> conv => whnf) | (apply vcIf_ndec <;> intro _ <;> conv => whnf) | (apply vcIf_not <;> intro _ <;> conv => whnf) | (apply vcIf_mk <;> intro _ <;> conv => whnf))
  refine AWP.reach (Gl.Reach.weaken (es' := List.replicate a.acc.length [.own 4 []]) 2 rfl (by rw [List.length_replicate, List.length_replicate]; rfl) rows_weaken rfl) ?_
  conv => whnf
  refine loopA (fun k : Nat => ([(1, lst 3 Tree.cs' l), (3, .ptr 0 none 0), (5, .ptr 1 none 0), (8, .int a.acc.length), (9, .sref 2 0 a.acc.length), (26, lst 4 Trans.cs a.ed), (27, .int a.ed.length), (28, .int k)], [.cells 2 [[lst 2 State.cs g.st, lst 1 encL g.nx]], .cells 3 [[lst 1 enI a.ini, lst 1 enB a.acc, lst 4 Trans.cs a.ed]], .cells 1 ((buildG a.acc.length ((a.ed.take k).map fun e => (e.src.toNat, e))).map (ownG 4 Trans.cs))])) (fun k => k ≤ a.ed.length) (fun k => a.ed.length - k) 0 (by omega)
    ⟨[0, 1, 2], rfl, by decide, rfl, ⟨⟨rfl, rfl⟩, ⟨rfl, rfl⟩, ⟨rfl, rfl⟩, ⟨rfl, rfl⟩, ⟨rfl, rfl⟩, ⟨rfl, rfl⟩, ⟨rfl, rfl⟩, ⟨rfl, rfl⟩, trivial⟩, ⟨obj_box rfl rfl, obj_box rfl rfl, obj_flat (cells_congr (rowsG_nil _ _ _).symm) (flat_map fun _ => rfl), trivial⟩⟩ ?_
  intro k hk
  have hN2 : ((g.st.length * a.acc.length : Nat) : Int) = (g.st.length : Int) * a.acc.length := by simp
  repeat' (first | ((fail_if_success apply stopAt 6); (fail_if_success apply stopAtS 6); (fail_if_success apply stopAt 8); (fail_if_success apply stopAtS 8); apply AWP.go ok; rfl; conv => whnf) | (apply ord_mk; kernel_rfl; conv => whnf) | (apply And.intro; (first | omega | (unfold inI; omega) | (dsimp only; omega) | (unfold bitsOk; omega) | ((try dsimp only); simp only [List.length_map, List.length_take, List.length_append, List.length_replicate, List.length_cons, List.length_nil]; omega) | (simp only [btw_iff] at *; first | omega | (unfold inI; omega) | (unfold bitsOk; omega)) | exact stor_map (fun _ => rfl) | exact ⟨rfl, stor_cons rfl stor_nil⟩ | exact ⟨rfl, stor_map (fun _ => rfl) _⟩ | exact ⟨⟨rfl, by omega⟩, stor_map (fun _ => rfl) _⟩); conv => whnf) | (with_reducible apply get_mapN; omega; intro _; conv => whnf) | (with_reducible apply get_mapI; omega; intro _; conv => whnf) | (apply get_mapN; omega; intro _; conv => whnf) | (apply get_fill; omega; conv => whnf) | (apply ex_some; conv => whnf) | (apply get_map; omega; intro _; conv => whnf) | (apply vcG_dec <;> intro _ <;> conv => whnf) | (apply vcG_ndec <;> intro _ <;> conv => whnf) | (apply vcG_not <;> intro _ <;> conv => whnf) | (apply vcG_mk <;> intro _ <;> conv => whnf) | (apply vcIf_dec <;> intro _ <;> conv => whnf) | (apply vcIf_ndec <;> intro _ <;> conv => whnf) | (apply vcIf_not <;> intro _ <;> conv => whnf) | (apply vcIf_mk <;> intro _ <;> conv => whnf))
  · have hkl : k < a.ed.length := by assumption
    have he := a5 a.ed[k] (List.getElem_mem hkl)
    unfold edgeP at he
    have hlt : a.ed[k].src.toNat < (buildG a.acc.length ((a.ed.take k).map fun e => (e.src.toNat, e))).length := by rw [buildG_length]; omega
    have hmap : a.ed[k].src.toNat < ((buildG a.acc.length ((a.ed.take k).map fun e => (e.src.toNat, e))).map (ownG 4 Trans.cs)).length := by rw [List.length_map]; exact hlt
    have hrl := buildG_row_le hlt
    rw [List.length_map, List.length_take] at hrl
    refine AWP.reach (Gl.Reach.expose (e := ownG 4 Trans.cs (buildG a.acc.length ((a.ed.take k).map fun e => (e.src.toNat, e)))[a.ed[k].src.toNat]) 2 a.ed[k].src.toNat 0 rfl (by rw [List.getElem?_map, List.getElem?_eq_getElem hlt]; rfl) rfl (leaf_map (fun _ => rfl) _) rfl) ?_
    conv => whnf
    (apply AWP.go ok; rfl; conv => whnf)
    repeat' (first | (apply ord_mk; kernel_rfl; conv => whnf) | (apply And.intro; (first | omega | (unfold inI; omega) | (dsimp only; omega) | (unfold bitsOk; omega) | ((try dsimp only); simp only [List.length_map, List.length_take, List.length_append, List.length_replicate, List.length_cons, List.length_nil]; omega) | (simp only [btw_iff] at *; first | omega | (unfold inI; omega) | (unfold bitsOk; omega)) | exact stor_map (fun _ => rfl) | exact ⟨rfl, stor_cons rfl stor_nil⟩ | exact ⟨rfl, stor_map (fun _ => rfl) _⟩ | exact ⟨⟨rfl, by omega⟩, stor_map (fun _ => rfl) _⟩); conv => whnf) | (with_reducible apply get_mapN; omega; intro _; conv => whnf) | (with_reducible apply get_mapI; omega; intro _; conv => whnf) | (apply get_mapN; omega; intro _; conv => whnf) | (apply get_fill; omega; conv => whnf) | (apply ex_some; conv => whnf) | (apply get_map; omega; intro _; conv => whnf) | (apply vcG_dec <;> intro _ <;> conv => whnf) | (apply vcG_ndec <;> intro _ <;> conv => whnf) | (apply vcG_not <;> intro _ <;> conv => whnf) | (apply vcG_mk <;> intro _ <;> conv => whnf) | (apply vcIf_dec <;> intro _ <;> conv => whnf) | (apply vcIf_ndec <;> intro _ <;> conv => whnf) | (apply vcIf_not <;> intro _ <;> conv => whnf) | (apply vcIf_mk <;> intro _ <;> conv => whnf) | (apply get_set; exact Nat.add_zero _; exact hmap; conv => whnf))
    refine AWP.reach (Gl.Reach.absorb 2 6 a.ed[k].src.toNat 0 rfl (getset (Nat.add_zero _) (by rw [List.length_set]; exact hmap)) rfl rfl (by simp) rfl (flat_append (fun e he => (flat_map (fun _ => rfl)) e (List.mem_of_mem_take he)) (flat_cons rfl flat_nil)) rfl) ?_
    conv => whnf
    repeat' (first | ((fail_if_success apply stopAt 6); (fail_if_success apply stopAtS 6); (fail_if_success apply stopAt 8); (fail_if_success apply stopAtS 8); apply AWP.go ok; rfl; conv => whnf) | (apply ord_mk; kernel_rfl; conv => whnf) | (apply And.intro; (first | omega | (unfold inI; omega) | (dsimp only; omega) | (unfold bitsOk; omega) | ((try dsimp only); simp only [List.length_map, List.length_take, List.length_append, List.length_replicate, List.length_cons, List.length_nil]; omega) | (simp only [btw_iff] at *; first | omega | (unfold inI; omega) | (unfold bitsOk; omega)) | exact stor_map (fun _ => rfl) | exact ⟨rfl, stor_cons rfl stor_nil⟩ | exact ⟨rfl, stor_map (fun _ => rfl) _⟩ | exact ⟨⟨rfl, by omega⟩, stor_map (fun _ => rfl) _⟩); conv => whnf) | (with_reducible apply get_mapN; omega; intro _; conv => whnf) | (with_reducible apply get_mapI; omega; intro _; conv => whnf) | (apply get_mapN; omega; intro _; conv => whnf) | (apply get_fill; omega; conv => whnf) | (apply ex_some; conv => whnf) | (apply get_map; omega; intro _; conv => whnf) | (apply vcG_dec <;> intro _ <;> conv => whnf) | (apply vcG_ndec <;> intro _ <;> conv => whnf) | (apply vcG_not <;> intro _ <;> conv => whnf) | (apply vcG_mk <;> intro _ <;> conv => whnf) | (apply vcIf_dec <;> intro _ <;> conv => whnf) | (apply vcIf_ndec <;> intro _ <;> conv => whnf) | (apply vcIf_not <;> intro _ <;> conv => whnf) | (apply vcIf_mk <;> intro _ <;> conv => whnf))
    refine again (k + 1) [0, 1, 2] (by omega) (by omega)
      ⟨rfl, by decide, rfl, ⟨⟨rfl, rfl⟩, ⟨rfl, rfl⟩, ⟨rfl, rfl⟩, ⟨rfl, rfl⟩, ⟨rfl, rfl⟩, ⟨rfl, rfl⟩, ⟨rfl, rfl⟩, ⟨rfl, rfl⟩, trivial⟩, ⟨obj_box rfl rfl, obj_box rfl rfl, obj_flat (cells_congr ?_) (flat_map fun _ => rfl), trivial⟩⟩
    have e1 : ((a.ed.take (k + 1)).map fun e => (e.src.toNat, e)) = ((a.ed.take k).map fun e => (e.src.toNat, e)) ++ [(a.ed[k].src.toNat, a.ed[k])] := by
      rw [List.take_succ_eq_append_getElem hkl, List.map_append]; rfl
    rw [e1]
    exact rowsG_push hlt (Nat.add_zero _) (by simp) rfl
  obtain rfl : k = a.ed.length := by omega
  refine AWP.reach (SealL.reach (π := [0, 1]) (Bn := [2]) (env := [(1, lst 3 Tree.cs' l), (3, .ptr 0 none 0), (5, .ptr 1 none 0), (8, .int a.acc.length), (9, lst 1 encT (edRows a))]) (objs := [.cells 2 [[lst 2 State.cs g.st, lst 1 encL g.nx]], .cells 3 [[lst 1 enI a.ini, lst 1 enB a.acc, lst 4 Trans.cs a.ed]]]) ⟨rfl, rfl, by simp, rfl, by intro o ho; simp at ho; rcases ho with rfl | rfl <;> rfl, ⟨rfl, rfl, rfl, rfl, ?_, trivial⟩, rfl⟩) ?_
  · show bor _ _ _ (.sref 2 0 a.acc.length) = _
    rw [bor_full (w := 1) (es := (buildG a.acc.length ((a.ed.take a.ed.length).map fun e => (e.src.toNat, e))).map (ownG 4 Trans.cs)) rfl rfl rfl (by rw [List.length_map, buildG_length]), rowsG_unown (fun t => Trans.unown t), List.take_length]
    unfold lst edRows
    rw [buildG_length]; rfl
  conv => whnf
  repeat' (first | (apply AWP.go ok; rfl; conv => whnf) | (apply ord_mk; kernel_rfl; conv => whnf) | (apply And.intro; (first | omega | (unfold inI; omega) | (dsimp only; omega) | (unfold bitsOk; omega) | ((try dsimp only); simp only [List.length_map, List.length_take, List.length_append, List.length_replicate, List.length_cons, List.length_nil]; omega) | (simp only [btw_iff] at *; first | omega | (unfold inI; omega) | (unfold bitsOk; omega)) | exact stor_map (fun _ => rfl) | exact ⟨rfl, stor_cons rfl stor_nil⟩ | exact ⟨rfl, stor_map (fun _ => rfl) _⟩ | exact ⟨⟨rfl, by omega⟩, stor_map (fun _ => rfl) _⟩); conv => whnf) | (with_reducible apply get_mapN; omega; intro _; conv => whnf) | (with_reducible apply get_mapI; omega; intro _; conv => whnf) | (apply get_mapN; omega; intro _; conv => whnf) | (apply get_fill; omega; conv => whnf) | (apply ex_some; conv => whnf) | (apply get_map; omega; intro _; conv => whnf) | (apply vcG_dec <;> intro _ <;> conv => whnf) | (apply vcG_ndec <;> intro _ <;> conv => whnf) | (apply vcG_not <;> intro _ <;> conv => whnf) | (apply vcG_mk <;> intro _ <;> conv => whnf) | (apply vcIf_dec <;> intro _ <;> conv => whnf) | (apply vcIf_ndec <;> intro _ <;> conv => whnf) | (apply vcIf_not <;> intro _ <;> conv => whnf) | (apply vcIf_mk <;> intro _ <;> conv => whnf) | (apply call_data (label_ok g hvals g2 l hl); rfl; rfl; conv => whnf))
  refine AWP.reach (Gl.Reach.weaken (es' := List.replicate (g.st.length * a.acc.length) [.own 1 []]) 2 rfl (by rw [List.length_replicate, List.length_replicate]; rfl) rows_weaken rfl) ?_
  conv => whnf
  have hls : (g.st.map (letterZ l)).length = g.st.length := by simp
  have hlr : ∀ x ∈ g.st.map (letterZ l), 0 ≤ x ∧ x ≤ 7 := fun x hx => by
    obtain ⟨s, _, rfl⟩ := List.mem_map.1 hx
    exact letter_range hl s
  rw [← build_pS2 g _ a ⟨⟨a1, a2⟩, a3, a4, a5⟩]
  have hpl2 := pS2_len g ⟨⟨g1, g2⟩, g3, g4⟩ (g.st.map (letterZ l)) a ⟨⟨a1, a2⟩, a3, a4, a5⟩
  generalize hlsd : g.st.map (letterZ l) = ls at hls hlr hpl hpl2
  have hrow : ∀ i (hi : i < g.nx.length), ∀ x ∈ g.nx[i], 0 ≤ x ∧ x ≤ g.st.length - 1 := fun i hi x hx => by
    obtain ⟨j, hj, rfl⟩ := List.mem_iff_getElem.1 hx
    exact ((g4 i hi hi (by omega)).2.2.2 j hj hj).1
  have hlen : ∀ i (hi : i < g.nx.length), g.nx[i].length ≤ 60 := fun i hi => by
    have := (g4 i hi hi (by omega)).2.1; omega
  have hel : (edRows a).length = a.acc.length := buildG_length _ _
  have hed : ∀ q (hq : q < (edRows a).length), ∀ e ∈ (edRows a)[q], e ∈ a.ed := fun q hq e he => by
    rw [← getD_at (d := []) hq, edRows_get (by omega)] at he; exact (List.mem_filter.1 he).1
  have hedl : ∀ q (hq : q < (edRows a).length), (edRows a)[q].length ≤ 2048 := fun q hq => by
    rw [← getD_at (d := []) hq, edRows_get (by omega)]; exact Nat.le_trans (List.length_filter_le _ _) a3
  refine loopA (fun x : Nat × List (Nat × Int) => ([(3, .ptr 0 none 0), (5, .ptr 1 none 0), (8, .int a.acc.length), (9, lst 1 encT (edRows a)), (12, .sref 2 0 (g.st.length * a.acc.length)), (53, ints ls), (54, .int ls.length), (55, .int x.1)], [.cells 2 [[lst 2 State.cs g.st, lst 1 encL g.nx]], .cells 3 [[lst 1 enI a.ini, lst 1 enB a.acc, lst 4 Trans.cs a.ed]], .cells 1 ((build (g.st.length * a.acc.length) x.2).map ownRow)])) (fun x => x.1 ≤ ls.length ∧ x.2 ++ ((List.range g.st.length).drop x.1).flatMap (pI2 a.acc.length g.nx (edRows a) ls) = pS2 g ls a) (fun x => ls.length - x.1) (0, []) ⟨by omega, rfl⟩
    ⟨[0, 1, 2], rfl, by decide, rfl, ⟨⟨rfl, by first | rfl | (rw [← hlsd]; rfl)⟩, ⟨rfl, by first | rfl | (rw [← hlsd]; rfl)⟩, ⟨rfl, by first | rfl | (rw [← hlsd]; rfl)⟩, ⟨rfl, by first | rfl | (rw [← hlsd]; rfl)⟩, ⟨rfl, by first | rfl | (rw [← hlsd]; rfl)⟩, ⟨rfl, by first | rfl | (rw [← hlsd]; rfl)⟩, ⟨rfl, by first | rfl | (rw [← hlsd]; rfl)⟩, ⟨rfl, by first | rfl | (rw [← hlsd]; rfl)⟩, trivial⟩, ⟨obj_box rfl rfl, obj_box rfl rfl, obj_flat (cells_congr (rows_nil _).symm) (flat_map fun _ => rfl), trivial⟩⟩ ?_
  rintro ⟨i, ps⟩ ⟨hi1, hi2⟩
  dsimp only at hi1 hi2 ⊢
  repeat' (first | (apply AWP.go ok; rfl; conv => whnf) | (apply ord_mk; kernel_rfl; conv => whnf) | (apply And.intro; (first | omega | (unfold inI; omega) | (dsimp only; omega) | (unfold bitsOk; omega) | ((try dsimp only); simp only [List.length_map, List.length_take, List.length_append, List.length_replicate, List.length_cons, List.length_nil]; omega) | (simp only [btw_iff] at *; first | omega | (unfold inI; omega) | (unfold bitsOk; omega)) | exact stor_map (fun _ => rfl) | exact ⟨rfl, stor_cons rfl stor_nil⟩ | exact ⟨rfl, stor_map (fun _ => rfl) _⟩ | exact ⟨⟨rfl, by omega⟩, stor_map (fun _ => rfl) _⟩); conv => whnf) | (with_reducible apply get_mapN; omega; intro _; conv => whnf) | (with_reducible apply get_mapI; omega; intro _; conv => whnf) | (apply get_mapN; omega; intro _; conv => whnf) | (apply get_fill; omega; conv => whnf) | (apply ex_some; conv => whnf) | (apply get_map; omega; intro _; conv => whnf) | (apply vcG_dec <;> intro _ <;> conv => whnf) | (apply vcG_ndec <;> intro _ <;> conv => whnf) | (apply vcG_not <;> intro _ <;> conv => whnf) | (apply vcG_mk <;> intro _ <;> conv => whnf) | (apply vcIf_dec <;> intro _ <;> conv => whnf) | (apply vcIf_ndec <;> intro _ <;> conv => whnf) | (apply vcIf_not <;> intro _ <;> conv => whnf) | (apply vcIf_mk <;> intro _ <;> conv => whnf))
  · have hig : i < g.st.length := by omega
    rw [drop_flat _ _ _ (by simpa using hig), List.getElem_range] at hi2
    have hin : i < g.nx.length := by omega
    have hrow := hrow i hin
    have hlen := hlen i hin
    have hil : i < ls.length := by omega
    have hli := hlr ls[i] (List.getElem_mem _)
    have hpI : pI2 a.acc.length g.nx (edRows a) ls i = (List.range a.acc.length).flatMap (pQ a.acc.length g.nx[i] (edRows a) i ls[i]) := by
      unfold pI2
      rw [getD_at (l := g.nx) hin, getD_at (l := ls) hil]
    rw [hpI] at hi2
    have hm1 := mul_bound (a := (i : Int)) (b := (a.acc.length : Int)) (A := 60) (B := 64) (by omega) (by omega) (by omega) (by omega)
    refine loopA (fun x : Nat × List (Nat × Int) => ([(3, .ptr 0 none 0), (5, .ptr 1 none 0), (8, .int a.acc.length), (9, lst 1 encT (edRows a)), (12, .sref 2 0 (g.st.length * a.acc.length)), (53, ints ls), (54, .int ls.length), (55, .int i), (13, .int i), (14, .int ls[i]), (60, .int a.acc.length), (61, .int x.1)], [.cells 2 [[lst 2 State.cs g.st, lst 1 encL g.nx]], .cells 3 [[lst 1 enI a.ini, lst 1 enB a.acc, lst 4 Trans.cs a.ed]], .cells 1 ((build (g.st.length * a.acc.length) x.2).map ownRow)])) (fun x => x.1 ≤ a.acc.length ∧ x.2 ++ (((List.range a.acc.length).drop x.1).flatMap (pQ a.acc.length g.nx[i] (edRows a) i ls[i]) ++ ((List.range g.st.length).drop (i + 1)).flatMap (pI2 a.acc.length g.nx (edRows a) ls)) = pS2 g ls a) (fun x => a.acc.length - x.1) (0, ps) ⟨by omega, hi2⟩
      ⟨[0, 1, 2], rfl, by decide, rfl, ⟨⟨rfl, rfl⟩, ⟨rfl, rfl⟩, ⟨rfl, rfl⟩, ⟨rfl, rfl⟩, ⟨rfl, rfl⟩, ⟨rfl, rfl⟩, ⟨rfl, rfl⟩, ⟨rfl, rfl⟩, ⟨rfl, rfl⟩, ⟨rfl, rfl⟩, ⟨rfl, rfl⟩, ⟨rfl, rfl⟩, trivial⟩, ⟨obj_box rfl rfl, obj_box rfl rfl, obj_flat rfl (flat_map fun _ => rfl), trivial⟩⟩ ?_
    rintro ⟨q, ps⟩ ⟨hq1, hq2⟩
    dsimp only at hq1 hq2 ⊢
    repeat' (first | (apply AWP.go ok; rfl; conv => whnf) | (apply ord_mk; kernel_rfl; conv => whnf) | (apply And.intro; (first | omega | (unfold inI; omega) | (dsimp only; omega) | (unfold bitsOk; omega) | ((try dsimp only); simp only [List.length_map, List.length_take, List.length_append, List.length_replicate, List.length_cons, List.length_nil]; omega) | (simp only [btw_iff] at *; first | omega | (unfold inI; omega) | (unfold bitsOk; omega)) | exact stor_map (fun _ => rfl) | exact ⟨rfl, stor_cons rfl stor_nil⟩ | exact ⟨rfl, stor_map (fun _ => rfl) _⟩ | exact ⟨⟨rfl, by omega⟩, stor_map (fun _ => rfl) _⟩); conv => whnf) | (with_reducible apply get_mapN; omega; intro _; conv => whnf) | (with_reducible apply get_mapI; omega; intro _; conv => whnf) | (apply get_mapN; omega; intro _; conv => whnf) | (apply get_fill; omega; conv => whnf) | (apply ex_some; conv => whnf) | (apply get_map; omega; intro _; conv => whnf) | (apply vcG_dec <;> intro _ <;> conv => whnf) | (apply vcG_ndec <;> intro _ <;> conv => whnf) | (apply vcG_not <;> intro _ <;> conv => whnf) | (apply vcG_mk <;> intro _ <;> conv => whnf) | (apply vcIf_dec <;> intro _ <;> conv => whnf) | (apply vcIf_ndec <;> intro _ <;> conv => whnf) | (apply vcIf_not <;> intro _ <;> conv => whnf) | (apply vcIf_mk <;> intro _ <;> conv => whnf))
    · have hqn : q < a.acc.length := by omega
      rw [drop_flat _ _ _ (by simpa using hqn), List.getElem_range, List.append_assoc] at hq2
      have hqe : q < (edRows a).length := by omega
      have hpQ : pQ a.acc.length g.nx[i] (edRows a) i ls[i] q = g.nx[i].flatMap (pTo a.acc.length (edRows a)[q] i q ls[i]) := by
        unfold pQ; rw [getD_at hqe]
      rw [hpQ] at hq2
      have hedl := hedl q hqe
      have hlt : i * a.acc.length + q < g.st.length * a.acc.length := by
        have h1 : (i + 1) * a.acc.length ≤ g.st.length * a.acc.length := Nat.mul_le_mul_right _ hig
        rw [Nat.add_mul, Nat.one_mul] at h1
        omega
      refine loopA (fun x : Nat × List (Nat × Int) => ([(3, .ptr 0 none 0), (5, .ptr 1 none 0), (8, .int a.acc.length), (9, lst 1 encT (edRows a)), (12, .sref 2 0 (g.st.length * a.acc.length)), (53, ints ls), (54, .int ls.length), (55, .int i), (13, .int i), (14, .int ls[i]), (60, .int a.acc.length), (61, .int q), (15, .int q), (68, ints g.nx[i]), (69, .int g.nx[i].length), (70, .int x.1)], [.cells 2 [[lst 2 State.cs g.st, lst 1 encL g.nx]], .cells 3 [[lst 1 enI a.ini, lst 1 enB a.acc, lst 4 Trans.cs a.ed]], .cells 1 ((build (g.st.length * a.acc.length) x.2).map ownRow)])) (fun x => x.1 ≤ g.nx[i].length ∧ x.2 ++ ((g.nx[i].drop x.1).flatMap (pTo a.acc.length (edRows a)[q] i q ls[i]) ++ (((List.range a.acc.length).drop (q + 1)).flatMap (pQ a.acc.length g.nx[i] (edRows a) i ls[i]) ++ ((List.range g.st.length).drop (i + 1)).flatMap (pI2 a.acc.length g.nx (edRows a) ls))) = pS2 g ls a) (fun x => g.nx[i].length - x.1) (0, ps) ⟨by omega, hq2⟩
        ⟨[0, 1, 2], rfl, by decide, rfl, ⟨⟨rfl, rfl⟩, ⟨rfl, rfl⟩, ⟨rfl, rfl⟩, ⟨rfl, rfl⟩, ⟨rfl, rfl⟩, ⟨rfl, rfl⟩, ⟨rfl, rfl⟩, ⟨rfl, rfl⟩, ⟨rfl, rfl⟩, ⟨rfl, rfl⟩, ⟨rfl, rfl⟩, ⟨rfl, rfl⟩, ⟨rfl, rfl⟩, ⟨rfl, rfl⟩, ⟨rfl, rfl⟩, ⟨rfl, rfl⟩, trivial⟩, ⟨obj_box rfl rfl, obj_box rfl rfl, obj_flat rfl (flat_map fun _ => rfl), trivial⟩⟩ ?_
      rintro ⟨j, ps⟩ ⟨hj1, hj2⟩
      dsimp only at hj1 hj2 ⊢
      repeat' (first | (apply AWP.go ok; rfl; conv => whnf) | (apply ord_mk; kernel_rfl; conv => whnf) | (apply And.intro; (first | omega | (unfold inI; omega) | (dsimp only; omega) | (unfold bitsOk; omega) | ((try dsimp only); simp only [List.length_map, List.length_take, List.length_append, List.length_replicate, List.length_cons, List.length_nil]; omega) | (simp only [btw_iff] at *; first | omega | (unfold inI; omega) | (unfold bitsOk; omega)) | exact stor_map (fun _ => rfl) | exact ⟨rfl, stor_cons rfl stor_nil⟩ | exact ⟨rfl, stor_map (fun _ => rfl) _⟩ | exact ⟨⟨rfl, by omega⟩, stor_map (fun _ => rfl) _⟩); conv => whnf) | (with_reducible apply get_mapN; omega; intro _; conv => whnf) | (with_reducible apply get_mapI; omega; intro _; conv => whnf) | (apply get_mapN; omega; intro _; conv => whnf) | (apply get_fill; omega; conv => whnf) | (apply ex_some; conv => whnf) | (apply get_map; omega; intro _; conv => whnf) | (apply vcG_dec <;> intro _ <;> conv => whnf) | (apply vcG_ndec <;> intro _ <;> conv => whnf) | (apply vcG_not <;> intro _ <;> conv => whnf) | (apply vcG_mk <;> intro _ <;> conv => whnf) | (apply vcIf_dec <;> intro _ <;> conv => whnf) | (apply vcIf_ndec <;> intro _ <;> conv => whnf) | (apply vcIf_not <;> intro _ <;> conv => whnf) | (apply vcIf_mk <;> intro _ <;> conv => whnf))
      · have hjn : j < g.nx[i].length := by omega
        rw [drop_flat _ _ _ hjn, List.append_assoc] at hj2
        have hto := hrow g.nx[i][j] (List.getElem_mem _)
        have hm2 := mul_bound (a := g.nx[i][j]) (b := (a.acc.length : Int)) (A := 60) (B := 64) (by omega) (by omega) (by omega) (by omega)
        refine loopA (fun x : Nat × List (Nat × Int) => ([(3, .ptr 0 none 0), (5, .ptr 1 none 0), (8, .int a.acc.length), (9, lst 1 encT (edRows a)), (12, .sref 2 0 (g.st.length * a.acc.length)), (53, ints ls), (54, .int ls.length), (55, .int i), (13, .int i), (14, .int ls[i]), (60, .int a.acc.length), (61, .int q), (15, .int q), (68, ints g.nx[i]), (69, .int g.nx[i].length), (70, .int j), (17, .int g.nx[i][j]), (77, lst 4 Trans.cs (edRows a)[q]), (78, .int (edRows a)[q].length), (79, .int x.1)], [.cells 2 [[lst 2 State.cs g.st, lst 1 encL g.nx]], .cells 3 [[lst 1 enI a.ini, lst 1 enB a.acc, lst 4 Trans.cs a.ed]], .cells 1 ((build (g.st.length * a.acc.length) x.2).map ownRow)])) (fun x => x.1 ≤ (edRows a)[q].length ∧ x.2 ++ (((edRows a)[q].drop x.1).flatMap (pE2 a.acc.length i q ls[i] g.nx[i][j]) ++ ((g.nx[i].drop (j + 1)).flatMap (pTo a.acc.length (edRows a)[q] i q ls[i]) ++ (((List.range a.acc.length).drop (q + 1)).flatMap (pQ a.acc.length g.nx[i] (edRows a) i ls[i]) ++ ((List.range g.st.length).drop (i + 1)).flatMap (pI2 a.acc.length g.nx (edRows a) ls)))) = pS2 g ls a) (fun x => (edRows a)[q].length - x.1) (0, ps) ⟨by omega, hj2⟩
          ⟨[0, 1, 2], rfl, by decide, rfl, ⟨⟨rfl, rfl⟩, ⟨rfl, rfl⟩, ⟨rfl, rfl⟩, ⟨rfl, rfl⟩, ⟨rfl, rfl⟩, ⟨rfl, rfl⟩, ⟨rfl, rfl⟩, ⟨rfl, rfl⟩, ⟨rfl, rfl⟩, ⟨rfl, rfl⟩, ⟨rfl, rfl⟩, ⟨rfl, rfl⟩, ⟨rfl, rfl⟩, ⟨rfl, rfl⟩, ⟨rfl, rfl⟩, ⟨rfl, rfl⟩, ⟨rfl, rfl⟩, ⟨rfl, rfl⟩, ⟨rfl, rfl⟩, ⟨rfl, rfl⟩, trivial⟩, ⟨obj_box rfl rfl, obj_box rfl rfl, obj_flat rfl (flat_map fun _ => rfl), trivial⟩⟩ ?_
        rintro ⟨k, ps⟩ ⟨hk1, hk2⟩
        dsimp only at hk1 hk2 ⊢
        by_cases hke : k < (edRows a)[q].length
        · have he := a5 (edRows a)[q][k] (hed q hqe _ (List.getElem_mem hke))
          unfold edgeP at he
          have hlt' : i * a.acc.length + q < (build (g.st.length * a.acc.length) ps).length := by rw [build_length]; exact hlt
          have hmap : i * a.acc.length + q < ((build (g.st.length * a.acc.length) ps).map ownRow).length := by rw [List.length_map]; exact hlt'
          have hrl : (build (g.st.length * a.acc.length) ps)[i * a.acc.length + q].length ≤ 1000000000 := by
            have h1 := build_row_le (N := g.st.length * a.acc.length) (ps := ps) hlt'
            have h2 := congrArg List.length hk2
            rw [List.length_append] at h2
            omega
          have hix : ((i : Int) * a.acc.length + q).toNat = i * a.acc.length + q := by
            have e : ((i * a.acc.length : Nat) : Int) = (i : Int) * a.acc.length := by simp
            omega
          have hlt2 : ((i : Int) * a.acc.length + q).toNat < g.st.length * a.acc.length := by rw [hix]; exact hlt
          rw [drop_flat _ _ _ hke] at hk2
          repeat' (first | ((fail_if_success apply stopAt 22); (fail_if_success apply stopAtS 22); apply AWP.go ok; rfl; conv => whnf) | (apply ord_mk; kernel_rfl; conv => whnf) | (apply And.intro; (first | omega | (unfold inI; omega) | (dsimp only; omega) | (unfold bitsOk; omega) | ((try dsimp only); simp only [List.length_map, List.length_take, List.length_append, List.length_replicate, List.length_cons, List.length_nil]; omega) | (simp only [btw_iff] at *; first | omega | (unfold inI; omega) | (unfold bitsOk; omega)) | exact stor_map (fun _ => rfl) | exact ⟨rfl, stor_cons rfl stor_nil⟩ | exact ⟨rfl, stor_map (fun _ => rfl) _⟩ | exact ⟨⟨rfl, by omega⟩, stor_map (fun _ => rfl) _⟩); conv => whnf) | (with_reducible apply get_mapN; omega; intro _; conv => whnf) | (with_reducible apply get_mapI; omega; intro _; conv => whnf) | (apply get_mapN; omega; intro _; conv => whnf) | (apply get_fill; omega; conv => whnf) | (apply ex_some; conv => whnf) | (apply get_map; omega; intro _; conv => whnf) | (apply vcG_dec <;> intro _ <;> conv => whnf) | (apply vcG_ndec <;> intro _ <;> conv => whnf) | (apply vcG_not <;> intro _ <;> conv => whnf) | (apply vcG_mk <;> intro _ <;> conv => whnf) | (apply vcIf_dec <;> intro _ <;> conv => whnf) | (apply vcIf_ndec <;> intro _ <;> conv => whnf) | (apply vcIf_not <;> intro _ <;> conv => whnf) | (apply vcIf_mk <;> intro _ <;> conv => whnf) | (apply call_data (takes_ok (edRows a)[q][k] ls[i] hli.1 hli.2 he.2.2.1); rfl; rfl; conv => whnf))
          · have hon : ((ls[i].toNat &&& (edRows a)[q][k].care.toNat : Nat) : Int) = (edRows a)[q][k].val := by assumption
            refine AWP.reach (Gl.Reach.expose (e := ownRow (build (g.st.length * a.acc.length) ps)[i * a.acc.length + q]) 2 (i * a.acc.length + q) 0 rfl (by rw [List.getElem?_map, List.getElem?_eq_getElem hlt']; rfl) rfl (leaf_map (fun _ => rfl) _) rfl) ?_
            conv => whnf
            (apply AWP.go ok; rfl; conv => whnf)
            repeat' (first | (apply ord_mk; kernel_rfl; conv => whnf) | (apply And.intro; (first | omega | (unfold inI; omega) | (dsimp only; omega) | (unfold bitsOk; omega) | ((try dsimp only); simp only [List.length_map, List.length_take, List.length_append, List.length_replicate, List.length_cons, List.length_nil]; omega) | (simp only [btw_iff] at *; first | omega | (unfold inI; omega) | (unfold bitsOk; omega)) | exact stor_map (fun _ => rfl) | exact ⟨rfl, stor_cons rfl stor_nil⟩ | exact ⟨rfl, stor_map (fun _ => rfl) _⟩ | exact ⟨⟨rfl, by omega⟩, stor_map (fun _ => rfl) _⟩); conv => whnf) | (with_reducible apply get_mapN; omega; intro _; conv => whnf) | (with_reducible apply get_mapI; omega; intro _; conv => whnf) | (apply get_mapN; omega; intro _; conv => whnf) | (apply get_fill; omega; conv => whnf) | (apply ex_some; conv => whnf) | (apply get_map; omega; intro _; conv => whnf) | (apply vcG_dec <;> intro _ <;> conv => whnf) | (apply vcG_ndec <;> intro _ <;> conv => whnf) | (apply vcG_not <;> intro _ <;> conv => whnf) | (apply vcG_mk <;> intro _ <;> conv => whnf) | (apply vcIf_dec <;> intro _ <;> conv => whnf) | (apply vcIf_ndec <;> intro _ <;> conv => whnf) | (apply vcIf_not <;> intro _ <;> conv => whnf) | (apply vcIf_mk <;> intro _ <;> conv => whnf) | (apply get_set; exact hix; exact hmap; conv => whnf))
            refine AWP.reach (Gl.Reach.absorb 2 6 (i * a.acc.length + q) 0 rfl (getset hix (by rw [List.length_set]; exact hmap)) rfl rfl (by simp) rfl (flat_append (fun e he => (flat_map (fun _ => rfl)) e (List.mem_of_mem_take he)) (flat_cons rfl flat_nil)) rfl) ?_
            conv => whnf
            repeat' (first | (apply AWP.go ok; rfl; conv => whnf) | (apply ord_mk; kernel_rfl; conv => whnf) | (apply And.intro; (first | omega | (unfold inI; omega) | (dsimp only; omega) | (unfold bitsOk; omega) | ((try dsimp only); simp only [List.length_map, List.length_take, List.length_append, List.length_replicate, List.length_cons, List.length_nil]; omega) | (simp only [btw_iff] at *; first | omega | (unfold inI; omega) | (unfold bitsOk; omega)) | exact stor_map (fun _ => rfl) | exact ⟨rfl, stor_cons rfl stor_nil⟩ | exact ⟨rfl, stor_map (fun _ => rfl) _⟩ | exact ⟨⟨rfl, by omega⟩, stor_map (fun _ => rfl) _⟩); conv => whnf) | (with_reducible apply get_mapN; omega; intro _; conv => whnf) | (with_reducible apply get_mapI; omega; intro _; conv => whnf) | (apply get_mapN; omega; intro _; conv => whnf) | (apply get_fill; omega; conv => whnf) | (apply ex_some; conv => whnf) | (apply get_map; omega; intro _; conv => whnf) | (apply vcG_dec <;> intro _ <;> conv => whnf) | (apply vcG_ndec <;> intro _ <;> conv => whnf) | (apply vcG_not <;> intro _ <;> conv => whnf) | (apply vcG_mk <;> intro _ <;> conv => whnf) | (apply vcIf_dec <;> intro _ <;> conv => whnf) | (apply vcIf_ndec <;> intro _ <;> conv => whnf) | (apply vcIf_not <;> intro _ <;> conv => whnf) | (apply vcIf_mk <;> intro _ <;> conv => whnf))
            have hpe : pE2 a.acc.length i q ls[i] g.nx[i][j] (edRows a)[q][k] = [(i * a.acc.length + q, g.nx[i][j] * a.acc.length + (edRows a)[q][k].dst)] := by
              unfold pE2 onB; rw [if_pos (decide_eq_true hon)]
            rw [hpe, List.append_assoc, ← List.append_assoc] at hk2
            exact again (k + 1, ps ++ [(i * a.acc.length + q, g.nx[i][j] * a.acc.length + (edRows a)[q][k].dst)]) [0, 1, 2] ⟨by dsimp only; omega, hk2⟩ (by dsimp only; omega) ⟨rfl, by decide, rfl, ⟨⟨rfl, rfl⟩, ⟨rfl, rfl⟩, ⟨rfl, rfl⟩, ⟨rfl, rfl⟩, ⟨rfl, rfl⟩, ⟨rfl, rfl⟩, ⟨rfl, rfl⟩, ⟨rfl, rfl⟩, ⟨rfl, rfl⟩, ⟨rfl, rfl⟩, ⟨rfl, rfl⟩, ⟨rfl, rfl⟩, ⟨rfl, rfl⟩, ⟨rfl, rfl⟩, ⟨rfl, rfl⟩, ⟨rfl, rfl⟩, ⟨rfl, rfl⟩, ⟨rfl, rfl⟩, ⟨rfl, rfl⟩, ⟨rfl, rfl⟩, trivial⟩, ⟨obj_box rfl rfl, obj_box rfl rfl, obj_flat (cells_congr (rows_push' hlt' hix (by simp))) (flat_map fun _ => rfl), trivial⟩⟩
          · have hon : ¬ ((ls[i].toNat &&& (edRows a)[q][k].care.toNat : Nat) : Int) = (edRows a)[q][k].val := by assumption
            have hpe : pE2 a.acc.length i q ls[i] g.nx[i][j] (edRows a)[q][k] = [] := by
              unfold pE2 onB; rw [if_neg (by simpa using hon)]
            rw [hpe, List.nil_append] at hk2
            exact again (k + 1, ps) [0, 1, 2] ⟨by dsimp only; omega, hk2⟩ (by dsimp only; omega) ⟨rfl, by decide, rfl, ⟨⟨rfl, rfl⟩, ⟨rfl, rfl⟩, ⟨rfl, rfl⟩, ⟨rfl, rfl⟩, ⟨rfl, rfl⟩, ⟨rfl, rfl⟩, ⟨rfl, rfl⟩, ⟨rfl, rfl⟩, ⟨rfl, rfl⟩, ⟨rfl, rfl⟩, ⟨rfl, rfl⟩, ⟨rfl, rfl⟩, ⟨rfl, rfl⟩, ⟨rfl, rfl⟩, ⟨rfl, rfl⟩, ⟨rfl, rfl⟩, ⟨rfl, rfl⟩, ⟨rfl, rfl⟩, ⟨rfl, rfl⟩, ⟨rfl, rfl⟩, trivial⟩, ⟨obj_box rfl rfl, obj_box rfl rfl, obj_flat rfl (flat_map fun _ => rfl), trivial⟩⟩
          · omega
        · repeat' (first | ((fail_if_success apply stopAt 22); (fail_if_success apply stopAtS 22); apply AWP.go ok; rfl; conv => whnf) | (apply ord_mk; kernel_rfl; conv => whnf) | (apply And.intro; (first | omega | (unfold inI; omega) | (dsimp only; omega) | (unfold bitsOk; omega) | ((try dsimp only); simp only [List.length_map, List.length_take, List.length_append, List.length_replicate, List.length_cons, List.length_nil]; omega) | (simp only [btw_iff] at *; first | omega | (unfold inI; omega) | (unfold bitsOk; omega)) | exact stor_map (fun _ => rfl) | exact ⟨rfl, stor_cons rfl stor_nil⟩ | exact ⟨rfl, stor_map (fun _ => rfl) _⟩ | exact ⟨⟨rfl, by omega⟩, stor_map (fun _ => rfl) _⟩); conv => whnf) | (with_reducible apply get_mapN; omega; intro _; conv => whnf) | (with_reducible apply get_mapI; omega; intro _; conv => whnf) | (apply get_mapN; omega; intro _; conv => whnf) | (apply get_fill; omega; conv => whnf) | (apply ex_some; conv => whnf) | (apply get_map; omega; intro _; conv => whnf) | (apply vcG_dec <;> intro _ <;> conv => whnf) | (apply vcG_ndec <;> intro _ <;> conv => whnf) | (apply vcG_not <;> intro _ <;> conv => whnf) | (apply vcG_mk <;> intro _ <;> conv => whnf) | (apply vcIf_dec <;> intro _ <;> conv => whnf) | (apply vcIf_ndec <;> intro _ <;> conv => whnf) | (apply vcIf_not <;> intro _ <;> conv => whnf) | (apply vcIf_mk <;> intro _ <;> conv => whnf))
          · omega
          · rw [drop_flat_end _ _ _ (by omega), List.nil_append] at hk2
            exact again (j + 1, ps) [0, 1, 2] ⟨by dsimp only; omega, hk2⟩ (by dsimp only; omega) ⟨rfl, by decide, rfl, ⟨⟨rfl, rfl⟩, ⟨rfl, rfl⟩, ⟨rfl, rfl⟩, ⟨rfl, rfl⟩, ⟨rfl, rfl⟩, ⟨rfl, rfl⟩, ⟨rfl, rfl⟩, ⟨rfl, rfl⟩, ⟨rfl, rfl⟩, ⟨rfl, rfl⟩, ⟨rfl, rfl⟩, ⟨rfl, rfl⟩, ⟨rfl, rfl⟩, ⟨rfl, rfl⟩, ⟨rfl, rfl⟩, ⟨rfl, rfl⟩, trivial⟩, ⟨obj_box rfl rfl, obj_box rfl rfl, obj_flat rfl (flat_map fun _ => rfl), trivial⟩⟩
      · rw [drop_flat_end _ _ _ (by omega), List.nil_append] at hj2
        exact again (q + 1, ps) [0, 1, 2] ⟨by dsimp only; omega, hj2⟩ (by dsimp only; omega) ⟨rfl, by decide, rfl, ⟨⟨rfl, rfl⟩, ⟨rfl, rfl⟩, ⟨rfl, rfl⟩, ⟨rfl, rfl⟩, ⟨rfl, rfl⟩, ⟨rfl, rfl⟩, ⟨rfl, rfl⟩, ⟨rfl, rfl⟩, ⟨rfl, rfl⟩, ⟨rfl, rfl⟩, ⟨rfl, rfl⟩, ⟨rfl, rfl⟩, trivial⟩, ⟨obj_box rfl rfl, obj_box rfl rfl, obj_flat rfl (flat_map fun _ => rfl), trivial⟩⟩
    · rw [drop_flat_end _ _ _ (by simp; omega), List.nil_append] at hq2
      exact again (i + 1, ps) [0, 1, 2] ⟨by dsimp only; omega, hq2⟩ (by dsimp only; omega) ⟨rfl, by decide, rfl, ⟨⟨rfl, rfl⟩, ⟨rfl, rfl⟩, ⟨rfl, rfl⟩, ⟨rfl, rfl⟩, ⟨rfl, rfl⟩, ⟨rfl, rfl⟩, ⟨rfl, rfl⟩, ⟨rfl, rfl⟩, trivial⟩, ⟨obj_box rfl rfl, obj_box rfl rfl, obj_flat rfl (flat_map fun _ => rfl), trivial⟩⟩
  · rw [drop_flat_end _ _ _ (by simp; omega), List.append_nil] at hi2
    subst hi2
    repeat' (first | (apply AWP.go ok; rfl; conv => whnf) | (apply ord_mk; kernel_rfl; conv => whnf) | (apply And.intro; (first | omega | (unfold inI; omega) | (dsimp only; omega) | (unfold bitsOk; omega) | ((try dsimp only); simp only [List.length_map, List.length_take, List.length_append, List.length_replicate, List.length_cons, List.length_nil]; omega) | (simp only [btw_iff] at *; first | omega | (unfold inI; omega) | (unfold bitsOk; omega)) | exact stor_map (fun _ => rfl) | exact ⟨rfl, stor_cons rfl stor_nil⟩ | exact ⟨rfl, stor_map (fun _ => rfl) _⟩ | exact ⟨⟨rfl, by omega⟩, stor_map (fun _ => rfl) _⟩); conv => whnf) | (with_reducible apply get_mapN; omega; intro _; conv => whnf) | (with_reducible apply get_mapI; omega; intro _; conv => whnf) | (apply get_mapN; omega; intro _; conv => whnf) | (apply get_fill; omega; conv => whnf) | (apply ex_some; conv => whnf) | (apply get_map; omega; intro _; conv => whnf) | (apply vcG_dec <;> intro _ <;> conv => whnf) | (apply vcG_ndec <;> intro _ <;> conv => whnf) | (apply vcG_not <;> intro _ <;> conv => whnf) | (apply vcG_mk <;> intro _ <;> conv => whnf) | (apply vcIf_dec <;> intro _ <;> conv => whnf) | (apply vcIf_ndec <;> intro _ <;> conv => whnf) | (apply vcIf_not <;> intro _ <;> conv => whnf) | (apply vcIf_mk <;> intro _ <;> conv => whnf) | (apply call_data (implClone_ok a.ini (by omega)); rfl; rfl; conv => whnf))
    exact ret_objs [2] (by decide) rfl rfl rfl ⟨obj_flat rfl (flat_map fun _ => rfl), trivial⟩
end Go.Proofs.YtcmihlbihppflaaGreat

namespace Go.Proofs.YtcmihlbihppflaaGreat
open Go.Gl
attribute [local irreducible] vcCall AWP RetOk Again ordOk

theorem product_ok (g : Graph) (hg : GB g) (l : List Tree) (hl : LabelsOk l) (a : Aut) (ha : AutP a) : CallsA Tryz.prog 81 [.agg g.cs, lst 3 Tree.cs' l, .agg a.cs] [] (.tup [lst 1 encL (prodRows g (g.st.map (letterZ l)) a), ints a.ini]) [] := by
  have h := product_new g hg l hl a ha
  have hlen : (prodRows g (g.st.map (letterZ l)) a).length = g.st.length * a.acc.length := by unfold prodRows; rw [build_length, Nat.mul_comm]
  refine h.lend [] [0] rfl rfl rfl ?_ passOk_nil
  show AC.tup [bor _ _ _ (.sref 0 0 _), bor _ _ _ (ints a.ini)] = _
  rw [bor_full (w := 1) (es := (prodRows g (g.st.map (letterZ l)) a).map ownRow) rfl rfl rfl (by rw [List.length_map]; exact hlen), rows_unown, ← hlen]
  rfl

/-- nodes lead to nodes -/
theorem prodRows_lt (g : Graph) (hg : GB g) (ls : List Int) (a : Aut) (ha : AutP a) : ∀ row ∈ prodRows g ls a, ∀ x ∈ row, 0 ≤ x ∧ x < ((g.st.length * a.acc.length : Nat) : Int) := by
  intro row hrow x hx
  unfold prodRows build at hrow
  obtain ⟨r, _, rfl⟩ := List.mem_map.1 hrow
  obtain ⟨⟨p, v⟩, hp, rfl⟩ := List.mem_map.1 hx
  have hp := (List.mem_filter.1 hp).1
  unfold pushS at hp
  obtain ⟨i, hi, hp⟩ := List.mem_flatMap.1 hp
  rw [List.mem_range] at hi
  unfold pushI at hp
  obtain ⟨to, hto, hp⟩ := List.mem_flatMap.1 hp
  unfold pushJ at hp
  obtain ⟨e, he, hp⟩ := List.mem_flatMap.1 hp
  have hin : i < g.nx.length := by have := hg.2.1; omega
  rw [getD_at hin] at hto
  obtain ⟨j, hj, rfl⟩ := List.mem_iff_getElem.1 hto
  have h1 := ((hg.2.2 i hin hin hi).2.2.2 j hj hj).1
  have h2 := (ha.2.2.2 e he).2.1
  unfold pushE at hp
  split at hp
  · simp only [List.mem_singleton, Prod.mk.injEq] at hp
    obtain ⟨_, rfl⟩ := hp
    have h3 : 0 ≤ g.nx[i][j] * (a.acc.length : Int) := Int.mul_nonneg h1.1 (by omega)
    have h4 : (g.nx[i][j] + 1) * (a.acc.length : Int) ≤ g.st.length * a.acc.length := Int.mul_le_mul_of_nonneg_right (by omega) (by omega)
    rw [Int.add_mul, Int.one_mul] at h4
    have e : ((g.st.length * a.acc.length : Nat) : Int) = (g.st.length : Int) * a.acc.length := by simp
    rw [e]
    dsimp only
    omega
  · simp at hp

theorem prodRows_len (g : Graph) (hg : GB g) (ls : List Int) (a : Aut) (ha : AutP a) : ∀ row ∈ prodRows g ls a, row.length ≤ 7372800 := by
  intro row hrow
  obtain ⟨i, hi, rfl⟩ := List.mem_iff_getElem.1 hrow
  exact Nat.le_trans (build_row_le (N := a.acc.length * g.st.length) (ps := pushS g ls a) hi) (pushS_len g hg ls a ha)

def rk (ranks : List Int) (x : Int) : Int := ranks.getD x.toNat 0
def less (acc : Bool) (r : Int) : Int := if acc then r - 1 else r
def nodeP (row ranks : List Int) (rank : Int) (acc : Bool) : Prop := ∀ x ∈ row, 0 ≤ rk ranks x ∧ rk ranks x ≤ less acc rank
instance {row ranks : List Int} {rank : Int} {acc : Bool} : Decidable (nodeP row ranks rank acc) := by unfold nodeP; infer_instance

theorem l9Node_ok (row ranks : List Int) (rank : Int) (acc : Bool) (hr : row.length ≤ maxLen) (hb : ∀ x ∈ row, 0 ≤ x ∧ x < ranks.length) : CallsA Tryz.prog 137 [ints row, ints ranks, .int rank, .bool acc] [] (.bool (decide (nodeP row ranks rank acc))) [] := by
  unfold maxLen at hr
  refine callsA_of tabOk Tryz.func137 rfl rfl 39 Tryz.ntmps137 (by simp) ?_
  repeat' (first | (apply AWP.go ok; rfl; conv => whnf) | (apply ord_mk; kernel_rfl; conv => whnf) | (apply And.intro; (first | omega | (unfold inI; omega) | (dsimp only; omega) | (unfold bitsOk; omega) | ((try dsimp only); simp only [List.length_map, List.length_take, List.length_append, List.length_replicate, List.length_cons, List.length_nil]; omega) | (simp only [btw_iff] at *; first | omega | (unfold inI; omega) | (unfold bitsOk; omega)) | exact stor_map (fun _ => rfl) | exact ⟨rfl, stor_cons rfl stor_nil⟩ | exact ⟨rfl, stor_map (fun _ => rfl) _⟩ | exact ⟨⟨rfl, by omega⟩, stor_map (fun _ => rfl) _⟩); conv => whnf) | (with_reducible apply get_mapN; omega; intro _; conv => whnf) | (with_reducible apply get_mapI; omega; intro _; conv => whnf) | (apply get_mapN; omega; intro _; conv => whnf) | (apply get_fill; omega; conv => whnf) | (apply ex_some; conv => whnf) | (apply get_map; omega; intro _; conv => whnf) | (apply vcG_dec <;> intro _ <;> conv => whnf) | (apply vcG_ndec <;> intro _ <;> conv => whnf) | (apply vcG_not <;> intro _ <;> conv => whnf) | (apply vcG_mk <;> intro _ <;> conv => whnf) | (apply vcIf_dec <;> intro _ <;> conv => whnf) | (apply vcIf_ndec <;> intro _ <;> conv => whnf) | (apply vcIf_not <;> intro _ <;> conv => whnf) | (apply vcIf_mk <;> intro _ <;> conv => whnf))
  refine loopA (fun k : Nat => ([(0, ints row), (1, ints ranks), (2, .int rank), (3, .bool acc), (9, .int k)], [])) (fun k => k ≤ row.length ∧ ∀ i (h : i < row.length), i < k → 0 ≤ rk ranks row[i] ∧ rk ranks row[i] ≤ less acc rank) (fun k => row.length - k) 0 ⟨by omega, fun i h hi => by omega⟩ ⟨[], rfl, by decide, rfl, by repeat' (first | exact True.intro | exact ⟨rfl, rfl⟩ | apply And.intro), by repeat' (first | exact True.intro | exact obj_box rfl rfl | exact obj_flat (by rfl) (by (first | exact flat_nil | exact flat_replicate rfl | exact flat_map (fun _ => rfl) | exact flat_map Tree.co_flat | (apply flat_append <;> (first | exact flat_replicate rfl | exact flat_map (fun _ => rfl))) | assumption)) | apply And.intro)⟩ ?_
  rintro k ⟨hk1, hk2⟩
  by_cases hkl : k < row.length
  · have hx := hb row[k] (List.getElem_mem _)
    have hrk : rk ranks row[k] = ranks[row[k].toNat]'(by omega) := getD_at (by omega)
    have hno : (¬ 0 ≤ rk ranks row[k] ∨ rank < rk ranks row[k] ∨ (acc = true ∧ rk ranks row[k] = rank)) → ¬ nodeP row ranks rank acc := fun h h2 => by
      have h3 := h2 _ (List.getElem_mem hkl)
      unfold less at h3
      rcases h with h | h | ⟨rfl, h⟩
      · omega
      · split at h3 <;> omega
      · rw [if_pos rfl] at h3; omega
    have hyes : (0 ≤ rk ranks row[k] ∧ rk ranks row[k] ≤ rank ∧ (acc = false ∨ rk ranks row[k] ≠ rank)) → ∀ i (h : i < row.length), i < k + 1 → 0 ≤ rk ranks row[i] ∧ rk ranks row[i] ≤ less acc rank := fun h i hi hik => by
      rcases Nat.lt_or_ge i k with h3 | h3
      · exact hk2 i hi h3
      · obtain rfl : i = k := by omega
        refine ⟨h.1, ?_⟩
        unfold less
        rcases h.2.2 with h4 | h4
        · rw [h4, if_neg (by simp)]; omega
        · split <;> omega
    rw [hrk] at hno hyes
    repeat' (first | (apply AWP.go ok; rfl; conv => whnf) | (apply ord_mk; kernel_rfl; conv => whnf) | (apply And.intro; (first | omega | (unfold inI; omega) | (dsimp only; omega) | (unfold bitsOk; omega) | ((try dsimp only); simp only [List.length_map, List.length_take, List.length_append, List.length_replicate, List.length_cons, List.length_nil]; omega) | (simp only [btw_iff] at *; first | omega | (unfold inI; omega) | (unfold bitsOk; omega)) | exact stor_map (fun _ => rfl) | exact ⟨rfl, stor_cons rfl stor_nil⟩ | exact ⟨rfl, stor_map (fun _ => rfl) _⟩ | exact ⟨⟨rfl, by omega⟩, stor_map (fun _ => rfl) _⟩); conv => whnf) | (with_reducible apply get_mapN; omega; intro _; conv => whnf) | (with_reducible apply get_mapI; omega; intro _; conv => whnf) | (apply get_mapN; omega; intro _; conv => whnf) | (apply get_fill; omega; conv => whnf) | (apply ex_some; conv => whnf) | (apply get_map; omega; intro _; conv => whnf) | (apply vcG_dec <;> intro _ <;> conv => whnf) | (apply vcG_ndec <;> intro _ <;> conv => whnf) | (apply vcG_not <;> intro _ <;> conv => whnf) | (apply vcG_mk <;> intro _ <;> conv => whnf) | (apply vcIf_dec <;> intro _ <;> conv => whnf) | (apply vcIf_ndec <;> intro _ <;> conv => whnf) | (apply vcIf_not <;> intro _ <;> conv => whnf) | (apply vcIf_mk <;> intro _ <;> conv => whnf))
    all_goals first
      | exact ret_bool rfl (decide_eq_false (hno (by first | exact .inl (by omega) | exact .inr (.inl (by omega)) | exact .inr (.inr ⟨by assumption, by assumption⟩))))
      | exact again (k + 1) [] ⟨by omega, hyes ⟨by omega, by omega, by first | exact .inl (by assumption) | exact .inr (by assumption)⟩⟩ (by omega) ⟨rfl, by decide, rfl, by repeat' (first | exact True.intro | exact ⟨rfl, rfl⟩ | apply And.intro), by repeat' (first | exact True.intro | exact obj_box rfl rfl | exact obj_flat (by rfl) (by (first | exact flat_nil | exact flat_replicate rfl | exact flat_map (fun _ => rfl) | exact flat_map Tree.co_flat | (apply flat_append <;> (first | exact flat_replicate rfl | exact flat_map (fun _ => rfl))) | assumption)) | apply And.intro)⟩
      | omega
  · repeat' (first | (apply AWP.go ok; rfl; conv => whnf) | (apply ord_mk; kernel_rfl; conv => whnf) | (apply And.intro; (first | omega | (unfold inI; omega) | (dsimp only; omega) | (unfold bitsOk; omega) | ((try dsimp only); simp only [List.length_map, List.length_take, List.length_append, List.length_replicate, List.length_cons, List.length_nil]; omega) | (simp only [btw_iff] at *; first | omega | (unfold inI; omega) | (unfold bitsOk; omega)) | exact stor_map (fun _ => rfl) | exact ⟨rfl, stor_cons rfl stor_nil⟩ | exact ⟨rfl, stor_map (fun _ => rfl) _⟩ | exact ⟨⟨rfl, by omega⟩, stor_map (fun _ => rfl) _⟩); conv => whnf) | (with_reducible apply get_mapN; omega; intro _; conv => whnf) | (with_reducible apply get_mapI; omega; intro _; conv => whnf) | (apply get_mapN; omega; intro _; conv => whnf) | (apply get_fill; omega; conv => whnf) | (apply ex_some; conv => whnf) | (apply get_map; omega; intro _; conv => whnf) | (apply vcG_dec <;> intro _ <;> conv => whnf) | (apply vcG_ndec <;> intro _ <;> conv => whnf) | (apply vcG_not <;> intro _ <;> conv => whnf) | (apply vcG_mk <;> intro _ <;> conv => whnf) | (apply vcIf_dec <;> intro _ <;> conv => whnf) | (apply vcIf_ndec <;> intro _ <;> conv => whnf) | (apply vcIf_not <;> intro _ <;> conv => whnf) | (apply vcIf_mk <;> intro _ <;> conv => whnf))
    all_goals first | (exfalso; omega) | skip
    refine ret_bool rfl (decide_eq_true ?_)
    intro x hx
    obtain ⟨i, hi, rfl⟩ := List.mem_iff_getElem.1 hx
    exact hk2 i hi (by omega)

/-- is the certificate right? -/
def certP (rows : List (List Int)) (ini : List Int) (acc : List Bool) (N : Nat) (ranks : List Int) : Prop :=
  ranks.length = N ∧ (∀ x ∈ ranks, -1 ≤ x ∧ x ≤ 4000) ∧ (∀ x ∈ ini, 0 ≤ rk ranks x) ∧ ∀ i (h : i < ranks.length), 0 ≤ ranks[i] → nodeP (rows.getD i []) ranks ranks[i] (acc.getD (i % acc.length) false)
noncomputable instance {rows : List (List Int)} {ini : List Int} {acc : List Bool} {N : Nat} {ranks : List Int} : Decidable (certP rows ini acc N ranks) := Classical.propDecidable _
noncomputable def certB (g : Graph) (l : List Tree) (a : Aut) (c : Cert) : Bool := glB g l && autB a && decide (certP (prodRows g (g.st.map (letterZ l)) a) a.ini a.acc (g.st.length * a.acc.length) c.ranks)

def Cert.mx (c : Cert) : Prop := c.ranks.length ≤ maxLen
set_option maxHeartbeats 800000 in
theorem specCheckCertificate_ok (g : Graph) (hg : g.mx) (l : List Tree) (hl : Lmx l) (a : Aut) (ha : a.mx) (c : Cert) (hc : c.mx) : CallsA Tryz.prog 89 [.agg g.cs, lst 3 Tree.cs' l, .agg a.cs, .agg c.cs] [] (.bool (certB g l a c)) [] := by
  have hcm := hc
  unfold Cert.mx maxLen at hcm
  by_cases hgl : glB g l = true
  · have hG := (graphB_iff g).1 (by unfold glB at hgl; exact (Bool.and_eq_true_iff.1 hgl).1)
    have hL := LabelsOk.of (by unfold glB at hgl; exact (Bool.and_eq_true_iff.1 hgl).2)
    have k1 := specLabelGraph_ok g hg l hl
    rw [hgl, if_pos rfl] at k1
    by_cases hab : autB a = true
    · have hA := autB_iff.1 hab
      have hlr : ∀ x ∈ g.st.map (letterZ l), 0 ≤ x ∧ x ≤ 7 := fun x hx => by
        obtain ⟨s, _, rfl⟩ := List.mem_map.1 hx
        exact letter_range hL s
      have k2 := l8Product_ok g hG (g.st.map (letterZ l)) (by simp) hlr a hA
      have hrows := prodRows_lt g hG (g.st.map (letterZ l)) a hA
      have hrl : (prodRows g (g.st.map (letterZ l)) a).length = g.st.length * a.acc.length := by unfold prodRows; rw [build_length, Nat.mul_comm]
      have hN := mul_bound (a := (g.st.length : Int)) (b := (a.acc.length : Int)) (A := 60) (B := 64) (by omega) (by have := hG.1; omega) (by omega) (by have := hA.1; omega)
      have hN2 : ((g.st.length * a.acc.length : Nat) : Int) = (g.st.length : Int) * a.acc.length := by simp
      have hini := hA.2.2.1
      have e : certB g l a c = decide (certP (prodRows g (g.st.map (letterZ l)) a) a.ini a.acc (g.st.length * a.acc.length) c.ranks) := by unfold certB; rw [hgl, hab]; rfl
      rw [e]
      have hrowl := prodRows_len g hG (g.st.map (letterZ l)) a hA
      generalize prodRows g (g.st.map (letterZ l)) a = rows at k2 hrows hrl hrowl
      have k3 := specAutomatonValid_ok a ha
      rw [hab] at k3
      have ha1 := hA.1
      refine callsA_of tabOk Tryz.func89 rfl rfl 112 Tryz.ntmps89 (by simp) ?_
      repeat' (first | (apply AWP.go ok; rfl; conv => whnf) | (apply ord_mk; kernel_rfl; conv => whnf) | (apply And.intro; (first | omega | (unfold inI; omega) | (dsimp only; omega) | (unfold bitsOk; omega) | ((try dsimp only); simp only [List.length_map, List.length_take, List.length_append, List.length_replicate, List.length_cons, List.length_nil]; omega) | (simp only [btw_iff] at *; first | omega | (unfold inI; omega) | (unfold bitsOk; omega)) | exact stor_map (fun _ => rfl) | exact ⟨rfl, stor_cons rfl stor_nil⟩ | exact ⟨rfl, stor_map (fun _ => rfl) _⟩ | exact ⟨⟨rfl, by omega⟩, stor_map (fun _ => rfl) _⟩); conv => whnf) | (with_reducible apply get_mapN; omega; intro _; conv => whnf) | (with_reducible apply get_mapI; omega; intro _; conv => whnf) | (apply get_mapN; omega; intro _; conv => whnf) | (apply get_fill; omega; conv => whnf) | (apply ex_some; conv => whnf) | (apply get_map; omega; intro _; conv => whnf) | (apply vcG_dec <;> intro _ <;> conv => whnf) | (apply vcG_ndec <;> intro _ <;> conv => whnf) | (apply vcG_not <;> intro _ <;> conv => whnf) | (apply vcG_mk <;> intro _ <;> conv => whnf) | (apply vcIf_dec <;> intro _ <;> conv => whnf) | (apply vcIf_ndec <;> intro _ <;> conv => whnf) | (apply vcIf_not <;> intro _ <;> conv => whnf) | (apply vcIf_mk <;> intro _ <;> conv => whnf) | (apply call_data (k1); rfl; rfl; conv => whnf) | (apply call_data (k3); rfl; rfl; conv => whnf) | (apply call_data (k2); rfl; rfl; conv => whnf))
      · rename_i hlen
        exact ret_bool rfl (decide_eq_false fun h => hlen (by rw [h.1]; exact hN2))
      rename_i hlen
      have hcl : c.ranks.length = g.st.length * a.acc.length := by omega
      have hmod : ∀ k : Nat, (((k : Int) % (a.acc.length : Int)).toNat) = k % a.acc.length := fun k => by omega
      have hmodlt : ∀ k : Nat, k % a.acc.length < a.acc.length := fun k => Nat.mod_lt _ (by omega)
      refine loopA (fun k : Nat => ([(4, .ptr 0 none 0), (6, .ptr 1 none 0), (7, .ptr 2 none 0), (11, lst 1 encL rows), (12, .int k)], [.cells 2 [[lst 2 State.cs g.st, lst 1 encL g.nx]], .cells 3 [[lst 1 enI a.ini, lst 1 enB a.acc, lst 4 Trans.cs a.ed]], .cells 1 [[lst 1 enI c.ranks]]])) (fun k => k ≤ c.ranks.length ∧ ∀ i (h : i < c.ranks.length), i < k → (-1 ≤ c.ranks[i] ∧ c.ranks[i] ≤ 4000) ∧ (0 ≤ c.ranks[i] → nodeP (rows.getD i []) c.ranks c.ranks[i] (a.acc.getD (i % a.acc.length) false))) (fun k => c.ranks.length - k) 0 ⟨by omega, fun i h hi => by omega⟩ ⟨[0, 1, 2], rfl, by decide, rfl, by repeat' (first | exact True.intro | exact ⟨rfl, rfl⟩ | apply And.intro), by repeat' (first | exact True.intro | exact obj_box rfl rfl | exact obj_flat (by rfl) (by (first | exact flat_nil | exact flat_replicate rfl | exact flat_map (fun _ => rfl) | exact flat_map Tree.co_flat | (apply flat_append <;> (first | exact flat_replicate rfl | exact flat_map (fun _ => rfl))) | assumption)) | apply And.intro)⟩ ?_
      rintro k ⟨hk1, hk2⟩
      have hm := hmod k
      have hml := hmodlt k
      by_cases hkl : k < c.ranks.length
      · have hrr : k < rows.length := by omega
        have hacc : a.acc.getD (k % a.acc.length) false = a.acc[((k : Int) % (a.acc.length : Int)).toNat]'(by omega) := by
          rw [getD_at hml]; simp only [hm]
        have hrw : rows.getD k [] = rows[k] := getD_at hrr
        have hrl2 : rows[k].length ≤ maxLen := by have := hrowl _ (List.getElem_mem hrr); unfold maxLen; omega
        have hxs : ∀ x ∈ rows[k], 0 ≤ x ∧ x < c.ranks.length := fun x hx => by
          have := hrows _ (List.getElem_mem hrr) x hx
          rw [hcl]; exact this
        have hkacc : ((k : Int) % (a.acc.length : Int)).toNat < a.acc.length := by omega
        have hnode := l9Node_ok rows[k] c.ranks c.ranks[k] (a.acc[((k : Int) % (a.acc.length : Int)).toNat]'hkacc) hrl2 hxs
        have hno : certP rows a.ini a.acc (g.st.length * a.acc.length) c.ranks → (-1 ≤ c.ranks[k] ∧ c.ranks[k] ≤ 4000) ∧ (0 ≤ c.ranks[k] → nodeP rows[k] c.ranks c.ranks[k] (a.acc[((k : Int) % (a.acc.length : Int)).toNat]'hkacc)) := fun h => by
          have h1 := h.2.2.2 k hkl
          rw [hrw, hacc] at h1
          exact ⟨h.2.1 _ (List.getElem_mem _), h1⟩
        have hyes : ((-1 ≤ c.ranks[k] ∧ c.ranks[k] ≤ 4000) ∧ (0 ≤ c.ranks[k] → nodeP rows[k] c.ranks c.ranks[k] (a.acc[((k : Int) % (a.acc.length : Int)).toNat]'hkacc))) → ∀ i (h : i < c.ranks.length), i < k + 1 → (-1 ≤ c.ranks[i] ∧ c.ranks[i] ≤ 4000) ∧ (0 ≤ c.ranks[i] → nodeP (rows.getD i []) c.ranks c.ranks[i] (a.acc.getD (i % a.acc.length) false)) := fun h i hi hik => by
          rcases Nat.lt_or_ge i k with h3 | h3
          · exact hk2 i hi h3
          · obtain rfl : i = k := by omega
            rw [hrw, hacc]; exact h
        repeat' (first | (apply AWP.go ok; rfl; conv => whnf) | (apply ord_mk; kernel_rfl; conv => whnf) | (apply And.intro; (first | omega | (unfold inI; omega) | (dsimp only; omega) | (unfold bitsOk; omega) | ((try dsimp only); simp only [List.length_map, List.length_take, List.length_append, List.length_replicate, List.length_cons, List.length_nil]; omega) | (simp only [btw_iff] at *; first | omega | (unfold inI; omega) | (unfold bitsOk; omega)) | exact stor_map (fun _ => rfl) | exact ⟨rfl, stor_cons rfl stor_nil⟩ | exact ⟨rfl, stor_map (fun _ => rfl) _⟩ | exact ⟨⟨rfl, by omega⟩, stor_map (fun _ => rfl) _⟩); conv => whnf) | (with_reducible apply get_mapN; omega; intro _; conv => whnf) | (with_reducible apply get_mapI; omega; intro _; conv => whnf) | (apply get_mapN; omega; intro _; conv => whnf) | (apply get_fill; omega; conv => whnf) | (apply ex_some; conv => whnf) | (apply get_map; omega; intro _; conv => whnf) | (apply vcG_dec <;> intro _ <;> conv => whnf) | (apply vcG_ndec <;> intro _ <;> conv => whnf) | (apply vcG_not <;> intro _ <;> conv => whnf) | (apply vcG_mk <;> intro _ <;> conv => whnf) | (apply vcIf_dec <;> intro _ <;> conv => whnf) | (apply vcIf_ndec <;> intro _ <;> conv => whnf) | (apply vcIf_not <;> intro _ <;> conv => whnf) | (apply vcIf_mk <;> intro _ <;> conv => whnf) | (apply call_data (hnode); rfl; rfl; conv => whnf))
        · exact ret_bool rfl (decide_eq_false fun h => by have := (hno h).1; omega)
        · exact ret_bool rfl (decide_eq_false fun h => by have := (hno h).1; omega)
        · rename_i hn
          exact ret_bool rfl (decide_eq_false fun h => hn ((hno h).2 (by assumption)))
        · rename_i hn
          exact again (k + 1) [0, 1, 2] ⟨by omega, hyes ⟨by omega, fun _ => hn⟩⟩ (by omega) ⟨rfl, by decide, rfl, by repeat' (first | exact True.intro | exact ⟨rfl, rfl⟩ | apply And.intro), by repeat' (first | exact True.intro | exact obj_box rfl rfl | exact obj_flat (by rfl) (by (first | exact flat_nil | exact flat_replicate rfl | exact flat_map (fun _ => rfl) | exact flat_map Tree.co_flat | (apply flat_append <;> (first | exact flat_replicate rfl | exact flat_map (fun _ => rfl))) | assumption)) | apply And.intro)⟩
        · rename_i hn
          exact again (k + 1) [0, 1, 2] ⟨by omega, hyes ⟨by omega, fun h => absurd h hn⟩⟩ (by omega) ⟨rfl, by decide, rfl, by repeat' (first | exact True.intro | exact ⟨rfl, rfl⟩ | apply And.intro), by repeat' (first | exact True.intro | exact obj_box rfl rfl | exact obj_flat (by rfl) (by (first | exact flat_nil | exact flat_replicate rfl | exact flat_map (fun _ => rfl) | exact flat_map Tree.co_flat | (apply flat_append <;> (first | exact flat_replicate rfl | exact flat_map (fun _ => rfl))) | assumption)) | apply And.intro)⟩
        · omega
      · repeat' (first | (apply AWP.go ok; rfl; conv => whnf) | (apply ord_mk; kernel_rfl; conv => whnf) | (apply And.intro; (first | omega | (unfold inI; omega) | (dsimp only; omega) | (unfold bitsOk; omega) | ((try dsimp only); simp only [List.length_map, List.length_take, List.length_append, List.length_replicate, List.length_cons, List.length_nil]; omega) | (simp only [btw_iff] at *; first | omega | (unfold inI; omega) | (unfold bitsOk; omega)) | exact stor_map (fun _ => rfl) | exact ⟨rfl, stor_cons rfl stor_nil⟩ | exact ⟨rfl, stor_map (fun _ => rfl) _⟩ | exact ⟨⟨rfl, by omega⟩, stor_map (fun _ => rfl) _⟩); conv => whnf) | (with_reducible apply get_mapN; omega; intro _; conv => whnf) | (with_reducible apply get_mapI; omega; intro _; conv => whnf) | (apply get_mapN; omega; intro _; conv => whnf) | (apply get_fill; omega; conv => whnf) | (apply ex_some; conv => whnf) | (apply get_map; omega; intro _; conv => whnf) | (apply vcG_dec <;> intro _ <;> conv => whnf) | (apply vcG_ndec <;> intro _ <;> conv => whnf) | (apply vcG_not <;> intro _ <;> conv => whnf) | (apply vcG_mk <;> intro _ <;> conv => whnf) | (apply vcIf_dec <;> intro _ <;> conv => whnf) | (apply vcIf_ndec <;> intro _ <;> conv => whnf) | (apply vcIf_not <;> intro _ <;> conv => whnf) | (apply vcIf_mk <;> intro _ <;> conv => whnf))
        all_goals first | (exfalso; omega) | skip
        obtain rfl : k = c.ranks.length := by omega
        have hil := hini.le (by omega)
        refine loopA (fun j : Nat => ([(6, .ptr 1 none 0), (7, .ptr 2 none 0), (13, .int j)], [.cells 2 [[lst 2 State.cs g.st, lst 1 encL g.nx]], .cells 3 [[lst 1 enI a.ini, lst 1 enB a.acc, lst 4 Trans.cs a.ed]], .cells 1 [[lst 1 enI c.ranks]]])) (fun j => j ≤ a.ini.length ∧ ∀ i (h : i < a.ini.length), i < j → 0 ≤ rk c.ranks a.ini[i]) (fun j => a.ini.length - j) 0 ⟨by omega, fun i h hi => by omega⟩ ⟨[0, 1, 2], rfl, by decide, rfl, by repeat' (first | exact True.intro | exact ⟨rfl, rfl⟩ | apply And.intro), by repeat' (first | exact True.intro | exact obj_box rfl rfl | exact obj_flat (by rfl) (by (first | exact flat_nil | exact flat_replicate rfl | exact flat_map (fun _ => rfl) | exact flat_map Tree.co_flat | (apply flat_append <;> (first | exact flat_replicate rfl | exact flat_map (fun _ => rfl))) | assumption)) | apply And.intro)⟩ ?_
        rintro j ⟨hj1, hj2⟩
        by_cases hjl : j < a.ini.length
        · have hin := (hini j hjl hjl).1
          have hb1 := mul_bound (a := (g.st.length : Int) - 1) (b := (a.acc.length : Int)) (A := 60) (B := 64) (by have := hG.1; omega) (by have := hG.1; omega) (by omega) (by omega)
          rw [Int.sub_mul, Int.one_mul] at hb1
          have hix : a.ini[j].toNat < c.ranks.length := by rw [hcl]; omega
          have hrk : rk c.ranks a.ini[j] = c.ranks[a.ini[j].toNat]'hix := getD_at hix
          repeat' (first | (apply AWP.go ok; rfl; conv => whnf) | (apply ord_mk; kernel_rfl; conv => whnf) | (apply And.intro; (first | omega | (unfold inI; omega) | (dsimp only; omega) | (unfold bitsOk; omega) | ((try dsimp only); simp only [List.length_map, List.length_take, List.length_append, List.length_replicate, List.length_cons, List.length_nil]; omega) | (simp only [btw_iff] at *; first | omega | (unfold inI; omega) | (unfold bitsOk; omega)) | exact stor_map (fun _ => rfl) | exact ⟨rfl, stor_cons rfl stor_nil⟩ | exact ⟨rfl, stor_map (fun _ => rfl) _⟩ | exact ⟨⟨rfl, by omega⟩, stor_map (fun _ => rfl) _⟩); conv => whnf) | (with_reducible apply get_mapN; omega; intro _; conv => whnf) | (with_reducible apply get_mapI; omega; intro _; conv => whnf) | (apply get_mapN; omega; intro _; conv => whnf) | (apply get_fill; omega; conv => whnf) | (apply ex_some; conv => whnf) | (apply get_map; omega; intro _; conv => whnf) | (apply vcG_dec <;> intro _ <;> conv => whnf) | (apply vcG_ndec <;> intro _ <;> conv => whnf) | (apply vcG_not <;> intro _ <;> conv => whnf) | (apply vcG_mk <;> intro _ <;> conv => whnf) | (apply vcIf_dec <;> intro _ <;> conv => whnf) | (apply vcIf_ndec <;> intro _ <;> conv => whnf) | (apply vcIf_not <;> intro _ <;> conv => whnf) | (apply vcIf_mk <;> intro _ <;> conv => whnf))
          · exact ret_bool rfl (decide_eq_false fun h => by have := h.2.2.1 _ (List.getElem_mem hjl); rw [hrk] at this; omega)
          · refine again (j + 1) [0, 1, 2] ⟨by omega, fun i hi hij => ?_⟩ (by omega) ⟨rfl, by decide, rfl, by repeat' (first | exact True.intro | exact ⟨rfl, rfl⟩ | apply And.intro), by repeat' (first | exact True.intro | exact obj_box rfl rfl | exact obj_flat (by rfl) (by (first | exact flat_nil | exact flat_replicate rfl | exact flat_map (fun _ => rfl) | exact flat_map Tree.co_flat | (apply flat_append <;> (first | exact flat_replicate rfl | exact flat_map (fun _ => rfl))) | assumption)) | apply And.intro)⟩
            rcases Nat.lt_or_ge i j with h3 | h3
            · exact hj2 i hi h3
            · obtain rfl : i = j := by omega
              rw [hrk]; omega
          · omega
        · repeat' (first | (apply AWP.go ok; rfl; conv => whnf) | (apply ord_mk; kernel_rfl; conv => whnf) | (apply And.intro; (first | omega | (unfold inI; omega) | (dsimp only; omega) | (unfold bitsOk; omega) | ((try dsimp only); simp only [List.length_map, List.length_take, List.length_append, List.length_replicate, List.length_cons, List.length_nil]; omega) | (simp only [btw_iff] at *; first | omega | (unfold inI; omega) | (unfold bitsOk; omega)) | exact stor_map (fun _ => rfl) | exact ⟨rfl, stor_cons rfl stor_nil⟩ | exact ⟨rfl, stor_map (fun _ => rfl) _⟩ | exact ⟨⟨rfl, by omega⟩, stor_map (fun _ => rfl) _⟩); conv => whnf) | (with_reducible apply get_mapN; omega; intro _; conv => whnf) | (with_reducible apply get_mapI; omega; intro _; conv => whnf) | (apply get_mapN; omega; intro _; conv => whnf) | (apply get_fill; omega; conv => whnf) | (apply ex_some; conv => whnf) | (apply get_map; omega; intro _; conv => whnf) | (apply vcG_dec <;> intro _ <;> conv => whnf) | (apply vcG_ndec <;> intro _ <;> conv => whnf) | (apply vcG_not <;> intro _ <;> conv => whnf) | (apply vcG_mk <;> intro _ <;> conv => whnf) | (apply vcIf_dec <;> intro _ <;> conv => whnf) | (apply vcIf_ndec <;> intro _ <;> conv => whnf) | (apply vcIf_not <;> intro _ <;> conv => whnf) | (apply vcIf_mk <;> intro _ <;> conv => whnf))
          all_goals first | (exfalso; omega) | skip
          refine ret_bool rfl (decide_eq_true ⟨hcl, fun x hx => ?_, fun x hx => ?_, fun i h => ?_⟩)
          · obtain ⟨i, hi, rfl⟩ := List.mem_iff_getElem.1 hx
            exact (hk2 i hi hi).1
          · obtain ⟨i, hi, rfl⟩ := List.mem_iff_getElem.1 hx
            exact hj2 i hi (by omega)
          · exact (hk2 i h h).2
    · have hab := (Bool.not_eq_true _).mp hab
      have e : certB g l a c = false := by unfold certB; rw [hab, Bool.and_false]; rfl
      have k3 := specAutomatonValid_ok a ha
      rw [hab] at k3
      rw [e]
      refine callsA_of tabOk Tryz.func89 rfl rfl 112 Tryz.ntmps89 (by simp) ?_
      repeat' (first | (apply AWP.go ok; rfl; conv => whnf) | (apply ord_mk; kernel_rfl; conv => whnf) | (apply And.intro; (first | omega | (unfold inI; omega) | (dsimp only; omega) | (unfold bitsOk; omega) | ((try dsimp only); simp only [List.length_map, List.length_take, List.length_append, List.length_replicate, List.length_cons, List.length_nil]; omega) | (simp only [btw_iff] at *; first | omega | (unfold inI; omega) | (unfold bitsOk; omega)) | exact stor_map (fun _ => rfl) | exact ⟨rfl, stor_cons rfl stor_nil⟩ | exact ⟨rfl, stor_map (fun _ => rfl) _⟩ | exact ⟨⟨rfl, by omega⟩, stor_map (fun _ => rfl) _⟩); conv => whnf) | (with_reducible apply get_mapN; omega; intro _; conv => whnf) | (with_reducible apply get_mapI; omega; intro _; conv => whnf) | (apply get_mapN; omega; intro _; conv => whnf) | (apply get_fill; omega; conv => whnf) | (apply ex_some; conv => whnf) | (apply get_map; omega; intro _; conv => whnf) | (apply vcG_dec <;> intro _ <;> conv => whnf) | (apply vcG_ndec <;> intro _ <;> conv => whnf) | (apply vcG_not <;> intro _ <;> conv => whnf) | (apply vcG_mk <;> intro _ <;> conv => whnf) | (apply vcIf_dec <;> intro _ <;> conv => whnf) | (apply vcIf_ndec <;> intro _ <;> conv => whnf) | (apply vcIf_not <;> intro _ <;> conv => whnf) | (apply vcIf_mk <;> intro _ <;> conv => whnf) | (apply call_data (k1); rfl; rfl; conv => whnf) | (apply call_data (k3); rfl; rfl; conv => whnf))
      all_goals (refine ret_bool rfl ?_; first | rfl | (simp [*]; done) | (simp_all; done) | (simp_all; omega))
  · have k1 := specLabelGraph_ok g hg l hl
    have hgl := (Bool.not_eq_true _).mp hgl
    rw [hgl, if_neg (by simp)] at k1
    have e : certB g l a c = false := by unfold certB; rw [hgl]; rfl
    rw [e]
    refine callsA_of tabOk Tryz.func89 rfl rfl 112 Tryz.ntmps89 (by simp) ?_
    repeat' (first | (apply AWP.go ok; rfl; conv => whnf) | (apply ord_mk; kernel_rfl; conv => whnf) | (apply And.intro; (first | omega | (unfold inI; omega) | (dsimp only; omega) | (unfold bitsOk; omega) | ((try dsimp only); simp only [List.length_map, List.length_take, List.length_append, List.length_replicate, List.length_cons, List.length_nil]; omega) | (simp only [btw_iff] at *; first | omega | (unfold inI; omega) | (unfold bitsOk; omega)) | exact stor_map (fun _ => rfl) | exact ⟨rfl, stor_cons rfl stor_nil⟩ | exact ⟨rfl, stor_map (fun _ => rfl) _⟩ | exact ⟨⟨rfl, by omega⟩, stor_map (fun _ => rfl) _⟩); conv => whnf) | (with_reducible apply get_mapN; omega; intro _; conv => whnf) | (with_reducible apply get_mapI; omega; intro _; conv => whnf) | (apply get_mapN; omega; intro _; conv => whnf) | (apply get_fill; omega; conv => whnf) | (apply ex_some; conv => whnf) | (apply get_map; omega; intro _; conv => whnf) | (apply vcG_dec <;> intro _ <;> conv => whnf) | (apply vcG_ndec <;> intro _ <;> conv => whnf) | (apply vcG_not <;> intro _ <;> conv => whnf) | (apply vcG_mk <;> intro _ <;> conv => whnf) | (apply vcIf_dec <;> intro _ <;> conv => whnf) | (apply vcIf_ndec <;> intro _ <;> conv => whnf) | (apply vcIf_not <;> intro _ <;> conv => whnf) | (apply vcIf_mk <;> intro _ <;> conv => whnf) | (apply call_data (k1); rfl; rfl; conv => whnf))
    all_goals (refine ret_bool rfl ?_; first | rfl | (simp [*]; done) | (simp_all; done) | (simp_all; omega))
end Go.Proofs.YtcmihlbihppflaaGreat

namespace Go.Proofs.YtcmihlbihppflaaGreat
open Go.Gl
attribute [local irreducible] vcCall AWP RetOk Again ordOk

theorem checkCert1_ok (n : Int) : CallsA Tryz.prog 139 [.int n] [] (.bool (!btw n (-1) 4000)) [] := by
  refine callsA_of tabOk Tryz.func139 rfl rfl 6 Tryz.ntmps139 (by simp) ?_
  repeat' (first | (apply AWP.go ok; rfl; conv => whnf) | (apply ord_mk; kernel_rfl; conv => whnf) | (apply And.intro; (first | omega | (unfold inI; omega) | (dsimp only; omega) | (unfold bitsOk; omega) | ((try dsimp only); simp only [List.length_map, List.length_take, List.length_append, List.length_replicate, List.length_cons, List.length_nil]; omega) | (simp only [btw_iff] at *; first | omega | (unfold inI; omega) | (unfold bitsOk; omega)) | exact stor_map (fun _ => rfl) | exact ⟨rfl, stor_cons rfl stor_nil⟩ | exact ⟨rfl, stor_map (fun _ => rfl) _⟩ | exact ⟨⟨rfl, by omega⟩, stor_map (fun _ => rfl) _⟩); conv => whnf) | (with_reducible apply get_mapN; omega; intro _; conv => whnf) | (with_reducible apply get_mapI; omega; intro _; conv => whnf) | (apply get_mapN; omega; intro _; conv => whnf) | (apply get_fill; omega; conv => whnf) | (apply ex_some; conv => whnf) | (apply get_map; omega; intro _; conv => whnf) | (apply vcG_dec <;> intro _ <;> conv => whnf) | (apply vcG_ndec <;> intro _ <;> conv => whnf) | (apply vcG_not <;> intro _ <;> conv => whnf) | (apply vcG_mk <;> intro _ <;> conv => whnf) | (apply vcIf_dec <;> intro _ <;> conv => whnf) | (apply vcIf_ndec <;> intro _ <;> conv => whnf) | (apply vcIf_not <;> intro _ <;> conv => whnf) | (apply vcIf_mk <;> intro _ <;> conv => whnf) | (apply call_data (in_ok n (-1) 4000); rfl; rfl; conv => whnf))
  exact ret_bool rfl rfl

set_option maxHeartbeats 1600000 in
theorem checkCertificate_ok (g : Graph) (hg : g.mx) (l : List Tree) (hl : Lmx l) (a : Aut) (ha : a.mx) (c : Cert) (hc : c.mx) : CallsA Tryz.prog 90 [.agg g.cs, lst 3 Tree.cs' l, .agg a.cs, .agg c.cs] [] (.bool (certB g l a c)) [] := by
  have hcm := hc
  unfold Cert.mx maxLen at hcm
  have k1 := checked_ok g hg l hl a ha
  by_cases hgl : (glB g l && autB a) = true
  · rw [hgl] at k1
    obtain ⟨hgl, hab⟩ := Bool.and_eq_true_iff.1 hgl
    have hG := (graphB_iff g).1 (by unfold glB at hgl; exact (Bool.and_eq_true_iff.1 hgl).1)
    have hL := LabelsOk.of (by unfold glB at hgl; exact (Bool.and_eq_true_iff.1 hgl).2)
    have hA := autB_iff.1 hab
    have k2 := product_ok g hG l hL a hA
    have kc := containsFunc_int c.ranks hc (fun n => !btw n (-1) 4000) 139 (fun x _ => checkCert1_ok x)
    have hrows := prodRows_lt g hG (g.st.map (letterZ l)) a hA
    have hrowl := prodRows_len g hG (g.st.map (letterZ l)) a hA
    have hrl : (prodRows g (g.st.map (letterZ l)) a).length = g.st.length * a.acc.length := by unfold prodRows; rw [build_length, Nat.mul_comm]
    have ha1 := hA.1
    have hN := mul_bound (a := (g.st.length : Int)) (b := (a.acc.length : Int)) (A := 60) (B := 64) (by omega) (by have := hG.1; omega) (by omega) (by omega)
    have hN2 : ((g.st.length * a.acc.length : Nat) : Int) = (g.st.length : Int) * a.acc.length := by simp
    have hini := hA.2.2.1
    have e : certB g l a c = decide (certP (prodRows g (g.st.map (letterZ l)) a) a.ini a.acc (g.st.length * a.acc.length) c.ranks) := by unfold certB; rw [hgl, hab]; rfl
    rw [e]
    generalize prodRows g (g.st.map (letterZ l)) a = rows at k2 hrows hrl hrowl
    refine callsA_of tabOk Tryz.func90 rfl rfl 104 Tryz.ntmps90 (by simp) ?_
    repeat' (first | (apply AWP.go ok; rfl; conv => whnf) | (apply ord_mk; kernel_rfl; conv => whnf) | (apply And.intro; (first | omega | (unfold inI; omega) | (dsimp only; omega) | (unfold bitsOk; omega) | ((try dsimp only); simp only [List.length_map, List.length_take, List.length_append, List.length_replicate, List.length_cons, List.length_nil]; omega) | (simp only [btw_iff] at *; first | omega | (unfold inI; omega) | (unfold bitsOk; omega)) | exact stor_map (fun _ => rfl) | exact ⟨rfl, stor_cons rfl stor_nil⟩ | exact ⟨rfl, stor_map (fun _ => rfl) _⟩ | exact ⟨⟨rfl, by omega⟩, stor_map (fun _ => rfl) _⟩); conv => whnf) | (with_reducible apply get_mapN; omega; intro _; conv => whnf) | (with_reducible apply get_mapI; omega; intro _; conv => whnf) | (apply get_mapN; omega; intro _; conv => whnf) | (apply get_fill; omega; conv => whnf) | (apply ex_some; conv => whnf) | (apply get_map; omega; intro _; conv => whnf) | (apply vcG_dec <;> intro _ <;> conv => whnf) | (apply vcG_ndec <;> intro _ <;> conv => whnf) | (apply vcG_not <;> intro _ <;> conv => whnf) | (apply vcG_mk <;> intro _ <;> conv => whnf) | (apply vcIf_dec <;> intro _ <;> conv => whnf) | (apply vcIf_ndec <;> intro _ <;> conv => whnf) | (apply vcIf_not <;> intro _ <;> conv => whnf) | (apply vcIf_mk <;> intro _ <;> conv => whnf) | (apply call_data (k1); rfl; rfl; conv => whnf) | (apply call_data (kc); rfl; rfl; conv => whnf) | (apply call_data (k2); rfl; rfl; conv => whnf))
    · rename_i hlen
      exact ret_bool rfl (decide_eq_false fun h => hlen (by rw [h.1]; exact hN2))
    · rename_i hlen hany
      refine ret_bool rfl (decide_eq_false fun h => ?_)
      obtain ⟨x, hx, hb⟩ := List.any_eq_true.1 hany
      have := h.2.1 x hx
      rw [← btw_iff] at this
      rw [this] at hb; simp at hb
    rename_i hlen hany
    have hcl : c.ranks.length = g.st.length * a.acc.length := by omega
    have hrng : ∀ x ∈ c.ranks, -1 ≤ x ∧ x ≤ 4000 := fun x hx => by
      have := List.any_eq_false.1 hany x hx
      rw [← btw_iff]; simpa using this
    have hmod : ∀ k : Nat, (((k : Int) % (a.acc.length : Int)).toNat) = k % a.acc.length := fun k => by omega
    have hmodlt : ∀ k : Nat, k % a.acc.length < a.acc.length := fun k => Nat.mod_lt _ (by omega)
    have hil := hini.le (by omega)
    refine loopA (fun j : Nat => ([(6, .ptr 1 none 0), (7, .ptr 2 none 0), (9, lst 1 encL rows), (48, ints a.ini), (49, .int a.ini.length), (50, .int j)], [.cells 2 [[lst 2 State.cs g.st, lst 1 encL g.nx]], .cells 3 [[lst 1 enI a.ini, lst 1 enB a.acc, lst 4 Trans.cs a.ed]], .cells 1 [[lst 1 enI c.ranks]]])) (fun j => j ≤ a.ini.length ∧ ∀ i (h : i < a.ini.length), i < j → 0 ≤ rk c.ranks a.ini[i]) (fun j => a.ini.length - j) 0 ⟨by omega, fun i h hi => by omega⟩ ⟨[0, 1, 2], rfl, by decide, rfl, by repeat' (first | exact True.intro | exact ⟨rfl, rfl⟩ | apply And.intro), by repeat' (first | exact True.intro | exact obj_box rfl rfl | exact obj_flat (by rfl) (by (first | exact flat_nil | exact flat_replicate rfl | exact flat_map (fun _ => rfl) | exact flat_map Tree.co_flat | (apply flat_append <;> (first | exact flat_replicate rfl | exact flat_map (fun _ => rfl))) | assumption)) | apply And.intro)⟩ ?_
    rintro j ⟨hj1, hj2⟩
    by_cases hjl : j < a.ini.length
    · have hin := (hini j hjl hjl).1
      have hb1 := mul_bound (a := (g.st.length : Int) - 1) (b := (a.acc.length : Int)) (A := 60) (B := 64) (by have := hG.1; omega) (by have := hG.1; omega) (by omega) (by omega)
      rw [Int.sub_mul, Int.one_mul] at hb1
      have hix : a.ini[j].toNat < c.ranks.length := by rw [hcl]; omega
      have hrk : rk c.ranks a.ini[j] = c.ranks[a.ini[j].toNat]'hix := getD_at hix
      repeat' (first | (apply AWP.go ok; rfl; conv => whnf) | (apply ord_mk; kernel_rfl; conv => whnf) | (apply And.intro; (first | omega | (unfold inI; omega) | (dsimp only; omega) | (unfold bitsOk; omega) | ((try dsimp only); simp only [List.length_map, List.length_take, List.length_append, List.length_replicate, List.length_cons, List.length_nil]; omega) | (simp only [btw_iff] at *; first | omega | (unfold inI; omega) | (unfold bitsOk; omega)) | exact stor_map (fun _ => rfl) | exact ⟨rfl, stor_cons rfl stor_nil⟩ | exact ⟨rfl, stor_map (fun _ => rfl) _⟩ | exact ⟨⟨rfl, by omega⟩, stor_map (fun _ => rfl) _⟩); conv => whnf) | (with_reducible apply get_mapN; omega; intro _; conv => whnf) | (with_reducible apply get_mapI; omega; intro _; conv => whnf) | (apply get_mapN; omega; intro _; conv => whnf) | (apply get_fill; omega; conv => whnf) | (apply ex_some; conv => whnf) | (apply get_map; omega; intro _; conv => whnf) | (apply vcG_dec <;> intro _ <;> conv => whnf) | (apply vcG_ndec <;> intro _ <;> conv => whnf) | (apply vcG_not <;> intro _ <;> conv => whnf) | (apply vcG_mk <;> intro _ <;> conv => whnf) | (apply vcIf_dec <;> intro _ <;> conv => whnf) | (apply vcIf_ndec <;> intro _ <;> conv => whnf) | (apply vcIf_not <;> intro _ <;> conv => whnf) | (apply vcIf_mk <;> intro _ <;> conv => whnf))
      · exact ret_bool rfl (decide_eq_false fun h => by have := h.2.2.1 _ (List.getElem_mem hjl); rw [hrk] at this; omega)
      · refine again (j + 1) [0, 1, 2] ⟨by omega, fun i hi hij => ?_⟩ (by omega) ⟨rfl, by decide, rfl, by repeat' (first | exact True.intro | exact ⟨rfl, rfl⟩ | apply And.intro), by repeat' (first | exact True.intro | exact obj_box rfl rfl | exact obj_flat (by rfl) (by (first | exact flat_nil | exact flat_replicate rfl | exact flat_map (fun _ => rfl) | exact flat_map Tree.co_flat | (apply flat_append <;> (first | exact flat_replicate rfl | exact flat_map (fun _ => rfl))) | assumption)) | apply And.intro)⟩
        rcases Nat.lt_or_ge i j with h3 | h3
        · exact hj2 i hi h3
        · obtain rfl : i = j := by omega
          rw [hrk]; omega
      · omega
    repeat' (first | (apply AWP.go ok; rfl; conv => whnf) | (apply ord_mk; kernel_rfl; conv => whnf) | (apply And.intro; (first | omega | (unfold inI; omega) | (dsimp only; omega) | (unfold bitsOk; omega) | ((try dsimp only); simp only [List.length_map, List.length_take, List.length_append, List.length_replicate, List.length_cons, List.length_nil]; omega) | (simp only [btw_iff] at *; first | omega | (unfold inI; omega) | (unfold bitsOk; omega)) | exact stor_map (fun _ => rfl) | exact ⟨rfl, stor_cons rfl stor_nil⟩ | exact ⟨rfl, stor_map (fun _ => rfl) _⟩ | exact ⟨⟨rfl, by omega⟩, stor_map (fun _ => rfl) _⟩); conv => whnf) | (with_reducible apply get_mapN; omega; intro _; conv => whnf) | (with_reducible apply get_mapI; omega; intro _; conv => whnf) | (apply get_mapN; omega; intro _; conv => whnf) | (apply get_fill; omega; conv => whnf) | (apply ex_some; conv => whnf) | (apply get_map; omega; intro _; conv => whnf) | (apply vcG_dec <;> intro _ <;> conv => whnf) | (apply vcG_ndec <;> intro _ <;> conv => whnf) | (apply vcG_not <;> intro _ <;> conv => whnf) | (apply vcG_mk <;> intro _ <;> conv => whnf) | (apply vcIf_dec <;> intro _ <;> conv => whnf) | (apply vcIf_ndec <;> intro _ <;> conv => whnf) | (apply vcIf_not <;> intro _ <;> conv => whnf) | (apply vcIf_mk <;> intro _ <;> conv => whnf))
    all_goals first | (exfalso; omega) | skip
    have hiniR : ∀ x ∈ a.ini, 0 ≤ rk c.ranks x := fun x hx => by
      obtain ⟨i, hi, rfl⟩ := List.mem_iff_getElem.1 hx
      exact hj2 i hi (by omega)
    clear hj1 hj2 hjl
    refine loopA (fun k : Nat => ([(6, .ptr 1 none 0), (7, .ptr 2 none 0), (9, lst 1 encL rows), (62, ints c.ranks), (63, .int c.ranks.length), (64, .int k)], [.cells 2 [[lst 2 State.cs g.st, lst 1 encL g.nx]], .cells 3 [[lst 1 enI a.ini, lst 1 enB a.acc, lst 4 Trans.cs a.ed]], .cells 1 [[lst 1 enI c.ranks]]])) (fun k => k ≤ c.ranks.length ∧ ∀ i (h : i < c.ranks.length), i < k → 0 ≤ c.ranks[i] → nodeP (rows.getD i []) c.ranks c.ranks[i] (a.acc.getD (i % a.acc.length) false)) (fun k => c.ranks.length - k) 0 ⟨by omega, fun i h hi => by omega⟩ ⟨[0, 1, 2], rfl, by decide, rfl, by repeat' (first | exact True.intro | exact ⟨rfl, rfl⟩ | apply And.intro), by repeat' (first | exact True.intro | exact obj_box rfl rfl | exact obj_flat (by rfl) (by (first | exact flat_nil | exact flat_replicate rfl | exact flat_map (fun _ => rfl) | exact flat_map Tree.co_flat | (apply flat_append <;> (first | exact flat_replicate rfl | exact flat_map (fun _ => rfl))) | assumption)) | apply And.intro)⟩ ?_
    rintro k ⟨hk1, hk2⟩
    have hm := hmod k
    have hml := hmodlt k
    by_cases hkl : k < c.ranks.length
    · have hrr : k < rows.length := by omega
      have hkacc : ((k : Int) % (a.acc.length : Int)).toNat < a.acc.length := by omega
      have hacc : a.acc.getD (k % a.acc.length) false = (a.acc[((k : Int) % (a.acc.length : Int)).toNat]'hkacc) := by
        rw [getD_at hml]; simp only [hm]
      have hrw : rows.getD k [] = rows[k] := getD_at hrr
      have hrl2 : rows[k].length ≤ 7372800 := hrowl _ (List.getElem_mem hrr)
      have hxs : ∀ x ∈ rows[k], 0 ≤ x ∧ x < c.ranks.length := fun x hx => by
        have := hrows _ (List.getElem_mem hrr) x hx
        rw [hcl]; exact this
      have hrk := hrng c.ranks[k] (List.getElem_mem hkl)
      have hno : certP rows a.ini a.acc (g.st.length * a.acc.length) c.ranks → 0 ≤ c.ranks[k] → nodeP rows[k] c.ranks c.ranks[k] (a.acc[((k : Int) % (a.acc.length : Int)).toNat]'hkacc) := fun h => by
        have h1 := h.2.2.2 k hkl
        rw [hrw, hacc] at h1
        exact h1
      have hyes : (0 ≤ c.ranks[k] → nodeP rows[k] c.ranks c.ranks[k] (a.acc[((k : Int) % (a.acc.length : Int)).toNat]'hkacc)) → ∀ i (h : i < c.ranks.length), i < k + 1 → 0 ≤ c.ranks[i] → nodeP (rows.getD i []) c.ranks c.ranks[i] (a.acc.getD (i % a.acc.length) false) := fun h i hi hik => by
        rcases Nat.lt_or_ge i k with h3 | h3
        · exact hk2 i hi h3
        · obtain rfl : i = k := by omega
          rw [hrw, hacc]; exact h
      generalize hacd : (a.acc[((k : Int) % (a.acc.length : Int)).toNat]'hkacc) = ac at hno hyes
      repeat' (first | (apply AWP.go ok; rfl; conv => whnf) | (apply ord_mk; kernel_rfl; conv => whnf) | (apply And.intro; (first | omega | (unfold inI; omega) | (dsimp only; omega) | (unfold bitsOk; omega) | ((try dsimp only); simp only [List.length_map, List.length_take, List.length_append, List.length_replicate, List.length_cons, List.length_nil]; omega) | (simp only [btw_iff] at *; first | omega | (unfold inI; omega) | (unfold bitsOk; omega)) | exact stor_map (fun _ => rfl) | exact ⟨rfl, stor_cons rfl stor_nil⟩ | exact ⟨rfl, stor_map (fun _ => rfl) _⟩ | exact ⟨⟨rfl, by omega⟩, stor_map (fun _ => rfl) _⟩); conv => whnf) | (with_reducible apply get_mapN; omega; intro _; conv => whnf) | (with_reducible apply get_mapI; omega; intro _; conv => whnf) | (apply get_mapN; omega; intro _; conv => whnf) | (apply get_fill; omega; conv => whnf) | (apply ex_some; conv => whnf) | (apply get_map; omega; intro _; conv => whnf) | (apply vcG_dec <;> intro _ <;> conv => whnf) | (apply vcG_ndec <;> intro _ <;> conv => whnf) | (apply vcG_not <;> intro _ <;> conv => whnf) | (apply vcG_mk <;> intro _ <;> conv => whnf) | (apply vcIf_dec <;> intro _ <;> conv => whnf) | (apply vcIf_ndec <;> intro _ <;> conv => whnf) | (apply vcIf_not <;> intro _ <;> conv => whnf) | (apply vcIf_mk <;> intro _ <;> conv => whnf))
      all_goals first | (exfalso; omega) | skip
      all_goals (rw [hacd] at *)
      all_goals
        refine loopA (fun j : Nat => ([(6, .ptr 1 none 0), (7, .ptr 2 none 0), (9, lst 1 encL rows), (62, ints c.ranks), (63, .int c.ranks.length), (64, .int k), (14, .int c.ranks[k]), (15, .int (less ac c.ranks[k])), (84, ints rows[k]), (85, .int rows[k].length), (86, .int j)], [.cells 2 [[lst 2 State.cs g.st, lst 1 encL g.nx]], .cells 3 [[lst 1 enI a.ini, lst 1 enB a.acc, lst 4 Trans.cs a.ed]], .cells 1 [[lst 1 enI c.ranks]]])) (fun j => j ≤ rows[k].length ∧ ∀ i (h : i < rows[k].length), i < j → 0 ≤ c.ranks[k] → 0 ≤ rk c.ranks rows[k][i] ∧ rk c.ranks rows[k][i] ≤ less ac c.ranks[k]) (fun j => rows[k].length - j) 0 ⟨by omega, fun i h hi => by omega⟩ ⟨[0, 1, 2], rfl, by decide, rfl, ⟨⟨rfl, rfl⟩, ⟨rfl, rfl⟩, ⟨rfl, rfl⟩, ⟨rfl, rfl⟩, ⟨rfl, rfl⟩, ⟨rfl, rfl⟩, ⟨rfl, rfl⟩, ⟨rfl, by first | (rw [show less ac c.ranks[k] = c.ranks[k] - 1 from if_pos (by assumption)]; rfl) | (rw [show less ac c.ranks[k] = c.ranks[k] from if_neg (by simp [*])]; rfl)⟩, ⟨rfl, rfl⟩, ⟨rfl, rfl⟩, ⟨rfl, rfl⟩, trivial⟩, ⟨obj_box rfl rfl, obj_box rfl rfl, obj_box rfl rfl, trivial⟩⟩ ?_
        rintro j ⟨hj1, hj2⟩
        by_cases hjl : j < rows[k].length
        · have hx := hxs _ (List.getElem_mem hjl)
          have hix : rows[k][j].toNat < c.ranks.length := by omega
          have hrk2 : rk c.ranks rows[k][j] = c.ranks[rows[k][j].toNat]'hix := getD_at hix
          repeat' (first | (apply AWP.go ok; rfl; conv => whnf) | (apply ord_mk; kernel_rfl; conv => whnf) | (apply And.intro; (first | omega | (unfold inI; omega) | (dsimp only; omega) | (unfold bitsOk; omega) | ((try dsimp only); simp only [List.length_map, List.length_take, List.length_append, List.length_replicate, List.length_cons, List.length_nil]; omega) | (simp only [btw_iff] at *; first | omega | (unfold inI; omega) | (unfold bitsOk; omega)) | exact stor_map (fun _ => rfl) | exact ⟨rfl, stor_cons rfl stor_nil⟩ | exact ⟨rfl, stor_map (fun _ => rfl) _⟩ | exact ⟨⟨rfl, by omega⟩, stor_map (fun _ => rfl) _⟩); conv => whnf) | (with_reducible apply get_mapN; omega; intro _; conv => whnf) | (with_reducible apply get_mapI; omega; intro _; conv => whnf) | (apply get_mapN; omega; intro _; conv => whnf) | (apply get_fill; omega; conv => whnf) | (apply ex_some; conv => whnf) | (apply get_map; omega; intro _; conv => whnf) | (apply vcG_dec <;> intro _ <;> conv => whnf) | (apply vcG_ndec <;> intro _ <;> conv => whnf) | (apply vcG_not <;> intro _ <;> conv => whnf) | (apply vcG_mk <;> intro _ <;> conv => whnf) | (apply vcIf_dec <;> intro _ <;> conv => whnf) | (apply vcIf_ndec <;> intro _ <;> conv => whnf) | (apply vcIf_not <;> intro _ <;> conv => whnf) | (apply vcIf_mk <;> intro _ <;> conv => whnf) | (apply call_data (in_ok _ 0 (less ac c.ranks[k])); rfl; rfl; conv => whnf))
          · rename_i hb
            rw [btw_no] at hb
            exact ret_bool rfl (decide_eq_false fun h => hb (by rw [← hrk2]; exact hno h (by assumption) _ (List.getElem_mem hjl)))
          · rename_i hb
            refine again (j + 1) [0, 1, 2] ⟨by omega, fun i hi hij h0 => ?_⟩ (by omega) ⟨rfl, by decide, rfl, by repeat' (first | exact True.intro | exact ⟨rfl, rfl⟩ | apply And.intro), by repeat' (first | exact True.intro | exact obj_box rfl rfl | exact obj_flat (by rfl) (by (first | exact flat_nil | exact flat_replicate rfl | exact flat_map (fun _ => rfl) | exact flat_map Tree.co_flat | (apply flat_append <;> (first | exact flat_replicate rfl | exact flat_map (fun _ => rfl))) | assumption)) | apply And.intro)⟩
            rcases Nat.lt_or_ge i j with h3 | h3
            · exact hj2 i hi h3 h0
            · obtain rfl : i = j := by omega
              rw [hrk2]; exact btw_iff.1 hb
          · refine again (j + 1) [0, 1, 2] ⟨by omega, fun i hi hij h0 => ?_⟩ (by omega) ⟨rfl, by decide, rfl, by repeat' (first | exact True.intro | exact ⟨rfl, rfl⟩ | apply And.intro), by repeat' (first | exact True.intro | exact obj_box rfl rfl | exact obj_flat (by rfl) (by (first | exact flat_nil | exact flat_replicate rfl | exact flat_map (fun _ => rfl) | exact flat_map Tree.co_flat | (apply flat_append <;> (first | exact flat_replicate rfl | exact flat_map (fun _ => rfl))) | assumption)) | apply And.intro)⟩
            exact absurd h0 (by assumption)
          · omega
        · repeat' (first | (apply AWP.go ok; rfl; conv => whnf) | (apply ord_mk; kernel_rfl; conv => whnf) | (apply And.intro; (first | omega | (unfold inI; omega) | (dsimp only; omega) | (unfold bitsOk; omega) | ((try dsimp only); simp only [List.length_map, List.length_take, List.length_append, List.length_replicate, List.length_cons, List.length_nil]; omega) | (simp only [btw_iff] at *; first | omega | (unfold inI; omega) | (unfold bitsOk; omega)) | exact stor_map (fun _ => rfl) | exact ⟨rfl, stor_cons rfl stor_nil⟩ | exact ⟨rfl, stor_map (fun _ => rfl) _⟩ | exact ⟨⟨rfl, by omega⟩, stor_map (fun _ => rfl) _⟩); conv => whnf) | (with_reducible apply get_mapN; omega; intro _; conv => whnf) | (with_reducible apply get_mapI; omega; intro _; conv => whnf) | (apply get_mapN; omega; intro _; conv => whnf) | (apply get_fill; omega; conv => whnf) | (apply ex_some; conv => whnf) | (apply get_map; omega; intro _; conv => whnf) | (apply vcG_dec <;> intro _ <;> conv => whnf) | (apply vcG_ndec <;> intro _ <;> conv => whnf) | (apply vcG_not <;> intro _ <;> conv => whnf) | (apply vcG_mk <;> intro _ <;> conv => whnf) | (apply vcIf_dec <;> intro _ <;> conv => whnf) | (apply vcIf_ndec <;> intro _ <;> conv => whnf) | (apply vcIf_not <;> intro _ <;> conv => whnf) | (apply vcIf_mk <;> intro _ <;> conv => whnf))
          all_goals first | (exfalso; omega) | skip
          refine again (k + 1) [0, 1, 2] ⟨by omega, hyes fun h0 x hx => ?_⟩ (by omega) ⟨rfl, by decide, rfl, by repeat' (first | exact True.intro | exact ⟨rfl, rfl⟩ | apply And.intro), by repeat' (first | exact True.intro | exact obj_box rfl rfl | exact obj_flat (by rfl) (by (first | exact flat_nil | exact flat_replicate rfl | exact flat_map (fun _ => rfl) | exact flat_map Tree.co_flat | (apply flat_append <;> (first | exact flat_replicate rfl | exact flat_map (fun _ => rfl))) | assumption)) | apply And.intro)⟩
          obtain ⟨i, hi, rfl⟩ := List.mem_iff_getElem.1 hx
          exact hj2 i hi (by omega) h0
    · repeat' (first | (apply AWP.go ok; rfl; conv => whnf) | (apply ord_mk; kernel_rfl; conv => whnf) | (apply And.intro; (first | omega | (unfold inI; omega) | (dsimp only; omega) | (unfold bitsOk; omega) | ((try dsimp only); simp only [List.length_map, List.length_take, List.length_append, List.length_replicate, List.length_cons, List.length_nil]; omega) | (simp only [btw_iff] at *; first | omega | (unfold inI; omega) | (unfold bitsOk; omega)) | exact stor_map (fun _ => rfl) | exact ⟨rfl, stor_cons rfl stor_nil⟩ | exact ⟨rfl, stor_map (fun _ => rfl) _⟩ | exact ⟨⟨rfl, by omega⟩, stor_map (fun _ => rfl) _⟩); conv => whnf) | (with_reducible apply get_mapN; omega; intro _; conv => whnf) | (with_reducible apply get_mapI; omega; intro _; conv => whnf) | (apply get_mapN; omega; intro _; conv => whnf) | (apply get_fill; omega; conv => whnf) | (apply ex_some; conv => whnf) | (apply get_map; omega; intro _; conv => whnf) | (apply vcG_dec <;> intro _ <;> conv => whnf) | (apply vcG_ndec <;> intro _ <;> conv => whnf) | (apply vcG_not <;> intro _ <;> conv => whnf) | (apply vcG_mk <;> intro _ <;> conv => whnf) | (apply vcIf_dec <;> intro _ <;> conv => whnf) | (apply vcIf_ndec <;> intro _ <;> conv => whnf) | (apply vcIf_not <;> intro _ <;> conv => whnf) | (apply vcIf_mk <;> intro _ <;> conv => whnf))
      all_goals first | (exfalso; omega) | skip
      exact ret_bool rfl (decide_eq_true ⟨hcl, hrng, hiniR, fun i h => hk2 i h (by omega)⟩)
  · have hgl := (Bool.not_eq_true _).mp hgl
    rw [hgl] at k1
    have e : certB g l a c = false := by unfold certB; rw [hgl]; rfl
    rw [e]
    refine callsA_of tabOk Tryz.func90 rfl rfl 104 Tryz.ntmps90 (by simp) ?_
    repeat' (first | (apply AWP.go ok; rfl; conv => whnf) | (apply ord_mk; kernel_rfl; conv => whnf) | (apply And.intro; (first | omega | (unfold inI; omega) | (dsimp only; omega) | (unfold bitsOk; omega) | ((try dsimp only); simp only [List.length_map, List.length_take, List.length_append, List.length_replicate, List.length_cons, List.length_nil]; omega) | (simp only [btw_iff] at *; first | omega | (unfold inI; omega) | (unfold bitsOk; omega)) | exact stor_map (fun _ => rfl) | exact ⟨rfl, stor_cons rfl stor_nil⟩ | exact ⟨rfl, stor_map (fun _ => rfl) _⟩ | exact ⟨⟨rfl, by omega⟩, stor_map (fun _ => rfl) _⟩); conv => whnf) | (with_reducible apply get_mapN; omega; intro _; conv => whnf) | (with_reducible apply get_mapI; omega; intro _; conv => whnf) | (apply get_mapN; omega; intro _; conv => whnf) | (apply get_fill; omega; conv => whnf) | (apply ex_some; conv => whnf) | (apply get_map; omega; intro _; conv => whnf) | (apply vcG_dec <;> intro _ <;> conv => whnf) | (apply vcG_ndec <;> intro _ <;> conv => whnf) | (apply vcG_not <;> intro _ <;> conv => whnf) | (apply vcG_mk <;> intro _ <;> conv => whnf) | (apply vcIf_dec <;> intro _ <;> conv => whnf) | (apply vcIf_ndec <;> intro _ <;> conv => whnf) | (apply vcIf_not <;> intro _ <;> conv => whnf) | (apply vcIf_mk <;> intro _ <;> conv => whnf) | (apply call_data (k1); rfl; rfl; conv => whnf))
    all_goals (refine ret_bool rfl ?_; first | rfl | (simp [*]; done) | (simp_all; done) | (simp_all; omega))
theorem bud_pos {n : Int} {s : Nat} (h : ¬ bud n s < 0) : bud n s = n - s ∧ (s : Int) ≤ n := by
  unfold bud at h ⊢
  split at h
  · omega
  · rename_i h2; rw [if_neg h2]; omega

end Go.Proofs.YtcmihlbihppflaaGreat

