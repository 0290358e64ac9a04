/- A part of the proofs over this program: T25, T26, T27, T37C, T37, T38, T40, T41, T42, T153. -/
import Derived.Test.YtknlmbniicacmaaGreatG0
import Derived.Test.YtknlmbniicacmaaGreatG1
import Derived.Test.YtknlmbniicacmaaGreatG2
import Derived.Test.YtknlmbniicacmaaGreatG3
import Derived.Test.YtknlmbniicacmaaGreatP0
import Derived.Test.YtknlmbniicacmaaGreatP1
import Derived.Test.YtknlmbniicacmaaGreatP2
import Derived.Test.YtknlmbniicacmaaGreatP3
import Derived.Test.YtknlmbniicacmaaGreatP4
set_option linter.all false
namespace Go.Proofs.YtknlmbniicacmaaGreat
open Go.Gl
attribute [local irreducible] z48 AWP z76 z84 z81

/-- the edges of each state -/
def z100 (a : Aut) : List (List Trans) := z127 a.acc.length (a.ed.map fun e => (e.src.toNat, e))
def encT (r : List Trans) : List AC := [.list 4 r.length (r.map Trans.cs)]
theorem ltr_lt (v : List Int) : ∀ (l : List Tree) (k n : Nat), n < 2 ^ k → ltr v l k n < 2 ^ (k + l.length) := by
  intro l
  induction l with
  | nil => intro k n h; simpa [ltr] using h
  | cons t l ih =>
    intro k n h
    rw [ltr]
    have e : k + (t :: l).length = k + 1 + l.length := by simp only [List.length_cons]; omega
    rw [e]
    refine ih (k + 1) _ ?_
    split
    · rw [Nat.pow_succ]; omega
    · exact or_lt h
theorem letter_range {l : List Tree} (hl : LabelsOk l) (s : State) : 0 ≤ z68 l s ∧ z68 l s ≤ 7 := by
  have := ltr_lt s.b l 0 0 (by decide)
  rw [hl.1] at this
  unfold z68
  have e : (2 : Nat) ^ (0 + 3) = 8 := by decide
  omega

def pE2 (n i q : Nat) (ℓ to : Int) (e : Trans) : List (Nat × Int) := if onB e ℓ then [(i * n + q, to * n + e.dst)] else []
def pTo (n : Nat) (row : List Trans) (i q : Nat) (ℓ to : Int) : List (Nat × Int) := row.flatMap (pE2 n i q ℓ to)
def pQ (n : Nat) (nxi : List Int) (rows : List (List Trans)) (i : Nat) (ℓ : Int) (q : Nat) : List (Nat × Int) := nxi.flatMap (pTo n (rows.getD q []) i q ℓ)
def pI2 (n : Nat) (nx : List (List Int)) (rows : List (List Trans)) (ls : List Int) (i : Nat) : List (Nat × Int) := (List.range n).flatMap (pQ n (nx.getD i []) rows i (ls.getD i 0))
def pS2 (g : Graph) (ls : List Int) (a : Aut) : List (Nat × Int) := (List.range g.st.length).flatMap (pI2 a.acc.length g.nx (z100 a) ls)

theorem edRows_get {a : Aut} {q : Nat} (h : q < a.acc.length) : (z100 a).getD q [] = a.ed.filter (fun e => e.src.toNat == q) := by
  unfold z100
  rw [z50 (by rw [z160]; exact h), buildG_get, List.filter_map, List.map_map]
  exact List.map_id _
theorem range_one {β : Type} {F : Nat → List β} {n q0 : Nat} (hq : q0 < n) (h : ∀ q, q < n → q ≠ q0 → F q = []) : (List.range n).flatMap F = F q0 := by
  have : ∀ m, (List.range m).flatMap F = if q0 < m ∧ m ≤ n then F q0 else if m ≤ n then [] else (List.range m).flatMap F := by
    intro m
    induction m with
    | zero => simp
    | succ m ih =>
      by_cases hm : m + 1 ≤ n
      · rw [List.range_succ, List.flatMap_append, ih, List.flatMap_cons, List.flatMap_nil, List.append_nil]
        by_cases h1 : q0 < m
        · rw [if_pos ⟨h1, by omega⟩, if_pos ⟨by omega, hm⟩, h m (by omega) (by omega), List.append_nil]
        · rw [if_neg (by omega), if_pos (by omega)]
          by_cases h2 : q0 = m
          · subst h2; rw [if_pos ⟨by omega, hm⟩]; rfl
          · rw [if_neg (by omega), if_pos hm, h m (by omega) (by omega)]; rfl
      · rw [if_neg (by omega), if_neg hm]
  rw [this n, if_pos ⟨hq, Nat.le_refl _⟩]
theorem range_none {β : Type} {F : Nat → List β} {n : Nat} (h : ∀ q, q < n → F q = []) : (List.range n).flatMap F = [] := by
  rw [List.flatMap_eq_nil_iff]
  intro q hq
  exact h q (List.mem_range.1 hq)

/-- the program's pushes fill the same rows -/
theorem pS2_rows (g : Graph) (ls : List Int) (a : Aut) (ha : AutP a) (r : Nat) : (pS2 g ls a).filter (fun p => p.1 == r) = (pushS g ls a).filter (fun p => p.1 == r) := by
  unfold pS2 pushS
  rw [List.filter_flatMap, List.filter_flatMap]
  refine flat_congr fun i hi => ?_
  unfold pI2 pushI
  rw [List.filter_flatMap, List.filter_flatMap]
  have hsrc : ∀ e ∈ a.ed, e.src.toNat < a.acc.length := fun e he => by
    have := (ha.2.2.2 e he).1; omega
  by_cases hr : i * a.acc.length ≤ r ∧ r < i * a.acc.length + a.acc.length
  · obtain ⟨q0, rfl⟩ : ∃ q0, r = i * a.acc.length + q0 := ⟨r - i * a.acc.length, by omega⟩
    have hq0 : q0 < a.acc.length := by omega
    rw [range_one hq0 (fun q hq hne => by
      unfold pQ
      rw [List.filter_flatMap]
      refine List.flatMap_eq_nil_iff.2 fun to _ => ?_
      unfold pTo
      rw [List.filter_flatMap]
      refine List.flatMap_eq_nil_iff.2 fun e _ => ?_
      unfold pE2
      split
      · simp; omega
      · rfl)]
    unfold pQ
    rw [List.filter_flatMap, edRows_get hq0]
    refine flat_congr fun to _ => ?_
    unfold pTo pushJ
    rw [List.filter_flatMap, List.filter_flatMap]
    induction a.ed with
    | nil => rfl
    | cons e es ih =>
      rw [List.flatMap_cons, ← ih, List.filter_cons]
      by_cases he : e.src.toNat = q0
      · rw [if_pos (by simpa using he), List.flatMap_cons]
        unfold pE2 pushE
        rw [he]
      · rw [if_neg (by simpa using he)]
        have : (pushE a.acc.length i (ls.getD i 0) to e).filter (fun p => p.1 == i * a.acc.length + q0) = [] := by
          unfold pushE
          split
          · simp; omega
          · rfl
        rw [this, List.nil_append]
  · rw [range_none (fun q hq => by
      unfold pQ
      rw [List.filter_flatMap]
      refine List.flatMap_eq_nil_iff.2 fun to _ => ?_
      unfold pTo
      rw [List.filter_flatMap]
      refine List.flatMap_eq_nil_iff.2 fun e _ => ?_
      unfold pE2
      split
      · simp; omega
      · rfl)]
    symm
    refine List.flatMap_eq_nil_iff.2 fun to _ => ?_
    unfold pushJ
    rw [List.filter_flatMap]
    refine List.flatMap_eq_nil_iff.2 fun e he => ?_
    have := hsrc e he
    unfold pushE
    split
    · simp; omega
    · rfl
theorem pS2_len (g : Graph) (hg : GB g) (ls : List Int) (a : Aut) (ha : AutP a) : (pS2 g ls a).length ≤ 1000000000 := by
  obtain ⟨⟨g1, g2⟩, g3, g4⟩ := hg
  have h2 : ∀ i ∈ List.range g.st.length, (pI2 a.acc.length g.nx (z100 a) ls i).length ≤ 7864320 := fun i hi => by
    rw [List.mem_range] at hi
    unfold pI2
    rw [z50 (l := g.nx) (by omega)]
    have h3 := flat_len (f := pQ a.acc.length g.nx[i] (z100 a) i (ls.getD i 0)) (c := 122880) (List.range a.acc.length) (fun q hq => by
      have h1 : ∀ to, (pTo a.acc.length ((z100 a).getD q []) i q (ls.getD i 0) to).length ≤ 2048 := fun to => by
        have h5 := flat_len (f := pE2 a.acc.length i q (ls.getD i 0) to) (c := 1) ((z100 a).getD q []) (fun e _ => by unfold pE2; split <;> simp)
        rw [edRows_get (List.mem_range.1 hq)] at h5 ⊢
        have := List.length_filter_le (fun e : Trans => e.src.toNat == q) a.ed
        have := ha.2.1
        unfold pTo; omega
      have h3 := flat_len (f := pTo a.acc.length ((z100 a).getD q []) i q (ls.getD i 0)) (c := 2048) g.nx[i] (fun to _ => h1 to)
      have h4 := (g4 i (by omega) (by omega) hi).2.1
      have : g.nx[i].length * 2048 ≤ 60 * 2048 := Nat.mul_le_mul_right _ (by omega)
      unfold pQ; omega)
    rw [List.length_range] at h3
    have : a.acc.length * 122880 ≤ 64 * 122880 := Nat.mul_le_mul_right _ ha.1.2
    omega
  have h5 := flat_len (f := pI2 a.acc.length g.nx (z100 a) ls) (c := 7864320) (List.range g.st.length) h2
  rw [List.length_range] at h5
  have : g.st.length * 7864320 ≤ 60 * 7864320 := Nat.mul_le_mul_right _ (by omega)
  unfold pS2; omega
theorem build_pS2 (g : Graph) (ls : List Int) (a : Aut) (ha : AutP a) : build (g.st.length * a.acc.length) (pS2 g ls a) = z62 g ls a := by
  unfold z62 build
  rw [Nat.mul_comm]
  refine List.map_congr_left fun r _ => ?_
  rw [pS2_rows g ls a ha r]

set_option maxHeartbeats 800000 in
theorem product_new (g : Graph) (hg : GB g) (l : List Tree) (hl : LabelsOk l) (a : Aut) (ha : AutP a) : CallsA Tryz.prog 79 [.agg g.cs, lst 3 Tree.cs' l, .agg a.cs] [] (.tup [.sref 0 0 (g.st.length * a.acc.length), ints a.ini]) [.cells 1 ((z62 g (g.st.map (z68 l)) a).map ownRow)] := by
  have hvals := hg.vals
  have hpl := pushS_len g hg (g.st.map (z68 l)) a ha
  have hini := ha.2.2.1.le (by omega)
  obtain ⟨⟨g1, g2⟩, g3, g4⟩ := hg
  obtain ⟨⟨a1, a2⟩, a3, a4, a5⟩ := ha
  have hN := z131 (a := (g.st.length : Int)) (b := (a.acc.length : Int)) (A := 60) (B := 64) (by omega) (by omega) (by omega) (by omega)
  refine z22 z29 Tryz.func79 rfl rfl 117 Tryz.ntmps79 (by simp) ?_
  repeat' (first | (apply AWP.go ok; rfl; conv => whnf) | (apply And.intro; ((dsimp only; omega)); conv => whnf))
  refine AWP.reach (Gl.Reach.weaken (es' := List.replicate a.acc.length [.own 4 []]) 2 rfl (by rw [List.length_replicate, List.length_replicate]; rfl) rows_weaken rfl) ?_
  conv => whnf
  refine z120 (fun k : Nat => ([(1, lst 3 Tree.cs' l), (3, .ptr 0 none 0), (5, .ptr 1 none 0), (8, .int a.acc.length), (9, .sref 2 0 a.acc.length), (26, lst 4 Trans.cs a.ed), (27, .int a.ed.length), (28, .int k)], [.cells 2 [[lst 2 State.cs g.st, lst 1 encL g.nx]], .cells 3 [[lst 1 enI a.ini, lst 1 enB a.acc, lst 4 Trans.cs a.ed]], .cells 1 ((z127 a.acc.length ((a.ed.take k).map fun e => (e.src.toNat, e))).map (ownG 4 Trans.cs))])) (fun k => k ≤ a.ed.length) (fun k => a.ed.length - k) 0 (by omega)
    ⟨[0, 1, 2], rfl, by decide, rfl, ⟨⟨rfl, rfl⟩, ⟨rfl, rfl⟩, ⟨rfl, rfl⟩, ⟨rfl, rfl⟩, ⟨rfl, rfl⟩, ⟨rfl, rfl⟩, ⟨rfl, rfl⟩, ⟨rfl, rfl⟩, trivial⟩, ⟨z35 rfl rfl, z35 rfl rfl, z70 (z106 (rowsG_nil _ _ _).symm) (z4 fun _ => rfl), trivial⟩⟩ ?_
  intro k hk
  have hN2 : ((g.st.length * a.acc.length : Nat) : Int) = (g.st.length : Int) * a.acc.length := by simp
  repeat' (first | ((fail_if_success apply stopAt 6); (fail_if_success apply z147 6); (fail_if_success apply stopAt 8); (fail_if_success apply z147 8); apply AWP.go ok; rfl; conv => whnf) | (apply And.intro; (omega); conv => whnf) | (with_reducible apply z13; omega; intro _; conv => whnf) | (apply z8 <;> intro _ <;> conv => whnf))
  · have hkl : k < a.ed.length := by assumption
    have he := a5 a.ed[k] (List.getElem_mem hkl)
    unfold edgeP at he
    have hlt : a.ed[k].src.toNat < (z127 a.acc.length ((a.ed.take k).map fun e => (e.src.toNat, e))).length := by rw [z160]; omega
    have hmap : a.ed[k].src.toNat < ((z127 a.acc.length ((a.ed.take k).map fun e => (e.src.toNat, e))).map (ownG 4 Trans.cs)).length := by rw [List.length_map]; exact hlt
    have hrl := buildG_row_le hlt
    rw [List.length_map, List.length_take] at hrl
    refine AWP.reach (Gl.Reach.expose (e := ownG 4 Trans.cs (z127 a.acc.length ((a.ed.take k).map fun e => (e.src.toNat, e)))[a.ed[k].src.toNat]) 2 a.ed[k].src.toNat 0 rfl (by rw [List.getElem?_map, List.getElem?_eq_getElem hlt]; rfl) rfl (leaf_map (fun _ => rfl) _) rfl) ?_
    conv => whnf
    (apply AWP.go ok; rfl; conv => whnf)
    repeat' (first | (apply z38; kernel_rfl; conv => whnf) | (apply get_set; exact Nat.add_zero _; exact hmap; conv => whnf) | (apply And.intro; (first | omega | ((try dsimp only); simp only [List.length_map, List.length_take, List.length_append, List.length_replicate, List.length_cons, List.length_nil]; omega) | exact ⟨rfl, z21 rfl z26⟩); conv => whnf))
    refine AWP.reach (Gl.Reach.absorb 2 6 a.ed[k].src.toNat 0 rfl (getset (Nat.add_zero _) (by rw [List.length_set]; exact hmap)) rfl rfl (by simp) rfl (z11 (fun e he => (z4 (fun _ => rfl)) e (List.mem_of_mem_take he)) (z54 rfl z12)) rfl) ?_
    conv => whnf
    repeat' (first | ((fail_if_success apply stopAt 6); (fail_if_success apply z147 6); (fail_if_success apply stopAt 8); (fail_if_success apply z147 8); apply AWP.go ok; rfl; conv => whnf) | (apply And.intro; ((unfold inI; omega)); conv => whnf))
    refine z116 (k + 1) [0, 1, 2] (by omega) (by omega)
      ⟨rfl, by decide, rfl, ⟨⟨rfl, rfl⟩, ⟨rfl, rfl⟩, ⟨rfl, rfl⟩, ⟨rfl, rfl⟩, ⟨rfl, rfl⟩, ⟨rfl, rfl⟩, ⟨rfl, rfl⟩, ⟨rfl, rfl⟩, trivial⟩, ⟨z35 rfl rfl, z35 rfl rfl, z70 (z106 ?_) (z4 fun _ => rfl), trivial⟩⟩
    have e1 : ((a.ed.take (k + 1)).map fun e => (e.src.toNat, e)) = ((a.ed.take k).map fun e => (e.src.toNat, e)) ++ [(a.ed[k].src.toNat, a.ed[k])] := by
      rw [List.take_succ_eq_append_getElem hkl, List.map_append]; rfl
    rw [e1]
    exact rowsG_push hlt (Nat.add_zero _) (by simp) rfl
  obtain rfl : k = a.ed.length := by omega
  refine AWP.reach (SealL.reach (π := [0, 1]) (Bn := [2]) (env := [(1, lst 3 Tree.cs' l), (3, .ptr 0 none 0), (5, .ptr 1 none 0), (8, .int a.acc.length), (9, lst 1 encT (z100 a))]) (objs := [.cells 2 [[lst 2 State.cs g.st, lst 1 encL g.nx]], .cells 3 [[lst 1 enI a.ini, lst 1 enB a.acc, lst 4 Trans.cs a.ed]]]) ⟨rfl, rfl, by simp, rfl, by intro o ho; simp at ho; rcases ho with rfl | rfl <;> rfl, ⟨rfl, rfl, rfl, rfl, ?_, trivial⟩, rfl⟩) ?_
  · show bor _ _ _ (.sref 2 0 a.acc.length) = _
    rw [bor_full (w := 1) (es := (z127 a.acc.length ((a.ed.take a.ed.length).map fun e => (e.src.toNat, e))).map (ownG 4 Trans.cs)) rfl rfl rfl (by rw [List.length_map, z160]), rowsG_unown (fun t => Trans.unown t), List.take_length]
    unfold lst z100
    rw [z160]; rfl
  conv => whnf
  repeat' (first | (apply AWP.go ok; rfl; conv => whnf) | (apply And.intro; (first | (unfold inI; omega) | (dsimp only; omega)); conv => whnf) | (apply z10 (label_ok g hvals g2 l hl); rfl; rfl; conv => whnf))
  refine AWP.reach (Gl.Reach.weaken (es' := List.replicate (g.st.length * a.acc.length) [.own 1 []]) 2 rfl (by rw [List.length_replicate, List.length_replicate]; rfl) rows_weaken rfl) ?_
  conv => whnf
  have hls : (g.st.map (z68 l)).length = g.st.length := by simp
  have hlr : ∀ x ∈ g.st.map (z68 l), 0 ≤ x ∧ x ≤ 7 := fun x hx => by
    obtain ⟨s, _, rfl⟩ := List.mem_map.1 hx
    exact letter_range hl s
  rw [← build_pS2 g _ a ⟨⟨a1, a2⟩, a3, a4, a5⟩]
  have hpl2 := pS2_len g ⟨⟨g1, g2⟩, g3, g4⟩ (g.st.map (z68 l)) a ⟨⟨a1, a2⟩, a3, a4, a5⟩
  generalize hlsd : g.st.map (z68 l) = ls at hls hlr hpl hpl2
  have hrow : ∀ i (hi : i < g.nx.length), ∀ x ∈ g.nx[i], 0 ≤ x ∧ x ≤ g.st.length - 1 := fun i hi x hx => by
    obtain ⟨j, hj, rfl⟩ := List.mem_iff_getElem.1 hx
    exact ((g4 i hi hi (by omega)).2.2.2 j hj hj).1
  have hlen : ∀ i (hi : i < g.nx.length), g.nx[i].length ≤ 60 := fun i hi => by
    have := (g4 i hi hi (by omega)).2.1; omega
  have hel : (z100 a).length = a.acc.length := z160 _ _
  have hed : ∀ q (hq : q < (z100 a).length), ∀ e ∈ (z100 a)[q], e ∈ a.ed := fun q hq e he => by
    rw [← z50 (d := []) hq, edRows_get (by omega)] at he; exact (List.mem_filter.1 he).1
  have hedl : ∀ q (hq : q < (z100 a).length), (z100 a)[q].length ≤ 2048 := fun q hq => by
    rw [← z50 (d := []) hq, edRows_get (by omega)]; exact Nat.le_trans (List.length_filter_le _ _) a3
  refine z120 (fun x : Nat × List (Nat × Int) => ([(3, .ptr 0 none 0), (5, .ptr 1 none 0), (8, .int a.acc.length), (9, lst 1 encT (z100 a)), (12, .sref 2 0 (g.st.length * a.acc.length)), (53, ints ls), (54, .int ls.length), (55, .int x.1)], [.cells 2 [[lst 2 State.cs g.st, lst 1 encL g.nx]], .cells 3 [[lst 1 enI a.ini, lst 1 enB a.acc, lst 4 Trans.cs a.ed]], .cells 1 ((build (g.st.length * a.acc.length) x.2).map ownRow)])) (fun x => x.1 ≤ ls.length ∧ x.2 ++ ((List.range g.st.length).drop x.1).flatMap (pI2 a.acc.length g.nx (z100 a) ls) = pS2 g ls a) (fun x => ls.length - x.1) (0, []) ⟨by omega, rfl⟩
    ⟨[0, 1, 2], rfl, by decide, rfl, ⟨⟨rfl, by rfl⟩, ⟨rfl, by rfl⟩, ⟨rfl, by rfl⟩, ⟨rfl, by rfl⟩, ⟨rfl, by rfl⟩, ⟨rfl, by rfl⟩, ⟨rfl, by rfl⟩, ⟨rfl, by rfl⟩, trivial⟩, ⟨z35 rfl rfl, z35 rfl rfl, z70 (z106 (rows_nil _).symm) (z4 fun _ => rfl), trivial⟩⟩ ?_
  rintro ⟨i, ps⟩ ⟨hi1, hi2⟩
  dsimp only at hi1 hi2 ⊢
  repeat' (first | (apply AWP.go ok; rfl; conv => whnf) | (apply And.intro; (omega); conv => whnf) | (with_reducible apply z13; omega; intro _; conv => whnf) | (apply z8 <;> intro _ <;> conv => whnf))
  · have hig : i < g.st.length := by omega
    rw [drop_flat _ _ _ (by simpa using hig), List.getElem_range] at hi2
    have hin : i < g.nx.length := by omega
    have hrow := hrow i hin
    have hlen := hlen i hin
    have hil : i < ls.length := by omega
    have hli := hlr ls[i] (List.getElem_mem _)
    have hpI : pI2 a.acc.length g.nx (z100 a) ls i = (List.range a.acc.length).flatMap (pQ a.acc.length g.nx[i] (z100 a) i ls[i]) := by
      unfold pI2
      rw [z50 (l := g.nx) hin, z50 (l := ls) hil]
    rw [hpI] at hi2
    have hm1 := z131 (a := (i : Int)) (b := (a.acc.length : Int)) (A := 60) (B := 64) (by omega) (by omega) (by omega) (by omega)
    refine z120 (fun x : Nat × List (Nat × Int) => ([(3, .ptr 0 none 0), (5, .ptr 1 none 0), (8, .int a.acc.length), (9, lst 1 encT (z100 a)), (12, .sref 2 0 (g.st.length * a.acc.length)), (53, ints ls), (54, .int ls.length), (55, .int i), (13, .int i), (14, .int ls[i]), (60, .int a.acc.length), (61, .int x.1)], [.cells 2 [[lst 2 State.cs g.st, lst 1 encL g.nx]], .cells 3 [[lst 1 enI a.ini, lst 1 enB a.acc, lst 4 Trans.cs a.ed]], .cells 1 ((build (g.st.length * a.acc.length) x.2).map ownRow)])) (fun x => x.1 ≤ a.acc.length ∧ x.2 ++ (((List.range a.acc.length).drop x.1).flatMap (pQ a.acc.length g.nx[i] (z100 a) i ls[i]) ++ ((List.range g.st.length).drop (i + 1)).flatMap (pI2 a.acc.length g.nx (z100 a) ls)) = pS2 g ls a) (fun x => a.acc.length - x.1) (0, ps) ⟨by omega, hi2⟩
      ⟨[0, 1, 2], rfl, by decide, rfl, ⟨⟨rfl, rfl⟩, ⟨rfl, rfl⟩, ⟨rfl, rfl⟩, ⟨rfl, rfl⟩, ⟨rfl, rfl⟩, ⟨rfl, rfl⟩, ⟨rfl, rfl⟩, ⟨rfl, rfl⟩, ⟨rfl, rfl⟩, ⟨rfl, rfl⟩, ⟨rfl, rfl⟩, ⟨rfl, rfl⟩, trivial⟩, ⟨z35 rfl rfl, z35 rfl rfl, z70 rfl (z4 fun _ => rfl), trivial⟩⟩ ?_
    rintro ⟨q, ps⟩ ⟨hq1, hq2⟩
    dsimp only at hq1 hq2 ⊢
    repeat' (first | (apply AWP.go ok; rfl; conv => whnf) | (apply And.intro; (first | omega | (unfold inI; omega)); conv => whnf) | (with_reducible apply z13; omega; intro _; conv => whnf) | (apply z8 <;> intro _ <;> conv => whnf))
    · have hqn : q < a.acc.length := by omega
      rw [drop_flat _ _ _ (by simpa using hqn), List.getElem_range, List.append_assoc] at hq2
      have hqe : q < (z100 a).length := by omega
      have hpQ : pQ a.acc.length g.nx[i] (z100 a) i ls[i] q = g.nx[i].flatMap (pTo a.acc.length (z100 a)[q] i q ls[i]) := by
        unfold pQ; rw [z50 hqe]
      rw [hpQ] at hq2
      have hedl := hedl q hqe
      have hlt : i * a.acc.length + q < g.st.length * a.acc.length := by
        have h1 : (i + 1) * a.acc.length ≤ g.st.length * a.acc.length := Nat.mul_le_mul_right _ hig
        rw [Nat.add_mul, Nat.one_mul] at h1
        omega
      refine z120 (fun x : Nat × List (Nat × Int) => ([(3, .ptr 0 none 0), (5, .ptr 1 none 0), (8, .int a.acc.length), (9, lst 1 encT (z100 a)), (12, .sref 2 0 (g.st.length * a.acc.length)), (53, ints ls), (54, .int ls.length), (55, .int i), (13, .int i), (14, .int ls[i]), (60, .int a.acc.length), (61, .int q), (15, .int q), (68, ints g.nx[i]), (69, .int g.nx[i].length), (70, .int x.1)], [.cells 2 [[lst 2 State.cs g.st, lst 1 encL g.nx]], .cells 3 [[lst 1 enI a.ini, lst 1 enB a.acc, lst 4 Trans.cs a.ed]], .cells 1 ((build (g.st.length * a.acc.length) x.2).map ownRow)])) (fun x => x.1 ≤ g.nx[i].length ∧ x.2 ++ ((g.nx[i].drop x.1).flatMap (pTo a.acc.length (z100 a)[q] i q ls[i]) ++ (((List.range a.acc.length).drop (q + 1)).flatMap (pQ a.acc.length g.nx[i] (z100 a) i ls[i]) ++ ((List.range g.st.length).drop (i + 1)).flatMap (pI2 a.acc.length g.nx (z100 a) ls))) = pS2 g ls a) (fun x => g.nx[i].length - x.1) (0, ps) ⟨by omega, hq2⟩
        ⟨[0, 1, 2], rfl, by decide, rfl, ⟨⟨rfl, rfl⟩, ⟨rfl, rfl⟩, ⟨rfl, rfl⟩, ⟨rfl, rfl⟩, ⟨rfl, rfl⟩, ⟨rfl, rfl⟩, ⟨rfl, rfl⟩, ⟨rfl, rfl⟩, ⟨rfl, rfl⟩, ⟨rfl, rfl⟩, ⟨rfl, rfl⟩, ⟨rfl, rfl⟩, ⟨rfl, rfl⟩, ⟨rfl, rfl⟩, ⟨rfl, rfl⟩, ⟨rfl, rfl⟩, trivial⟩, ⟨z35 rfl rfl, z35 rfl rfl, z70 rfl (z4 fun _ => rfl), trivial⟩⟩ ?_
      rintro ⟨j, ps⟩ ⟨hj1, hj2⟩
      dsimp only at hj1 hj2 ⊢
      repeat' (first | (apply AWP.go ok; rfl; conv => whnf) | (apply And.intro; (first | omega | (unfold inI; omega)); conv => whnf) | (with_reducible apply z13; omega; intro _; conv => whnf) | (apply z8 <;> intro _ <;> conv => whnf))
      · have hjn : j < g.nx[i].length := by omega
        rw [drop_flat _ _ _ hjn, List.append_assoc] at hj2
        have hto := hrow g.nx[i][j] (List.getElem_mem _)
        have hm2 := z131 (a := g.nx[i][j]) (b := (a.acc.length : Int)) (A := 60) (B := 64) (by omega) (by omega) (by omega) (by omega)
        refine z120 (fun x : Nat × List (Nat × Int) => ([(3, .ptr 0 none 0), (5, .ptr 1 none 0), (8, .int a.acc.length), (9, lst 1 encT (z100 a)), (12, .sref 2 0 (g.st.length * a.acc.length)), (53, ints ls), (54, .int ls.length), (55, .int i), (13, .int i), (14, .int ls[i]), (60, .int a.acc.length), (61, .int q), (15, .int q), (68, ints g.nx[i]), (69, .int g.nx[i].length), (70, .int j), (17, .int g.nx[i][j]), (77, lst 4 Trans.cs (z100 a)[q]), (78, .int (z100 a)[q].length), (79, .int x.1)], [.cells 2 [[lst 2 State.cs g.st, lst 1 encL g.nx]], .cells 3 [[lst 1 enI a.ini, lst 1 enB a.acc, lst 4 Trans.cs a.ed]], .cells 1 ((build (g.st.length * a.acc.length) x.2).map ownRow)])) (fun x => x.1 ≤ (z100 a)[q].length ∧ x.2 ++ (((z100 a)[q].drop x.1).flatMap (pE2 a.acc.length i q ls[i] g.nx[i][j]) ++ ((g.nx[i].drop (j + 1)).flatMap (pTo a.acc.length (z100 a)[q] i q ls[i]) ++ (((List.range a.acc.length).drop (q + 1)).flatMap (pQ a.acc.length g.nx[i] (z100 a) i ls[i]) ++ ((List.range g.st.length).drop (i + 1)).flatMap (pI2 a.acc.length g.nx (z100 a) ls)))) = pS2 g ls a) (fun x => (z100 a)[q].length - x.1) (0, ps) ⟨by omega, hj2⟩
          ⟨[0, 1, 2], rfl, by decide, rfl, ⟨⟨rfl, rfl⟩, ⟨rfl, rfl⟩, ⟨rfl, rfl⟩, ⟨rfl, rfl⟩, ⟨rfl, rfl⟩, ⟨rfl, rfl⟩, ⟨rfl, rfl⟩, ⟨rfl, rfl⟩, ⟨rfl, rfl⟩, ⟨rfl, rfl⟩, ⟨rfl, rfl⟩, ⟨rfl, rfl⟩, ⟨rfl, rfl⟩, ⟨rfl, rfl⟩, ⟨rfl, rfl⟩, ⟨rfl, rfl⟩, ⟨rfl, rfl⟩, ⟨rfl, rfl⟩, ⟨rfl, rfl⟩, ⟨rfl, rfl⟩, trivial⟩, ⟨z35 rfl rfl, z35 rfl rfl, z70 rfl (z4 fun _ => rfl), trivial⟩⟩ ?_
        rintro ⟨k, ps⟩ ⟨hk1, hk2⟩
        dsimp only at hk1 hk2 ⊢
        by_cases hke : k < (z100 a)[q].length
        · have he := a5 (z100 a)[q][k] (hed q hqe _ (List.getElem_mem hke))
          unfold edgeP at he
          have hlt' : i * a.acc.length + q < (build (g.st.length * a.acc.length) ps).length := by rw [z119]; exact hlt
          have hmap : i * a.acc.length + q < ((build (g.st.length * a.acc.length) ps).map ownRow).length := by rw [List.length_map]; exact hlt'
          have hrl : (build (g.st.length * a.acc.length) ps)[i * a.acc.length + q].length ≤ 1000000000 := by
            have h1 := build_row_le (N := g.st.length * a.acc.length) (ps := ps) hlt'
            have h2 := congrArg List.length hk2
            rw [List.length_append] at h2
            omega
          have hix : ((i : Int) * a.acc.length + q).toNat = i * a.acc.length + q := by
            have e : ((i * a.acc.length : Nat) : Int) = (i : Int) * a.acc.length := by simp
            omega
          have hlt2 : ((i : Int) * a.acc.length + q).toNat < g.st.length * a.acc.length := by rw [hix]; exact hlt
          rw [drop_flat _ _ _ hke] at hk2
          repeat' (first | ((fail_if_success apply stopAt 22); (fail_if_success apply z147 22); apply AWP.go ok; rfl; conv => whnf) | (apply And.intro; (first | omega | (unfold inI; omega)); conv => whnf) | (with_reducible apply z13; omega; intro _; conv => whnf) | (apply z8 <;> intro _ <;> conv => whnf) | (apply z10 (takes_ok (z100 a)[q][k] ls[i] hli.1 hli.2 he.2.2.1); rfl; rfl; conv => whnf))
          · have hon : ((ls[i].toNat &&& (z100 a)[q][k].care.toNat : Nat) : Int) = (z100 a)[q][k].val := by assumption
            refine AWP.reach (Gl.Reach.expose (e := ownRow (build (g.st.length * a.acc.length) ps)[i * a.acc.length + q]) 2 (i * a.acc.length + q) 0 rfl (by rw [List.getElem?_map, List.getElem?_eq_getElem hlt']; rfl) rfl (leaf_map (fun _ => rfl) _) rfl) ?_
            conv => whnf
            (apply AWP.go ok; rfl; conv => whnf)
            repeat' (first | (apply z38; kernel_rfl; conv => whnf) | (apply get_set; exact hix; exact hmap; conv => whnf) | (apply And.intro; (first | omega | (unfold inI; omega) | ((try dsimp only); simp only [List.length_map, List.length_take, List.length_append, List.length_replicate, List.length_cons, List.length_nil]; omega) | exact ⟨rfl, z21 rfl z26⟩); conv => whnf))
            refine AWP.reach (Gl.Reach.absorb 2 6 (i * a.acc.length + q) 0 rfl (getset hix (by rw [List.length_set]; exact hmap)) rfl rfl (by simp) rfl (z11 (fun e he => (z4 (fun _ => rfl)) e (List.mem_of_mem_take he)) (z54 rfl z12)) rfl) ?_
            conv => whnf
            repeat' (first | (apply AWP.go ok; rfl; conv => whnf) | (apply And.intro; ((unfold inI; omega)); conv => whnf))
            have hpe : pE2 a.acc.length i q ls[i] g.nx[i][j] (z100 a)[q][k] = [(i * a.acc.length + q, g.nx[i][j] * a.acc.length + (z100 a)[q][k].dst)] := by
              unfold pE2 onB; rw [if_pos (decide_eq_true hon)]
            rw [hpe, List.append_assoc, ← List.append_assoc] at hk2
            exact z116 (k + 1, ps ++ [(i * a.acc.length + q, g.nx[i][j] * a.acc.length + (z100 a)[q][k].dst)]) [0, 1, 2] ⟨by dsimp only; omega, hk2⟩ (by dsimp only; omega) ⟨rfl, by decide, rfl, ⟨⟨rfl, rfl⟩, ⟨rfl, rfl⟩, ⟨rfl, rfl⟩, ⟨rfl, rfl⟩, ⟨rfl, rfl⟩, ⟨rfl, rfl⟩, ⟨rfl, rfl⟩, ⟨rfl, rfl⟩, ⟨rfl, rfl⟩, ⟨rfl, rfl⟩, ⟨rfl, rfl⟩, ⟨rfl, rfl⟩, ⟨rfl, rfl⟩, ⟨rfl, rfl⟩, ⟨rfl, rfl⟩, ⟨rfl, rfl⟩, ⟨rfl, rfl⟩, ⟨rfl, rfl⟩, ⟨rfl, rfl⟩, ⟨rfl, rfl⟩, trivial⟩, ⟨z35 rfl rfl, z35 rfl rfl, z70 (z106 (rows_push' hlt' hix (by simp))) (z4 fun _ => rfl), trivial⟩⟩
          · have hon : ¬ ((ls[i].toNat &&& (z100 a)[q][k].care.toNat : Nat) : Int) = (z100 a)[q][k].val := by assumption
            have hpe : pE2 a.acc.length i q ls[i] g.nx[i][j] (z100 a)[q][k] = [] := by
              unfold pE2 onB; rw [if_neg (by simpa using hon)]
            rw [hpe, List.nil_append] at hk2
            exact z116 (k + 1, ps) [0, 1, 2] ⟨by dsimp only; omega, hk2⟩ (by dsimp only; omega) ⟨rfl, by decide, rfl, ⟨⟨rfl, rfl⟩, ⟨rfl, rfl⟩, ⟨rfl, rfl⟩, ⟨rfl, rfl⟩, ⟨rfl, rfl⟩, ⟨rfl, rfl⟩, ⟨rfl, rfl⟩, ⟨rfl, rfl⟩, ⟨rfl, rfl⟩, ⟨rfl, rfl⟩, ⟨rfl, rfl⟩, ⟨rfl, rfl⟩, ⟨rfl, rfl⟩, ⟨rfl, rfl⟩, ⟨rfl, rfl⟩, ⟨rfl, rfl⟩, ⟨rfl, rfl⟩, ⟨rfl, rfl⟩, ⟨rfl, rfl⟩, ⟨rfl, rfl⟩, trivial⟩, ⟨z35 rfl rfl, z35 rfl rfl, z70 rfl (z4 fun _ => rfl), trivial⟩⟩
          · omega
        · repeat' (first | ((fail_if_success apply stopAt 22); (fail_if_success apply z147 22); apply AWP.go ok; rfl; conv => whnf) | (apply And.intro; (first | omega | (unfold inI; omega)); conv => whnf) | (with_reducible apply z13; omega; intro _; conv => whnf) | (apply z8 <;> intro _ <;> conv => whnf))
          · omega
          · rw [z129 _ _ _ (by omega), List.nil_append] at hk2
            exact z116 (j + 1, ps) [0, 1, 2] ⟨by dsimp only; omega, hk2⟩ (by dsimp only; omega) ⟨rfl, by decide, rfl, ⟨⟨rfl, rfl⟩, ⟨rfl, rfl⟩, ⟨rfl, rfl⟩, ⟨rfl, rfl⟩, ⟨rfl, rfl⟩, ⟨rfl, rfl⟩, ⟨rfl, rfl⟩, ⟨rfl, rfl⟩, ⟨rfl, rfl⟩, ⟨rfl, rfl⟩, ⟨rfl, rfl⟩, ⟨rfl, rfl⟩, ⟨rfl, rfl⟩, ⟨rfl, rfl⟩, ⟨rfl, rfl⟩, ⟨rfl, rfl⟩, trivial⟩, ⟨z35 rfl rfl, z35 rfl rfl, z70 rfl (z4 fun _ => rfl), trivial⟩⟩
      · rw [z129 _ _ _ (by omega), List.nil_append] at hj2
        exact z116 (q + 1, ps) [0, 1, 2] ⟨by dsimp only; omega, hj2⟩ (by dsimp only; omega) ⟨rfl, by decide, rfl, ⟨⟨rfl, rfl⟩, ⟨rfl, rfl⟩, ⟨rfl, rfl⟩, ⟨rfl, rfl⟩, ⟨rfl, rfl⟩, ⟨rfl, rfl⟩, ⟨rfl, rfl⟩, ⟨rfl, rfl⟩, ⟨rfl, rfl⟩, ⟨rfl, rfl⟩, ⟨rfl, rfl⟩, ⟨rfl, rfl⟩, trivial⟩, ⟨z35 rfl rfl, z35 rfl rfl, z70 rfl (z4 fun _ => rfl), trivial⟩⟩
    · rw [z129 _ _ _ (by simp; omega), List.nil_append] at hq2
      exact z116 (i + 1, ps) [0, 1, 2] ⟨by dsimp only; omega, hq2⟩ (by dsimp only; omega) ⟨rfl, by decide, rfl, ⟨⟨rfl, rfl⟩, ⟨rfl, rfl⟩, ⟨rfl, rfl⟩, ⟨rfl, rfl⟩, ⟨rfl, rfl⟩, ⟨rfl, rfl⟩, ⟨rfl, rfl⟩, ⟨rfl, rfl⟩, trivial⟩, ⟨z35 rfl rfl, z35 rfl rfl, z70 rfl (z4 fun _ => rfl), trivial⟩⟩
  · rw [z129 _ _ _ (by simp; omega), List.append_nil] at hi2
    subst hi2
    repeat' (first | (apply AWP.go ok; rfl; conv => whnf) | (apply z10 (implClone_ok a.ini (by omega)); rfl; rfl; conv => whnf))
    exact z140 [2] (by decide) rfl rfl rfl ⟨z70 rfl (z4 fun _ => rfl), trivial⟩
end Go.Proofs.YtknlmbniicacmaaGreat

namespace Go.Proofs.YtknlmbniicacmaaGreat
open Go.Gl
attribute [local irreducible] z48 AWP z76 z84 z81

theorem product_ok (g : Graph) (hg : GB g) (l : List Tree) (hl : LabelsOk l) (a : Aut) (ha : AutP a) : CallsA Tryz.prog 79 [.agg g.cs, lst 3 Tree.cs' l, .agg a.cs] [] (.tup [lst 1 encL (z62 g (g.st.map (z68 l)) a), ints a.ini]) [] := by
  have h := product_new g hg l hl a ha
  have hlen : (z62 g (g.st.map (z68 l)) a).length = g.st.length * a.acc.length := by unfold z62; rw [z119, Nat.mul_comm]
  refine h.lend [] [0] rfl rfl rfl ?_ z6
  show AC.tup [bor _ _ _ (.sref 0 0 _), bor _ _ _ (ints a.ini)] = _
  rw [bor_full (w := 1) (es := (z62 g (g.st.map (z68 l)) a).map ownRow) rfl rfl rfl (by rw [List.length_map]; exact hlen), z47, ← hlen]
  rfl

/-- nodes lead to nodes -/
theorem prodRows_lt (g : Graph) (hg : GB g) (ls : List Int) (a : Aut) (ha : AutP a) : ∀ row ∈ z62 g ls a, ∀ x ∈ row, 0 ≤ x ∧ x < ((g.st.length * a.acc.length : Nat) : Int) := by
  intro row hrow x hx
  unfold z62 build at hrow
  obtain ⟨r, _, rfl⟩ := List.mem_map.1 hrow
  obtain ⟨⟨p, v⟩, hp, rfl⟩ := List.mem_map.1 hx
  have hp := (List.mem_filter.1 hp).1
  unfold pushS at hp
  obtain ⟨i, hi, hp⟩ := List.mem_flatMap.1 hp
  rw [List.mem_range] at hi
  unfold pushI at hp
  obtain ⟨to, hto, hp⟩ := List.mem_flatMap.1 hp
  unfold pushJ at hp
  obtain ⟨e, he, hp⟩ := List.mem_flatMap.1 hp
  have hin : i < g.nx.length := by have := hg.2.1; omega
  rw [z50 hin] at hto
  obtain ⟨j, hj, rfl⟩ := List.mem_iff_getElem.1 hto
  have h1 := ((hg.2.2 i hin hin hi).2.2.2 j hj hj).1
  have h2 := (ha.2.2.2 e he).2.1
  unfold pushE at hp
  split at hp
  · simp only [List.mem_singleton, Prod.mk.injEq] at hp
    obtain ⟨_, rfl⟩ := hp
    have h3 : 0 ≤ g.nx[i][j] * (a.acc.length : Int) := Int.mul_nonneg h1.1 (by omega)
    have h4 : (g.nx[i][j] + 1) * (a.acc.length : Int) ≤ g.st.length * a.acc.length := Int.mul_le_mul_of_nonneg_right (by omega) (by omega)
    rw [Int.add_mul, Int.one_mul] at h4
    have e : ((g.st.length * a.acc.length : Nat) : Int) = (g.st.length : Int) * a.acc.length := by simp
    rw [e]
    dsimp only
    omega
  · simp at hp

theorem prodRows_len (g : Graph) (hg : GB g) (ls : List Int) (a : Aut) (ha : AutP a) : ∀ row ∈ z62 g ls a, row.length ≤ 7372800 := by
  intro row hrow
  obtain ⟨i, hi, rfl⟩ := List.mem_iff_getElem.1 hrow
  exact Nat.le_trans (build_row_le (N := a.acc.length * g.st.length) (ps := pushS g ls a) hi) (pushS_len g hg ls a ha)

def rk (ranks : List Int) (x : Int) : Int := ranks.getD x.toNat 0
def less (acc : Bool) (r : Int) : Int := if acc then r - 1 else r
def nodeP (row ranks : List Int) (rank : Int) (acc : Bool) : Prop := ∀ x ∈ row, 0 ≤ rk ranks x ∧ rk ranks x ≤ less acc rank
instance {row ranks : List Int} {rank : Int} {acc : Bool} : Decidable (nodeP row ranks rank acc) := by unfold nodeP; infer_instance

theorem l9Node_ok (row ranks : List Int) (rank : Int) (acc : Bool) (hr : row.length ≤ maxLen) (hb : ∀ x ∈ row, 0 ≤ x ∧ x < ranks.length) : CallsA Tryz.prog 83 [ints row, ints ranks, .int rank, .bool acc] [] (.bool (decide (nodeP row ranks rank acc))) [] := by
  unfold maxLen at hr
  refine z22 z29 Tryz.func83 rfl rfl 39 Tryz.ntmps83 (by simp) ?_
  repeat' ((apply AWP.go ok; rfl; conv => whnf))
  refine z120 (fun k : Nat => ([(0, ints row), (1, ints ranks), (2, .int rank), (3, .bool acc), (9, .int k)], [])) (fun k => k ≤ row.length ∧ ∀ i (h : i < row.length), i < k → 0 ≤ rk ranks row[i] ∧ rk ranks row[i] ≤ less acc rank) (fun k => row.length - k) 0 ⟨by omega, fun i h hi => by omega⟩ ⟨[], rfl, by decide, rfl, by repeat' (first | exact True.intro | exact ⟨rfl, rfl⟩ | apply And.intro), by repeat' (exact True.intro)⟩ ?_
  rintro k ⟨hk1, hk2⟩
  by_cases hkl : k < row.length
  · have hx := hb row[k] (List.getElem_mem _)
    have hrk : rk ranks row[k] = ranks[row[k].toNat]'(by omega) := z50 (by omega)
    have hno : (¬ 0 ≤ rk ranks row[k] ∨ rank < rk ranks row[k] ∨ (acc = true ∧ rk ranks row[k] = rank)) → ¬ nodeP row ranks rank acc := fun h h2 => by
      have h3 := h2 _ (List.getElem_mem hkl)
      unfold less at h3
      rcases h with h | h | ⟨rfl, h⟩
      · omega
      · split at h3 <;> omega
      · rw [if_pos rfl] at h3; omega
    have hyes : (0 ≤ rk ranks row[k] ∧ rk ranks row[k] ≤ rank ∧ (acc = false ∨ rk ranks row[k] ≠ rank)) → ∀ i (h : i < row.length), i < k + 1 → 0 ≤ rk ranks row[i] ∧ rk ranks row[i] ≤ less acc rank := fun h i hi hik => by
      rcases Nat.lt_or_ge i k with h3 | h3
      · exact hk2 i hi h3
      · obtain rfl : i = k := by omega
        refine ⟨h.1, ?_⟩
        unfold less
        rcases h.2.2 with h4 | h4
        · rw [h4, if_neg (by simp)]; omega
        · split <;> omega
    rw [hrk] at hno hyes
    repeat' (first | (apply AWP.go ok; rfl; conv => whnf) | (apply And.intro; (first | omega | (unfold inI; omega)); conv => whnf) | (with_reducible apply z13; omega; intro _; conv => whnf) | (with_reducible apply z45; omega; intro _; conv => whnf) | (apply z8 <;> intro _ <;> conv => whnf) | (apply z56 <;> intro _ <;> conv => whnf))
    all_goals first
      | exact z28 rfl (decide_eq_false (hno (by first | exact .inl (by omega) | exact .inr (.inl (by omega)) | exact .inr (.inr ⟨by assumption, by assumption⟩))))
      | exact z116 (k + 1) [] ⟨by omega, hyes ⟨by omega, by omega, by first | exact .inl (by assumption) | exact .inr (by assumption)⟩⟩ (by omega) ⟨rfl, by decide, rfl, by repeat' (first | exact True.intro | exact ⟨rfl, rfl⟩ | apply And.intro), by repeat' (exact True.intro)⟩
      | omega
  · repeat' (first | (apply AWP.go ok; rfl; conv => whnf) | (apply And.intro; (omega); conv => whnf) | (with_reducible apply z13; omega; intro _; conv => whnf) | (with_reducible apply z45; omega; intro _; conv => whnf) | (apply z8 <;> intro _ <;> conv => whnf) | (apply z56 <;> intro _ <;> conv => whnf))
    all_goals first | (exfalso; omega) | skip
    refine z28 rfl (decide_eq_true ?_)
    intro x hx
    obtain ⟨i, hi, rfl⟩ := List.mem_iff_getElem.1 hx
    exact hk2 i hi (by omega)

/-- is the certificate right? -/
def certP (rows : List (List Int)) (ini : List Int) (acc : List Bool) (N : Nat) (ranks : List Int) : Prop :=
  ranks.length = N ∧ (∀ x ∈ ranks, -1 ≤ x ∧ x ≤ 4000) ∧ (∀ x ∈ ini, 0 ≤ rk ranks x) ∧ ∀ i (h : i < ranks.length), 0 ≤ ranks[i] → nodeP (rows.getD i []) ranks ranks[i] (acc.getD (i % acc.length) false)
noncomputable instance {rows : List (List Int)} {ini : List Int} {acc : List Bool} {N : Nat} {ranks : List Int} : Decidable (certP rows ini acc N ranks) := Classical.propDecidable _
noncomputable def certB (g : Graph) (l : List Tree) (a : Aut) (c : Cert) : Bool := glB g l && autB a && decide (certP (z62 g (g.st.map (z68 l)) a) a.ini a.acc (g.st.length * a.acc.length) c.ranks)

def Cert.mx (c : Cert) : Prop := c.ranks.length ≤ maxLen
set_option maxHeartbeats 800000 in
theorem specCheckCertificate_ok (g : Graph) (hg : g.mx) (l : List Tree) (hl : Lmx l) (a : Aut) (ha : a.mx) (c : Cert) (hc : c.mx) : CallsA Tryz.prog 17 [.agg g.cs, lst 3 Tree.cs' l, .agg a.cs, .agg c.cs] [] (.bool (certB g l a c)) [] := by
  have hcm := hc
  unfold Cert.mx maxLen at hcm
  by_cases hgl : glB g l = true
  · have hG := (z150 g).1 (by unfold glB at hgl; exact (Bool.and_eq_true_iff.1 hgl).1)
    have hL := LabelsOk.of (by unfold glB at hgl; exact (Bool.and_eq_true_iff.1 hgl).2)
    have k1 := specLabelGraph_ok g hg l hl
    rw [hgl, if_pos rfl] at k1
    by_cases hab : autB a = true
    · have hA := autB_iff.1 hab
      have hlr : ∀ x ∈ g.st.map (z68 l), 0 ≤ x ∧ x ≤ 7 := fun x hx => by
        obtain ⟨s, _, rfl⟩ := List.mem_map.1 hx
        exact letter_range hL s
      have k2 := l8Product_ok g hG (g.st.map (z68 l)) (by simp) hlr a hA
      have hrows := prodRows_lt g hG (g.st.map (z68 l)) a hA
      have hrl : (z62 g (g.st.map (z68 l)) a).length = g.st.length * a.acc.length := by unfold z62; rw [z119, Nat.mul_comm]
      have hN := z131 (a := (g.st.length : Int)) (b := (a.acc.length : Int)) (A := 60) (B := 64) (by omega) (by have := hG.1; omega) (by omega) (by have := hA.1; omega)
      have hN2 : ((g.st.length * a.acc.length : Nat) : Int) = (g.st.length : Int) * a.acc.length := by simp
      have hini := hA.2.2.1
      have e : certB g l a c = decide (certP (z62 g (g.st.map (z68 l)) a) a.ini a.acc (g.st.length * a.acc.length) c.ranks) := by unfold certB; rw [hgl, hab]; rfl
      rw [e]
      have hrowl := prodRows_len g hG (g.st.map (z68 l)) a hA
      generalize z62 g (g.st.map (z68 l)) a = rows at k2 hrows hrl hrowl
      have k3 := z135 a ha
      rw [hab] at k3
      have ha1 := hA.1
      refine z22 z29 Tryz.func17 rfl rfl 112 Tryz.ntmps17 (by simp) ?_
      repeat' (first | (apply AWP.go ok; rfl; conv => whnf) | (apply And.intro; ((unfold inI; omega)); conv => whnf) | (apply z30 <;> intro _ <;> conv => whnf) | (apply z10 (k1); rfl; rfl; conv => whnf) | (apply z10 (k3); rfl; rfl; conv => whnf) | (apply z10 (k2); rfl; rfl; conv => whnf))
      · rename_i hlen
        exact z28 rfl (decide_eq_false fun h => hlen (by rw [h.1]; exact hN2))
      rename_i hlen
      have hcl : c.ranks.length = g.st.length * a.acc.length := by omega
      have hmod : ∀ k : Nat, (((k : Int) % (a.acc.length : Int)).toNat) = k % a.acc.length := fun k => by omega
      have hmodlt : ∀ k : Nat, k % a.acc.length < a.acc.length := fun k => Nat.mod_lt _ (by omega)
      refine z120 (fun k : Nat => ([(4, .ptr 0 none 0), (6, .ptr 1 none 0), (7, .ptr 2 none 0), (11, lst 1 encL rows), (12, .int k)], [.cells 2 [[lst 2 State.cs g.st, lst 1 encL g.nx]], .cells 3 [[lst 1 enI a.ini, lst 1 enB a.acc, lst 4 Trans.cs a.ed]], .cells 1 [[lst 1 enI c.ranks]]])) (fun k => k ≤ c.ranks.length ∧ ∀ i (h : i < c.ranks.length), i < k → (-1 ≤ c.ranks[i] ∧ c.ranks[i] ≤ 4000) ∧ (0 ≤ c.ranks[i] → nodeP (rows.getD i []) c.ranks c.ranks[i] (a.acc.getD (i % a.acc.length) false))) (fun k => c.ranks.length - k) 0 ⟨by omega, fun i h hi => by omega⟩ ⟨[0, 1, 2], rfl, by decide, rfl, by repeat' (first | exact True.intro | exact ⟨rfl, rfl⟩ | apply And.intro), by repeat' (first | exact True.intro | exact z35 rfl rfl | apply And.intro)⟩ ?_
      rintro k ⟨hk1, hk2⟩
      have hm := hmod k
      have hml := hmodlt k
      by_cases hkl : k < c.ranks.length
      · have hrr : k < rows.length := by omega
        have hacc : a.acc.getD (k % a.acc.length) false = a.acc[((k : Int) % (a.acc.length : Int)).toNat]'(by omega) := by
          rw [z50 hml]; simp only [hm]
        have hrw : rows.getD k [] = rows[k] := z50 hrr
        have hrl2 : rows[k].length ≤ maxLen := by have := hrowl _ (List.getElem_mem hrr); unfold maxLen; omega
        have hxs : ∀ x ∈ rows[k], 0 ≤ x ∧ x < c.ranks.length := fun x hx => by
          have := hrows _ (List.getElem_mem hrr) x hx
          rw [hcl]; exact this
        have hkacc : ((k : Int) % (a.acc.length : Int)).toNat < a.acc.length := by omega
        have hnode := l9Node_ok rows[k] c.ranks c.ranks[k] (a.acc[((k : Int) % (a.acc.length : Int)).toNat]'hkacc) hrl2 hxs
        have hno : certP rows a.ini a.acc (g.st.length * a.acc.length) c.ranks → (-1 ≤ c.ranks[k] ∧ c.ranks[k] ≤ 4000) ∧ (0 ≤ c.ranks[k] → nodeP rows[k] c.ranks c.ranks[k] (a.acc[((k : Int) % (a.acc.length : Int)).toNat]'hkacc)) := fun h => by
          have h1 := h.2.2.2 k hkl
          rw [hrw, hacc] at h1
          exact ⟨h.2.1 _ (List.getElem_mem _), h1⟩
        have hyes : ((-1 ≤ c.ranks[k] ∧ c.ranks[k] ≤ 4000) ∧ (0 ≤ c.ranks[k] → nodeP rows[k] c.ranks c.ranks[k] (a.acc[((k : Int) % (a.acc.length : Int)).toNat]'hkacc))) → ∀ i (h : i < c.ranks.length), i < k + 1 → (-1 ≤ c.ranks[i] ∧ c.ranks[i] ≤ 4000) ∧ (0 ≤ c.ranks[i] → nodeP (rows.getD i []) c.ranks c.ranks[i] (a.acc.getD (i % a.acc.length) false)) := fun h i hi hik => by
          rcases Nat.lt_or_ge i k with h3 | h3
          · exact hk2 i hi h3
          · obtain rfl : i = k := by omega
            rw [hrw, hacc]; exact h
        repeat' (first | (apply AWP.go ok; rfl; conv => whnf) | (apply z38; kernel_rfl; conv => whnf) | (apply And.intro; (first | omega | (unfold inI; omega)); conv => whnf) | (with_reducible apply z13; omega; intro _; conv => whnf) | (with_reducible apply z45; omega; intro _; conv => whnf) | (apply z8 <;> intro _ <;> conv => whnf) | (apply z30 <;> intro _ <;> conv => whnf) | (apply z10 (hnode); rfl; rfl; conv => whnf))
        · exact z28 rfl (decide_eq_false fun h => by have := (hno h).1; omega)
        · exact z28 rfl (decide_eq_false fun h => by have := (hno h).1; omega)
        · rename_i hn
          exact z28 rfl (decide_eq_false fun h => hn ((hno h).2 (by assumption)))
        · rename_i hn
          exact z116 (k + 1) [0, 1, 2] ⟨by omega, hyes ⟨by omega, fun _ => hn⟩⟩ (by omega) ⟨rfl, by decide, rfl, by repeat' (first | exact True.intro | exact ⟨rfl, rfl⟩ | apply And.intro), by repeat' (first | exact True.intro | exact z35 rfl rfl | apply And.intro)⟩
        · rename_i hn
          exact z116 (k + 1) [0, 1, 2] ⟨by omega, hyes ⟨by omega, fun h => absurd h hn⟩⟩ (by omega) ⟨rfl, by decide, rfl, by repeat' (first | exact True.intro | exact ⟨rfl, rfl⟩ | apply And.intro), by repeat' (first | exact True.intro | exact z35 rfl rfl | apply And.intro)⟩
        · omega
      · repeat' (first | (apply AWP.go ok; rfl; conv => whnf) | (apply z38; kernel_rfl; conv => whnf) | (apply And.intro; (omega); conv => whnf) | (with_reducible apply z13; omega; intro _; conv => whnf) | (with_reducible apply z45; omega; intro _; conv => whnf) | (apply z8 <;> intro _ <;> conv => whnf))
        all_goals first | (exfalso; omega) | skip
        obtain rfl : k = c.ranks.length := by omega
        have hil := hini.le (by omega)
        refine z120 (fun j : Nat => ([(6, .ptr 1 none 0), (7, .ptr 2 none 0), (13, .int j)], [.cells 2 [[lst 2 State.cs g.st, lst 1 encL g.nx]], .cells 3 [[lst 1 enI a.ini, lst 1 enB a.acc, lst 4 Trans.cs a.ed]], .cells 1 [[lst 1 enI c.ranks]]])) (fun j => j ≤ a.ini.length ∧ ∀ i (h : i < a.ini.length), i < j → 0 ≤ rk c.ranks a.ini[i]) (fun j => a.ini.length - j) 0 ⟨by omega, fun i h hi => by omega⟩ ⟨[0, 1, 2], rfl, by decide, rfl, by repeat' (first | exact True.intro | exact ⟨rfl, rfl⟩ | apply And.intro), by repeat' (first | exact True.intro | exact z35 rfl rfl | apply And.intro)⟩ ?_
        rintro j ⟨hj1, hj2⟩
        by_cases hjl : j < a.ini.length
        · have hin := (hini j hjl hjl).1
          have hb1 := z131 (a := (g.st.length : Int) - 1) (b := (a.acc.length : Int)) (A := 60) (B := 64) (by have := hG.1; omega) (by have := hG.1; omega) (by omega) (by omega)
          rw [Int.sub_mul, Int.one_mul] at hb1
          have hix : a.ini[j].toNat < c.ranks.length := by rw [hcl]; omega
          have hrk : rk c.ranks a.ini[j] = c.ranks[a.ini[j].toNat]'hix := z50 hix
          repeat' (first | (apply AWP.go ok; rfl; conv => whnf) | (apply z38; kernel_rfl; conv => whnf) | (apply And.intro; (first | omega | (unfold inI; omega)); conv => whnf) | (with_reducible apply z13; omega; intro _; conv => whnf) | (with_reducible apply z45; omega; intro _; conv => whnf) | (apply z8 <;> intro _ <;> conv => whnf))
          · exact z28 rfl (decide_eq_false fun h => by have := h.2.2.1 _ (List.getElem_mem hjl); rw [hrk] at this; omega)
          · refine z116 (j + 1) [0, 1, 2] ⟨by omega, fun i hi hij => ?_⟩ (by omega) ⟨rfl, by decide, rfl, by repeat' (first | exact True.intro | exact ⟨rfl, rfl⟩ | apply And.intro), by repeat' (first | exact True.intro | exact z35 rfl rfl | apply And.intro)⟩
            rcases Nat.lt_or_ge i j with h3 | h3
            · exact hj2 i hi h3
            · obtain rfl : i = j := by omega
              rw [hrk]; omega
          · omega
        · repeat' (first | (apply AWP.go ok; rfl; conv => whnf) | (apply z38; kernel_rfl; conv => whnf) | (apply And.intro; (omega); conv => whnf) | (with_reducible apply z13; omega; intro _; conv => whnf) | (with_reducible apply z45; omega; intro _; conv => whnf) | (apply z8 <;> intro _ <;> conv => whnf))
          all_goals first | (exfalso; omega) | skip
          refine z28 rfl (decide_eq_true ⟨hcl, fun x hx => ?_, fun x hx => ?_, fun i h => ?_⟩)
          · obtain ⟨i, hi, rfl⟩ := List.mem_iff_getElem.1 hx
            exact (hk2 i hi hi).1
          · obtain ⟨i, hi, rfl⟩ := List.mem_iff_getElem.1 hx
            exact hj2 i hi (by omega)
          · exact (hk2 i h h).2
    · have hab := (Bool.not_eq_true _).mp hab
      have e : certB g l a c = false := by unfold certB; rw [hab, Bool.and_false]; rfl
      have k3 := z135 a ha
      rw [hab] at k3
      rw [e]
      refine z22 z29 Tryz.func17 rfl rfl 112 Tryz.ntmps17 (by simp) ?_
      repeat' (first | (apply AWP.go ok; rfl; conv => whnf) | (apply z10 (k1); rfl; rfl; conv => whnf) | (apply z10 (k3); rfl; rfl; conv => whnf))
      all_goals (refine z28 rfl ?_; rfl)
  · have k1 := specLabelGraph_ok g hg l hl
    have hgl := (Bool.not_eq_true _).mp hgl
    rw [hgl, if_neg (by simp)] at k1
    have e : certB g l a c = false := by unfold certB; rw [hgl]; rfl
    rw [e]
    refine z22 z29 Tryz.func17 rfl rfl 112 Tryz.ntmps17 (by simp) ?_
    repeat' (first | (apply AWP.go ok; rfl; conv => whnf) | (apply z10 (k1); rfl; rfl; conv => whnf))
    all_goals (refine z28 rfl ?_; rfl)
end Go.Proofs.YtknlmbniicacmaaGreat

namespace Go.Proofs.YtknlmbniicacmaaGreat
open Go.Gl
attribute [local irreducible] z48 AWP z76 z84 z81

theorem checkCert1_ok (n : Int) : CallsA Tryz.prog 77 [.int n] [] (.bool (!btw n (-1) 4000)) [] := by
  refine z22 z29 Tryz.func77 rfl rfl 6 Tryz.ntmps77 (by simp) ?_
  repeat' (first | (apply AWP.go ok; rfl; conv => whnf) | (apply z10 (in_ok n (-1) 4000); rfl; rfl; conv => whnf))
  exact z28 rfl rfl

set_option maxHeartbeats 1600000 in
theorem checkCertificate_ok (g : Graph) (hg : g.mx) (l : List Tree) (hl : Lmx l) (a : Aut) (ha : a.mx) (c : Cert) (hc : c.mx) : CallsA Tryz.prog 16 [.agg g.cs, lst 3 Tree.cs' l, .agg a.cs, .agg c.cs] [] (.bool (certB g l a c)) [] := by
  have hcm := hc
  unfold Cert.mx maxLen at hcm
  have k1 := checked_ok g hg l hl a ha
  by_cases hgl : (glB g l && autB a) = true
  · rw [hgl] at k1
    obtain ⟨hgl, hab⟩ := Bool.and_eq_true_iff.1 hgl
    have hG := (z150 g).1 (by unfold glB at hgl; exact (Bool.and_eq_true_iff.1 hgl).1)
    have hL := LabelsOk.of (by unfold glB at hgl; exact (Bool.and_eq_true_iff.1 hgl).2)
    have hA := autB_iff.1 hab
    have k2 := product_ok g hG l hL a hA
    have kc := containsFunc_int c.ranks hc (fun n => !btw n (-1) 4000) 77 (fun x _ => checkCert1_ok x)
    have hrows := prodRows_lt g hG (g.st.map (z68 l)) a hA
    have hrowl := prodRows_len g hG (g.st.map (z68 l)) a hA
    have hrl : (z62 g (g.st.map (z68 l)) a).length = g.st.length * a.acc.length := by unfold z62; rw [z119, Nat.mul_comm]
    have ha1 := hA.1
    have hN := z131 (a := (g.st.length : Int)) (b := (a.acc.length : Int)) (A := 60) (B := 64) (by omega) (by have := hG.1; omega) (by omega) (by omega)
    have hN2 : ((g.st.length * a.acc.length : Nat) : Int) = (g.st.length : Int) * a.acc.length := by simp
    have hini := hA.2.2.1
    have e : certB g l a c = decide (certP (z62 g (g.st.map (z68 l)) a) a.ini a.acc (g.st.length * a.acc.length) c.ranks) := by unfold certB; rw [hgl, hab]; rfl
    rw [e]
    generalize z62 g (g.st.map (z68 l)) a = rows at k2 hrows hrl hrowl
    refine z22 z29 Tryz.func16 rfl rfl 104 Tryz.ntmps16 (by simp) ?_
    repeat' (first | (apply AWP.go ok; rfl; conv => whnf) | (apply And.intro; ((unfold inI; omega)); conv => whnf) | (apply z30 <;> intro _ <;> conv => whnf) | (apply z56 <;> intro _ <;> conv => whnf) | (apply z10 (k1); rfl; rfl; conv => whnf) | (apply z10 (kc); rfl; rfl; conv => whnf) | (apply z10 (k2); rfl; rfl; conv => whnf))
    · rename_i hlen
      exact z28 rfl (decide_eq_false fun h => hlen (by rw [h.1]; exact hN2))
    · rename_i hlen hany
      refine z28 rfl (decide_eq_false fun h => ?_)
      obtain ⟨x, hx, hb⟩ := List.any_eq_true.1 hany
      have := h.2.1 x hx
      rw [← z161] at this
      rw [this] at hb; simp at hb
    rename_i hlen hany
    have hcl : c.ranks.length = g.st.length * a.acc.length := by omega
    have hrng : ∀ x ∈ c.ranks, -1 ≤ x ∧ x ≤ 4000 := fun x hx => by
      have := List.any_eq_false.1 hany x hx
      rw [← z161]; simpa using this
    have hmod : ∀ k : Nat, (((k : Int) % (a.acc.length : Int)).toNat) = k % a.acc.length := fun k => by omega
    have hmodlt : ∀ k : Nat, k % a.acc.length < a.acc.length := fun k => Nat.mod_lt _ (by omega)
    have hil := hini.le (by omega)
    refine z120 (fun j : Nat => ([(6, .ptr 1 none 0), (7, .ptr 2 none 0), (9, lst 1 encL rows), (48, ints a.ini), (49, .int a.ini.length), (50, .int j)], [.cells 2 [[lst 2 State.cs g.st, lst 1 encL g.nx]], .cells 3 [[lst 1 enI a.ini, lst 1 enB a.acc, lst 4 Trans.cs a.ed]], .cells 1 [[lst 1 enI c.ranks]]])) (fun j => j ≤ a.ini.length ∧ ∀ i (h : i < a.ini.length), i < j → 0 ≤ rk c.ranks a.ini[i]) (fun j => a.ini.length - j) 0 ⟨by omega, fun i h hi => by omega⟩ ⟨[0, 1, 2], rfl, by decide, rfl, by repeat' (first | exact True.intro | exact ⟨rfl, rfl⟩ | apply And.intro), by repeat' (first | exact True.intro | exact z35 rfl rfl | apply And.intro)⟩ ?_
    rintro j ⟨hj1, hj2⟩
    by_cases hjl : j < a.ini.length
    · have hin := (hini j hjl hjl).1
      have hb1 := z131 (a := (g.st.length : Int) - 1) (b := (a.acc.length : Int)) (A := 60) (B := 64) (by have := hG.1; omega) (by have := hG.1; omega) (by omega) (by omega)
      rw [Int.sub_mul, Int.one_mul] at hb1
      have hix : a.ini[j].toNat < c.ranks.length := by rw [hcl]; omega
      have hrk : rk c.ranks a.ini[j] = c.ranks[a.ini[j].toNat]'hix := z50 hix
      repeat' (first | (apply AWP.go ok; rfl; conv => whnf) | (apply And.intro; (first | omega | (unfold inI; omega)); conv => whnf) | (with_reducible apply z13; omega; intro _; conv => whnf) | (with_reducible apply z45; omega; intro _; conv => whnf) | (apply z8 <;> intro _ <;> conv => whnf))
      · exact z28 rfl (decide_eq_false fun h => by have := h.2.2.1 _ (List.getElem_mem hjl); rw [hrk] at this; omega)
      · refine z116 (j + 1) [0, 1, 2] ⟨by omega, fun i hi hij => ?_⟩ (by omega) ⟨rfl, by decide, rfl, by repeat' (first | exact True.intro | exact ⟨rfl, rfl⟩ | apply And.intro), by repeat' (first | exact True.intro | exact z35 rfl rfl | apply And.intro)⟩
        rcases Nat.lt_or_ge i j with h3 | h3
        · exact hj2 i hi h3
        · obtain rfl : i = j := by omega
          rw [hrk]; omega
      · omega
    repeat' (first | (apply AWP.go ok; rfl; conv => whnf) | (apply And.intro; (omega); conv => whnf) | (with_reducible apply z13; omega; intro _; conv => whnf) | (with_reducible apply z45; omega; intro _; conv => whnf) | (apply z8 <;> intro _ <;> conv => whnf))
    all_goals first | (exfalso; omega) | skip
    have hiniR : ∀ x ∈ a.ini, 0 ≤ rk c.ranks x := fun x hx => by
      obtain ⟨i, hi, rfl⟩ := List.mem_iff_getElem.1 hx
      exact hj2 i hi (by omega)
    clear hj1 hj2 hjl
    refine z120 (fun k : Nat => ([(6, .ptr 1 none 0), (7, .ptr 2 none 0), (9, lst 1 encL rows), (62, ints c.ranks), (63, .int c.ranks.length), (64, .int k)], [.cells 2 [[lst 2 State.cs g.st, lst 1 encL g.nx]], .cells 3 [[lst 1 enI a.ini, lst 1 enB a.acc, lst 4 Trans.cs a.ed]], .cells 1 [[lst 1 enI c.ranks]]])) (fun k => k ≤ c.ranks.length ∧ ∀ i (h : i < c.ranks.length), i < k → 0 ≤ c.ranks[i] → nodeP (rows.getD i []) c.ranks c.ranks[i] (a.acc.getD (i % a.acc.length) false)) (fun k => c.ranks.length - k) 0 ⟨by omega, fun i h hi => by omega⟩ ⟨[0, 1, 2], rfl, by decide, rfl, by repeat' (first | exact True.intro | exact ⟨rfl, rfl⟩ | apply And.intro), by repeat' (first | exact True.intro | exact z35 rfl rfl | apply And.intro)⟩ ?_
    rintro k ⟨hk1, hk2⟩
    have hm := hmod k
    have hml := hmodlt k
    by_cases hkl : k < c.ranks.length
    · have hrr : k < rows.length := by omega
      have hkacc : ((k : Int) % (a.acc.length : Int)).toNat < a.acc.length := by omega
      have hacc : a.acc.getD (k % a.acc.length) false = (a.acc[((k : Int) % (a.acc.length : Int)).toNat]'hkacc) := by
        rw [z50 hml]; simp only [hm]
      have hrw : rows.getD k [] = rows[k] := z50 hrr
      have hrl2 : rows[k].length ≤ 7372800 := hrowl _ (List.getElem_mem hrr)
      have hxs : ∀ x ∈ rows[k], 0 ≤ x ∧ x < c.ranks.length := fun x hx => by
        have := hrows _ (List.getElem_mem hrr) x hx
        rw [hcl]; exact this
      have hrk := hrng c.ranks[k] (List.getElem_mem hkl)
      have hno : certP rows a.ini a.acc (g.st.length * a.acc.length) c.ranks → 0 ≤ c.ranks[k] → nodeP rows[k] c.ranks c.ranks[k] (a.acc[((k : Int) % (a.acc.length : Int)).toNat]'hkacc) := fun h => by
        have h1 := h.2.2.2 k hkl
        rw [hrw, hacc] at h1
        exact h1
      have hyes : (0 ≤ c.ranks[k] → nodeP rows[k] c.ranks c.ranks[k] (a.acc[((k : Int) % (a.acc.length : Int)).toNat]'hkacc)) → ∀ i (h : i < c.ranks.length), i < k + 1 → 0 ≤ c.ranks[i] → nodeP (rows.getD i []) c.ranks c.ranks[i] (a.acc.getD (i % a.acc.length) false) := fun h i hi hik => by
        rcases Nat.lt_or_ge i k with h3 | h3
        · exact hk2 i hi h3
        · obtain rfl : i = k := by omega
          rw [hrw, hacc]; exact h
      generalize hacd : (a.acc[((k : Int) % (a.acc.length : Int)).toNat]'hkacc) = ac at hno hyes
      repeat' (first | (apply AWP.go ok; rfl; conv => whnf) | (apply z38; kernel_rfl; conv => whnf) | (apply And.intro; (first | omega | (unfold inI; omega)); conv => whnf) | (with_reducible apply z13; omega; intro _; conv => whnf) | (with_reducible apply z45; omega; intro _; conv => whnf) | (apply z8 <;> intro _ <;> conv => whnf) | (apply z56 <;> intro _ <;> conv => whnf))
      all_goals first | (exfalso; omega) | skip
      all_goals (rw [hacd] at *)
      all_goals
        refine z120 (fun j : Nat => ([(6, .ptr 1 none 0), (7, .ptr 2 none 0), (9, lst 1 encL rows), (62, ints c.ranks), (63, .int c.ranks.length), (64, .int k), (14, .int c.ranks[k]), (15, .int (less ac c.ranks[k])), (84, ints rows[k]), (85, .int rows[k].length), (86, .int j)], [.cells 2 [[lst 2 State.cs g.st, lst 1 encL g.nx]], .cells 3 [[lst 1 enI a.ini, lst 1 enB a.acc, lst 4 Trans.cs a.ed]], .cells 1 [[lst 1 enI c.ranks]]])) (fun j => j ≤ rows[k].length ∧ ∀ i (h : i < rows[k].length), i < j → 0 ≤ c.ranks[k] → 0 ≤ rk c.ranks rows[k][i] ∧ rk c.ranks rows[k][i] ≤ less ac c.ranks[k]) (fun j => rows[k].length - j) 0 ⟨by omega, fun i h hi => by omega⟩ ⟨[0, 1, 2], rfl, by decide, rfl, ⟨⟨rfl, rfl⟩, ⟨rfl, rfl⟩, ⟨rfl, rfl⟩, ⟨rfl, rfl⟩, ⟨rfl, rfl⟩, ⟨rfl, rfl⟩, ⟨rfl, rfl⟩, ⟨rfl, by first | (rw [show less ac c.ranks[k] = c.ranks[k] - 1 from if_pos (by assumption)]; rfl) | (rw [show less ac c.ranks[k] = c.ranks[k] from if_neg (by simp [*])]; rfl)⟩, ⟨rfl, rfl⟩, ⟨rfl, rfl⟩, ⟨rfl, rfl⟩, trivial⟩, ⟨z35 rfl rfl, z35 rfl rfl, z35 rfl rfl, trivial⟩⟩ ?_
        rintro j ⟨hj1, hj2⟩
        by_cases hjl : j < rows[k].length
        · have hx := hxs _ (List.getElem_mem hjl)
          have hix : rows[k][j].toNat < c.ranks.length := by omega
          have hrk2 : rk c.ranks rows[k][j] = c.ranks[rows[k][j].toNat]'hix := z50 hix
          repeat' (first | (apply AWP.go ok; rfl; conv => whnf) | (apply And.intro; (first | omega | (unfold inI; omega)); conv => whnf) | (with_reducible apply z13; omega; intro _; conv => whnf) | (with_reducible apply z45; omega; intro _; conv => whnf) | (apply z8 <;> intro _ <;> conv => whnf) | (apply z53 <;> intro _ <;> conv => whnf) | (apply z10 (in_ok _ 0 (less ac c.ranks[k])); rfl; rfl; conv => whnf))
          · rename_i hb
            rw [btw_no] at hb
            exact z28 rfl (decide_eq_false fun h => hb (by rw [← hrk2]; exact hno h (by assumption) _ (List.getElem_mem hjl)))
          · rename_i hb
            refine z116 (j + 1) [0, 1, 2] ⟨by omega, fun i hi hij h0 => ?_⟩ (by omega) ⟨rfl, by decide, rfl, by repeat' (first | exact True.intro | exact ⟨rfl, rfl⟩ | apply And.intro), by repeat' (first | exact True.intro | exact z35 rfl rfl | apply And.intro)⟩
            rcases Nat.lt_or_ge i j with h3 | h3
            · exact hj2 i hi h3 h0
            · obtain rfl : i = j := by omega
              rw [hrk2]; exact z161.1 hb
          · refine z116 (j + 1) [0, 1, 2] ⟨by omega, fun i hi hij h0 => ?_⟩ (by omega) ⟨rfl, by decide, rfl, by repeat' (first | exact True.intro | exact ⟨rfl, rfl⟩ | apply And.intro), by repeat' (first | exact True.intro | exact z35 rfl rfl | apply And.intro)⟩
            exact absurd h0 (by assumption)
          · omega
        · repeat' (first | (apply AWP.go ok; rfl; conv => whnf) | (apply And.intro; (first | omega | (unfold inI; omega)); conv => whnf) | (with_reducible apply z13; omega; intro _; conv => whnf) | (with_reducible apply z45; omega; intro _; conv => whnf) | (apply z8 <;> intro _ <;> conv => whnf))
          all_goals first | (exfalso; omega) | skip
          refine z116 (k + 1) [0, 1, 2] ⟨by omega, hyes fun h0 x hx => ?_⟩ (by omega) ⟨rfl, by decide, rfl, by repeat' (first | exact True.intro | exact ⟨rfl, rfl⟩ | apply And.intro), by repeat' (first | exact True.intro | exact z35 rfl rfl | apply And.intro)⟩
          obtain ⟨i, hi, rfl⟩ := List.mem_iff_getElem.1 hx
          exact hj2 i hi (by omega) h0
    · repeat' (first | (apply AWP.go ok; rfl; conv => whnf) | (apply z38; kernel_rfl; conv => whnf) | (apply And.intro; (omega); conv => whnf) | (with_reducible apply z13; omega; intro _; conv => whnf) | (with_reducible apply z45; omega; intro _; conv => whnf) | (apply z8 <;> intro _ <;> conv => whnf) | (apply z56 <;> intro _ <;> conv => whnf))
      all_goals first | (exfalso; omega) | skip
      exact z28 rfl (decide_eq_true ⟨hcl, hrng, hiniR, fun i h => hk2 i h (by omega)⟩)
  · have hgl := (Bool.not_eq_true _).mp hgl
    rw [hgl] at k1
    have e : certB g l a c = false := by unfold certB; rw [hgl]; rfl
    rw [e]
    refine z22 z29 Tryz.func16 rfl rfl 104 Tryz.ntmps16 (by simp) ?_
    repeat' (first | (apply AWP.go ok; rfl; conv => whnf) | (apply z10 (k1); rfl; rfl; conv => whnf))
    all_goals (refine z28 rfl ?_; rfl)
end Go.Proofs.YtknlmbniicacmaaGreat

namespace Go.Proofs.YtknlmbniicacmaaGreat
open Go.Gl
attribute [local irreducible] z48 AWP z76 z84 z81

end Go.Proofs.YtknlmbniicacmaaGreat

namespace Go.Proofs.YtknlmbniicacmaaGreat
open Go.Gl
attribute [local irreducible] z48 AWP z76 z84 z81

end Go.Proofs.YtknlmbniicacmaaGreat

namespace Go.Proofs.YtknlmbniicacmaaGreat
open Go.Gl
attribute [local irreducible] z48 AWP z76 z84 z81

theorem visit_new {Q : List Int} {x : Int} (h : x ∉ Q) : visit Q x = Q ++ [x] := by unfold visit; rw [if_neg h]
theorem visit_old {Q : List Int} {x : Int} (h : x ∈ Q) : visit Q x = Q := by unfold visit; rw [if_pos h]
theorem push_cells {Q Q' : List Int} {x : Int} (h : Q' = Q ++ [x]) : ((Q.map enI).take Q.length) ++ [enI x] = Q'.map enI := by
  subst h
  rw [List.take_of_length_le (by simp), List.map_append]; rfl

set_option maxHeartbeats 1600000 in
theorem l7Reach_new (rows : List (List Int)) (ini : List Int) (hr : ∀ r ∈ rows, InN rows.length r) (hi : InN rows.length ini) (hN : rows.length ≤ 1048576) (hrl : ∀ r ∈ rows, r.length ≤ 1000000000) (hil : ini.length ≤ 1048576) : CallsA Tryz.prog 109 [lst 1 encL rows, ints ini] [] (.sref 0 0 (bfsL rows ini).length) [.cells 1 ((bfsL rows ini).map enI)] := by
  refine z22 z29 Tryz.func109 rfl rfl 83 Tryz.ntmps109 (by simp) ?_
  repeat' (first | (apply AWP.go ok; rfl; conv => whnf) | (apply And.intro; ((dsimp only; omega)); conv => whnf))
  refine z120 (fun i : Nat => ([(0, lst 1 encL rows), (1, ints ini), (5, .sref 0 0 rows.length), (6, .sref 1 0 (z126 [] (ini.take i)).length), (7, .int i)], [.cells 1 ((mkB rows.length (z126 [] (ini.take i))).map enB), .cells 1 ((z126 [] (ini.take i)).map enI)])) (fun i => i ≤ ini.length) (fun i => ini.length - i) 0 (by omega) ⟨[0, 1], rfl, by decide, rfl, ⟨⟨rfl, rfl⟩, ⟨rfl, rfl⟩, ⟨rfl, rfl⟩, ⟨rfl, rfl⟩, ⟨rfl, rfl⟩, trivial⟩, ⟨z70 (z106 (by show _ = (mkB rows.length []).map enB; rw [mkB_nil, List.map_replicate]; rfl)) (z4 fun _ => rfl), z70 rfl (z4 fun _ => rfl), trivial⟩⟩ ?_
  intro i hil2
  have hQn : (z126 [] (ini.take i)).length ≤ rows.length := pigeon _ _ (visits_nodup (by simp)) (visits_in (fun x hx => by cases hx) fun x hx => hi x (List.mem_of_mem_take hx))
  by_cases hil3 : i < ini.length
  · have hx := hi ini[i] (List.getElem_mem _)
    have hv := visits_take (out := []) hil3
    by_cases hn : ini[i] ∉ z126 [] (ini.take i)
    · repeat' (first | (apply AWP.go ok; rfl; conv => whnf) | (refine get_mkB (enc := enB) (v := ini[i]) (by rfl) hx.1 hx.2 ?_; conv => whnf) | (apply And.intro; (first | omega | (unfold inI; omega) | ((try dsimp only); simp only [List.length_map, List.length_take, List.length_append, List.length_replicate, List.length_cons, List.length_nil]; omega) | exact ⟨rfl, z21 rfl z26⟩); conv => whnf) | (with_reducible apply z13; omega; intro _; conv => whnf) | (apply z8 <;> intro _ <;> conv => whnf) | (apply z30 <;> intro _ <;> conv => whnf))
      all_goals first | (exfalso; omega) | (exfalso; simp_all; done) | skip
      rw [visit_new hn] at hv
      exact z116 (i + 1) [0, 3] (by omega) (by omega) ⟨rfl, by decide, rfl, ⟨⟨rfl, rfl⟩, ⟨rfl, rfl⟩, ⟨rfl, rfl⟩, ⟨rfl, env_sref (by rw [hv]; simp) rfl⟩, ⟨rfl, rfl⟩, trivial⟩, ⟨z70 (z106 (set_mkB (enc := enB) (by rfl) hx.1 hx.2 fun v => by rw [hv]; simp)) (z4 fun _ => rfl), z70 (z106 (push_cells hv)) (z4 fun _ => rfl), trivial⟩⟩
    · have hn := Decidable.not_not.1 hn
      repeat' (first | (apply AWP.go ok; rfl; conv => whnf) | (refine get_mkB (enc := enB) (v := ini[i]) (by rfl) hx.1 hx.2 ?_; conv => whnf) | (apply And.intro; (first | omega | (unfold inI; omega) | ((try dsimp only); simp only [List.length_map, List.length_take, List.length_append, List.length_replicate, List.length_cons, List.length_nil]; omega) | exact ⟨rfl, z21 rfl z26⟩); conv => whnf) | (with_reducible apply z13; omega; intro _; conv => whnf) | (apply z8 <;> intro _ <;> conv => whnf) | (apply z30 <;> intro _ <;> conv => whnf))
      all_goals first | (exfalso; omega) | (exfalso; simp_all; done) | skip
      rw [visit_old hn] at hv
      exact z116 (i + 1) [0, 1] (by omega) (by omega) ⟨rfl, by decide, rfl, ⟨⟨rfl, rfl⟩, ⟨rfl, rfl⟩, ⟨rfl, rfl⟩, ⟨rfl, env_sref (by rw [hv]) rfl⟩, ⟨rfl, rfl⟩, trivial⟩, ⟨z70 (z106 (by rw [hv])) (z4 fun _ => rfl), z70 (z106 (by rw [hv])) (z4 fun _ => rfl), trivial⟩⟩
  repeat' (first | (apply AWP.go ok; rfl; conv => whnf) | (apply And.intro; (omega); conv => whnf) | (with_reducible apply z13; omega; intro _; conv => whnf) | (apply z13; omega; intro _; conv => whnf) | (apply z8 <;> intro _ <;> conv => whnf) | (apply z53 <;> intro _ <;> conv => whnf))
  all_goals first | (exfalso; omega) | skip
  obtain rfl : i = ini.length := by omega
  rw [List.take_length]
  clear hQn
  refine z120 (fun i : Nat => ([(0, lst 1 encL rows), (5, .sref 0 0 rows.length), (6, .sref 1 0 (bfs rows ini i).length), (8, .int i)], [.cells 1 ((mkB rows.length (bfs rows ini i)).map enB), .cells 1 ((bfs rows ini i).map enI)])) (fun i => i ≤ (bfs rows ini i).length) (fun i => rows.length - i) 0 (by omega) ⟨[0, 1], rfl, by decide, rfl, ⟨⟨rfl, rfl⟩, ⟨rfl, rfl⟩, ⟨rfl, rfl⟩, ⟨rfl, rfl⟩, trivial⟩, ⟨z70 rfl (z4 fun _ => rfl), z70 rfl (z4 fun _ => rfl), trivial⟩⟩ ?_
  intro i hi1
  have hbl := bfs_len hr hi i
  by_cases hi2 : i < (bfs rows ini i).length
  · have hq := bfs_in hr hi i _ (List.getElem_mem hi2)
    have hb := bfs.eq_2 rows ini i
    rw [dif_pos hi2] at hb
    have hnd := bfs_nodup (rows := rows) (ini := ini) i
    have hin := bfs_in hr hi i
    generalize hQ0 : bfs rows ini i = Q0 at *
    have hqr : Q0[i].toNat < rows.length := by omega
    have hrow : rows.getD Q0[i].toNat [] = rows[Q0[i].toNat] := z50 hqr
    have hrin : InN rows.length rows[Q0[i].toNat] := hr _ (List.getElem_mem _)
    have hrl2 := hrl rows[Q0[i].toNat] (List.getElem_mem _)
    rw [hrow] at hb
    repeat' (first | (apply AWP.go ok; rfl; conv => whnf) | (apply z8 <;> intro _ <;> conv => whnf))
    all_goals first | (exfalso; omega) | skip
    refine z120 (fun k : Nat => ([(0, lst 1 encL rows), (5, .sref 0 0 rows.length), (6, .sref 1 0 (z126 Q0 (rows[Q0[i].toNat].take k)).length), (8, .int i), (9, .int k)], [.cells 1 ((mkB rows.length (z126 Q0 (rows[Q0[i].toNat].take k))).map enB), .cells 1 ((z126 Q0 (rows[Q0[i].toNat].take k)).map enI)])) (fun k => k ≤ rows[Q0[i].toNat].length) (fun k => rows[Q0[i].toNat].length - k) 0 (by omega) ⟨[0, 1], rfl, by decide, rfl, ⟨⟨rfl, rfl⟩, ⟨rfl, rfl⟩, ⟨rfl, rfl⟩, ⟨rfl, rfl⟩, ⟨rfl, rfl⟩, trivial⟩, ⟨z70 rfl (z4 fun _ => rfl), z70 rfl (z4 fun _ => rfl), trivial⟩⟩ ?_
    intro k hk1
    have hQn : (z126 Q0 (rows[Q0[i].toNat].take k)).length ≤ rows.length := pigeon _ _ (visits_nodup hnd) (visits_in hin fun x hx => hrin x (List.mem_of_mem_take hx))
    obtain ⟨t, ht⟩ := visits_pre Q0 (rows[Q0[i].toNat].take k)
    have hgl : i < (z126 Q0 (rows[Q0[i].toNat].take k)).length := by rw [ht, List.length_append]; omega
    have hg : ((z126 Q0 (rows[Q0[i].toNat].take k)).map enI)[i]? = some (enI Q0[i]) := by
      rw [ht, List.map_append, List.getElem?_append_left (by simpa using hi2), List.getElem?_map, List.getElem?_eq_getElem hi2]; rfl
    by_cases hk2 : k < rows[Q0[i].toNat].length
    · have hx := hrin rows[Q0[i].toNat][k] (List.getElem_mem _)
      have hv := visits_take (out := Q0) hk2
      by_cases hn : rows[Q0[i].toNat][k] ∉ z126 Q0 (rows[Q0[i].toNat].take k)
      · repeat' (first | (apply AWP.go ok; rfl; conv => whnf) | (refine get_mkB (enc := enB) (v := rows[Q0[i].toNat][k]) (by rfl) hx.1 hx.2 ?_; conv => whnf) | (refine z43 (i := i) (by rfl) hg ?_; conv => whnf) | (apply And.intro; (first | omega | (unfold inI; omega) | ((try dsimp only); simp only [List.length_map, List.length_take, List.length_append, List.length_replicate, List.length_cons, List.length_nil]; omega) | exact ⟨rfl, z21 rfl z26⟩); conv => whnf) | (with_reducible apply z13; omega; intro _; conv => whnf) | (with_reducible apply z45; omega; intro _; conv => whnf) | (apply z8 <;> intro _ <;> conv => whnf) | (apply z30 <;> intro _ <;> conv => whnf))
        all_goals first | (exfalso; omega) | (exfalso; simp_all; done) | skip
        rw [visit_new hn] at hv
        exact z116 (k + 1) [0, 3] (by omega) (by omega) ⟨rfl, by decide, rfl, ⟨⟨rfl, rfl⟩, ⟨rfl, rfl⟩, ⟨rfl, env_sref (by rw [hv]; simp) rfl⟩, ⟨rfl, rfl⟩, ⟨rfl, rfl⟩, trivial⟩, ⟨z70 (z106 (set_mkB (enc := enB) (by rfl) hx.1 hx.2 fun v => by rw [hv]; simp)) (z4 fun _ => rfl), z70 (z106 (push_cells hv)) (z4 fun _ => rfl), trivial⟩⟩
      · have hn := Decidable.not_not.1 hn
        repeat' (first | (apply AWP.go ok; rfl; conv => whnf) | (refine get_mkB (enc := enB) (v := rows[Q0[i].toNat][k]) (by rfl) hx.1 hx.2 ?_; conv => whnf) | (refine z43 (i := i) (by rfl) hg ?_; conv => whnf) | (apply And.intro; (first | omega | (unfold inI; omega) | ((try dsimp only); simp only [List.length_map, List.length_take, List.length_append, List.length_replicate, List.length_cons, List.length_nil]; omega) | exact ⟨rfl, z21 rfl z26⟩); conv => whnf) | (with_reducible apply z13; omega; intro _; conv => whnf) | (with_reducible apply z45; omega; intro _; conv => whnf) | (apply z8 <;> intro _ <;> conv => whnf) | (apply z30 <;> intro _ <;> conv => whnf))
        all_goals first | (exfalso; omega) | (exfalso; simp_all; done) | skip
        rw [visit_old hn] at hv
        exact z116 (k + 1) [0, 1] (by omega) (by omega) ⟨rfl, by decide, rfl, ⟨⟨rfl, rfl⟩, ⟨rfl, rfl⟩, ⟨rfl, env_sref (by rw [hv]) rfl⟩, ⟨rfl, rfl⟩, ⟨rfl, rfl⟩, trivial⟩, ⟨z70 (z106 (by rw [hv])) (z4 fun _ => rfl), z70 (z106 (by rw [hv])) (z4 fun _ => rfl), trivial⟩⟩
    · repeat' (first | (apply AWP.go ok; rfl; conv => whnf) | (refine z43 (i := i) (by rfl) hg ?_; conv => whnf) | (apply And.intro; (first | omega | (unfold inI; omega)); conv => whnf) | (with_reducible apply z13; omega; intro _; conv => whnf) | (with_reducible apply z45; omega; intro _; conv => whnf) | (apply z13; omega; intro _; conv => whnf) | (apply z8 <;> intro _ <;> conv => whnf) | (apply z53 <;> intro _ <;> conv => whnf))
      all_goals first | (exfalso; omega) | skip
      rw [List.take_of_length_le (by omega)] at hgl
      refine z116 (i + 1) [0, 1] ?_ (by omega) ⟨rfl, by decide, rfl, ⟨⟨rfl, rfl⟩, ⟨rfl, rfl⟩, ⟨rfl, env_sref ?_ rfl⟩, ⟨rfl, rfl⟩, trivial⟩, ⟨z70 (z106 ?_) (z4 fun _ => rfl), z70 (z106 ?_) (z4 fun _ => rfl), trivial⟩⟩
      · rw [hb]; exact hgl
      all_goals (rw [hb, List.take_of_length_le (by omega)])
  · repeat' (first | (apply AWP.go ok; rfl; conv => whnf) | (apply z8 <;> intro _ <;> conv => whnf))
    all_goals first | (exfalso; omega) | skip
    have he : bfs rows ini i = bfsL rows ini := bfsL_end hr hi (by omega) (by omega)
    rw [he]
    exact ret_newN rfl (z4 fun _ => rfl) rfl rfl rfl

theorem l7Reach_ok (rows : List (List Int)) (ini : List Int) (hr : ∀ r ∈ rows, InN rows.length r) (hi : InN rows.length ini) (hN : rows.length ≤ 1048576) (hrl : ∀ r ∈ rows, r.length ≤ 1000000000) (hil : ini.length ≤ 1048576) : CallsA Tryz.prog 109 [lst 1 encL rows, ints ini] [] (ints (bfsL rows ini)) [] :=
  keepI (l7Reach_new rows ini hr hi hN hrl hil) rfl
end Go.Proofs.YtknlmbniicacmaaGreat

namespace Go.Proofs.YtknlmbniicacmaaGreat
open Go.Gl
attribute [local irreducible] z48 AWP z76 z84 z81

theorem prod_facts {g : Graph} {a : Aut} (hG : GB g) (hA : AutP a) (ls : List Int) : (∀ r ∈ z62 g ls a, InN (z62 g ls a).length r) ∧ InN (z62 g ls a).length a.ini ∧ (z62 g ls a).length ≤ 3840 ∧ (∀ r ∈ z62 g ls a, r.length ≤ 1000000000) ∧ a.ini.length ≤ 1048576 := by
  have hrl : (z62 g ls a).length = g.st.length * a.acc.length := by unfold z62; rw [z119, Nat.mul_comm]
  have hN := z131 (a := (g.st.length : Int)) (b := (a.acc.length : Int)) (A := 60) (B := 64) (by omega) (by have := hG.1; omega) (by omega) (by have := hA.1; omega)
  have hN2 : ((g.st.length * a.acc.length : Nat) : Int) = (g.st.length : Int) * a.acc.length := by simp
  have ha1 := hA.1
  refine ⟨fun r hr x hx => ?_, fun x hx => ?_, by omega, fun r hr => ?_, ?_⟩
  · rw [hrl]; exact prodRows_lt g hG ls a hA r hr x hx
  · obtain ⟨i, hi, rfl⟩ := List.mem_iff_getElem.1 hx
    have h1 := (hA.2.2.1 i hi hi).1
    have h2 := z131 (a := (g.st.length : Int) - 1) (b := (a.acc.length : Int)) (A := 60) (B := 64) (by have := hG.1; omega) (by have := hG.1; omega) (by omega) (by omega)
    rw [Int.sub_mul, Int.one_mul] at h2
    omega
  · have := prodRows_len g hG ls a hA r hr; omega
  · have := hA.2.2.1.le (by omega); omega

/-- which nodes of the product can be reached -/
noncomputable def prB (g : Graph) (l : List Tree) (a : Aut) : List Bool := if (glB g l && autB a) = true then reachB (z62 g (g.st.map (z68 l)) a) a.ini else []
end Go.Proofs.YtknlmbniicacmaaGreat

namespace Go.Proofs.YtknlmbniicacmaaGreat
open Go.Gl
attribute [local irreducible] z48 AWP z76 z84 z81

/-! certificates: owned copies and marks -/
structure Cert.ok (c : Cert) : Prop where
  mx : c.mx
  len : c.ranks.length ≤ 1048576
theorem Cert.ok_of {c : Cert} (h : c.mx) (h1 : c.s1 ≤ 1048576) : c.ok := ⟨h, h1⟩
end Go.Proofs.YtknlmbniicacmaaGreat

namespace Go.Proofs.YtknlmbniicacmaaGreat
open Go.Gl
attribute [local irreducible] z48 AWP z76 z84 z81

theorem bor_tup {objs : Nat → AObj} {π Bn : List Nat} {xs ys : List AC} (h : borL objs π Bn xs = ys) : bor objs π Bn (.tup xs) = .tup ys := by
  simp only [bor, h]
end Go.Proofs.YtknlmbniicacmaaGreat

namespace Go.Proofs.YtknlmbniicacmaaGreat
open Go.Gl
attribute [local irreducible] z48 AWP z76 z84 z81 RetS z103

theorem trA_len (t : Tree) (hs : t.sz ≤ 200) : (trA t).ini.length ≤ 32 ∧ (trA t).acc.length ≤ 66 ∧ (trA t).ed.length ≤ 2080 := by
  unfold trA trO
  by_cases h : bscB t = true
  · rw [if_pos h]
    obtain ⟨⟨ht, hn⟩, h5⟩ := of_decide_eq_true (show decide _ = true from h)
    have hp := pow_5 h5
    have hi := iniS_len (bscL (t.nrm false)) (t.nrm false)
    cases hS : trS (bscL (t.nrm false)) (t.nrm false) with
    | none => exact ⟨Nat.zero_le _, Nat.zero_le _, Nat.zero_le _⟩
    | some y =>
      have hg := goS_len _ _ _ _ _ _ hS
      simp only [List.length_nil] at hg
      show (numI _).length ≤ 32 ∧ (if y.L.length = 0 then [false] else y.acc).length ≤ 66 ∧ (y.ed.map eT).length ≤ 2080
      rw [numI_len, List.length_map]
      refine ⟨by omega, ?_, by omega⟩
      split
      · simp
      · omega
  · rw [if_neg h]; exact ⟨Nat.zero_le _, Nat.zero_le _, Nat.zero_le _⟩
theorem letB_lt {B : List Tree} (hB : BasL B) (s : Int) (i : Nat) : ((List.range i).foldl (atoI B s) (0, 0)).2 < 8 := by
  induction i with
  | zero => show 0 < 8; omega
  | succ i ih =>
    rw [atoI_foldl]
    unfold atoI
    split
    · rename_i hk
      dsimp only
      split
      · by_cases hil : i < B.length
        · have hmem : B.getD i dftT ∈ B := by rw [z50 hil]; exact List.getElem_mem _
          have hform := hB.form hmem
          have hvv : (B.getD i dftT).val.toNat ≤ 2 := by
            generalize B.getD i dftT = f at *
            cases hform with
            | «at» v => have := hB.av v hmem; show v.toNat ≤ 2; omega
            | nx a _ _ => simp [Tree.kind] at hk
            | un a b _ _ _ _ => simp [Tree.kind] at hk
            | re a b _ _ _ _ => simp [Tree.kind] at hk
          exact orP_lt ih hvv
        · rw [List.getD_eq_getElem?_getD, List.getElem?_eq_none (by omega)]
          exact orP_lt ih (show (0 : Nat) ≤ 2 by omega)
      · exact ih
    · exact ih
theorem edge_val (B : List Tree) (s ph : Int) (i : Nat) (c v : Int) : ∀ (l : List Nat) (x : List (List Int) × List Edg), ∀ e ∈ (l.foldl (edgeS B s ph i c v) x).2, e ∈ x.2 ∨ e.val = v
  | [], x, e, he => .inl he
  | t :: l, x, e, he => by
    rw [List.foldl_cons] at he
    rcases edge_val B s ph i c v l _ e he with h | h
    · unfold edgeS at h
      split at h
      · rcases List.mem_append.1 h with h1 | h1
        · exact .inl h1
        · rw [List.mem_singleton.1 h1]; exact .inr rfl
      · exact .inl h
    · exact .inr h
theorem goS_val (B : List Tree) (U : List Int) : ∀ (f i : Nat) (x y : TrS), goS B U f i x = some y → ∀ e ∈ y.ed, e ∈ x.ed ∨ ∃ s, e.val = ((letB B s).2 : Int)
  | 0, i, x, y, h => by simp [goS] at h
  | f + 1, i, x, y, h => by
    rw [goS] at h
    split at h
    · split at h
      · cases h
      · intro e he
        rcases goS_val B U f (i + 1) _ y h e he with h1 | h1
        · rcases edge_val B _ _ i _ _ _ _ e h1 with h2 | h2
          · exact .inl h2
          · exact .inr ⟨_, h2⟩
        · exact .inr h1
    · cases h
      exact fun e he => .inl he
theorem trA_val (t : Tree) (hs : t.sz ≤ 200) : ∀ e ∈ (trA t).ed, e.mx := by
  unfold trA trO
  by_cases h : bscB t = true
  · rw [if_pos h]
    obtain ⟨⟨ht, hn⟩, h5⟩ := of_decide_eq_true (show decide _ = true from h)
    obtain ⟨hB, _, _⟩ := basL_of ht hn h5 hs
    cases hS : trS (bscL (t.nrm false)) (t.nrm false) with
    | none => intro e he; cases he
    | some y =>
      intro e he
      obtain ⟨e', he', rfl⟩ := List.mem_map.1 (show e ∈ y.ed.map eT from he)
      rcases goS_val _ _ _ _ _ _ hS e' he' with h1 | ⟨s, h1⟩
      · cases h1
      · have := letB_lt hB s (bscL (t.nrm false)).length
        show inI e'.val
        unfold inI
        rw [h1]
        unfold letB
        omega
  · rw [if_neg h]; intro e he; cases he
end Go.Proofs.YtknlmbniicacmaaGreat

