/- Existential always-formulas have witnesses: a witness exists exactly if the state satisfies the existential always-formula. The law FnWitnessAlwaysExists returns true at every input and leaves its input as it was. No condition. -/
import Derived.Test.YtppafngcahgagaaGreatG0
import Derived.Test.YtppafngcahgagaaGreatG1
import Derived.Test.YtppafngcahgagaaGreatG2
import Derived.Test.YtppafngcahgagaaGreatP0
import Derived.Test.YtppafngcahgagaaGreatP1
import Derived.Test.YtppafngcahgagaaGreatP2
import Derived.Test.YtppafngcahgagaaGreatP3
import Derived.Test.YtppafngcahgagaaGreatP8
import Derived.Test.YtppafngcahgagaaGreatP9
import Derived.Test.YtppafngcahgagaaGreatP10
import Derived.Test.YtppafngcahgagaaGreatP11
import Derived.Test.YtppafngcahgagaaGreatP12
import Derived.Test.YtppafngcahgagaaGreatP13
set_option linter.all false
namespace Go.Proofs.YtppafngcahgagaaGreat
open Go.Gl
attribute [local irreducible] z85 AWP z100 z108 z104 RetS z118
theorem witA1_ok (g : Graph) (hG : GB g) (a : List Bool) (ha : a.length = g.st.length) (i : Nat) (S : List Bool) (hi : i < g.st.length) (hS : S.length = g.st.length) : CallsA Tryz.prog 64 [.int i, lst 1 enB S, .pt [lst 1 enB a], .pt g.cs] [] (.bool (alH g.nx false a i S)) [] := by
  have h60 := hG.1.2
  have g1 := z121 (S := a) (i := i) (by omega)
  have c1 := z424 g hG S hS i hi
  unfold alH
  generalize gB a i = p at *
  refine z69 z82 Tryz.func64 rfl rfl 17 Tryz.ntmps64 (by simp) ?_
  cases p
  all_goals
    repeat' ((first|(apply AWP.go ok;rfl)|(apply z35;kernel_rfl)|(refine z80 (i := i) rfl g1 ?_)|(apply And.intro;first|omega|(unfold inI;omega)|(dsimp only;omega)|((try dsimp only);simp only [List.length_map, List.length_take, List.length_append, List.length_replicate, List.length_cons, List.length_nil];omega)|exact z6 (fun _ => rfl)|exact ⟨rfl, z13 rfl z19⟩|exact ⟨rfl, z6 (fun _ => rfl) _⟩|exact ⟨⟨rfl, by omega⟩, z6 (fun _ => rfl) _⟩)|((first|(with_reducible apply z9;omega)|(with_reducible apply z20;omega)|(apply z9;omega));intro _)|(apply z21;omega)|apply z28|(apply z27;omega;intro _)|((first|apply z26|apply z18|apply z25|apply z36|apply z16|apply z11|apply z17|apply z24) <;> intro _)|(apply z48 (c1);rfl;rfl)) <;> conv => whnf)
    all_goals first|(exfalso;omega)|(refine RetS.lay [] [] rfl rfl rfl ?_;refine RetS.done ?_ ?_ <;> (repeat' (first|exact LocLe.refl _|exact z38|(refine z62 ?_;assumption)|exact z46|exact F2.nil|apply F2.cons|exact z59 _|exact z50 _|exact z78|exact f22_cs'|(refine z73 ?_;omega)|(refine z76 ?_;omega)|(refine z33 ?_;omega)|(refine z77 ?_;omega)|(refine z55 ?_;(first|omega|(simp;done)|(simp;omega)))|apply ObjLe.box|((first|refine z44 rfl ?_ ?_|refine z45 rfl rfl ?_ ?_|refine z52 rfl ?_ ?_|refine z34 rfl ?_ ?_);(focus ((repeat' (first|exact z10|exact z5 rfl|exact z4 (fun _ => rfl)|exact z4 Tree.co_flat|exact z41 rfl z10|apply z7|apply z14|(refine z47 ?_ _ rfl)|assumption));done)))|(refine z34 rfl ?_ ?_;(focus (refine z23 ?_ ?_ rfl <;> first|(simp;omega)|(apply z14;exact z4 fun _ => rfl))))|(refine z31 ?_ ?_;(focus (simp;omega)))|(refine z79 (by omega) (by omega) ?_)|(refine z75 (by omega) ?_)|(refine z61 (by omega) ?_)|(refine z63 ?_;(first|omega|(simp;done)))|(refine z60 ?_ ?_;(focus (first|omega|(simp;done))))|(refine z65 ?_ ?_;(focus (simp;done)))|(refine z64 ?_)|((first|apply z51 rfl rfl rfl|apply z43 rfl rfl rfl);(focus ((repeat (first|exact z40 (fun _ => rfl) _|exact z37 _|apply z42|apply z53|apply z54|rfl));done));(focus ((first|rfl|(simp;omega)|(simp;done));done)))|apply z74|apply z72|(apply z32;rfl)|(refine z32 ?_ ?_;(focus (simp;done)))|apply ObjLe.mk|exact True.intro|apply And.intro)))
theorem witA2_ok (S : List Bool) (x : Int) (h0 : 0 ≤ x) (h1 : x < S.length) (hS : S.length ≤ 1048576) : CallsA Tryz.prog 69 [.int x, .pt [lst 1 enB S]] [] (.bool (gB S x.toNat)) [] := by
  have g1 := z121 (S := S) (i := x.toNat) (by omega)
  generalize gB S x.toNat = p at *
  refine z69 z82 Tryz.func69 rfl rfl 8 Tryz.ntmps69 (by simp) ?_
  repeat' ((first|(apply AWP.go ok;rfl)|(apply z35;kernel_rfl)|(refine z80 (i := x.toNat) rfl g1 ?_)|(apply And.intro;first|omega|(unfold inI;omega)|(dsimp only;omega)|((try dsimp only);simp only [List.length_map, List.length_take, List.length_append, List.length_replicate, List.length_cons, List.length_nil];omega)|exact z6 (fun _ => rfl)|exact ⟨rfl, z13 rfl z19⟩|exact ⟨rfl, z6 (fun _ => rfl) _⟩|exact ⟨⟨rfl, by omega⟩, z6 (fun _ => rfl) _⟩)|((first|(with_reducible apply z9;omega)|(with_reducible apply z20;omega)|(apply z9;omega));intro _)|(apply z21;omega)|apply z28|(apply z27;omega;intro _)|((first|apply z26|apply z18|apply z25|apply z36|apply z16|apply z11|apply z17|apply z24) <;> intro _)) <;> conv => whnf)
  all_goals (refine RetS.lay [] [] rfl rfl rfl ?_;refine RetS.done ?_ ?_ <;> (repeat' (first|exact LocLe.refl _|exact z38|(refine z62 ?_;assumption)|exact z46|exact F2.nil|apply F2.cons|exact z59 _|exact z50 _|exact z78|exact f22_cs'|(refine z73 ?_;omega)|(refine z76 ?_;omega)|(refine z33 ?_;omega)|(refine z77 ?_;omega)|(refine z55 ?_;(first|omega|(simp;done)|(simp;omega)))|apply ObjLe.box|((first|refine z44 rfl ?_ ?_|refine z45 rfl rfl ?_ ?_|refine z52 rfl ?_ ?_|refine z34 rfl ?_ ?_);(focus ((repeat' (first|exact z10|exact z5 rfl|exact z4 (fun _ => rfl)|exact z4 Tree.co_flat|exact z41 rfl z10|apply z7|apply z14|(refine z47 ?_ _ rfl)|assumption));done)))|(refine z34 rfl ?_ ?_;(focus (refine z23 ?_ ?_ rfl <;> first|(simp;omega)|(apply z14;exact z4 fun _ => rfl))))|(refine z31 ?_ ?_;(focus (simp;omega)))|(refine z79 (by omega) (by omega) ?_)|(refine z75 (by omega) ?_)|(refine z61 (by omega) ?_)|(refine z63 ?_;(first|omega|(simp;done)))|(refine z60 ?_ ?_;(focus (first|omega|(simp;done))))|(refine z65 ?_ ?_;(focus (simp;done)))|(refine z64 ?_)|((first|apply z51 rfl rfl rfl|apply z43 rfl rfl rfl);(focus ((repeat (first|exact z40 (fun _ => rfl) _|exact z37 _|apply z42|apply z53|apply z54|rfl));done));(focus ((first|rfl|(simp;omega)|(simp;done));done)))|apply z74|apply z72|(apply z32;rfl)|(refine z32 ?_ ?_;(focus (simp;done)))|apply ObjLe.mk|exact True.intro|apply And.intro)))
theorem z561 {α : Type} (p : α → Bool) (l : List α) (h : 0 ≤ idxF p l) : (idxF p l).toNat < l.length := by
  unfold idxF at h ⊢
  split at h
  · rename_i i e
    obtain ⟨h, _, _⟩ := List.findIdx?_eq_some_iff_getElem.1 e
    simpa [e] using h
  · simp at h
theorem idxF_at {α : Type} (p : α → Bool) (l : List α) (d : α) (h : 0 ≤ idxF p l) : p (l.getD (idxF p l).toNat d) = true := by
  unfold idxF at h ⊢
  split at h
  · rename_i i e
    obtain ⟨h, hp, _⟩ := List.findIdx?_eq_some_iff_getElem.1 e
    simp only [e, Int.toNat_natCast]
    rw [z107 h];exact hp
  · simp at h
def wStep (nx : List (List Int)) (S : List Bool) (x : Int) : Int := (nx.getD x.toNat []).getD (idxF (fun t : Int => gB S t.toNat) (nx.getD x.toNat [])).toNat 0
def wGo (nx : List (List Int)) (S : List Bool) : Nat → List Int → Int → List Int × List Int
  | 0, path, _ => (path, [0])
  | f + 1, path, x => if 0 ≤ idxF (fun y => decide (x = y)) path then (path.take (idxF (fun y => decide (x = y)) path).toNat, path.drop (idxF (fun y => decide (x = y)) path).toNat) else wGo nx S f (path ++ [x]) (wStep nx S x)
theorem wGo_pos (nx : List (List Int)) (S : List Bool) : ∀ (f : Nat) (path : List Int) (x : Int), 1 ≤ (wGo nx S f path x).2.length := by
  intro f
  induction f with
  | zero => intro path x;simp [wGo]
  | succ f ih =>
    intro path x
    rw [wGo]
    split
    · rename_i h
      have := z561 _ _ h
      simp only [List.length_drop]
      omega
    · exact ih _ _
structure WalkI (n : Nat) (S : List Bool) (path : List Int) (x : Int) : Prop where
  nd : path.Nodup
  inN : InN n path
  lo : 0 ≤ x
  hi : x < n
  set : gB S x.toNat = true
theorem WalkI.len {n : Nat} {S : List Bool} {path : List Int} {x : Int} (h : WalkI n S path x) : path.length ≤ n := z679 n path h.nd h.inN
theorem WalkI.step {n : Nat} {S : List Bool} {path : List Int} {x y : Int} (h : WalkI n S path x) (hx : ¬ 0 ≤ idxF (fun y => decide (x = y)) path) (h0 : 0 ≤ y) (h1 : y < n) (hs : gB S y.toNat = true) : WalkI n S (path ++ [x]) y := by
  have hn : x ∉ path := fun hm => by
    have e := z181 (fun y => decide (x = y)) path
    rw [decide_eq_false hx] at e
    have := List.any_eq_false.1 e.symm x hm
    simp at this
  refine ⟨?_, fun z hz => ?_, h0, h1, hs⟩
  · rw [List.nodup_append]
    exact ⟨h.nd, by simp, fun a ha b hb => by rintro rfl;rw [List.mem_singleton.1 hb] at ha;exact hn ha⟩
  · rcases List.mem_append.1 hz with hz|hz
    · exact h.inN z hz
    · rw [List.mem_singleton.1 hz];exact ⟨h.lo, h.hi⟩
theorem z662 (l : List Int) (i : Nat) (h : i ≤ l.length) : AC.list 1 ((i : Int).toNat - Int.toNat 0) (List.take ((i : Int).toNat - Int.toNat 0) (List.drop (Int.toNat 0) (List.map enI l))) = ints (l.take i) := by
  show _ = AC.list 1 (l.take i).length ((l.take i).map enI)
  simp [List.map_take, Nat.min_eq_left h]
theorem z663 (l : List Int) (i : Nat) : AC.list 1 ((l.length : Int).toNat - (i : Int).toNat) (List.take ((l.length : Int).toNat - (i : Int).toNat) (List.drop (i : Int).toNat (List.map enI l))) = ints (l.drop i) := by
  show _ = AC.list 1 (l.drop i).length ((l.drop i).map enI)
  rw [Int.toNat_natCast, Int.toNat_natCast, ← List.map_drop, List.take_of_length_le (by simp), List.length_drop]
set_option maxHeartbeats 3200000 in
theorem witA_ok (g : Graph) (hg : g.mx) (hG : GB g) (A : List Bool) (hA : A.length = g.st.length) (i : Nat) (hi : i < g.st.length) : ∃ (s l : List Int), 1 ≤ l.length ∧ CallsA Tryz.prog 19 [.agg g.cs, lst 1 enB A, .int i] [] (.tup [.agg (if gB (lim true (alH g.nx false A) g.st.length) i then [ints s, ints l] else [ints [], ints []]), .bool (gB (lim true (alH g.nx false A) g.st.length) i)]) [] := by
  have h60 := hG.1.2
  have hnx : g.nx.length = g.st.length := hG.2.1
  have cv := z278 g hg
  rw [(z129 g).2 hG] at cv
  have ci := z364 i 0 (g.st.length - 1)
  have eb : btw (i : Int) 0 ((g.st.length : Int) - 1) = true := by rw [z49];omega
  rw [eb] at ci
  have hmo : z381 true (alH g.nx false A) g.st.length := z248 hG.inN A
  have cf := z365 [lst 1 enB A] g.cs g (by omega) true (alH g.nx false A) hmo 64 (fun i S hi hS => witA1_ok g hG A hA i S hi hS)
  have hSl := z354 hmo
  have hfx : ∀ j, j < g.st.length → gB (lim true (alH g.nx false A) g.st.length) j = alH g.nx false A j (lim true (alH g.nx false A) g.st.length) := fun j hj => lim_fix hmo hj
  generalize lim true (alH g.nx false A) g.st.length = S at *
  have hgi := z121 (S := S) (i := i) (by omega)
  have hwp := wGo_pos g.nx S (g.st.length + 1) [] i
  refine ⟨(wGo g.nx S (g.st.length + 1) [] i).1, (wGo g.nx S (g.st.length + 1) [] i).2, hwp, ?_⟩
  generalize hR : wGo g.nx S (g.st.length + 1) [] i = R at *
  by_cases hs : gB S i = true
  · rw [hs] at hgi ⊢
    rw [if_pos rfl]
    refine z69 z82 Tryz.func19 rfl rfl 75 Tryz.ntmps19 (by simp) ?_
    repeat' ((first|(apply AWP.go ok;rfl)|(apply z35;kernel_rfl)|(refine z80 (i := i) rfl hgi ?_)|(apply And.intro;first|omega|(unfold inI;omega)|(dsimp only;omega)|((try dsimp only);simp only [List.length_map, List.length_take, List.length_append, List.length_replicate, List.length_cons, List.length_nil];omega)|exact z6 (fun _ => rfl)|exact ⟨rfl, z13 rfl z19⟩|exact ⟨rfl, z6 (fun _ => rfl) _⟩|exact ⟨⟨rfl, by omega⟩, z6 (fun _ => rfl) _⟩)|((first|(with_reducible apply z9;omega)|(with_reducible apply z20;omega)|(apply z9;omega));intro _)|(apply z21;omega)|apply z28|(apply z27;omega;intro _)|((first|apply z26|apply z18|apply z25|apply z36|apply z16|apply z11|apply z17|apply z24) <;> intro _)|(apply z48 (cv);rfl;rfl)|(apply z48 (ci);rfl;rfl)|((first|(apply z29 [] [0, 1] [3] (cf);rfl;(focus ((repeat' first|exact z15|apply z12) <;> first|rfl|(refine z22 rfl ?_;(first|exact z4 fun _ => rfl|exact z10|exact z5 rfl|(apply z7 <;> exact z4 fun _ => rfl)|assumption))))));rfl;rfl;rfl;rfl;rfl;(focus ((repeat' first|exact z66|apply z56) <;> first|exact z68|exact z71 rfl rfl|(refine z67 ?_;(first|exact z4 fun _ => rfl|exact z10|exact z5 rfl|(apply z7 <;> exact z4 fun _ => rfl)|assumption))));(first|exact .inl rfl|(refine .inr ⟨rfl, ?_⟩;repeat' first|exact True.intro|apply And.intro|exact rfl|exact z39 (fun _ => rfl) _)))) <;> conv => whnf)
    all_goals first|(exfalso;omega)|(exfalso;contradiction)|skip
    refine AWP.reach (Reach.empty 1 rfl) ?_
    refine z167 (fun x : List Int × Int => ([(3, .ptr 0 none 0), (6, .ptr 1 none 0), (9, .ptr 2 none 0), (10, .sref 3 0 x.1.length), (11, .int x.2)], [.cells 2 [g.cs], .cells 2 [[.nils, .nils]], .cells 1 [[lst 1 enB S]], .cells 1 (x.1.map enI)])) (fun x => WalkI g.st.length S x.1 x.2 ∧ wGo g.nx S (g.st.length + 1 - x.1.length) x.1 x.2 = R) (fun x => g.st.length + 1 - x.1.length) ([], (i : Int)) ⟨⟨List.nodup_nil, (fun z hz => by cases hz), by show (0 : Int) ≤ i;omega, by show (i : Int) < _;omega, hs⟩, hR⟩ (by refine SealW.reach [0, 2, 4, 5] [3] rfl rfl rfl rfl ?_ ?_ <;> (repeat' (first|exact LocLe.refl _|exact z38|(refine z62 ?_;assumption)|exact z46|exact F2.nil|apply F2.cons|exact z59 _|exact z50 _|exact z78|exact f22_cs'|(refine z73 ?_;omega)|(refine z76 ?_;omega)|(refine z33 ?_;omega)|(refine z77 ?_;omega)|(refine z55 ?_;(first|omega|(simp;done)|(simp;omega)))|apply ObjLe.box|((first|refine z44 rfl ?_ ?_|refine z45 rfl rfl ?_ ?_|refine z52 rfl ?_ ?_|refine z34 rfl ?_ ?_);(focus ((repeat' (first|exact z10|exact z5 rfl|exact z4 (fun _ => rfl)|exact z4 Tree.co_flat|exact z41 rfl z10|apply z7|apply z14|(refine z47 ?_ _ rfl)|assumption));done)))|(refine z34 rfl ?_ ?_;(focus (refine z23 ?_ ?_ rfl <;> first|(simp;omega)|(apply z14;exact z4 fun _ => rfl))))|(refine z31 ?_ ?_;(focus (simp;omega)))|(refine z79 (by omega) (by omega) ?_)|(refine z75 (by omega) ?_)|(refine z61 (by omega) ?_)|(refine z63 ?_;(first|omega|(simp;done)))|(refine z60 ?_ ?_;(focus (first|omega|(simp;done))))|(refine z65 ?_ ?_;(focus (simp;done)))|(refine z64 ?_)|((first|apply z51 rfl rfl rfl|apply z43 rfl rfl rfl);(focus ((repeat (first|exact z40 (fun _ => rfl) _|exact z37 _|apply z42|apply z53|apply z54|rfl));done));(focus ((first|rfl|(simp;omega)|(simp;done));done)))|apply z74|apply z72|(apply z32;rfl)|(refine z32 ?_ ?_;(focus (simp;done)))|apply ObjLe.mk|exact True.intro|apply And.intro))) ?_
    rintro ⟨path, x⟩ ⟨hI, hw⟩
    dsimp only at hI hw ⊢
    have hpl := hI.len
    have hx0 := hI.lo
    have hx1 := hI.hi
    have hxn : x.toNat < g.nx.length := by omega
    have cI := z361 path (by unfold maxLen;omega) x
    rw [show g.st.length + 1 - path.length = (g.st.length - path.length) + 1 by omega, wGo] at hw
    by_cases hk : 0 ≤ idxF (fun y => decide (x = y)) path
    · rw [if_pos hk] at hw
      have hlt := z561 _ _ hk
      obtain ⟨j, hj⟩ : ∃ j : Nat, idxF (fun y => decide (x = y)) path = (j : Int) := ⟨_, (Int.toNat_of_nonneg hk).symm⟩
      rw [hj] at hw hlt cI
      rw [Int.toNat_natCast] at hw hlt
      subst hw
      have k1 : CallsA Tryz.prog 67 [AC.list 1 ((j : Int).toNat - Int.toNat 0) (List.take ((j : Int).toNat - Int.toNat 0) (List.drop (Int.toNat 0) (List.map enI path)))] [] (ints (path.take j)) [] := by
        rw [z662 path j (by omega)]
        exact z309 (path.take j) (by simp;omega)
      have k2 : CallsA Tryz.prog 67 [AC.list 1 ((path.length : Int).toNat - (j : Int).toNat) (List.take ((path.length : Int).toNat - (j : Int).toNat) (List.drop (j : Int).toNat (List.map enI path)))] [] (ints (path.drop j)) [] := by
        rw [z663 path j]
        exact z309 (path.drop j) (by simp;omega)
      clear hk hj
      repeat' ((first|((fail_if_success apply z400 11);(fail_if_success apply z289 11);apply AWP.go ok;rfl)|(apply z35;kernel_rfl)|(apply And.intro;first|omega|(unfold inI;omega)|(dsimp only;omega)|((try dsimp only);simp only [List.length_map, List.length_take, List.length_append, List.length_replicate, List.length_cons, List.length_nil];omega)|exact z6 (fun _ => rfl)|exact ⟨rfl, z13 rfl z19⟩|exact ⟨rfl, z6 (fun _ => rfl) _⟩|exact ⟨⟨rfl, by omega⟩, z6 (fun _ => rfl) _⟩)|((first|(with_reducible apply z9;omega)|(with_reducible apply z20;omega)|(apply z9;omega));intro _)|(apply z21;omega)|apply z28|(apply z27;omega;intro _)|((first|apply z26|apply z18|apply z25|apply z36|apply z16|apply z11|apply z17|apply z24) <;> intro _)|((first|(apply z29 [] [3] [] (cI);(focus (exact z93 (z152 rfl rfl rfl) (z93 rfl z133)));(focus ((repeat' first|exact z15|apply z12) <;> first|rfl|(refine z22 rfl ?_;(first|exact z4 fun _ => rfl|exact z10|exact z5 rfl|(apply z7 <;> exact z4 fun _ => rfl)|assumption))))));rfl;rfl;rfl;rfl;rfl;(focus ((repeat' first|exact z66|apply z56) <;> first|exact z68|exact z71 rfl rfl|(refine z67 ?_;(first|exact z4 fun _ => rfl|exact z10|exact z5 rfl|(apply z7 <;> exact z4 fun _ => rfl)|assumption))));(first|exact .inl rfl|(refine .inr ⟨rfl, ?_⟩;repeat' first|exact True.intro|apply And.intro|exact rfl|exact z39 (fun _ => rfl) _)))) <;> conv => whnf)
      all_goals first|(exfalso;omega)|(exfalso;contradiction)|skip
      refine AWP.reach (SealW.reach (env := [(6, .ptr 1 none 0), (10, ints path), (12, .int j)]) (objs := [.cells 2 [g.cs], .cells 2 [[.nils, .nils]]]) [0, 1] [3] rfl rfl rfl rfl ?_ ?_) ?_
      · (repeat' (first|exact LocLe.refl _|exact z38|(refine z62 ?_;assumption)|exact z46|exact F2.nil|apply F2.cons|exact z59 _|exact z50 _|exact z78|exact f22_cs'|(refine z73 ?_;omega)|(refine z76 ?_;omega)|(refine z33 ?_;omega)|(refine z77 ?_;omega)|(refine z55 ?_;(first|omega|(simp;done)|(simp;omega)))|apply ObjLe.box|((first|refine z44 rfl ?_ ?_|refine z45 rfl rfl ?_ ?_|refine z52 rfl ?_ ?_|refine z34 rfl ?_ ?_);(focus ((repeat' (first|exact z10|exact z5 rfl|exact z4 (fun _ => rfl)|exact z4 Tree.co_flat|exact z41 rfl z10|apply z7|apply z14|(refine z47 ?_ _ rfl)|assumption));done)))|(refine z34 rfl ?_ ?_;(focus (refine z23 ?_ ?_ rfl <;> first|(simp;omega)|(apply z14;exact z4 fun _ => rfl))))|(refine z31 ?_ ?_;(focus (simp;omega)))|(refine z79 (by omega) (by omega) ?_)|(refine z75 (by omega) ?_)|(refine z61 (by omega) ?_)|(refine z63 ?_;(first|omega|(simp;done)))|(refine z60 ?_ ?_;(focus (first|omega|(simp;done))))|(refine z65 ?_ ?_;(focus (simp;done)))|(refine z64 ?_)|((first|apply z51 rfl rfl rfl|apply z43 rfl rfl rfl);(focus ((repeat (first|exact z40 (fun _ => rfl) _|exact z37 _|apply z42|apply z53|apply z54|rfl));done));(focus ((first|rfl|(simp;omega)|(simp;done));done)))|apply z74|apply z72|(apply z32;rfl)|(refine z32 ?_ ?_;(focus (simp;done)))|apply ObjLe.mk|exact True.intro|apply And.intro))
      · (repeat' (first|exact LocLe.refl _|exact z38|(refine z62 ?_;assumption)|exact z46|exact F2.nil|apply F2.cons|exact z59 _|exact z50 _|exact z78|exact f22_cs'|(refine z73 ?_;omega)|(refine z76 ?_;omega)|(refine z33 ?_;omega)|(refine z77 ?_;omega)|(refine z55 ?_;(first|omega|(simp;done)|(simp;omega)))|apply ObjLe.box|((first|refine z44 rfl ?_ ?_|refine z45 rfl rfl ?_ ?_|refine z52 rfl ?_ ?_|refine z34 rfl ?_ ?_);(focus ((repeat' (first|exact z10|exact z5 rfl|exact z4 (fun _ => rfl)|exact z4 Tree.co_flat|exact z41 rfl z10|apply z7|apply z14|(refine z47 ?_ _ rfl)|assumption));done)))|(refine z34 rfl ?_ ?_;(focus (refine z23 ?_ ?_ rfl <;> first|(simp;omega)|(apply z14;exact z4 fun _ => rfl))))|(refine z31 ?_ ?_;(focus (simp;omega)))|(refine z79 (by omega) (by omega) ?_)|(refine z75 (by omega) ?_)|(refine z61 (by omega) ?_)|(refine z63 ?_;(first|omega|(simp;done)))|(refine z60 ?_ ?_;(focus (first|omega|(simp;done))))|(refine z65 ?_ ?_;(focus (simp;done)))|(refine z64 ?_)|((first|apply z51 rfl rfl rfl|apply z43 rfl rfl rfl);(focus ((repeat (first|exact z40 (fun _ => rfl) _|exact z37 _|apply z42|apply z53|apply z54|rfl));done));(focus ((first|rfl|(simp;omega)|(simp;done));done)))|apply z74|apply z72|(apply z32;rfl)|(refine z32 ?_ ?_;(focus (simp;done)))|apply ObjLe.mk|exact True.intro|apply And.intro))
      conv => whnf
      repeat' ((first|(apply AWP.go ok;rfl)|(apply z35;kernel_rfl)|(apply And.intro;first|omega|(unfold inI;omega)|(dsimp only;omega)|((try dsimp only);simp only [List.length_map, List.length_take, List.length_append, List.length_replicate, List.length_cons, List.length_nil];omega)|exact z6 (fun _ => rfl)|exact ⟨rfl, z13 rfl z19⟩|exact ⟨rfl, z6 (fun _ => rfl) _⟩|exact ⟨⟨rfl, by omega⟩, z6 (fun _ => rfl) _⟩)|((first|(with_reducible apply z9;omega)|(with_reducible apply z20;omega)|(apply z9;omega));intro _)|(apply z21;omega)|apply z28|(apply z27;omega;intro _)|((first|apply z26|apply z18|apply z25|apply z36|apply z16|apply z11|apply z17|apply z24) <;> intro _)|(apply z48 (k1);rfl;rfl)|(apply z48 (k2);rfl;rfl)) <;> conv => whnf)
      all_goals first|(exfalso;omega)|(exfalso;contradiction)|skip
      all_goals (refine RetS.lay [] [] rfl rfl rfl ?_;refine RetS.done ?_ ?_ <;> (repeat' (first|exact LocLe.refl _|exact z38|(refine z62 ?_;assumption)|exact z46|exact F2.nil|apply F2.cons|exact z59 _|exact z50 _|exact z78|exact f22_cs'|(refine z73 ?_;omega)|(refine z76 ?_;omega)|(refine z33 ?_;omega)|(refine z77 ?_;omega)|(refine z55 ?_;(first|omega|(simp;done)|(simp;omega)))|apply ObjLe.box|((first|refine z44 rfl ?_ ?_|refine z45 rfl rfl ?_ ?_|refine z52 rfl ?_ ?_|refine z34 rfl ?_ ?_);(focus ((repeat' (first|exact z10|exact z5 rfl|exact z4 (fun _ => rfl)|exact z4 Tree.co_flat|exact z41 rfl z10|apply z7|apply z14|(refine z47 ?_ _ rfl)|assumption));done)))|(refine z34 rfl ?_ ?_;(focus (refine z23 ?_ ?_ rfl <;> first|(simp;omega)|(apply z14;exact z4 fun _ => rfl))))|(refine z31 ?_ ?_;(focus (simp;omega)))|(refine z79 (by omega) (by omega) ?_)|(refine z75 (by omega) ?_)|(refine z61 (by omega) ?_)|(refine z63 ?_;(first|omega|(simp;done)))|(refine z60 ?_ ?_;(focus (first|omega|(simp;done))))|(refine z65 ?_ ?_;(focus (simp;done)))|(refine z64 ?_)|((first|apply z51 rfl rfl rfl|apply z43 rfl rfl rfl);(focus ((repeat (first|exact z40 (fun _ => rfl) _|exact z37 _|apply z42|apply z53|apply z54|rfl));done));(focus ((first|rfl|(simp;omega)|(simp;done));done)))|apply z74|apply z72|(apply z32;rfl)|(refine z32 ?_ ?_;(focus (simp;done)))|apply ObjLe.mk|exact True.intro|apply And.intro)))
    · rw [if_neg hk] at hw
      have gr : (g.nx.map encL)[x.toNat]? = some (encL (g.nx.getD x.toNat [])) := by rw [List.getElem?_map, List.getElem?_eq_getElem hxn, z107 hxn];rfl
      obtain ⟨r1, r2, r3⟩ := GB.rowB hG x.toNat hxn
      have hal := hfx x.toNat (by omega)
      rw [hI.set] at hal
      have hany : (g.nx.getD x.toNat []).any (fun t => gB S t.toNat) = true := by
        have := (Bool.and_eq_true_iff.1 (show (gB A x.toNat && nxB g.nx false x.toNat S) = true from hal.symm)).2
        unfold nxB at this
        exact this
      rw [← z181] at hany
      have hq := of_decide_eq_true hany
      have est : wStep g.nx S x = (g.nx.getD x.toNat []).getD (idxF (fun t : Int => gB S t.toNat) (g.nx.getD x.toNat [])).toNat 0 := rfl
      rw [← z107 hxn (d := [])] at r1 r2 r3
      generalize g.nx.getD x.toNat [] = row at *
      have cF := z259 S row (by unfold maxLen;omega) (fun t => gB S t.toNat) 69 (fun y hy => witA2_ok S y (r3 y hy).1 (by have := (r3 y hy).2;omega) (by omega))
      have hq2 := z561 _ _ hq
      have hq3 := idxF_at _ _ 0 hq
      generalize idxF (fun t : Int => gB S t.toNat) row = q at *
      have hin := r3 (row.getD q.toNat 0) (by rw [z107 hq2];exact List.getElem_mem _)
      have gv : (row.map enI)[q.toNat]? = some (enI (row.getD q.toNat 0)) := by rw [List.getElem?_map, List.getElem?_eq_getElem hq2, z107 hq2];rfl
      rw [est] at hw
      clear est
      generalize row.getD q.toNat 0 = y at *
      have hS2 := hI.step hk hin.1 hin.2 hq3
      generalize idxF (fun y => decide (x = y)) path = k at *
      repeat' ((first|(apply AWP.go ok;rfl)|(apply z35;kernel_rfl)|(refine z80 (i := x.toNat) rfl gr ?_)|(refine z80 (i := q.toNat) rfl gv ?_)|(apply And.intro;first|omega|(unfold inI;omega)|(dsimp only;omega)|((try dsimp only);simp only [List.length_map, List.length_take, List.length_append, List.length_replicate, List.length_cons, List.length_nil];omega)|exact z6 (fun _ => rfl)|exact ⟨rfl, z13 rfl z19⟩|exact ⟨rfl, z6 (fun _ => rfl) _⟩|exact ⟨⟨rfl, by omega⟩, z6 (fun _ => rfl) _⟩)|((first|(with_reducible apply z9;omega)|(with_reducible apply z20;omega)|(apply z9;omega));intro _)|(apply z21;omega)|apply z28|(apply z27;omega;intro _)|((first|apply z26|apply z18|apply z25|apply z36|apply z16|apply z11|apply z17|apply z24) <;> intro _)|((first|(apply z29 [] [3] [] (cI);(focus (exact z93 (z152 rfl rfl rfl) (z93 rfl z133)));(focus ((repeat' first|exact z15|apply z12) <;> first|rfl|(refine z22 rfl ?_;(first|exact z4 fun _ => rfl|exact z10|exact z5 rfl|(apply z7 <;> exact z4 fun _ => rfl)|assumption)))))|(apply z29 [] [2] [] (cF);rfl;(focus ((repeat' first|exact z15|apply z12) <;> first|rfl|(refine z22 rfl ?_;(first|exact z4 fun _ => rfl|exact z10|exact z5 rfl|(apply z7 <;> exact z4 fun _ => rfl)|assumption))))));rfl;rfl;rfl;rfl;rfl;(focus ((repeat' first|exact z66|apply z56) <;> first|exact z68|exact z71 rfl rfl|(refine z67 ?_;(first|exact z4 fun _ => rfl|exact z10|exact z5 rfl|(apply z7 <;> exact z4 fun _ => rfl)|assumption))));(first|exact .inl rfl|(refine .inr ⟨rfl, ?_⟩;repeat' first|exact True.intro|apply And.intro|exact rfl|exact z39 (fun _ => rfl) _)))) <;> conv => whnf)
      all_goals first|exact hq|(exfalso;omega)|(exfalso;contradiction)|skip
      all_goals refine z112 (path ++ [x], y) ⟨hS2, by rw [← hw];congr 1;simp only [List.length_append, List.length_singleton];omega⟩ (by show g.st.length + 1 - (path ++ [x]).length < g.st.length + 1 - path.length;simp only [List.length_append, List.length_singleton];omega) (by refine SealW.reach [0, 1, 2, 5] [] rfl rfl rfl rfl ?_ ?_ <;> (repeat' (first|exact LocLe.refl _|exact z38|(refine z62 ?_;assumption)|exact z46|exact F2.nil|apply F2.cons|exact z59 _|exact z50 _|exact z78|exact f22_cs'|(refine z73 ?_;omega)|(refine z76 ?_;omega)|(refine z33 ?_;omega)|(refine z77 ?_;omega)|(refine z55 ?_;(first|omega|(simp;done)|(simp;omega)))|apply ObjLe.box|((first|refine z44 rfl ?_ ?_|refine z45 rfl rfl ?_ ?_|refine z52 rfl ?_ ?_|refine z34 rfl ?_ ?_);(focus ((repeat' (first|exact z10|exact z5 rfl|exact z4 (fun _ => rfl)|exact z4 Tree.co_flat|exact z41 rfl z10|apply z7|apply z14|(refine z47 ?_ _ rfl)|assumption));done)))|(refine z34 rfl ?_ ?_;(focus (refine z23 ?_ ?_ rfl <;> first|(simp;omega)|(apply z14;exact z4 fun _ => rfl))))|(refine z31 ?_ ?_;(focus (simp;omega)))|(refine z79 (by omega) (by omega) ?_)|(refine z75 (by omega) ?_)|(refine z61 (by omega) ?_)|(refine z63 ?_;(first|omega|(simp;done)))|(refine z60 ?_ ?_;(focus (first|omega|(simp;done))))|(refine z65 ?_ ?_;(focus (simp;done)))|(refine z64 ?_)|((first|apply z51 rfl rfl rfl|apply z43 rfl rfl rfl);(focus ((repeat (first|exact z40 (fun _ => rfl) _|exact z37 _|apply z42|apply z53|apply z54|rfl));done));(focus ((first|rfl|(simp;omega)|(simp;done));done)))|apply z74|apply z72|(apply z32;rfl)|(refine z32 ?_ ?_;(focus (simp;done)))|apply ObjLe.mk|exact True.intro|apply And.intro)))
  · rw [(Bool.not_eq_true _).mp hs] at hgi ⊢
    refine z69 z82 Tryz.func19 rfl rfl 75 Tryz.ntmps19 (by simp) ?_
    repeat' ((first|(apply AWP.go ok;rfl)|(apply z35;kernel_rfl)|(refine z80 (i := i) rfl hgi ?_)|(apply And.intro;first|omega|(unfold inI;omega)|(dsimp only;omega)|((try dsimp only);simp only [List.length_map, List.length_take, List.length_append, List.length_replicate, List.length_cons, List.length_nil];omega)|exact z6 (fun _ => rfl)|exact ⟨rfl, z13 rfl z19⟩|exact ⟨rfl, z6 (fun _ => rfl) _⟩|exact ⟨⟨rfl, by omega⟩, z6 (fun _ => rfl) _⟩)|((first|(with_reducible apply z9;omega)|(with_reducible apply z20;omega)|(apply z9;omega));intro _)|(apply z21;omega)|apply z28|(apply z27;omega;intro _)|((first|apply z26|apply z18|apply z25|apply z36|apply z16|apply z11|apply z17|apply z24) <;> intro _)|(apply z48 (cv);rfl;rfl)|(apply z48 (ci);rfl;rfl)|((first|(apply z29 [] [0, 1] [3] (cf);rfl;(focus ((repeat' first|exact z15|apply z12) <;> first|rfl|(refine z22 rfl ?_;(first|exact z4 fun _ => rfl|exact z10|exact z5 rfl|(apply z7 <;> exact z4 fun _ => rfl)|assumption))))));rfl;rfl;rfl;rfl;rfl;(focus ((repeat' first|exact z66|apply z56) <;> first|exact z68|exact z71 rfl rfl|(refine z67 ?_;(first|exact z4 fun _ => rfl|exact z10|exact z5 rfl|(apply z7 <;> exact z4 fun _ => rfl)|assumption))));(first|exact .inl rfl|(refine .inr ⟨rfl, ?_⟩;repeat' first|exact True.intro|apply And.intro|exact rfl|exact z39 (fun _ => rfl) _)))) <;> conv => whnf)
    all_goals first|(exfalso;omega)|(exfalso;contradiction)|skip
    all_goals (refine RetS.lay [] [] rfl rfl rfl ?_;refine RetS.done ?_ ?_ <;> (repeat' (first|exact LocLe.refl _|exact z38|(refine z62 ?_;assumption)|exact z46|exact F2.nil|apply F2.cons|exact z59 _|exact z50 _|exact z78|exact f22_cs'|(refine z73 ?_;omega)|(refine z76 ?_;omega)|(refine z33 ?_;omega)|(refine z77 ?_;omega)|(refine z55 ?_;(first|omega|(simp;done)|(simp;omega)))|apply ObjLe.box|((first|refine z44 rfl ?_ ?_|refine z45 rfl rfl ?_ ?_|refine z52 rfl ?_ ?_|refine z34 rfl ?_ ?_);(focus ((repeat' (first|exact z10|exact z5 rfl|exact z4 (fun _ => rfl)|exact z4 Tree.co_flat|exact z41 rfl z10|apply z7|apply z14|(refine z47 ?_ _ rfl)|assumption));done)))|(refine z34 rfl ?_ ?_;(focus (refine z23 ?_ ?_ rfl <;> first|(simp;omega)|(apply z14;exact z4 fun _ => rfl))))|(refine z31 ?_ ?_;(focus (simp;omega)))|(refine z79 (by omega) (by omega) ?_)|(refine z75 (by omega) ?_)|(refine z61 (by omega) ?_)|(refine z63 ?_;(first|omega|(simp;done)))|(refine z60 ?_ ?_;(focus (first|omega|(simp;done))))|(refine z65 ?_ ?_;(focus (simp;done)))|(refine z64 ?_)|((first|apply z51 rfl rfl rfl|apply z43 rfl rfl rfl);(focus ((repeat (first|exact z40 (fun _ => rfl) _|exact z37 _|apply z42|apply z53|apply z54|rfl));done));(focus ((first|rfl|(simp;omega)|(simp;done));done)))|apply z74|apply z72|(apply z32;rfl)|(refine z32 ?_ ?_;(focus (simp;done)))|apply ObjLe.mk|exact True.intro|apply And.intro)))
end Go.Proofs.YtppafngcahgagaaGreat

namespace Go.Proofs.YtppafngcahgagaaGreat
open Go.Gl
attribute [local irreducible] z85 AWP z100 z108 z104 RetS z118
theorem al_lim {g : Graph} {l : List Tree} {f : Tree} (h0 : okB g l f = true) (h1 : okB g l (.mk 8 0 [f]) = true) : brL g l (.mk 8 0 [f]) = lim true (alH g.nx false (brL g l f)) g.st.length := by
  rw [z574 h1, z574 h0]
  exact z620 _ f 0
theorem okB_GB {g : Graph} {l : List Tree} {f : Tree} (h : okB g l f = true) : GB g := by
  have h1 := (Bool.and_eq_true_iff.1 (show (glB g l && f.brB) = true from h)).1
  exact (z129 g).1 (by unfold glB at h1;exact (Bool.and_eq_true_iff.1 h1).1)
theorem csk (f : Tree) : Tree.cs' f = [.int f.kind, .int f.val, lst 3 Tree.cs' f.kids] := AC.agg.inj (Tree.arg_eq f)
set_option maxHeartbeats 6400000 in
theorem z199 (c : List Int) (hc : CodeOk c) : CallsA Tryz.prog 3 [lst 1 enU c] [] (.bool true) [] := by
  obtain ⟨g, l, f, ⟨hg, hl, hf⟩, cd⟩ := z708 c hc
  have hgm := hg.mx
  have hst := hg.st
  have hlen := hc.len
  unfold maxLen at hlen
  have k1 := br_ok g hg l hl f (by omega)
  have k2 := brS_ok g hg l hl f (by omega)
  have k3 := z607 (brL g l f) (brL g l f) (by have := z575 (g := g) (l := l) f;unfold maxLen;omega) (by have := z575 (g := g) (l := l) f;unfold maxLen;omega)
  rw [decide_eq_true rfl] at k3
  have n8 := br_new g hg l hl (.mk 8 0 [f]) (by rw [sz1];omega)
  by_cases h0 : okB g l f = true
  · have hS := z714 h0
    have hG := okB_GB h0
    have z8 := z575 (g := g) (l := l) (.mk 8 0 [f])
    rw [arg1, csk f] at n8
    rw [h0] at k1 k2
    rw [Tree.arg_eq] at k1 k2 cd
    have e8 : okB g l (.mk 8 0 [f]) = true → _ := z714
    have hx := fun h => al_lim h0 h
    generalize brL g l (.mk 8 0 [f]) = X8 at *
    generalize okB g l (.mk 8 0 [f]) = b8 at *
    generalize brL g l f = S at *
    by_cases h8 : b8 = true
    · have e8' := e8 h8
      have hx' := hx h8
      clear e8 hx
      subst h8
      refine z69 z82 Tryz.func3 rfl rfl 100 Tryz.ntmps3 (by simp) ?_
      repeat' ((first|(apply AWP.go ok;rfl)|(apply z35;kernel_rfl)|(apply And.intro;first|omega|(unfold inI;omega)|(dsimp only;omega)|((try dsimp only);simp only [List.length_map, List.length_take, List.length_append, List.length_replicate, List.length_cons, List.length_nil];omega)|exact z6 (fun _ => rfl)|exact ⟨rfl, z13 rfl z19⟩|exact ⟨rfl, z6 (fun _ => rfl) _⟩|exact ⟨⟨rfl, by omega⟩, z6 (fun _ => rfl) _⟩)|((first|(with_reducible apply z9;omega)|(with_reducible apply z20;omega)|(apply z9;omega));intro _)|(apply z21;omega)|apply z28|(apply z27;omega;intro _)|((first|apply z26|apply z18|apply z25|apply z36|apply z16|apply z11|apply z17|apply z24) <;> intro _)|(apply z48 (cd);rfl;rfl)|(apply z48 (k1);rfl;rfl)|(apply z48 (k2);rfl;rfl)|(apply z48 (k3);rfl;rfl)|((first|(apply z29 [] [2] [3] (n8);(focus ((repeat' first|exact z133|apply z93) <;> first|exact z152 rfl rfl rfl|exact z147 rfl rfl rfl|exact z157 rfl rfl rfl|rfl));(focus ((repeat' first|exact z15|apply z12) <;> first|rfl|(refine z22 rfl ?_;(first|exact z4 fun _ => rfl|exact z10|exact z5 rfl|(apply z7 <;> exact z4 fun _ => rfl)|assumption))))));rfl;rfl;rfl;rfl;rfl;(focus ((repeat' first|exact z66|apply z56) <;> first|exact z68|exact z71 rfl rfl|(refine z67 ?_;(first|exact z4 fun _ => rfl|exact z10|exact z5 rfl|(apply z7 <;> exact z4 fun _ => rfl)|assumption))));(first|exact .inl rfl|(refine .inr ⟨rfl, ?_⟩;repeat' first|exact True.intro|apply And.intro|exact rfl|exact z39 (fun _ => rfl) _)))) <;> conv => whnf)
      all_goals first|(exfalso;omega)|(exfalso;contradiction)|(refine RetS.lay [] [] rfl rfl rfl ?_;refine RetS.done ?_ ?_ <;> (repeat' (first|exact LocLe.refl _|exact z38|(refine z62 ?_;assumption)|exact z46|exact F2.nil|apply F2.cons|exact z59 _|exact z50 _|exact z78|exact f22_cs'|(refine z73 ?_;omega)|(refine z76 ?_;omega)|(refine z33 ?_;omega)|(refine z77 ?_;omega)|(refine z55 ?_;(first|omega|(simp;done)|(simp;omega)))|apply ObjLe.box|((first|refine z44 rfl ?_ ?_|refine z45 rfl rfl ?_ ?_|refine z52 rfl ?_ ?_|refine z34 rfl ?_ ?_);(focus ((repeat' (first|exact z10|exact z5 rfl|exact z4 (fun _ => rfl)|exact z4 Tree.co_flat|exact z41 rfl z10|apply z7|apply z14|(refine z47 ?_ _ rfl)|assumption));done)))|(refine z34 rfl ?_ ?_;(focus (refine z23 ?_ ?_ rfl <;> first|(simp;omega)|(apply z14;exact z4 fun _ => rfl))))|(refine z31 ?_ ?_;(focus (simp;omega)))|(refine z79 (by omega) (by omega) ?_)|(refine z75 (by omega) ?_)|(refine z61 (by omega) ?_)|(refine z63 ?_;(first|omega|(simp;done)))|(refine z60 ?_ ?_;(focus (first|omega|(simp;done))))|(refine z65 ?_ ?_;(focus (simp;done)))|(refine z64 ?_)|((first|apply z51 rfl rfl rfl|apply z43 rfl rfl rfl);(focus ((repeat (first|exact z40 (fun _ => rfl) _|exact z37 _|apply z42|apply z53|apply z54|rfl));done));(focus ((first|rfl|(simp;omega)|(simp;done));done)))|apply z74|apply z72|(apply z32;rfl)|(refine z32 ?_ ?_;(focus (simp;done)))|apply ObjLe.mk|exact True.intro|apply And.intro)))|skip
      refine z167 (fun i : Nat => ([(3, .ptr 0 none 0), (6, lst 1 enB S), (10, lst 1 enB X8), (12, .int i)], [.cells 2 [g.cs]])) (fun i => i ≤ X8.length) (fun i => X8.length - i) 0 (by omega) (by refine SealW.reach [0] [3] rfl rfl rfl rfl ?_ ?_ <;> (repeat' (first|exact LocLe.refl _|exact z38|(refine z62 ?_;assumption)|exact z46|exact F2.nil|apply F2.cons|exact z59 _|exact z50 _|exact z78|exact f22_cs'|(refine z73 ?_;omega)|(refine z76 ?_;omega)|(refine z33 ?_;omega)|(refine z77 ?_;omega)|(refine z55 ?_;(first|omega|(simp;done)|(simp;omega)))|apply ObjLe.box|((first|refine z44 rfl ?_ ?_|refine z45 rfl rfl ?_ ?_|refine z52 rfl ?_ ?_|refine z34 rfl ?_ ?_);(focus ((repeat' (first|exact z10|exact z5 rfl|exact z4 (fun _ => rfl)|exact z4 Tree.co_flat|exact z41 rfl z10|apply z7|apply z14|(refine z47 ?_ _ rfl)|assumption));done)))|(refine z34 rfl ?_ ?_;(focus (refine z23 ?_ ?_ rfl <;> first|(simp;omega)|(apply z14;exact z4 fun _ => rfl))))|(refine z31 ?_ ?_;(focus (simp;omega)))|(refine z79 (by omega) (by omega) ?_)|(refine z75 (by omega) ?_)|(refine z61 (by omega) ?_)|(refine z63 ?_;(first|omega|(simp;done)))|(refine z60 ?_ ?_;(focus (first|omega|(simp;done))))|(refine z65 ?_ ?_;(focus (simp;done)))|(refine z64 ?_)|((first|apply z51 rfl rfl rfl|apply z43 rfl rfl rfl);(focus ((repeat (first|exact z40 (fun _ => rfl) _|exact z37 _|apply z42|apply z53|apply z54|rfl));done));(focus ((first|rfl|(simp;omega)|(simp;done));done)))|apply z74|apply z72|(apply z32;rfl)|(refine z32 ?_ ?_;(focus (simp;done)))|apply ObjLe.mk|exact True.intro|apply And.intro))) ?_
      intro i hi
      by_cases hil : i < X8.length
      · obtain ⟨s, t, ht, cw⟩ := witA_ok g hgm hG S hS i (by omega)
        rw [← hx'] at cw
        have g8 := z121 (S := X8) (i := i) hil
        generalize gB X8 i = z at *
        cases z
        · repeat' ((first|(apply AWP.go ok;rfl)|(apply z35;kernel_rfl)|(refine z80 (i := i) rfl g8 ?_)|(apply And.intro;first|omega|(unfold inI;omega)|(dsimp only;omega)|((try dsimp only);simp only [List.length_map, List.length_take, List.length_append, List.length_replicate, List.length_cons, List.length_nil];omega)|exact z6 (fun _ => rfl)|exact ⟨rfl, z13 rfl z19⟩|exact ⟨rfl, z6 (fun _ => rfl) _⟩|exact ⟨⟨rfl, by omega⟩, z6 (fun _ => rfl) _⟩)|((first|(with_reducible apply z9;omega)|(with_reducible apply z20;omega)|(apply z9;omega));intro _)|(apply z21;omega)|apply z28|(apply z27;omega;intro _)|((first|apply z26|apply z18|apply z25|apply z36|apply z16|apply z11|apply z17|apply z24) <;> intro _)|(apply z48 (cw);rfl;rfl)) <;> conv => whnf)
          all_goals first|(exfalso;omega)|(exfalso;contradiction)|(exfalso;simp_all;done)|skip
          all_goals refine z112 (i + 1) (by omega) (by omega) (by refine SealW.reach [0] [] rfl rfl rfl rfl ?_ ?_ <;> (repeat' (first|exact LocLe.refl _|exact z38|(refine z62 ?_;assumption)|exact z46|exact F2.nil|apply F2.cons|exact z59 _|exact z50 _|exact z78|exact f22_cs'|(refine z73 ?_;omega)|(refine z76 ?_;omega)|(refine z33 ?_;omega)|(refine z77 ?_;omega)|(refine z55 ?_;(first|omega|(simp;done)|(simp;omega)))|apply ObjLe.box|((first|refine z44 rfl ?_ ?_|refine z45 rfl rfl ?_ ?_|refine z52 rfl ?_ ?_|refine z34 rfl ?_ ?_);(focus ((repeat' (first|exact z10|exact z5 rfl|exact z4 (fun _ => rfl)|exact z4 Tree.co_flat|exact z41 rfl z10|apply z7|apply z14|(refine z47 ?_ _ rfl)|assumption));done)))|(refine z34 rfl ?_ ?_;(focus (refine z23 ?_ ?_ rfl <;> first|(simp;omega)|(apply z14;exact z4 fun _ => rfl))))|(refine z31 ?_ ?_;(focus (simp;omega)))|(refine z79 (by omega) (by omega) ?_)|(refine z75 (by omega) ?_)|(refine z61 (by omega) ?_)|(refine z63 ?_;(first|omega|(simp;done)))|(refine z60 ?_ ?_;(focus (first|omega|(simp;done))))|(refine z65 ?_ ?_;(focus (simp;done)))|(refine z64 ?_)|((first|apply z51 rfl rfl rfl|apply z43 rfl rfl rfl);(focus ((repeat (first|exact z40 (fun _ => rfl) _|exact z37 _|apply z42|apply z53|apply z54|rfl));done));(focus ((first|rfl|(simp;omega)|(simp;done));done)))|apply z74|apply z72|(apply z32;rfl)|(refine z32 ?_ ?_;(focus (simp;done)))|apply ObjLe.mk|exact True.intro|apply And.intro)))
        · repeat' ((first|(apply AWP.go ok;rfl)|(apply z35;kernel_rfl)|(refine z80 (i := i) rfl g8 ?_)|(apply And.intro;first|omega|(unfold inI;omega)|(dsimp only;omega)|((try dsimp only);simp only [List.length_map, List.length_take, List.length_append, List.length_replicate, List.length_cons, List.length_nil];omega)|exact z6 (fun _ => rfl)|exact ⟨rfl, z13 rfl z19⟩|exact ⟨rfl, z6 (fun _ => rfl) _⟩|exact ⟨⟨rfl, by omega⟩, z6 (fun _ => rfl) _⟩)|((first|(with_reducible apply z9;omega)|(with_reducible apply z20;omega)|(apply z9;omega));intro _)|(apply z21;omega)|apply z28|(apply z27;omega;intro _)|((first|apply z26|apply z18|apply z25|apply z36|apply z16|apply z11|apply z17|apply z24) <;> intro _)|(apply z48 (cw);rfl;rfl)) <;> conv => whnf)
          all_goals first|(exfalso;omega)|(exfalso;contradiction)|(exfalso;simp_all;done)|skip
          all_goals refine z112 (i + 1) (by omega) (by omega) (by refine SealW.reach [0] [] rfl rfl rfl rfl ?_ ?_ <;> (repeat' (first|exact LocLe.refl _|exact z38|(refine z62 ?_;assumption)|exact z46|exact F2.nil|apply F2.cons|exact z59 _|exact z50 _|exact z78|exact f22_cs'|(refine z73 ?_;omega)|(refine z76 ?_;omega)|(refine z33 ?_;omega)|(refine z77 ?_;omega)|(refine z55 ?_;(first|omega|(simp;done)|(simp;omega)))|apply ObjLe.box|((first|refine z44 rfl ?_ ?_|refine z45 rfl rfl ?_ ?_|refine z52 rfl ?_ ?_|refine z34 rfl ?_ ?_);(focus ((repeat' (first|exact z10|exact z5 rfl|exact z4 (fun _ => rfl)|exact z4 Tree.co_flat|exact z41 rfl z10|apply z7|apply z14|(refine z47 ?_ _ rfl)|assumption));done)))|(refine z34 rfl ?_ ?_;(focus (refine z23 ?_ ?_ rfl <;> first|(simp;omega)|(apply z14;exact z4 fun _ => rfl))))|(refine z31 ?_ ?_;(focus (simp;omega)))|(refine z79 (by omega) (by omega) ?_)|(refine z75 (by omega) ?_)|(refine z61 (by omega) ?_)|(refine z63 ?_;(first|omega|(simp;done)))|(refine z60 ?_ ?_;(focus (first|omega|(simp;done))))|(refine z65 ?_ ?_;(focus (simp;done)))|(refine z64 ?_)|((first|apply z51 rfl rfl rfl|apply z43 rfl rfl rfl);(focus ((repeat (first|exact z40 (fun _ => rfl) _|exact z37 _|apply z42|apply z53|apply z54|rfl));done));(focus ((first|rfl|(simp;omega)|(simp;done));done)))|apply z74|apply z72|(apply z32;rfl)|(refine z32 ?_ ?_;(focus (simp;done)))|apply ObjLe.mk|exact True.intro|apply And.intro)))
      · repeat' ((first|(apply AWP.go ok;rfl)|(apply z35;kernel_rfl)|(apply And.intro;first|omega|(unfold inI;omega)|(dsimp only;omega)|((try dsimp only);simp only [List.length_map, List.length_take, List.length_append, List.length_replicate, List.length_cons, List.length_nil];omega)|exact z6 (fun _ => rfl)|exact ⟨rfl, z13 rfl z19⟩|exact ⟨rfl, z6 (fun _ => rfl) _⟩|exact ⟨⟨rfl, by omega⟩, z6 (fun _ => rfl) _⟩)|((first|(with_reducible apply z9;omega)|(with_reducible apply z20;omega)|(apply z9;omega));intro _)|(apply z21;omega)|apply z28|(apply z27;omega;intro _)|((first|apply z26|apply z18|apply z25|apply z36|apply z16|apply z11|apply z17|apply z24) <;> intro _)) <;> conv => whnf)
        all_goals first|(exfalso;omega)|skip
        all_goals (refine RetS.lay [] [] rfl rfl rfl ?_;refine RetS.done ?_ ?_ <;> (repeat' (first|exact LocLe.refl _|exact z38|(refine z62 ?_;assumption)|exact z46|exact F2.nil|apply F2.cons|exact z59 _|exact z50 _|exact z78|exact f22_cs'|(refine z73 ?_;omega)|(refine z76 ?_;omega)|(refine z33 ?_;omega)|(refine z77 ?_;omega)|(refine z55 ?_;(first|omega|(simp;done)|(simp;omega)))|apply ObjLe.box|((first|refine z44 rfl ?_ ?_|refine z45 rfl rfl ?_ ?_|refine z52 rfl ?_ ?_|refine z34 rfl ?_ ?_);(focus ((repeat' (first|exact z10|exact z5 rfl|exact z4 (fun _ => rfl)|exact z4 Tree.co_flat|exact z41 rfl z10|apply z7|apply z14|(refine z47 ?_ _ rfl)|assumption));done)))|(refine z34 rfl ?_ ?_;(focus (refine z23 ?_ ?_ rfl <;> first|(simp;omega)|(apply z14;exact z4 fun _ => rfl))))|(refine z31 ?_ ?_;(focus (simp;omega)))|(refine z79 (by omega) (by omega) ?_)|(refine z75 (by omega) ?_)|(refine z61 (by omega) ?_)|(refine z63 ?_;(first|omega|(simp;done)))|(refine z60 ?_ ?_;(focus (first|omega|(simp;done))))|(refine z65 ?_ ?_;(focus (simp;done)))|(refine z64 ?_)|((first|apply z51 rfl rfl rfl|apply z43 rfl rfl rfl);(focus ((repeat (first|exact z40 (fun _ => rfl) _|exact z37 _|apply z42|apply z53|apply z54|rfl));done));(focus ((first|rfl|(simp;omega)|(simp;done));done)))|apply z74|apply z72|(apply z32;rfl)|(refine z32 ?_ ?_;(focus (simp;done)))|apply ObjLe.mk|exact True.intro|apply And.intro)))
    · rw [(Bool.not_eq_true _).mp h8] at n8
      refine z69 z82 Tryz.func3 rfl rfl 100 Tryz.ntmps3 (by simp) ?_
      repeat' ((first|(apply AWP.go ok;rfl)|(apply z35;kernel_rfl)|(apply And.intro;first|omega|(unfold inI;omega)|(dsimp only;omega)|((try dsimp only);simp only [List.length_map, List.length_take, List.length_append, List.length_replicate, List.length_cons, List.length_nil];omega)|exact z6 (fun _ => rfl)|exact ⟨rfl, z13 rfl z19⟩|exact ⟨rfl, z6 (fun _ => rfl) _⟩|exact ⟨⟨rfl, by omega⟩, z6 (fun _ => rfl) _⟩)|((first|(with_reducible apply z9;omega)|(with_reducible apply z20;omega)|(apply z9;omega));intro _)|(apply z21;omega)|apply z28|(apply z27;omega;intro _)|((first|apply z26|apply z18|apply z25|apply z36|apply z16|apply z11|apply z17|apply z24) <;> intro _)|(apply z48 (cd);rfl;rfl)|(apply z48 (k1);rfl;rfl)|(apply z48 (k2);rfl;rfl)|(apply z48 (k3);rfl;rfl)|((first|(apply z29 [] [2] [3] (n8);(focus ((repeat' first|exact z133|apply z93) <;> first|exact z152 rfl rfl rfl|exact z147 rfl rfl rfl|exact z157 rfl rfl rfl|rfl));(focus ((repeat' first|exact z15|apply z12) <;> first|rfl|(refine z22 rfl ?_;(first|exact z4 fun _ => rfl|exact z10|exact z5 rfl|(apply z7 <;> exact z4 fun _ => rfl)|assumption))))));rfl;rfl;rfl;rfl;rfl;(focus ((repeat' first|exact z66|apply z56) <;> first|exact z68|exact z71 rfl rfl|(refine z67 ?_;(first|exact z4 fun _ => rfl|exact z10|exact z5 rfl|(apply z7 <;> exact z4 fun _ => rfl)|assumption))));(first|exact .inl rfl|(refine .inr ⟨rfl, ?_⟩;repeat' first|exact True.intro|apply And.intro|exact rfl|exact z39 (fun _ => rfl) _)))) <;> conv => whnf)
      all_goals first|(exfalso;omega)|(exfalso;contradiction)|(refine RetS.lay [] [] rfl rfl rfl ?_;refine RetS.done ?_ ?_ <;> (repeat' (first|exact LocLe.refl _|exact z38|(refine z62 ?_;assumption)|exact z46|exact F2.nil|apply F2.cons|exact z59 _|exact z50 _|exact z78|exact f22_cs'|(refine z73 ?_;omega)|(refine z76 ?_;omega)|(refine z33 ?_;omega)|(refine z77 ?_;omega)|(refine z55 ?_;(first|omega|(simp;done)|(simp;omega)))|apply ObjLe.box|((first|refine z44 rfl ?_ ?_|refine z45 rfl rfl ?_ ?_|refine z52 rfl ?_ ?_|refine z34 rfl ?_ ?_);(focus ((repeat' (first|exact z10|exact z5 rfl|exact z4 (fun _ => rfl)|exact z4 Tree.co_flat|exact z41 rfl z10|apply z7|apply z14|(refine z47 ?_ _ rfl)|assumption));done)))|(refine z34 rfl ?_ ?_;(focus (refine z23 ?_ ?_ rfl <;> first|(simp;omega)|(apply z14;exact z4 fun _ => rfl))))|(refine z31 ?_ ?_;(focus (simp;omega)))|(refine z79 (by omega) (by omega) ?_)|(refine z75 (by omega) ?_)|(refine z61 (by omega) ?_)|(refine z63 ?_;(first|omega|(simp;done)))|(refine z60 ?_ ?_;(focus (first|omega|(simp;done))))|(refine z65 ?_ ?_;(focus (simp;done)))|(refine z64 ?_)|((first|apply z51 rfl rfl rfl|apply z43 rfl rfl rfl);(focus ((repeat (first|exact z40 (fun _ => rfl) _|exact z37 _|apply z42|apply z53|apply z54|rfl));done));(focus ((first|rfl|(simp;omega)|(simp;done));done)))|apply z74|apply z72|(apply z32;rfl)|(refine z32 ?_ ?_;(focus (simp;done)))|apply ObjLe.mk|exact True.intro|apply And.intro)))|skip
  · rw [(Bool.not_eq_true _).mp h0] at k1 k2
    rw [arg1, csk f] at n8
    rw [Tree.arg_eq] at k1 k2 cd
    generalize brL g l (.mk 8 0 [f]) = X8 at *
    generalize okB g l (.mk 8 0 [f]) = b8 at *
    generalize brL g l f = S at *
    refine z69 z82 Tryz.func3 rfl rfl 100 Tryz.ntmps3 (by simp) ?_
    repeat' ((first|(apply AWP.go ok;rfl)|(apply z35;kernel_rfl)|(apply And.intro;first|omega|(unfold inI;omega)|(dsimp only;omega)|((try dsimp only);simp only [List.length_map, List.length_take, List.length_append, List.length_replicate, List.length_cons, List.length_nil];omega)|exact z6 (fun _ => rfl)|exact ⟨rfl, z13 rfl z19⟩|exact ⟨rfl, z6 (fun _ => rfl) _⟩|exact ⟨⟨rfl, by omega⟩, z6 (fun _ => rfl) _⟩)|((first|(with_reducible apply z9;omega)|(with_reducible apply z20;omega)|(apply z9;omega));intro _)|(apply z21;omega)|apply z28|(apply z27;omega;intro _)|((first|apply z26|apply z18|apply z25|apply z36|apply z16|apply z11|apply z17|apply z24) <;> intro _)|(apply z48 (cd);rfl;rfl)|(apply z48 (k1);rfl;rfl)|(apply z48 (k2);rfl;rfl)|(apply z48 (k3);rfl;rfl)|((first|(apply z29 [] [2] [3] (n8);(focus ((repeat' first|exact z133|apply z93) <;> first|exact z152 rfl rfl rfl|exact z147 rfl rfl rfl|exact z157 rfl rfl rfl|rfl));(focus ((repeat' first|exact z15|apply z12) <;> first|rfl|(refine z22 rfl ?_;(first|exact z4 fun _ => rfl|exact z10|exact z5 rfl|(apply z7 <;> exact z4 fun _ => rfl)|assumption))))));rfl;rfl;rfl;rfl;rfl;(focus ((repeat' first|exact z66|apply z56) <;> first|exact z68|exact z71 rfl rfl|(refine z67 ?_;(first|exact z4 fun _ => rfl|exact z10|exact z5 rfl|(apply z7 <;> exact z4 fun _ => rfl)|assumption))));(first|exact .inl rfl|(refine .inr ⟨rfl, ?_⟩;repeat' first|exact True.intro|apply And.intro|exact rfl|exact z39 (fun _ => rfl) _)))) <;> conv => whnf)
    all_goals first|(exfalso;omega)|(exfalso;contradiction)|(refine RetS.lay [] [] rfl rfl rfl ?_;refine RetS.done ?_ ?_ <;> (repeat' (first|exact LocLe.refl _|exact z38|(refine z62 ?_;assumption)|exact z46|exact F2.nil|apply F2.cons|exact z59 _|exact z50 _|exact z78|exact f22_cs'|(refine z73 ?_;omega)|(refine z76 ?_;omega)|(refine z33 ?_;omega)|(refine z77 ?_;omega)|(refine z55 ?_;(first|omega|(simp;done)|(simp;omega)))|apply ObjLe.box|((first|refine z44 rfl ?_ ?_|refine z45 rfl rfl ?_ ?_|refine z52 rfl ?_ ?_|refine z34 rfl ?_ ?_);(focus ((repeat' (first|exact z10|exact z5 rfl|exact z4 (fun _ => rfl)|exact z4 Tree.co_flat|exact z41 rfl z10|apply z7|apply z14|(refine z47 ?_ _ rfl)|assumption));done)))|(refine z34 rfl ?_ ?_;(focus (refine z23 ?_ ?_ rfl <;> first|(simp;omega)|(apply z14;exact z4 fun _ => rfl))))|(refine z31 ?_ ?_;(focus (simp;omega)))|(refine z79 (by omega) (by omega) ?_)|(refine z75 (by omega) ?_)|(refine z61 (by omega) ?_)|(refine z63 ?_;(first|omega|(simp;done)))|(refine z60 ?_ ?_;(focus (first|omega|(simp;done))))|(refine z65 ?_ ?_;(focus (simp;done)))|(refine z64 ?_)|((first|apply z51 rfl rfl rfl|apply z43 rfl rfl rfl);(focus ((repeat (first|exact z40 (fun _ => rfl) _|exact z37 _|apply z42|apply z53|apply z54|rfl));done));(focus ((first|rfl|(simp;omega)|(simp;done));done)))|apply z74|apply z72|(apply z32;rfl)|(refine z32 ?_ ?_;(focus (simp;done)))|apply ObjLe.mk|exact True.intro|apply And.intro)))|skip
end Go.Proofs.YtppafngcahgagaaGreat

namespace Go.Proofs.YtppafngcahgagaaGreat
open Go.Gl
open Go.ChangeShapes Go.WideShapes Go.ChangeAt Go.RowKit
attribute [local irreducible] z85 AWP z100 z108 z104
namespace FnWitnessAlwaysExists
theorem args_ok : ArgsOk Tryz.prog Tryz.f3.params.toList (fun xs _ => ∃ (c : List Int), xs = [lst 1 enU c] ∧ CodeOk c) := by
  rw [Tryz.params3]
  refine ArgsOk.imp (z721 ad_code (args_nil)) ?_
  rintro xs m ⟨c, _, rfl, hc, rfl⟩
  exact ⟨c, rfl, hc⟩
set_option maxRecDepth 100000 in
theorem contract (H : Type) (enc : TypeId × Value → H) (W : World) (base : Nat) (args : Array Value) (ds gs : List (DataW H)) (before : List MemPlace)
    (hval : ∀ (j : Nat) t v, Tryz.f3.params[j]? = some t → args[j]? = some v → Value.okWide Tryz.prog W .any base t v)
    (hW : DataW.Whole enc Tryz.prog Tryz.f3.params.toList Rows.fnWitnessAlwaysExistsSpec.vars false W args.toList ds gs before) :
    Calls Tryz.prog 3 args W fun e W' => ∃ v, e = .returned v ∧ Rows.fnWitnessAlwaysExistsSpec.post enc Tryz.prog Tryz.f3 false true false false W args v W' := by
  refine law_post z572 z629 (by rw [Tryz.params3];decide +kernel) rfl (fun ds h => ?_) (by kernel_rfl) Tryz.underlying4 args_ok (fun xs m h _ => ?_) hval hW
  · rw [Tryz.params3] at h
    match ds, h with
    | [_], _ => rfl
  · obtain ⟨c, rfl, hc⟩ := h
    exact z199 c hc
noncomputable def w0 (os : Os) : World := World.holding Tryz.prog os ⟨#[], #[], []⟩
def zeros : Array Value := #[.slice none 0 0]
theorem reads (os : Os) {H : Type} (enc : TypeId × Value → H) : ∃ places, DataW.whole enc Tryz.prog ((w0 os).forCall (fun _ _ => 0) ⟨#[], zeros, []⟩).memory Tryz.f3.params.toList Rows.fnWitnessAlwaysExistsSpec.vars false zeros.toList 8 = some ([.nil], [], places) :=
  ⟨[], by kernel_rfl⟩
set_option maxRecDepth 100000 in
theorem lifted (os : Os) (started : os.Started) (H : Type) (enc : TypeId × Value → H) (F : Stop.Interp) :
    ReturnsInHanded {} Tryz.checked os 3 .any ((OpenSpec.ofChange Rows.fnWitnessAlwaysExistsSpec).preRow enc Tryz.prog Tryz.f3 Rows.fnWitnessAlwaysExistsRow.domain false Rows.fnWitnessAlwaysExistsRow.laid) (((OpenSpec.ofChange Rows.fnWitnessAlwaysExistsSpec).at F).post enc Tryz.prog Tryz.f3 false true false false) := by
  obtain ⟨places, hx⟩ := reads os enc
  refine returnsInHanded_of_row (C := Tryz.checked) (s := OpenSpec.ofChange Rows.fnWitnessAlwaysExistsSpec) own started (by kernel_rfl) Tryz.func3
    (witness_row_at (enc := enc) (C := Tryz.checked) false (w0 os) zeros rfl (by kernel_rfl) (by kernel_rfl) (by kernel_rfl)
      (OpenSpec.preRow_of_cond 8 hx (by kernel_rfl) (fun k hk => by cases hk) (by kernel_rfl) (laidMetH_nil _ _))) ?_
  intro W base args ds gs before hval hW _ _ _ _ _ _
  exact contract H enc W base args ds gs before hval hW
set_option maxHeartbeats 40000000 in
set_option maxRecDepth 100000 in
theorem closed : joinedFacts Tryz.prog 3 Tryz.f3 (OpenSpec.ofChange Rows.fnWitnessAlwaysExistsSpec).bare Rows.fnWitnessAlwaysExistsRow = true := by
  unfold joinedFacts
  repeat' (with_reducible apply and_mk)
  all_goals (as_aux_lemma => kernel_rfl)
theorem proved : Rows.FnWitnessAlwaysExistsSaid :=
  OpenClaim.holds_of_cond 3 Tryz.f3 rfl rfl rfl rfl rfl rfl rfl ⟨rfl, rfl, rfl, rfl, rfl⟩ rfl rfl rfl rfl rfl (by kernel_rfl) Tryz.func3 closed
    (of_decide_eq_true (by kernel_rfl)) (by unfold Func.isWrapper;first|(rw [if_pos (by decide +kernel)];kernel_rfl)|(rw [if_neg (by decide +kernel)];exact ⟨rfl, rfl⟩))
    (fun os started H enc _ F => by rw [OpenClaim.pre_eq_preRow];exact lifted os started H enc F)
end FnWitnessAlwaysExists
end Go.Proofs.YtppafngcahgagaaGreat

