/- A part of the proofs over this program: Shelf, T43, T44, T45, T46. -/
import Derived.Test.YtcmihlbihppflaaGreatG0
import Derived.Test.YtcmihlbihppflaaGreatG1
import Derived.Test.YtcmihlbihppflaaGreatG2
import Derived.Test.YtcmihlbihppflaaGreatP0
import Derived.Test.YtcmihlbihppflaaGreatP1
import Derived.Test.YtcmihlbihppflaaGreatP2
import Derived.Test.YtcmihlbihppflaaGreatP3
import Derived.Shelf.Sort.Plain
import Derived.Shelf.Slices.CompactI
set_option linter.all false
namespace Go.Proofs
open Go.Shelf
def Tryz.lays189_ren : Go.Shelf.Ren := ⟨fun | 189 => 188 | 125 => 222 | 257 => 221 | 128 => 261 | 129 => 262 | 294 => 252 | 295 => 253 | 296 => 254 | 297 => 255 | 298 => 256 | 299 => 257 | 216 => 258 | 300 => 259 | 301 => 260 | 328 => 283 | 329 => 284 | 330 => 285 | 331 => 286 | 332 => 287 | 215 => 288 | 343 => 304 | n => n, fun | 28 => 27 | 3 => 3 | 46 => 212 | 0 => 0 | 51 => 261 | 53 => 263 | 4 => 4 | 183 => 255 | 182 => 254 | 131 => 227 | 5 => 5 | 9 => 9 | 218 => 278 | 222 => 188 | 228 => 289 | 229 => 229 | n => n, fun | n => n⟩
theorem Tryz.lays189 : Go.Proofs.Lays.n189 Tryz.prog Tryz.lays189_ren := {
  mixed := by kernel_rfl
  f125 := Tryz.func222.trans (congrArg some (by kernel_rfl))
  f128 := Tryz.func261.trans (congrArg some (by kernel_rfl))
  f129 := Tryz.func262.trans (congrArg some (by kernel_rfl))
  f189 := Tryz.func188.trans (congrArg some (by kernel_rfl))
  f215 := Tryz.func288.trans (congrArg some (by kernel_rfl))
  f216 := Tryz.func258.trans (congrArg some (by kernel_rfl))
  f257 := Tryz.func221.trans (congrArg some (by kernel_rfl))
  f294 := Tryz.func252.trans (congrArg some (by kernel_rfl))
  f295 := Tryz.func253.trans (congrArg some (by kernel_rfl))
  f296 := Tryz.func254.trans (congrArg some (by kernel_rfl))
  f297 := Tryz.func255.trans (congrArg some (by kernel_rfl))
  f298 := Tryz.func256.trans (congrArg some (by kernel_rfl))
  f299 := Tryz.func257.trans (congrArg some (by kernel_rfl))
  f300 := Tryz.func259.trans (congrArg some (by kernel_rfl))
  f301 := Tryz.func260.trans (congrArg some (by kernel_rfl))
  f328 := Tryz.func283.trans (congrArg some (by kernel_rfl))
  f329 := Tryz.func284.trans (congrArg some (by kernel_rfl))
  f330 := Tryz.func285.trans (congrArg some (by kernel_rfl))
  f331 := Tryz.func286.trans (congrArg some (by kernel_rfl))
  f332 := Tryz.func287.trans (congrArg some (by kernel_rfl))
  f343 := Tryz.func304.trans (congrArg some (by kernel_rfl))
  t0 := Tryz.underlying0
  a0 := Tryz.isAgg0
  z0 := Tryz.sizeOf0
  v0 := Tryz.zeroValue0
  t3 := Tryz.underlying3
  a3 := Tryz.isAgg3
  z3 := Tryz.sizeOf3
  v3 := Tryz.zeroValue3
  t4 := Tryz.underlying4
  a4 := Tryz.isAgg4
  z4 := Tryz.sizeOf4
  v4 := Tryz.zeroValue4
  t5 := Tryz.underlying5
  a5 := Tryz.isAgg5
  z5 := Tryz.sizeOf5
  v5 := Tryz.zeroValue5
  t9 := Tryz.underlying9
  a9 := Tryz.isAgg9
  z9 := Tryz.sizeOf9
  v9 := Tryz.zeroValue9
  t28 := Tryz.underlying27
  a28 := Tryz.isAgg27
  z28 := Tryz.sizeOf27
  v28 := Tryz.zeroValue27
  t46 := Tryz.underlying212
  a46 := Tryz.isAgg212
  z46 := Tryz.sizeOf212
  v46 := Tryz.zeroValue212
  t51 := Tryz.underlying261
  a51 := Tryz.isAgg261
  z51 := Tryz.sizeOf261
  v51 := Tryz.zeroValue261
  t53 := Tryz.underlying263
  a53 := Tryz.isAgg263
  z53 := Tryz.sizeOf263
  v53 := Tryz.zeroValue263
  t131 := Tryz.underlying227
  a131 := Tryz.isAgg227
  z131 := Tryz.sizeOf227
  v131 := Tryz.zeroValue227
  t182 := Tryz.underlying254
  a182 := Tryz.isAgg254
  z182 := Tryz.sizeOf254
  v182 := Tryz.zeroValue254
  t183 := Tryz.underlying255
  a183 := Tryz.isAgg255
  z183 := Tryz.sizeOf255
  v183 := Tryz.zeroValue255
  t218 := Tryz.underlying278
  a218 := Tryz.isAgg278
  z218 := Tryz.sizeOf278
  v218 := Tryz.zeroValue278
  t222 := Tryz.underlying188
  a222 := Tryz.isAgg188
  z222 := Tryz.sizeOf188
  v222 := Tryz.zeroValue188
  t228 := Tryz.underlying289
  a228 := Tryz.isAgg289
  z228 := Tryz.sizeOf289
  v228 := Tryz.zeroValue289
  t229 := Tryz.underlying229
  a229 := Tryz.isAgg229
  z229 := Tryz.sizeOf229
  v229 := Tryz.zeroValue229 }
open Go.Sort Go.RowKit in
theorem Tryz.slices_Sort_int (blk off cap : Nat) (zs : List Int) (w : World) (hH : Holds (Value.int .i64) w blk off zs.toArray) (hblk : blk < w.heap.size) (hsz : zs.length < 4611686018427387904) :
    Calls Tryz.prog 188 #[.slice (some ⟨blk, off, none⟩) zs.length cap] w fun e w' =>
      e = .returned (.tuple #[]) ∧ ∃ n os, w' = grow (putRow (Value.int .i64) (Sort.ahead w n) blk off (zs.mergeSort fun x y => decide (x ≤ y)).toArray) os := Any.slices_Sort_int Tryz.lays189 blk off cap zs w hH hblk hsz
def Tryz.laysNm220_ren : Go.Shelf.Ren := ⟨fun | 20 => 189 | n => n, fun | 22 => 27 | 3 => 3 | 4 => 4 | 0 => 0 | n => n, fun | n => n⟩
theorem Tryz.laysNm220 : Go.Proofs.Lays2.n20 Tryz.prog Tryz.laysNm220_ren := {
  mixed := by kernel_rfl
  f20 := Tryz.func189.trans (congrArg some (by kernel_rfl))
  t0 := Tryz.underlying0
  a0 := Tryz.isAgg0
  z0 := Tryz.sizeOf0
  v0 := Tryz.zeroValue0
  t3 := Tryz.underlying3
  a3 := Tryz.isAgg3
  z3 := Tryz.sizeOf3
  v3 := Tryz.zeroValue3
  t4 := Tryz.underlying4
  a4 := Tryz.isAgg4
  z4 := Tryz.sizeOf4
  v4 := Tryz.zeroValue4
  t22 := Tryz.underlying27
  a22 := Tryz.isAgg27
  z22 := Tryz.sizeOf27
  v22 := Tryz.zeroValue27
  i3 := by kernel_rfl }
open Go.RowKit Go.Lib Go.Sort in
theorem Tryz.slices_Compact_int (blk off cap : Nat) (zs : List Int) (w : World) (hH : Holds (Value.int .i64) w blk off zs.toArray) (hsz : zs.length ≤ 9223372036854775807) (hcap : zs.length ≤ cap) :
    Calls Tryz.prog 189 #[.slice (some ⟨blk, off, none⟩) zs.length cap] w fun e w' => e = .returned (.slice (some ⟨blk, off, none⟩) (Lib.compact zs).length cap) ∧ ∃ q, w' = putRow (Value.int .i64) (Sort.ahead w q) blk off (Lib.compact zs ++ List.replicate (zs.length - (Lib.compact zs).length) 0).toArray := Any.slices_Compact_int Tryz.laysNm220 blk off cap zs w hH hsz hcap
end Go.Proofs

namespace Go.Proofs.YtcmihlbihppflaaGreat
open Go.Gl
attribute [local irreducible] vcCall AWP RetOk Again ordOk

theorem GB.row {g : Graph} (h : GB g) : ∀ i (hi : i < g.nx.length), 1 ≤ g.nx[i].length ∧ g.nx[i].length ≤ 60 ∧ InN g.st.length g.nx[i] := fun i hi => by
  obtain ⟨⟨g1, g2⟩, g3, g4⟩ := h
  have h4 := g4 i hi hi (by omega)
  refine ⟨by have := h4.2.1; omega, by have := h4.2.1; omega, fun x hx => ?_⟩
  obtain ⟨j, hj, rfl⟩ := List.mem_iff_getElem.1 hx
  have := (h4.2.2.2 j hj hj).1
  omega

def pick (bl : List Int) (p : Int) : Int := bl.getD p.toNat 0
theorem picked_new (bl places : List Int) (hl : places.length ≤ 1048576) (hp : InN bl.length places) (hb : bl.length ≤ 1048576) : CallsA Tryz.prog 187 [ints bl, ints places] [] (.sref 0 0 places.length) [.cells 1 ((places.map (pick bl)).map enI)] := by
  refine callsA_of tabOk Tryz.func187 rfl rfl 27 Tryz.ntmps187 (by simp) ?_
  repeat' (first | (apply AWP.go ok; rfl; conv => whnf) | (apply ord_mk; kernel_rfl; conv => whnf) | (apply And.intro; (first | omega | (unfold inI; omega) | (dsimp only; omega) | (unfold bitsOk; omega) | ((try dsimp only); simp only [List.length_map, List.length_take, List.length_append, List.length_replicate, List.length_cons, List.length_nil]; omega) | (simp only [btw_iff] at *; first | omega | (unfold inI; omega) | (unfold bitsOk; omega)) | exact stor_map (fun _ => rfl) | exact ⟨rfl, stor_cons rfl stor_nil⟩ | exact ⟨rfl, stor_map (fun _ => rfl) _⟩ | exact ⟨⟨rfl, by omega⟩, stor_map (fun _ => rfl) _⟩); conv => whnf) | (with_reducible apply get_mapN; omega; intro _; conv => whnf) | (with_reducible apply get_mapI; omega; intro _; conv => whnf) | (apply get_mapN; omega; intro _; conv => whnf) | (apply get_fill; omega; conv => whnf) | (apply ex_some; conv => whnf) | (apply get_map; omega; intro _; conv => whnf) | (apply vcG_dec <;> intro _ <;> conv => whnf) | (apply vcG_ndec <;> intro _ <;> conv => whnf) | (apply vcG_not <;> intro _ <;> conv => whnf) | (apply vcG_mk <;> intro _ <;> conv => whnf) | (apply vcIf_dec <;> intro _ <;> conv => whnf) | (apply vcIf_ndec <;> intro _ <;> conv => whnf) | (apply vcIf_not <;> intro _ <;> conv => whnf) | (apply vcIf_mk <;> intro _ <;> conv => whnf))
  refine loopA (fun k : Nat => ([(0, ints bl), (5, .sref 0 0 places.length), (11, ints places), (12, .int places.length), (13, .int k)], [.cells 1 ((places.take k).map (fun p => enI (pick bl p)) ++ List.replicate (places.length - k) [.int 0])])) (fun k => k ≤ places.length) (fun k => places.length - k) 0 (by omega) ⟨[0], rfl, by decide, rfl, ⟨⟨rfl, rfl⟩, ⟨rfl, rfl⟩, ⟨rfl, rfl⟩, ⟨rfl, rfl⟩, ⟨rfl, rfl⟩, trivial⟩, ⟨obj_flat (by rfl) (flat_append (flat_map fun _ => rfl) (flat_replicate rfl)), trivial⟩⟩ ?_
  intro k hk
  by_cases hkl : k < places.length
  · have hx := hp places[k] (List.getElem_mem _)
    have hxb : places[k].toNat < bl.length := by omega
    repeat' (first | (apply AWP.go ok; rfl; conv => whnf) | (apply ord_mk; kernel_rfl; conv => whnf) | (apply And.intro; (first | omega | (unfold inI; omega) | (dsimp only; omega) | (unfold bitsOk; omega) | ((try dsimp only); simp only [List.length_map, List.length_take, List.length_append, List.length_replicate, List.length_cons, List.length_nil]; omega) | (simp only [btw_iff] at *; first | omega | (unfold inI; omega) | (unfold bitsOk; omega)) | exact stor_map (fun _ => rfl) | exact ⟨rfl, stor_cons rfl stor_nil⟩ | exact ⟨rfl, stor_map (fun _ => rfl) _⟩ | exact ⟨⟨rfl, by omega⟩, stor_map (fun _ => rfl) _⟩); conv => whnf) | (with_reducible apply get_mapN; omega; intro _; conv => whnf) | (with_reducible apply get_mapI; omega; intro _; conv => whnf) | (apply get_mapN; omega; intro _; conv => whnf) | (apply get_fill; omega; conv => whnf) | (apply ex_some; conv => whnf) | (apply get_map; omega; intro _; conv => whnf) | (apply vcG_dec <;> intro _ <;> conv => whnf) | (apply vcG_ndec <;> intro _ <;> conv => whnf) | (apply vcG_not <;> intro _ <;> conv => whnf) | (apply vcG_mk <;> intro _ <;> conv => whnf) | (apply vcIf_dec <;> intro _ <;> conv => whnf) | (apply vcIf_ndec <;> intro _ <;> conv => whnf) | (apply vcIf_not <;> intro _ <;> conv => whnf) | (apply vcIf_mk <;> intro _ <;> conv => whnf))
    all_goals first | (exfalso; omega) | skip
    exact again (k + 1) [0] (by omega) (by omega) ⟨rfl, by decide, rfl, ⟨⟨rfl, rfl⟩, ⟨rfl, rfl⟩, ⟨rfl, rfl⟩, ⟨rfl, rfl⟩, ⟨rfl, rfl⟩, trivial⟩, ⟨obj_fill hkl rfl (Int.toNat_natCast k) (by unfold pick; rw [getD_at hxb]; rfl) (fun _ => rfl) rfl, trivial⟩⟩
  · repeat' (first | (apply AWP.go ok; rfl; conv => whnf) | (apply ord_mk; kernel_rfl; conv => whnf) | (apply And.intro; (first | omega | (unfold inI; omega) | (dsimp only; omega) | (unfold bitsOk; omega) | ((try dsimp only); simp only [List.length_map, List.length_take, List.length_append, List.length_replicate, List.length_cons, List.length_nil]; omega) | (simp only [btw_iff] at *; first | omega | (unfold inI; omega) | (unfold bitsOk; omega)) | exact stor_map (fun _ => rfl) | exact ⟨rfl, stor_cons rfl stor_nil⟩ | exact ⟨rfl, stor_map (fun _ => rfl) _⟩ | exact ⟨⟨rfl, by omega⟩, stor_map (fun _ => rfl) _⟩); conv => whnf) | (with_reducible apply get_mapN; omega; intro _; conv => whnf) | (with_reducible apply get_mapI; omega; intro _; conv => whnf) | (apply get_mapN; omega; intro _; conv => whnf) | (apply get_fill; omega; conv => whnf) | (apply ex_some; conv => whnf) | (apply get_map; omega; intro _; conv => whnf) | (apply vcG_dec <;> intro _ <;> conv => whnf) | (apply vcG_ndec <;> intro _ <;> conv => whnf) | (apply vcG_not <;> intro _ <;> conv => whnf) | (apply vcG_mk <;> intro _ <;> conv => whnf) | (apply vcIf_dec <;> intro _ <;> conv => whnf) | (apply vcIf_ndec <;> intro _ <;> conv => whnf) | (apply vcIf_not <;> intro _ <;> conv => whnf) | (apply vcIf_mk <;> intro _ <;> conv => whnf))
    all_goals first | (exfalso; omega) | skip
    obtain rfl : k = places.length := by omega
    exact ret_new rfl (flat_map fun _ => rfl) rfl (by rw [fill_end _ _ _ _ rfl, List.map_map]; rfl)

theorem sort_ok (l : List Int) (hp : 0 < l.length) (hl : l.length ≤ 1048576) : CallsA Tryz.prog 188 [.sref 0 0 l.length] [.cells 1 (l.map enI)] (.tup []) [.cells 1 ((l.mergeSort fun x y => decide (x ≤ y)).map enI)] := by
  refine callsA_inplace (r := l.mergeSort fun x y => decide (x ≤ y)) (by rw [List.length_mergeSort]) hp (fun _ _ h => h) (isFunc_of Tryz.func188 rfl (by rfl)) fun blk cap w hH hb hc => ?_
  refine (Tryz.slices_Sort_int blk 0 cap l w hH hb (by omega)).mono ?_
  rintro e w' ⟨rfl, n, os, rfl⟩
  exact ⟨_, rfl, ⟨n, os, rfl⟩, fun G h size _ _ => by simp only [V, VL]; exact ⟨#[], rfl, rfl, trivial⟩⟩

theorem compact_ok (z : List Int) (hp : 0 < z.length) (hl : z.length ≤ 1048576) : CallsA Tryz.prog 189 [.sref 0 0 z.length] [.cells 1 (z.map enI)] (.sref 0 0 (Lib.compact z).length) [.cells 1 ((Lib.compact z).map enI)] := by
  have hle : (Lib.compact z).length ≤ z.length := by
    have : ∀ m, (Lib.compactUpTo z.toArray m).length ≤ m := by
      intro m
      induction m with
      | zero => simp [Lib.compactUpTo]
      | succ m ih => rw [Lib.compactUpTo_succ]; split <;> simp <;> omega
    exact this _
  refine callsA_inplace (r := Lib.compact z ++ List.replicate (z.length - (Lib.compact z).length) 0) (by simp; omega) hp (fun i x h => by
    rw [List.getElem?_append_left (List.getElem?_eq_some_iff.1 h).1]; exact h) (isFunc_of Tryz.func189 rfl (by rfl)) fun blk cap w hH hb hc => ?_
  refine (Tryz.slices_Compact_int blk 0 cap z w hH (by omega) hc).mono ?_
  rintro e w' ⟨rfl, n, rfl⟩
  refine ⟨_, rfl, ⟨n, #[], by simp⟩, fun G h size hι hsz => ?_⟩
  simp only [V]
  exact ⟨cap, by omega, .inr ⟨blk, size, 1, hι, by omega, by simp⟩⟩

theorem equalI_ok (a b : List Int) (ha : a.length ≤ maxLen) (hb : b.length ≤ maxLen) : CallsA Tryz.prog 115 [ints a, ints b] [] (.bool (decide (a = b))) [] := by
  unfold maxLen at ha hb
  refine callsA_of tabOk Tryz.func115 rfl rfl 26 Tryz.ntmps115 (by simp) ?_
  by_cases hl : a.length = b.length
  · repeat' (first | (apply AWP.go ok; rfl; conv => whnf) | (apply ord_mk; kernel_rfl; conv => whnf) | (apply And.intro; (first | omega | (unfold inI; omega) | (dsimp only; omega) | (unfold bitsOk; omega) | ((try dsimp only); simp only [List.length_map, List.length_take, List.length_append, List.length_replicate, List.length_cons, List.length_nil]; omega) | (simp only [btw_iff] at *; first | omega | (unfold inI; omega) | (unfold bitsOk; omega)) | exact stor_map (fun _ => rfl) | exact ⟨rfl, stor_cons rfl stor_nil⟩ | exact ⟨rfl, stor_map (fun _ => rfl) _⟩ | exact ⟨⟨rfl, by omega⟩, stor_map (fun _ => rfl) _⟩); conv => whnf) | (with_reducible apply get_mapN; omega; intro _; conv => whnf) | (with_reducible apply get_mapI; omega; intro _; conv => whnf) | (apply get_mapN; omega; intro _; conv => whnf) | (apply get_fill; omega; conv => whnf) | (apply ex_some; conv => whnf) | (apply get_map; omega; intro _; conv => whnf) | (apply vcG_dec <;> intro _ <;> conv => whnf) | (apply vcG_ndec <;> intro _ <;> conv => whnf) | (apply vcG_not <;> intro _ <;> conv => whnf) | (apply vcG_mk <;> intro _ <;> conv => whnf) | (apply vcIf_dec <;> intro _ <;> conv => whnf) | (apply vcIf_ndec <;> intro _ <;> conv => whnf) | (apply vcIf_not <;> intro _ <;> conv => whnf) | (apply vcIf_mk <;> intro _ <;> conv => whnf))
    all_goals first | (exfalso; omega) | skip
    refine loopA (fun k : Nat => ([(0, ints a), (1, ints b), (12, .int a.length), (13, .int k)], [])) (fun k => k ≤ a.length ∧ a.take k = b.take k) (fun k => a.length - k) 0 (by simp) ⟨[], rfl, by decide, rfl, ⟨⟨rfl, rfl⟩, ⟨rfl, rfl⟩, ⟨rfl, rfl⟩, ⟨rfl, rfl⟩, trivial⟩, trivial⟩ ?_
    rintro k ⟨hk1, hk2⟩
    by_cases hkl : k < a.length
    · have hkb : k < b.length := by omega
      by_cases he : a[k] = b[k]
      · repeat' (first | (apply AWP.go ok; rfl; conv => whnf) | (apply ord_mk; kernel_rfl; conv => whnf) | (apply And.intro; (first | omega | (unfold inI; omega) | (dsimp only; omega) | (unfold bitsOk; omega) | ((try dsimp only); simp only [List.length_map, List.length_take, List.length_append, List.length_replicate, List.length_cons, List.length_nil]; omega) | (simp only [btw_iff] at *; first | omega | (unfold inI; omega) | (unfold bitsOk; omega)) | exact stor_map (fun _ => rfl) | exact ⟨rfl, stor_cons rfl stor_nil⟩ | exact ⟨rfl, stor_map (fun _ => rfl) _⟩ | exact ⟨⟨rfl, by omega⟩, stor_map (fun _ => rfl) _⟩); conv => whnf) | (with_reducible apply get_mapN; omega; intro _; conv => whnf) | (with_reducible apply get_mapI; omega; intro _; conv => whnf) | (apply get_mapN; omega; intro _; conv => whnf) | (apply get_fill; omega; conv => whnf) | (apply ex_some; conv => whnf) | (apply get_map; omega; intro _; conv => whnf) | (apply vcG_dec <;> intro _ <;> conv => whnf) | (apply vcG_ndec <;> intro _ <;> conv => whnf) | (apply vcG_not <;> intro _ <;> conv => whnf) | (apply vcG_mk <;> intro _ <;> conv => whnf) | (apply vcIf_dec <;> intro _ <;> conv => whnf) | (apply vcIf_ndec <;> intro _ <;> conv => whnf) | (apply vcIf_not <;> intro _ <;> conv => whnf) | (apply vcIf_mk <;> intro _ <;> conv => whnf))
        all_goals first | kernel_rfl | (exfalso; omega) | (exfalso; simp_all; done) | skip
        refine again (k + 1) [] ⟨by omega, ?_⟩ (by omega) ⟨rfl, by decide, rfl, ⟨⟨rfl, rfl⟩, ⟨rfl, rfl⟩, ⟨rfl, rfl⟩, ⟨rfl, rfl⟩, trivial⟩, trivial⟩
        rw [List.take_succ_eq_append_getElem hkl, List.take_succ_eq_append_getElem hkb, hk2, he]
      · have hne : a ≠ b := by rintro rfl; exact he rfl
        repeat' (first | (apply AWP.go ok; rfl; conv => whnf) | (apply ord_mk; kernel_rfl; conv => whnf) | (apply And.intro; (first | omega | (unfold inI; omega) | (dsimp only; omega) | (unfold bitsOk; omega) | ((try dsimp only); simp only [List.length_map, List.length_take, List.length_append, List.length_replicate, List.length_cons, List.length_nil]; omega) | (simp only [btw_iff] at *; first | omega | (unfold inI; omega) | (unfold bitsOk; omega)) | exact stor_map (fun _ => rfl) | exact ⟨rfl, stor_cons rfl stor_nil⟩ | exact ⟨rfl, stor_map (fun _ => rfl) _⟩ | exact ⟨⟨rfl, by omega⟩, stor_map (fun _ => rfl) _⟩); conv => whnf) | (with_reducible apply get_mapN; omega; intro _; conv => whnf) | (with_reducible apply get_mapI; omega; intro _; conv => whnf) | (apply get_mapN; omega; intro _; conv => whnf) | (apply get_fill; omega; conv => whnf) | (apply ex_some; conv => whnf) | (apply get_map; omega; intro _; conv => whnf) | (apply vcG_dec <;> intro _ <;> conv => whnf) | (apply vcG_ndec <;> intro _ <;> conv => whnf) | (apply vcG_not <;> intro _ <;> conv => whnf) | (apply vcG_mk <;> intro _ <;> conv => whnf) | (apply vcIf_dec <;> intro _ <;> conv => whnf) | (apply vcIf_ndec <;> intro _ <;> conv => whnf) | (apply vcIf_not <;> intro _ <;> conv => whnf) | (apply vcIf_mk <;> intro _ <;> conv => whnf))
        all_goals first | kernel_rfl | (exfalso; omega) | (exfalso; simp_all; done) | skip
        exact ret_bool rfl (decide_eq_false hne)
    · repeat' (first | (apply AWP.go ok; rfl; conv => whnf) | (apply ord_mk; kernel_rfl; conv => whnf) | (apply And.intro; (first | omega | (unfold inI; omega) | (dsimp only; omega) | (unfold bitsOk; omega) | ((try dsimp only); simp only [List.length_map, List.length_take, List.length_append, List.length_replicate, List.length_cons, List.length_nil]; omega) | (simp only [btw_iff] at *; first | omega | (unfold inI; omega) | (unfold bitsOk; omega)) | exact stor_map (fun _ => rfl) | exact ⟨rfl, stor_cons rfl stor_nil⟩ | exact ⟨rfl, stor_map (fun _ => rfl) _⟩ | exact ⟨⟨rfl, by omega⟩, stor_map (fun _ => rfl) _⟩); conv => whnf) | (with_reducible apply get_mapN; omega; intro _; conv => whnf) | (with_reducible apply get_mapI; omega; intro _; conv => whnf) | (apply get_mapN; omega; intro _; conv => whnf) | (apply get_fill; omega; conv => whnf) | (apply ex_some; conv => whnf) | (apply get_map; omega; intro _; conv => whnf) | (apply vcG_dec <;> intro _ <;> conv => whnf) | (apply vcG_ndec <;> intro _ <;> conv => whnf) | (apply vcG_not <;> intro _ <;> conv => whnf) | (apply vcG_mk <;> intro _ <;> conv => whnf) | (apply vcIf_dec <;> intro _ <;> conv => whnf) | (apply vcIf_ndec <;> intro _ <;> conv => whnf) | (apply vcIf_not <;> intro _ <;> conv => whnf) | (apply vcIf_mk <;> intro _ <;> conv => whnf))
      all_goals first | (exfalso; omega) | skip
      rw [List.take_of_length_le (by omega), List.take_of_length_le (by omega)] at hk2
      exact ret_bool rfl (decide_eq_true hk2)
  · have hne : a ≠ b := by rintro rfl; exact hl rfl
    repeat' (first | (apply AWP.go ok; rfl; conv => whnf) | (apply ord_mk; kernel_rfl; conv => whnf) | (apply And.intro; (first | omega | (unfold inI; omega) | (dsimp only; omega) | (unfold bitsOk; omega) | ((try dsimp only); simp only [List.length_map, List.length_take, List.length_append, List.length_replicate, List.length_cons, List.length_nil]; omega) | (simp only [btw_iff] at *; first | omega | (unfold inI; omega) | (unfold bitsOk; omega)) | exact stor_map (fun _ => rfl) | exact ⟨rfl, stor_cons rfl stor_nil⟩ | exact ⟨rfl, stor_map (fun _ => rfl) _⟩ | exact ⟨⟨rfl, by omega⟩, stor_map (fun _ => rfl) _⟩); conv => whnf) | (with_reducible apply get_mapN; omega; intro _; conv => whnf) | (with_reducible apply get_mapI; omega; intro _; conv => whnf) | (apply get_mapN; omega; intro _; conv => whnf) | (apply get_fill; omega; conv => whnf) | (apply ex_some; conv => whnf) | (apply get_map; omega; intro _; conv => whnf) | (apply vcG_dec <;> intro _ <;> conv => whnf) | (apply vcG_ndec <;> intro _ <;> conv => whnf) | (apply vcG_not <;> intro _ <;> conv => whnf) | (apply vcG_mk <;> intro _ <;> conv => whnf) | (apply vcIf_dec <;> intro _ <;> conv => whnf) | (apply vcIf_ndec <;> intro _ <;> conv => whnf) | (apply vcIf_not <;> intro _ <;> conv => whnf) | (apply vcIf_mk <;> intro _ <;> conv => whnf))
    all_goals first | (exfalso; omega) | skip
    exact ret_bool rfl (decide_eq_false hne)
end Go.Proofs.YtcmihlbihppflaaGreat

namespace Go.Proofs.YtcmihlbihppflaaGreat
open Go.Gl
attribute [local irreducible] vcCall AWP RetOk Again ordOk

theorem push_cellsN {Q Q' : List Int} {x : Int} {n : Nat} {e : List AC} (hn : n = Q.length) (h : Q' = Q ++ [x]) (he : e = enI x) : ((Q.map enI).take n) ++ [e] = Q'.map enI := by
  subst h hn he
  rw [List.take_of_length_le (by simp), List.map_append]; rfl

theorem push_two {Q Q' : List Int} {x y : Int} {n m : Nat} {e f : List AC} (hn : n = Q.length) (hm : m = n + 1) (h : Q' = (Q ++ [x]) ++ [y]) (he : e = enI x) (hf : f = enI y) : ((((Q.map enI).take n) ++ [e]).take m) ++ [f] = Q'.map enI := by
  rw [push_cellsN hn (rfl : Q ++ [x] = Q ++ [x]) he]
  exact push_cellsN (by subst hm hn; simp) h hf

theorem insS_at {l : List Int} {n : Int} (h : Asc l) (hn : n ∉ l) : ∃ p, p ≤ l.length ∧ (∀ k (hk : k < l.length), k < p → l[k] < n) ∧ (∀ k (hk : k < l.length), p ≤ k → n < l[k]) ∧ insS l n = l.take p ++ n :: l.drop p := by
  induction l with
  | nil => exact ⟨0, Nat.le_refl _, fun k hk => by simp at hk, fun k hk => by simp at hk, rfl⟩
  | cons x r ih =>
    have h1 := List.pairwise_cons.1 h
    have hx : x ≠ n := fun e => hn (by simp [e])
    by_cases hlt : n < x
    · refine ⟨0, Nat.zero_le _, fun k hk h0 => by omega, fun k hk _ => ?_, by rw [insS, if_neg hx, if_pos hlt]; rfl⟩
      match k with
      | 0 => exact hlt
      | k + 1 =>
        have := h1.1 ((x :: r)[k + 1]) (by simp)
        omega
    · obtain ⟨p, p1, p2, p3, p4⟩ := ih h1.2 (fun h => hn (by simp [h]))
      refine ⟨p + 1, by simpa using p1, fun k hk hkp => ?_, fun k hk hkp => ?_, by rw [insS, if_neg hx, if_neg hlt, p4]; rfl⟩
      · match k with
        | 0 => show x < n; omega
        | k + 1 => exact p2 k (by simpa using hk) (by omega)
      · match k with
        | 0 => omega
        | k + 1 => exact p3 k (by simpa using hk) (by omega)
def sOut (l : List Int) (n : Int) (p i : Nat) : List Int := if i ≤ p then l.take i else l.take p ++ n :: (l.take i).drop p
theorem sOut_len {l : List Int} {n : Int} {p i : Nat} (hp : p ≤ l.length) (hi : i ≤ l.length) : (sOut l n p i).length ≤ l.length + 1 := by
  unfold sOut; split <;> simp <;> omega
theorem sOut_before {l : List Int} {n : Int} {p i : Nat} (hi : i < l.length) (h : i < p) : sOut l n p (i + 1) = sOut l n p i ++ [l[i]] := by
  unfold sOut
  rw [if_pos (by omega), if_pos (by omega), List.take_succ_eq_append_getElem hi]
theorem sOut_at {l : List Int} {n : Int} {p : Nat} (hi : p < l.length) : sOut l n p (p + 1) = (sOut l n p p ++ [n]) ++ [l[p]] := by
  unfold sOut
  rw [if_neg (by omega), if_pos (Nat.le_refl _), List.take_succ_eq_append_getElem hi, List.drop_append_of_le_length (by simp; omega), List.drop_of_length_le (by simp; omega)]
  simp
theorem sOut_behind {l : List Int} {n : Int} {p i : Nat} (hi : i < l.length) (h : p < i) : sOut l n p (i + 1) = sOut l n p i ++ [l[i]] := by
  unfold sOut
  rw [if_neg (by omega), if_neg (by omega), List.take_succ_eq_append_getElem hi, List.drop_append_of_le_length (by simp; omega)]
  simp

theorem l10Sorted_ok (l : List Int) (n : Int) (h : Asc l) (hl : l.length ≤ 1048576) : CallsA Tryz.prog 220 [ints l, .int n] [] (ints (insS l n)) [] := by
  by_cases hn : n ∈ l
  · rw [insS_old h hn]
    obtain ⟨j, hj, rfl⟩ := List.mem_iff_getElem.1 hn
    have hlt : ∀ k (hk : k < l.length), k < j → l[k] < l[j] := fun k hk hkj => List.pairwise_iff_getElem.1 h k j hk hj hkj
    refine callsA_of tabOk Tryz.func220 rfl rfl 50 Tryz.ntmps220 (by simp) ?_
    repeat' (first | (apply AWP.go ok; rfl; conv => whnf) | (apply ord_mk; kernel_rfl; conv => whnf) | (apply And.intro; (first | omega | (unfold inI; omega) | (dsimp only; omega) | (unfold bitsOk; omega) | ((try dsimp only); simp only [List.length_map, List.length_take, List.length_append, List.length_replicate, List.length_cons, List.length_nil]; omega) | (simp only [btw_iff] at *; first | omega | (unfold inI; omega) | (unfold bitsOk; omega)) | exact stor_map (fun _ => rfl) | exact ⟨rfl, stor_cons rfl stor_nil⟩ | exact ⟨rfl, stor_map (fun _ => rfl) _⟩ | exact ⟨⟨rfl, by omega⟩, stor_map (fun _ => rfl) _⟩); conv => whnf) | (with_reducible apply get_mapN; omega; intro _; conv => whnf) | (with_reducible apply get_mapI; omega; intro _; conv => whnf) | (apply get_mapN; omega; intro _; conv => whnf) | (apply get_fill; omega; conv => whnf) | (apply ex_some; conv => whnf) | (apply get_map; omega; intro _; conv => whnf) | (apply vcG_dec <;> intro _ <;> conv => whnf) | (apply vcG_ndec <;> intro _ <;> conv => whnf) | (apply vcG_not <;> intro _ <;> conv => whnf) | (apply vcG_mk <;> intro _ <;> conv => whnf) | (apply vcIf_dec <;> intro _ <;> conv => whnf) | (apply vcIf_ndec <;> intro _ <;> conv => whnf) | (apply vcIf_not <;> intro _ <;> conv => whnf) | (apply vcIf_mk <;> intro _ <;> conv => whnf))
    refine loopA (fun i : Nat => ([(0, ints l), (1, .int l[j]), (5, .sref 0 0 i), (6, .bool false), (7, .int i)], [.cells 1 ((l.take i).map enI)])) (fun i => i ≤ j) (fun i => l.length - i) 0 (by omega) ⟨[0], rfl, by decide, rfl, ⟨⟨rfl, rfl⟩, ⟨rfl, rfl⟩, ⟨rfl, rfl⟩, ⟨rfl, rfl⟩, ⟨rfl, rfl⟩, trivial⟩, ⟨obj_flat rfl (flat_map fun _ => rfl), trivial⟩⟩ ?_
    intro i hi
    by_cases hij : i = j
    · subst hij
      repeat' (first | (apply AWP.go ok; rfl; conv => whnf) | (apply ord_mk; kernel_rfl; conv => whnf) | (apply And.intro; (first | omega | (unfold inI; omega) | (dsimp only; omega) | (unfold bitsOk; omega) | ((try dsimp only); simp only [List.length_map, List.length_take, List.length_append, List.length_replicate, List.length_cons, List.length_nil]; omega) | (simp only [btw_iff] at *; first | omega | (unfold inI; omega) | (unfold bitsOk; omega)) | exact stor_map (fun _ => rfl) | exact ⟨rfl, stor_cons rfl stor_nil⟩ | exact ⟨rfl, stor_map (fun _ => rfl) _⟩ | exact ⟨⟨rfl, by omega⟩, stor_map (fun _ => rfl) _⟩); conv => whnf) | (with_reducible apply get_mapN; omega; intro _; conv => whnf) | (with_reducible apply get_mapI; omega; intro _; conv => whnf) | (apply get_mapN; omega; intro _; conv => whnf) | (apply get_fill; omega; conv => whnf) | (apply ex_some; conv => whnf) | (apply get_map; omega; intro _; conv => whnf) | (apply vcG_dec <;> intro _ <;> conv => whnf) | (apply vcG_ndec <;> intro _ <;> conv => whnf) | (apply vcG_not <;> intro _ <;> conv => whnf) | (apply vcG_mk <;> intro _ <;> conv => whnf) | (apply vcIf_dec <;> intro _ <;> conv => whnf) | (apply vcIf_ndec <;> intro _ <;> conv => whnf) | (apply vcIf_not <;> intro _ <;> conv => whnf) | (apply vcIf_mk <;> intro _ <;> conv => whnf))
      all_goals first | (exfalso; omega) | skip
      exact ret_data rfl rfl rfl
    · have h1 := hlt i (by omega) (by omega)
      repeat' (first | (apply AWP.go ok; rfl; conv => whnf) | (apply ord_mk; kernel_rfl; conv => whnf) | (apply And.intro; (first | omega | (unfold inI; omega) | (dsimp only; omega) | (unfold bitsOk; omega) | ((try dsimp only); simp only [List.length_map, List.length_take, List.length_append, List.length_replicate, List.length_cons, List.length_nil]; omega) | (simp only [btw_iff] at *; first | omega | (unfold inI; omega) | (unfold bitsOk; omega)) | exact stor_map (fun _ => rfl) | exact ⟨rfl, stor_cons rfl stor_nil⟩ | exact ⟨rfl, stor_map (fun _ => rfl) _⟩ | exact ⟨⟨rfl, by omega⟩, stor_map (fun _ => rfl) _⟩); conv => whnf) | (with_reducible apply get_mapN; omega; intro _; conv => whnf) | (with_reducible apply get_mapI; omega; intro _; conv => whnf) | (apply get_mapN; omega; intro _; conv => whnf) | (apply get_fill; omega; conv => whnf) | (apply ex_some; conv => whnf) | (apply get_map; omega; intro _; conv => whnf) | (apply vcG_dec <;> intro _ <;> conv => whnf) | (apply vcG_ndec <;> intro _ <;> conv => whnf) | (apply vcG_not <;> intro _ <;> conv => whnf) | (apply vcG_mk <;> intro _ <;> conv => whnf) | (apply vcIf_dec <;> intro _ <;> conv => whnf) | (apply vcIf_ndec <;> intro _ <;> conv => whnf) | (apply vcIf_not <;> intro _ <;> conv => whnf) | (apply vcIf_mk <;> intro _ <;> conv => whnf))
      all_goals first | (exfalso; omega) | skip
      exact again (i + 1) [2] (by omega) (by omega) ⟨rfl, by decide, rfl, ⟨⟨rfl, rfl⟩, ⟨rfl, rfl⟩, ⟨rfl, rfl⟩, ⟨rfl, rfl⟩, ⟨rfl, rfl⟩, trivial⟩, ⟨obj_app (by omega) _ rfl rfl rfl (fun _ => rfl), trivial⟩⟩
  · obtain ⟨p, p1, p2, p3, p4⟩ := insS_at h hn
    rw [p4]
    refine keepI (n := (l.take p ++ n :: l.drop p).length) ?_ rfl
    refine callsA_of tabOk Tryz.func220 rfl rfl 50 Tryz.ntmps220 (by simp) ?_
    repeat' (first | (apply AWP.go ok; rfl; conv => whnf) | (apply ord_mk; kernel_rfl; conv => whnf) | (apply And.intro; (first | omega | (unfold inI; omega) | (dsimp only; omega) | (unfold bitsOk; omega) | ((try dsimp only); simp only [List.length_map, List.length_take, List.length_append, List.length_replicate, List.length_cons, List.length_nil]; omega) | (simp only [btw_iff] at *; first | omega | (unfold inI; omega) | (unfold bitsOk; omega)) | exact stor_map (fun _ => rfl) | exact ⟨rfl, stor_cons rfl stor_nil⟩ | exact ⟨rfl, stor_map (fun _ => rfl) _⟩ | exact ⟨⟨rfl, by omega⟩, stor_map (fun _ => rfl) _⟩); conv => whnf) | (with_reducible apply get_mapN; omega; intro _; conv => whnf) | (with_reducible apply get_mapI; omega; intro _; conv => whnf) | (apply get_mapN; omega; intro _; conv => whnf) | (apply get_fill; omega; conv => whnf) | (apply ex_some; conv => whnf) | (apply get_map; omega; intro _; conv => whnf) | (apply vcG_dec <;> intro _ <;> conv => whnf) | (apply vcG_ndec <;> intro _ <;> conv => whnf) | (apply vcG_not <;> intro _ <;> conv => whnf) | (apply vcG_mk <;> intro _ <;> conv => whnf) | (apply vcIf_dec <;> intro _ <;> conv => whnf) | (apply vcIf_ndec <;> intro _ <;> conv => whnf) | (apply vcIf_not <;> intro _ <;> conv => whnf) | (apply vcIf_mk <;> intro _ <;> conv => whnf))
    refine loopA (fun i : Nat => ([(0, ints l), (1, .int n), (5, .sref 0 0 (sOut l n p i).length), (6, .bool (decide (p < i))), (7, .int i)], [.cells 1 ((sOut l n p i).map enI)])) (fun i => i ≤ l.length) (fun i => l.length - i) 0 (by omega) ⟨[0], rfl, by decide, rfl, ⟨⟨rfl, rfl⟩, ⟨rfl, rfl⟩, ⟨rfl, env_sref (by simp [sOut]) rfl⟩, ⟨rfl, rfl⟩, ⟨rfl, rfl⟩, trivial⟩, ⟨obj_flat (cells_congr (by simp [sOut])) (flat_map fun _ => rfl), trivial⟩⟩ ?_
    intro i hi
    have hsl := sOut_len (n := n) p1 hi
    by_cases hil : i < l.length
    · have hne : l[i] ≠ n := fun e => hn (e ▸ List.getElem_mem _)
      by_cases h1 : i < p
      · have h2 := p2 i hil h1
        have h3 := sOut_before (n := n) hil h1
        repeat' (first | (apply AWP.go ok; rfl; conv => whnf) | (apply ord_mk; kernel_rfl; conv => whnf) | (apply And.intro; (first | omega | (unfold inI; omega) | (dsimp only; omega) | (unfold bitsOk; omega) | ((try dsimp only); simp only [List.length_map, List.length_take, List.length_append, List.length_replicate, List.length_cons, List.length_nil]; omega) | (simp only [btw_iff] at *; first | omega | (unfold inI; omega) | (unfold bitsOk; omega)) | exact stor_map (fun _ => rfl) | exact ⟨rfl, stor_cons rfl stor_nil⟩ | exact ⟨rfl, stor_map (fun _ => rfl) _⟩ | exact ⟨⟨rfl, by omega⟩, stor_map (fun _ => rfl) _⟩); conv => whnf) | (with_reducible apply get_mapN; omega; intro _; conv => whnf) | (with_reducible apply get_mapI; omega; intro _; conv => whnf) | (apply get_mapN; omega; intro _; conv => whnf) | (apply get_fill; omega; conv => whnf) | (apply ex_some; conv => whnf) | (apply get_map; omega; intro _; conv => whnf) | (apply vcG_dec <;> intro _ <;> conv => whnf) | (apply vcG_ndec <;> intro _ <;> conv => whnf) | (apply vcG_not <;> intro _ <;> conv => whnf) | (apply vcG_mk <;> intro _ <;> conv => whnf) | (apply vcIf_dec <;> intro _ <;> conv => whnf) | (apply vcIf_ndec <;> intro _ <;> conv => whnf) | (apply vcIf_not <;> intro _ <;> conv => whnf) | (apply vcIf_mk <;> intro _ <;> conv => whnf))
        all_goals first | (exfalso; omega) | (exfalso; simp_all; done) | skip
        exact again (i + 1) [2] (by omega) (by omega) ⟨rfl, by decide, rfl, ⟨⟨rfl, rfl⟩, ⟨rfl, rfl⟩, ⟨rfl, env_sref (by rw [h3]; simp) rfl⟩, ⟨rfl, by rw [decide_eq_false (show ¬ p < i by omega), decide_eq_false (show ¬ p < i + 1 by omega)]; rfl⟩, ⟨rfl, rfl⟩, trivial⟩, ⟨obj_flat (cells_congr (push_cellsN rfl h3 rfl)) (flat_map fun _ => rfl), trivial⟩⟩
      · have h2 := p3 i hil (by omega)
        by_cases h4 : i = p
        · subst h4
          have h3 := sOut_at (n := n) hil
          repeat' (first | (apply AWP.go ok; rfl; conv => whnf) | (apply ord_mk; kernel_rfl; conv => whnf) | (apply And.intro; (first | omega | (unfold inI; omega) | (dsimp only; omega) | (unfold bitsOk; omega) | ((try dsimp only); simp only [List.length_map, List.length_take, List.length_append, List.length_replicate, List.length_cons, List.length_nil]; omega) | (simp only [btw_iff] at *; first | omega | (unfold inI; omega) | (unfold bitsOk; omega)) | exact stor_map (fun _ => rfl) | exact ⟨rfl, stor_cons rfl stor_nil⟩ | exact ⟨rfl, stor_map (fun _ => rfl) _⟩ | exact ⟨⟨rfl, by omega⟩, stor_map (fun _ => rfl) _⟩); conv => whnf) | (with_reducible apply get_mapN; omega; intro _; conv => whnf) | (with_reducible apply get_mapI; omega; intro _; conv => whnf) | (apply get_mapN; omega; intro _; conv => whnf) | (apply get_fill; omega; conv => whnf) | (apply ex_some; conv => whnf) | (apply get_map; omega; intro _; conv => whnf) | (apply vcG_dec <;> intro _ <;> conv => whnf) | (apply vcG_ndec <;> intro _ <;> conv => whnf) | (apply vcG_not <;> intro _ <;> conv => whnf) | (apply vcG_mk <;> intro _ <;> conv => whnf) | (apply vcIf_dec <;> intro _ <;> conv => whnf) | (apply vcIf_ndec <;> intro _ <;> conv => whnf) | (apply vcIf_not <;> intro _ <;> conv => whnf) | (apply vcIf_mk <;> intro _ <;> conv => whnf))
          all_goals first | (exfalso; omega) | (exfalso; simp_all; done) | skip
          exact again (i + 1) [4] (by omega) (by omega) ⟨rfl, by decide, rfl, ⟨⟨rfl, rfl⟩, ⟨rfl, rfl⟩, ⟨rfl, env_sref (by rw [h3]; simp) rfl⟩, ⟨rfl, by rw [decide_eq_true (show i < i + 1 by omega)]; rfl⟩, ⟨rfl, rfl⟩, trivial⟩, ⟨obj_flat (cells_congr (push_two rfl rfl h3 rfl rfl)) (flat_map fun _ => rfl), trivial⟩⟩
        · have h3 := sOut_behind (n := n) hil (show p < i by omega)
          repeat' (first | (apply AWP.go ok; rfl; conv => whnf) | (apply ord_mk; kernel_rfl; conv => whnf) | (apply And.intro; (first | omega | (unfold inI; omega) | (dsimp only; omega) | (unfold bitsOk; omega) | ((try dsimp only); simp only [List.length_map, List.length_take, List.length_append, List.length_replicate, List.length_cons, List.length_nil]; omega) | (simp only [btw_iff] at *; first | omega | (unfold inI; omega) | (unfold bitsOk; omega)) | exact stor_map (fun _ => rfl) | exact ⟨rfl, stor_cons rfl stor_nil⟩ | exact ⟨rfl, stor_map (fun _ => rfl) _⟩ | exact ⟨⟨rfl, by omega⟩, stor_map (fun _ => rfl) _⟩); conv => whnf) | (with_reducible apply get_mapN; omega; intro _; conv => whnf) | (with_reducible apply get_mapI; omega; intro _; conv => whnf) | (apply get_mapN; omega; intro _; conv => whnf) | (apply get_fill; omega; conv => whnf) | (apply ex_some; conv => whnf) | (apply get_map; omega; intro _; conv => whnf) | (apply vcG_dec <;> intro _ <;> conv => whnf) | (apply vcG_ndec <;> intro _ <;> conv => whnf) | (apply vcG_not <;> intro _ <;> conv => whnf) | (apply vcG_mk <;> intro _ <;> conv => whnf) | (apply vcIf_dec <;> intro _ <;> conv => whnf) | (apply vcIf_ndec <;> intro _ <;> conv => whnf) | (apply vcIf_not <;> intro _ <;> conv => whnf) | (apply vcIf_mk <;> intro _ <;> conv => whnf))
          all_goals first | (exfalso; omega) | (exfalso; simp_all; done) | skip
          exact again (i + 1) [2] (by omega) (by omega) ⟨rfl, by decide, rfl, ⟨⟨rfl, rfl⟩, ⟨rfl, rfl⟩, ⟨rfl, env_sref (by rw [h3]; simp) rfl⟩, ⟨rfl, by rw [decide_eq_true (show p < i by omega), decide_eq_true (show p < i + 1 by omega)]; rfl⟩, ⟨rfl, rfl⟩, trivial⟩, ⟨obj_flat (cells_congr (push_cellsN rfl h3 rfl)) (flat_map fun _ => rfl), trivial⟩⟩
    · obtain rfl : i = l.length := by omega
      by_cases h1 : p < l.length
      · have e : sOut l n p l.length = l.take p ++ n :: l.drop p := by unfold sOut; rw [if_neg (by omega), List.take_length]
        repeat' (first | (apply AWP.go ok; rfl; conv => whnf) | (apply ord_mk; kernel_rfl; conv => whnf) | (apply And.intro; (first | omega | (unfold inI; omega) | (dsimp only; omega) | (unfold bitsOk; omega) | ((try dsimp only); simp only [List.length_map, List.length_take, List.length_append, List.length_replicate, List.length_cons, List.length_nil]; omega) | (simp only [btw_iff] at *; first | omega | (unfold inI; omega) | (unfold bitsOk; omega)) | exact stor_map (fun _ => rfl) | exact ⟨rfl, stor_cons rfl stor_nil⟩ | exact ⟨rfl, stor_map (fun _ => rfl) _⟩ | exact ⟨⟨rfl, by omega⟩, stor_map (fun _ => rfl) _⟩); conv => whnf) | (with_reducible apply get_mapN; omega; intro _; conv => whnf) | (with_reducible apply get_mapI; omega; intro _; conv => whnf) | (apply get_mapN; omega; intro _; conv => whnf) | (apply get_fill; omega; conv => whnf) | (apply ex_some; conv => whnf) | (apply get_map; omega; intro _; conv => whnf) | (apply vcG_dec <;> intro _ <;> conv => whnf) | (apply vcG_ndec <;> intro _ <;> conv => whnf) | (apply vcG_not <;> intro _ <;> conv => whnf) | (apply vcG_mk <;> intro _ <;> conv => whnf) | (apply vcIf_dec <;> intro _ <;> conv => whnf) | (apply vcIf_ndec <;> intro _ <;> conv => whnf) | (apply vcIf_not <;> intro _ <;> conv => whnf) | (apply vcIf_mk <;> intro _ <;> conv => whnf))
        all_goals first | (exfalso; omega) | (exfalso; simp_all; done) | skip
        rw [e]
        exact ret_newN rfl (flat_map fun _ => rfl) rfl rfl rfl
      · have e : sOut l n p l.length ++ [n] = l.take p ++ n :: l.drop p := by unfold sOut; rw [if_pos (by omega), List.take_of_length_le (Nat.le_refl _), List.take_of_length_le (by omega), List.drop_of_length_le (by omega)]
        repeat' (first | (apply AWP.go ok; rfl; conv => whnf) | (apply ord_mk; kernel_rfl; conv => whnf) | (apply And.intro; (first | omega | (unfold inI; omega) | (dsimp only; omega) | (unfold bitsOk; omega) | ((try dsimp only); simp only [List.length_map, List.length_take, List.length_append, List.length_replicate, List.length_cons, List.length_nil]; omega) | (simp only [btw_iff] at *; first | omega | (unfold inI; omega) | (unfold bitsOk; omega)) | exact stor_map (fun _ => rfl) | exact ⟨rfl, stor_cons rfl stor_nil⟩ | exact ⟨rfl, stor_map (fun _ => rfl) _⟩ | exact ⟨⟨rfl, by omega⟩, stor_map (fun _ => rfl) _⟩); conv => whnf) | (with_reducible apply get_mapN; omega; intro _; conv => whnf) | (with_reducible apply get_mapI; omega; intro _; conv => whnf) | (apply get_mapN; omega; intro _; conv => whnf) | (apply get_fill; omega; conv => whnf) | (apply ex_some; conv => whnf) | (apply get_map; omega; intro _; conv => whnf) | (apply vcG_dec <;> intro _ <;> conv => whnf) | (apply vcG_ndec <;> intro _ <;> conv => whnf) | (apply vcG_not <;> intro _ <;> conv => whnf) | (apply vcG_mk <;> intro _ <;> conv => whnf) | (apply vcIf_dec <;> intro _ <;> conv => whnf) | (apply vcIf_ndec <;> intro _ <;> conv => whnf) | (apply vcIf_not <;> intro _ <;> conv => whnf) | (apply vcIf_mk <;> intro _ <;> conv => whnf))
        all_goals first | (exfalso; omega) | (exfalso; simp_all; done) | skip
        exact ret_newN rfl (flat_map fun _ => rfl) (by rw [← e]; simp) rfl (push_cellsN rfl e.symm rfl)

theorem l10After_ok (g : Graph) (hG : GB g) (bl : List Int) (hb : bl.length = g.st.length) (i : Nat) (hi : i < g.nx.length) : CallsA Tryz.prog 184 [.agg g.cs, ints bl, .int i] [] (ints (sortD (g.nx[i].map (pick bl)))) [] := by
  obtain ⟨r1, r2, r3⟩ := hG.row i hi
  have hg1 := hG.1
  generalize hrow : g.nx[i] = row at r1 r2 r3
  rw [← sortD_eq]
  refine callsA_of tabOk Tryz.func184 rfl rfl 34 Tryz.ntmps184 (by simp) ?_
  repeat' (first | ((fail_if_success apply stopAt 2); (fail_if_success apply stopAtS 2); apply AWP.go ok; rfl; conv => whnf) | (apply ord_mk; kernel_rfl; conv => whnf) | (apply And.intro; (first | omega | (unfold inI; omega) | (dsimp only; omega) | (unfold bitsOk; omega) | ((try dsimp only); simp only [List.length_map, List.length_take, List.length_append, List.length_replicate, List.length_cons, List.length_nil]; omega) | (simp only [btw_iff] at *; first | omega | (unfold inI; omega) | (unfold bitsOk; omega)) | exact stor_map (fun _ => rfl) | exact ⟨rfl, stor_cons rfl stor_nil⟩ | exact ⟨rfl, stor_map (fun _ => rfl) _⟩ | exact ⟨⟨rfl, by omega⟩, stor_map (fun _ => rfl) _⟩); conv => whnf) | (with_reducible apply get_mapN; omega; intro _; conv => whnf) | (with_reducible apply get_mapI; omega; intro _; conv => whnf) | (apply get_mapN; omega; intro _; conv => whnf) | (apply get_fill; omega; conv => whnf) | (apply ex_some; conv => whnf) | (apply get_map; omega; intro _; conv => whnf) | (apply vcG_dec <;> intro _ <;> conv => whnf) | (apply vcG_ndec <;> intro _ <;> conv => whnf) | (apply vcG_not <;> intro _ <;> conv => whnf) | (apply vcG_mk <;> intro _ <;> conv => whnf) | (apply vcIf_dec <;> intro _ <;> conv => whnf) | (apply vcIf_ndec <;> intro _ <;> conv => whnf) | (apply vcIf_not <;> intro _ <;> conv => whnf) | (apply vcIf_mk <;> intro _ <;> conv => whnf))
  refine AWP.reach (SealL.reach (π := [0]) (Bn := [1]) (env := [(1, ints bl), (2, .int i), (3, .ptr 0 none 0), (7, ints []), (8, .int (0 : Nat))]) (objs := [.cells 2 [[lst 2 State.cs g.st, lst 1 encL g.nx]]]) ⟨rfl, rfl, by simp, rfl, fun o ho => by cases List.mem_singleton.1 ho; rfl, ⟨rfl, rfl, rfl, rfl, rfl, trivial⟩, rfl⟩) ?_
  conv => whnf
  repeat' (first | (apply AWP.go ok; rfl; conv => whnf) | (apply ord_mk; kernel_rfl; conv => whnf) | (apply And.intro; (first | omega | (unfold inI; omega) | (dsimp only; omega) | (unfold bitsOk; omega) | ((try dsimp only); simp only [List.length_map, List.length_take, List.length_append, List.length_replicate, List.length_cons, List.length_nil]; omega) | (simp only [btw_iff] at *; first | omega | (unfold inI; omega) | (unfold bitsOk; omega)) | exact stor_map (fun _ => rfl) | exact ⟨rfl, stor_cons rfl stor_nil⟩ | exact ⟨rfl, stor_map (fun _ => rfl) _⟩ | exact ⟨⟨rfl, by omega⟩, stor_map (fun _ => rfl) _⟩); conv => whnf) | (with_reducible apply get_mapN; omega; intro _; conv => whnf) | (with_reducible apply get_mapI; omega; intro _; conv => whnf) | (apply get_mapN; omega; intro _; conv => whnf) | (apply get_fill; omega; conv => whnf) | (apply ex_some; conv => whnf) | (apply get_map; omega; intro _; conv => whnf) | (apply vcG_dec <;> intro _ <;> conv => whnf) | (apply vcG_ndec <;> intro _ <;> conv => whnf) | (apply vcG_not <;> intro _ <;> conv => whnf) | (apply vcG_mk <;> intro _ <;> conv => whnf) | (apply vcIf_dec <;> intro _ <;> conv => whnf) | (apply vcIf_ndec <;> intro _ <;> conv => whnf) | (apply vcIf_not <;> intro _ <;> conv => whnf) | (apply vcIf_mk <;> intro _ <;> conv => whnf))
  refine loopA (fun k : Nat => ([(1, ints bl), (2, .int i), (3, .ptr 0 none 0), (7, ints (((row.take k).map (pick bl)).foldl insS [])), (8, .int k)], [.cells 2 [[lst 2 State.cs g.st, lst 1 encL g.nx]]])) (fun k => k ≤ row.length) (fun k => row.length - k) 0 (by omega) ⟨[0], rfl, by decide, rfl, ⟨⟨rfl, rfl⟩, ⟨rfl, rfl⟩, ⟨rfl, rfl⟩, ⟨rfl, rfl⟩, ⟨rfl, rfl⟩, trivial⟩, ⟨obj_box rfl rfl, trivial⟩⟩ ?_
  intro k hk
  have hgr : (g.nx.map encL)[i]? = some (encL row) := by rw [List.getElem?_map, List.getElem?_eq_getElem hi, hrow]; rfl
  have hasc := (foldl_insS (l := (row.take k).map (pick bl)) (out := []) (by simp [Asc])).1
  have hln := foldl_insS_len ((row.take k).map (pick bl)) []
  rw [List.length_map, List.length_take] at hln
  simp only [List.length_nil] at hln
  by_cases hkl : k < row.length
  · have hx := r3 row[k] (List.getElem_mem _)
    have hxb : row[k].toNat < bl.length := by omega
    have c1 := l10Sorted_ok _ bl[row[k].toNat] hasc (by omega)
    have e : ((row.take (k + 1)).map (pick bl)).foldl insS [] = insS (((row.take k).map (pick bl)).foldl insS []) bl[row[k].toNat] := by
      rw [List.take_succ_eq_append_getElem hkl, List.map_append, List.foldl_append]
      show insS _ (pick bl row[k]) = _
      unfold pick; rw [getD_at hxb]
    repeat' (first | (apply AWP.go ok; rfl; conv => whnf) | (apply ord_mk; kernel_rfl; conv => whnf) | (refine get_eq (i := i) (by first | rfl | simp) hgr ?_; conv => whnf) | (apply And.intro; (first | omega | (unfold inI; omega) | (dsimp only; omega) | (unfold bitsOk; omega) | ((try dsimp only); simp only [List.length_map, List.length_take, List.length_append, List.length_replicate, List.length_cons, List.length_nil]; omega) | (simp only [btw_iff] at *; first | omega | (unfold inI; omega) | (unfold bitsOk; omega)) | exact stor_map (fun _ => rfl) | exact ⟨rfl, stor_cons rfl stor_nil⟩ | exact ⟨rfl, stor_map (fun _ => rfl) _⟩ | exact ⟨⟨rfl, by omega⟩, stor_map (fun _ => rfl) _⟩); conv => whnf) | (with_reducible apply get_mapN; omega; intro _; conv => whnf) | (with_reducible apply get_mapI; omega; intro _; conv => whnf) | (apply get_mapN; omega; intro _; conv => whnf) | (apply get_fill; omega; conv => whnf) | (apply ex_some; conv => whnf) | (apply get_map; omega; intro _; conv => whnf) | (apply vcG_dec <;> intro _ <;> conv => whnf) | (apply vcG_ndec <;> intro _ <;> conv => whnf) | (apply vcG_not <;> intro _ <;> conv => whnf) | (apply vcG_mk <;> intro _ <;> conv => whnf) | (apply vcIf_dec <;> intro _ <;> conv => whnf) | (apply vcIf_ndec <;> intro _ <;> conv => whnf) | (apply vcIf_not <;> intro _ <;> conv => whnf) | (apply vcIf_mk <;> intro _ <;> conv => whnf) | (apply call_data (c1); rfl; rfl; conv => whnf))
    all_goals first | kernel_rfl | (exfalso; omega) | skip
    exact again (k + 1) [0] (by omega) (by omega) ⟨rfl, by decide, rfl, ⟨⟨rfl, rfl⟩, ⟨rfl, rfl⟩, ⟨rfl, rfl⟩, ⟨rfl, by rw [e]; rfl⟩, ⟨rfl, rfl⟩, trivial⟩, ⟨obj_box rfl rfl, trivial⟩⟩
  · repeat' (first | (apply AWP.go ok; rfl; conv => whnf) | (apply ord_mk; kernel_rfl; conv => whnf) | (refine get_eq (i := i) (by first | rfl | simp) hgr ?_; conv => whnf) | (apply And.intro; (first | omega | (unfold inI; omega) | (dsimp only; omega) | (unfold bitsOk; omega) | ((try dsimp only); simp only [List.length_map, List.length_take, List.length_append, List.length_replicate, List.length_cons, List.length_nil]; omega) | (simp only [btw_iff] at *; first | omega | (unfold inI; omega) | (unfold bitsOk; omega)) | exact stor_map (fun _ => rfl) | exact ⟨rfl, stor_cons rfl stor_nil⟩ | exact ⟨rfl, stor_map (fun _ => rfl) _⟩ | exact ⟨⟨rfl, by omega⟩, stor_map (fun _ => rfl) _⟩); conv => whnf) | (with_reducible apply get_mapN; omega; intro _; conv => whnf) | (with_reducible apply get_mapI; omega; intro _; conv => whnf) | (apply get_mapN; omega; intro _; conv => whnf) | (apply get_fill; omega; conv => whnf) | (apply ex_some; conv => whnf) | (apply get_map; omega; intro _; conv => whnf) | (apply vcG_dec <;> intro _ <;> conv => whnf) | (apply vcG_ndec <;> intro _ <;> conv => whnf) | (apply vcG_not <;> intro _ <;> conv => whnf) | (apply vcG_mk <;> intro _ <;> conv => whnf) | (apply vcIf_dec <;> intro _ <;> conv => whnf) | (apply vcIf_ndec <;> intro _ <;> conv => whnf) | (apply vcIf_not <;> intro _ <;> conv => whnf) | (apply vcIf_mk <;> intro _ <;> conv => whnf))
    all_goals first | kernel_rfl | (exfalso; omega) | skip
    rw [List.take_of_length_le (by omega)]
    exact ret_data rfl rfl rfl
end Go.Proofs.YtcmihlbihppflaaGreat

namespace Go.Proofs.YtcmihlbihppflaaGreat
open Go.Gl
attribute [local irreducible] vcCall AWP RetOk Again ordOk

/-- the blocks of the successors -/
def aft (g : Graph) (bl : List Int) (i : Nat) : List Int := sortD ((g.nx.getD i []).map (pick bl))
/-- what tells states apart in the next partition -/
def keyA (g : Graph) (bl : List Int) (i : Nat) : List Int := bl.getD i 0 :: aft g bl i
def refL (g : Graph) (bl : List Int) : List Int := (numK (keyA g bl) g.st.length).1
theorem refL_len (g : Graph) (bl : List Int) : (refL g bl).length = g.st.length := numK_len _
theorem sortD_len (l : List Int) : (sortD l).length ≤ l.length := by
  unfold sortD Lib.compact
  have : ∀ (z : List Int) m, (Lib.compactUpTo z.toArray m).length ≤ m := by
    intro z m
    induction m with
    | zero => simp [Lib.compactUpTo]
    | succ m ih => rw [Lib.compactUpTo_succ]; split <;> simp <;> omega
  have := this (l.mergeSort fun x y => decide (x ≤ y)) (l.mergeSort fun x y => decide (x ≤ y)).length
  rw [List.length_mergeSort] at this
  rw [List.length_mergeSort]; exact this

theorem l10Refine_new (g : Graph) (hG : GB g) (bl : List Int) (hb : bl.length = g.st.length) : CallsA Tryz.prog 113 [.agg g.cs, ints bl] [] (.sref 0 0 g.st.length) [.cells 1 ((refL g bl).map enI)] := by
  have hg1 := hG.1
  have hg2 := hG.2.1
  have hkl : ((List.range bl.length).map (keyA g bl)).length = g.st.length := by simp [hb]
  have hk60 : ∀ i (hi : i < g.nx.length), (aft g bl i).length ≤ 60 := fun i hi => by
    have h1 := sortD_len ((g.nx.getD i []).map (pick bl))
    have h2 := (hG.row i hi).2.1
    rw [getD_at hi, List.length_map] at h1
    unfold aft
    rw [getD_at hi]; omega
  have c2 := l10Number_new ((List.range bl.length).map (keyA g bl)) (by rw [hkl]; omega) (fun r hr => by
    obtain ⟨i, hi, rfl⟩ := List.mem_map.1 hr
    have := hk60 i (by have := List.mem_range.1 hi; omega)
    unfold maxLen keyA
    simp only [List.length_cons]; omega)
  have e2 : (numF (sameK ((List.range bl.length).map (keyA g bl))) ((List.range bl.length).map (keyA g bl)).length).1 = refL g bl := by
    rw [hkl]
    unfold refL numK
    rw [numF_congr]
    intro i k hki hi
    unfold sameK
    rw [getD_at (by rw [hkl]; omega), getD_at (by rw [hkl]; omega)]
    simp
  rw [e2, hkl] at c2
  refine callsA_of tabOk Tryz.func113 rfl rfl 29 Tryz.ntmps113 (by simp) ?_
  repeat' (first | (apply AWP.go ok; rfl; conv => whnf) | (apply ord_mk; kernel_rfl; conv => whnf) | (apply And.intro; (first | omega | (unfold inI; omega) | (dsimp only; omega) | (unfold bitsOk; omega) | ((try dsimp only); simp only [List.length_map, List.length_take, List.length_append, List.length_replicate, List.length_cons, List.length_nil]; omega) | (simp only [btw_iff] at *; first | omega | (unfold inI; omega) | (unfold bitsOk; omega)) | exact stor_map (fun _ => rfl) | exact ⟨rfl, stor_cons rfl stor_nil⟩ | exact ⟨rfl, stor_map (fun _ => rfl) _⟩ | exact ⟨⟨rfl, by omega⟩, stor_map (fun _ => rfl) _⟩); conv => whnf) | (with_reducible apply get_mapN; omega; intro _; conv => whnf) | (with_reducible apply get_mapI; omega; intro _; conv => whnf) | (apply get_mapN; omega; intro _; conv => whnf) | (apply get_fill; omega; conv => whnf) | (apply ex_some; conv => whnf) | (apply get_map; omega; intro _; conv => whnf) | (apply vcG_dec <;> intro _ <;> conv => whnf) | (apply vcG_ndec <;> intro _ <;> conv => whnf) | (apply vcG_not <;> intro _ <;> conv => whnf) | (apply vcG_mk <;> intro _ <;> conv => whnf) | (apply vcIf_dec <;> intro _ <;> conv => whnf) | (apply vcIf_ndec <;> intro _ <;> conv => whnf) | (apply vcIf_not <;> intro _ <;> conv => whnf) | (apply vcIf_mk <;> intro _ <;> conv => whnf))
  refine loopA (fun i : Nat => ([(1, ints bl), (2, .ptr 0 none 0), (5, .sref 1 0 i), (6, .int i)], [.cells 2 [[lst 2 State.cs g.st, lst 1 encL g.nx]], .cells 1 (((List.range bl.length).take i).map fun i => ownRow (keyA g bl i))])) (fun i => i ≤ bl.length) (fun i => bl.length - i) 0 (by omega) ⟨[0, 1], rfl, by decide, rfl, ⟨⟨rfl, rfl⟩, ⟨rfl, rfl⟩, ⟨rfl, rfl⟩, ⟨rfl, rfl⟩, trivial⟩, ⟨obj_box rfl rfl, obj_flat rfl (flat_map fun _ => rfl), trivial⟩⟩ ?_
  intro i hi
  by_cases hil : i < bl.length
  · have hin : i < g.nx.length := by omega
    have hir : i < (List.range bl.length).length := by simpa using hil
    have c1 := l10After_ok g hG bl hb i hin
    have ea : sortD (g.nx[i].map (pick bl)) = aft g bl i := by unfold aft; rw [getD_at hin]
    have h60 := hk60 i hin
    rw [ea] at c1
    have ek : keyA g bl i = bl[i] :: aft g bl i := by unfold keyA; rw [getD_at hil]
    repeat' (first | ((fail_if_success apply stopAt 4); (fail_if_success apply stopAtS 4); apply AWP.go ok; rfl; conv => whnf) | (apply ord_mk; kernel_rfl; conv => whnf) | (apply And.intro; (first | omega | (unfold inI; omega) | (dsimp only; omega) | (unfold bitsOk; omega) | ((try dsimp only); simp only [List.length_map, List.length_take, List.length_append, List.length_replicate, List.length_cons, List.length_nil]; omega) | (simp only [btw_iff] at *; first | omega | (unfold inI; omega) | (unfold bitsOk; omega)) | exact stor_map (fun _ => rfl) | exact ⟨rfl, stor_cons rfl stor_nil⟩ | exact ⟨rfl, stor_map (fun _ => rfl) _⟩ | exact ⟨⟨rfl, by omega⟩, stor_map (fun _ => rfl) _⟩); conv => whnf) | (with_reducible apply get_mapN; omega; intro _; conv => whnf) | (with_reducible apply get_mapI; omega; intro _; conv => whnf) | (apply get_mapN; omega; intro _; conv => whnf) | (apply get_fill; omega; conv => whnf) | (apply ex_some; conv => whnf) | (apply get_map; omega; intro _; conv => whnf) | (apply vcG_dec <;> intro _ <;> conv => whnf) | (apply vcG_ndec <;> intro _ <;> conv => whnf) | (apply vcG_not <;> intro _ <;> conv => whnf) | (apply vcG_mk <;> intro _ <;> conv => whnf) | (apply vcIf_dec <;> intro _ <;> conv => whnf) | (apply vcIf_ndec <;> intro _ <;> conv => whnf) | (apply vcIf_not <;> intro _ <;> conv => whnf) | (apply vcIf_mk <;> intro _ <;> conv => whnf) | (apply call_data (c1); rfl; rfl; conv => whnf))
    all_goals first | kernel_rfl | (exfalso; omega) | skip
    refine AWP.reach (Gl.Reach.absorb 5 3 i 0 rfl (app_last (app_len (by omega) rfl)) rfl rfl (by simp; omega) rfl (flat_append (flat_cons rfl flat_nil) (flat_map fun _ => rfl)) rfl) ?_
    conv => whnf
    repeat' (first | (apply AWP.go ok; rfl; conv => whnf) | (apply ord_mk; kernel_rfl; conv => whnf) | (apply And.intro; (first | omega | (unfold inI; omega) | (dsimp only; omega) | (unfold bitsOk; omega) | ((try dsimp only); simp only [List.length_map, List.length_take, List.length_append, List.length_replicate, List.length_cons, List.length_nil]; omega) | (simp only [btw_iff] at *; first | omega | (unfold inI; omega) | (unfold bitsOk; omega)) | exact stor_map (fun _ => rfl) | exact ⟨rfl, stor_cons rfl stor_nil⟩ | exact ⟨rfl, stor_map (fun _ => rfl) _⟩ | exact ⟨⟨rfl, by omega⟩, stor_map (fun _ => rfl) _⟩); conv => whnf) | (with_reducible apply get_mapN; omega; intro _; conv => whnf) | (with_reducible apply get_mapI; omega; intro _; conv => whnf) | (apply get_mapN; omega; intro _; conv => whnf) | (apply get_fill; omega; conv => whnf) | (apply ex_some; conv => whnf) | (apply get_map; omega; intro _; conv => whnf) | (apply vcG_dec <;> intro _ <;> conv => whnf) | (apply vcG_ndec <;> intro _ <;> conv => whnf) | (apply vcG_not <;> intro _ <;> conv => whnf) | (apply vcG_mk <;> intro _ <;> conv => whnf) | (apply vcIf_dec <;> intro _ <;> conv => whnf) | (apply vcIf_ndec <;> intro _ <;> conv => whnf) | (apply vcIf_not <;> intro _ <;> conv => whnf) | (apply vcIf_mk <;> intro _ <;> conv => whnf))
    refine again (i + 1) [0, 5] (by omega) (by omega) ⟨rfl, by decide, rfl, ⟨⟨rfl, rfl⟩, ⟨rfl, rfl⟩, ⟨rfl, rfl⟩, ⟨rfl, rfl⟩, trivial⟩, ⟨obj_box rfl rfl, obj_flat (cells_congr (app_fin hir rfl ?_)) (flat_map fun _ => rfl), trivial⟩⟩
    simp only [List.getElem_range]
    rw [ek]; rfl
  · obtain rfl : i = bl.length := by omega
    rw [List.take_of_length_le (by simp)]
    repeat' (first | (apply AWP.go ok; rfl; conv => whnf) | (apply ord_mk; kernel_rfl; conv => whnf) | (apply And.intro; (first | omega | (unfold inI; omega) | (dsimp only; omega) | (unfold bitsOk; omega) | ((try dsimp only); simp only [List.length_map, List.length_take, List.length_append, List.length_replicate, List.length_cons, List.length_nil]; omega) | (simp only [btw_iff] at *; first | omega | (unfold inI; omega) | (unfold bitsOk; omega)) | exact stor_map (fun _ => rfl) | exact ⟨rfl, stor_cons rfl stor_nil⟩ | exact ⟨rfl, stor_map (fun _ => rfl) _⟩ | exact ⟨⟨rfl, by omega⟩, stor_map (fun _ => rfl) _⟩); conv => whnf) | (with_reducible apply get_mapN; omega; intro _; conv => whnf) | (with_reducible apply get_mapI; omega; intro _; conv => whnf) | (apply get_mapN; omega; intro _; conv => whnf) | (apply get_fill; omega; conv => whnf) | (apply ex_some; conv => whnf) | (apply get_map; omega; intro _; conv => whnf) | (apply vcG_dec <;> intro _ <;> conv => whnf) | (apply vcG_ndec <;> intro _ <;> conv => whnf) | (apply vcG_not <;> intro _ <;> conv => whnf) | (apply vcG_mk <;> intro _ <;> conv => whnf) | (apply vcIf_dec <;> intro _ <;> conv => whnf) | (apply vcIf_ndec <;> intro _ <;> conv => whnf) | (apply vcIf_not <;> intro _ <;> conv => whnf) | (apply vcIf_mk <;> intro _ <;> conv => whnf) | (apply call_gen [] [1] [2] (c2); (focus (exact bor_cons (bor_rows (l := (List.range bl.length).map (keyA g bl)) (by show AObj.cells 1 _ = _; rw [List.map_map]; rfl) rfl rfl (by simp)) bor_nil)); (focus ((repeat' (first | exact passOk_nil | apply passOk_cons)) <;> (first | rfl | (refine pass_flat rfl ?_; (first | exact flat_nil | exact flat_replicate rfl | exact flat_map (fun _ => rfl) | exact flat_map Tree.co_flat | (apply flat_append <;> (first | exact flat_replicate rfl | exact flat_map (fun _ => rfl))) | assumption))))); rfl; rfl; rfl; rfl; rfl; (focus ((repeat' (first | exact rens_nil | apply rens_cons)) <;> (first | exact ren_dead | exact ren_box rfl rfl | (refine ren_flat ?_; (first | exact flat_nil | exact flat_replicate rfl | exact flat_map (fun _ => rfl) | exact flat_map Tree.co_flat | (apply flat_append <;> (first | exact flat_replicate rfl | exact flat_map (fun _ => rfl))) | assumption))))); (first | exact .inl rfl | (refine .inr ⟨rfl, ?_⟩; repeat' (first | exact True.intro | apply And.intro | exact rfl | exact plainLL_map (fun _ => rfl) _))); conv => whnf))
    all_goals first | (exfalso; omega) | skip
    exact ret_newN rfl (flat_map fun _ => rfl) rfl rfl rfl

theorem grouped2_ok (c : List Int) (d : List (List Int)) (n : Nat) (hn : n ≤ 1048576) (same : Nat → Nat → Bool) (f : FuncId) (hf : ∀ i k : Nat, k < i → i < n → CallsA Tryz.prog f [.int i, .int k, .pt [ints c], .pt [lst 1 encL d]] [] (.bool (same i k)) []) : CallsA Tryz.prog 190 [.int n, .fn (.func f) [] [.pt [ints c], .pt [lst 1 encL d]]] [] (.sref 0 0 n) [.cells 1 ((numF same n).1.map enI)] := by
  have hlen := numF_len same n
  have hfl : ∀ i, Flat (((numF same n).1.take i).map enI ++ List.replicate ((numF same n).1.length - i) [AC.int 0]) := fun i => flat_append (flat_map fun _ => rfl) (flat_replicate rfl)
  refine callsA_of tabOk Tryz.func190 rfl rfl 46 Tryz.ntmps190 (by simp) ?_
  repeat' (first | (apply AWP.go ok; rfl; conv => whnf) | (apply ord_mk; kernel_rfl; conv => whnf) | (apply And.intro; (first | omega | (unfold inI; omega) | (dsimp only; omega) | (unfold bitsOk; omega) | ((try dsimp only); simp only [List.length_map, List.length_take, List.length_append, List.length_replicate, List.length_cons, List.length_nil]; omega) | (simp only [btw_iff] at *; first | omega | (unfold inI; omega) | (unfold bitsOk; omega)) | exact stor_map (fun _ => rfl) | exact ⟨rfl, stor_cons rfl stor_nil⟩ | exact ⟨rfl, stor_map (fun _ => rfl) _⟩ | exact ⟨⟨rfl, by omega⟩, stor_map (fun _ => rfl) _⟩); conv => whnf) | (with_reducible apply get_mapN; omega; intro _; conv => whnf) | (with_reducible apply get_mapI; omega; intro _; conv => whnf) | (apply get_mapN; omega; intro _; conv => whnf) | (apply get_fill; omega; conv => whnf) | (apply ex_some; conv => whnf) | (apply get_map; omega; intro _; conv => whnf) | (apply vcG_dec <;> intro _ <;> conv => whnf) | (apply vcG_ndec <;> intro _ <;> conv => whnf) | (apply vcG_not <;> intro _ <;> conv => whnf) | (apply vcG_mk <;> intro _ <;> conv => whnf) | (apply vcIf_dec <;> intro _ <;> conv => whnf) | (apply vcIf_ndec <;> intro _ <;> conv => whnf) | (apply vcIf_not <;> intro _ <;> conv => whnf) | (apply vcIf_mk <;> intro _ <;> conv => whnf))
  refine loopA (fun i : Nat => ([(1, .fn (.func f) [] [.pt [ints c], .pt [lst 1 encL d]]), (5, .sref 0 0 n), (6, .int ((numF same i).2 : Int)), (12, .int n), (13, .int i)], [.cells 1 (((numF same n).1.take i).map enI ++ List.replicate ((numF same n).1.length - i) [AC.int 0])])) (fun i => i ≤ n) (fun i => n - i) 0 (by omega) ⟨[0], rfl, by decide, rfl, ⟨⟨rfl, rfl⟩, ⟨rfl, rfl⟩, ⟨rfl, rfl⟩, ⟨rfl, rfl⟩, ⟨rfl, rfl⟩, trivial⟩, ⟨obj_flat (cells_congr (by rw [hlen]; rfl)) (hfl 0), trivial⟩⟩ ?_
  intro i hi
  by_cases hin : i < n
  · have hc := (numF_lt same i).2
    have hF : i < (((numF same n).1.take i).map enI ++ List.replicate ((numF same n).1.length - i) [AC.int 0]).length := by rw [fill_len (by omega)]; omega
    repeat' (first | (apply AWP.go ok; rfl; conv => whnf) | (apply ord_mk; kernel_rfl; conv => whnf) | (apply And.intro; (first | omega | (unfold inI; omega) | (dsimp only; omega) | (unfold bitsOk; omega) | ((try dsimp only); simp only [List.length_map, List.length_take, List.length_append, List.length_replicate, List.length_cons, List.length_nil]; omega) | (simp only [btw_iff] at *; first | omega | (unfold inI; omega) | (unfold bitsOk; omega)) | exact stor_map (fun _ => rfl) | exact ⟨rfl, stor_cons rfl stor_nil⟩ | exact ⟨rfl, stor_map (fun _ => rfl) _⟩ | exact ⟨⟨rfl, by omega⟩, stor_map (fun _ => rfl) _⟩); conv => whnf) | (with_reducible apply get_mapN; omega; intro _; conv => whnf) | (with_reducible apply get_mapI; omega; intro _; conv => whnf) | (apply get_mapN; omega; intro _; conv => whnf) | (apply get_fill; omega; conv => whnf) | (apply ex_some; conv => whnf) | (apply get_map; omega; intro _; conv => whnf) | (apply vcG_dec <;> intro _ <;> conv => whnf) | (apply vcG_ndec <;> intro _ <;> conv => whnf) | (apply vcG_not <;> intro _ <;> conv => whnf) | (apply vcG_mk <;> intro _ <;> conv => whnf) | (apply vcIf_dec <;> intro _ <;> conv => whnf) | (apply vcIf_ndec <;> intro _ <;> conv => whnf) | (apply vcIf_not <;> intro _ <;> conv => whnf) | (apply vcIf_mk <;> intro _ <;> conv => whnf))
    all_goals first | (exfalso; omega) | skip
    refine loopA (fun k : Nat => ([(1, .fn (.func f) [] [.pt [ints c], .pt [lst 1 encL d]]), (5, .sref 0 0 n), (6, .int ((numF same i).2 : Int)), (12, .int n), (13, .int i), (7, .int i), (20, .int i), (21, .int k)], [.cells 1 ((((numF same n).1.take i).map enI ++ List.replicate ((numF same n).1.length - i) [AC.int 0]).set i [AC.int ((numF same i).2 : Int)])])) (fun k => k ≤ i ∧ ∀ j, j < k → same i j = false) (fun k => i - k) 0 ⟨by omega, fun j hj => by omega⟩ ⟨[0], rfl, by decide, rfl, ⟨⟨rfl, rfl⟩, ⟨rfl, rfl⟩, ⟨rfl, rfl⟩, ⟨rfl, rfl⟩, ⟨rfl, rfl⟩, ⟨rfl, rfl⟩, ⟨rfl, rfl⟩, ⟨rfl, rfl⟩, trivial⟩, ⟨obj_flat rfl (flat_set (hfl i) rfl), trivial⟩⟩ ?_
    rintro k ⟨hk1, hk2⟩
    generalize hFF : (((numF same n).1.take i).map enI ++ List.replicate ((numF same n).1.length - i) [AC.int 0]) = F at hF
    by_cases hki : k < i
    · have hg : (F.set i [AC.int ((numF same i).2 : Int)])[k]? = some (enI ((numF same n).1[k]'(by omega))) := by rw [← hFF]; exact fill_got hki (by omega)
      have hlt := numF_lt' (same := same) (n := n) hi hki
      repeat' (first | (apply AWP.go ok; rfl; conv => whnf) | (apply ord_mk; kernel_rfl; conv => whnf) | (apply get_set; (exact Int.toNat_natCast i); (first | exact hF | (rw [List.length_set]; exact hF)); conv => whnf) | (apply get_eq; (exact Int.toNat_natCast k); exact hg; conv => whnf) | (apply And.intro; (first | omega | (unfold inI; omega) | (dsimp only; omega) | (unfold bitsOk; omega) | ((try dsimp only); simp only [List.length_map, List.length_take, List.length_append, List.length_replicate, List.length_cons, List.length_nil]; omega) | (simp only [btw_iff] at *; first | omega | (unfold inI; omega) | (unfold bitsOk; omega)) | exact stor_map (fun _ => rfl) | exact ⟨rfl, stor_cons rfl stor_nil⟩ | exact ⟨rfl, stor_map (fun _ => rfl) _⟩ | exact ⟨⟨rfl, by omega⟩, stor_map (fun _ => rfl) _⟩); conv => whnf) | (with_reducible apply get_mapN; omega; intro _; conv => whnf) | (with_reducible apply get_mapI; omega; intro _; conv => whnf) | (apply get_mapN; omega; intro _; conv => whnf) | (apply get_fill; omega; conv => whnf) | (apply ex_some; conv => whnf) | (apply get_map; omega; intro _; conv => whnf) | (apply vcG_dec <;> intro _ <;> conv => whnf) | (apply vcG_ndec <;> intro _ <;> conv => whnf) | (apply vcG_not <;> intro _ <;> conv => whnf) | (apply vcG_mk <;> intro _ <;> conv => whnf) | (apply vcIf_dec <;> intro _ <;> conv => whnf) | (apply vcIf_ndec <;> intro _ <;> conv => whnf) | (apply vcIf_not <;> intro _ <;> conv => whnf) | (apply vcIf_mk <;> intro _ <;> conv => whnf) | (apply call_data (hf i k hki hin); rfl; rfl; conv => whnf))
      all_goals first | (exfalso; omega) | skip
      · rename_i hs
        obtain ⟨h3, h4⟩ := numF_found hin hki (by assumption) hk2
        exact again (i + 1) [0] (by omega) (by omega) ⟨rfl, by decide, rfl, ⟨⟨rfl, rfl⟩, ⟨rfl, rfl⟩, ⟨rfl, env_int (by rw [h4])⟩, ⟨rfl, rfl⟩, ⟨rfl, rfl⟩, trivial⟩, ⟨obj_flat (cells_congr (by rw [← hFF]; exact fill_set2 (by omega) rfl (by rw [h3]; rfl))) (hfl _), trivial⟩⟩
      · refine again (k + 1) [0] ⟨by omega, fun j hj => ?_⟩ (by omega) ⟨rfl, by decide, rfl, ⟨⟨rfl, rfl⟩, ⟨rfl, rfl⟩, ⟨rfl, rfl⟩, ⟨rfl, rfl⟩, ⟨rfl, rfl⟩, ⟨rfl, rfl⟩, ⟨rfl, rfl⟩, ⟨rfl, rfl⟩, trivial⟩, ⟨obj_flat rfl (flat_set (hFF ▸ hfl i) rfl), trivial⟩⟩
        rcases Nat.lt_or_ge j k with h3 | h3
        · exact hk2 j h3
        · obtain rfl : j = k := by omega
          assumption
    · obtain rfl : k = i := by omega
      obtain ⟨h3, h4⟩ := numF_none hin hk2
      repeat' (first | (apply AWP.go ok; rfl; conv => whnf) | (apply ord_mk; kernel_rfl; conv => whnf) | (apply get_set; (exact Int.toNat_natCast k); exact hF; conv => whnf) | (apply And.intro; (first | omega | (unfold inI; omega) | (dsimp only; omega) | (unfold bitsOk; omega) | ((try dsimp only); simp only [List.length_map, List.length_take, List.length_append, List.length_replicate, List.length_cons, List.length_nil]; omega) | (simp only [btw_iff] at *; first | omega | (unfold inI; omega) | (unfold bitsOk; omega)) | exact stor_map (fun _ => rfl) | exact ⟨rfl, stor_cons rfl stor_nil⟩ | exact ⟨rfl, stor_map (fun _ => rfl) _⟩ | exact ⟨⟨rfl, by omega⟩, stor_map (fun _ => rfl) _⟩); conv => whnf) | (with_reducible apply get_mapN; omega; intro _; conv => whnf) | (with_reducible apply get_mapI; omega; intro _; conv => whnf) | (apply get_mapN; omega; intro _; conv => whnf) | (apply get_fill; omega; conv => whnf) | (apply ex_some; conv => whnf) | (apply get_map; omega; intro _; conv => whnf) | (apply vcG_dec <;> intro _ <;> conv => whnf) | (apply vcG_ndec <;> intro _ <;> conv => whnf) | (apply vcG_not <;> intro _ <;> conv => whnf) | (apply vcG_mk <;> intro _ <;> conv => whnf) | (apply vcIf_dec <;> intro _ <;> conv => whnf) | (apply vcIf_ndec <;> intro _ <;> conv => whnf) | (apply vcIf_not <;> intro _ <;> conv => whnf) | (apply vcIf_mk <;> intro _ <;> conv => whnf))
      all_goals first | (exfalso; omega) | skip
      exact again (k + 1) [0] (by omega) (by omega) ⟨rfl, by decide, rfl, ⟨⟨rfl, rfl⟩, ⟨rfl, rfl⟩, ⟨rfl, env_int (by rw [h4]; simp)⟩, ⟨rfl, rfl⟩, ⟨rfl, rfl⟩, trivial⟩, ⟨obj_flat (cells_congr (by rw [← hFF, ← fill_set (f := enI) _ _ _ (by omega), h3]; rfl)) (hfl _), trivial⟩⟩
  · repeat' (first | (apply AWP.go ok; rfl; conv => whnf) | (apply ord_mk; kernel_rfl; conv => whnf) | (apply And.intro; (first | omega | (unfold inI; omega) | (dsimp only; omega) | (unfold bitsOk; omega) | ((try dsimp only); simp only [List.length_map, List.length_take, List.length_append, List.length_replicate, List.length_cons, List.length_nil]; omega) | (simp only [btw_iff] at *; first | omega | (unfold inI; omega) | (unfold bitsOk; omega)) | exact stor_map (fun _ => rfl) | exact ⟨rfl, stor_cons rfl stor_nil⟩ | exact ⟨rfl, stor_map (fun _ => rfl) _⟩ | exact ⟨⟨rfl, by omega⟩, stor_map (fun _ => rfl) _⟩); conv => whnf) | (with_reducible apply get_mapN; omega; intro _; conv => whnf) | (with_reducible apply get_mapI; omega; intro _; conv => whnf) | (apply get_mapN; omega; intro _; conv => whnf) | (apply get_fill; omega; conv => whnf) | (apply ex_some; conv => whnf) | (apply get_map; omega; intro _; conv => whnf) | (apply vcG_dec <;> intro _ <;> conv => whnf) | (apply vcG_ndec <;> intro _ <;> conv => whnf) | (apply vcG_not <;> intro _ <;> conv => whnf) | (apply vcG_mk <;> intro _ <;> conv => whnf) | (apply vcIf_dec <;> intro _ <;> conv => whnf) | (apply vcIf_ndec <;> intro _ <;> conv => whnf) | (apply vcIf_not <;> intro _ <;> conv => whnf) | (apply vcIf_mk <;> intro _ <;> conv => whnf))
    all_goals first | (exfalso; omega) | skip
    obtain rfl : i = n := by omega
    exact ret_new rfl (flat_map fun _ => rfl) rfl (by rw [List.take_of_length_le (by omega), hlen, Nat.sub_self]; simp)

def sameR (bl : List Int) (sets : List (List Int)) (i k : Nat) : Bool := decide (bl.getD i 0 = bl.getD k 0) && decide (sets.getD i [] = sets.getD k [])
theorem refine1_ok (bl : List Int) (sets : List (List Int)) (hs : ∀ s ∈ sets, s.length ≤ maxLen) (i k : Nat) (hk : k < i) (hi : i < bl.length) (hi2 : i < sets.length) : CallsA Tryz.prog 191 [.int i, .int k, .pt [ints bl], .pt [lst 1 encL sets]] [] (.bool (sameR bl sets i k)) [] := by
  have c1 := equalI_ok sets[i] sets[k] (hs _ (List.getElem_mem _)) (hs _ (List.getElem_mem _))
  unfold sameR
  rw [getD_at hi, getD_at (by omega), getD_at hi2, getD_at (by omega)]
  have g1 : (sets.map encL)[i]? = some (encL sets[i]) := by rw [List.getElem?_map, List.getElem?_eq_getElem hi2]; rfl
  have g2 : (sets.map encL)[k]? = some (encL sets[k]) := by rw [List.getElem?_map, List.getElem?_eq_getElem (by omega)]; rfl
  have g3 : (bl.map enI)[i]? = some (enI bl[i]) := by rw [List.getElem?_map, List.getElem?_eq_getElem hi]; rfl
  have g4 : (bl.map enI)[k]? = some (enI bl[k]) := by rw [List.getElem?_map, List.getElem?_eq_getElem (by omega)]; rfl
  generalize sets[i] = si at *
  generalize sets[k] = sk at *
  generalize bl[i] = bi at *
  generalize bl[k] = bk at *
  refine callsA_of tabOk Tryz.func191 rfl rfl 27 Tryz.ntmps191 (by simp) ?_
  repeat' (first | (apply AWP.go ok; rfl; conv => whnf) | (apply ord_mk; kernel_rfl; conv => whnf) | (refine get_eq (i := k) rfl g4 ?_; conv => whnf) | (refine get_eq (i := i) rfl g3 ?_; conv => whnf) | (refine get_eq (i := k) rfl g2 ?_; conv => whnf) | (refine get_eq (i := i) rfl g1 ?_; conv => whnf) | (apply And.intro; (first | omega | (unfold inI; omega) | (dsimp only; omega) | (unfold bitsOk; omega) | ((try dsimp only); simp only [List.length_map, List.length_take, List.length_append, List.length_replicate, List.length_cons, List.length_nil]; omega) | (simp only [btw_iff] at *; first | omega | (unfold inI; omega) | (unfold bitsOk; omega)) | exact stor_map (fun _ => rfl) | exact ⟨rfl, stor_cons rfl stor_nil⟩ | exact ⟨rfl, stor_map (fun _ => rfl) _⟩ | exact ⟨⟨rfl, by omega⟩, stor_map (fun _ => rfl) _⟩); conv => whnf) | (with_reducible apply get_mapN; omega; intro _; conv => whnf) | (with_reducible apply get_mapI; omega; intro _; conv => whnf) | (apply get_mapN; omega; intro _; conv => whnf) | (apply get_fill; omega; conv => whnf) | (apply ex_some; conv => whnf) | (apply get_map; omega; intro _; conv => whnf) | (apply vcG_dec <;> intro _ <;> conv => whnf) | (apply vcG_ndec <;> intro _ <;> conv => whnf) | (apply vcG_not <;> intro _ <;> conv => whnf) | (apply vcG_mk <;> intro _ <;> conv => whnf) | (apply vcIf_dec <;> intro _ <;> conv => whnf) | (apply vcIf_ndec <;> intro _ <;> conv => whnf) | (apply vcIf_not <;> intro _ <;> conv => whnf) | (apply vcIf_mk <;> intro _ <;> conv => whnf) | (apply call_data (c1); rfl; rfl; conv => whnf))
  · rename_i h
    exact ret_bool rfl (by rw [decide_eq_true h]; rfl)
  · rename_i h
    exact ret_bool rfl (by rw [decide_eq_false h]; rfl)
end Go.Proofs.YtcmihlbihppflaaGreat

namespace Go.Proofs.YtcmihlbihppflaaGreat
open Go.Gl
attribute [local irreducible] vcCall AWP RetOk Again ordOk

theorem get_fill2 {α : Type} {f : α → List AC} {l : List α} {z : List AC} {k n : Nat} {K : List AC → Prop} (hn : n = k) (h : k < l.length) (kk : K z) : ∃ e, ((l.take k).map f ++ List.replicate (l.length - k) z)[n]? = some e ∧ K e :=
  ⟨z, by subst hn; exact fill_get _ _ _ _ h, kk⟩
theorem bor_fnC {objs : Nat → AObj} {π Bn : List Nat} {f : Fn} {caps caps' : List AC} (h : borL objs π Bn caps = caps') : bor objs π Bn (.fn f [] caps) = .fn f [] caps' := by
  simp only [bor, borL, h]
theorem bor_ptrRows {objs : Nat → AObj} {π Bn : List Nat} {o w : Nat} {l : List (List Int)} (ho : objs o = .cells w [[.own 1 (l.map ownRow)]]) (h1 : idx π o = none) (h2 : inB Bn o = true) : bor objs π Bn (.ptr o none 0) = .pt [lst 1 encL l] := by
  simp only [bor, h1, h2, ho]
  show AC.pt [AC.list 1 (l.map ownRow).length (unownLL (l.map ownRow))] = _
  rw [rows_unown, List.length_map]; rfl

theorem refine_new (g : Graph) (hG : GB g) (bl : List Int) (hb : bl.length = g.st.length) : CallsA Tryz.prog 116 [.agg g.cs, ints bl] [] (.sref 0 0 g.st.length) [.cells 1 ((refL g bl).map enI)] := by
  have hg1 := hG.1
  have hg2 := hG.2.1
  have hsl : ∀ s ∈ (List.range g.nx.length).map (aft g bl), s.length ≤ maxLen := fun s hs => by
    obtain ⟨i, hi, rfl⟩ := List.mem_map.1 hs
    have hi := List.mem_range.1 hi
    have h1 := sortD_len ((g.nx.getD i []).map (pick bl))
    have h2 := (hG.row i hi).2.1
    rw [getD_at hi, List.length_map] at h1
    unfold aft maxLen
    rw [getD_at hi]; omega
  have c4 := grouped2_ok bl ((List.range g.nx.length).map (aft g bl)) bl.length (by omega) (sameR bl ((List.range g.nx.length).map (aft g bl))) 191 (fun i k hk hi => refine1_ok bl _ hsl i k hk hi (by simp; omega))
  have e4 : (numF (sameR bl ((List.range g.nx.length).map (aft g bl))) bl.length).1 = refL g bl := by
    unfold refL numK
    rw [hb, numF_congr]
    intro i k hki hi
    unfold sameR keyA
    rw [getD_at (l := (List.range g.nx.length).map (aft g bl)) (by simp; omega), getD_at (l := (List.range g.nx.length).map (aft g bl)) (by simp; omega)]
    simp only [List.getElem_map, List.getElem_range]
    rw [← Bool.decide_and]
    simp only [decide_eq_decide, List.cons.injEq]
    constructor
    · rintro ⟨h1, h2⟩; exact ⟨h1.symm, h2.symm⟩
    · rintro ⟨h1, h2⟩; exact ⟨h1.symm, h2.symm⟩
  rw [e4] at c4
  refine callsA_of tabOk Tryz.func116 rfl rfl 35 Tryz.ntmps116 (by simp) ?_
  repeat' (first | (apply AWP.go ok; rfl; conv => whnf) | (apply ord_mk; kernel_rfl; conv => whnf) | (apply And.intro; (first | omega | (unfold inI; omega) | (dsimp only; omega) | (unfold bitsOk; omega) | ((try dsimp only); simp only [List.length_map, List.length_take, List.length_append, List.length_replicate, List.length_cons, List.length_nil]; omega) | (simp only [btw_iff] at *; first | omega | (unfold inI; omega) | (unfold bitsOk; omega)) | exact stor_map (fun _ => rfl) | exact ⟨rfl, stor_cons rfl stor_nil⟩ | exact ⟨rfl, stor_map (fun _ => rfl) _⟩ | exact ⟨⟨rfl, by omega⟩, stor_map (fun _ => rfl) _⟩); conv => whnf) | (with_reducible apply get_mapN; omega; intro _; conv => whnf) | (with_reducible apply get_mapI; omega; intro _; conv => whnf) | (apply get_mapN; omega; intro _; conv => whnf) | (apply get_fill; omega; conv => whnf) | (apply ex_some; conv => whnf) | (apply get_map; omega; intro _; conv => whnf) | (apply vcG_dec <;> intro _ <;> conv => whnf) | (apply vcG_ndec <;> intro _ <;> conv => whnf) | (apply vcG_not <;> intro _ <;> conv => whnf) | (apply vcG_mk <;> intro _ <;> conv => whnf) | (apply vcIf_dec <;> intro _ <;> conv => whnf) | (apply vcIf_ndec <;> intro _ <;> conv => whnf) | (apply vcIf_not <;> intro _ <;> conv => whnf) | (apply vcIf_mk <;> intro _ <;> conv => whnf))
  refine AWP.reach (Gl.Reach.weaken (es' := List.replicate bl.length [.own 1 []]) 2 rfl (by rw [List.length_replicate, List.length_replicate]; rfl) rows_weaken rfl) ?_
  conv => whnf
  refine loopA (fun i : Nat => ([(3, .ptr 0 none 0), (5, .ptr 1 none 0), (13, lst 1 encL g.nx), (14, .int g.nx.length), (15, .int i)], [.cells 1 [[ints bl]], .cells 1 [[.sref 2 0 bl.length]], .cells 1 (((List.range g.nx.length).take i).map (fun j => ownRow (aft g bl j)) ++ List.replicate ((List.range g.nx.length).length - i) [.own 1 []])])) (fun i => i ≤ g.nx.length) (fun i => g.nx.length - i) 0 (by omega) ⟨[1, 3, 2], rfl, by decide, rfl, ⟨⟨rfl, rfl⟩, ⟨rfl, rfl⟩, ⟨rfl, rfl⟩, ⟨rfl, rfl⟩, ⟨rfl, rfl⟩, trivial⟩, ⟨obj_box rfl rfl, obj_box rfl rfl, obj_flat (cells_congr (by rw [List.length_range, hg2, hb]; rfl)) (flat_append (flat_map fun _ => rfl) (flat_replicate rfl)), trivial⟩⟩ ?_
  intro i hi
  by_cases hil : i < g.nx.length
  · obtain ⟨r1, r2, r3⟩ := hG.row i hil
    have hir : i < (List.range g.nx.length).length := by simpa using hil
    have hgr : (g.nx.map encL)[i]? = some (encL g.nx[i]) := by rw [List.getElem?_map, List.getElem?_eq_getElem hil]; rfl
    have ea : sortD (g.nx[i].map (pick bl)) = aft g bl i := by unfold aft; rw [getD_at hil]
    generalize g.nx[i] = row at *
    have c1 := picked_new bl row (by omega) (by rw [hb]; exact r3) (by omega)
    have c2 := sort_ok (row.map (pick bl)) (by simp; omega) (by simp; omega)
    have c3 := compact_ok ((row.map (pick bl)).mergeSort fun x y => decide (x ≤ y)) (by rw [List.length_mergeSort]; simp; omega) (by rw [List.length_mergeSort]; simp; omega)
    rw [List.length_map] at c2
    rw [List.length_mergeSort, List.length_map] at c3
    have e3 : Lib.compact ((row.map (pick bl)).mergeSort fun x y => decide (x ≤ y)) = aft g bl i := ea
    rw [e3] at c3
    repeat' (first | ((fail_if_success apply stopAt 8); (fail_if_success apply stopAtS 8); apply AWP.go ok; rfl; conv => whnf) | (apply ord_mk; kernel_rfl; conv => whnf) | (refine get_fill2 rfl hir ?_; conv => whnf) | (refine get_eq (i := i) rfl hgr ?_; conv => whnf) | (apply And.intro; (first | omega | (unfold inI; omega) | (dsimp only; omega) | (unfold bitsOk; omega) | ((try dsimp only); simp only [List.length_map, List.length_take, List.length_append, List.length_replicate, List.length_cons, List.length_nil]; omega) | (simp only [btw_iff] at *; first | omega | (unfold inI; omega) | (unfold bitsOk; omega)) | exact stor_map (fun _ => rfl) | exact ⟨rfl, stor_cons rfl stor_nil⟩ | exact ⟨rfl, stor_map (fun _ => rfl) _⟩ | exact ⟨⟨rfl, by omega⟩, stor_map (fun _ => rfl) _⟩); conv => whnf) | (with_reducible apply get_mapN; omega; intro _; conv => whnf) | (with_reducible apply get_mapI; omega; intro _; conv => whnf) | (apply get_mapN; omega; intro _; conv => whnf) | (apply get_fill; omega; conv => whnf) | (apply ex_some; conv => whnf) | (apply get_map; omega; intro _; conv => whnf) | (apply vcG_dec <;> intro _ <;> conv => whnf) | (apply vcG_ndec <;> intro _ <;> conv => whnf) | (apply vcG_not <;> intro _ <;> conv => whnf) | (apply vcG_mk <;> intro _ <;> conv => whnf) | (apply vcIf_dec <;> intro _ <;> conv => whnf) | (apply vcIf_ndec <;> intro _ <;> conv => whnf) | (apply vcIf_not <;> intro _ <;> conv => whnf) | (apply vcIf_mk <;> intro _ <;> conv => whnf) | (apply call_gen [] [] [3] (c1); rfl; (focus ((repeat' (first | exact passOk_nil | apply passOk_cons)) <;> (first | rfl | (refine pass_flat rfl ?_; (first | exact flat_nil | exact flat_replicate rfl | exact flat_map (fun _ => rfl) | exact flat_map Tree.co_flat | (apply flat_append <;> (first | exact flat_replicate rfl | exact flat_map (fun _ => rfl))) | assumption))))); rfl; rfl; rfl; rfl; rfl; (focus ((repeat' (first | exact rens_nil | apply rens_cons)) <;> (first | exact ren_dead | exact ren_box rfl rfl | (refine ren_flat ?_; (first | exact flat_nil | exact flat_replicate rfl | exact flat_map (fun _ => rfl) | exact flat_map Tree.co_flat | (apply flat_append <;> (first | exact flat_replicate rfl | exact flat_map (fun _ => rfl))) | assumption))))); (first | exact .inl rfl | (refine .inr ⟨rfl, ?_⟩; repeat' (first | exact True.intro | apply And.intro | exact rfl | exact plainLL_map (fun _ => rfl) _))); conv => whnf) | (apply call_gen [3] [] [] (c2); rfl; (focus ((repeat' (first | exact passOk_nil | apply passOk_cons)) <;> (first | rfl | (refine pass_flat rfl ?_; (first | exact flat_nil | exact flat_replicate rfl | exact flat_map (fun _ => rfl) | exact flat_map Tree.co_flat | (apply flat_append <;> (first | exact flat_replicate rfl | exact flat_map (fun _ => rfl))) | assumption))))); rfl; rfl; rfl; rfl; rfl; (focus ((repeat' (first | exact rens_nil | apply rens_cons)) <;> (first | exact ren_dead | exact ren_box rfl rfl | (refine ren_flat ?_; (first | exact flat_nil | exact flat_replicate rfl | exact flat_map (fun _ => rfl) | exact flat_map Tree.co_flat | (apply flat_append <;> (first | exact flat_replicate rfl | exact flat_map (fun _ => rfl))) | assumption))))); (first | exact .inl rfl | (refine .inr ⟨rfl, ?_⟩; repeat' (first | exact True.intro | apply And.intro | exact rfl | exact plainLL_map (fun _ => rfl) _))); conv => whnf) | (apply call_gen [3] [] [] (c3); rfl; (focus ((repeat' (first | exact passOk_nil | apply passOk_cons)) <;> (first | rfl | (refine pass_flat rfl ?_; (first | exact flat_nil | exact flat_replicate rfl | exact flat_map (fun _ => rfl) | exact flat_map Tree.co_flat | (apply flat_append <;> (first | exact flat_replicate rfl | exact flat_map (fun _ => rfl))) | assumption))))); rfl; rfl; rfl; rfl; rfl; (focus ((repeat' (first | exact rens_nil | apply rens_cons)) <;> (first | exact ren_dead | exact ren_box rfl rfl | (refine ren_flat ?_; (first | exact flat_nil | exact flat_replicate rfl | exact flat_map (fun _ => rfl) | exact flat_map Tree.co_flat | (apply flat_append <;> (first | exact flat_replicate rfl | exact flat_map (fun _ => rfl))) | assumption))))); (first | exact .inl rfl | (refine .inr ⟨rfl, ?_⟩; repeat' (first | exact True.intro | apply And.intro | exact rfl | exact plainLL_map (fun _ => rfl) _))); conv => whnf))
    all_goals first | kernel_rfl | (exfalso; omega) | skip
    refine AWP.reach (Gl.Reach.absorb 2 3 i 0 rfl (getset rfl (by rw [fill_len (by omega)]; exact hir)) rfl rfl (by simp) rfl (flat_map fun _ => rfl) rfl) ?_
    conv => whnf
    repeat' (first | (apply AWP.go ok; rfl; conv => whnf) | (apply ord_mk; kernel_rfl; conv => whnf) | (apply And.intro; (first | omega | (unfold inI; omega) | (dsimp only; omega) | (unfold bitsOk; omega) | ((try dsimp only); simp only [List.length_map, List.length_take, List.length_append, List.length_replicate, List.length_cons, List.length_nil]; omega) | (simp only [btw_iff] at *; first | omega | (unfold inI; omega) | (unfold bitsOk; omega)) | exact stor_map (fun _ => rfl) | exact ⟨rfl, stor_cons rfl stor_nil⟩ | exact ⟨rfl, stor_map (fun _ => rfl) _⟩ | exact ⟨⟨rfl, by omega⟩, stor_map (fun _ => rfl) _⟩); conv => whnf) | (with_reducible apply get_mapN; omega; intro _; conv => whnf) | (with_reducible apply get_mapI; omega; intro _; conv => whnf) | (apply get_mapN; omega; intro _; conv => whnf) | (apply get_fill; omega; conv => whnf) | (apply ex_some; conv => whnf) | (apply get_map; omega; intro _; conv => whnf) | (apply vcG_dec <;> intro _ <;> conv => whnf) | (apply vcG_ndec <;> intro _ <;> conv => whnf) | (apply vcG_not <;> intro _ <;> conv => whnf) | (apply vcG_mk <;> intro _ <;> conv => whnf) | (apply vcIf_dec <;> intro _ <;> conv => whnf) | (apply vcIf_ndec <;> intro _ <;> conv => whnf) | (apply vcIf_not <;> intro _ <;> conv => whnf) | (apply vcIf_mk <;> intro _ <;> conv => whnf))
    exact again (i + 1) [0, 1, 2] (by omega) (by omega) ⟨rfl, by decide, rfl, ⟨⟨rfl, rfl⟩, ⟨rfl, rfl⟩, ⟨rfl, rfl⟩, ⟨rfl, rfl⟩, ⟨rfl, rfl⟩, trivial⟩, ⟨obj_box rfl rfl, obj_box rfl rfl, obj_flat (cells_congr (fill_set2 hir rfl (by rw [List.getElem_range]; rfl))) (flat_append (flat_map fun _ => rfl) (flat_replicate rfl)), trivial⟩⟩
  · repeat' (first | ((fail_if_success apply stopAt 9); (fail_if_success apply stopAtS 9); apply AWP.go ok; rfl; conv => whnf) | (apply ord_mk; kernel_rfl; conv => whnf) | (apply And.intro; (first | omega | (unfold inI; omega) | (dsimp only; omega) | (unfold bitsOk; omega) | ((try dsimp only); simp only [List.length_map, List.length_take, List.length_append, List.length_replicate, List.length_cons, List.length_nil]; omega) | (simp only [btw_iff] at *; first | omega | (unfold inI; omega) | (unfold bitsOk; omega)) | exact stor_map (fun _ => rfl) | exact ⟨rfl, stor_cons rfl stor_nil⟩ | exact ⟨rfl, stor_map (fun _ => rfl) _⟩ | exact ⟨⟨rfl, by omega⟩, stor_map (fun _ => rfl) _⟩); conv => whnf) | (with_reducible apply get_mapN; omega; intro _; conv => whnf) | (with_reducible apply get_mapI; omega; intro _; conv => whnf) | (apply get_mapN; omega; intro _; conv => whnf) | (apply get_fill; omega; conv => whnf) | (apply ex_some; conv => whnf) | (apply get_map; omega; intro _; conv => whnf) | (apply vcG_dec <;> intro _ <;> conv => whnf) | (apply vcG_ndec <;> intro _ <;> conv => whnf) | (apply vcG_not <;> intro _ <;> conv => whnf) | (apply vcG_mk <;> intro _ <;> conv => whnf) | (apply vcIf_dec <;> intro _ <;> conv => whnf) | (apply vcIf_ndec <;> intro _ <;> conv => whnf) | (apply vcIf_not <;> intro _ <;> conv => whnf) | (apply vcIf_mk <;> intro _ <;> conv => whnf))
    all_goals first | (exfalso; omega) | skip
    have e5 : ((List.range g.nx.length).take i).map (fun j => ownRow (aft g bl j)) ++ List.replicate ((List.range g.nx.length).length - i) [AC.own 1 []] = ((List.range g.nx.length).map (aft g bl)).map ownRow := by
      rw [List.take_of_length_le (by simp; omega), List.map_map, show (List.range g.nx.length).length - i = 0 by simp; omega]
      simp
    rw [e5]
    refine AWP.reach (Gl.Reach.absorb 1 2 0 0 rfl rfl rfl rfl (by simp; omega) rfl (flat_map fun _ => rfl) rfl) ?_
    conv => whnf
    repeat' (first | (apply AWP.go ok; rfl; conv => whnf) | (apply ord_mk; kernel_rfl; conv => whnf) | (apply And.intro; (first | omega | (unfold inI; omega) | (dsimp only; omega) | (unfold bitsOk; omega) | ((try dsimp only); simp only [List.length_map, List.length_take, List.length_append, List.length_replicate, List.length_cons, List.length_nil]; omega) | (simp only [btw_iff] at *; first | omega | (unfold inI; omega) | (unfold bitsOk; omega)) | exact stor_map (fun _ => rfl) | exact ⟨rfl, stor_cons rfl stor_nil⟩ | exact ⟨rfl, stor_map (fun _ => rfl) _⟩ | exact ⟨⟨rfl, by omega⟩, stor_map (fun _ => rfl) _⟩); conv => whnf) | (with_reducible apply get_mapN; omega; intro _; conv => whnf) | (with_reducible apply get_mapI; omega; intro _; conv => whnf) | (apply get_mapN; omega; intro _; conv => whnf) | (apply get_fill; omega; conv => whnf) | (apply ex_some; conv => whnf) | (apply get_map; omega; intro _; conv => whnf) | (apply vcG_dec <;> intro _ <;> conv => whnf) | (apply vcG_ndec <;> intro _ <;> conv => whnf) | (apply vcG_not <;> intro _ <;> conv => whnf) | (apply vcG_mk <;> intro _ <;> conv => whnf) | (apply vcIf_dec <;> intro _ <;> conv => whnf) | (apply vcIf_ndec <;> intro _ <;> conv => whnf) | (apply vcIf_not <;> intro _ <;> conv => whnf) | (apply vcIf_mk <;> intro _ <;> conv => whnf) | (apply call_gen [] [0, 1] [3] (c4); (focus (exact bor_cons rfl (bor_cons (bor_fnC (bor_cons rfl (bor_cons (bor_ptrRows rfl rfl rfl) bor_nil))) bor_nil))); (focus ((repeat' (first | exact passOk_nil | apply passOk_cons)) <;> (first | rfl | (refine pass_flat rfl ?_; (first | exact flat_nil | exact flat_replicate rfl | exact flat_map (fun _ => rfl) | exact flat_map Tree.co_flat | (apply flat_append <;> (first | exact flat_replicate rfl | exact flat_map (fun _ => rfl))) | assumption))))); rfl; rfl; rfl; rfl; rfl; (focus ((repeat' (first | exact rens_nil | apply rens_cons)) <;> (first | exact ren_dead | exact ren_box rfl rfl | (refine ren_flat ?_; (first | exact flat_nil | exact flat_replicate rfl | exact flat_map (fun _ => rfl) | exact flat_map Tree.co_flat | (apply flat_append <;> (first | exact flat_replicate rfl | exact flat_map (fun _ => rfl))) | assumption))))); (first | exact .inl rfl | (refine .inr ⟨rfl, ?_⟩; repeat' (first | exact True.intro | apply And.intro | exact rfl | exact plainLL_map (fun _ => rfl) _))); conv => whnf))
    all_goals first | (exfalso; omega) | skip
    exact ret_newN rfl (flat_map fun _ => rfl) hb rfl rfl
end Go.Proofs.YtcmihlbihppflaaGreat

