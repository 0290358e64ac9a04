/- A part of the proofs over this program: Tab, T3, T4, T5, T6, T7, T8, T9, T10, T11, T12, T13. -/
import Derived.Test.YtcannajfdnipkaaG0
import Derived.Test.YtcannajfdnipkaaG1
import Derived.Test.YtcannajfdnipkaaG2
import Derived.Test.YtcannajfdnipkaaProg
import Derived.KernelRfl
set_option linter.all false
/- The types of this translation, as the ghost logic asks for them. Written by a program. -/
namespace Go.Proofs.Ytcannajfdnipkaa
open Go.Gl
def tabL : List (Nat × TyI) := [
  (3, ⟨.int .i64, 1, 8, .int .i64 0⟩),
  (29, ⟨.slice 3, 1, 24, .slice none 0 0⟩),
  (34, ⟨.struct #[{ name := "States", type := 32, offset := 0, embedded := false, tag := "", pkgPath := "", byteOffset := 0 }, { name := "Next", type := 23, offset := 1, embedded := false, tag := "", pkgPath := "", byteOffset := 24 }], 2, 48, .agg #[.slice none 0 0, .slice none 0 0]⟩),
  (97, ⟨.struct #[{ name := "Kind", type := 3, offset := 0, embedded := false, tag := "", pkgPath := "", byteOffset := 0 }, { name := "Value", type := 3, offset := 1, embedded := false, tag := "", pkgPath := "", byteOffset := 8 }, { name := "Kids", type := 36, offset := 2, embedded := false, tag := "", pkgPath := "", byteOffset := 16 }], 3, 40, .agg #[.int .i64 0, .int .i64 0, .slice none 0 0]⟩),
  (23, ⟨.slice 29, 1, 24, .slice none 0 0⟩),
  (32, ⟨.slice 51, 1, 24, .slice none 0 0⟩),
  (51, ⟨.struct #[{ name := "Locs", type := 29, offset := 0, embedded := false, tag := "", pkgPath := "", byteOffset := 0 }, { name := "Vals", type := 29, offset := 1, embedded := false, tag := "", pkgPath := "", byteOffset := 24 }], 2, 48, .agg #[.slice none 0 0, .slice none 0 0]⟩),
  (36, ⟨.slice 97, 1, 24, .slice none 0 0⟩),
  (56, ⟨.struct #[{ name := "Stem", type := 29, offset := 0, embedded := false, tag := "", pkgPath := "", byteOffset := 0 }, { name := "Loop", type := 29, offset := 1, embedded := false, tag := "", pkgPath := "", byteOffset := 24 }], 2, 48, .agg #[.slice none 0 0, .slice none 0 0]⟩),
  (59, ⟨.struct #[{ name := "Stem", type := 29, offset := 0, embedded := false, tag := "", pkgPath := "", byteOffset := 0 }, { name := "Loop", type := 29, offset := 1, embedded := false, tag := "", pkgPath := "", byteOffset := 24 }], 2, 48, .agg #[.slice none 0 0, .slice none 0 0]⟩),
  (163, ⟨.struct #[{ name := "From", type := 3, offset := 0, embedded := false, tag := "", pkgPath := "", byteOffset := 0 }, { name := "Care", type := 3, offset := 1, embedded := false, tag := "", pkgPath := "", byteOffset := 8 }, { name := "Value", type := 3, offset := 2, embedded := false, tag := "", pkgPath := "", byteOffset := 16 }, { name := "To", type := 3, offset := 3, embedded := false, tag := "", pkgPath := "", byteOffset := 24 }], 4, 32, .agg #[.int .i64 0, .int .i64 0, .int .i64 0, .int .i64 0]⟩),
  (78, ⟨.struct #[{ name := "Initial", type := 29, offset := 0, embedded := false, tag := "", pkgPath := "", byteOffset := 0 }, { name := "Accepting", type := 67, offset := 1, embedded := false, tag := "", pkgPath := "", byteOffset := 24 }, { name := "Edges", type := 76, offset := 2, embedded := false, tag := "", pkgPath := "", byteOffset := 48 }], 3, 72, .agg #[.slice none 0 0, .slice none 0 0, .slice none 0 0]⟩),
  (189, ⟨.struct #[{ name := "From", type := 3, offset := 0, embedded := false, tag := "", pkgPath := "", byteOffset := 0 }, { name := "To", type := 3, offset := 1, embedded := false, tag := "", pkgPath := "", byteOffset := 8 }, { name := "Guard", type := 97, offset := 2, embedded := false, tag := "", pkgPath := "", byteOffset := 16 }, { name := "Var", type := 3, offset := 5, embedded := false, tag := "", pkgPath := "", byteOffset := 56 }, { name := "Value", type := 97, offset := 6, embedded := false, tag := "", pkgPath := "", byteOffset := 64 }, { name := "Sync", type := 3, offset := 9, embedded := false, tag := "", pkgPath := "", byteOffset := 104 }], 10, 112, .agg #[.int .i64 0, .int .i64 0, .int .i64 0, .int .i64 0, .slice none 0 0, .int .i64 0, .int .i64 0, .int .i64 0, .slice none 0 0, .int .i64 0]⟩),
  (76, ⟨.slice 163, 1, 24, .slice none 0 0⟩),
  (67, ⟨.slice 4, 1, 24, .slice none 0 0⟩),
  (155, ⟨.slice 187, 1, 24, .slice none 0 0⟩),
  (157, ⟨.struct #[{ name := "Init", type := 29, offset := 0, embedded := false, tag := "", pkgPath := "", byteOffset := 0 }, { name := "Processes", type := 155, offset := 1, embedded := false, tag := "", pkgPath := "", byteOffset := 24 }], 2, 48, .agg #[.slice none 0 0, .slice none 0 0]⟩),
  (185, ⟨.slice 189, 1, 24, .slice none 0 0⟩),
  (80, ⟨.struct #[{ name := "Ranks", type := 29, offset := 0, embedded := false, tag := "", pkgPath := "", byteOffset := 0 }], 1, 24, .agg #[.slice none 0 0]⟩),
  (187, ⟨.struct #[{ name := "Locations", type := 3, offset := 0, embedded := false, tag := "", pkgPath := "", byteOffset := 0 }, { name := "Edges", type := 185, offset := 1, embedded := false, tag := "", pkgPath := "", byteOffset := 8 }], 2, 32, .agg #[.int .i64 0, .slice none 0 0]⟩),
  (4, ⟨.bool, 1, 1, .bool false⟩),
  (45, ⟨.slice 5, 1, 24, .slice none 0 0⟩),
  (25, ⟨.struct #[{ name := "States", type := 22, offset := 0, embedded := false, tag := "", pkgPath := "", byteOffset := 0 }, { name := "Next", type := 23, offset := 1, embedded := false, tag := "", pkgPath := "", byteOffset := 24 }], 2, 48, .agg #[.slice none 0 0, .slice none 0 0]⟩),
  (179, ⟨.slice 183, 1, 24, .slice none 0 0⟩),
  (147, ⟨.struct #[{ name := "b", type := 45, offset := 0, embedded := false, tag := "", pkgPath := "loop.example/ltlcheck/spec", byteOffset := 0 }, { name := "p", type := 3, offset := 1, embedded := false, tag := "", pkgPath := "loop.example/ltlcheck/spec", byteOffset := 24 }], 2, 32, .agg #[.slice none 0 0, .int .i64 0]⟩),
  (70, ⟨.struct #[{ name := "Initial", type := 29, offset := 0, embedded := false, tag := "", pkgPath := "", byteOffset := 0 }, { name := "Accepting", type := 67, offset := 1, embedded := false, tag := "", pkgPath := "", byteOffset := 24 }, { name := "Edges", type := 68, offset := 2, embedded := false, tag := "", pkgPath := "", byteOffset := 48 }], 3, 72, .agg #[.slice none 0 0, .slice none 0 0, .slice none 0 0]⟩),
  (183, ⟨.struct #[{ name := "Process", type := 3, offset := 0, embedded := false, tag := "", pkgPath := "", byteOffset := 0 }, { name := "Edge", type := 3, offset := 1, embedded := false, tag := "", pkgPath := "", byteOffset := 8 }, { name := "Partner", type := 3, offset := 2, embedded := false, tag := "", pkgPath := "", byteOffset := 16 }, { name := "PartnerEdge", type := 3, offset := 3, embedded := false, tag := "", pkgPath := "", byteOffset := 24 }], 4, 32, .agg #[.int .i64 0, .int .i64 0, .int .i64 0, .int .i64 0]⟩),
  (54, ⟨.struct #[{ name := "Stem", type := 29, offset := 0, embedded := false, tag := "", pkgPath := "", byteOffset := 0 }, { name := "Loop", type := 29, offset := 1, embedded := false, tag := "", pkgPath := "", byteOffset := 24 }], 2, 48, .agg #[.slice none 0 0, .slice none 0 0]⟩),
  (22, ⟨.slice 136, 1, 24, .slice none 0 0⟩),
  (26, ⟨.slice 92, 1, 24, .slice none 0 0⟩),
  (72, ⟨.struct #[{ name := "Ranks", type := 29, offset := 0, embedded := false, tag := "", pkgPath := "", byteOffset := 0 }], 1, 24, .agg #[.slice none 0 0]⟩),
  (92, ⟨.struct #[{ name := "Kind", type := 3, offset := 0, embedded := false, tag := "", pkgPath := "", byteOffset := 0 }, { name := "Value", type := 3, offset := 1, embedded := false, tag := "", pkgPath := "", byteOffset := 8 }, { name := "Kids", type := 26, offset := 2, embedded := false, tag := "", pkgPath := "", byteOffset := 16 }], 3, 40, .agg #[.int .i64 0, .int .i64 0, .slice none 0 0]⟩),
  (68, ⟨.slice 165, 1, 24, .slice none 0 0⟩),
  (136, ⟨.struct #[{ name := "Locs", type := 29, offset := 0, embedded := false, tag := "", pkgPath := "", byteOffset := 0 }, { name := "Vals", type := 29, offset := 1, embedded := false, tag := "", pkgPath := "", byteOffset := 24 }], 2, 48, .agg #[.slice none 0 0, .slice none 0 0]⟩),
  (5, ⟨.int .u8, 1, 1, .int .u8 0⟩),
  (165, ⟨.struct #[{ name := "From", type := 3, offset := 0, embedded := false, tag := "", pkgPath := "", byteOffset := 0 }, { name := "Care", type := 3, offset := 1, embedded := false, tag := "", pkgPath := "", byteOffset := 8 }, { name := "Value", type := 3, offset := 2, embedded := false, tag := "", pkgPath := "", byteOffset := 16 }, { name := "To", type := 3, offset := 3, embedded := false, tag := "", pkgPath := "", byteOffset := 24 }], 4, 32, .agg #[.int .i64 0, .int .i64 0, .int .i64 0, .int .i64 0]⟩),
  (167, ⟨.slice 76, 1, 24, .slice none 0 0⟩),
  (199, ⟨.pointer 3, 1, 8, .pointer none⟩),
  (194, ⟨.int .u64, 1, 8, .int .u64 0⟩)]
def tab : Tab := tabGet tabL
theorem inf3 : (Try.prog.info? 3).map (fun j => (j.zero, j.size, j.bytes)) = some (some (.int .i64 0), 1, 8) := by kernel_rfl
theorem inf29 : (Try.prog.info? 29).map (fun j => (j.zero, j.size, j.bytes)) = some (some (.slice none 0 0), 1, 24) := by kernel_rfl
theorem inf34 : (Try.prog.info? 34).map (fun j => (j.zero, j.size, j.bytes)) = some (some (.agg #[.slice none 0 0, .slice none 0 0]), 2, 48) := by kernel_rfl
theorem inf97 : (Try.prog.info? 97).map (fun j => (j.zero, j.size, j.bytes)) = some (some (.agg #[.int .i64 0, .int .i64 0, .slice none 0 0]), 3, 40) := by kernel_rfl
theorem inf23 : (Try.prog.info? 23).map (fun j => (j.zero, j.size, j.bytes)) = some (some (.slice none 0 0), 1, 24) := by kernel_rfl
theorem inf32 : (Try.prog.info? 32).map (fun j => (j.zero, j.size, j.bytes)) = some (some (.slice none 0 0), 1, 24) := by kernel_rfl
theorem inf51 : (Try.prog.info? 51).map (fun j => (j.zero, j.size, j.bytes)) = some (some (.agg #[.slice none 0 0, .slice none 0 0]), 2, 48) := by kernel_rfl
theorem inf36 : (Try.prog.info? 36).map (fun j => (j.zero, j.size, j.bytes)) = some (some (.slice none 0 0), 1, 24) := by kernel_rfl
theorem inf56 : (Try.prog.info? 56).map (fun j => (j.zero, j.size, j.bytes)) = some (some (.agg #[.slice none 0 0, .slice none 0 0]), 2, 48) := by kernel_rfl
theorem inf59 : (Try.prog.info? 59).map (fun j => (j.zero, j.size, j.bytes)) = some (some (.agg #[.slice none 0 0, .slice none 0 0]), 2, 48) := by kernel_rfl
theorem inf163 : (Try.prog.info? 163).map (fun j => (j.zero, j.size, j.bytes)) = some (some (.agg #[.int .i64 0, .int .i64 0, .int .i64 0, .int .i64 0]), 4, 32) := by kernel_rfl
theorem inf78 : (Try.prog.info? 78).map (fun j => (j.zero, j.size, j.bytes)) = some (some (.agg #[.slice none 0 0, .slice none 0 0, .slice none 0 0]), 3, 72) := by kernel_rfl
theorem inf189 : (Try.prog.info? 189).map (fun j => (j.zero, j.size, j.bytes)) = some (some (.agg #[.int .i64 0, .int .i64 0, .int .i64 0, .int .i64 0, .slice none 0 0, .int .i64 0, .int .i64 0, .int .i64 0, .slice none 0 0, .int .i64 0]), 10, 112) := by kernel_rfl
theorem inf76 : (Try.prog.info? 76).map (fun j => (j.zero, j.size, j.bytes)) = some (some (.slice none 0 0), 1, 24) := by kernel_rfl
theorem inf67 : (Try.prog.info? 67).map (fun j => (j.zero, j.size, j.bytes)) = some (some (.slice none 0 0), 1, 24) := by kernel_rfl
theorem inf155 : (Try.prog.info? 155).map (fun j => (j.zero, j.size, j.bytes)) = some (some (.slice none 0 0), 1, 24) := by kernel_rfl
theorem inf157 : (Try.prog.info? 157).map (fun j => (j.zero, j.size, j.bytes)) = some (some (.agg #[.slice none 0 0, .slice none 0 0]), 2, 48) := by kernel_rfl
theorem inf185 : (Try.prog.info? 185).map (fun j => (j.zero, j.size, j.bytes)) = some (some (.slice none 0 0), 1, 24) := by kernel_rfl
theorem inf80 : (Try.prog.info? 80).map (fun j => (j.zero, j.size, j.bytes)) = some (some (.agg #[.slice none 0 0]), 1, 24) := by kernel_rfl
theorem inf187 : (Try.prog.info? 187).map (fun j => (j.zero, j.size, j.bytes)) = some (some (.agg #[.int .i64 0, .slice none 0 0]), 2, 32) := by kernel_rfl
theorem inf4 : (Try.prog.info? 4).map (fun j => (j.zero, j.size, j.bytes)) = some (some (.bool false), 1, 1) := by kernel_rfl
theorem inf45 : (Try.prog.info? 45).map (fun j => (j.zero, j.size, j.bytes)) = some (some (.slice none 0 0), 1, 24) := by kernel_rfl
theorem inf25 : (Try.prog.info? 25).map (fun j => (j.zero, j.size, j.bytes)) = some (some (.agg #[.slice none 0 0, .slice none 0 0]), 2, 48) := by kernel_rfl
theorem inf179 : (Try.prog.info? 179).map (fun j => (j.zero, j.size, j.bytes)) = some (some (.slice none 0 0), 1, 24) := by kernel_rfl
theorem inf147 : (Try.prog.info? 147).map (fun j => (j.zero, j.size, j.bytes)) = some (some (.agg #[.slice none 0 0, .int .i64 0]), 2, 32) := by kernel_rfl
theorem inf70 : (Try.prog.info? 70).map (fun j => (j.zero, j.size, j.bytes)) = some (some (.agg #[.slice none 0 0, .slice none 0 0, .slice none 0 0]), 3, 72) := by kernel_rfl
theorem inf183 : (Try.prog.info? 183).map (fun j => (j.zero, j.size, j.bytes)) = some (some (.agg #[.int .i64 0, .int .i64 0, .int .i64 0, .int .i64 0]), 4, 32) := by kernel_rfl
theorem inf54 : (Try.prog.info? 54).map (fun j => (j.zero, j.size, j.bytes)) = some (some (.agg #[.slice none 0 0, .slice none 0 0]), 2, 48) := by kernel_rfl
theorem inf22 : (Try.prog.info? 22).map (fun j => (j.zero, j.size, j.bytes)) = some (some (.slice none 0 0), 1, 24) := by kernel_rfl
theorem inf26 : (Try.prog.info? 26).map (fun j => (j.zero, j.size, j.bytes)) = some (some (.slice none 0 0), 1, 24) := by kernel_rfl
theorem inf72 : (Try.prog.info? 72).map (fun j => (j.zero, j.size, j.bytes)) = some (some (.agg #[.slice none 0 0]), 1, 24) := by kernel_rfl
theorem inf92 : (Try.prog.info? 92).map (fun j => (j.zero, j.size, j.bytes)) = some (some (.agg #[.int .i64 0, .int .i64 0, .slice none 0 0]), 3, 40) := by kernel_rfl
theorem inf68 : (Try.prog.info? 68).map (fun j => (j.zero, j.size, j.bytes)) = some (some (.slice none 0 0), 1, 24) := by kernel_rfl
theorem inf136 : (Try.prog.info? 136).map (fun j => (j.zero, j.size, j.bytes)) = some (some (.agg #[.slice none 0 0, .slice none 0 0]), 2, 48) := by kernel_rfl
theorem inf5 : (Try.prog.info? 5).map (fun j => (j.zero, j.size, j.bytes)) = some (some (.int .u8 0), 1, 1) := by kernel_rfl
theorem inf165 : (Try.prog.info? 165).map (fun j => (j.zero, j.size, j.bytes)) = some (some (.agg #[.int .i64 0, .int .i64 0, .int .i64 0, .int .i64 0]), 4, 32) := by kernel_rfl
theorem inf167 : (Try.prog.info? 167).map (fun j => (j.zero, j.size, j.bytes)) = some (some (.slice none 0 0), 1, 24) := by kernel_rfl
theorem inf199 : (Try.prog.info? 199).map (fun j => (j.zero, j.size, j.bytes)) = some (some (.pointer none), 1, 8) := by kernel_rfl
theorem inf194 : (Try.prog.info? 194).map (fun j => (j.zero, j.size, j.bytes)) = some (some (.int .u64 0), 1, 8) := by kernel_rfl
theorem tabOk : TabOk Try.prog tab := tabOk_of (⟨tyOk_of Try.underlying3 inf3, ⟨tyOk_of Try.underlying29 inf29, ⟨tyOk_of Try.underlying34 inf34, ⟨tyOk_of Try.underlying97 inf97, ⟨tyOk_of Try.underlying23 inf23, ⟨tyOk_of Try.underlying32 inf32, ⟨tyOk_of Try.underlying51 inf51, ⟨tyOk_of Try.underlying36 inf36, ⟨tyOk_of Try.underlying56 inf56, ⟨tyOk_of Try.underlying59 inf59, ⟨tyOk_of Try.underlying163 inf163, ⟨tyOk_of Try.underlying78 inf78, ⟨tyOk_of Try.underlying189 inf189, ⟨tyOk_of Try.underlying76 inf76, ⟨tyOk_of Try.underlying67 inf67, ⟨tyOk_of Try.underlying155 inf155, ⟨tyOk_of Try.underlying157 inf157, ⟨tyOk_of Try.underlying185 inf185, ⟨tyOk_of Try.underlying80 inf80, ⟨tyOk_of Try.underlying187 inf187, ⟨tyOk_of Try.underlying4 inf4, ⟨tyOk_of Try.underlying45 inf45, ⟨tyOk_of Try.underlying25 inf25, ⟨tyOk_of Try.underlying179 inf179, ⟨tyOk_of Try.underlying147 inf147, ⟨tyOk_of Try.underlying70 inf70, ⟨tyOk_of Try.underlying183 inf183, ⟨tyOk_of Try.underlying54 inf54, ⟨tyOk_of Try.underlying22 inf22, ⟨tyOk_of Try.underlying26 inf26, ⟨tyOk_of Try.underlying72 inf72, ⟨tyOk_of Try.underlying92 inf92, ⟨tyOk_of Try.underlying68 inf68, ⟨tyOk_of Try.underlying136 inf136, ⟨tyOk_of Try.underlying5 inf5, ⟨tyOk_of Try.underlying165 inf165, ⟨tyOk_of Try.underlying167 inf167, ⟨tyOk_of Try.underlying199 inf199, ⟨tyOk_of Try.underlying194 inf194, trivial⟩⟩⟩⟩⟩⟩⟩⟩⟩⟩⟩⟩⟩⟩⟩⟩⟩⟩⟩⟩⟩⟩⟩⟩⟩⟩⟩⟩⟩⟩⟩⟩⟩⟩⟩⟩⟩⟩⟩)
end Go.Proofs.Ytcannajfdnipkaa

namespace Go.Proofs.Ytcannajfdnipkaa
open Go.Gl
attribute [local irreducible] vcCall
def enI (n : Int) : List AC := [.int n]
def ints (l : List Int) : AC := .list 1 l.length (l.map enI)
/-- what is left of n behind s -/
def bud (n : Int) (s : Nat) : Int := if n - s < 0 then -1 else n - s

theorem ok : Ok Try.prog tab := ⟨tabOk, by kernel_rfl⟩

structure State where
  a : List Int
  b : List Int
  deriving DecidableEq
def State.cs (s : State) : List AC := [ints s.a, ints s.b]
def State.mx (s : State) : Prop := s.a.length ≤ maxLen ∧ s.b.length ≤ maxLen
def State.sz (s : State) : Nat := s.a.length + s.b.length

theorem szIntS_ok (l : List Int) (n : Int) (hl : l.length ≤ maxLen) (h0 : 0 ≤ n) (h1 : n ≤ 1048576) : CallsA Try.prog 74 [ints l, .int n] [] (.int (bud n l.length)) [] := by
  unfold maxLen at hl
  refine callsA_of tabOk Try.func74 rfl rfl 12 Try.ntmps74 (by simp) ?_
  repeat (first | refine AWP.go ok _ _ _ _ _ rfl ?_ | refine ord_mk (by kernel_rfl) ?_ | refine And.intro (by first | omega | (unfold inI; omega) | (dsimp only; omega)) ?_)
  refine vcIf_dec (fun h => ?_) (fun h => ?_)
  · repeat (first | refine AWP.go ok _ _ _ _ _ rfl ?_ | refine ord_mk (by kernel_rfl) ?_ | refine And.intro (by first | omega | (unfold inI; omega) | (dsimp only; omega)) ?_)
    have : bud n l.length = -1 := by unfold bud; rw [if_pos h]
    rw [this]
    exact ⟨[], by decide, rfl, rfl, ACle.of_eq rfl, trivial⟩
  · repeat (first | refine AWP.go ok _ _ _ _ _ rfl ?_ | refine ord_mk (by kernel_rfl) ?_ | refine And.intro (by first | omega | (unfold inI; omega) | (dsimp only; omega)) ?_)
    have : bud n l.length = n - l.length := by unfold bud; rw [if_neg h]
    rw [this]
    exact ⟨[], by decide, rfl, rfl, ACle.of_eq rfl, trivial⟩

theorem szState_ok (s : State) (n : Int) (hs : s.mx) (h0 : 0 ≤ n) (h1 : n ≤ 1048576) : CallsA Try.prog 102 [.agg s.cs, .int n] [] (.int (bud n s.sz)) [] := by
  refine callsA_of tabOk Try.func102 rfl rfl 18 Try.ntmps102 (by simp) ?_
  repeat (first | refine AWP.go ok _ _ _ _ _ rfl ?_ | refine ord_mk (by kernel_rfl) ?_ | refine And.intro (by first | omega | (unfold inI; omega) | (dsimp only; omega)) ?_)
  refine call_data (szIntS_ok s.a n hs.1 h0 h1) ?_ ?_ ?_
  · rfl
  · rfl
  repeat (first | refine AWP.go ok _ _ _ _ _ rfl ?_ | refine ord_mk (by kernel_rfl) ?_ | refine And.intro (by first | omega | (unfold inI; omega) | (dsimp only; omega)) ?_)
  refine vcIf_dec (fun h => ?_) (fun h => ?_)
  · repeat (first | refine AWP.go ok _ _ _ _ _ rfl ?_ | refine ord_mk (by kernel_rfl) ?_ | refine And.intro (by first | omega | (unfold inI; omega) | (dsimp only; omega)) ?_)
    have : bud n s.sz = -1 := by unfold bud at h ⊢; unfold State.sz; split at h <;> split <;> omega
    rw [this]
    exact ⟨[], by decide, rfl, rfl, ACle.of_eq rfl, trivial⟩
  · have e : bud n s.a.length = n - s.a.length := by unfold bud at h ⊢; split at h <;> split <;> omega
    rw [e] at h ⊢
    repeat (first | refine AWP.go ok _ _ _ _ _ rfl ?_ | refine ord_mk (by kernel_rfl) ?_ | refine And.intro (by first | omega | (unfold inI; omega) | (dsimp only; omega)) ?_)
    refine call_data (szIntS_ok s.b (n - s.a.length) hs.2 (by omega) (by omega)) ?_ ?_ ?_
    · rfl
    · rfl
    repeat (first | refine AWP.go ok _ _ _ _ _ rfl ?_ | refine ord_mk (by kernel_rfl) ?_ | refine And.intro (by first | omega | (unfold inI; omega) | (dsimp only; omega)) ?_)
    have e2 : bud n s.sz = bud (n - s.a.length) s.b.length := by unfold bud State.sz; split <;> split <;> omega
    rw [e2]
    refine vcIf_dec (fun h => ?_) (fun h => ?_)
    · repeat (first | refine AWP.go ok _ _ _ _ _ rfl ?_ | refine ord_mk (by kernel_rfl) ?_ | refine And.intro (by first | omega | (unfold inI; omega) | (dsimp only; omega)) ?_)
      have : bud (n - s.a.length) s.b.length = -1 := by unfold bud at h ⊢; split at h <;> split <;> omega
      rw [this]
      exact ⟨[], by decide, rfl, rfl, ACle.of_eq rfl, trivial⟩
    · repeat (first | refine AWP.go ok _ _ _ _ _ rfl ?_ | refine ord_mk (by kernel_rfl) ?_ | refine And.intro (by first | omega | (unfold inI; omega) | (dsimp only; omega)) ?_)
      exact ⟨[], by decide, rfl, rfl, ACle.of_eq rfl, trivial⟩
def lst {α : Type} (w : Nat) (e : α → List AC) (l : List α) : AC := .list w l.length (l.map e)
def tot {α : Type} (f : α → Nat) (l : List α) : Nat := l.length + (l.map f).sum
theorem sum_take {α : Type} (f : α → Nat) (l : List α) (k : Nat) (hk : k < l.length) : ((l.take (k + 1)).map f).sum = ((l.take k).map f).sum + f l[k] := by
  rw [List.take_succ_eq_append_getElem hk, List.map_append, List.sum_append]; simp only [List.map_cons, List.map_nil, List.sum_cons, List.sum_nil, Nat.add_zero]
theorem sum_take_le {α : Type} (f : α → Nat) (l : List α) (k : Nat) : ((l.take k).map f).sum ≤ (l.map f).sum := by
  conv => rhs; rw [← List.take_append_drop k l, List.map_append, List.sum_append]
  omega

def State.mxs (l : List State) : Prop := l.length ≤ maxLen ∧ ∀ s ∈ l, s.mx

theorem szStateS_ok (l : List State) (n : Int) (hl : State.mxs l) (h0 : 0 ≤ n) (h1 : n ≤ 1048576) : CallsA Try.prog 49 [lst 2 State.cs l, .int n] [] (.int (bud n (tot State.sz l))) [] := by
  obtain ⟨hl, hm⟩ := hl
  unfold maxLen at hl
  refine callsA_of tabOk Try.func49 rfl rfl 27 Try.ntmps49 (by simp) ?_
  repeat (first | refine AWP.go ok _ _ _ _ _ rfl ?_ | refine ord_mk (by kernel_rfl) ?_ | refine And.intro (by first | omega | (unfold inI; omega) | (dsimp only; omega)) ?_)
  refine vcIf_dec (fun h => ?_) (fun h => ?_)
  · repeat (first | refine AWP.go ok _ _ _ _ _ rfl ?_ | refine ord_mk (by kernel_rfl) ?_ | refine And.intro (by first | omega | (unfold inI; omega) | (dsimp only; omega)) ?_)
    have : bud n (tot State.sz l) = -1 := by unfold bud tot; rw [if_pos (by omega)]
    rw [this]
    exact ⟨[], by decide, rfl, rfl, ACle.of_eq rfl, trivial⟩
  · repeat (first | refine AWP.go ok _ _ _ _ _ rfl ?_ | refine ord_mk (by kernel_rfl) ?_ | refine And.intro (by first | omega | (unfold inI; omega) | (dsimp only; omega)) ?_)
    refine awp_loop (fun k : Nat => ([(0, lst 2 State.cs l), (1, .int (n - l.length - ((l.take k).map State.sz).sum)), (5, .int k)], [])) (fun k => k ≤ l.length ∧ 0 ≤ n - l.length - ((l.take k).map State.sz).sum) (fun k => l.length - k) 0 ⟨by omega, by simp; omega⟩
      ⟨[], rfl, by decide, rfl, ⟨⟨rfl, rfl⟩, ⟨rfl, by simp; rfl⟩, ⟨rfl, rfl⟩, trivial⟩, trivial⟩ ?_
    intro k hk
    obtain ⟨hk1, hk2⟩ := hk
    repeat (first | refine AWP.go ok _ _ _ _ _ rfl ?_ | refine ord_mk (by kernel_rfl) ?_ | refine And.intro (by first | omega | (unfold inI; omega) | (dsimp only; omega)) ?_)
    refine vcIf_dec (fun h => ?_) (fun h => ?_)
    · have hkl : k < l.length := by omega
      repeat (first | refine AWP.go ok _ _ _ _ _ rfl ?_ | refine ord_mk (by kernel_rfl) ?_ | refine And.intro (by first | omega | (unfold inI; omega) | (dsimp only; omega)) ?_)
      refine ⟨_, map_get _ _ _ hkl, ?_⟩
      repeat (first | refine AWP.go ok _ _ _ _ _ rfl ?_ | refine ord_mk (by kernel_rfl) ?_ | refine And.intro (by first | omega | (unfold inI; omega) | (dsimp only; omega)) ?_)
      refine call_data (szState_ok l[k] _ (hm _ (List.getElem_mem _)) hk2 (by omega)) ?_ ?_ ?_
      · rfl
      · rfl
      repeat (first | refine AWP.go ok _ _ _ _ _ rfl ?_ | refine ord_mk (by kernel_rfl) ?_ | refine And.intro (by first | omega | (unfold inI; omega) | (dsimp only; omega)) ?_)
      have e := sum_take State.sz l k hkl
      have e2 := sum_take_le State.sz l (k + 1)
      refine vcIf_dec (fun h => ?_) (fun h => ?_)
      · repeat (first | refine AWP.go ok _ _ _ _ _ rfl ?_ | refine ord_mk (by kernel_rfl) ?_ | refine And.intro (by first | omega | (unfold inI; omega) | (dsimp only; omega)) ?_)
        have : bud n (tot State.sz l) = -1 := by unfold bud at h ⊢; unfold tot; split at h <;> rw [if_pos (by omega)] <;> omega
        rw [this]
        exact ⟨[], by decide, rfl, rfl, ACle.of_eq rfl, trivial⟩
      · repeat (first | refine AWP.go ok _ _ _ _ _ rfl ?_ | refine ord_mk (by kernel_rfl) ?_ | refine And.intro (by first | omega | (unfold inI; omega) | (dsimp only; omega)) ?_)
        have e3 : bud (n - l.length - ((l.take k).map State.sz).sum) l[k].sz = n - l.length - ((l.take (k + 1)).map State.sz).sum := by unfold bud at h ⊢; split at h <;> rename_i hh <;> (first | rw [if_pos hh] | rw [if_neg hh]) <;> omega
        refine ⟨k + 1, [], ⟨by omega, ?_⟩, by omega, rfl, by decide, rfl, ⟨⟨rfl, rfl⟩, ⟨rfl, ?_⟩, ⟨rfl, rfl⟩, trivial⟩, trivial⟩
        · rw [← e3]; omega
        · rw [← e3]; rfl
    · repeat (first | refine AWP.go ok _ _ _ _ _ rfl ?_ | refine ord_mk (by kernel_rfl) ?_ | refine And.intro (by first | omega | (unfold inI; omega) | (dsimp only; omega)) ?_)
      obtain rfl : k = l.length := by omega
      rw [List.take_length] at hk2
      have : bud n (tot State.sz l) = n - l.length - (l.map State.sz).sum := by unfold bud tot; rw [if_neg (by omega)]; omega
      rw [this, List.take_length]
      exact ⟨[], by decide, rfl, rfl, ACle.of_eq rfl, trivial⟩
theorem toIntS_ok (l : List Int) (hl : l.length ≤ 1048576) : CallsA Try.prog 78 [ints l] [] (ints l) [] := by
  refine callsA_of tabOk Try.func78 rfl rfl 22 Try.ntmps78 (by simp) ?_
  repeat (first | refine AWP.go ok _ _ _ _ _ rfl ?_ | refine ord_mk (by kernel_rfl) ?_ | refine And.intro (by first | omega | (unfold inI; omega) | (dsimp only; omega)) ?_)
  refine awp_loop (fun k : Nat => ([(0, ints l), (3, .sref 0 0 l.length), (4, .int k)], [.cells 1 ((l.take k).map enI ++ List.replicate (l.length - k) (enI 0))])) (fun k => k ≤ l.length) (fun k => l.length - k) 0 (by omega)
    ⟨[0], rfl, by decide, rfl, ⟨⟨rfl, rfl⟩, ⟨rfl, rfl⟩, ⟨rfl, rfl⟩, trivial⟩, ⟨obj_flat (by rfl) (flat_append (flat_map fun _ => rfl) (flat_replicate rfl)), trivial⟩⟩ ?_
  · intro k hk
    repeat (first | refine AWP.go ok _ _ _ _ _ rfl ?_ | refine ord_mk (by kernel_rfl) ?_ | refine And.intro (by first | omega | (unfold inI; omega) | (dsimp only; omega)) ?_)
    refine vcIf_dec (fun h => ?_) (fun h => ?_)
    · repeat (first | refine AWP.go ok _ _ _ _ _ rfl ?_ | refine ord_mk (by kernel_rfl) ?_ | refine And.intro (by first | omega | (unfold inI; omega) | (dsimp only; omega)) ?_)
      refine ⟨_, map_get _ _ _ (by omega), ?_⟩
      repeat (first | refine AWP.go ok _ _ _ _ _ rfl ?_ | refine ord_mk (by kernel_rfl) ?_ | refine And.intro (by first | omega | (unfold inI; omega) | (dsimp only; omega)) ?_)
      refine ⟨enI 0, fill_get _ _ _ _ (by omega), ?_⟩
      repeat (first | refine AWP.go ok _ _ _ _ _ rfl ?_ | refine ord_mk (by kernel_rfl) ?_ | refine And.intro (by first | omega | (unfold inI; omega) | (dsimp only; omega)) ?_)
      exact ⟨k + 1, [0], by omega, by omega, rfl, by decide, rfl, ⟨⟨rfl, rfl⟩, ⟨rfl, rfl⟩, ⟨rfl, rfl⟩, trivial⟩, ⟨obj_flat (cells_congr (fill_set _ _ _ _ (by omega))) (flat_append (flat_map fun _ => rfl) (flat_replicate rfl)), trivial⟩⟩
    · refine AWP.go ok _ _ _ _ _ rfl ?_
      obtain rfl : k = l.length := by omega
      refine AWP.reach (SealL.reach (π := []) (Bn := [0]) (env := [(3, ints l)]) (objs := []) ⟨rfl, rfl, by simp, rfl, by simp, ⟨?_, trivial⟩, rfl⟩) ?_
      · exact bor_seal rfl rfl rfl (by simp) (unownLL_map (fun a x hx => by cases hx with | head => rfl | tail _ h => cases h) l) (by simp)
      repeat (first | refine AWP.go ok _ _ _ _ _ rfl ?_ | refine ord_mk (by kernel_rfl) ?_ | refine And.intro (by first | omega | (unfold inI; omega) | (dsimp only; omega)) ?_)
      exact ⟨[], by decide, rfl, rfl, ACle.of_eq rfl, trivial⟩
def State.small (s : State) : Prop := s.a.length ≤ 1048576 ∧ s.b.length ≤ 1048576

theorem toState_ok (s : State) (hs : s.small) : CallsA Try.prog 104 [.agg s.cs] [] (.agg s.cs) [] := by
  refine callsA_of tabOk Try.func104 rfl rfl 13 Try.ntmps104 (by simp) ?_
  repeat (first | refine AWP.go ok _ _ _ _ _ rfl ?_ | refine ord_mk (by kernel_rfl) ?_ | refine And.intro (by first | omega | (unfold inI; omega) | (dsimp only; omega)) ?_)
  refine call_data (toIntS_ok s.a hs.1) ?_ ?_ ?_
  · rfl
  · rfl
  repeat (first | refine AWP.go ok _ _ _ _ _ rfl ?_ | refine ord_mk (by kernel_rfl) ?_ | refine And.intro (by first | omega | (unfold inI; omega) | (dsimp only; omega)) ?_)
  refine call_data (toIntS_ok s.b hs.2) ?_ ?_ ?_
  · rfl
  · rfl
  repeat (first | refine AWP.go ok _ _ _ _ _ rfl ?_ | refine ord_mk (by kernel_rfl) ?_ | refine And.intro (by first | omega | (unfold inI; omega) | (dsimp only; omega)) ?_)
  exact ⟨[], by decide, rfl, rfl, ACle.of_eq rfl, trivial⟩

theorem State.unown (s : State) : ∀ x ∈ s.cs, x.unown = x := fun x hx => by
  simp only [State.cs, List.mem_cons, List.not_mem_nil, or_false] at hx
  rcases hx with rfl | rfl <;> rfl

theorem toStateS_ok (l : List State) (hl : l.length ≤ 1048576) (hs : ∀ s ∈ l, s.small) : CallsA Try.prog 53 [lst 2 State.cs l] [] (lst 2 State.cs l) [] := by
  refine callsA_of tabOk Try.func53 rfl rfl 23 Try.ntmps53 (by simp) ?_
  repeat (first | refine AWP.go ok _ _ _ _ _ rfl ?_ | refine ord_mk (by kernel_rfl) ?_ | refine And.intro (by first | omega | (unfold inI; omega) | (dsimp only; omega)) ?_)
  refine awp_loop (fun k : Nat => ([(0, lst 2 State.cs l), (3, .sref 0 0 l.length), (4, .int k)], [.cells 2 ((l.take k).map State.cs ++ List.replicate (l.length - k) [.nils, .nils])])) (fun k => k ≤ l.length) (fun k => l.length - k) 0 (by omega)
    ⟨[0], rfl, by decide, rfl, ⟨⟨rfl, rfl⟩, ⟨rfl, rfl⟩, ⟨rfl, rfl⟩, trivial⟩, ⟨obj_flat (by rfl) (flat_append (flat_map fun _ => rfl) (flat_replicate rfl)), trivial⟩⟩ ?_
  · intro k hk
    repeat (first | refine AWP.go ok _ _ _ _ _ rfl ?_ | refine ord_mk (by kernel_rfl) ?_ | refine And.intro (by first | omega | (unfold inI; omega) | (dsimp only; omega)) ?_)
    refine vcIf_dec (fun h => ?_) (fun h => ?_)
    · repeat (first | refine AWP.go ok _ _ _ _ _ rfl ?_ | refine ord_mk (by kernel_rfl) ?_ | refine And.intro (by first | omega | (unfold inI; omega) | (dsimp only; omega)) ?_)
      refine ⟨_, map_get _ _ _ (by omega), ?_⟩
      repeat (first | refine AWP.go ok _ _ _ _ _ rfl ?_ | refine ord_mk (by kernel_rfl) ?_ | refine And.intro (by first | omega | (unfold inI; omega) | (dsimp only; omega)) ?_)
      refine call_data (toState_ok l[k] (hs _ (List.getElem_mem _))) ?_ ?_ ?_
      · rfl
      · rfl
      repeat (first | refine AWP.go ok _ _ _ _ _ rfl ?_ | refine ord_mk (by kernel_rfl) ?_ | refine And.intro (by first | omega | (unfold inI; omega) | (dsimp only; omega)) ?_)
      refine ⟨[.nils, .nils], fill_get _ _ _ _ (by omega), ?_⟩
      repeat (first | refine AWP.go ok _ _ _ _ _ rfl ?_ | refine ord_mk (by kernel_rfl) ?_ | refine And.intro (by first | omega | (unfold inI; omega) | (dsimp only; omega)) ?_)
      exact ⟨k + 1, [0], by omega, by omega, rfl, by decide, rfl, ⟨⟨rfl, rfl⟩, ⟨rfl, rfl⟩, ⟨rfl, rfl⟩, trivial⟩, ⟨obj_flat (cells_congr (fill_set _ _ _ _ (by omega))) (flat_append (flat_map fun _ => rfl) (flat_replicate rfl)), trivial⟩⟩
    · refine AWP.go ok _ _ _ _ _ rfl ?_
      obtain rfl : k = l.length := by omega
      refine AWP.reach (SealL.reach (π := []) (Bn := [0]) (env := [(3, lst 2 State.cs l)]) (objs := []) ⟨rfl, rfl, by simp, rfl, by simp, ⟨?_, trivial⟩, rfl⟩) ?_
      · exact bor_seal rfl rfl rfl (by simp) (unownLL_map State.unown l) (by simp)
      repeat (first | refine AWP.go ok _ _ _ _ _ rfl ?_ | refine ord_mk (by kernel_rfl) ?_ | refine And.intro (by first | omega | (unfold inI; omega) | (dsimp only; omega)) ?_)
      exact ⟨[], by decide, rfl, rfl, ACle.of_eq rfl, trivial⟩
end Go.Proofs.Ytcannajfdnipkaa

namespace Go.Proofs.Ytcannajfdnipkaa
open Go.Gl
attribute [local irreducible] vcCall

/-- do two slices of ints hold the same? -/
theorem eqIntS_ok (a b : List Int) (ha : a.length ≤ maxLen) (hb : b.length ≤ maxLen) : CallsA Try.prog 15 [ints a, ints b] [] (.bool (decide (a = b))) [] := by
  unfold maxLen at ha hb
  refine callsA_of tabOk Try.func15 rfl rfl 26 Try.ntmps15 (by simp) ?_
  repeat (first | refine AWP.go ok _ _ _ _ _ rfl ?_ | refine ord_mk (by kernel_rfl) ?_ | refine And.intro (by first | omega | (unfold inI; omega) | (dsimp only; omega)) ?_)
  refine vcIf_ndec (fun h => ?_) (fun h => ?_)
  · repeat (first | refine AWP.go ok _ _ _ _ _ rfl ?_ | refine ord_mk (by kernel_rfl) ?_ | refine And.intro (by first | omega | (unfold inI; omega) | (dsimp only; omega)) ?_)
    have hne : a ≠ b := by rintro rfl; exact h rfl
    rw [decide_eq_false hne]
    exact ⟨[], by decide, rfl, rfl, ACle.of_eq rfl, trivial⟩
  · have hl : a.length = b.length := by omega
    repeat (first | refine AWP.go ok _ _ _ _ _ rfl ?_ | refine ord_mk (by kernel_rfl) ?_ | refine And.intro (by first | omega | (unfold inI; omega) | (dsimp only; omega)) ?_)
    refine awp_loop (fun k : Nat => ([(0, ints a), (1, ints b), (5, .int k)], [])) (fun k => k ≤ a.length ∧ a.take k = b.take k) (fun k => a.length - k) 0 (by simp)
      ⟨[], rfl, by decide, rfl, ⟨⟨rfl, rfl⟩, ⟨rfl, rfl⟩, ⟨rfl, rfl⟩, trivial⟩, trivial⟩ ?_
    intro k hk
    repeat (first | refine AWP.go ok _ _ _ _ _ rfl ?_ | refine ord_mk (by kernel_rfl) ?_ | refine And.intro (by first | omega | (unfold inI; omega) | (dsimp only; omega)) ?_)
    refine vcIf_dec (fun h => ?_) (fun h => ?_)
    · have hka : k < a.length := by omega
      repeat (first | refine AWP.go ok _ _ _ _ _ rfl ?_ | refine ord_mk (by kernel_rfl) ?_ | refine And.intro (by first | omega | (unfold inI; omega) | (dsimp only; omega)) ?_)
      refine ⟨_, map_get _ _ _ (by omega), ?_⟩
      repeat (first | refine AWP.go ok _ _ _ _ _ rfl ?_ | refine ord_mk (by kernel_rfl) ?_ | refine And.intro (by first | omega | (unfold inI; omega) | (dsimp only; omega)) ?_)
      refine ⟨_, map_get _ _ _ (by omega), ?_⟩
      repeat (first | refine AWP.go ok _ _ _ _ _ rfl ?_ | refine ord_mk (by kernel_rfl) ?_ | refine And.intro (by first | omega | (unfold inI; omega) | (dsimp only; omega)) ?_)
      refine vcIf_ndec (fun h => ?_) (fun h => ?_)
      · repeat (first | refine AWP.go ok _ _ _ _ _ rfl ?_ | refine ord_mk (by kernel_rfl) ?_ | refine And.intro (by first | omega | (unfold inI; omega) | (dsimp only; omega)) ?_)
        have hne : a ≠ b := by rintro rfl; exact h rfl
        rw [decide_eq_false hne]
        exact ⟨[], by decide, rfl, rfl, ACle.of_eq rfl, trivial⟩
      · repeat (first | refine AWP.go ok _ _ _ _ _ rfl ?_ | refine ord_mk (by kernel_rfl) ?_ | refine And.intro (by first | omega | (unfold inI; omega) | (dsimp only; omega)) ?_)
        refine ⟨k + 1, [], ⟨by omega, ?_⟩, by omega, rfl, by decide, rfl, ⟨⟨rfl, rfl⟩, ⟨rfl, rfl⟩, ⟨rfl, rfl⟩, trivial⟩, trivial⟩
        have h' : a[k] = b[k] := h
        rw [List.take_succ_eq_append_getElem hka, List.take_succ_eq_append_getElem (by omega), hk.2, h']
    · repeat (first | refine AWP.go ok _ _ _ _ _ rfl ?_ | refine ord_mk (by kernel_rfl) ?_ | refine And.intro (by first | omega | (unfold inI; omega) | (dsimp only; omega)) ?_)
      have he : a = b := by
        have := hk.2
        rwa [List.take_of_length_le (by omega), List.take_of_length_le (by omega)] at this
      rw [decide_eq_true he]
      exact ⟨[], by decide, rfl, rfl, ACle.of_eq rfl, trivial⟩

theorem eqState_ok (s t : State) (hs : s.mx) (ht : t.mx) : CallsA Try.prog 115 [.agg s.cs, .agg t.cs] [] (.bool (decide (s = t))) [] := by
  refine callsA_of tabOk Try.func115 rfl rfl 17 Try.ntmps115 (by simp) ?_
  repeat (first | refine AWP.go ok _ _ _ _ _ rfl ?_ | refine ord_mk (by kernel_rfl) ?_ | refine And.intro (by first | omega | (unfold inI; omega) | (dsimp only; omega)) ?_)
  refine call_data (eqIntS_ok s.a t.a hs.1 ht.1) ?_ ?_ ?_
  · rfl
  · rfl
  repeat (first | refine AWP.go ok _ _ _ _ _ rfl ?_ | refine ord_mk (by kernel_rfl) ?_ | refine And.intro (by first | omega | (unfold inI; omega) | (dsimp only; omega)) ?_)
  refine vcIf_ndec (fun h => ?_) (fun h => ?_)
  · repeat (first | refine AWP.go ok _ _ _ _ _ rfl ?_ | refine ord_mk (by kernel_rfl) ?_ | refine And.intro (by first | omega | (unfold inI; omega) | (dsimp only; omega)) ?_)
    have : s ≠ t := by rintro rfl; exact h rfl
    rw [decide_eq_false this]
    exact ⟨[], by decide, rfl, rfl, ACle.of_eq rfl, trivial⟩
  · repeat (first | refine AWP.go ok _ _ _ _ _ rfl ?_ | refine ord_mk (by kernel_rfl) ?_ | refine And.intro (by first | omega | (unfold inI; omega) | (dsimp only; omega)) ?_)
    refine call_data (eqIntS_ok s.b t.b hs.2 ht.2) ?_ ?_ ?_
    · rfl
    · rfl
    repeat (first | refine AWP.go ok _ _ _ _ _ rfl ?_ | refine ord_mk (by kernel_rfl) ?_ | refine And.intro (by first | omega | (unfold inI; omega) | (dsimp only; omega)) ?_)
    refine vcIf_ndec (fun h2 => ?_) (fun h2 => ?_)
    · repeat (first | refine AWP.go ok _ _ _ _ _ rfl ?_ | refine ord_mk (by kernel_rfl) ?_ | refine And.intro (by first | omega | (unfold inI; omega) | (dsimp only; omega)) ?_)
      have : s ≠ t := by rintro rfl; exact h2 rfl
      rw [decide_eq_false this]
      exact ⟨[], by decide, rfl, rfl, ACle.of_eq rfl, trivial⟩
    · repeat (first | refine AWP.go ok _ _ _ _ _ rfl ?_ | refine ord_mk (by kernel_rfl) ?_ | refine And.intro (by first | omega | (unfold inI; omega) | (dsimp only; omega)) ?_)
      have : s = t := by cases s; cases t; simp_all
      rw [decide_eq_true this]
      exact ⟨[], by decide, rfl, rfl, ACle.of_eq rfl, trivial⟩
theorem eqStateS_ok (a b : List State) (ha : State.mxs a) (hb : State.mxs b) : CallsA Try.prog 59 [lst 2 State.cs a, lst 2 State.cs b] [] (.bool (decide (a = b))) [] := by
  obtain ⟨ha, hma⟩ := ha
  obtain ⟨hb, hmb⟩ := hb
  unfold maxLen at ha hb
  refine callsA_of tabOk Try.func59 rfl rfl 27 Try.ntmps59 (by simp) ?_
  repeat (first | refine AWP.go ok _ _ _ _ _ rfl ?_ | refine ord_mk (by kernel_rfl) ?_ | refine And.intro (by first | omega | (unfold inI; omega) | (dsimp only; omega)) ?_)
  refine vcIf_ndec (fun h => ?_) (fun h => ?_)
  · repeat (first | refine AWP.go ok _ _ _ _ _ rfl ?_ | refine ord_mk (by kernel_rfl) ?_ | refine And.intro (by first | omega | (unfold inI; omega) | (dsimp only; omega)) ?_)
    have hne : a ≠ b := by rintro rfl; exact h rfl
    rw [decide_eq_false hne]
    exact ⟨[], by decide, rfl, rfl, ACle.of_eq rfl, trivial⟩
  · have hl : a.length = b.length := by omega
    repeat (first | refine AWP.go ok _ _ _ _ _ rfl ?_ | refine ord_mk (by kernel_rfl) ?_ | refine And.intro (by first | omega | (unfold inI; omega) | (dsimp only; omega)) ?_)
    refine awp_loop (fun k : Nat => ([(0, lst 2 State.cs a), (1, lst 2 State.cs b), (5, .int k)], [])) (fun k => k ≤ a.length ∧ a.take k = b.take k) (fun k => a.length - k) 0 (by simp)
      ⟨[], rfl, by decide, rfl, ⟨⟨rfl, rfl⟩, ⟨rfl, rfl⟩, ⟨rfl, rfl⟩, trivial⟩, trivial⟩ ?_
    intro k hk
    repeat (first | refine AWP.go ok _ _ _ _ _ rfl ?_ | refine ord_mk (by kernel_rfl) ?_ | refine And.intro (by first | omega | (unfold inI; omega) | (dsimp only; omega)) ?_)
    refine vcIf_dec (fun h => ?_) (fun h => ?_)
    · have hka : k < a.length := by omega
      repeat (first | refine AWP.go ok _ _ _ _ _ rfl ?_ | refine ord_mk (by kernel_rfl) ?_ | refine And.intro (by first | omega | (unfold inI; omega) | (dsimp only; omega)) ?_)
      refine ⟨_, map_get _ _ _ (by omega), ?_⟩
      repeat (first | refine AWP.go ok _ _ _ _ _ rfl ?_ | refine ord_mk (by kernel_rfl) ?_ | refine And.intro (by first | omega | (unfold inI; omega) | (dsimp only; omega)) ?_)
      refine ⟨_, map_get _ _ _ (by omega), ?_⟩
      repeat (first | refine AWP.go ok _ _ _ _ _ rfl ?_ | refine ord_mk (by kernel_rfl) ?_ | refine And.intro (by first | omega | (unfold inI; omega) | (dsimp only; omega)) ?_)
      refine call_data (eqState_ok a[k] b[k] (hma _ (List.getElem_mem _)) (hmb _ (List.getElem_mem _))) ?_ ?_ ?_
      · rfl
      · rfl
      repeat (first | refine AWP.go ok _ _ _ _ _ rfl ?_ | refine ord_mk (by kernel_rfl) ?_ | refine And.intro (by first | omega | (unfold inI; omega) | (dsimp only; omega)) ?_)
      refine vcIf_ndec (fun h => ?_) (fun h => ?_)
      · repeat (first | refine AWP.go ok _ _ _ _ _ rfl ?_ | refine ord_mk (by kernel_rfl) ?_ | refine And.intro (by first | omega | (unfold inI; omega) | (dsimp only; omega)) ?_)
        have hne : a ≠ b := by rintro rfl; exact h rfl
        rw [decide_eq_false hne]
        exact ⟨[], by decide, rfl, rfl, ACle.of_eq rfl, trivial⟩
      · repeat (first | refine AWP.go ok _ _ _ _ _ rfl ?_ | refine ord_mk (by kernel_rfl) ?_ | refine And.intro (by first | omega | (unfold inI; omega) | (dsimp only; omega)) ?_)
        refine ⟨k + 1, [], ⟨by omega, ?_⟩, by omega, rfl, by decide, rfl, ⟨⟨rfl, rfl⟩, ⟨rfl, rfl⟩, ⟨rfl, rfl⟩, trivial⟩, trivial⟩
        have h' : a[k] = b[k] := h
        rw [List.take_succ_eq_append_getElem hka, List.take_succ_eq_append_getElem (by omega), hk.2, h']
    · repeat (first | refine AWP.go ok _ _ _ _ _ rfl ?_ | refine ord_mk (by kernel_rfl) ?_ | refine And.intro (by first | omega | (unfold inI; omega) | (dsimp only; omega)) ?_)
      have he : a = b := by
        have := hk.2
        rwa [List.take_of_length_le (by omega), List.take_of_length_le (by omega)] at this
      rw [decide_eq_true he]
      exact ⟨[], by decide, rfl, rfl, ACle.of_eq rfl, trivial⟩
end Go.Proofs.Ytcannajfdnipkaa

namespace Go.Proofs.Ytcannajfdnipkaa
open Go.Gl
attribute [local irreducible] vcCall

def argAgg {α : Type} (e : α → List AC) (a : α) : AC := .agg (e a)
theorem szExprS_of (l : List Tree) (n : Int) (hl : l.length ≤ maxLen) (hel : ∀ s ∈ l, ∀ n : Int, 0 ≤ n → n ≤ 1048576 → CallsA Try.prog 51 [argAgg Tree.cs' s, .int n] [] (.int (bud n (Tree.sz s))) []) (h0 : 0 ≤ n) (h1 : n ≤ 1048576) : CallsA Try.prog 10 [lst 3 Tree.cs' l, .int n] [] (.int (bud n (tot Tree.sz l))) [] := by
  unfold maxLen at hl
  refine callsA_of tabOk Try.func10 rfl rfl 27 Try.ntmps10 (by simp) ?_
  repeat (first | refine AWP.go ok _ _ _ _ _ rfl ?_ | refine ord_mk (by kernel_rfl) ?_ | refine And.intro (by first | omega | (unfold inI; omega) | (dsimp only; omega)) ?_)
  refine vcIf_dec (fun h => ?_) (fun h => ?_)
  · repeat (first | refine AWP.go ok _ _ _ _ _ rfl ?_ | refine ord_mk (by kernel_rfl) ?_ | refine And.intro (by first | omega | (unfold inI; omega) | (dsimp only; omega)) ?_)
    have : bud n (tot Tree.sz l) = -1 := by unfold bud tot; rw [if_pos (by omega)]
    rw [this]
    exact ⟨[], by decide, rfl, rfl, ACle.of_eq rfl, trivial⟩
  · repeat (first | refine AWP.go ok _ _ _ _ _ rfl ?_ | refine ord_mk (by kernel_rfl) ?_ | refine And.intro (by first | omega | (unfold inI; omega) | (dsimp only; omega)) ?_)
    refine awp_loop (fun k : Nat => ([(0, lst 3 Tree.cs' l), (1, .int (n - l.length - ((l.take k).map Tree.sz).sum)), (5, .int k)], [])) (fun k => k ≤ l.length ∧ 0 ≤ n - l.length - ((l.take k).map Tree.sz).sum) (fun k => l.length - k) 0 ⟨by omega, by simp; omega⟩
      ⟨[], rfl, by decide, rfl, ⟨⟨rfl, rfl⟩, ⟨rfl, by simp; rfl⟩, ⟨rfl, rfl⟩, trivial⟩, trivial⟩ ?_
    intro k hk
    obtain ⟨hk1, hk2⟩ := hk
    repeat (first | refine AWP.go ok _ _ _ _ _ rfl ?_ | refine ord_mk (by kernel_rfl) ?_ | refine And.intro (by first | omega | (unfold inI; omega) | (dsimp only; omega)) ?_)
    refine vcIf_dec (fun h => ?_) (fun h => ?_)
    · have hkl : k < l.length := by omega
      repeat (first | refine AWP.go ok _ _ _ _ _ rfl ?_ | refine ord_mk (by kernel_rfl) ?_ | refine And.intro (by first | omega | (unfold inI; omega) | (dsimp only; omega)) ?_)
      refine ⟨_, map_get _ _ _ hkl, ?_⟩
      repeat (first | refine AWP.go ok _ _ _ _ _ rfl ?_ | refine ord_mk (by kernel_rfl) ?_ | refine And.intro (by first | omega | (unfold inI; omega) | (dsimp only; omega)) ?_)
      refine call_data (hel l[k] (List.getElem_mem _) _ hk2 (by omega)) ?_ ?_ ?_
      · rfl
      · rfl
      repeat (first | refine AWP.go ok _ _ _ _ _ rfl ?_ | refine ord_mk (by kernel_rfl) ?_ | refine And.intro (by first | omega | (unfold inI; omega) | (dsimp only; omega)) ?_)
      have e := sum_take Tree.sz l k hkl
      have e2 := sum_take_le Tree.sz l (k + 1)
      refine vcIf_dec (fun h => ?_) (fun h => ?_)
      · repeat (first | refine AWP.go ok _ _ _ _ _ rfl ?_ | refine ord_mk (by kernel_rfl) ?_ | refine And.intro (by first | omega | (unfold inI; omega) | (dsimp only; omega)) ?_)
        have : bud n (tot Tree.sz l) = -1 := by unfold bud at h ⊢; unfold tot; split at h <;> rw [if_pos (by omega)] <;> omega
        rw [this]
        exact ⟨[], by decide, rfl, rfl, ACle.of_eq rfl, trivial⟩
      · repeat (first | refine AWP.go ok _ _ _ _ _ rfl ?_ | refine ord_mk (by kernel_rfl) ?_ | refine And.intro (by first | omega | (unfold inI; omega) | (dsimp only; omega)) ?_)
        have e3 : bud (n - l.length - ((l.take k).map Tree.sz).sum) (Tree.sz l[k]) = n - l.length - ((l.take (k + 1)).map Tree.sz).sum := by unfold bud at h ⊢; split at h <;> rename_i hh <;> (first | rw [if_pos hh] | rw [if_neg hh]) <;> omega
        refine ⟨k + 1, [], ⟨by omega, ?_⟩, by omega, rfl, by decide, rfl, ⟨⟨rfl, rfl⟩, ⟨rfl, ?_⟩, ⟨rfl, rfl⟩, trivial⟩, trivial⟩
        · rw [← e3]; omega
        · rw [← e3]; rfl
    · repeat (first | refine AWP.go ok _ _ _ _ _ rfl ?_ | refine ord_mk (by kernel_rfl) ?_ | refine And.intro (by first | omega | (unfold inI; omega) | (dsimp only; omega)) ?_)
      obtain rfl : k = l.length := by omega
      rw [List.take_length] at hk2
      have : bud n (tot Tree.sz l) = n - l.length - (l.map Tree.sz).sum := by unfold bud tot; rw [if_neg (by omega)]; omega
      rw [this, List.take_length]
      exact ⟨[], by decide, rfl, rfl, ACle.of_eq rfl, trivial⟩

theorem szExpr_ok (t : Tree) : t.mx → ∀ n : Int, 0 ≤ n → n ≤ 1048576 → CallsA Try.prog 51 [argAgg Tree.cs' t, .int n] [] (.int (bud n t.sz)) [] := by
  induction t using Tree.ind with | h t ih => ?_
  intro hm n h0 h1
  rw [Tree.mx_iff] at hm
  have hk := szExprS_of t.kids n hm.1 (fun s hs => ih s hs (hm.2 s hs)) h0 h1
  refine callsA_of tabOk Try.func51 rfl rfl 12 Try.ntmps51 (by simp) ?_
  repeat (first | refine AWP.go ok _ _ _ _ _ rfl ?_ | refine ord_mk (by kernel_rfl) ?_ | refine And.intro (by first | omega | (unfold inI; omega) | (dsimp only; omega)) ?_)
  refine call_data hk ?_ ?_ ?_
  · show [AC.list 3 t.kids.length (t.kids.map Tree.cs), .int n] = _
    rw [Tree.lst_eq]
    rfl
  · rfl
  repeat (first | refine AWP.go ok _ _ _ _ _ rfl ?_ | refine ord_mk (by kernel_rfl) ?_ | refine And.intro (by first | omega | (unfold inI; omega) | (dsimp only; omega)) ?_)
  have e : bud n (tot Tree.sz t.kids) = bud n t.sz := by rw [Tree.sz_eq]; rfl
  rw [e]
  refine vcIf_dec (fun h => ?_) (fun h => ?_)
  · repeat (first | refine AWP.go ok _ _ _ _ _ rfl ?_ | refine ord_mk (by kernel_rfl) ?_ | refine And.intro (by first | omega | (unfold inI; omega) | (dsimp only; omega)) ?_)
    have : bud n t.sz = -1 := by unfold bud at h ⊢; split at h <;> rename_i hh <;> (first | rw [if_pos hh] | rw [if_neg hh]) <;> omega
    rw [this]
    exact ⟨[], by decide, rfl, rfl, ACle.of_eq rfl, trivial⟩
  · repeat (first | refine AWP.go ok _ _ _ _ _ rfl ?_ | refine ord_mk (by kernel_rfl) ?_ | refine And.intro (by first | omega | (unfold inI; omega) | (dsimp only; omega)) ?_)
    exact ⟨[], by decide, rfl, rfl, ACle.of_eq rfl, trivial⟩

theorem szExprS_ok (l : List Tree) (n : Int) (hl : l.length ≤ maxLen) (hm : ∀ t ∈ l, t.mx) (h0 : 0 ≤ n) (h1 : n ≤ 1048576) : CallsA Try.prog 10 [lst 3 Tree.cs' l, .int n] [] (.int (bud n (tot Tree.sz l))) [] :=
  szExprS_of l n hl (fun s hs => szExpr_ok s (hm s hs)) h0 h1
end Go.Proofs.Ytcannajfdnipkaa

namespace Go.Proofs.Ytcannajfdnipkaa
open Go.Gl
attribute [local irreducible] vcCall

theorem Tree.unown (t : Tree) : ∀ x ∈ Tree.cs' t, x.unown = x := fun x hx => by
  simp only [Tree.cs', List.mem_cons, List.not_mem_nil, or_false] at hx
  rcases hx with rfl | rfl | rfl <;> rfl

theorem toExprS_of (l : List Tree) (hl : l.length ≤ 1048576) (hel : ∀ s ∈ l, CallsA Try.prog 55 [argAgg Tree.cs' s] [] (argAgg Tree.cs' s) []) : CallsA Try.prog 13 [lst 3 Tree.cs' l] [] (lst 3 Tree.cs' l) [] := by
  refine callsA_of tabOk Try.func13 rfl rfl 23 Try.ntmps13 (by simp) ?_
  repeat (first | refine AWP.go ok _ _ _ _ _ rfl ?_ | refine ord_mk (by kernel_rfl) ?_ | refine And.intro (by first | omega | (unfold inI; omega) | (dsimp only; omega)) ?_)
  refine awp_loop (fun k : Nat => ([(0, lst 3 Tree.cs' l), (3, .sref 0 0 l.length), (4, .int k)], [.cells 3 ((l.take k).map Tree.cs' ++ List.replicate (l.length - k) [.int 0, .int 0, .nils])])) (fun k => k ≤ l.length) (fun k => l.length - k) 0 (by omega)
    ⟨[0], rfl, by decide, rfl, ⟨⟨rfl, rfl⟩, ⟨rfl, rfl⟩, ⟨rfl, rfl⟩, trivial⟩, ⟨obj_flat (by rfl) (flat_append (flat_map fun _ => rfl) (flat_replicate rfl)), trivial⟩⟩ ?_
  · intro k hk
    repeat (first | refine AWP.go ok _ _ _ _ _ rfl ?_ | refine ord_mk (by kernel_rfl) ?_ | refine And.intro (by first | omega | (unfold inI; omega) | (dsimp only; omega)) ?_)
    refine vcIf_dec (fun h => ?_) (fun h => ?_)
    · repeat (first | refine AWP.go ok _ _ _ _ _ rfl ?_ | refine ord_mk (by kernel_rfl) ?_ | refine And.intro (by first | omega | (unfold inI; omega) | (dsimp only; omega)) ?_)
      refine ⟨_, map_get _ _ _ (by omega), ?_⟩
      repeat (first | refine AWP.go ok _ _ _ _ _ rfl ?_ | refine ord_mk (by kernel_rfl) ?_ | refine And.intro (by first | omega | (unfold inI; omega) | (dsimp only; omega)) ?_)
      refine call_data (hel l[k] (List.getElem_mem _)) ?_ ?_ ?_
      · rfl
      · rfl
      repeat (first | refine AWP.go ok _ _ _ _ _ rfl ?_ | refine ord_mk (by kernel_rfl) ?_ | refine And.intro (by first | omega | (unfold inI; omega) | (dsimp only; omega)) ?_)
      refine ⟨[.int 0, .int 0, .nils], fill_get _ _ _ _ (by omega), ?_⟩
      repeat (first | refine AWP.go ok _ _ _ _ _ rfl ?_ | refine ord_mk (by kernel_rfl) ?_ | refine And.intro (by first | omega | (unfold inI; omega) | (dsimp only; omega)) ?_)
      exact ⟨k + 1, [0], by omega, by omega, rfl, by decide, rfl, ⟨⟨rfl, rfl⟩, ⟨rfl, rfl⟩, ⟨rfl, rfl⟩, trivial⟩, ⟨obj_flat (cells_congr (fill_set _ _ _ _ (by omega))) (flat_append (flat_map fun _ => rfl) (flat_replicate rfl)), trivial⟩⟩
    · refine AWP.go ok _ _ _ _ _ rfl ?_
      obtain rfl : k = l.length := by omega
      refine AWP.reach (SealL.reach (π := []) (Bn := [0]) (env := [(3, lst 3 Tree.cs' l)]) (objs := []) ⟨rfl, rfl, by simp, rfl, by simp, ⟨?_, trivial⟩, rfl⟩) ?_
      · exact bor_seal rfl rfl rfl (by simp) (unownLL_map Tree.unown l) (by simp)
      repeat (first | refine AWP.go ok _ _ _ _ _ rfl ?_ | refine ord_mk (by kernel_rfl) ?_ | refine And.intro (by first | omega | (unfold inI; omega) | (dsimp only; omega)) ?_)
      exact ⟨[], by decide, rfl, rfl, ACle.of_eq rfl, trivial⟩

theorem toExpr_ok (t : Tree) : t.sz ≤ 1048576 → CallsA Try.prog 55 [argAgg Tree.cs' t] [] (argAgg Tree.cs' t) [] := by
  induction t using Tree.ind with | h t ih => ?_
  intro hm
  rw [Tree.sz_eq] at hm
  have hk := toExprS_of t.kids (by omega) (fun s hs => ih s hs (by
    have := le_sum Tree.sz hs
    omega))
  refine callsA_of tabOk Try.func55 rfl rfl 15 Try.ntmps55 (by simp) ?_
  repeat (first | refine AWP.go ok _ _ _ _ _ rfl ?_ | refine ord_mk (by kernel_rfl) ?_ | refine And.intro (by first | omega | (unfold inI; omega) | (dsimp only; omega)) ?_)
  refine call_data hk ?_ ?_ ?_
  · show [AC.list 3 t.kids.length (t.kids.map Tree.cs)] = _
    rw [Tree.lst_eq]
    rfl
  · rfl
  repeat (first | refine AWP.go ok _ _ _ _ _ rfl ?_ | refine ord_mk (by kernel_rfl) ?_ | refine And.intro (by first | omega | (unfold inI; omega) | (dsimp only; omega)) ?_)
  refine ⟨[], by decide, rfl, rfl, ACle.of_eq ?_, trivial⟩
  show AC.agg [.int t.kind, .int t.val, .list 3 t.kids.length (t.kids.map Tree.cs')] = AC.agg [.int t.kind, .int t.val, .list 3 t.kids.length (t.kids.map Tree.cs)]
  rw [Tree.lst_eq]

theorem eqExprS_of (a b : List Tree) (ha : a.length ≤ maxLen) (hb : b.length ≤ maxLen) (hel : ∀ s ∈ a, ∀ t ∈ b, CallsA Try.prog 61 [argAgg Tree.cs' s, argAgg Tree.cs' t] [] (.bool (decide (s = t))) []) : CallsA Try.prog 17 [lst 3 Tree.cs' a, lst 3 Tree.cs' b] [] (.bool (decide (a = b))) [] := by
  unfold maxLen at ha hb
  refine callsA_of tabOk Try.func17 rfl rfl 27 Try.ntmps17 (by simp) ?_
  repeat (first | refine AWP.go ok _ _ _ _ _ rfl ?_ | refine ord_mk (by kernel_rfl) ?_ | refine And.intro (by first | omega | (unfold inI; omega) | (dsimp only; omega)) ?_)
  refine vcIf_ndec (fun h => ?_) (fun h => ?_)
  · repeat (first | refine AWP.go ok _ _ _ _ _ rfl ?_ | refine ord_mk (by kernel_rfl) ?_ | refine And.intro (by first | omega | (unfold inI; omega) | (dsimp only; omega)) ?_)
    have hne : a ≠ b := by rintro rfl; exact h rfl
    rw [decide_eq_false hne]
    exact ⟨[], by decide, rfl, rfl, ACle.of_eq rfl, trivial⟩
  · have hl : a.length = b.length := by omega
    repeat (first | refine AWP.go ok _ _ _ _ _ rfl ?_ | refine ord_mk (by kernel_rfl) ?_ | refine And.intro (by first | omega | (unfold inI; omega) | (dsimp only; omega)) ?_)
    refine awp_loop (fun k : Nat => ([(0, lst 3 Tree.cs' a), (1, lst 3 Tree.cs' b), (5, .int k)], [])) (fun k => k ≤ a.length ∧ a.take k = b.take k) (fun k => a.length - k) 0 (by simp)
      ⟨[], rfl, by decide, rfl, ⟨⟨rfl, rfl⟩, ⟨rfl, rfl⟩, ⟨rfl, rfl⟩, trivial⟩, trivial⟩ ?_
    intro k hk
    repeat (first | refine AWP.go ok _ _ _ _ _ rfl ?_ | refine ord_mk (by kernel_rfl) ?_ | refine And.intro (by first | omega | (unfold inI; omega) | (dsimp only; omega)) ?_)
    refine vcIf_dec (fun h => ?_) (fun h => ?_)
    · have hka : k < a.length := by omega
      repeat (first | refine AWP.go ok _ _ _ _ _ rfl ?_ | refine ord_mk (by kernel_rfl) ?_ | refine And.intro (by first | omega | (unfold inI; omega) | (dsimp only; omega)) ?_)
      refine ⟨_, map_get _ _ _ (by omega), ?_⟩
      repeat (first | refine AWP.go ok _ _ _ _ _ rfl ?_ | refine ord_mk (by kernel_rfl) ?_ | refine And.intro (by first | omega | (unfold inI; omega) | (dsimp only; omega)) ?_)
      refine ⟨_, map_get _ _ _ (by omega), ?_⟩
      repeat (first | refine AWP.go ok _ _ _ _ _ rfl ?_ | refine ord_mk (by kernel_rfl) ?_ | refine And.intro (by first | omega | (unfold inI; omega) | (dsimp only; omega)) ?_)
      refine call_data (hel a[k] (List.getElem_mem _) b[k] (List.getElem_mem _)) ?_ ?_ ?_
      · rfl
      · rfl
      repeat (first | refine AWP.go ok _ _ _ _ _ rfl ?_ | refine ord_mk (by kernel_rfl) ?_ | refine And.intro (by first | omega | (unfold inI; omega) | (dsimp only; omega)) ?_)
      refine vcIf_ndec (fun h => ?_) (fun h => ?_)
      · repeat (first | refine AWP.go ok _ _ _ _ _ rfl ?_ | refine ord_mk (by kernel_rfl) ?_ | refine And.intro (by first | omega | (unfold inI; omega) | (dsimp only; omega)) ?_)
        have hne : a ≠ b := by rintro rfl; exact h rfl
        rw [decide_eq_false hne]
        exact ⟨[], by decide, rfl, rfl, ACle.of_eq rfl, trivial⟩
      · repeat (first | refine AWP.go ok _ _ _ _ _ rfl ?_ | refine ord_mk (by kernel_rfl) ?_ | refine And.intro (by first | omega | (unfold inI; omega) | (dsimp only; omega)) ?_)
        refine ⟨k + 1, [], ⟨by omega, ?_⟩, by omega, rfl, by decide, rfl, ⟨⟨rfl, rfl⟩, ⟨rfl, rfl⟩, ⟨rfl, rfl⟩, trivial⟩, trivial⟩
        have h' : a[k] = b[k] := h
        rw [List.take_succ_eq_append_getElem hka, List.take_succ_eq_append_getElem (by omega), hk.2, h']
    · repeat (first | refine AWP.go ok _ _ _ _ _ rfl ?_ | refine ord_mk (by kernel_rfl) ?_ | refine And.intro (by first | omega | (unfold inI; omega) | (dsimp only; omega)) ?_)
      have he : a = b := by
        have := hk.2
        rwa [List.take_of_length_le (by omega), List.take_of_length_le (by omega)] at this
      rw [decide_eq_true he]
      exact ⟨[], by decide, rfl, rfl, ACle.of_eq rfl, trivial⟩

theorem eqExpr_ok (a : Tree) : a.mx → ∀ b : Tree, b.mx → CallsA Try.prog 61 [argAgg Tree.cs' a, argAgg Tree.cs' b] [] (.bool (decide (a = b))) [] := by
  induction a using Tree.ind with | h a ih => ?_
  intro ha b hb
  rw [Tree.mx_iff] at ha hb
  have hk := eqExprS_of a.kids b.kids ha.1 hb.1 (fun s hs t ht => ih s hs (ha.2 s hs) t (hb.2 t ht))
  refine callsA_of tabOk Try.func61 rfl rfl 21 Try.ntmps61 (by simp) ?_
  repeat (first | refine AWP.go ok _ _ _ _ _ rfl ?_ | refine ord_mk (by kernel_rfl) ?_ | refine And.intro (by first | omega | (unfold inI; omega) | (dsimp only; omega)) ?_)
  refine vcIf_ndec (fun h => ?_) (fun h1 => ?_)
  · repeat (first | refine AWP.go ok _ _ _ _ _ rfl ?_ | refine ord_mk (by kernel_rfl) ?_ | refine And.intro (by first | omega | (unfold inI; omega) | (dsimp only; omega)) ?_)
    have hne : a ≠ b := by rintro rfl; exact h rfl
    rw [decide_eq_false hne]
    exact ⟨[], by decide, rfl, rfl, ACle.of_eq rfl, trivial⟩
  repeat (first | refine AWP.go ok _ _ _ _ _ rfl ?_ | refine ord_mk (by kernel_rfl) ?_ | refine And.intro (by first | omega | (unfold inI; omega) | (dsimp only; omega)) ?_)
  refine vcIf_ndec (fun h => ?_) (fun h2 => ?_)
  · repeat (first | refine AWP.go ok _ _ _ _ _ rfl ?_ | refine ord_mk (by kernel_rfl) ?_ | refine And.intro (by first | omega | (unfold inI; omega) | (dsimp only; omega)) ?_)
    have hne : a ≠ b := by rintro rfl; exact h rfl
    rw [decide_eq_false hne]
    exact ⟨[], by decide, rfl, rfl, ACle.of_eq rfl, trivial⟩
  repeat (first | refine AWP.go ok _ _ _ _ _ rfl ?_ | refine ord_mk (by kernel_rfl) ?_ | refine And.intro (by first | omega | (unfold inI; omega) | (dsimp only; omega)) ?_)
  refine call_data hk ?_ ?_ ?_
  · show [AC.list 3 a.kids.length (a.kids.map Tree.cs), AC.list 3 b.kids.length (b.kids.map Tree.cs)] = _
    rw [Tree.lst_eq, Tree.lst_eq]
    rfl
  · rfl
  repeat (first | refine AWP.go ok _ _ _ _ _ rfl ?_ | refine ord_mk (by kernel_rfl) ?_ | refine And.intro (by first | omega | (unfold inI; omega) | (dsimp only; omega)) ?_)
  refine vcIf_ndec (fun h => ?_) (fun h3 => ?_)
  · repeat (first | refine AWP.go ok _ _ _ _ _ rfl ?_ | refine ord_mk (by kernel_rfl) ?_ | refine And.intro (by first | omega | (unfold inI; omega) | (dsimp only; omega)) ?_)
    have hne : a ≠ b := by rintro rfl; exact h rfl
    rw [decide_eq_false hne]
    exact ⟨[], by decide, rfl, rfl, ACle.of_eq rfl, trivial⟩
  · repeat (first | refine AWP.go ok _ _ _ _ _ rfl ?_ | refine ord_mk (by kernel_rfl) ?_ | refine And.intro (by first | omega | (unfold inI; omega) | (dsimp only; omega)) ?_)
    have he : a = b := Tree.ext h1 h2 h3
    rw [decide_eq_true he]
    exact ⟨[], by decide, rfl, rfl, ACle.of_eq rfl, trivial⟩
end Go.Proofs.Ytcannajfdnipkaa

namespace Go.Proofs.Ytcannajfdnipkaa
open Go.Gl
attribute [local irreducible] vcCall

def encL (l : List Int) : List AC := [ints l]
theorem encL_unown (l : List Int) : ∀ x ∈ encL l, x.unown = x := fun x hx => by
  simp only [encL, List.mem_cons, List.not_mem_nil, or_false] at hx
  subst hx; rfl
theorem szIntSS_of (l : List (List Int)) (n : Int) (hl : l.length ≤ maxLen) (hel : ∀ s ∈ l, ∀ n : Int, 0 ≤ n → n ≤ 1048576 → CallsA Try.prog 74 [ints s, .int n] [] (.int (bud n (List.length s))) []) (h0 : 0 ≤ n) (h1 : n ≤ 1048576) : CallsA Try.prog 50 [lst 1 encL l, .int n] [] (.int (bud n (tot List.length l))) [] := by
  unfold maxLen at hl
  refine callsA_of tabOk Try.func50 rfl rfl 27 Try.ntmps50 (by simp) ?_
  repeat (first | refine AWP.go ok _ _ _ _ _ rfl ?_ | refine ord_mk (by kernel_rfl) ?_ | refine And.intro (by first | omega | (unfold inI; omega) | (dsimp only; omega)) ?_)
  refine vcIf_dec (fun h => ?_) (fun h => ?_)
  · repeat (first | refine AWP.go ok _ _ _ _ _ rfl ?_ | refine ord_mk (by kernel_rfl) ?_ | refine And.intro (by first | omega | (unfold inI; omega) | (dsimp only; omega)) ?_)
    have : bud n (tot List.length l) = -1 := by unfold bud tot; rw [if_pos (by omega)]
    rw [this]
    exact ⟨[], by decide, rfl, rfl, ACle.of_eq rfl, trivial⟩
  · repeat (first | refine AWP.go ok _ _ _ _ _ rfl ?_ | refine ord_mk (by kernel_rfl) ?_ | refine And.intro (by first | omega | (unfold inI; omega) | (dsimp only; omega)) ?_)
    refine awp_loop (fun k : Nat => ([(0, lst 1 encL l), (1, .int (n - l.length - ((l.take k).map List.length).sum)), (5, .int k)], [])) (fun k => k ≤ l.length ∧ 0 ≤ n - l.length - ((l.take k).map List.length).sum) (fun k => l.length - k) 0 ⟨by omega, by simp; omega⟩
      ⟨[], rfl, by decide, rfl, ⟨⟨rfl, rfl⟩, ⟨rfl, by simp; rfl⟩, ⟨rfl, rfl⟩, trivial⟩, trivial⟩ ?_
    intro k hk
    obtain ⟨hk1, hk2⟩ := hk
    repeat (first | refine AWP.go ok _ _ _ _ _ rfl ?_ | refine ord_mk (by kernel_rfl) ?_ | refine And.intro (by first | omega | (unfold inI; omega) | (dsimp only; omega)) ?_)
    refine vcIf_dec (fun h => ?_) (fun h => ?_)
    · have hkl : k < l.length := by omega
      repeat (first | refine AWP.go ok _ _ _ _ _ rfl ?_ | refine ord_mk (by kernel_rfl) ?_ | refine And.intro (by first | omega | (unfold inI; omega) | (dsimp only; omega)) ?_)
      refine ⟨_, map_get _ _ _ hkl, ?_⟩
      repeat (first | refine AWP.go ok _ _ _ _ _ rfl ?_ | refine ord_mk (by kernel_rfl) ?_ | refine And.intro (by first | omega | (unfold inI; omega) | (dsimp only; omega)) ?_)
      refine call_data (hel l[k] (List.getElem_mem _) _ hk2 (by omega)) ?_ ?_ ?_
      · rfl
      · rfl
      repeat (first | refine AWP.go ok _ _ _ _ _ rfl ?_ | refine ord_mk (by kernel_rfl) ?_ | refine And.intro (by first | omega | (unfold inI; omega) | (dsimp only; omega)) ?_)
      have e := sum_take List.length l k hkl
      have e2 := sum_take_le List.length l (k + 1)
      refine vcIf_dec (fun h => ?_) (fun h => ?_)
      · repeat (first | refine AWP.go ok _ _ _ _ _ rfl ?_ | refine ord_mk (by kernel_rfl) ?_ | refine And.intro (by first | omega | (unfold inI; omega) | (dsimp only; omega)) ?_)
        have : bud n (tot List.length l) = -1 := by unfold bud at h ⊢; unfold tot; split at h <;> rw [if_pos (by omega)] <;> omega
        rw [this]
        exact ⟨[], by decide, rfl, rfl, ACle.of_eq rfl, trivial⟩
      · repeat (first | refine AWP.go ok _ _ _ _ _ rfl ?_ | refine ord_mk (by kernel_rfl) ?_ | refine And.intro (by first | omega | (unfold inI; omega) | (dsimp only; omega)) ?_)
        have e3 : bud (n - l.length - ((l.take k).map List.length).sum) (List.length l[k]) = n - l.length - ((l.take (k + 1)).map List.length).sum := by unfold bud at h ⊢; split at h <;> rename_i hh <;> (first | rw [if_pos hh] | rw [if_neg hh]) <;> omega
        refine ⟨k + 1, [], ⟨by omega, ?_⟩, by omega, rfl, by decide, rfl, ⟨⟨rfl, rfl⟩, ⟨rfl, ?_⟩, ⟨rfl, rfl⟩, trivial⟩, trivial⟩
        · rw [← e3]; omega
        · rw [← e3]; rfl
    · repeat (first | refine AWP.go ok _ _ _ _ _ rfl ?_ | refine ord_mk (by kernel_rfl) ?_ | refine And.intro (by first | omega | (unfold inI; omega) | (dsimp only; omega)) ?_)
      obtain rfl : k = l.length := by omega
      rw [List.take_length] at hk2
      have : bud n (tot List.length l) = n - l.length - (l.map List.length).sum := by unfold bud tot; rw [if_neg (by omega)]; omega
      rw [this, List.take_length]
      exact ⟨[], by decide, rfl, rfl, ACle.of_eq rfl, trivial⟩
theorem toIntSS_of (l : List (List Int)) (hl : l.length ≤ 1048576) (hel : ∀ s ∈ l, CallsA Try.prog 78 [ints s] [] (ints s) []) : CallsA Try.prog 54 [lst 1 encL l] [] (lst 1 encL l) [] := by
  refine callsA_of tabOk Try.func54 rfl rfl 23 Try.ntmps54 (by simp) ?_
  repeat (first | refine AWP.go ok _ _ _ _ _ rfl ?_ | refine ord_mk (by kernel_rfl) ?_ | refine And.intro (by first | omega | (unfold inI; omega) | (dsimp only; omega)) ?_)
  refine awp_loop (fun k : Nat => ([(0, lst 1 encL l), (3, .sref 0 0 l.length), (4, .int k)], [.cells 1 ((l.take k).map encL ++ List.replicate (l.length - k) [.nils])])) (fun k => k ≤ l.length) (fun k => l.length - k) 0 (by omega)
    ⟨[0], rfl, by decide, rfl, ⟨⟨rfl, rfl⟩, ⟨rfl, rfl⟩, ⟨rfl, rfl⟩, trivial⟩, ⟨obj_flat (by rfl) (flat_append (flat_map fun _ => rfl) (flat_replicate rfl)), trivial⟩⟩ ?_
  · intro k hk
    repeat (first | refine AWP.go ok _ _ _ _ _ rfl ?_ | refine ord_mk (by kernel_rfl) ?_ | refine And.intro (by first | omega | (unfold inI; omega) | (dsimp only; omega)) ?_)
    refine vcIf_dec (fun h => ?_) (fun h => ?_)
    · repeat (first | refine AWP.go ok _ _ _ _ _ rfl ?_ | refine ord_mk (by kernel_rfl) ?_ | refine And.intro (by first | omega | (unfold inI; omega) | (dsimp only; omega)) ?_)
      refine ⟨_, map_get _ _ _ (by omega), ?_⟩
      repeat (first | refine AWP.go ok _ _ _ _ _ rfl ?_ | refine ord_mk (by kernel_rfl) ?_ | refine And.intro (by first | omega | (unfold inI; omega) | (dsimp only; omega)) ?_)
      refine call_data (hel l[k] (List.getElem_mem _)) ?_ ?_ ?_
      · rfl
      · rfl
      repeat (first | refine AWP.go ok _ _ _ _ _ rfl ?_ | refine ord_mk (by kernel_rfl) ?_ | refine And.intro (by first | omega | (unfold inI; omega) | (dsimp only; omega)) ?_)
      refine ⟨[.nils], fill_get _ _ _ _ (by omega), ?_⟩
      repeat (first | refine AWP.go ok _ _ _ _ _ rfl ?_ | refine ord_mk (by kernel_rfl) ?_ | refine And.intro (by first | omega | (unfold inI; omega) | (dsimp only; omega)) ?_)
      exact ⟨k + 1, [0], by omega, by omega, rfl, by decide, rfl, ⟨⟨rfl, rfl⟩, ⟨rfl, rfl⟩, ⟨rfl, rfl⟩, trivial⟩, ⟨obj_flat (cells_congr (fill_set _ _ _ _ (by omega))) (flat_append (flat_map fun _ => rfl) (flat_replicate rfl)), trivial⟩⟩
    · refine AWP.go ok _ _ _ _ _ rfl ?_
      obtain rfl : k = l.length := by omega
      refine AWP.reach (SealL.reach (π := []) (Bn := [0]) (env := [(3, lst 1 encL l)]) (objs := []) ⟨rfl, rfl, by simp, rfl, by simp, ⟨?_, trivial⟩, rfl⟩) ?_
      · exact bor_seal rfl rfl rfl (by simp) (unownLL_map encL_unown l) (by simp)
      repeat (first | refine AWP.go ok _ _ _ _ _ rfl ?_ | refine ord_mk (by kernel_rfl) ?_ | refine And.intro (by first | omega | (unfold inI; omega) | (dsimp only; omega)) ?_)
      exact ⟨[], by decide, rfl, rfl, ACle.of_eq rfl, trivial⟩
theorem eqIntSS_of (a b : List (List Int)) (ha : a.length ≤ maxLen) (hb : b.length ≤ maxLen) (hel : ∀ s ∈ a, ∀ t ∈ b, CallsA Try.prog 15 [ints s, ints t] [] (.bool (decide (s = t))) []) : CallsA Try.prog 60 [lst 1 encL a, lst 1 encL b] [] (.bool (decide (a = b))) [] := by
  unfold maxLen at ha hb
  refine callsA_of tabOk Try.func60 rfl rfl 27 Try.ntmps60 (by simp) ?_
  repeat (first | refine AWP.go ok _ _ _ _ _ rfl ?_ | refine ord_mk (by kernel_rfl) ?_ | refine And.intro (by first | omega | (unfold inI; omega) | (dsimp only; omega)) ?_)
  refine vcIf_ndec (fun h => ?_) (fun h => ?_)
  · repeat (first | refine AWP.go ok _ _ _ _ _ rfl ?_ | refine ord_mk (by kernel_rfl) ?_ | refine And.intro (by first | omega | (unfold inI; omega) | (dsimp only; omega)) ?_)
    have hne : a ≠ b := by rintro rfl; exact h rfl
    rw [decide_eq_false hne]
    exact ⟨[], by decide, rfl, rfl, ACle.of_eq rfl, trivial⟩
  · have hl : a.length = b.length := by omega
    repeat (first | refine AWP.go ok _ _ _ _ _ rfl ?_ | refine ord_mk (by kernel_rfl) ?_ | refine And.intro (by first | omega | (unfold inI; omega) | (dsimp only; omega)) ?_)
    refine awp_loop (fun k : Nat => ([(0, lst 1 encL a), (1, lst 1 encL b), (5, .int k)], [])) (fun k => k ≤ a.length ∧ a.take k = b.take k) (fun k => a.length - k) 0 (by simp)
      ⟨[], rfl, by decide, rfl, ⟨⟨rfl, rfl⟩, ⟨rfl, rfl⟩, ⟨rfl, rfl⟩, trivial⟩, trivial⟩ ?_
    intro k hk
    repeat (first | refine AWP.go ok _ _ _ _ _ rfl ?_ | refine ord_mk (by kernel_rfl) ?_ | refine And.intro (by first | omega | (unfold inI; omega) | (dsimp only; omega)) ?_)
    refine vcIf_dec (fun h => ?_) (fun h => ?_)
    · have hka : k < a.length := by omega
      repeat (first | refine AWP.go ok _ _ _ _ _ rfl ?_ | refine ord_mk (by kernel_rfl) ?_ | refine And.intro (by first | omega | (unfold inI; omega) | (dsimp only; omega)) ?_)
      refine ⟨_, map_get _ _ _ (by omega), ?_⟩
      repeat (first | refine AWP.go ok _ _ _ _ _ rfl ?_ | refine ord_mk (by kernel_rfl) ?_ | refine And.intro (by first | omega | (unfold inI; omega) | (dsimp only; omega)) ?_)
      refine ⟨_, map_get _ _ _ (by omega), ?_⟩
      repeat (first | refine AWP.go ok _ _ _ _ _ rfl ?_ | refine ord_mk (by kernel_rfl) ?_ | refine And.intro (by first | omega | (unfold inI; omega) | (dsimp only; omega)) ?_)
      refine call_data (hel a[k] (List.getElem_mem _) b[k] (List.getElem_mem _)) ?_ ?_ ?_
      · rfl
      · rfl
      repeat (first | refine AWP.go ok _ _ _ _ _ rfl ?_ | refine ord_mk (by kernel_rfl) ?_ | refine And.intro (by first | omega | (unfold inI; omega) | (dsimp only; omega)) ?_)
      refine vcIf_ndec (fun h => ?_) (fun h => ?_)
      · repeat (first | refine AWP.go ok _ _ _ _ _ rfl ?_ | refine ord_mk (by kernel_rfl) ?_ | refine And.intro (by first | omega | (unfold inI; omega) | (dsimp only; omega)) ?_)
        have hne : a ≠ b := by rintro rfl; exact h rfl
        rw [decide_eq_false hne]
        exact ⟨[], by decide, rfl, rfl, ACle.of_eq rfl, trivial⟩
      · repeat (first | refine AWP.go ok _ _ _ _ _ rfl ?_ | refine ord_mk (by kernel_rfl) ?_ | refine And.intro (by first | omega | (unfold inI; omega) | (dsimp only; omega)) ?_)
        refine ⟨k + 1, [], ⟨by omega, ?_⟩, by omega, rfl, by decide, rfl, ⟨⟨rfl, rfl⟩, ⟨rfl, rfl⟩, ⟨rfl, rfl⟩, trivial⟩, trivial⟩
        have h' : a[k] = b[k] := h
        rw [List.take_succ_eq_append_getElem hka, List.take_succ_eq_append_getElem (by omega), hk.2, h']
    · repeat (first | refine AWP.go ok _ _ _ _ _ rfl ?_ | refine ord_mk (by kernel_rfl) ?_ | refine And.intro (by first | omega | (unfold inI; omega) | (dsimp only; omega)) ?_)
      have he : a = b := by
        have := hk.2
        rwa [List.take_of_length_le (by omega), List.take_of_length_le (by omega)] at this
      rw [decide_eq_true he]
      exact ⟨[], by decide, rfl, rfl, ACle.of_eq rfl, trivial⟩
end Go.Proofs.Ytcannajfdnipkaa

namespace Go.Proofs.Ytcannajfdnipkaa
open Go.Gl
attribute [local irreducible] vcCall

structure Graph where
  st : List State
  nx : List (List Int)
  deriving DecidableEq
def Graph.a1 (g : Graph) : AC := lst 2 State.cs g.st
def Graph.a2 (g : Graph) : AC := lst 1 encL g.nx
def Graph.cs (g : Graph) : List AC := [lst 2 State.cs g.st, lst 1 encL g.nx]
def Graph.s1 (g : Graph) : Nat := tot State.sz g.st
def Graph.s2 (g : Graph) : Nat := tot List.length g.nx
theorem szGraph_of (s : Graph) (n : Int) (c0 : ∀ n : Int, 0 ≤ n → n ≤ 1048576 → CallsA Try.prog 49 [Graph.a1 s, .int n] [] (.int (bud n (Graph.s1 s))) []) (c1 : ∀ n : Int, 0 ≤ n → n ≤ 1048576 → CallsA Try.prog 50 [Graph.a2 s, .int n] [] (.int (bud n (Graph.s2 s))) []) (h0 : 0 ≤ n) (h1 : n ≤ 1048576) : CallsA Try.prog 9 [.agg (Graph.cs s), .int n] [] (.int (bud n (Graph.s1 s + Graph.s2 s))) [] := by
  refine callsA_of tabOk Try.func9 rfl rfl 18 Try.ntmps9 (by simp) ?_
  repeat (first | refine AWP.go ok _ _ _ _ _ rfl ?_ | refine ord_mk (by kernel_rfl) ?_ | refine And.intro (by first | omega | (unfold inI; omega) | (dsimp only; omega)) ?_)
  refine call_data (c0 (n) (by omega) (by omega)) ?_ ?_ ?_
  · rfl
  · rfl
  repeat (first | refine AWP.go ok _ _ _ _ _ rfl ?_ | refine ord_mk (by kernel_rfl) ?_ | refine And.intro (by first | omega | (unfold inI; omega) | (dsimp only; omega)) ?_)
  refine vcIf_dec (fun g0 => ?_) (fun g0 => ?_)
  · repeat (first | refine AWP.go ok _ _ _ _ _ rfl ?_ | refine ord_mk (by kernel_rfl) ?_ | refine And.intro (by first | omega | (unfold inI; omega) | (dsimp only; omega)) ?_)
    have e : bud n (Graph.s1 s + Graph.s2 s) = -1 := by unfold bud at g0 ⊢; split at g0 <;> rw [if_pos (by omega)] <;> omega
    rw [e]
    exact ⟨[], by decide, rfl, rfl, ACle.of_eq rfl, trivial⟩
  have e0 : bud (n) (Graph.s1 s) = n - (Graph.s1 s : Int) := by unfold bud at g0 ⊢; split at g0 <;> rename_i hh <;> (first | rw [if_pos hh] | rw [if_neg hh]) <;> omega
  rw [e0] at g0 ⊢
  repeat (first | refine AWP.go ok _ _ _ _ _ rfl ?_ | refine ord_mk (by kernel_rfl) ?_ | refine And.intro (by first | omega | (unfold inI; omega) | (dsimp only; omega)) ?_)
  refine call_data (c1 (n - (Graph.s1 s : Int)) (by omega) (by omega)) ?_ ?_ ?_
  · rfl
  · rfl
  repeat (first | refine AWP.go ok _ _ _ _ _ rfl ?_ | refine ord_mk (by kernel_rfl) ?_ | refine And.intro (by first | omega | (unfold inI; omega) | (dsimp only; omega)) ?_)
  refine vcIf_dec (fun g1 => ?_) (fun g1 => ?_)
  · repeat (first | refine AWP.go ok _ _ _ _ _ rfl ?_ | refine ord_mk (by kernel_rfl) ?_ | refine And.intro (by first | omega | (unfold inI; omega) | (dsimp only; omega)) ?_)
    have e : bud n (Graph.s1 s + Graph.s2 s) = -1 := by unfold bud at g1 ⊢; split at g1 <;> rw [if_pos (by omega)] <;> omega
    rw [e]
    exact ⟨[], by decide, rfl, rfl, ACle.of_eq rfl, trivial⟩
  have e1 : bud (n - (Graph.s1 s : Int)) (Graph.s2 s) = n - (Graph.s1 s : Int) - (Graph.s2 s : Int) := by unfold bud at g1 ⊢; split at g1 <;> rename_i hh <;> (first | rw [if_pos hh] | rw [if_neg hh]) <;> omega
  rw [e1] at g1 ⊢
  repeat (first | refine AWP.go ok _ _ _ _ _ rfl ?_ | refine ord_mk (by kernel_rfl) ?_ | refine And.intro (by first | omega | (unfold inI; omega) | (dsimp only; omega)) ?_)
  have e : bud n (Graph.s1 s + Graph.s2 s) = n - (Graph.s1 s : Int) - (Graph.s2 s : Int) := by unfold bud; rw [if_neg (by omega)] <;> omega
  try rw [e]
  exact ⟨[], by decide, rfl, rfl, ACle.of_eq rfl, trivial⟩
theorem toGraph_of (s : Graph) (c0 : CallsA Try.prog 53 [Graph.a1 s] [] (Graph.a1 s) []) (c1 : CallsA Try.prog 54 [Graph.a2 s] [] (Graph.a2 s) []) : CallsA Try.prog 12 [.agg (Graph.cs s)] [] (.agg (Graph.cs s)) [] := by
  refine callsA_of tabOk Try.func12 rfl rfl 13 Try.ntmps12 (by simp) ?_
  repeat (first | refine AWP.go ok _ _ _ _ _ rfl ?_ | refine ord_mk (by kernel_rfl) ?_ | refine And.intro (by first | omega | (unfold inI; omega) | (dsimp only; omega)) ?_)
  refine call_data c0 ?_ ?_ ?_
  · rfl
  · rfl
  repeat (first | refine AWP.go ok _ _ _ _ _ rfl ?_ | refine ord_mk (by kernel_rfl) ?_ | refine And.intro (by first | omega | (unfold inI; omega) | (dsimp only; omega)) ?_)
  refine call_data c1 ?_ ?_ ?_
  · rfl
  · rfl
  repeat (first | refine AWP.go ok _ _ _ _ _ rfl ?_ | refine ord_mk (by kernel_rfl) ?_ | refine And.intro (by first | omega | (unfold inI; omega) | (dsimp only; omega)) ?_)
  exact ⟨[], by decide, rfl, rfl, ACle.of_eq rfl, trivial⟩
theorem eqGraph_of (s t : Graph) (c0 : CallsA Try.prog 59 [Graph.a1 s, Graph.a1 t] [] (.bool (decide (Graph.st s = Graph.st t))) []) (c1 : CallsA Try.prog 60 [Graph.a2 s, Graph.a2 t] [] (.bool (decide (Graph.nx s = Graph.nx t))) []) : CallsA Try.prog 16 [.agg (Graph.cs s), .agg (Graph.cs t)] [] (.bool (decide (s = t))) [] := by
  refine callsA_of tabOk Try.func16 rfl rfl 17 Try.ntmps16 (by simp) ?_
  repeat (first | refine AWP.go ok _ _ _ _ _ rfl ?_ | refine ord_mk (by kernel_rfl) ?_ | refine And.intro (by first | omega | (unfold inI; omega) | (dsimp only; omega)) ?_)
  refine call_data c0 ?_ ?_ ?_
  · rfl
  · rfl
  repeat (first | refine AWP.go ok _ _ _ _ _ rfl ?_ | refine ord_mk (by kernel_rfl) ?_ | refine And.intro (by first | omega | (unfold inI; omega) | (dsimp only; omega)) ?_)
  refine vcIf_ndec (fun h => ?_) (fun g0 => ?_)
  · repeat (first | refine AWP.go ok _ _ _ _ _ rfl ?_ | refine ord_mk (by kernel_rfl) ?_ | refine And.intro (by first | omega | (unfold inI; omega) | (dsimp only; omega)) ?_)
    have hne : s ≠ t := by rintro rfl; exact h rfl
    rw [decide_eq_false hne]
    exact ⟨[], by decide, rfl, rfl, ACle.of_eq rfl, trivial⟩
  repeat (first | refine AWP.go ok _ _ _ _ _ rfl ?_ | refine ord_mk (by kernel_rfl) ?_ | refine And.intro (by first | omega | (unfold inI; omega) | (dsimp only; omega)) ?_)
  refine call_data c1 ?_ ?_ ?_
  · rfl
  · rfl
  repeat (first | refine AWP.go ok _ _ _ _ _ rfl ?_ | refine ord_mk (by kernel_rfl) ?_ | refine And.intro (by first | omega | (unfold inI; omega) | (dsimp only; omega)) ?_)
  refine vcIf_ndec (fun h => ?_) (fun g1 => ?_)
  · repeat (first | refine AWP.go ok _ _ _ _ _ rfl ?_ | refine ord_mk (by kernel_rfl) ?_ | refine And.intro (by first | omega | (unfold inI; omega) | (dsimp only; omega)) ?_)
    have hne : s ≠ t := by rintro rfl; exact h rfl
    rw [decide_eq_false hne]
    exact ⟨[], by decide, rfl, rfl, ACle.of_eq rfl, trivial⟩
  repeat (first | refine AWP.go ok _ _ _ _ _ rfl ?_ | refine ord_mk (by kernel_rfl) ?_ | refine And.intro (by first | omega | (unfold inI; omega) | (dsimp only; omega)) ?_)
  have he : s = t := by cases s; cases t; simp_all
  rw [decide_eq_true he]
  exact ⟨[], by decide, rfl, rfl, ACle.of_eq rfl, trivial⟩
end Go.Proofs.Ytcannajfdnipkaa

namespace Go.Proofs.Ytcannajfdnipkaa
open Go.Gl
attribute [local irreducible] vcCall

def enB (b : Bool) : List AC := [.bool b]
theorem enB_unown (b : Bool) : ∀ x ∈ enB b, x.unown = x := fun x hx => by
  simp only [enB, List.mem_cons, List.not_mem_nil, or_false] at hx
  subst hx; rfl
theorem szBoolS_ok (l : List Bool) (n : Int) (hl : l.length ≤ maxLen) (h0 : 0 ≤ n) (h1 : n ≤ 1048576) : CallsA Try.prog 83 [lst 1 enB l, .int n] [] (.int (bud n l.length)) [] := by
  unfold maxLen at hl
  refine callsA_of tabOk Try.func83 rfl rfl 12 Try.ntmps83 (by simp) ?_
  repeat (first | refine AWP.go ok _ _ _ _ _ rfl ?_ | refine ord_mk (by kernel_rfl) ?_ | refine And.intro (by first | omega | (unfold inI; omega) | (dsimp only; omega)) ?_)
  refine vcIf_dec (fun h => ?_) (fun h => ?_)
  · repeat (first | refine AWP.go ok _ _ _ _ _ rfl ?_ | refine ord_mk (by kernel_rfl) ?_ | refine And.intro (by first | omega | (unfold inI; omega) | (dsimp only; omega)) ?_)
    have : bud n l.length = -1 := by unfold bud; rw [if_pos h]
    rw [this]
    exact ⟨[], by decide, rfl, rfl, ACle.of_eq rfl, trivial⟩
  · repeat (first | refine AWP.go ok _ _ _ _ _ rfl ?_ | refine ord_mk (by kernel_rfl) ?_ | refine And.intro (by first | omega | (unfold inI; omega) | (dsimp only; omega)) ?_)
    have : bud n l.length = n - l.length := by unfold bud; rw [if_neg h]
    rw [this]
    exact ⟨[], by decide, rfl, rfl, ACle.of_eq rfl, trivial⟩
theorem toBoolS_ok (l : List Bool) (hl : l.length ≤ 1048576) : CallsA Try.prog 88 [lst 1 enB l] [] (lst 1 enB l) [] := by
  refine callsA_of tabOk Try.func88 rfl rfl 22 Try.ntmps88 (by simp) ?_
  repeat (first | refine AWP.go ok _ _ _ _ _ rfl ?_ | refine ord_mk (by kernel_rfl) ?_ | refine And.intro (by first | omega | (unfold inI; omega) | (dsimp only; omega)) ?_)
  refine awp_loop (fun k : Nat => ([(0, lst 1 enB l), (3, .sref 0 0 l.length), (4, .int k)], [.cells 1 ((l.take k).map enB ++ List.replicate (l.length - k) ((enB false)))])) (fun k => k ≤ l.length) (fun k => l.length - k) 0 (by omega)
    ⟨[0], rfl, by decide, rfl, ⟨⟨rfl, rfl⟩, ⟨rfl, rfl⟩, ⟨rfl, rfl⟩, trivial⟩, ⟨obj_flat (by rfl) (flat_append (flat_map fun _ => rfl) (flat_replicate rfl)), trivial⟩⟩ ?_
  · intro k hk
    repeat (first | refine AWP.go ok _ _ _ _ _ rfl ?_ | refine ord_mk (by kernel_rfl) ?_ | refine And.intro (by first | omega | (unfold inI; omega) | (dsimp only; omega)) ?_)
    refine vcIf_dec (fun h => ?_) (fun h => ?_)
    · repeat (first | refine AWP.go ok _ _ _ _ _ rfl ?_ | refine ord_mk (by kernel_rfl) ?_ | refine And.intro (by first | omega | (unfold inI; omega) | (dsimp only; omega)) ?_)
      refine ⟨_, map_get _ _ _ (by omega), ?_⟩
      repeat (first | refine AWP.go ok _ _ _ _ _ rfl ?_ | refine ord_mk (by kernel_rfl) ?_ | refine And.intro (by first | omega | (unfold inI; omega) | (dsimp only; omega)) ?_)
      refine ⟨(enB false), fill_get _ _ _ _ (by omega), ?_⟩
      repeat (first | refine AWP.go ok _ _ _ _ _ rfl ?_ | refine ord_mk (by kernel_rfl) ?_ | refine And.intro (by first | omega | (unfold inI; omega) | (dsimp only; omega)) ?_)
      exact ⟨k + 1, [0], by omega, by omega, rfl, by decide, rfl, ⟨⟨rfl, rfl⟩, ⟨rfl, rfl⟩, ⟨rfl, rfl⟩, trivial⟩, ⟨obj_flat (cells_congr (fill_set _ _ _ _ (by omega))) (flat_append (flat_map fun _ => rfl) (flat_replicate rfl)), trivial⟩⟩
    · refine AWP.go ok _ _ _ _ _ rfl ?_
      obtain rfl : k = l.length := by omega
      refine AWP.reach (SealL.reach (π := []) (Bn := [0]) (env := [(3, lst 1 enB l)]) (objs := []) ⟨rfl, rfl, by simp, rfl, by simp, ⟨?_, trivial⟩, rfl⟩) ?_
      · exact bor_seal rfl rfl rfl (by simp) (unownLL_map enB_unown l) (by simp)
      repeat (first | refine AWP.go ok _ _ _ _ _ rfl ?_ | refine ord_mk (by kernel_rfl) ?_ | refine And.intro (by first | omega | (unfold inI; omega) | (dsimp only; omega)) ?_)
      exact ⟨[], by decide, rfl, rfl, ACle.of_eq rfl, trivial⟩
theorem eqBoolS_ok (a b : List Bool) (ha : a.length ≤ maxLen) (hb : b.length ≤ maxLen) : CallsA Try.prog 95 [lst 1 enB a, lst 1 enB b] [] (.bool (decide (a = b))) [] := by
  unfold maxLen at ha hb
  refine callsA_of tabOk Try.func95 rfl rfl 26 Try.ntmps95 (by simp) ?_
  repeat (first | refine AWP.go ok _ _ _ _ _ rfl ?_ | refine ord_mk (by kernel_rfl) ?_ | refine And.intro (by first | omega | (unfold inI; omega) | (dsimp only; omega)) ?_)
  refine vcIf_ndec (fun h => ?_) (fun h => ?_)
  · repeat (first | refine AWP.go ok _ _ _ _ _ rfl ?_ | refine ord_mk (by kernel_rfl) ?_ | refine And.intro (by first | omega | (unfold inI; omega) | (dsimp only; omega)) ?_)
    have hne : a ≠ b := by rintro rfl; exact h rfl
    rw [decide_eq_false hne]
    exact ⟨[], by decide, rfl, rfl, ACle.of_eq rfl, trivial⟩
  · have hl : a.length = b.length := by omega
    repeat (first | refine AWP.go ok _ _ _ _ _ rfl ?_ | refine ord_mk (by kernel_rfl) ?_ | refine And.intro (by first | omega | (unfold inI; omega) | (dsimp only; omega)) ?_)
    refine awp_loop (fun k : Nat => ([(0, lst 1 enB a), (1, lst 1 enB b), (5, .int k)], [])) (fun k => k ≤ a.length ∧ a.take k = b.take k) (fun k => a.length - k) 0 (by simp)
      ⟨[], rfl, by decide, rfl, ⟨⟨rfl, rfl⟩, ⟨rfl, rfl⟩, ⟨rfl, rfl⟩, trivial⟩, trivial⟩ ?_
    intro k hk
    repeat (first | refine AWP.go ok _ _ _ _ _ rfl ?_ | refine ord_mk (by kernel_rfl) ?_ | refine And.intro (by first | omega | (unfold inI; omega) | (dsimp only; omega)) ?_)
    refine vcIf_dec (fun h => ?_) (fun h => ?_)
    · have hka : k < a.length := by omega
      repeat (first | refine AWP.go ok _ _ _ _ _ rfl ?_ | refine ord_mk (by kernel_rfl) ?_ | refine And.intro (by first | omega | (unfold inI; omega) | (dsimp only; omega)) ?_)
      refine ⟨_, map_get _ _ _ (by omega), ?_⟩
      repeat (first | refine AWP.go ok _ _ _ _ _ rfl ?_ | refine ord_mk (by kernel_rfl) ?_ | refine And.intro (by first | omega | (unfold inI; omega) | (dsimp only; omega)) ?_)
      refine ⟨_, map_get _ _ _ (by omega), ?_⟩
      repeat (first | refine AWP.go ok _ _ _ _ _ rfl ?_ | refine ord_mk (by kernel_rfl) ?_ | refine And.intro (by first | omega | (unfold inI; omega) | (dsimp only; omega)) ?_)
      refine vcIf_ndec (fun h => ?_) (fun h => ?_)
      · repeat (first | refine AWP.go ok _ _ _ _ _ rfl ?_ | refine ord_mk (by kernel_rfl) ?_ | refine And.intro (by first | omega | (unfold inI; omega) | (dsimp only; omega)) ?_)
        have hne : a ≠ b := by rintro rfl; exact h rfl
        rw [decide_eq_false hne]
        exact ⟨[], by decide, rfl, rfl, ACle.of_eq rfl, trivial⟩
      · repeat (first | refine AWP.go ok _ _ _ _ _ rfl ?_ | refine ord_mk (by kernel_rfl) ?_ | refine And.intro (by first | omega | (unfold inI; omega) | (dsimp only; omega)) ?_)
        refine ⟨k + 1, [], ⟨by omega, ?_⟩, by omega, rfl, by decide, rfl, ⟨⟨rfl, rfl⟩, ⟨rfl, rfl⟩, ⟨rfl, rfl⟩, trivial⟩, trivial⟩
        have h' : a[k] = b[k] := h
        rw [List.take_succ_eq_append_getElem hka, List.take_succ_eq_append_getElem (by omega), hk.2, h']
    · repeat (first | refine AWP.go ok _ _ _ _ _ rfl ?_ | refine ord_mk (by kernel_rfl) ?_ | refine And.intro (by first | omega | (unfold inI; omega) | (dsimp only; omega)) ?_)
      have he : a = b := by
        have := hk.2
        rwa [List.take_of_length_le (by omega), List.take_of_length_le (by omega)] at this
      rw [decide_eq_true he]
      exact ⟨[], by decide, rfl, rfl, ACle.of_eq rfl, trivial⟩

structure Trans where
  src : Int
  care : Int
  val : Int
  dst : Int
  deriving DecidableEq
def Trans.cs (t : Trans) : List AC := [.int t.src, .int t.care, .int t.val, .int t.dst]
theorem Trans.unown (t : Trans) : ∀ x ∈ t.cs, x.unown = x := fun x hx => by
  simp only [Trans.cs, List.mem_cons, List.not_mem_nil, or_false] at hx
  rcases hx with rfl | rfl | rfl | rfl <;> rfl
theorem szTransitionS_ok (l : List Trans) (n : Int) (hl : l.length ≤ maxLen) (h0 : 0 ≤ n) (h1 : n ≤ 1048576) : CallsA Try.prog 84 [lst 4 Trans.cs l, .int n] [] (.int (bud n l.length)) [] := by
  unfold maxLen at hl
  refine callsA_of tabOk Try.func84 rfl rfl 12 Try.ntmps84 (by simp) ?_
  repeat (first | refine AWP.go ok _ _ _ _ _ rfl ?_ | refine ord_mk (by kernel_rfl) ?_ | refine And.intro (by first | omega | (unfold inI; omega) | (dsimp only; omega)) ?_)
  refine vcIf_dec (fun h => ?_) (fun h => ?_)
  · repeat (first | refine AWP.go ok _ _ _ _ _ rfl ?_ | refine ord_mk (by kernel_rfl) ?_ | refine And.intro (by first | omega | (unfold inI; omega) | (dsimp only; omega)) ?_)
    have : bud n l.length = -1 := by unfold bud; rw [if_pos h]
    rw [this]
    exact ⟨[], by decide, rfl, rfl, ACle.of_eq rfl, trivial⟩
  · repeat (first | refine AWP.go ok _ _ _ _ _ rfl ?_ | refine ord_mk (by kernel_rfl) ?_ | refine And.intro (by first | omega | (unfold inI; omega) | (dsimp only; omega)) ?_)
    have : bud n l.length = n - l.length := by unfold bud; rw [if_neg h]
    rw [this]
    exact ⟨[], by decide, rfl, rfl, ACle.of_eq rfl, trivial⟩
theorem toTransition_ok (t : Trans) : CallsA Try.prog 135 [argAgg Trans.cs t] [] (argAgg Trans.cs t) [] := by
  refine callsA_of tabOk Try.func135 rfl rfl 17 Try.ntmps135 (by simp) ?_
  repeat (first | refine AWP.go ok _ _ _ _ _ rfl ?_ | refine ord_mk (by kernel_rfl) ?_ | refine And.intro (by first | omega | (unfold inI; omega) | (dsimp only; omega)) ?_)
  exact ⟨[], by decide, rfl, rfl, ACle.of_eq rfl, trivial⟩
theorem toTransitionS_of (l : List Trans) (hl : l.length ≤ 1048576) (hel : ∀ s ∈ l, CallsA Try.prog 135 [argAgg Trans.cs s] [] (argAgg Trans.cs s) []) : CallsA Try.prog 89 [lst 4 Trans.cs l] [] (lst 4 Trans.cs l) [] := by
  refine callsA_of tabOk Try.func89 rfl rfl 23 Try.ntmps89 (by simp) ?_
  repeat (first | refine AWP.go ok _ _ _ _ _ rfl ?_ | refine ord_mk (by kernel_rfl) ?_ | refine And.intro (by first | omega | (unfold inI; omega) | (dsimp only; omega)) ?_)
  refine awp_loop (fun k : Nat => ([(0, lst 4 Trans.cs l), (3, .sref 0 0 l.length), (4, .int k)], [.cells 4 ((l.take k).map Trans.cs ++ List.replicate (l.length - k) [.int 0, .int 0, .int 0, .int 0])])) (fun k => k ≤ l.length) (fun k => l.length - k) 0 (by omega)
    ⟨[0], rfl, by decide, rfl, ⟨⟨rfl, rfl⟩, ⟨rfl, rfl⟩, ⟨rfl, rfl⟩, trivial⟩, ⟨obj_flat (by rfl) (flat_append (flat_map fun _ => rfl) (flat_replicate rfl)), trivial⟩⟩ ?_
  · intro k hk
    repeat (first | refine AWP.go ok _ _ _ _ _ rfl ?_ | refine ord_mk (by kernel_rfl) ?_ | refine And.intro (by first | omega | (unfold inI; omega) | (dsimp only; omega)) ?_)
    refine vcIf_dec (fun h => ?_) (fun h => ?_)
    · repeat (first | refine AWP.go ok _ _ _ _ _ rfl ?_ | refine ord_mk (by kernel_rfl) ?_ | refine And.intro (by first | omega | (unfold inI; omega) | (dsimp only; omega)) ?_)
      refine ⟨_, map_get _ _ _ (by omega), ?_⟩
      repeat (first | refine AWP.go ok _ _ _ _ _ rfl ?_ | refine ord_mk (by kernel_rfl) ?_ | refine And.intro (by first | omega | (unfold inI; omega) | (dsimp only; omega)) ?_)
      refine call_data (hel l[k] (List.getElem_mem _)) ?_ ?_ ?_
      · rfl
      · rfl
      repeat (first | refine AWP.go ok _ _ _ _ _ rfl ?_ | refine ord_mk (by kernel_rfl) ?_ | refine And.intro (by first | omega | (unfold inI; omega) | (dsimp only; omega)) ?_)
      refine ⟨[.int 0, .int 0, .int 0, .int 0], fill_get _ _ _ _ (by omega), ?_⟩
      repeat (first | refine AWP.go ok _ _ _ _ _ rfl ?_ | refine ord_mk (by kernel_rfl) ?_ | refine And.intro (by first | omega | (unfold inI; omega) | (dsimp only; omega)) ?_)
      exact ⟨k + 1, [0], by omega, by omega, rfl, by decide, rfl, ⟨⟨rfl, rfl⟩, ⟨rfl, rfl⟩, ⟨rfl, rfl⟩, trivial⟩, ⟨obj_flat (cells_congr (fill_set _ _ _ _ (by omega))) (flat_append (flat_map fun _ => rfl) (flat_replicate rfl)), trivial⟩⟩
    · refine AWP.go ok _ _ _ _ _ rfl ?_
      obtain rfl : k = l.length := by omega
      refine AWP.reach (SealL.reach (π := []) (Bn := [0]) (env := [(3, lst 4 Trans.cs l)]) (objs := []) ⟨rfl, rfl, by simp, rfl, by simp, ⟨?_, trivial⟩, rfl⟩) ?_
      · exact bor_seal rfl rfl rfl (by simp) (unownLL_map Trans.unown l) (by simp)
      repeat (first | refine AWP.go ok _ _ _ _ _ rfl ?_ | refine ord_mk (by kernel_rfl) ?_ | refine And.intro (by first | omega | (unfold inI; omega) | (dsimp only; omega)) ?_)
      exact ⟨[], by decide, rfl, rfl, ACle.of_eq rfl, trivial⟩
theorem eqTransition_ok (s t : Trans) : CallsA Try.prog 140 [argAgg Trans.cs s, argAgg Trans.cs t] [] (.bool (decide (s = t))) [] := by
  refine callsA_of tabOk Try.func140 rfl rfl 25 Try.ntmps140 (by simp) ?_
  repeat (first | refine AWP.go ok _ _ _ _ _ rfl ?_ | refine ord_mk (by kernel_rfl) ?_ | refine And.intro (by first | omega | (unfold inI; omega) | (dsimp only; omega)) ?_)
  refine vcIf_ndec (fun h => ?_) (fun h1 => ?_)
  · repeat (first | refine AWP.go ok _ _ _ _ _ rfl ?_ | refine ord_mk (by kernel_rfl) ?_ | refine And.intro (by first | omega | (unfold inI; omega) | (dsimp only; omega)) ?_)
    have hne : s ≠ t := by rintro rfl; exact h rfl
    rw [decide_eq_false hne]
    exact ⟨[], by decide, rfl, rfl, ACle.of_eq rfl, trivial⟩
  repeat (first | refine AWP.go ok _ _ _ _ _ rfl ?_ | refine ord_mk (by kernel_rfl) ?_ | refine And.intro (by first | omega | (unfold inI; omega) | (dsimp only; omega)) ?_)
  refine vcIf_ndec (fun h => ?_) (fun h2 => ?_)
  · repeat (first | refine AWP.go ok _ _ _ _ _ rfl ?_ | refine ord_mk (by kernel_rfl) ?_ | refine And.intro (by first | omega | (unfold inI; omega) | (dsimp only; omega)) ?_)
    have hne : s ≠ t := by rintro rfl; exact h rfl
    rw [decide_eq_false hne]
    exact ⟨[], by decide, rfl, rfl, ACle.of_eq rfl, trivial⟩
  repeat (first | refine AWP.go ok _ _ _ _ _ rfl ?_ | refine ord_mk (by kernel_rfl) ?_ | refine And.intro (by first | omega | (unfold inI; omega) | (dsimp only; omega)) ?_)
  refine vcIf_ndec (fun h => ?_) (fun h3 => ?_)
  · repeat (first | refine AWP.go ok _ _ _ _ _ rfl ?_ | refine ord_mk (by kernel_rfl) ?_ | refine And.intro (by first | omega | (unfold inI; omega) | (dsimp only; omega)) ?_)
    have hne : s ≠ t := by rintro rfl; exact h rfl
    rw [decide_eq_false hne]
    exact ⟨[], by decide, rfl, rfl, ACle.of_eq rfl, trivial⟩
  repeat (first | refine AWP.go ok _ _ _ _ _ rfl ?_ | refine ord_mk (by kernel_rfl) ?_ | refine And.intro (by first | omega | (unfold inI; omega) | (dsimp only; omega)) ?_)
  refine vcIf_ndec (fun h => ?_) (fun h4 => ?_)
  · repeat (first | refine AWP.go ok _ _ _ _ _ rfl ?_ | refine ord_mk (by kernel_rfl) ?_ | refine And.intro (by first | omega | (unfold inI; omega) | (dsimp only; omega)) ?_)
    have hne : s ≠ t := by rintro rfl; exact h rfl
    rw [decide_eq_false hne]
    exact ⟨[], by decide, rfl, rfl, ACle.of_eq rfl, trivial⟩
  repeat (first | refine AWP.go ok _ _ _ _ _ rfl ?_ | refine ord_mk (by kernel_rfl) ?_ | refine And.intro (by first | omega | (unfold inI; omega) | (dsimp only; omega)) ?_)
  have he : s = t := by cases s; cases t; simp_all
  rw [decide_eq_true he]
  exact ⟨[], by decide, rfl, rfl, ACle.of_eq rfl, trivial⟩
theorem eqTransitionS_of (a b : List Trans) (ha : a.length ≤ maxLen) (hb : b.length ≤ maxLen) (hel : ∀ s ∈ a, ∀ t ∈ b, CallsA Try.prog 140 [argAgg Trans.cs s, argAgg Trans.cs t] [] (.bool (decide (s = t))) []) : CallsA Try.prog 96 [lst 4 Trans.cs a, lst 4 Trans.cs b] [] (.bool (decide (a = b))) [] := by
  unfold maxLen at ha hb
  refine callsA_of tabOk Try.func96 rfl rfl 27 Try.ntmps96 (by simp) ?_
  repeat (first | refine AWP.go ok _ _ _ _ _ rfl ?_ | refine ord_mk (by kernel_rfl) ?_ | refine And.intro (by first | omega | (unfold inI; omega) | (dsimp only; omega)) ?_)
  refine vcIf_ndec (fun h => ?_) (fun h => ?_)
  · repeat (first | refine AWP.go ok _ _ _ _ _ rfl ?_ | refine ord_mk (by kernel_rfl) ?_ | refine And.intro (by first | omega | (unfold inI; omega) | (dsimp only; omega)) ?_)
    have hne : a ≠ b := by rintro rfl; exact h rfl
    rw [decide_eq_false hne]
    exact ⟨[], by decide, rfl, rfl, ACle.of_eq rfl, trivial⟩
  · have hl : a.length = b.length := by omega
    repeat (first | refine AWP.go ok _ _ _ _ _ rfl ?_ | refine ord_mk (by kernel_rfl) ?_ | refine And.intro (by first | omega | (unfold inI; omega) | (dsimp only; omega)) ?_)
    refine awp_loop (fun k : Nat => ([(0, lst 4 Trans.cs a), (1, lst 4 Trans.cs b), (5, .int k)], [])) (fun k => k ≤ a.length ∧ a.take k = b.take k) (fun k => a.length - k) 0 (by simp)
      ⟨[], rfl, by decide, rfl, ⟨⟨rfl, rfl⟩, ⟨rfl, rfl⟩, ⟨rfl, rfl⟩, trivial⟩, trivial⟩ ?_
    intro k hk
    repeat (first | refine AWP.go ok _ _ _ _ _ rfl ?_ | refine ord_mk (by kernel_rfl) ?_ | refine And.intro (by first | omega | (unfold inI; omega) | (dsimp only; omega)) ?_)
    refine vcIf_dec (fun h => ?_) (fun h => ?_)
    · have hka : k < a.length := by omega
      repeat (first | refine AWP.go ok _ _ _ _ _ rfl ?_ | refine ord_mk (by kernel_rfl) ?_ | refine And.intro (by first | omega | (unfold inI; omega) | (dsimp only; omega)) ?_)
      refine ⟨_, map_get _ _ _ (by omega), ?_⟩
      repeat (first | refine AWP.go ok _ _ _ _ _ rfl ?_ | refine ord_mk (by kernel_rfl) ?_ | refine And.intro (by first | omega | (unfold inI; omega) | (dsimp only; omega)) ?_)
      refine ⟨_, map_get _ _ _ (by omega), ?_⟩
      repeat (first | refine AWP.go ok _ _ _ _ _ rfl ?_ | refine ord_mk (by kernel_rfl) ?_ | refine And.intro (by first | omega | (unfold inI; omega) | (dsimp only; omega)) ?_)
      refine call_data (hel a[k] (List.getElem_mem _) b[k] (List.getElem_mem _)) ?_ ?_ ?_
      · rfl
      · rfl
      repeat (first | refine AWP.go ok _ _ _ _ _ rfl ?_ | refine ord_mk (by kernel_rfl) ?_ | refine And.intro (by first | omega | (unfold inI; omega) | (dsimp only; omega)) ?_)
      refine vcIf_ndec (fun h => ?_) (fun h => ?_)
      · repeat (first | refine AWP.go ok _ _ _ _ _ rfl ?_ | refine ord_mk (by kernel_rfl) ?_ | refine And.intro (by first | omega | (unfold inI; omega) | (dsimp only; omega)) ?_)
        have hne : a ≠ b := by rintro rfl; exact h rfl
        rw [decide_eq_false hne]
        exact ⟨[], by decide, rfl, rfl, ACle.of_eq rfl, trivial⟩
      · repeat (first | refine AWP.go ok _ _ _ _ _ rfl ?_ | refine ord_mk (by kernel_rfl) ?_ | refine And.intro (by first | omega | (unfold inI; omega) | (dsimp only; omega)) ?_)
        refine ⟨k + 1, [], ⟨by omega, ?_⟩, by omega, rfl, by decide, rfl, ⟨⟨rfl, rfl⟩, ⟨rfl, rfl⟩, ⟨rfl, rfl⟩, trivial⟩, trivial⟩
        have h' : a[k] = b[k] := h
        rw [List.take_succ_eq_append_getElem hka, List.take_succ_eq_append_getElem (by omega), hk.2, h']
    · repeat (first | refine AWP.go ok _ _ _ _ _ rfl ?_ | refine ord_mk (by kernel_rfl) ?_ | refine And.intro (by first | omega | (unfold inI; omega) | (dsimp only; omega)) ?_)
      have he : a = b := by
        have := hk.2
        rwa [List.take_of_length_le (by omega), List.take_of_length_le (by omega)] at this
      rw [decide_eq_true he]
      exact ⟨[], by decide, rfl, rfl, ACle.of_eq rfl, trivial⟩

structure Aut where
  ini : List Int
  acc : List Bool
  ed : List Trans
  deriving DecidableEq
def Aut.a1 (a : Aut) : AC := lst 1 enI a.ini
def Aut.a2 (a : Aut) : AC := lst 1 enB a.acc
def Aut.a3 (a : Aut) : AC := lst 4 Trans.cs a.ed
def Aut.cs (a : Aut) : List AC := [lst 1 enI a.ini, lst 1 enB a.acc, lst 4 Trans.cs a.ed]
def Aut.s1 (a : Aut) : Nat := a.ini.length
def Aut.s2 (a : Aut) : Nat := a.acc.length
def Aut.s3 (a : Aut) : Nat := a.ed.length
theorem szAutomaton_of (s : Aut) (n : Int) (c0 : ∀ n : Int, 0 ≤ n → n ≤ 1048576 → CallsA Try.prog 74 [Aut.a1 s, .int n] [] (.int (bud n (Aut.s1 s))) []) (c1 : ∀ n : Int, 0 ≤ n → n ≤ 1048576 → CallsA Try.prog 83 [Aut.a2 s, .int n] [] (.int (bud n (Aut.s2 s))) []) (c2 : ∀ n : Int, 0 ≤ n → n ≤ 1048576 → CallsA Try.prog 84 [Aut.a3 s, .int n] [] (.int (bud n (Aut.s3 s))) []) (h0 : 0 ≤ n) (h1 : n ≤ 1048576) : CallsA Try.prog 38 [.agg (Aut.cs s), .int n] [] (.int (bud n (Aut.s1 s + Aut.s2 s + Aut.s3 s))) [] := by
  refine callsA_of tabOk Try.func38 rfl rfl 24 Try.ntmps38 (by simp) ?_
  repeat (first | refine AWP.go ok _ _ _ _ _ rfl ?_ | refine ord_mk (by kernel_rfl) ?_ | refine And.intro (by first | omega | (unfold inI; omega) | (dsimp only; omega)) ?_)
  refine call_data (c0 (n) (by omega) (by omega)) ?_ ?_ ?_
  · rfl
  · rfl
  repeat (first | refine AWP.go ok _ _ _ _ _ rfl ?_ | refine ord_mk (by kernel_rfl) ?_ | refine And.intro (by first | omega | (unfold inI; omega) | (dsimp only; omega)) ?_)
  refine vcIf_dec (fun g0 => ?_) (fun g0 => ?_)
  · repeat (first | refine AWP.go ok _ _ _ _ _ rfl ?_ | refine ord_mk (by kernel_rfl) ?_ | refine And.intro (by first | omega | (unfold inI; omega) | (dsimp only; omega)) ?_)
    have e : bud n (Aut.s1 s + Aut.s2 s + Aut.s3 s) = -1 := by unfold bud at g0 ⊢; split at g0 <;> rw [if_pos (by omega)] <;> omega
    rw [e]
    exact ⟨[], by decide, rfl, rfl, ACle.of_eq rfl, trivial⟩
  have e0 : bud (n) (Aut.s1 s) = n - (Aut.s1 s : Int) := by unfold bud at g0 ⊢; split at g0 <;> rename_i hh <;> (first | rw [if_pos hh] | rw [if_neg hh]) <;> omega
  rw [e0] at g0 ⊢
  repeat (first | refine AWP.go ok _ _ _ _ _ rfl ?_ | refine ord_mk (by kernel_rfl) ?_ | refine And.intro (by first | omega | (unfold inI; omega) | (dsimp only; omega)) ?_)
  refine call_data (c1 (n - (Aut.s1 s : Int)) (by omega) (by omega)) ?_ ?_ ?_
  · rfl
  · rfl
  repeat (first | refine AWP.go ok _ _ _ _ _ rfl ?_ | refine ord_mk (by kernel_rfl) ?_ | refine And.intro (by first | omega | (unfold inI; omega) | (dsimp only; omega)) ?_)
  refine vcIf_dec (fun g1 => ?_) (fun g1 => ?_)
  · repeat (first | refine AWP.go ok _ _ _ _ _ rfl ?_ | refine ord_mk (by kernel_rfl) ?_ | refine And.intro (by first | omega | (unfold inI; omega) | (dsimp only; omega)) ?_)
    have e : bud n (Aut.s1 s + Aut.s2 s + Aut.s3 s) = -1 := by unfold bud at g1 ⊢; split at g1 <;> rw [if_pos (by omega)] <;> omega
    rw [e]
    exact ⟨[], by decide, rfl, rfl, ACle.of_eq rfl, trivial⟩
  have e1 : bud (n - (Aut.s1 s : Int)) (Aut.s2 s) = n - (Aut.s1 s : Int) - (Aut.s2 s : Int) := by unfold bud at g1 ⊢; split at g1 <;> rename_i hh <;> (first | rw [if_pos hh] | rw [if_neg hh]) <;> omega
  rw [e1] at g1 ⊢
  repeat (first | refine AWP.go ok _ _ _ _ _ rfl ?_ | refine ord_mk (by kernel_rfl) ?_ | refine And.intro (by first | omega | (unfold inI; omega) | (dsimp only; omega)) ?_)
  refine call_data (c2 (n - (Aut.s1 s : Int) - (Aut.s2 s : Int)) (by omega) (by omega)) ?_ ?_ ?_
  · rfl
  · rfl
  repeat (first | refine AWP.go ok _ _ _ _ _ rfl ?_ | refine ord_mk (by kernel_rfl) ?_ | refine And.intro (by first | omega | (unfold inI; omega) | (dsimp only; omega)) ?_)
  refine vcIf_dec (fun g2 => ?_) (fun g2 => ?_)
  · repeat (first | refine AWP.go ok _ _ _ _ _ rfl ?_ | refine ord_mk (by kernel_rfl) ?_ | refine And.intro (by first | omega | (unfold inI; omega) | (dsimp only; omega)) ?_)
    have e : bud n (Aut.s1 s + Aut.s2 s + Aut.s3 s) = -1 := by unfold bud at g2 ⊢; split at g2 <;> rw [if_pos (by omega)] <;> omega
    rw [e]
    exact ⟨[], by decide, rfl, rfl, ACle.of_eq rfl, trivial⟩
  have e2 : bud (n - (Aut.s1 s : Int) - (Aut.s2 s : Int)) (Aut.s3 s) = n - (Aut.s1 s : Int) - (Aut.s2 s : Int) - (Aut.s3 s : Int) := by unfold bud at g2 ⊢; split at g2 <;> rename_i hh <;> (first | rw [if_pos hh] | rw [if_neg hh]) <;> omega
  rw [e2] at g2 ⊢
  repeat (first | refine AWP.go ok _ _ _ _ _ rfl ?_ | refine ord_mk (by kernel_rfl) ?_ | refine And.intro (by first | omega | (unfold inI; omega) | (dsimp only; omega)) ?_)
  have e : bud n (Aut.s1 s + Aut.s2 s + Aut.s3 s) = n - (Aut.s1 s : Int) - (Aut.s2 s : Int) - (Aut.s3 s : Int) := by unfold bud; rw [if_neg (by omega)] <;> omega
  try rw [e]
  exact ⟨[], by decide, rfl, rfl, ACle.of_eq rfl, trivial⟩
theorem toAutomaton_of (s : Aut) (c0 : CallsA Try.prog 78 [Aut.a1 s] [] (Aut.a1 s) []) (c1 : CallsA Try.prog 88 [Aut.a2 s] [] (Aut.a2 s) []) (c2 : CallsA Try.prog 89 [Aut.a3 s] [] (Aut.a3 s) []) : CallsA Try.prog 41 [.agg (Aut.cs s)] [] (.agg (Aut.cs s)) [] := by
  refine callsA_of tabOk Try.func41 rfl rfl 17 Try.ntmps41 (by simp) ?_
  repeat (first | refine AWP.go ok _ _ _ _ _ rfl ?_ | refine ord_mk (by kernel_rfl) ?_ | refine And.intro (by first | omega | (unfold inI; omega) | (dsimp only; omega)) ?_)
  refine call_data c0 ?_ ?_ ?_
  · rfl
  · rfl
  repeat (first | refine AWP.go ok _ _ _ _ _ rfl ?_ | refine ord_mk (by kernel_rfl) ?_ | refine And.intro (by first | omega | (unfold inI; omega) | (dsimp only; omega)) ?_)
  refine call_data c1 ?_ ?_ ?_
  · rfl
  · rfl
  repeat (first | refine AWP.go ok _ _ _ _ _ rfl ?_ | refine ord_mk (by kernel_rfl) ?_ | refine And.intro (by first | omega | (unfold inI; omega) | (dsimp only; omega)) ?_)
  refine call_data c2 ?_ ?_ ?_
  · rfl
  · rfl
  repeat (first | refine AWP.go ok _ _ _ _ _ rfl ?_ | refine ord_mk (by kernel_rfl) ?_ | refine And.intro (by first | omega | (unfold inI; omega) | (dsimp only; omega)) ?_)
  exact ⟨[], by decide, rfl, rfl, ACle.of_eq rfl, trivial⟩
theorem eqAutomaton_of (s t : Aut) (c0 : CallsA Try.prog 15 [Aut.a1 s, Aut.a1 t] [] (.bool (decide (Aut.ini s = Aut.ini t))) []) (c1 : CallsA Try.prog 95 [Aut.a2 s, Aut.a2 t] [] (.bool (decide (Aut.acc s = Aut.acc t))) []) (c2 : CallsA Try.prog 96 [Aut.a3 s, Aut.a3 t] [] (.bool (decide (Aut.ed s = Aut.ed t))) []) : CallsA Try.prog 44 [.agg (Aut.cs s), .agg (Aut.cs t)] [] (.bool (decide (s = t))) [] := by
  refine callsA_of tabOk Try.func44 rfl rfl 23 Try.ntmps44 (by simp) ?_
  repeat (first | refine AWP.go ok _ _ _ _ _ rfl ?_ | refine ord_mk (by kernel_rfl) ?_ | refine And.intro (by first | omega | (unfold inI; omega) | (dsimp only; omega)) ?_)
  refine call_data c0 ?_ ?_ ?_
  · rfl
  · rfl
  repeat (first | refine AWP.go ok _ _ _ _ _ rfl ?_ | refine ord_mk (by kernel_rfl) ?_ | refine And.intro (by first | omega | (unfold inI; omega) | (dsimp only; omega)) ?_)
  refine vcIf_ndec (fun h => ?_) (fun g0 => ?_)
  · repeat (first | refine AWP.go ok _ _ _ _ _ rfl ?_ | refine ord_mk (by kernel_rfl) ?_ | refine And.intro (by first | omega | (unfold inI; omega) | (dsimp only; omega)) ?_)
    have hne : s ≠ t := by rintro rfl; exact h rfl
    rw [decide_eq_false hne]
    exact ⟨[], by decide, rfl, rfl, ACle.of_eq rfl, trivial⟩
  repeat (first | refine AWP.go ok _ _ _ _ _ rfl ?_ | refine ord_mk (by kernel_rfl) ?_ | refine And.intro (by first | omega | (unfold inI; omega) | (dsimp only; omega)) ?_)
  refine call_data c1 ?_ ?_ ?_
  · rfl
  · rfl
  repeat (first | refine AWP.go ok _ _ _ _ _ rfl ?_ | refine ord_mk (by kernel_rfl) ?_ | refine And.intro (by first | omega | (unfold inI; omega) | (dsimp only; omega)) ?_)
  refine vcIf_ndec (fun h => ?_) (fun g1 => ?_)
  · repeat (first | refine AWP.go ok _ _ _ _ _ rfl ?_ | refine ord_mk (by kernel_rfl) ?_ | refine And.intro (by first | omega | (unfold inI; omega) | (dsimp only; omega)) ?_)
    have hne : s ≠ t := by rintro rfl; exact h rfl
    rw [decide_eq_false hne]
    exact ⟨[], by decide, rfl, rfl, ACle.of_eq rfl, trivial⟩
  repeat (first | refine AWP.go ok _ _ _ _ _ rfl ?_ | refine ord_mk (by kernel_rfl) ?_ | refine And.intro (by first | omega | (unfold inI; omega) | (dsimp only; omega)) ?_)
  refine call_data c2 ?_ ?_ ?_
  · rfl
  · rfl
  repeat (first | refine AWP.go ok _ _ _ _ _ rfl ?_ | refine ord_mk (by kernel_rfl) ?_ | refine And.intro (by first | omega | (unfold inI; omega) | (dsimp only; omega)) ?_)
  refine vcIf_ndec (fun h => ?_) (fun g2 => ?_)
  · repeat (first | refine AWP.go ok _ _ _ _ _ rfl ?_ | refine ord_mk (by kernel_rfl) ?_ | refine And.intro (by first | omega | (unfold inI; omega) | (dsimp only; omega)) ?_)
    have hne : s ≠ t := by rintro rfl; exact h rfl
    rw [decide_eq_false hne]
    exact ⟨[], by decide, rfl, rfl, ACle.of_eq rfl, trivial⟩
  repeat (first | refine AWP.go ok _ _ _ _ _ rfl ?_ | refine ord_mk (by kernel_rfl) ?_ | refine And.intro (by first | omega | (unfold inI; omega) | (dsimp only; omega)) ?_)
  have he : s = t := by cases s; cases t; simp_all
  rw [decide_eq_true he]
  exact ⟨[], by decide, rfl, rfl, ACle.of_eq rfl, trivial⟩

structure Cert where
  ranks : List Int
  deriving DecidableEq
def Cert.a1 (a : Cert) : AC := lst 1 enI a.ranks
def Cert.cs (a : Cert) : List AC := [lst 1 enI a.ranks]
def Cert.s1 (a : Cert) : Nat := a.ranks.length
theorem szCertificate_of (s : Cert) (n : Int) (c0 : ∀ n : Int, 0 ≤ n → n ≤ 1048576 → CallsA Try.prog 74 [Cert.a1 s, .int n] [] (.int (bud n (Cert.s1 s))) []) (h0 : 0 ≤ n) (h1 : n ≤ 1048576) : CallsA Try.prog 39 [.agg (Cert.cs s), .int n] [] (.int (bud n (Cert.s1 s))) [] := by
  refine callsA_of tabOk Try.func39 rfl rfl 12 Try.ntmps39 (by simp) ?_
  repeat (first | refine AWP.go ok _ _ _ _ _ rfl ?_ | refine ord_mk (by kernel_rfl) ?_ | refine And.intro (by first | omega | (unfold inI; omega) | (dsimp only; omega)) ?_)
  refine call_data (c0 (n) (by omega) (by omega)) ?_ ?_ ?_
  · rfl
  · rfl
  repeat (first | refine AWP.go ok _ _ _ _ _ rfl ?_ | refine ord_mk (by kernel_rfl) ?_ | refine And.intro (by first | omega | (unfold inI; omega) | (dsimp only; omega)) ?_)
  refine vcIf_dec (fun g0 => ?_) (fun g0 => ?_)
  · repeat (first | refine AWP.go ok _ _ _ _ _ rfl ?_ | refine ord_mk (by kernel_rfl) ?_ | refine And.intro (by first | omega | (unfold inI; omega) | (dsimp only; omega)) ?_)
    have e : bud n (Cert.s1 s) = -1 := by unfold bud at g0 ⊢; split at g0 <;> rw [if_pos (by omega)] <;> omega
    rw [e]
    exact ⟨[], by decide, rfl, rfl, ACle.of_eq rfl, trivial⟩
  have e0 : bud (n) (Cert.s1 s) = n - (Cert.s1 s : Int) := by unfold bud at g0 ⊢; split at g0 <;> rename_i hh <;> (first | rw [if_pos hh] | rw [if_neg hh]) <;> omega
  rw [e0] at g0 ⊢
  repeat (first | refine AWP.go ok _ _ _ _ _ rfl ?_ | refine ord_mk (by kernel_rfl) ?_ | refine And.intro (by first | omega | (unfold inI; omega) | (dsimp only; omega)) ?_)
  have e : bud n (Cert.s1 s) = n - (Cert.s1 s : Int) := by unfold bud; rw [if_neg (by omega)] <;> omega
  try rw [e]
  exact ⟨[], by decide, rfl, rfl, ACle.of_eq rfl, trivial⟩
theorem toCertificate_of (s : Cert) (c0 : CallsA Try.prog 78 [Cert.a1 s] [] (Cert.a1 s) []) : CallsA Try.prog 42 [.agg (Cert.cs s)] [] (.agg (Cert.cs s)) [] := by
  refine callsA_of tabOk Try.func42 rfl rfl 9 Try.ntmps42 (by simp) ?_
  repeat (first | refine AWP.go ok _ _ _ _ _ rfl ?_ | refine ord_mk (by kernel_rfl) ?_ | refine And.intro (by first | omega | (unfold inI; omega) | (dsimp only; omega)) ?_)
  refine call_data c0 ?_ ?_ ?_
  · rfl
  · rfl
  repeat (first | refine AWP.go ok _ _ _ _ _ rfl ?_ | refine ord_mk (by kernel_rfl) ?_ | refine And.intro (by first | omega | (unfold inI; omega) | (dsimp only; omega)) ?_)
  exact ⟨[], by decide, rfl, rfl, ACle.of_eq rfl, trivial⟩
theorem eqCertificate_of (s t : Cert) (c0 : CallsA Try.prog 15 [Cert.a1 s, Cert.a1 t] [] (.bool (decide (Cert.ranks s = Cert.ranks t))) []) : CallsA Try.prog 45 [.agg (Cert.cs s), .agg (Cert.cs t)] [] (.bool (decide (s = t))) [] := by
  refine callsA_of tabOk Try.func45 rfl rfl 11 Try.ntmps45 (by simp) ?_
  repeat (first | refine AWP.go ok _ _ _ _ _ rfl ?_ | refine ord_mk (by kernel_rfl) ?_ | refine And.intro (by first | omega | (unfold inI; omega) | (dsimp only; omega)) ?_)
  refine call_data c0 ?_ ?_ ?_
  · rfl
  · rfl
  repeat (first | refine AWP.go ok _ _ _ _ _ rfl ?_ | refine ord_mk (by kernel_rfl) ?_ | refine And.intro (by first | omega | (unfold inI; omega) | (dsimp only; omega)) ?_)
  refine vcIf_ndec (fun h => ?_) (fun g0 => ?_)
  · repeat (first | refine AWP.go ok _ _ _ _ _ rfl ?_ | refine ord_mk (by kernel_rfl) ?_ | refine And.intro (by first | omega | (unfold inI; omega) | (dsimp only; omega)) ?_)
    have hne : s ≠ t := by rintro rfl; exact h rfl
    rw [decide_eq_false hne]
    exact ⟨[], by decide, rfl, rfl, ACle.of_eq rfl, trivial⟩
  repeat (first | refine AWP.go ok _ _ _ _ _ rfl ?_ | refine ord_mk (by kernel_rfl) ?_ | refine And.intro (by first | omega | (unfold inI; omega) | (dsimp only; omega)) ?_)
  have he : s = t := by cases s; cases t; simp_all
  rw [decide_eq_true he]
  exact ⟨[], by decide, rfl, rfl, ACle.of_eq rfl, trivial⟩
end Go.Proofs.Ytcannajfdnipkaa

namespace Go.Proofs.Ytcannajfdnipkaa
open Go.Gl
attribute [local irreducible] vcCall AWP RetOk Again ordOk

def btw (n lo hi : Int) : Bool := decide (lo ≤ n) && decide (n ≤ hi)
theorem btw_iff {n lo hi : Int} : btw n lo hi = true ↔ lo ≤ n ∧ n ≤ hi := by simp [btw]
theorem btw_no {n lo hi : Int} : btw n lo hi = false ↔ ¬(lo ≤ n ∧ n ≤ hi) := by rw [← btw_iff]; simp

theorem in_ok (n lo hi : Int) : CallsA Try.prog 93 [.int n, .int lo, .int hi] [] (.bool (btw n lo hi)) [] := by
  refine callsA_of tabOk Try.func93 rfl rfl 15 Try.ntmps93 (by simp) ?_
  repeat' (first | (apply AWP.go ok; rfl; conv => whnf) | (apply ord_mk; kernel_rfl; conv => whnf) | (apply And.intro; (first | omega | (unfold inI; omega) | (dsimp only; omega) | (unfold bitsOk; omega) | ((try dsimp only); simp only [List.length_map, List.length_take, List.length_append, List.length_replicate, List.length_cons, List.length_nil]; omega) | (simp only [btw_iff] at *; first | omega | (unfold inI; omega) | (unfold bitsOk; omega)) | exact stor_map (fun _ => rfl) | exact ⟨rfl, stor_cons rfl stor_nil⟩ | exact ⟨rfl, stor_map (fun _ => rfl) _⟩ | exact ⟨⟨rfl, by omega⟩, stor_map (fun _ => rfl) _⟩); conv => whnf) | (with_reducible apply get_mapN; omega; intro _; conv => whnf) | (with_reducible apply get_mapI; omega; intro _; conv => whnf) | (apply get_mapN; omega; intro _; conv => whnf) | (apply get_fill; omega; conv => whnf) | (apply ex_some; conv => whnf) | (apply get_map; omega; intro _; conv => whnf) | (apply vcG_dec <;> intro _ <;> conv => whnf) | (apply vcG_ndec <;> intro _ <;> conv => whnf) | (apply vcG_not <;> intro _ <;> conv => whnf) | (apply vcG_mk <;> intro _ <;> conv => whnf) | (apply vcIf_dec <;> intro _ <;> conv => whnf) | (apply vcIf_ndec <;> intro _ <;> conv => whnf) | (apply vcIf_not <;> intro _ <;> conv => whnf) | (apply vcIf_mk <;> intro _ <;> conv => whnf))
  all_goals (refine ret_bool rfl ?_; first | rfl | (unfold btw; simp [*]; done) | (unfold btw; simp_all; done) | (unfold btw; simp_all; omega))
end Go.Proofs.Ytcannajfdnipkaa

namespace Go.Proofs.Ytcannajfdnipkaa
open Go.Gl
attribute [local irreducible] vcCall AWP RetOk Again ordOk

def idxF {α : Type} (p : α → Bool) (l : List α) : Int := match l.findIdx? p with
  | some i => i
  | none => -1

theorem idxF_some {α : Type} {p : α → Bool} {l : List α} {i : Nat} (hi : i < l.length) (h : p l[i] = true) (hn : ∀ j (hj : j < l.length), j < i → p l[j] = false) : idxF p l = i := by
  have : l.findIdx? p = some i := List.findIdx?_eq_some_iff_getElem.2 ⟨hi, h, fun j hj => by simp [hn j (by omega) hj]⟩
  simp [idxF, this]
theorem idxF_none {α : Type} {p : α → Bool} {l : List α} (hn : ∀ j (hj : j < l.length), p l[j] = false) : idxF p l = -1 := by
  have : l.findIdx? p = none := List.findIdx?_eq_none_iff.2 fun x hx => by
    obtain ⟨i, hi, rfl⟩ := List.mem_iff_getElem.1 hx
    exact hn i hi
  simp [idxF, this]

theorem idxF_any {α : Type} (p : α → Bool) (l : List α) : decide (0 ≤ idxF p l) = l.any p := by
  unfold idxF
  split
  · rename_i i e
    obtain ⟨h, hp, _⟩ := List.findIdx?_eq_some_iff_getElem.1 e
    have : l.any p = true := List.any_eq_true.2 ⟨_, List.getElem_mem h, hp⟩
    rw [this]
    simp
  · rename_i e
    have := List.findIdx?_eq_none_iff.1 e
    have : l.any p = false := List.any_eq_false.2 fun x hx => by simp [this x hx]
    rw [this]
    simp

theorem indexFunc_int (l : List Int) (hl : l.length ≤ maxLen) (p : Int → Bool) (f : FuncId) (hf : ∀ x ∈ l, CallsA Try.prog f [.int x] [] (.bool (p x)) []) : CallsA Try.prog 137 [lst 1 enI l, .fn (.func f) [] []] [] (.int (idxF p l)) [] := by
  unfold maxLen at hl
  refine callsA_of tabOk Try.func137 rfl rfl 19 Try.ntmps137 (by simp) ?_
  repeat' (first | (apply AWP.go ok; rfl; conv => whnf) | (apply ord_mk; kernel_rfl; conv => whnf) | (apply And.intro; (first | omega | (unfold inI; omega) | (dsimp only; omega) | (unfold bitsOk; omega) | ((try dsimp only); simp only [List.length_map, List.length_take, List.length_append, List.length_replicate, List.length_cons, List.length_nil]; omega) | (simp only [btw_iff] at *; first | omega | (unfold inI; omega) | (unfold bitsOk; omega)) | exact stor_map (fun _ => rfl) | exact ⟨rfl, stor_cons rfl stor_nil⟩ | exact ⟨rfl, stor_map (fun _ => rfl) _⟩ | exact ⟨⟨rfl, by omega⟩, stor_map (fun _ => rfl) _⟩); conv => whnf) | (with_reducible apply get_mapN; omega; intro _; conv => whnf) | (with_reducible apply get_mapI; omega; intro _; conv => whnf) | (apply get_mapN; omega; intro _; conv => whnf) | (apply get_fill; omega; conv => whnf) | (apply ex_some; conv => whnf) | (apply get_map; omega; intro _; conv => whnf) | (apply vcG_dec <;> intro _ <;> conv => whnf) | (apply vcG_ndec <;> intro _ <;> conv => whnf) | (apply vcG_not <;> intro _ <;> conv => whnf) | (apply vcG_mk <;> intro _ <;> conv => whnf) | (apply vcIf_dec <;> intro _ <;> conv => whnf) | (apply vcIf_ndec <;> intro _ <;> conv => whnf) | (apply vcIf_not <;> intro _ <;> conv => whnf) | (apply vcIf_mk <;> intro _ <;> conv => whnf))
  refine loopA (fun k : Nat => ([(0, lst 1 enI l), (1, .fn (.func f) [] []), (7, .int l.length), (8, .int k)], [])) (fun k => k ≤ l.length ∧ ∀ j (hj : j < l.length), j < k → p l[j] = false) (fun k => l.length - k) 0 (by simp)
    ⟨[], rfl, by decide, rfl, ⟨⟨rfl, rfl⟩, ⟨rfl, rfl⟩, ⟨rfl, rfl⟩, ⟨rfl, rfl⟩, trivial⟩, trivial⟩ ?_
  intro k hk
  repeat' (first | (apply AWP.go ok; rfl; conv => whnf) | (apply ord_mk; kernel_rfl; conv => whnf) | (apply And.intro; (first | omega | (unfold inI; omega) | (dsimp only; omega) | (unfold bitsOk; omega) | ((try dsimp only); simp only [List.length_map, List.length_take, List.length_append, List.length_replicate, List.length_cons, List.length_nil]; omega) | (simp only [btw_iff] at *; first | omega | (unfold inI; omega) | (unfold bitsOk; omega)) | exact stor_map (fun _ => rfl) | exact ⟨rfl, stor_cons rfl stor_nil⟩ | exact ⟨rfl, stor_map (fun _ => rfl) _⟩ | exact ⟨⟨rfl, by omega⟩, stor_map (fun _ => rfl) _⟩); conv => whnf) | (with_reducible apply get_mapN; omega; intro _; conv => whnf) | (with_reducible apply get_mapI; omega; intro _; conv => whnf) | (apply get_mapN; omega; intro _; conv => whnf) | (apply get_fill; omega; conv => whnf) | (apply ex_some; conv => whnf) | (apply get_map; omega; intro _; conv => whnf) | (apply vcG_dec <;> intro _ <;> conv => whnf) | (apply vcG_ndec <;> intro _ <;> conv => whnf) | (apply vcG_not <;> intro _ <;> conv => whnf) | (apply vcG_mk <;> intro _ <;> conv => whnf) | (apply vcIf_dec <;> intro _ <;> conv => whnf) | (apply vcIf_ndec <;> intro _ <;> conv => whnf) | (apply vcIf_not <;> intro _ <;> conv => whnf) | (apply vcIf_mk <;> intro _ <;> conv => whnf) | (apply call_data (hf l[k] (List.getElem_mem _)); rfl; rfl; conv => whnf))
  · rename_i h h1
    exact ret_data rfl rfl (by rw [idxF_some (by omega) h1 hk.2]; rfl)
  · rename_i h h1
    refine again (k + 1) [] ⟨by omega, fun j hj hjk => ?_⟩ (by omega) ⟨rfl, by decide, rfl, ⟨⟨rfl, rfl⟩, ⟨rfl, rfl⟩, ⟨rfl, rfl⟩, ⟨rfl, rfl⟩, trivial⟩, trivial⟩
    rcases Nat.lt_or_ge j k with h2 | h2
    · exact hk.2 j hj h2
    · obtain rfl : j = k := by omega
      exact h1
  · exact ret_data rfl rfl (by rw [idxF_none fun j hj => hk.2 j hj (by omega)]; rfl)
theorem containsFunc_int (l : List Int) (hl : l.length ≤ maxLen) (p : Int → Bool) (f : FuncId) (hf : ∀ x ∈ l, CallsA Try.prog f [.int x] [] (.bool (p x)) []) : CallsA Try.prog 91 [lst 1 enI l, .fn (.func f) [] []] [] (.bool (l.any p)) [] := by
  refine callsA_of tabOk Try.func91 rfl rfl 9 Try.ntmps91 (by simp) ?_
  repeat' (first | (apply AWP.go ok; rfl; conv => whnf) | (apply ord_mk; kernel_rfl; conv => whnf) | (apply And.intro; (first | omega | (unfold inI; omega) | (dsimp only; omega) | (unfold bitsOk; omega) | ((try dsimp only); simp only [List.length_map, List.length_take, List.length_append, List.length_replicate, List.length_cons, List.length_nil]; omega) | (simp only [btw_iff] at *; first | omega | (unfold inI; omega) | (unfold bitsOk; omega)) | exact stor_map (fun _ => rfl) | exact ⟨rfl, stor_cons rfl stor_nil⟩ | exact ⟨rfl, stor_map (fun _ => rfl) _⟩ | exact ⟨⟨rfl, by omega⟩, stor_map (fun _ => rfl) _⟩); conv => whnf) | (with_reducible apply get_mapN; omega; intro _; conv => whnf) | (with_reducible apply get_mapI; omega; intro _; conv => whnf) | (apply get_mapN; omega; intro _; conv => whnf) | (apply get_fill; omega; conv => whnf) | (apply ex_some; conv => whnf) | (apply get_map; omega; intro _; conv => whnf) | (apply vcG_dec <;> intro _ <;> conv => whnf) | (apply vcG_ndec <;> intro _ <;> conv => whnf) | (apply vcG_not <;> intro _ <;> conv => whnf) | (apply vcG_mk <;> intro _ <;> conv => whnf) | (apply vcIf_dec <;> intro _ <;> conv => whnf) | (apply vcIf_ndec <;> intro _ <;> conv => whnf) | (apply vcIf_not <;> intro _ <;> conv => whnf) | (apply vcIf_mk <;> intro _ <;> conv => whnf) | (apply call_data (indexFunc_int l hl p f hf); rfl; rfl; conv => whnf))
  exact ret_bool rfl (by rw [← idxF_any])
end Go.Proofs.Ytcannajfdnipkaa

namespace Go.Proofs.Ytcannajfdnipkaa
open Go.Gl
attribute [local irreducible] vcCall AWP RetOk Again ordOk

theorem valsOk1_ok (n : Int) : CallsA Try.prog 127 [.int n] [] (.bool (!btw n 0 3)) [] := by
  refine callsA_of tabOk Try.func127 rfl rfl 6 Try.ntmps127 (by simp) ?_
  repeat' (first | (apply AWP.go ok; rfl; conv => whnf) | (apply ord_mk; kernel_rfl; conv => whnf) | (apply And.intro; (first | omega | (unfold inI; omega) | (dsimp only; omega) | (unfold bitsOk; omega) | ((try dsimp only); simp only [List.length_map, List.length_take, List.length_append, List.length_replicate, List.length_cons, List.length_nil]; omega) | (simp only [btw_iff] at *; first | omega | (unfold inI; omega) | (unfold bitsOk; omega)) | exact stor_map (fun _ => rfl) | exact ⟨rfl, stor_cons rfl stor_nil⟩ | exact ⟨rfl, stor_map (fun _ => rfl) _⟩ | exact ⟨⟨rfl, by omega⟩, stor_map (fun _ => rfl) _⟩); conv => whnf) | (with_reducible apply get_mapN; omega; intro _; conv => whnf) | (with_reducible apply get_mapI; omega; intro _; conv => whnf) | (apply get_mapN; omega; intro _; conv => whnf) | (apply get_fill; omega; conv => whnf) | (apply ex_some; conv => whnf) | (apply get_map; omega; intro _; conv => whnf) | (apply vcG_dec <;> intro _ <;> conv => whnf) | (apply vcG_ndec <;> intro _ <;> conv => whnf) | (apply vcG_not <;> intro _ <;> conv => whnf) | (apply vcG_mk <;> intro _ <;> conv => whnf) | (apply vcIf_dec <;> intro _ <;> conv => whnf) | (apply vcIf_ndec <;> intro _ <;> conv => whnf) | (apply vcIf_not <;> intro _ <;> conv => whnf) | (apply vcIf_mk <;> intro _ <;> conv => whnf) | (apply call_data (in_ok n 0 3); rfl; rfl; conv => whnf))
  exact ret_bool rfl rfl

/-- a state's values are three, each from 0 to 3 -/
def valsB (l : List Int) : Bool := decide ((l.length : Int) = 3) && !(l.any fun n => !btw n 0 3)

theorem valsOk_ok (l : List Int) (hl : l.length ≤ maxLen) : CallsA Try.prog 72 [ints l] [] (.bool (valsB l)) [] := by
  have hl' := hl
  unfold maxLen at hl'
  have hk := containsFunc_int l hl (fun n => !btw n 0 3) 127 (fun x _ => valsOk1_ok x)
  refine callsA_of tabOk Try.func72 rfl rfl 11 Try.ntmps72 (by simp) ?_
  repeat' (first | (apply AWP.go ok; rfl; conv => whnf) | (apply ord_mk; kernel_rfl; conv => whnf) | (apply And.intro; (first | omega | (unfold inI; omega) | (dsimp only; omega) | (unfold bitsOk; omega) | ((try dsimp only); simp only [List.length_map, List.length_take, List.length_append, List.length_replicate, List.length_cons, List.length_nil]; omega) | (simp only [btw_iff] at *; first | omega | (unfold inI; omega) | (unfold bitsOk; omega)) | exact stor_map (fun _ => rfl) | exact ⟨rfl, stor_cons rfl stor_nil⟩ | exact ⟨rfl, stor_map (fun _ => rfl) _⟩ | exact ⟨⟨rfl, by omega⟩, stor_map (fun _ => rfl) _⟩); conv => whnf) | (with_reducible apply get_mapN; omega; intro _; conv => whnf) | (with_reducible apply get_mapI; omega; intro _; conv => whnf) | (apply get_mapN; omega; intro _; conv => whnf) | (apply get_fill; omega; conv => whnf) | (apply ex_some; conv => whnf) | (apply get_map; omega; intro _; conv => whnf) | (apply vcG_dec <;> intro _ <;> conv => whnf) | (apply vcG_ndec <;> intro _ <;> conv => whnf) | (apply vcG_not <;> intro _ <;> conv => whnf) | (apply vcG_mk <;> intro _ <;> conv => whnf) | (apply vcIf_dec <;> intro _ <;> conv => whnf) | (apply vcIf_ndec <;> intro _ <;> conv => whnf) | (apply vcIf_not <;> intro _ <;> conv => whnf) | (apply vcIf_mk <;> intro _ <;> conv => whnf) | (apply call_data (hk); rfl; rfl; conv => whnf))
  all_goals (refine ret_bool rfl ?_; first | rfl | (unfold valsB; simp [*]; done) | (unfold valsB; simp_all; done) | (unfold valsB; simp_all; omega))
end Go.Proofs.Ytcannajfdnipkaa

namespace Go.Proofs.Ytcannajfdnipkaa
open Go.Gl
attribute [local irreducible] vcCall vcPick vcGuard

theorem indexFunc_state (l : List State) (hl : l.length ≤ maxLen) (p : State → Bool) (f : FuncId) (hf : ∀ x ∈ l, CallsA Try.prog f [argAgg State.cs x] [] (.bool (p x)) []) : CallsA Try.prog 143 [lst 2 State.cs l, .fn (.func f) [] []] [] (.int (idxF p l)) [] := by
  unfold maxLen at hl
  refine callsA_of tabOk Try.func143 rfl rfl 19 Try.ntmps143 (by simp) ?_
  repeat' (first | (apply AWP.go ok; rfl; conv => whnf) | (apply ord_mk; kernel_rfl; conv => whnf) | (apply And.intro; (first | omega | (unfold inI; omega) | (dsimp only; omega) | (unfold bitsOk; omega) | ((try dsimp only); simp only [List.length_map, List.length_take, List.length_append, List.length_replicate, List.length_cons, List.length_nil]; omega) | (simp only [btw_iff] at *; first | omega | (unfold inI; omega) | (unfold bitsOk; omega)) | exact stor_map (fun _ => rfl) | exact ⟨rfl, stor_cons rfl stor_nil⟩ | exact ⟨rfl, stor_map (fun _ => rfl) _⟩ | exact ⟨⟨rfl, by omega⟩, stor_map (fun _ => rfl) _⟩); conv => whnf) | (with_reducible apply get_mapN; omega; intro _; conv => whnf) | (with_reducible apply get_mapI; omega; intro _; conv => whnf) | (apply get_mapN; omega; intro _; conv => whnf) | (apply get_fill; omega; conv => whnf) | (apply ex_some; conv => whnf) | (apply get_map; omega; intro _; conv => whnf) | (apply vcG_dec <;> intro _ <;> conv => whnf) | (apply vcG_ndec <;> intro _ <;> conv => whnf) | (apply vcG_not <;> intro _ <;> conv => whnf) | (apply vcG_mk <;> intro _ <;> conv => whnf) | (apply vcIf_dec <;> intro _ <;> conv => whnf) | (apply vcIf_ndec <;> intro _ <;> conv => whnf) | (apply vcIf_not <;> intro _ <;> conv => whnf) | (apply vcIf_mk <;> intro _ <;> conv => whnf))
  refine loopA (fun k : Nat => ([(0, lst 2 State.cs l), (1, .fn (.func f) [] []), (7, .int l.length), (8, .int k)], [])) (fun k => k ≤ l.length ∧ ∀ j (hj : j < l.length), j < k → p l[j] = false) (fun k => l.length - k) 0 (by simp)
    ⟨[], rfl, by decide, rfl, ⟨⟨rfl, rfl⟩, ⟨rfl, rfl⟩, ⟨rfl, rfl⟩, ⟨rfl, rfl⟩, trivial⟩, trivial⟩ ?_
  intro k hk
  repeat' (first | (apply AWP.go ok; rfl; conv => whnf) | (apply ord_mk; kernel_rfl; conv => whnf) | (apply And.intro; (first | omega | (unfold inI; omega) | (dsimp only; omega) | (unfold bitsOk; omega) | ((try dsimp only); simp only [List.length_map, List.length_take, List.length_append, List.length_replicate, List.length_cons, List.length_nil]; omega) | (simp only [btw_iff] at *; first | omega | (unfold inI; omega) | (unfold bitsOk; omega)) | exact stor_map (fun _ => rfl) | exact ⟨rfl, stor_cons rfl stor_nil⟩ | exact ⟨rfl, stor_map (fun _ => rfl) _⟩ | exact ⟨⟨rfl, by omega⟩, stor_map (fun _ => rfl) _⟩); conv => whnf) | (with_reducible apply get_mapN; omega; intro _; conv => whnf) | (with_reducible apply get_mapI; omega; intro _; conv => whnf) | (apply get_mapN; omega; intro _; conv => whnf) | (apply get_fill; omega; conv => whnf) | (apply ex_some; conv => whnf) | (apply get_map; omega; intro _; conv => whnf) | (apply vcG_dec <;> intro _ <;> conv => whnf) | (apply vcG_ndec <;> intro _ <;> conv => whnf) | (apply vcG_not <;> intro _ <;> conv => whnf) | (apply vcG_mk <;> intro _ <;> conv => whnf) | (apply vcIf_dec <;> intro _ <;> conv => whnf) | (apply vcIf_ndec <;> intro _ <;> conv => whnf) | (apply vcIf_not <;> intro _ <;> conv => whnf) | (apply vcIf_mk <;> intro _ <;> conv => whnf) | (apply call_data (hf l[k] (List.getElem_mem _)); rfl; rfl; conv => whnf))
  · rename_i h h1
    exact ret_data rfl rfl (by rw [idxF_some (by omega) h1 hk.2]; rfl)
  · rename_i h h1
    refine again (k + 1) [] ⟨by omega, fun j hj hjk => ?_⟩ (by omega) ⟨rfl, by decide, rfl, ⟨⟨rfl, rfl⟩, ⟨rfl, rfl⟩, ⟨rfl, rfl⟩, ⟨rfl, rfl⟩, trivial⟩, trivial⟩
    rcases Nat.lt_or_ge j k with h2 | h2
    · exact hk.2 j hj h2
    · obtain rfl : j = k := by omega
      exact h1
  · exact ret_data rfl rfl (by rw [idxF_none fun j hj => hk.2 j hj (by omega)]; rfl)
theorem containsFunc_state (l : List State) (hl : l.length ≤ maxLen) (p : State → Bool) (f : FuncId) (hf : ∀ x ∈ l, CallsA Try.prog f [argAgg State.cs x] [] (.bool (p x)) []) : CallsA Try.prog 105 [lst 2 State.cs l, .fn (.func f) [] []] [] (.bool (l.any p)) [] := by
  refine callsA_of tabOk Try.func105 rfl rfl 9 Try.ntmps105 (by simp) ?_
  repeat' (first | (apply AWP.go ok; rfl; conv => whnf) | (apply ord_mk; kernel_rfl; conv => whnf) | (apply And.intro; (first | omega | (unfold inI; omega) | (dsimp only; omega) | (unfold bitsOk; omega) | ((try dsimp only); simp only [List.length_map, List.length_take, List.length_append, List.length_replicate, List.length_cons, List.length_nil]; omega) | (simp only [btw_iff] at *; first | omega | (unfold inI; omega) | (unfold bitsOk; omega)) | exact stor_map (fun _ => rfl) | exact ⟨rfl, stor_cons rfl stor_nil⟩ | exact ⟨rfl, stor_map (fun _ => rfl) _⟩ | exact ⟨⟨rfl, by omega⟩, stor_map (fun _ => rfl) _⟩); conv => whnf) | (with_reducible apply get_mapN; omega; intro _; conv => whnf) | (with_reducible apply get_mapI; omega; intro _; conv => whnf) | (apply get_mapN; omega; intro _; conv => whnf) | (apply get_fill; omega; conv => whnf) | (apply ex_some; conv => whnf) | (apply get_map; omega; intro _; conv => whnf) | (apply vcG_dec <;> intro _ <;> conv => whnf) | (apply vcG_ndec <;> intro _ <;> conv => whnf) | (apply vcG_not <;> intro _ <;> conv => whnf) | (apply vcG_mk <;> intro _ <;> conv => whnf) | (apply vcIf_dec <;> intro _ <;> conv => whnf) | (apply vcIf_ndec <;> intro _ <;> conv => whnf) | (apply vcIf_not <;> intro _ <;> conv => whnf) | (apply vcIf_mk <;> intro _ <;> conv => whnf) | (apply call_data (indexFunc_state l hl p f hf); rfl; rfl; conv => whnf))
  exact ret_bool rfl (by rw [← idxF_any])
theorem indexFunc_expr (l : List Tree) (hl : l.length ≤ maxLen) (p : Tree → Bool) (f : FuncId) (hf : ∀ x ∈ l, CallsA Try.prog f [argAgg Tree.cs' x] [] (.bool (p x)) []) : CallsA Try.prog 145 [lst 3 Tree.cs' l, .fn (.func f) [] []] [] (.int (idxF p l)) [] := by
  unfold maxLen at hl
  refine callsA_of tabOk Try.func145 rfl rfl 19 Try.ntmps145 (by simp) ?_
  repeat' (first | (apply AWP.go ok; rfl; conv => whnf) | (apply ord_mk; kernel_rfl; conv => whnf) | (apply And.intro; (first | omega | (unfold inI; omega) | (dsimp only; omega) | (unfold bitsOk; omega) | ((try dsimp only); simp only [List.length_map, List.length_take, List.length_append, List.length_replicate, List.length_cons, List.length_nil]; omega) | (simp only [btw_iff] at *; first | omega | (unfold inI; omega) | (unfold bitsOk; omega)) | exact stor_map (fun _ => rfl) | exact ⟨rfl, stor_cons rfl stor_nil⟩ | exact ⟨rfl, stor_map (fun _ => rfl) _⟩ | exact ⟨⟨rfl, by omega⟩, stor_map (fun _ => rfl) _⟩); conv => whnf) | (with_reducible apply get_mapN; omega; intro _; conv => whnf) | (with_reducible apply get_mapI; omega; intro _; conv => whnf) | (apply get_mapN; omega; intro _; conv => whnf) | (apply get_fill; omega; conv => whnf) | (apply ex_some; conv => whnf) | (apply get_map; omega; intro _; conv => whnf) | (apply vcG_dec <;> intro _ <;> conv => whnf) | (apply vcG_ndec <;> intro _ <;> conv => whnf) | (apply vcG_not <;> intro _ <;> conv => whnf) | (apply vcG_mk <;> intro _ <;> conv => whnf) | (apply vcIf_dec <;> intro _ <;> conv => whnf) | (apply vcIf_ndec <;> intro _ <;> conv => whnf) | (apply vcIf_not <;> intro _ <;> conv => whnf) | (apply vcIf_mk <;> intro _ <;> conv => whnf))
  refine loopA (fun k : Nat => ([(0, lst 3 Tree.cs' l), (1, .fn (.func f) [] []), (7, .int l.length), (8, .int k)], [])) (fun k => k ≤ l.length ∧ ∀ j (hj : j < l.length), j < k → p l[j] = false) (fun k => l.length - k) 0 (by simp)
    ⟨[], rfl, by decide, rfl, ⟨⟨rfl, rfl⟩, ⟨rfl, rfl⟩, ⟨rfl, rfl⟩, ⟨rfl, rfl⟩, trivial⟩, trivial⟩ ?_
  intro k hk
  repeat' (first | (apply AWP.go ok; rfl; conv => whnf) | (apply ord_mk; kernel_rfl; conv => whnf) | (apply And.intro; (first | omega | (unfold inI; omega) | (dsimp only; omega) | (unfold bitsOk; omega) | ((try dsimp only); simp only [List.length_map, List.length_take, List.length_append, List.length_replicate, List.length_cons, List.length_nil]; omega) | (simp only [btw_iff] at *; first | omega | (unfold inI; omega) | (unfold bitsOk; omega)) | exact stor_map (fun _ => rfl) | exact ⟨rfl, stor_cons rfl stor_nil⟩ | exact ⟨rfl, stor_map (fun _ => rfl) _⟩ | exact ⟨⟨rfl, by omega⟩, stor_map (fun _ => rfl) _⟩); conv => whnf) | (with_reducible apply get_mapN; omega; intro _; conv => whnf) | (with_reducible apply get_mapI; omega; intro _; conv => whnf) | (apply get_mapN; omega; intro _; conv => whnf) | (apply get_fill; omega; conv => whnf) | (apply ex_some; conv => whnf) | (apply get_map; omega; intro _; conv => whnf) | (apply vcG_dec <;> intro _ <;> conv => whnf) | (apply vcG_ndec <;> intro _ <;> conv => whnf) | (apply vcG_not <;> intro _ <;> conv => whnf) | (apply vcG_mk <;> intro _ <;> conv => whnf) | (apply vcIf_dec <;> intro _ <;> conv => whnf) | (apply vcIf_ndec <;> intro _ <;> conv => whnf) | (apply vcIf_not <;> intro _ <;> conv => whnf) | (apply vcIf_mk <;> intro _ <;> conv => whnf) | (apply call_data (hf l[k] (List.getElem_mem _)); rfl; rfl; conv => whnf))
  · rename_i h h1
    exact ret_data rfl rfl (by rw [idxF_some (by omega) h1 hk.2]; rfl)
  · rename_i h h1
    refine again (k + 1) [] ⟨by omega, fun j hj hjk => ?_⟩ (by omega) ⟨rfl, by decide, rfl, ⟨⟨rfl, rfl⟩, ⟨rfl, rfl⟩, ⟨rfl, rfl⟩, ⟨rfl, rfl⟩, trivial⟩, trivial⟩
    rcases Nat.lt_or_ge j k with h2 | h2
    · exact hk.2 j hj h2
    · obtain rfl : j = k := by omega
      exact h1
  · exact ret_data rfl rfl (by rw [idxF_none fun j hj => hk.2 j hj (by omega)]; rfl)
theorem containsFunc_expr (l : List Tree) (hl : l.length ≤ maxLen) (p : Tree → Bool) (f : FuncId) (hf : ∀ x ∈ l, CallsA Try.prog f [argAgg Tree.cs' x] [] (.bool (p x)) []) : CallsA Try.prog 110 [lst 3 Tree.cs' l, .fn (.func f) [] []] [] (.bool (l.any p)) [] := by
  refine callsA_of tabOk Try.func110 rfl rfl 9 Try.ntmps110 (by simp) ?_
  repeat' (first | (apply AWP.go ok; rfl; conv => whnf) | (apply ord_mk; kernel_rfl; conv => whnf) | (apply And.intro; (first | omega | (unfold inI; omega) | (dsimp only; omega) | (unfold bitsOk; omega) | ((try dsimp only); simp only [List.length_map, List.length_take, List.length_append, List.length_replicate, List.length_cons, List.length_nil]; omega) | (simp only [btw_iff] at *; first | omega | (unfold inI; omega) | (unfold bitsOk; omega)) | exact stor_map (fun _ => rfl) | exact ⟨rfl, stor_cons rfl stor_nil⟩ | exact ⟨rfl, stor_map (fun _ => rfl) _⟩ | exact ⟨⟨rfl, by omega⟩, stor_map (fun _ => rfl) _⟩); conv => whnf) | (with_reducible apply get_mapN; omega; intro _; conv => whnf) | (with_reducible apply get_mapI; omega; intro _; conv => whnf) | (apply get_mapN; omega; intro _; conv => whnf) | (apply get_fill; omega; conv => whnf) | (apply ex_some; conv => whnf) | (apply get_map; omega; intro _; conv => whnf) | (apply vcG_dec <;> intro _ <;> conv => whnf) | (apply vcG_ndec <;> intro _ <;> conv => whnf) | (apply vcG_not <;> intro _ <;> conv => whnf) | (apply vcG_mk <;> intro _ <;> conv => whnf) | (apply vcIf_dec <;> intro _ <;> conv => whnf) | (apply vcIf_ndec <;> intro _ <;> conv => whnf) | (apply vcIf_not <;> intro _ <;> conv => whnf) | (apply vcIf_mk <;> intro _ <;> conv => whnf) | (apply call_data (indexFunc_expr l hl p f hf); rfl; rfl; conv => whnf))
  exact ret_bool rfl (by rw [← idxF_any])
theorem indexFunc_ints1 (c : Int) (l : List (List Int)) (hl : l.length ≤ maxLen) (p : (List Int) → Bool) (f : FuncId) (hf : ∀ x ∈ l, CallsA Try.prog f [ints x, .pt [.int c]] [] (.bool (p x)) []) : CallsA Try.prog 144 [lst 1 encL l, .fn (.func f) [] [.pt [.int c]]] [] (.int (idxF p l)) [] := by
  unfold maxLen at hl
  refine callsA_of tabOk Try.func144 rfl rfl 19 Try.ntmps144 (by simp) ?_
  repeat' (first | (apply AWP.go ok; rfl; conv => whnf) | (apply ord_mk; kernel_rfl; conv => whnf) | (apply And.intro; (first | omega | (unfold inI; omega) | (dsimp only; omega) | (unfold bitsOk; omega) | ((try dsimp only); simp only [List.length_map, List.length_take, List.length_append, List.length_replicate, List.length_cons, List.length_nil]; omega) | (simp only [btw_iff] at *; first | omega | (unfold inI; omega) | (unfold bitsOk; omega)) | exact stor_map (fun _ => rfl) | exact ⟨rfl, stor_cons rfl stor_nil⟩ | exact ⟨rfl, stor_map (fun _ => rfl) _⟩ | exact ⟨⟨rfl, by omega⟩, stor_map (fun _ => rfl) _⟩); conv => whnf) | (with_reducible apply get_mapN; omega; intro _; conv => whnf) | (with_reducible apply get_mapI; omega; intro _; conv => whnf) | (apply get_mapN; omega; intro _; conv => whnf) | (apply get_fill; omega; conv => whnf) | (apply ex_some; conv => whnf) | (apply get_map; omega; intro _; conv => whnf) | (apply vcG_dec <;> intro _ <;> conv => whnf) | (apply vcG_ndec <;> intro _ <;> conv => whnf) | (apply vcG_not <;> intro _ <;> conv => whnf) | (apply vcG_mk <;> intro _ <;> conv => whnf) | (apply vcIf_dec <;> intro _ <;> conv => whnf) | (apply vcIf_ndec <;> intro _ <;> conv => whnf) | (apply vcIf_not <;> intro _ <;> conv => whnf) | (apply vcIf_mk <;> intro _ <;> conv => whnf))
  refine loopA (fun k : Nat => ([(0, lst 1 encL l), (1, .fn (.func f) [] [.pt [.int c]]), (7, .int l.length), (8, .int k)], [])) (fun k => k ≤ l.length ∧ ∀ j (hj : j < l.length), j < k → p l[j] = false) (fun k => l.length - k) 0 (by simp)
    ⟨[], rfl, by decide, rfl, ⟨⟨rfl, rfl⟩, ⟨rfl, rfl⟩, ⟨rfl, rfl⟩, ⟨rfl, rfl⟩, trivial⟩, trivial⟩ ?_
  intro k hk
  repeat' (first | (apply AWP.go ok; rfl; conv => whnf) | (apply ord_mk; kernel_rfl; conv => whnf) | (apply And.intro; (first | omega | (unfold inI; omega) | (dsimp only; omega) | (unfold bitsOk; omega) | ((try dsimp only); simp only [List.length_map, List.length_take, List.length_append, List.length_replicate, List.length_cons, List.length_nil]; omega) | (simp only [btw_iff] at *; first | omega | (unfold inI; omega) | (unfold bitsOk; omega)) | exact stor_map (fun _ => rfl) | exact ⟨rfl, stor_cons rfl stor_nil⟩ | exact ⟨rfl, stor_map (fun _ => rfl) _⟩ | exact ⟨⟨rfl, by omega⟩, stor_map (fun _ => rfl) _⟩); conv => whnf) | (with_reducible apply get_mapN; omega; intro _; conv => whnf) | (with_reducible apply get_mapI; omega; intro _; conv => whnf) | (apply get_mapN; omega; intro _; conv => whnf) | (apply get_fill; omega; conv => whnf) | (apply ex_some; conv => whnf) | (apply get_map; omega; intro _; conv => whnf) | (apply vcG_dec <;> intro _ <;> conv => whnf) | (apply vcG_ndec <;> intro _ <;> conv => whnf) | (apply vcG_not <;> intro _ <;> conv => whnf) | (apply vcG_mk <;> intro _ <;> conv => whnf) | (apply vcIf_dec <;> intro _ <;> conv => whnf) | (apply vcIf_ndec <;> intro _ <;> conv => whnf) | (apply vcIf_not <;> intro _ <;> conv => whnf) | (apply vcIf_mk <;> intro _ <;> conv => whnf) | (apply call_data (hf l[k] (List.getElem_mem _)); rfl; rfl; conv => whnf))
  · rename_i h h1
    exact ret_data rfl rfl (by rw [idxF_some (by omega) h1 hk.2]; rfl)
  · rename_i h h1
    refine again (k + 1) [] ⟨by omega, fun j hj hjk => ?_⟩ (by omega) ⟨rfl, by decide, rfl, ⟨⟨rfl, rfl⟩, ⟨rfl, rfl⟩, ⟨rfl, rfl⟩, ⟨rfl, rfl⟩, trivial⟩, trivial⟩
    rcases Nat.lt_or_ge j k with h2 | h2
    · exact hk.2 j hj h2
    · obtain rfl : j = k := by omega
      exact h1
  · exact ret_data rfl rfl (by rw [idxF_none fun j hj => hk.2 j hj (by omega)]; rfl)
theorem containsFunc_ints1 (c : Int) (l : List (List Int)) (hl : l.length ≤ maxLen) (p : (List Int) → Bool) (f : FuncId) (hf : ∀ x ∈ l, CallsA Try.prog f [ints x, .pt [.int c]] [] (.bool (p x)) []) : CallsA Try.prog 107 [lst 1 encL l, .fn (.func f) [] [.pt [.int c]]] [] (.bool (l.any p)) [] := by
  refine callsA_of tabOk Try.func107 rfl rfl 9 Try.ntmps107 (by simp) ?_
  repeat' (first | (apply AWP.go ok; rfl; conv => whnf) | (apply ord_mk; kernel_rfl; conv => whnf) | (apply And.intro; (first | omega | (unfold inI; omega) | (dsimp only; omega) | (unfold bitsOk; omega) | ((try dsimp only); simp only [List.length_map, List.length_take, List.length_append, List.length_replicate, List.length_cons, List.length_nil]; omega) | (simp only [btw_iff] at *; first | omega | (unfold inI; omega) | (unfold bitsOk; omega)) | exact stor_map (fun _ => rfl) | exact ⟨rfl, stor_cons rfl stor_nil⟩ | exact ⟨rfl, stor_map (fun _ => rfl) _⟩ | exact ⟨⟨rfl, by omega⟩, stor_map (fun _ => rfl) _⟩); conv => whnf) | (with_reducible apply get_mapN; omega; intro _; conv => whnf) | (with_reducible apply get_mapI; omega; intro _; conv => whnf) | (apply get_mapN; omega; intro _; conv => whnf) | (apply get_fill; omega; conv => whnf) | (apply ex_some; conv => whnf) | (apply get_map; omega; intro _; conv => whnf) | (apply vcG_dec <;> intro _ <;> conv => whnf) | (apply vcG_ndec <;> intro _ <;> conv => whnf) | (apply vcG_not <;> intro _ <;> conv => whnf) | (apply vcG_mk <;> intro _ <;> conv => whnf) | (apply vcIf_dec <;> intro _ <;> conv => whnf) | (apply vcIf_ndec <;> intro _ <;> conv => whnf) | (apply vcIf_not <;> intro _ <;> conv => whnf) | (apply vcIf_mk <;> intro _ <;> conv => whnf) | (apply call_data (indexFunc_ints1 c l hl p f hf); rfl; rfl; conv => whnf))
  exact ret_bool rfl (by rw [← idxF_any])
theorem indexFunc_int1 (c : Int) (l : List Int) (hl : l.length ≤ maxLen) (p : Int → Bool) (f : FuncId) (hf : ∀ x ∈ l, CallsA Try.prog f [.int x, .pt [.int c]] [] (.bool (p x)) []) : CallsA Try.prog 137 [lst 1 enI l, .fn (.func f) [] [.pt [.int c]]] [] (.int (idxF p l)) [] := by
  unfold maxLen at hl
  refine callsA_of tabOk Try.func137 rfl rfl 19 Try.ntmps137 (by simp) ?_
  repeat' (first | (apply AWP.go ok; rfl; conv => whnf) | (apply ord_mk; kernel_rfl; conv => whnf) | (apply And.intro; (first | omega | (unfold inI; omega) | (dsimp only; omega) | (unfold bitsOk; omega) | ((try dsimp only); simp only [List.length_map, List.length_take, List.length_append, List.length_replicate, List.length_cons, List.length_nil]; omega) | (simp only [btw_iff] at *; first | omega | (unfold inI; omega) | (unfold bitsOk; omega)) | exact stor_map (fun _ => rfl) | exact ⟨rfl, stor_cons rfl stor_nil⟩ | exact ⟨rfl, stor_map (fun _ => rfl) _⟩ | exact ⟨⟨rfl, by omega⟩, stor_map (fun _ => rfl) _⟩); conv => whnf) | (with_reducible apply get_mapN; omega; intro _; conv => whnf) | (with_reducible apply get_mapI; omega; intro _; conv => whnf) | (apply get_mapN; omega; intro _; conv => whnf) | (apply get_fill; omega; conv => whnf) | (apply ex_some; conv => whnf) | (apply get_map; omega; intro _; conv => whnf) | (apply vcG_dec <;> intro _ <;> conv => whnf) | (apply vcG_ndec <;> intro _ <;> conv => whnf) | (apply vcG_not <;> intro _ <;> conv => whnf) | (apply vcG_mk <;> intro _ <;> conv => whnf) | (apply vcIf_dec <;> intro _ <;> conv => whnf) | (apply vcIf_ndec <;> intro _ <;> conv => whnf) | (apply vcIf_not <;> intro _ <;> conv => whnf) | (apply vcIf_mk <;> intro _ <;> conv => whnf))
  refine loopA (fun k : Nat => ([(0, lst 1 enI l), (1, .fn (.func f) [] [.pt [.int c]]), (7, .int l.length), (8, .int k)], [])) (fun k => k ≤ l.length ∧ ∀ j (hj : j < l.length), j < k → p l[j] = false) (fun k => l.length - k) 0 (by simp)
    ⟨[], rfl, by decide, rfl, ⟨⟨rfl, rfl⟩, ⟨rfl, rfl⟩, ⟨rfl, rfl⟩, ⟨rfl, rfl⟩, trivial⟩, trivial⟩ ?_
  intro k hk
  repeat' (first | (apply AWP.go ok; rfl; conv => whnf) | (apply ord_mk; kernel_rfl; conv => whnf) | (apply And.intro; (first | omega | (unfold inI; omega) | (dsimp only; omega) | (unfold bitsOk; omega) | ((try dsimp only); simp only [List.length_map, List.length_take, List.length_append, List.length_replicate, List.length_cons, List.length_nil]; omega) | (simp only [btw_iff] at *; first | omega | (unfold inI; omega) | (unfold bitsOk; omega)) | exact stor_map (fun _ => rfl) | exact ⟨rfl, stor_cons rfl stor_nil⟩ | exact ⟨rfl, stor_map (fun _ => rfl) _⟩ | exact ⟨⟨rfl, by omega⟩, stor_map (fun _ => rfl) _⟩); conv => whnf) | (with_reducible apply get_mapN; omega; intro _; conv => whnf) | (with_reducible apply get_mapI; omega; intro _; conv => whnf) | (apply get_mapN; omega; intro _; conv => whnf) | (apply get_fill; omega; conv => whnf) | (apply ex_some; conv => whnf) | (apply get_map; omega; intro _; conv => whnf) | (apply vcG_dec <;> intro _ <;> conv => whnf) | (apply vcG_ndec <;> intro _ <;> conv => whnf) | (apply vcG_not <;> intro _ <;> conv => whnf) | (apply vcG_mk <;> intro _ <;> conv => whnf) | (apply vcIf_dec <;> intro _ <;> conv => whnf) | (apply vcIf_ndec <;> intro _ <;> conv => whnf) | (apply vcIf_not <;> intro _ <;> conv => whnf) | (apply vcIf_mk <;> intro _ <;> conv => whnf) | (apply call_data (hf l[k] (List.getElem_mem _)); rfl; rfl; conv => whnf))
  · rename_i h h1
    exact ret_data rfl rfl (by rw [idxF_some (by omega) h1 hk.2]; rfl)
  · rename_i h h1
    refine again (k + 1) [] ⟨by omega, fun j hj hjk => ?_⟩ (by omega) ⟨rfl, by decide, rfl, ⟨⟨rfl, rfl⟩, ⟨rfl, rfl⟩, ⟨rfl, rfl⟩, ⟨rfl, rfl⟩, trivial⟩, trivial⟩
    rcases Nat.lt_or_ge j k with h2 | h2
    · exact hk.2 j hj h2
    · obtain rfl : j = k := by omega
      exact h1
  · exact ret_data rfl rfl (by rw [idxF_none fun j hj => hk.2 j hj (by omega)]; rfl)
theorem containsFunc_int1 (c : Int) (l : List Int) (hl : l.length ≤ maxLen) (p : Int → Bool) (f : FuncId) (hf : ∀ x ∈ l, CallsA Try.prog f [.int x, .pt [.int c]] [] (.bool (p x)) []) : CallsA Try.prog 91 [lst 1 enI l, .fn (.func f) [] [.pt [.int c]]] [] (.bool (l.any p)) [] := by
  refine callsA_of tabOk Try.func91 rfl rfl 9 Try.ntmps91 (by simp) ?_
  repeat' (first | (apply AWP.go ok; rfl; conv => whnf) | (apply ord_mk; kernel_rfl; conv => whnf) | (apply And.intro; (first | omega | (unfold inI; omega) | (dsimp only; omega) | (unfold bitsOk; omega) | ((try dsimp only); simp only [List.length_map, List.length_take, List.length_append, List.length_replicate, List.length_cons, List.length_nil]; omega) | (simp only [btw_iff] at *; first | omega | (unfold inI; omega) | (unfold bitsOk; omega)) | exact stor_map (fun _ => rfl) | exact ⟨rfl, stor_cons rfl stor_nil⟩ | exact ⟨rfl, stor_map (fun _ => rfl) _⟩ | exact ⟨⟨rfl, by omega⟩, stor_map (fun _ => rfl) _⟩); conv => whnf) | (with_reducible apply get_mapN; omega; intro _; conv => whnf) | (with_reducible apply get_mapI; omega; intro _; conv => whnf) | (apply get_mapN; omega; intro _; conv => whnf) | (apply get_fill; omega; conv => whnf) | (apply ex_some; conv => whnf) | (apply get_map; omega; intro _; conv => whnf) | (apply vcG_dec <;> intro _ <;> conv => whnf) | (apply vcG_ndec <;> intro _ <;> conv => whnf) | (apply vcG_not <;> intro _ <;> conv => whnf) | (apply vcG_mk <;> intro _ <;> conv => whnf) | (apply vcIf_dec <;> intro _ <;> conv => whnf) | (apply vcIf_ndec <;> intro _ <;> conv => whnf) | (apply vcIf_not <;> intro _ <;> conv => whnf) | (apply vcIf_mk <;> intro _ <;> conv => whnf) | (apply call_data (indexFunc_int1 c l hl p f hf); rfl; rfl; conv => whnf))
  exact ret_bool rfl (by rw [← idxF_any])
end Go.Proofs.Ytcannajfdnipkaa

