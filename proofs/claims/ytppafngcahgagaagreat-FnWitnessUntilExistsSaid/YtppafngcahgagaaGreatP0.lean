/- A part of the proofs over this program: Tab, T3, T4, T5, T6, T7, T8, T9, T10, T11, T12, T13, T15, T16, T17, T18, T19, T20, T21, T22, T23, T23R, T23S, T35A, T70, T71, T72, T73, T74, T75, T75K, T75M, T81, T82, T83, T84. -/
import Derived.Test.YtppafngcahgagaaGreatG0
import Derived.Test.YtppafngcahgagaaGreatG1
import Derived.Test.YtppafngcahgagaaGreatG2
import Derived.Test.YtppafngcahgagaaGreatProg
import Derived.KernelRfl
set_option linter.all false
/- The types of this translation, as the ghost logic asks for them. Written by a program. -/
namespace Go.Proofs.YtppafngcahgagaaGreat
open Go.Gl
def tabL : List (Nat × TyI) := [
  (3, ⟨.int .i64, 1, 8, .int .i64 0⟩),
  (37, ⟨.slice 3, 1, 24, .slice none 0 0⟩),
  (26, ⟨.struct #[{ name := "States", type := 23, offset := 0, embedded := false, tag := "", pkgPath := "", byteOffset := 0 }, { name := "Next", type := 24, offset := 1, embedded := false, tag := "", pkgPath := "", byteOffset := 24 }], 2, 48, .agg #[.slice none 0 0, .slice none 0 0]⟩),
  (33, ⟨.slice 4, 1, 24, .slice none 0 0⟩),
  (24, ⟨.slice 37, 1, 24, .slice none 0 0⟩),
  (202, ⟨.struct #[{ name := "Kind", type := 3, offset := 0, embedded := false, tag := "", pkgPath := "", byteOffset := 0 }, { name := "Atom", type := 3, offset := 1, embedded := false, tag := "", pkgPath := "", byteOffset := 8 }, { name := "Kids", type := 200, offset := 2, embedded := false, tag := "", pkgPath := "", byteOffset := 16 }], 3, 40, .agg #[.int .i64 0, .int .i64 0, .slice none 0 0]⟩),
  (59, ⟨.struct #[{ name := "Kind", type := 3, offset := 0, embedded := false, tag := "", pkgPath := "", byteOffset := 0 }, { name := "Value", type := 3, offset := 1, embedded := false, tag := "", pkgPath := "", byteOffset := 8 }, { name := "Kids", type := 27, offset := 2, embedded := false, tag := "", pkgPath := "", byteOffset := 16 }], 3, 40, .agg #[.int .i64 0, .int .i64 0, .slice none 0 0]⟩),
  (68, ⟨.struct #[{ name := "Initial", type := 37, offset := 0, embedded := false, tag := "", pkgPath := "", byteOffset := 0 }, { name := "Accepting", type := 33, offset := 1, embedded := false, tag := "", pkgPath := "", byteOffset := 24 }, { name := "Edges", type := 66, offset := 2, embedded := false, tag := "", pkgPath := "", byteOffset := 48 }], 3, 72, .agg #[.slice none 0 0, .slice none 0 0, .slice none 0 0]⟩),
  (30, ⟨.struct #[{ name := "Kind", type := 3, offset := 0, embedded := false, tag := "", pkgPath := "", byteOffset := 0 }, { name := "Atom", type := 3, offset := 1, embedded := false, tag := "", pkgPath := "", byteOffset := 8 }, { name := "Kids", type := 28, offset := 2, embedded := false, tag := "", pkgPath := "", byteOffset := 16 }], 3, 40, .agg #[.int .i64 0, .int .i64 0, .slice none 0 0]⟩),
  (23, ⟨.slice 105, 1, 24, .slice none 0 0⟩),
  (4, ⟨.bool, 1, 1, .bool false⟩),
  (73, ⟨.struct #[{ name := "Ranks", type := 37, offset := 0, embedded := false, tag := "", pkgPath := "", byteOffset := 0 }], 1, 24, .agg #[.slice none 0 0]⟩),
  (200, ⟨.slice 202, 1, 24, .slice none 0 0⟩),
  (105, ⟨.struct #[{ name := "Locs", type := 37, offset := 0, embedded := false, tag := "", pkgPath := "", byteOffset := 0 }, { name := "Vals", type := 37, offset := 1, embedded := false, tag := "", pkgPath := "", byteOffset := 24 }], 2, 48, .agg #[.slice none 0 0, .slice none 0 0]⟩),
  (27, ⟨.slice 59, 1, 24, .slice none 0 0⟩),
  (66, ⟨.slice 164, 1, 24, .slice none 0 0⟩),
  (147, ⟨.slice 33, 1, 24, .slice none 0 0⟩),
  (28, ⟨.slice 30, 1, 24, .slice none 0 0⟩),
  (186, ⟨.struct #[{ name := "From", type := 3, offset := 0, embedded := false, tag := "", pkgPath := "", byteOffset := 0 }, { name := "To", type := 3, offset := 1, embedded := false, tag := "", pkgPath := "", byteOffset := 8 }, { name := "Guard", type := 59, offset := 2, embedded := false, tag := "", pkgPath := "", byteOffset := 16 }, { name := "Var", type := 3, offset := 5, embedded := false, tag := "", pkgPath := "", byteOffset := 56 }, { name := "Value", type := 59, offset := 6, embedded := false, tag := "", pkgPath := "", byteOffset := 64 }, { name := "Sync", type := 3, offset := 9, embedded := false, tag := "", pkgPath := "", byteOffset := 104 }], 10, 112, .agg #[.int .i64 0, .int .i64 0, .int .i64 0, .int .i64 0, .slice none 0 0, .int .i64 0, .int .i64 0, .int .i64 0, .slice none 0 0, .int .i64 0]⟩),
  (164, ⟨.struct #[{ name := "From", type := 3, offset := 0, embedded := false, tag := "", pkgPath := "", byteOffset := 0 }, { name := "Care", type := 3, offset := 1, embedded := false, tag := "", pkgPath := "", byteOffset := 8 }, { name := "Value", type := 3, offset := 2, embedded := false, tag := "", pkgPath := "", byteOffset := 16 }, { name := "To", type := 3, offset := 3, embedded := false, tag := "", pkgPath := "", byteOffset := 24 }], 4, 32, .agg #[.int .i64 0, .int .i64 0, .int .i64 0, .int .i64 0]⟩),
  (22, ⟨.slice 5, 1, 24, .slice none 0 0⟩),
  (136, ⟨.slice 184, 1, 24, .slice none 0 0⟩),
  (138, ⟨.struct #[{ name := "Init", type := 37, offset := 0, embedded := false, tag := "", pkgPath := "", byteOffset := 0 }, { name := "Processes", type := 136, offset := 1, embedded := false, tag := "", pkgPath := "", byteOffset := 24 }], 2, 48, .agg #[.slice none 0 0, .slice none 0 0]⟩),
  (39, ⟨.struct #[{ name := "Stem", type := 37, offset := 0, embedded := false, tag := "", pkgPath := "", byteOffset := 0 }, { name := "Loop", type := 37, offset := 1, embedded := false, tag := "", pkgPath := "", byteOffset := 24 }], 2, 48, .agg #[.slice none 0 0, .slice none 0 0]⟩),
  (182, ⟨.slice 186, 1, 24, .slice none 0 0⟩),
  (184, ⟨.struct #[{ name := "Locations", type := 3, offset := 0, embedded := false, tag := "", pkgPath := "", byteOffset := 0 }, { name := "Edges", type := 182, offset := 1, embedded := false, tag := "", pkgPath := "", byteOffset := 8 }], 2, 32, .agg #[.int .i64 0, .slice none 0 0]⟩),
  (249, ⟨.int .u64, 1, 8, .int .u64 0⟩),
  (176, ⟨.slice 180, 1, 24, .slice none 0 0⟩),
  (129, ⟨.struct #[{ name := "b", type := 22, offset := 0, embedded := false, tag := "", pkgPath := "loop.example/ltlcheck/spec", byteOffset := 0 }, { name := "p", type := 3, offset := 1, embedded := false, tag := "", pkgPath := "loop.example/ltlcheck/spec", byteOffset := 24 }], 2, 32, .agg #[.slice none 0 0, .int .i64 0]⟩),
  (194, ⟨.int .u64, 1, 8, .int .u64 0⟩),
  (5, ⟨.int .u8, 1, 1, .int .u8 0⟩),
  (180, ⟨.struct #[{ name := "Process", type := 3, offset := 0, embedded := false, tag := "", pkgPath := "", byteOffset := 0 }, { name := "Edge", type := 3, offset := 1, embedded := false, tag := "", pkgPath := "", byteOffset := 8 }, { name := "Partner", type := 3, offset := 2, embedded := false, tag := "", pkgPath := "", byteOffset := 16 }, { name := "PartnerEdge", type := 3, offset := 3, embedded := false, tag := "", pkgPath := "", byteOffset := 24 }], 4, 32, .agg #[.int .i64 0, .int .i64 0, .int .i64 0, .int .i64 0]⟩),
  (231, ⟨.int .u64, 1, 8, .int .u64 0⟩),
  (146, ⟨.pointer 3, 1, 8, .pointer none⟩),
  (229, ⟨.int .u32, 1, 4, .int .u32 0⟩),
  (162, ⟨.slice 66, 1, 24, .slice none 0 0⟩),
  (221, ⟨.int .i64, 1, 8, .int .i64 0⟩),
  (9, ⟨.string, 1, 16, .string ⟨#[]⟩⟩),
  (260, ⟨.map 3 3, 1, 8, .map none⟩)]
def tab : Tab := tabGet tabL
theorem inf3 : (Tryz.prog.info? 3).map (fun j => (j.zero, j.size, j.bytes)) = some (some (.int .i64 0), 1, 8) := by kernel_rfl
theorem inf37 : (Tryz.prog.info? 37).map (fun j => (j.zero, j.size, j.bytes)) = some (some (.slice none 0 0), 1, 24) := by kernel_rfl
theorem inf26 : (Tryz.prog.info? 26).map (fun j => (j.zero, j.size, j.bytes)) = some (some (.agg #[.slice none 0 0, .slice none 0 0]), 2, 48) := by kernel_rfl
theorem inf33 : (Tryz.prog.info? 33).map (fun j => (j.zero, j.size, j.bytes)) = some (some (.slice none 0 0), 1, 24) := by kernel_rfl
theorem inf24 : (Tryz.prog.info? 24).map (fun j => (j.zero, j.size, j.bytes)) = some (some (.slice none 0 0), 1, 24) := by kernel_rfl
theorem inf202 : (Tryz.prog.info? 202).map (fun j => (j.zero, j.size, j.bytes)) = some (some (.agg #[.int .i64 0, .int .i64 0, .slice none 0 0]), 3, 40) := by kernel_rfl
theorem inf59 : (Tryz.prog.info? 59).map (fun j => (j.zero, j.size, j.bytes)) = some (some (.agg #[.int .i64 0, .int .i64 0, .slice none 0 0]), 3, 40) := by kernel_rfl
theorem inf68 : (Tryz.prog.info? 68).map (fun j => (j.zero, j.size, j.bytes)) = some (some (.agg #[.slice none 0 0, .slice none 0 0, .slice none 0 0]), 3, 72) := by kernel_rfl
theorem inf30 : (Tryz.prog.info? 30).map (fun j => (j.zero, j.size, j.bytes)) = some (some (.agg #[.int .i64 0, .int .i64 0, .slice none 0 0]), 3, 40) := by kernel_rfl
theorem inf23 : (Tryz.prog.info? 23).map (fun j => (j.zero, j.size, j.bytes)) = some (some (.slice none 0 0), 1, 24) := by kernel_rfl
theorem inf4 : (Tryz.prog.info? 4).map (fun j => (j.zero, j.size, j.bytes)) = some (some (.bool false), 1, 1) := by kernel_rfl
theorem inf73 : (Tryz.prog.info? 73).map (fun j => (j.zero, j.size, j.bytes)) = some (some (.agg #[.slice none 0 0]), 1, 24) := by kernel_rfl
theorem inf200 : (Tryz.prog.info? 200).map (fun j => (j.zero, j.size, j.bytes)) = some (some (.slice none 0 0), 1, 24) := by kernel_rfl
theorem inf105 : (Tryz.prog.info? 105).map (fun j => (j.zero, j.size, j.bytes)) = some (some (.agg #[.slice none 0 0, .slice none 0 0]), 2, 48) := by kernel_rfl
theorem inf27 : (Tryz.prog.info? 27).map (fun j => (j.zero, j.size, j.bytes)) = some (some (.slice none 0 0), 1, 24) := by kernel_rfl
theorem inf66 : (Tryz.prog.info? 66).map (fun j => (j.zero, j.size, j.bytes)) = some (some (.slice none 0 0), 1, 24) := by kernel_rfl
theorem inf147 : (Tryz.prog.info? 147).map (fun j => (j.zero, j.size, j.bytes)) = some (some (.slice none 0 0), 1, 24) := by kernel_rfl
theorem inf28 : (Tryz.prog.info? 28).map (fun j => (j.zero, j.size, j.bytes)) = some (some (.slice none 0 0), 1, 24) := by kernel_rfl
theorem inf186 : (Tryz.prog.info? 186).map (fun j => (j.zero, j.size, j.bytes)) = some (some (.agg #[.int .i64 0, .int .i64 0, .int .i64 0, .int .i64 0, .slice none 0 0, .int .i64 0, .int .i64 0, .int .i64 0, .slice none 0 0, .int .i64 0]), 10, 112) := by kernel_rfl
theorem inf164 : (Tryz.prog.info? 164).map (fun j => (j.zero, j.size, j.bytes)) = some (some (.agg #[.int .i64 0, .int .i64 0, .int .i64 0, .int .i64 0]), 4, 32) := by kernel_rfl
theorem inf22 : (Tryz.prog.info? 22).map (fun j => (j.zero, j.size, j.bytes)) = some (some (.slice none 0 0), 1, 24) := by kernel_rfl
theorem inf136 : (Tryz.prog.info? 136).map (fun j => (j.zero, j.size, j.bytes)) = some (some (.slice none 0 0), 1, 24) := by kernel_rfl
theorem inf138 : (Tryz.prog.info? 138).map (fun j => (j.zero, j.size, j.bytes)) = some (some (.agg #[.slice none 0 0, .slice none 0 0]), 2, 48) := by kernel_rfl
theorem inf39 : (Tryz.prog.info? 39).map (fun j => (j.zero, j.size, j.bytes)) = some (some (.agg #[.slice none 0 0, .slice none 0 0]), 2, 48) := by kernel_rfl
theorem inf182 : (Tryz.prog.info? 182).map (fun j => (j.zero, j.size, j.bytes)) = some (some (.slice none 0 0), 1, 24) := by kernel_rfl
theorem inf184 : (Tryz.prog.info? 184).map (fun j => (j.zero, j.size, j.bytes)) = some (some (.agg #[.int .i64 0, .slice none 0 0]), 2, 32) := by kernel_rfl
theorem inf249 : (Tryz.prog.info? 249).map (fun j => (j.zero, j.size, j.bytes)) = some (some (.int .u64 0), 1, 8) := by kernel_rfl
theorem inf176 : (Tryz.prog.info? 176).map (fun j => (j.zero, j.size, j.bytes)) = some (some (.slice none 0 0), 1, 24) := by kernel_rfl
theorem inf129 : (Tryz.prog.info? 129).map (fun j => (j.zero, j.size, j.bytes)) = some (some (.agg #[.slice none 0 0, .int .i64 0]), 2, 32) := by kernel_rfl
theorem inf194 : (Tryz.prog.info? 194).map (fun j => (j.zero, j.size, j.bytes)) = some (some (.int .u64 0), 1, 8) := by kernel_rfl
theorem inf5 : (Tryz.prog.info? 5).map (fun j => (j.zero, j.size, j.bytes)) = some (some (.int .u8 0), 1, 1) := by kernel_rfl
theorem inf180 : (Tryz.prog.info? 180).map (fun j => (j.zero, j.size, j.bytes)) = some (some (.agg #[.int .i64 0, .int .i64 0, .int .i64 0, .int .i64 0]), 4, 32) := by kernel_rfl
theorem inf231 : (Tryz.prog.info? 231).map (fun j => (j.zero, j.size, j.bytes)) = some (some (.int .u64 0), 1, 8) := by kernel_rfl
theorem inf146 : (Tryz.prog.info? 146).map (fun j => (j.zero, j.size, j.bytes)) = some (some (.pointer none), 1, 8) := by kernel_rfl
theorem inf229 : (Tryz.prog.info? 229).map (fun j => (j.zero, j.size, j.bytes)) = some (some (.int .u32 0), 1, 4) := by kernel_rfl
theorem inf162 : (Tryz.prog.info? 162).map (fun j => (j.zero, j.size, j.bytes)) = some (some (.slice none 0 0), 1, 24) := by kernel_rfl
theorem inf221 : (Tryz.prog.info? 221).map (fun j => (j.zero, j.size, j.bytes)) = some (some (.int .i64 0), 1, 8) := by kernel_rfl
theorem inf9 : (Tryz.prog.info? 9).map (fun j => (j.zero, j.size, j.bytes)) = some (some (.string ⟨#[]⟩), 1, 16) := by kernel_rfl
theorem inf260 : (Tryz.prog.info? 260).map (fun j => (j.zero, j.size, j.bytes)) = some (some (.map none), 1, 8) := by kernel_rfl
theorem z20 : z96 Tryz.prog tab := tabOk_of (⟨z48 Tryz.underlying3 inf3, ⟨z48 Tryz.underlying37 inf37, ⟨z48 Tryz.underlying26 inf26, ⟨z48 Tryz.underlying33 inf33, ⟨z48 Tryz.underlying24 inf24, ⟨z48 Tryz.underlying202 inf202, ⟨z48 Tryz.underlying59 inf59, ⟨z48 Tryz.underlying68 inf68, ⟨z48 Tryz.underlying30 inf30, ⟨z48 Tryz.underlying23 inf23, ⟨z48 Tryz.underlying4 inf4, ⟨z48 Tryz.underlying73 inf73, ⟨z48 Tryz.underlying200 inf200, ⟨z48 Tryz.underlying105 inf105, ⟨z48 Tryz.underlying27 inf27, ⟨z48 Tryz.underlying66 inf66, ⟨z48 Tryz.underlying147 inf147, ⟨z48 Tryz.underlying28 inf28, ⟨z48 Tryz.underlying186 inf186, ⟨z48 Tryz.underlying164 inf164, ⟨z48 Tryz.underlying22 inf22, ⟨z48 Tryz.underlying136 inf136, ⟨z48 Tryz.underlying138 inf138, ⟨z48 Tryz.underlying39 inf39, ⟨z48 Tryz.underlying182 inf182, ⟨z48 Tryz.underlying184 inf184, ⟨z48 Tryz.underlying249 inf249, ⟨z48 Tryz.underlying176 inf176, ⟨z48 Tryz.underlying129 inf129, ⟨z48 Tryz.underlying194 inf194, ⟨z48 Tryz.underlying5 inf5, ⟨z48 Tryz.underlying180 inf180, ⟨z48 Tryz.underlying231 inf231, ⟨z48 Tryz.underlying146 inf146, ⟨z48 Tryz.underlying229 inf229, ⟨z48 Tryz.underlying162 inf162, ⟨z48 Tryz.underlying221 inf221, ⟨z48 Tryz.underlying9 inf9, ⟨z48 Tryz.underlying260 inf260, trivial⟩⟩⟩⟩⟩⟩⟩⟩⟩⟩⟩⟩⟩⟩⟩⟩⟩⟩⟩⟩⟩⟩⟩⟩⟩⟩⟩⟩⟩⟩⟩⟩⟩⟩⟩⟩⟩⟩⟩)
end Go.Proofs.YtppafngcahgagaaGreat

namespace Go.Proofs.YtppafngcahgagaaGreat
open Go.Gl
attribute [local irreducible] z29
def enI (n : Int) : List AC := [.int n]
def ints (l : List Int) : AC := .list 1 l.length (l.map enI)
theorem ok : Ok Tryz.prog tab := ⟨z20, by kernel_rfl⟩

structure State where
  a : List Int
  b : List Int
  deriving DecidableEq
def State.cs (s : State) : List AC := [ints s.a, ints s.b]
def State.mx (s : State) : Prop := s.a.length ≤ maxLen ∧ s.b.length ≤ maxLen
def State.sz (s : State) : Nat := s.a.length + s.b.length

def lst {α : Type} (w : Nat) (e : α → List AC) (l : List α) : AC := .list w l.length (l.map e)
def tot {α : Type} (f : α → Nat) (l : List α) : Nat := l.length + (l.map f).sum
def State.mxs (l : List State) : Prop := l.length ≤ maxLen ∧ ∀ s ∈ l, s.mx

def State.small (s : State) : Prop := s.a.length ≤ 1048576 ∧ s.b.length ≤ 1048576

theorem State.unown (s : State) : ∀ x ∈ s.cs, x.unown = x := fun x hx => by
  simp only [State.cs, List.mem_cons, List.not_mem_nil, or_false] at hx
  rcases hx with rfl | rfl <;> rfl

end Go.Proofs.YtppafngcahgagaaGreat

namespace Go.Proofs.YtppafngcahgagaaGreat
open Go.Gl
attribute [local irreducible] z29

end Go.Proofs.YtppafngcahgagaaGreat

namespace Go.Proofs.YtppafngcahgagaaGreat
open Go.Gl
attribute [local irreducible] z29

def z39 {α : Type} (e : α → List AC) (a : α) : AC := .agg (e a)
end Go.Proofs.YtppafngcahgagaaGreat

namespace Go.Proofs.YtppafngcahgagaaGreat
open Go.Gl
attribute [local irreducible] z29

theorem Tree.unown (t : Tree) : ∀ x ∈ Tree.cs' t, x.unown = x := fun x hx => by
  simp only [Tree.cs', List.mem_cons, List.not_mem_nil, or_false] at hx
  rcases hx with rfl | rfl | rfl <;> rfl

end Go.Proofs.YtppafngcahgagaaGreat

namespace Go.Proofs.YtppafngcahgagaaGreat
open Go.Gl
attribute [local irreducible] z29

def encL (l : List Int) : List AC := [ints l]
end Go.Proofs.YtppafngcahgagaaGreat

namespace Go.Proofs.YtppafngcahgagaaGreat
open Go.Gl
attribute [local irreducible] z29

structure Graph where
  st : List State
  nx : List (List Int)
  deriving DecidableEq
def Graph.a1 (g : Graph) : AC := lst 2 State.cs g.st
def Graph.a2 (g : Graph) : AC := lst 1 encL g.nx
def Graph.cs (g : Graph) : List AC := [lst 2 State.cs g.st, lst 1 encL g.nx]
def Graph.s1 (g : Graph) : Nat := tot State.sz g.st
def Graph.s2 (g : Graph) : Nat := tot List.length g.nx
end Go.Proofs.YtppafngcahgagaaGreat

namespace Go.Proofs.YtppafngcahgagaaGreat
open Go.Gl
attribute [local irreducible] z29

def enB (b : Bool) : List AC := [.bool b]
structure Trans where
  src : Int
  care : Int
  val : Int
  dst : Int
  deriving DecidableEq
def Trans.cs (t : Trans) : List AC := [.int t.src, .int t.care, .int t.val, .int t.dst]
theorem Trans.unown (t : Trans) : ∀ x ∈ t.cs, x.unown = x := fun x hx => by
  simp only [Trans.cs, List.mem_cons, List.not_mem_nil, or_false] at hx
  rcases hx with rfl | rfl | rfl | rfl <;> rfl
structure Aut where
  ini : List Int
  acc : List Bool
  ed : List Trans
  deriving DecidableEq
def Aut.a1 (a : Aut) : AC := lst 1 enI a.ini
def Aut.a2 (a : Aut) : AC := lst 1 enB a.acc
def Aut.a3 (a : Aut) : AC := lst 4 Trans.cs a.ed
def Aut.cs (a : Aut) : List AC := [lst 1 enI a.ini, lst 1 enB a.acc, lst 4 Trans.cs a.ed]
def Aut.s1 (a : Aut) : Nat := a.ini.length
def Aut.s2 (a : Aut) : Nat := a.acc.length
def Aut.s3 (a : Aut) : Nat := a.ed.length
structure Cert where
  ranks : List Int
  deriving DecidableEq
def Cert.a1 (a : Cert) : AC := lst 1 enI a.ranks
def Cert.cs (a : Cert) : List AC := [lst 1 enI a.ranks]
def Cert.s1 (a : Cert) : Nat := a.ranks.length
end Go.Proofs.YtppafngcahgagaaGreat

namespace Go.Proofs.YtppafngcahgagaaGreat
open Go.Gl
attribute [local irreducible] z29 AWP z51 z62 z55

def btw (n lo hi : Int) : Bool := decide (lo ≤ n) && decide (n ≤ hi)
theorem btw_iff {n lo hi : Int} : btw n lo hi = true ↔ lo ≤ n ∧ n ≤ hi := by simp [btw]
theorem btw_no {n lo hi : Int} : btw n lo hi = false ↔ ¬(lo ≤ n ∧ n ≤ hi) := by rw [← btw_iff]; simp

theorem in_ok (n lo hi : Int) : CallsA Tryz.prog 62 [.int n, .int lo, .int hi] [] (.bool (btw n lo hi)) [] := by
  refine z12 z20 Tryz.func62 rfl rfl 15 Tryz.ntmps62 (by simp) ?_
  repeat' (first | (apply AWP.go ok; rfl; conv => whnf) | (apply z9 <;> intro _ <;> conv => whnf))
  all_goals (refine z19 rfl ?_; (unfold btw; simp [*]; done))
end Go.Proofs.YtppafngcahgagaaGreat

namespace Go.Proofs.YtppafngcahgagaaGreat
open Go.Gl
attribute [local irreducible] z29 AWP z51 z62 z55

def idxF {α : Type} (p : α → Bool) (l : List α) : Int := match l.findIdx? p with
  | some i => i
  | none => -1

theorem idxF_some {α : Type} {p : α → Bool} {l : List α} {i : Nat} (hi : i < l.length) (h : p l[i] = true) (hn : ∀ j (hj : j < l.length), j < i → p l[j] = false) : idxF p l = i := by
  have : l.findIdx? p = some i := List.findIdx?_eq_some_iff_getElem.2 ⟨hi, h, fun j hj => by simp [hn j (by omega) hj]⟩
  simp [idxF, this]
theorem idxF_none {α : Type} {p : α → Bool} {l : List α} (hn : ∀ j (hj : j < l.length), p l[j] = false) : idxF p l = -1 := by
  have : l.findIdx? p = none := List.findIdx?_eq_none_iff.2 fun x hx => by
    obtain ⟨i, hi, rfl⟩ := List.mem_iff_getElem.1 hx
    exact hn i hi
  simp [idxF, this]

theorem idxF_any {α : Type} (p : α → Bool) (l : List α) : decide (0 ≤ idxF p l) = l.any p := by
  unfold idxF
  split
  · rename_i i e
    obtain ⟨h, hp, _⟩ := List.findIdx?_eq_some_iff_getElem.1 e
    have : l.any p = true := List.any_eq_true.2 ⟨_, List.getElem_mem h, hp⟩
    rw [this]
    simp
  · rename_i e
    have := List.findIdx?_eq_none_iff.1 e
    have : l.any p = false := List.any_eq_false.2 fun x hx => by simp [this x hx]
    rw [this]
    simp

theorem indexFunc_int (l : List Int) (hl : l.length ≤ maxLen) (p : Int → Bool) (f : FuncId) (hf : ∀ x ∈ l, CallsA Tryz.prog f [.int x] [] (.bool (p x)) []) : CallsA Tryz.prog 68 [lst 1 enI l, .fn (.func f) [] []] [] (.int (idxF p l)) [] := by
  unfold maxLen at hl
  refine z12 z20 Tryz.func68 rfl rfl 19 Tryz.ntmps68 (by simp) ?_
  repeat' ((apply AWP.go ok; rfl; conv => whnf))
  refine z73 (fun k : Nat => ([(0, lst 1 enI l), (1, .fn (.func f) [] []), (7, .int l.length), (8, .int k)], [])) (fun k => k ≤ l.length ∧ ∀ j (hj : j < l.length), j < k → p l[j] = false) (fun k => l.length - k) 0 (by simp)
    ⟨[], rfl, by decide, rfl, ⟨⟨rfl, rfl⟩, ⟨rfl, rfl⟩, ⟨rfl, rfl⟩, ⟨rfl, rfl⟩, trivial⟩, trivial⟩ ?_
  intro k hk
  repeat' (first | (apply AWP.go ok; rfl; conv => whnf) | (apply And.intro; (first | omega | (unfold inI; omega)); conv => whnf) | (with_reducible apply z14; omega; intro _; conv => whnf) | (apply z9 <;> intro _ <;> conv => whnf) | (apply z77 <;> intro _ <;> conv => whnf) | (apply z10 (hf l[k] (List.getElem_mem _)); rfl; rfl; conv => whnf))
  · rename_i h h1
    exact z37 rfl rfl (by rw [idxF_some (by omega) h1 hk.2]; rfl)
  · rename_i h h1
    refine z61 (k + 1) [] ⟨by omega, fun j hj hjk => ?_⟩ (by omega) ⟨rfl, by decide, rfl, ⟨⟨rfl, rfl⟩, ⟨rfl, rfl⟩, ⟨rfl, rfl⟩, ⟨rfl, rfl⟩, trivial⟩, trivial⟩
    rcases Nat.lt_or_ge j k with h2 | h2
    · exact hk.2 j hj h2
    · obtain rfl : j = k := by omega
      exact h1
  · exact z37 rfl rfl (by rw [idxF_none fun j hj => hk.2 j hj (by omega)]; rfl)
theorem containsFunc_int (l : List Int) (hl : l.length ≤ maxLen) (p : Int → Bool) (f : FuncId) (hf : ∀ x ∈ l, CallsA Tryz.prog f [.int x] [] (.bool (p x)) []) : CallsA Tryz.prog 108 [lst 1 enI l, .fn (.func f) [] []] [] (.bool (l.any p)) [] := by
  refine z12 z20 Tryz.func108 rfl rfl 9 Tryz.ntmps108 (by simp) ?_
  repeat' (first | (apply AWP.go ok; rfl; conv => whnf) | (apply z10 (indexFunc_int l hl p f hf); rfl; rfl; conv => whnf))
  exact z19 rfl (by rw [← idxF_any])
end Go.Proofs.YtppafngcahgagaaGreat

namespace Go.Proofs.YtppafngcahgagaaGreat
open Go.Gl
attribute [local irreducible] z29 AWP z51 z62 z55

theorem valsOk1_ok (n : Int) : CallsA Tryz.prog 182 [.int n] [] (.bool (!btw n 0 3)) [] := by
  refine z12 z20 Tryz.func182 rfl rfl 6 Tryz.ntmps182 (by simp) ?_
  repeat' (first | (apply AWP.go ok; rfl; conv => whnf) | (apply z10 (in_ok n 0 3); rfl; rfl; conv => whnf))
  exact z19 rfl rfl

/-- a state's values are three, each from 0 to 3 -/
def valsB (l : List Int) : Bool := decide ((l.length : Int) = 3) && !(l.any fun n => !btw n 0 3)

theorem valsOk_ok (l : List Int) (hl : l.length ≤ maxLen) : CallsA Tryz.prog 119 [ints l] [] (.bool (valsB l)) [] := by
  have hl' := hl
  unfold maxLen at hl'
  have hk := containsFunc_int l hl (fun n => !btw n 0 3) 182 (fun x _ => valsOk1_ok x)
  refine z12 z20 Tryz.func119 rfl rfl 11 Tryz.ntmps119 (by simp) ?_
  repeat' (first | (apply AWP.go ok; rfl; conv => whnf) | (apply z9 <;> intro _ <;> conv => whnf) | (apply z10 (hk); rfl; rfl; conv => whnf))
  all_goals (refine z19 rfl ?_; (unfold valsB; simp [*]; done))
end Go.Proofs.YtppafngcahgagaaGreat

namespace Go.Proofs.YtppafngcahgagaaGreat
open Go.Gl
attribute [local irreducible] z29 vcPick vcGuard

theorem indexFunc_state (l : List State) (hl : l.length ≤ maxLen) (p : State → Bool) (f : FuncId) (hf : ∀ x ∈ l, CallsA Tryz.prog f [z39 State.cs x] [] (.bool (p x)) []) : CallsA Tryz.prog 181 [lst 2 State.cs l, .fn (.func f) [] []] [] (.int (idxF p l)) [] := by
  unfold maxLen at hl
  refine z12 z20 Tryz.func181 rfl rfl 19 Tryz.ntmps181 (by simp) ?_
  repeat' (((apply AWP.go ok; rfl)) <;> conv => whnf)
  refine z73 (fun k : Nat => ([(0, lst 2 State.cs l), (1, .fn (.func f) [] []), (7, .int l.length), (8, .int k)], [])) (fun k => k ≤ l.length ∧ ∀ j (hj : j < l.length), j < k → p l[j] = false) (fun k => l.length - k) 0 (by simp)
    ⟨[], rfl, by decide, rfl, ⟨⟨rfl, rfl⟩, ⟨rfl, rfl⟩, ⟨rfl, rfl⟩, ⟨rfl, rfl⟩, trivial⟩, trivial⟩ ?_
  intro k hk
  repeat' ((first | (apply AWP.go ok; rfl) | (apply And.intro; first | omega | (unfold inI; omega)) | (((with_reducible apply z14; omega)); intro _) | ((first | apply z9 | apply z77) <;> intro _) | (apply z10 (hf l[k] (List.getElem_mem _)); rfl; rfl)) <;> conv => whnf)
  · rename_i h h1
    exact z37 rfl rfl (by rw [idxF_some (by omega) h1 hk.2]; rfl)
  · rename_i h h1
    refine z61 (k + 1) [] ⟨by omega, fun j hj hjk => ?_⟩ (by omega) ⟨rfl, by decide, rfl, ⟨⟨rfl, rfl⟩, ⟨rfl, rfl⟩, ⟨rfl, rfl⟩, ⟨rfl, rfl⟩, trivial⟩, trivial⟩
    rcases Nat.lt_or_ge j k with h2 | h2
    · exact hk.2 j hj h2
    · obtain rfl : j = k := by omega
      exact h1
  · exact z37 rfl rfl (by rw [idxF_none fun j hj => hk.2 j hj (by omega)]; rfl)
theorem containsFunc_state (l : List State) (hl : l.length ≤ maxLen) (p : State → Bool) (f : FuncId) (hf : ∀ x ∈ l, CallsA Tryz.prog f [z39 State.cs x] [] (.bool (p x)) []) : CallsA Tryz.prog 117 [lst 2 State.cs l, .fn (.func f) [] []] [] (.bool (l.any p)) [] := by
  refine z12 z20 Tryz.func117 rfl rfl 9 Tryz.ntmps117 (by simp) ?_
  repeat' ((first | (apply AWP.go ok; rfl) | (apply z10 (indexFunc_state l hl p f hf); rfl; rfl)) <;> conv => whnf)
  exact z19 rfl (by rw [← idxF_any])
theorem indexFunc_expr (l : List Tree) (hl : l.length ≤ maxLen) (p : Tree → Bool) (f : FuncId) (hf : ∀ x ∈ l, CallsA Tryz.prog f [z39 Tree.cs' x] [] (.bool (p x)) []) : CallsA Tryz.prog 184 [lst 3 Tree.cs' l, .fn (.func f) [] []] [] (.int (idxF p l)) [] := by
  unfold maxLen at hl
  refine z12 z20 Tryz.func184 rfl rfl 19 Tryz.ntmps184 (by simp) ?_
  repeat' (((apply AWP.go ok; rfl)) <;> conv => whnf)
  refine z73 (fun k : Nat => ([(0, lst 3 Tree.cs' l), (1, .fn (.func f) [] []), (7, .int l.length), (8, .int k)], [])) (fun k => k ≤ l.length ∧ ∀ j (hj : j < l.length), j < k → p l[j] = false) (fun k => l.length - k) 0 (by simp)
    ⟨[], rfl, by decide, rfl, ⟨⟨rfl, rfl⟩, ⟨rfl, rfl⟩, ⟨rfl, rfl⟩, ⟨rfl, rfl⟩, trivial⟩, trivial⟩ ?_
  intro k hk
  repeat' ((first | (apply AWP.go ok; rfl) | (apply And.intro; first | omega | (unfold inI; omega)) | (((with_reducible apply z14; omega)); intro _) | ((first | apply z9 | apply z77) <;> intro _) | (apply z10 (hf l[k] (List.getElem_mem _)); rfl; rfl)) <;> conv => whnf)
  · rename_i h h1
    exact z37 rfl rfl (by rw [idxF_some (by omega) h1 hk.2]; rfl)
  · rename_i h h1
    refine z61 (k + 1) [] ⟨by omega, fun j hj hjk => ?_⟩ (by omega) ⟨rfl, by decide, rfl, ⟨⟨rfl, rfl⟩, ⟨rfl, rfl⟩, ⟨rfl, rfl⟩, ⟨rfl, rfl⟩, trivial⟩, trivial⟩
    rcases Nat.lt_or_ge j k with h2 | h2
    · exact hk.2 j hj h2
    · obtain rfl : j = k := by omega
      exact h1
  · exact z37 rfl rfl (by rw [idxF_none fun j hj => hk.2 j hj (by omega)]; rfl)
theorem containsFunc_expr (l : List Tree) (hl : l.length ≤ maxLen) (p : Tree → Bool) (f : FuncId) (hf : ∀ x ∈ l, CallsA Tryz.prog f [z39 Tree.cs' x] [] (.bool (p x)) []) : CallsA Tryz.prog 123 [lst 3 Tree.cs' l, .fn (.func f) [] []] [] (.bool (l.any p)) [] := by
  refine z12 z20 Tryz.func123 rfl rfl 9 Tryz.ntmps123 (by simp) ?_
  repeat' ((first | (apply AWP.go ok; rfl) | (apply z10 (indexFunc_expr l hl p f hf); rfl; rfl)) <;> conv => whnf)
  exact z19 rfl (by rw [← idxF_any])
theorem indexFunc_ints1 (c : Int) (l : List (List Int)) (hl : l.length ≤ maxLen) (p : (List Int) → Bool) (f : FuncId) (hf : ∀ x ∈ l, CallsA Tryz.prog f [ints x, .pt [.int c]] [] (.bool (p x)) []) : CallsA Tryz.prog 183 [lst 1 encL l, .fn (.func f) [] [.pt [.int c]]] [] (.int (idxF p l)) [] := by
  unfold maxLen at hl
  refine z12 z20 Tryz.func183 rfl rfl 19 Tryz.ntmps183 (by simp) ?_
  repeat' (((apply AWP.go ok; rfl)) <;> conv => whnf)
  refine z73 (fun k : Nat => ([(0, lst 1 encL l), (1, .fn (.func f) [] [.pt [.int c]]), (7, .int l.length), (8, .int k)], [])) (fun k => k ≤ l.length ∧ ∀ j (hj : j < l.length), j < k → p l[j] = false) (fun k => l.length - k) 0 (by simp)
    ⟨[], rfl, by decide, rfl, ⟨⟨rfl, rfl⟩, ⟨rfl, rfl⟩, ⟨rfl, rfl⟩, ⟨rfl, rfl⟩, trivial⟩, trivial⟩ ?_
  intro k hk
  repeat' ((first | (apply AWP.go ok; rfl) | (apply And.intro; first | omega | (unfold inI; omega)) | (((with_reducible apply z14; omega)); intro _) | ((first | apply z9 | apply z77) <;> intro _) | (apply z10 (hf l[k] (List.getElem_mem _)); rfl; rfl)) <;> conv => whnf)
  · rename_i h h1
    exact z37 rfl rfl (by rw [idxF_some (by omega) h1 hk.2]; rfl)
  · rename_i h h1
    refine z61 (k + 1) [] ⟨by omega, fun j hj hjk => ?_⟩ (by omega) ⟨rfl, by decide, rfl, ⟨⟨rfl, rfl⟩, ⟨rfl, rfl⟩, ⟨rfl, rfl⟩, ⟨rfl, rfl⟩, trivial⟩, trivial⟩
    rcases Nat.lt_or_ge j k with h2 | h2
    · exact hk.2 j hj h2
    · obtain rfl : j = k := by omega
      exact h1
  · exact z37 rfl rfl (by rw [idxF_none fun j hj => hk.2 j hj (by omega)]; rfl)
theorem containsFunc_ints1 (c : Int) (l : List (List Int)) (hl : l.length ≤ maxLen) (p : (List Int) → Bool) (f : FuncId) (hf : ∀ x ∈ l, CallsA Tryz.prog f [ints x, .pt [.int c]] [] (.bool (p x)) []) : CallsA Tryz.prog 120 [lst 1 encL l, .fn (.func f) [] [.pt [.int c]]] [] (.bool (l.any p)) [] := by
  refine z12 z20 Tryz.func120 rfl rfl 9 Tryz.ntmps120 (by simp) ?_
  repeat' ((first | (apply AWP.go ok; rfl) | (apply z10 (indexFunc_ints1 c l hl p f hf); rfl; rfl)) <;> conv => whnf)
  exact z19 rfl (by rw [← idxF_any])
end Go.Proofs.YtppafngcahgagaaGreat

namespace Go.Proofs.YtppafngcahgagaaGreat
open Go.Gl
attribute [local irreducible] z29 AWP z51 z62 z55

theorem indexInt_ok (l : List Int) (hl : l.length ≤ maxLen) (v : Int) : CallsA Tryz.prog 66 [ints l, .int v] [] (.int (idxF (fun x => decide (v = x)) l)) [] := by
  unfold maxLen at hl
  refine z12 z20 Tryz.func66 rfl rfl 19 Tryz.ntmps66 (by simp) ?_
  repeat' (((apply AWP.go ok; rfl)) <;> conv => whnf)
  refine z73 (fun k : Nat => ([(0, ints l), (1, .int v), (7, .int l.length), (8, .int k)], [])) (fun k => k ≤ l.length ∧ ∀ j (hj : j < l.length), j < k → decide (v = l[j]) = false) (fun k => l.length - k) 0 (by simp)
    ⟨[], rfl, by decide, rfl, ⟨⟨rfl, rfl⟩, ⟨rfl, rfl⟩, ⟨rfl, rfl⟩, ⟨rfl, rfl⟩, trivial⟩, trivial⟩ ?_
  intro k hk
  repeat' ((first | (apply AWP.go ok; rfl) | (apply And.intro; first | omega | (unfold inI; omega)) | (((with_reducible apply z14; omega)); intro _) | ((apply z9) <;> intro _)) <;> conv => whnf)
  · rename_i h h1
    exact z37 rfl rfl (by rw [idxF_some (p := fun x => decide (v = x)) (by omega) (decide_eq_true h1) hk.2]; rfl)
  · rename_i h h1
    refine z61 (k + 1) [] ⟨by omega, fun j hj hjk => ?_⟩ (by omega) ⟨rfl, by decide, rfl, ⟨⟨rfl, rfl⟩, ⟨rfl, rfl⟩, ⟨rfl, rfl⟩, ⟨rfl, rfl⟩, trivial⟩, trivial⟩
    rcases Nat.lt_or_ge j k with h2 | h2
    · exact hk.2 j hj h2
    · obtain rfl : j = k := by omega
      exact decide_eq_false h1
  · exact z37 rfl rfl (by rw [idxF_none (p := fun x => decide (v = x)) fun j hj => hk.2 j hj (by omega)]; rfl)

theorem containsInt_ok (l : List Int) (hl : l.length ≤ maxLen) (v : Int) : CallsA Tryz.prog 84 [ints l, .int v] [] (.bool (decide (v ∈ l))) [] := by
  refine z12 z20 Tryz.func84 rfl rfl 9 Tryz.ntmps84 (by simp) ?_
  repeat' ((first | (apply AWP.go ok; rfl) | (apply z10 (indexInt_ok l hl v); rfl; rfl)) <;> conv => whnf)
  have e : decide (v ∈ l) = l.any (fun x => decide (v = x)) := by
    rw [Bool.eq_iff_iff]; simp
  exact z19 rfl (by rw [e, ← idxF_any])

theorem slice_take {α : Type} (w : Nat) (e : α → List AC) (l : List α) (k : Nat) (hk : k ≤ l.length) : AC.list w ((k : Int).toNat - (0 : Int).toNat) (((l.map e).drop (0 : Int).toNat).take ((k : Int).toNat - (0 : Int).toNat)) = lst w e (l.take k) := by
  unfold lst
  rw [List.length_take, List.map_take]
  simp only [Int.toNat_natCast, Int.toNat_zero, Nat.sub_zero, List.drop_zero]
  rw [Nat.min_eq_left hk]

/-- different numbers, each from 0 to n - 1 -/
def Distinct (l : List Int) (n : Int) (k : Nat) : Prop := ∀ i (h : i < l.length), i < k → (0 ≤ l[i] ∧ l[i] ≤ n - 1) ∧ l[i] ∉ l.take i
noncomputable instance {l : List Int} {n : Int} {k : Nat} : Decidable (Distinct l n k) := Classical.propDecidable _
theorem distinct_ok (l : List Int) (hl : l.length ≤ maxLen) (n : Int) (h0 : 0 ≤ n) (h1 : n ≤ maxLen) : CallsA Tryz.prog 122 [ints l, .int n] [] (.bool (decide (Distinct l n l.length))) [] := by
  have hl' := hl
  unfold maxLen at hl' h1
  refine z12 z20 Tryz.func122 rfl rfl 27 Tryz.ntmps122 (by simp) ?_
  repeat' (((apply AWP.go ok; rfl)) <;> conv => whnf)
  refine z73 (fun k : Nat => ([(0, ints l), (1, .int n), (7, ints l), (8, .int l.length), (9, .int k)], [])) (fun k => k ≤ l.length ∧ Distinct l n k) (fun k => l.length - k) 0 ⟨by omega, fun i h hi => by omega⟩
    ⟨[], rfl, by decide, rfl, ⟨⟨rfl, rfl⟩, ⟨rfl, rfl⟩, ⟨rfl, rfl⟩, ⟨rfl, rfl⟩, ⟨rfl, rfl⟩, trivial⟩, trivial⟩ ?_
  intro k hk
  repeat' ((first | (apply AWP.go ok; rfl) | (apply And.intro; first | omega | (unfold inI; omega)) | (((with_reducible apply z14; omega)); intro _) | ((first | apply z9 | apply z89) <;> intro _) | (apply z10 (in_ok l[k] 0 (n - 1)); rfl; rfl)) <;> conv => whnf)
  · rename_i hb
    refine z19 rfl (decide_eq_false fun hd => ?_)
    have := (hd k ‹_› ‹_›).1
    rw [btw_no] at hb
    exact hb this
  · rename_i hb
    apply z10 (containsInt_ok (l.take k) (by rw [List.length_take]; omega) l[k])
    · show _ = [AC.list 1 _ _, _]
      rw [show AC.list 1 (l.take k).length ((l.take k).map enI) = _ from (slice_take 1 enI l k hk.1).symm]
      rfl
    · rfl
    conv => whnf
    repeat' ((first | (apply AWP.go ok; rfl) | (apply And.intro; (unfold inI; omega)) | ((apply z9) <;> intro _)) <;> conv => whnf)
    · rename_i h2
      exact z19 rfl (decide_eq_false fun hd => (hd k ‹_› ‹_›).2 h2)
    · rename_i h2
      refine z61 (k + 1) [] ⟨by omega, fun i hi hik => ?_⟩ (by omega) ⟨rfl, by decide, rfl, ⟨⟨rfl, rfl⟩, ⟨rfl, rfl⟩, ⟨rfl, rfl⟩, ⟨rfl, rfl⟩, ⟨rfl, rfl⟩, trivial⟩, trivial⟩
      rcases Nat.lt_or_ge i k with h3 | h3
      · exact hk.2 i hi h3
      · obtain rfl : i = k := by omega
        exact ⟨btw_iff.1 hb, h2⟩
  · exact z19 rfl (decide_eq_true fun i h hi => hk.2 i h (by omega))
end Go.Proofs.YtppafngcahgagaaGreat

namespace Go.Proofs.YtppafngcahgagaaGreat
open Go.Gl
attribute [local irreducible] z29 AWP z51 z62 z55

theorem graphValid1_ok (s : State) (hs : s.mx) : CallsA Tryz.prog 118 [z39 State.cs s] [] (.bool (!valsB s.b)) [] := by
  refine z12 z20 Tryz.func118 rfl rfl 7 Tryz.ntmps118 (by simp) ?_
  repeat' (first | (apply AWP.go ok; rfl; conv => whnf) | (apply z10 (valsOk_ok s.b hs.2); rfl; rfl; conv => whnf))
  exact z19 rfl rfl

/-- a list of successors -/
noncomputable def succB (n : Int) (l : List Int) : Bool := !decide ((l.length : Int) = 0) && decide (Distinct l n l.length)

theorem graphValid2_ok (c : Int) (h0 : 0 ≤ c) (h1 : c ≤ maxLen) (l : List Int) (hl : l.length ≤ maxLen) : CallsA Tryz.prog 121 [ints l, .pt [.int c]] [] (.bool (!succB c l)) [] := by
  have hl' := hl
  unfold maxLen at hl'
  refine z12 z20 Tryz.func121 rfl rfl 13 Tryz.ntmps121 (by simp) ?_
  repeat' (first | (apply AWP.go ok; rfl; conv => whnf) | (apply z9 <;> intro _ <;> conv => whnf) | (apply z10 (distinct_ok l hl c h0 h1); rfl; rfl; conv => whnf))
  all_goals (refine z19 rfl ?_; first | (unfold succB; simp [*]; done) | (unfold succB; simp_all; done))
end Go.Proofs.YtppafngcahgagaaGreat

namespace Go.Proofs.YtppafngcahgagaaGreat
open Go.Gl
attribute [local irreducible] z29 AWP z51 z62 z55

def Graph.mx (g : Graph) : Prop := State.mxs g.st ∧ g.nx.length ≤ maxLen ∧ ∀ l ∈ g.nx, l.length ≤ maxLen
noncomputable def graphB (g : Graph) : Bool := btw g.st.length 1 60 && (decide ((g.nx.length : Int) = g.st.length) && (!(g.st.any fun s => !valsB s.b) && !(g.nx.any fun l => !succB g.st.length l)))

theorem graphValid_ok (g : Graph) (hg : g.mx) : CallsA Tryz.prog 54 [.agg g.cs] [] (.bool (graphB g)) [] := by
  obtain ⟨hs, hn, hm⟩ := hg
  have hl1 := hs.1
  unfold maxLen at hl1
  have k1 := containsFunc_state g.st hs.1 (fun s => !valsB s.b) 118 (fun s hx => graphValid1_ok s (hs.2 s hx))
  have k2 := containsFunc_ints1 (g.st.length : Int) g.nx hn (fun l => !succB g.st.length l) 121 (fun l hx => graphValid2_ok _ (by omega) (by unfold maxLen; omega) l (hm l hx))
  refine z12 z20 Tryz.func54 rfl rfl 29 Tryz.ntmps54 (by simp) ?_
  repeat' (first | (apply AWP.go ok; rfl; conv => whnf) | (apply z9 <;> intro _ <;> conv => whnf) | (apply z89 <;> intro _ <;> conv => whnf) | (apply z77 <;> intro _ <;> conv => whnf) | (apply z10 (in_ok (g.st.length : Int) 1 60); rfl; rfl; conv => whnf) | (apply z10 (k1); rfl; rfl; conv => whnf) | (apply call_bor [1] (k2); rfl; rfl; rfl; rfl; conv => whnf))
  all_goals (refine z19 rfl ?_; (unfold graphB; simp [*]; done))
end Go.Proofs.YtppafngcahgagaaGreat

namespace Go.Proofs.YtppafngcahgagaaGreat
open Go.Gl
attribute [local irreducible] z29 AWP z51 z62 z55

theorem containsS_expr_idx {d : Int} (l : List Tree) (hl : l.length ≤ maxLen) (p : Tree → Int → Bool) (nx : Tree → Int → Int) (okS : Int → Prop) (hok : ∀ x s, okS s → p x s = false → okS (nx x s)) (f : FuncId) (s : Int) (h0 : okS s)
    (hf : ∀ x ∈ l, ∀ s, okS s → CallsA Tryz.prog f [z39 Tree.cs' x, .pt [.int d], .ptr 1 none 0] [.cells 1 [[.int s]], .cells 1 [[.ptr 0 none 0]]] (.bool (p x s)) [.cells 1 [[.int (nx x s)]], .cells 1 [[.ptr 0 none 0]]]) :
    CallsA Tryz.prog 184 [lst 3 Tree.cs' l, .fn (.func f) [] [.pt [.int d], .ptr 1 none 0]] [.cells 1 [[.int s]], .cells 1 [[.ptr 0 none 0]]] (.int (idxS p nx l s 0).1) [.cells 1 [[.int (idxS p nx l s 0).2]], .cells 1 [[.ptr 0 none 0]]] := by
  unfold maxLen at hl
  refine z12 z20 Tryz.func184 rfl rfl 19 Tryz.ntmps184 (by simp) ?_
  repeat' (((apply AWP.go ok; rfl)) <;> conv => whnf)
  refine z73 (fun x : Nat × Int => ([(0, lst 3 Tree.cs' l), (1, .fn (.func f) [] [.pt [.int d], .ptr 1 none 0]), (7, .int l.length), (8, .int x.1)], [.cells 1 [[.int x.2]], .cells 1 [[.ptr 0 none 0]]])) (fun x => x.1 ≤ l.length ∧ okS x.2 ∧ idxS p nx l s 0 = idxS p nx (l.drop x.1) x.2 x.1) (fun x => l.length - x.1) (0, s) ⟨by omega, h0, rfl⟩
    ⟨[0, 1], rfl, by decide, rfl, ⟨⟨rfl, rfl⟩, ⟨rfl, rfl⟩, ⟨rfl, rfl⟩, ⟨rfl, rfl⟩, trivial⟩, ⟨z17 rfl rfl, z17 rfl rfl, trivial⟩⟩ ?_
  rintro ⟨k, t⟩ ⟨hk1, hk2, hk3⟩
  dsimp only at hk1 hk2 hk3
  repeat' ((first | (apply AWP.go ok; rfl) | (apply And.intro; first | omega | (unfold inI; omega)) | (((with_reducible apply z14; omega)); intro _) | ((first | apply z9 | apply z77) <;> intro _) | (((apply z6 [0, 1] [] [] (hf l[k] (List.getElem_mem _) t hk2); rfl; (focus ((repeat' first | exact z4 | apply z5) <;> rfl)))); rfl; rfl; rfl; rfl; rfl; (focus ((repeat' first | exact z13 | apply z11) <;> exact z23 rfl rfl)); (exact .inl rfl))) <;> conv => whnf)
  · rename_i h hkl h1
    rw [List.drop_eq_getElem_cons hkl, idxS, if_pos h1] at hk3
    rw [hk3]
    exact z45 [0, 1] (by decide) rfl rfl rfl ⟨z17 rfl rfl, z17 rfl rfl, trivial⟩
  · rename_i h hkl h1
    rw [List.drop_eq_getElem_cons hkl, idxS, if_neg (by rw [h1]; simp)] at hk3
    exact z61 (k + 1, nx l[k] t) [0, 1] ⟨by dsimp only; omega, hok _ _ hk2 h1, hk3⟩ (by dsimp only; omega) ⟨rfl, by decide, rfl, ⟨⟨rfl, rfl⟩, ⟨rfl, rfl⟩, ⟨rfl, rfl⟩, ⟨rfl, rfl⟩, trivial⟩, ⟨z17 rfl rfl, z17 rfl rfl, trivial⟩⟩
  · rw [List.drop_eq_nil_of_le (by omega), idxS] at hk3
    rw [hk3]
    exact z45 [0, 1] (by decide) rfl rfl rfl ⟨z17 rfl rfl, z17 rfl rfl, trivial⟩
theorem containsS_expr {d : Int} (l : List Tree) (hl : l.length ≤ maxLen) (p : Tree → Int → Bool) (nx : Tree → Int → Int) (okS : Int → Prop) (hok : ∀ x s, okS s → p x s = false → okS (nx x s)) (f : FuncId) (s : Int) (h0 : okS s)
    (hf : ∀ x ∈ l, ∀ s, okS s → CallsA Tryz.prog f [z39 Tree.cs' x, .pt [.int d], .ptr 1 none 0] [.cells 1 [[.int s]], .cells 1 [[.ptr 0 none 0]]] (.bool (p x s)) [.cells 1 [[.int (nx x s)]], .cells 1 [[.ptr 0 none 0]]]) :
    CallsA Tryz.prog 123 [lst 3 Tree.cs' l, .fn (.func f) [] [.pt [.int d], .ptr 1 none 0]] [.cells 1 [[.int s]], .cells 1 [[.ptr 0 none 0]]] (.bool (decide (0 ≤ (idxS p nx l s 0).1))) [.cells 1 [[.int (idxS p nx l s 0).2]], .cells 1 [[.ptr 0 none 0]]] := by
  refine z12 z20 Tryz.func123 rfl rfl 9 Tryz.ntmps123 (by simp) ?_
  repeat' ((first | (apply AWP.go ok; rfl) | (((apply z6 [0, 1] [] [] (containsS_expr_idx (d := d) l hl p nx okS hok f s h0 hf); rfl; (focus ((repeat' first | exact z4 | apply z5) <;> rfl)))); rfl; rfl; rfl; rfl; rfl; (focus ((repeat' first | exact z13 | apply z11) <;> exact z23 rfl rfl)); (exact .inl rfl))) <;> conv => whnf)
  exact z45 [0, 1] (by decide) rfl rfl rfl ⟨z17 rfl rfl, z17 rfl rfl, trivial⟩

theorem walk_ok (t : Tree) : t.mx → ∀ d n : Int, 0 ≤ d → d ≤ 100 → 0 ≤ n → n ≤ 15 → CallsA Tryz.prog 215 [z39 Tree.cs' t, .int d, .ptr 0 none 0] [.cells 1 [[.int n]]] (.bool (t.walkE d n).2) [.cells 1 [[.int (t.walkE d n).1]]] := by
  induction t using Tree.ind with | h t ih => ?_
  intro hm d n hd0 hd1 h0 h1
  rw [Tree.mx_iff] at hm
  have hs := Tree.walkE_spec.1
  have hk : d ≤ 6 → n + 1 ≤ 15 → CallsA Tryz.prog 123 [lst 3 Tree.cs' t.kids, .fn (.func 247) [] [.pt [.int d], .ptr 1 none 0]] [.cells 1 [[.int (n + 1)]], .cells 1 [[.ptr 0 none 0]]] (.bool (!(Tree.walkEs t.kids (d + 1) (n + 1)).2)) [.cells 1 [[.int (Tree.walkEs t.kids (d + 1) (n + 1)).1]], .cells 1 [[.ptr 0 none 0]]] := by
    intro hd hn
    have h := containsS_expr (d := d) t.kids hm.1 (fun x s => !(x.walkE (d + 1) s).2) (fun x s => (x.walkE (d + 1) s).1) (fun s => 0 ≤ s ∧ s ≤ 15) (fun x s h1 h2 => by
      obtain ⟨a1, a2, a3, a4⟩ := hs x (d + 1) s h1.1 h1.2
      have h3 : (x.walkE (d + 1) s).2 = true := by simpa using h2
      have := (a1.1 h3).2
      rw [← a2 h3] at this
      exact ⟨by omega, this⟩) 247 (n + 1) ⟨by omega, by omega⟩ (fun x hx s h => by
        have hc := ih x hx (hm.2 x hx) (d + 1) s (by omega) (by omega) h.1 h.2
        refine z12 z20 Tryz.func247 rfl rfl 11 Tryz.ntmps247 (by simp) ?_
        repeat' ((first | (apply AWP.go ok; rfl) | (apply And.intro; (unfold inI; omega)) | (((apply z6 [0] [] [] (hc); rfl; (focus ((repeat' first | exact z4 | apply z5) <;> rfl)))); rfl; rfl; rfl; rfl; rfl; (focus ((repeat' first | exact z13 | apply z11) <;> exact z23 rfl rfl)); (exact .inl rfl))) <;> conv => whnf)
        exact z45 [0, 1] (by decide) rfl rfl rfl ⟨z17 rfl rfl, z17 rfl rfl, trivial⟩)
    rw [Tree.walkEs_idx (d + 1) t.kids (n + 1) 0, Bool.not_not]
    exact h
  have hk2 := fun h1 h2 => by
    have := hk h1 h2
    unfold lst at this
    rw [← Tree.cs_eq] at this
    exact this
  refine z12 z20 Tryz.func215 rfl rfl 55 Tryz.ntmps215 (by simp) ?_
  repeat' ((first | (apply AWP.go ok; rfl) | (apply And.intro; (unfold inI; omega)) | ((first | apply z9 | apply z40 | apply z89) <;> intro _) | (apply z10 (in_ok _ 1 9); rfl; rfl) | (apply z10 (in_ok _ 0 3); rfl; rfl) | (apply z10 (in_ok _ 0 2); rfl; rfl) | (apply z10 (in_ok _ 0 0); rfl; rfl) | (((apply z6 [0, 3] [2] [] (hk2 (by omega) (by omega)); rfl; (focus ((repeat' first | exact z4 | apply z5) <;> rfl)))); rfl; rfl; rfl; rfl; rfl; (focus ((repeat' first | exact z13 | apply z11) <;> exact z23 rfl rfl)); ((refine .inr ⟨rfl, ?_⟩; repeat' first | exact True.intro | apply And.intro | exact rfl)))) <;> conv => whnf)
  all_goals first
    | (have e : t.walkE d n = (n + 1, false) := by
        rw [Tree.walkE_eq, if_neg]
        clear hk hk2 hs ih
        rintro ⟨c1, c2, c3, c4, c5⟩
        try simp only [btw_no, btw_iff] at *
        unfold mostV at c4
        unfold arity at c5
        grind
       rw [e]
       exact z45 [0] (by decide) rfl rfl rfl ⟨z17 rfl rfl, trivial⟩)
    | (have e : t.walkE d n = Tree.walkEs t.kids (d + 1) (n + 1) := by
        rw [Tree.walkE_eq, if_pos]
        clear hk hk2 hs ih
        try simp only [btw_no, btw_iff] at *
        unfold mostV arity
        grind
       rw [e]
       refine z45 [0] (by decide) rfl rfl ?_ ⟨z17 rfl rfl, trivial⟩
       show AC.raw (.bool (!!_)) = _
       rw [Bool.not_not]; rfl)
end Go.Proofs.YtppafngcahgagaaGreat

namespace Go.Proofs.YtppafngcahgagaaGreat
open Go.Gl
attribute [local irreducible] z29 AWP z51 z62 z55

theorem Tree.arg_eq (t : Tree) : z39 Tree.cs' t = .agg [.int t.kind, .int t.val, lst 3 Tree.cs' t.kids] := by
  simp only [z39, Tree.cs', lst, Tree.lst_eq]

theorem exprNodes_ok (t : Tree) (hm : t.mx) : CallsA Tryz.prog 185 [z39 Tree.cs' t] [] (.int (if t.exprB then t.count 6 else 0)) [] := by
  have hk := walk_ok t hm 1 0 (by omega) (by omega) (by omega) (by omega)
  obtain ⟨_, h2, _, _⟩ := Tree.walkE_spec.1 t 1 0 (by omega) (by omega)
  refine z12 z20 Tryz.func185 rfl rfl 8 Tryz.ntmps185 (by simp) ?_
  repeat' ((first | (apply AWP.go ok; rfl) | ((apply z89) <;> intro _) | (((apply z6 [1] [] [] (hk); rfl; (focus ((repeat' first | exact z4 | apply z5) <;> rfl)))); rfl; rfl; rfl; rfl; rfl; (focus ((repeat' first | exact z13 | apply z11) <;> exact z23 rfl rfl)); (exact .inl rfl))) <;> conv => whnf)
  · rename_i h
    exact z37 rfl rfl (by rw [if_neg (by unfold Tree.exprB; rw [h]; simp)]; rfl)
  · rename_i h
    have e := h2 h
    rw [Int.zero_add] at e
    exact z37 rfl rfl (by rw [if_pos (show t.exprB = true from h), show t.count 6 = (t.walkE 1 0).1 from e.symm]; rfl)

theorem exprValid_ok (t : Tree) (hm : t.mx) : CallsA Tryz.prog 125 [z39 Tree.cs' t] [] (.bool t.exprB) [] := by
  refine z12 z20 Tryz.func125 rfl rfl 6 Tryz.ntmps125 (by simp) ?_
  repeat' ((first | (apply AWP.go ok; rfl) | (apply z10 (exprNodes_ok t hm); rfl; rfl)) <;> conv => whnf)
  refine z19 rfl ?_
  have := Tree.count_pos.1 t 6
  cases t.exprB
  · simp
  · simp; omega

theorem labelsValid1_ok (t : Tree) (hm : t.mx) : CallsA Tryz.prog 124 [z39 Tree.cs' t] [] (.bool (!t.exprB)) [] := by
  refine z12 z20 Tryz.func124 rfl rfl 6 Tryz.ntmps124 (by simp) ?_
  repeat' ((first | (apply AWP.go ok; rfl) | (apply z10 (exprValid_ok t hm); rfl; rfl)) <;> conv => whnf)
  exact z19 rfl rfl

/-- labels: three expressions -/
def labelsB (l : List Tree) : Bool := decide ((l.length : Int) = 3) && l.all Tree.exprB
theorem labelsValid_ok (l : List Tree) (hl : l.length ≤ maxLen) (hm : ∀ t ∈ l, t.mx) : CallsA Tryz.prog 55 [lst 3 Tree.cs' l] [] (.bool (labelsB l)) [] := by
  have hk := containsFunc_expr l hl (fun t => !t.exprB) 124 (fun t ht => labelsValid1_ok t (hm t ht))
  refine z12 z20 Tryz.func55 rfl rfl 11 Tryz.ntmps55 (by simp) ?_
  repeat' ((first | (apply AWP.go ok; rfl) | ((apply z9) <;> intro _) | (apply z10 (hk); rfl; rfl)) <;> conv => whnf)
  · refine z19 rfl ?_
    rename_i h
    unfold labelsB
    rw [decide_eq_true h, List.all_eq_not_any_not]; rfl
  · refine z19 rfl ?_
    rename_i h
    unfold labelsB
    rw [decide_eq_false h]; rfl

theorem l1Arity_ok (k : Int) : CallsA Tryz.prog 248 [.int k] [] (.int (arity k)) [] := by
  refine z12 z20 Tryz.func248 rfl rfl 15 Tryz.ntmps248 (by simp) ?_
  repeat' ((first | (apply AWP.go ok; rfl) | ((apply z9) <;> intro _)) <;> conv => whnf)
  all_goals (refine z37 rfl rfl ?_; unfold arity; first | (rw [if_pos (by omega)]; rfl) | (rw [if_neg (by omega), if_pos (by omega)]; rfl) | (rw [if_neg (by omega), if_neg (by omega), if_pos (by omega)]; rfl) | (rw [if_neg (by omega), if_neg (by omega), if_neg (by omega)]; rfl))

theorem shapes_all (l : List Tree) (d : Int) : Tree.shapes l d = l.all (fun t => t.shape d) := by
  induction l with
  | nil => rfl
  | cons t l ih => simp [Tree.shapes, ih]
theorem shape_eq (t : Tree) (d : Int) : t.shape d = (decide (1 ≤ d ∧ (t.kids.length : Int) = arity t.kind ∧ 0 ≤ t.val ∧ t.val ≤ mostV t.kind) && t.kids.all fun t => t.shape (d - 1)) := by
  cases t; simp only [Tree.shape, Tree.kids, Tree.kind, Tree.val, shapes_all]; rfl

theorem l1Shape_ok (t : Tree) : t.mx → ∀ d : Int, -100 ≤ d → d ≤ 100 → CallsA Tryz.prog 218 [z39 Tree.cs' t, .int d] [] (.bool (t.shape d)) [] := by
  induction t using Tree.ind with | h t ih => ?_
  intro hm d h0 h1
  rw [Tree.mx_iff] at hm
  have hl := hm.1
  unfold maxLen at hl
  rw [Tree.arg_eq, shape_eq]
  refine z12 z20 Tryz.func218 rfl rfl 49 Tryz.ntmps218 (by simp) ?_
  repeat' ((first | (apply AWP.go ok; rfl) | (apply z41; kernel_rfl) | ((first | apply z9 | apply z40) <;> intro _) | (apply z10 (l1Arity_ok _); rfl; rfl)) <;> conv => whnf)
  all_goals first
    | (refine z19 rfl ?_
       rw [decide_eq_false]
       · rfl
       · clear ih
         rintro ⟨c1, c2, c3, c4⟩
         unfold mostV at c4
         grind)
    | (have hg : decide (1 ≤ d ∧ (t.kids.length : Int) = arity t.kind ∧ 0 ≤ t.val ∧ t.val ≤ mostV t.kind) = true := by
         clear ih
         refine decide_eq_true ?_
         unfold mostV
         grind
       rw [hg, Bool.true_and]
       refine z73 (fun k : Nat => ([(1, .int d), (2, .ptr 0 none 0), (6, .int k)], [.cells 3 [[.int t.kind, .int t.val, lst 3 Tree.cs' t.kids]]])) (fun k => k ≤ t.kids.length ∧ (t.kids.all fun t => t.shape (d - 1)) = (t.kids.drop k).all fun t => t.shape (d - 1)) (fun k => t.kids.length - k) 0 ⟨by omega, rfl⟩ ⟨[0], rfl, by decide, rfl, by repeat' (first | exact True.intro | exact ⟨rfl, rfl⟩ | apply And.intro), by repeat' (first | exact True.intro | exact z17 rfl rfl | apply And.intro)⟩ ?_
       intro k hk
       repeat' ((first | (apply AWP.go ok; rfl) | (apply And.intro; first | omega | (unfold inI; omega)) | (((with_reducible apply z14; omega)); intro _) | ((first | apply z9 | apply z89) <;> intro _) | (apply z10 (ih t.kids[k] (List.getElem_mem _) (hm.2 _ (List.getElem_mem _)) (d - 1) (by omega) (by omega)); rfl; rfl)) <;> conv => whnf)
       · rename_i h1
         exact z19 rfl (by rw [hk.2, z113 _ _ _ (by assumption)]; simp [h1])
       · rename_i h1
         exact z61 (k + 1) [0] ⟨by omega, by rw [hk.2, z113 _ _ _ (by assumption)]; simp [h1]⟩ (by omega) ⟨rfl, by decide, rfl, by repeat' (first | exact True.intro | exact ⟨rfl, rfl⟩ | apply And.intro), by repeat' (first | exact True.intro | exact z17 rfl rfl | apply And.intro)⟩
       · exact z19 rfl (by rw [hk.2, z107 _ _ _ (by omega)]))

theorem count_eq (t : Tree) (d : Int) : t.count d = if 0 < d then 1 + (t.kids.map fun t => t.count (d - 1)).sum else 1 := by
  have : ∀ (l : List Tree) d, Tree.counts l d = (l.map fun t => t.count d).sum := by
    intro l d
    induction l with
    | nil => rfl
    | cons t l ih => simp [Tree.counts, ih]
  cases t; simp only [Tree.count, Tree.kids, this]

/-- below a shape of depth d lie at most 2^d - 1 nodes -/
theorem count_le (t : Tree) : ∀ d n : Nat, t.shape d = true → t.count n ≤ 2 ^ d - 1 := by
  induction t using Tree.ind with | h t ih => ?_
  intro d n h
  rw [shape_eq, Bool.and_eq_true, decide_eq_true_eq] at h
  obtain ⟨⟨h1, h2, _, _⟩, h3⟩ := h
  rw [List.all_eq_true] at h3
  obtain ⟨d, rfl⟩ : ∃ e, d = e + 1 := ⟨d - 1, by omega⟩
  have e : ((d + 1 : Nat) : Int) - 1 = (d : Nat) := by omega
  rw [e] at h3
  rw [count_eq]
  have hp : (1 : Int) ≤ 2 ^ d := by exact_mod_cast Nat.one_le_two_pow
  have hq : ((2 : Int) ^ (d + 1)) = 2 * 2 ^ d := by rw [Int.pow_succ]; omega
  split
  · rename_i hn
    obtain ⟨n, rfl⟩ : ∃ e, n = e + 1 := ⟨n - 1, by omega⟩
    have e : ((n + 1 : Nat) : Int) - 1 = (n : Nat) := by omega
    rw [e]
    have hl : (t.kids.length : Int) ≤ 2 := by rw [h2]; unfold arity; grind
    have hk : ∀ u ∈ t.kids, u.count n ≤ 2 ^ d - 1 := fun u hu => ih u hu d n (h3 u hu)
    match hkk : t.kids with
    | [] => simp only [List.map_nil, List.sum_nil]; omega
    | [a] =>
      have := hk a (by simp [hkk])
      simp only [List.map_cons, List.map_nil, List.sum_cons, List.sum_nil]; omega
    | [a, b] =>
      have := hk a (by simp [hkk])
      have := hk b (by simp [hkk])
      simp only [List.map_cons, List.map_nil, List.sum_cons, List.sum_nil]; omega
    | a :: b :: c :: r => rw [hkk] at hl; simp only [List.length_cons] at hl; omega
  · omega

theorem sum_step (f : Tree → Int) (l : List Tree) (k : Nat) (hk : k < l.length) : ((l.take (k + 1)).map f).sum = ((l.take k).map f).sum + f l[k] := by
  rw [List.take_succ_eq_append_getElem hk, List.map_append, List.sum_append]; simp

theorem count_bound (t : Tree) (e d : Int) (he : e ≤ 50) (hd : 0 ≤ d) (h : t.shape e = true) : t.count d ≤ 2 ^ 50 := by
  have h1 : 1 ≤ e := by
    rw [shape_eq, Bool.and_eq_true, decide_eq_true_eq] at h; exact h.1.1
  obtain ⟨n, rfl⟩ := Int.eq_ofNat_of_zero_le (show 0 ≤ e by omega)
  obtain ⟨m, rfl⟩ := Int.eq_ofNat_of_zero_le hd
  have h2 := count_le t n m h
  have h4 : (2 : Int) ^ n ≤ 2 ^ 50 := by exact_mod_cast Nat.pow_le_pow_right (by omega) (by omega)
  omega

theorem l1Count_ok (t : Tree) : t.mx → ∀ e d : Int, e ≤ 50 → 0 ≤ d → d ≤ 50 → t.shape e = true → CallsA Tryz.prog 219 [z39 Tree.cs' t, .int d] [] (.int (t.count d)) [] := by
  induction t using Tree.ind with | h t ih => ?_
  intro hm e d h0 h1 h2 hs
  rw [Tree.mx_iff] at hm
  rw [shape_eq, Bool.and_eq_true, decide_eq_true_eq, List.all_eq_true] at hs
  obtain ⟨⟨hs1, hs2, _, _⟩, hs3⟩ := hs
  have hl : (t.kids.length : Int) ≤ 2 := by rw [hs2]; unfold arity; grind
  rw [Tree.arg_eq, count_eq]
  have hb : 0 < d → ∀ k, k ≤ t.kids.length → 0 ≤ ((t.kids.take k).map fun t => t.count (d - 1)).sum ∧ ((t.kids.take k).map fun t => t.count (d - 1)).sum ≤ k * 2 ^ 50 := by
    intro hd k
    induction k with
    | zero => intro _; simp
    | succ k ihk =>
      intro hk
      have h1 := ihk (by omega)
      rw [sum_step _ _ _ (by omega)]
      have h2 := count_bound t.kids[k] (e - 1) (d - 1) (by omega) (by omega) (hs3 _ (List.getElem_mem _))
      have h3 := Tree.count_pos.1 t.kids[k] (d - 1)
      omega
  refine z12 z20 Tryz.func219 rfl rfl 29 Tryz.ntmps219 (by simp) ?_
  repeat' (((apply AWP.go ok; rfl)) <;> conv => whnf)
  by_cases hd : 0 < d
  · rw [if_pos hd]
    refine z73 (fun k : Nat => ([(1, .int d), (2, .ptr 0 none 0), (5, .int (1 + ((t.kids.take k).map fun t => t.count (d - 1)).sum)), (6, .int k)], [.cells 3 [[.int t.kind, .int t.val, lst 3 Tree.cs' t.kids]]])) (fun k => k ≤ t.kids.length) (fun k => t.kids.length - k) 0 (by omega) ⟨[0], rfl, by decide, rfl, by repeat' (first | exact True.intro | exact ⟨rfl, rfl⟩ | apply And.intro), by repeat' (first | exact True.intro | exact z17 rfl rfl | apply And.intro)⟩ ?_
    intro k hk
    have hbk := hb hd k hk
    have hbk1 := fun h => hb hd (k + 1) h
    have hss := fun h => sum_step (fun t => t.count (d - 1)) t.kids k h
    repeat' ((first | (apply AWP.go ok; rfl) | (apply And.intro; first | omega | (unfold inI; omega)) | (((with_reducible apply z14; omega)); intro _) | ((apply z9) <;> intro _) | (apply z10 (ih t.kids[k] (List.getElem_mem _) (hm.2 _ (List.getElem_mem _)) (e - 1) (d - 1) (by omega) (by omega) (by omega) (hs3 _ (List.getElem_mem _))); rfl; rfl)) <;> conv => whnf)
    · have e1 := hss ‹_›
      have e2 := hbk1 (by omega)
      refine And.intro (by unfold inI; omega) ?_
      conv => whnf
      repeat' ((first | (apply AWP.go ok; rfl) | (apply And.intro; (unfold inI; omega))) <;> conv => whnf)
      exact z61 (k + 1) [0] (by omega) (by omega) ⟨rfl, by decide, rfl, ⟨⟨rfl, rfl⟩, ⟨rfl, rfl⟩, ⟨rfl, by rw [e1, ← Int.add_assoc]; rfl⟩, ⟨rfl, rfl⟩, trivial⟩, ⟨z17 rfl rfl, trivial⟩⟩
    · omega
    · obtain rfl : k = t.kids.length := by omega
      exact z37 rfl rfl (by rw [List.take_length]; rfl)
  · rw [if_neg hd]
    refine z73 (fun k : Nat => ([(1, .int d), (2, .ptr 0 none 0), (5, .int 1), (6, .int k)], [.cells 3 [[.int t.kind, .int t.val, lst 3 Tree.cs' t.kids]]])) (fun k => k ≤ t.kids.length) (fun k => t.kids.length - k) 0 (by omega) ⟨[0], rfl, by decide, rfl, by repeat' (first | exact True.intro | exact ⟨rfl, rfl⟩ | apply And.intro), by repeat' (first | exact True.intro | exact z17 rfl rfl | apply And.intro)⟩ ?_
    intro k hk
    repeat' ((first | (apply AWP.go ok; rfl) | (apply And.intro; omega) | (((with_reducible apply z14; omega)); intro _) | ((apply z9) <;> intro _)) <;> conv => whnf)
    · omega
    · exact z37 rfl rfl rfl
    · exact z37 rfl rfl rfl

theorem z98 (t : Tree) (hm : t.mx) : CallsA Tryz.prog 191 [z39 Tree.cs' t] [] (.bool t.exprB) [] := by
  rw [Tree.exprB_eq]
  refine z12 z20 Tryz.func191 rfl rfl 10 Tryz.ntmps191 (by simp) ?_
  repeat' ((first | (apply AWP.go ok; rfl) | ((apply z77) <;> intro _) | (apply z10 (l1Shape_ok t hm 6 (by omega) (by omega)); rfl; rfl) | (apply z10 (l1Count_ok t hm 6 6 (by omega) (by omega) (by omega) (by assumption)); rfl; rfl)) <;> conv => whnf)
  all_goals (refine z19 rfl ?_; (simp [*]; done))

theorem specLabelsValid_ok (l : List Tree) (hl : l.length ≤ maxLen) (hm : ∀ t ∈ l, t.mx) : CallsA Tryz.prog 140 [lst 3 Tree.cs' l] [] (.bool (labelsB l)) [] := by
  unfold maxLen at hl
  unfold labelsB
  refine z12 z20 Tryz.func140 rfl rfl 19 Tryz.ntmps140 (by simp) ?_
  repeat' (((apply AWP.go ok; rfl)) <;> conv => whnf)
  refine z73 (fun k : Nat => ([(0, lst 3 Tree.cs' l), (3, .int k)], [])) (fun k => k ≤ l.length ∧ l.all Tree.exprB = (l.drop k).all Tree.exprB) (fun k => l.length - k) 0 ⟨by omega, rfl⟩ ⟨[], rfl, by decide, rfl, by repeat' (first | exact True.intro | exact ⟨rfl, rfl⟩ | apply And.intro), by repeat' (exact True.intro)⟩ ?_
  intro k hk
  repeat' ((first | (apply AWP.go ok; rfl) | (apply And.intro; first | omega | (unfold inI; omega)) | (((with_reducible apply z14; omega)); intro _) | ((first | apply z9 | apply z89) <;> intro _) | (apply z10 (z98 l[k] (hm _ (List.getElem_mem _))); rfl; rfl)) <;> conv => whnf)
  · rename_i h1
    exact z19 rfl (by rw [hk.2, z113 _ _ _ (by assumption)]; simp [h1])
  · rename_i h1
    exact z61 (k + 1) [] ⟨by omega, by rw [hk.2, z113 _ _ _ (by assumption)]; simp [h1]⟩ (by omega) ⟨rfl, by decide, rfl, by repeat' (first | exact True.intro | exact ⟨rfl, rfl⟩ | apply And.intro), by repeat' (exact True.intro)⟩
  · exact z19 rfl (by rw [hk.2, z107 _ _ _ (by omega), Bool.and_true])

theorem truth_ok (b : Bool) : CallsA Tryz.prog 217 [.bool b] [] (.int (b2i b)) [] := by
  refine z12 z20 Tryz.func217 rfl rfl 4 Tryz.ntmps217 (by simp) ?_
  repeat' ((first | (apply AWP.go ok; rfl) | ((apply z77) <;> intro _)) <;> conv => whnf)
  all_goals (refine z37 rfl rfl ?_; simp only [*]; rfl)
theorem l1Bool_ok (b : Bool) : CallsA Tryz.prog 249 [.bool b] [] (.int (b2i b)) [] := by
  refine z12 z20 Tryz.func249 rfl rfl 4 Tryz.ntmps249 (by simp) ?_
  repeat' ((first | (apply AWP.go ok; rfl) | ((apply z77) <;> intro _)) <;> conv => whnf)
  all_goals (refine z37 rfl rfl ?_; simp only [*]; rfl)

theorem good_cases {t : Tree} (hg : t.good) : (∃ x, t = .mk 1 x [] ∧ 0 ≤ x ∧ x ≤ 3) ∨ (∃ x, t = .mk 2 x [] ∧ 0 ≤ x ∧ x ≤ 2) ∨ (∃ x a, t = .mk 3 x [a] ∧ a.good) ∨ (∃ k x a b, t = .mk k x [a, b] ∧ 4 ≤ k ∧ k ≤ 9 ∧ a.good ∧ b.good) := by
  obtain ⟨g1, g2, g3, g4⟩ := Tree.good_iff hg
  obtain ⟨k, x, l⟩ := t
  simp only [Tree.kind, Tree.val, Tree.kids] at *
  unfold arity at g1
  unfold mostV at g3
  match l, g1, g4 with
  | [], g1, _ =>
    simp only [List.length_nil] at g1
    have : k = 1 ∨ k = 2 := by grind
    rcases this with rfl | rfl
    · exact .inl ⟨x, rfl, g2, by grind⟩
    · exact .inr (.inl ⟨x, rfl, g2, by grind⟩)
  | [a], g1, g4 =>
    simp only [List.length_cons, List.length_nil] at g1
    have : k = 3 := by grind
    subst this
    exact .inr (.inr (.inl ⟨x, a, rfl, g4 a (by simp)⟩))
  | [a, b], g1, g4 =>
    simp only [List.length_cons, List.length_nil] at g1
    exact .inr (.inr (.inr ⟨k, x, a, b, rfl, by grind, by grind, g4 a (by simp), g4 b (by simp)⟩))
  | a :: b :: c :: r, g1, _ => simp only [List.length_cons] at g1; grind

theorem eval_ok (v : List Int) (hv : ValsOk v) (t : Tree) : t.good → CallsA Tryz.prog 190 [z39 Tree.cs' t, ints v] [] (.int (t.ev v)) [] := by
  induction t using Tree.ind with | h t ih => ?_
  intro hg
  have hl := hv.1
  rw [Tree.arg_eq]
  rcases good_cases hg with ⟨x, rfl, h1, h2⟩ | ⟨x, rfl, h1, h2⟩ | ⟨x, a, rfl, h1⟩ | ⟨k, x, a, b, rfl, h1, h2, h3, h4⟩ <;> simp only [Tree.kind, Tree.val, Tree.kids] at *
  · refine z12 z20 Tryz.func190 rfl rfl 82 Tryz.ntmps190 (by simp) ?_
    repeat' (((apply AWP.go ok; rfl)) <;> conv => whnf)
    all_goals (exact z37 rfl rfl (by rw [Tree.ev, if_pos rfl]; rfl))
  · refine z12 z20 Tryz.func190 rfl rfl 82 Tryz.ntmps190 (by simp) ?_
    repeat' ((first | (apply AWP.go ok; rfl) | (apply And.intro; omega) | (apply get_map; omega; intro _)) <;> conv => whnf)
    all_goals skip
    refine z37 rfl rfl ?_
    rw [Tree.ev, if_neg (by omega), if_pos rfl, List.getD_eq_getElem?_getD, List.getElem?_eq_getElem (by omega)]; rfl
  · have ha := Tree.ev_range hv a h1
    refine z12 z20 Tryz.func190 rfl rfl 82 Tryz.ntmps190 (by simp) ?_
    repeat' ((first | (apply AWP.go ok; rfl) | (apply And.intro; omega) | apply z103 | (apply z10 (ih a (by simp) h1); rfl; rfl) | (apply z10 (truth_ok _); rfl; rfl)) <;> conv => whnf)
    all_goals skip
    all_goals (refine z37 rfl rfl ?_; rw [Tree.ev, if_neg (by omega), if_neg (by omega)]; simp only [Tree.evs]; rfl)
  · have ha := Tree.ev_range hv a h3
    have hb := Tree.ev_range hv b h4
    refine z12 z20 Tryz.func190 rfl rfl 82 Tryz.ntmps190 (by simp) ?_
    repeat' ((first | (apply AWP.go ok; rfl) | (apply And.intro; first | omega | (unfold inI; omega)) | (((apply z14; omega)); intro _) | apply z103 | ((first | apply z9 | apply z40) <;> intro _) | (apply z10 (ih a (by simp) h3); rfl; rfl) | (apply z10 (ih b (by simp) h4); rfl; rfl) | (apply z10 (truth_ok _); rfl; rfl)) <;> conv => whnf)
    all_goals first | (exfalso; omega) | skip
    all_goals (refine ret_int rfl ?_; clear ih; simp only [Tree.ev, Tree.evs, b2i]; grind)

theorem l1Eval_ok (v : List Int) (hv : ValsOk v) (t : Tree) : t.good → CallsA Tryz.prog 220 [z39 Tree.cs' t, ints v] [] (.int (t.ev v)) [] := by
  induction t using Tree.ind with | h t ih => ?_
  intro hg
  have hl := hv.1
  rw [Tree.arg_eq]
  rcases good_cases hg with ⟨x, rfl, h1, h2⟩ | ⟨x, rfl, h1, h2⟩ | ⟨x, a, rfl, h1⟩ | ⟨k, x, a, b, rfl, h1, h2, h3, h4⟩ <;> simp only [Tree.kind, Tree.val, Tree.kids] at *
  · refine z12 z20 Tryz.func220 rfl rfl 86 Tryz.ntmps220 (by simp) ?_
    repeat' (((apply AWP.go ok; rfl)) <;> conv => whnf)
    all_goals (exact z37 rfl rfl (by rw [Tree.ev, if_pos rfl]; rfl))
  · refine z12 z20 Tryz.func220 rfl rfl 86 Tryz.ntmps220 (by simp) ?_
    repeat' ((first | (apply AWP.go ok; rfl) | (apply And.intro; omega) | (apply get_map; omega; intro _)) <;> conv => whnf)
    all_goals skip
    refine z37 rfl rfl ?_
    rw [Tree.ev, if_neg (by omega), if_pos rfl, List.getD_eq_getElem?_getD, List.getElem?_eq_getElem (by omega)]; rfl
  · have ha := Tree.ev_range hv a h1
    refine z12 z20 Tryz.func220 rfl rfl 86 Tryz.ntmps220 (by simp) ?_
    repeat' ((first | (apply AWP.go ok; rfl) | (apply And.intro; omega) | apply z103 | (apply z10 (ih a (by simp) h1); rfl; rfl) | (apply z10 (l1Bool_ok _); rfl; rfl)) <;> conv => whnf)
    all_goals skip
    all_goals (refine z37 rfl rfl ?_; rw [Tree.ev, if_neg (by omega), if_neg (by omega)]; simp only [Tree.evs]; rfl)
  · have ha := Tree.ev_range hv a h3
    have hb := Tree.ev_range hv b h4
    refine z12 z20 Tryz.func220 rfl rfl 86 Tryz.ntmps220 (by simp) ?_
    repeat' ((first | (apply AWP.go ok; rfl) | (apply And.intro; first | omega | (unfold inI; omega)) | (((apply z14; omega)); intro _) | apply z103 | ((first | apply z9 | apply z40) <;> intro _) | (apply z10 (ih a (by simp) h3); rfl; rfl) | (apply z10 (ih b (by simp) h4); rfl; rfl) | (apply z10 (l1Bool_ok _); rfl; rfl)) <;> conv => whnf)
    all_goals first | (exfalso; omega) | skip
    all_goals (refine ret_int rfl ?_; clear ih; simp only [Tree.ev, Tree.evs, b2i]; grind)
end Go.Proofs.YtppafngcahgagaaGreat

namespace Go.Proofs.YtppafngcahgagaaGreat
open Go.Gl
attribute [local irreducible] z29 AWP z51 z62 z55

/-- the letter of values, from the k-th label on -/
def ltr (v : List Int) (l : List Tree) (k n : Nat) : Nat := match l with
  | [] => n
  | t :: r => ltr v r (k + 1) (if t.ev v = 0 then n else n ||| 2 ^ k)
theorem ltr_cons (v : List Int) (l : List Tree) (k n : Nat) (h : k < l.length) : ltr v (l.drop k) k n = ltr v (l.drop (k + 1)) (k + 1) (if l[k].ev v = 0 then n else n ||| 2 ^ k) := by
  rw [List.drop_eq_getElem_cons h, ltr]
theorem ltr_end (v : List Int) (l : List Tree) (k n : Nat) (h : l.length ≤ k) : ltr v (l.drop k) k n = n := by
  rw [List.drop_eq_nil_of_le h, ltr]
def z75 (labels : List Tree) (s : State) : Int := ltr s.b labels 0 0
theorem or_lt {n k : Nat} (h : n < 2 ^ k) : n ||| 2 ^ k < 2 ^ (k + 1) :=
  Nat.or_lt_two_pow (by rw [Nat.pow_succ]; omega) (by rw [Nat.pow_succ]; have := Nat.two_pow_pos k; omega)

def LabelsOk (l : List Tree) : Prop := l.length = 3 ∧ ∀ t ∈ l, t.good
theorem LabelsOk.of {l : List Tree} (h : labelsB l = true) : LabelsOk l := by
  simp only [labelsB, Bool.and_eq_true, decide_eq_true_eq, List.all_eq_true] at h
  exact ⟨by omega, fun t ht => Tree.good_of (h.2 t ht)⟩

theorem shl_eq (k : Nat) (hk : k < 3) : (1 : Int) * 2 ^ ((k : Int).toNat) = ((2 ^ k : Nat) : Int) := by simp
theorem pow_bound {k : Nat} (hk : k < 3) : 2 ^ k ≤ 8 ∧ 2 ^ (k + 1) ≤ 8 ∧ 0 < 2 ^ k := by
  have : k = 0 ∨ k = 1 ∨ k = 2 := by omega
  rcases this with rfl | rfl | rfl <;> simp

theorem letter_ok (s : State) (hv : ValsOk s.b) (l : List Tree) (hl : LabelsOk l) : CallsA Tryz.prog 139 [ints s.b, lst 3 Tree.cs' l] [] (.int (z75 l s)) [] := by
  have h3 := hl.1
  refine z12 z20 Tryz.func139 rfl rfl 25 Tryz.ntmps139 (by simp) ?_
  repeat' (((apply AWP.go ok; rfl)) <;> conv => whnf)
  refine z73 (fun x : Nat × Nat => ([(0, ints s.b), (5, .int x.2), (8, lst 3 Tree.cs' l), (9, .int l.length), (10, .int x.1)], [])) (fun x => x.1 ≤ l.length ∧ x.2 < 2 ^ x.1 ∧ ltr s.b l 0 0 = ltr s.b (l.drop x.1) x.1 x.2) (fun x => l.length - x.1) (0, 0) ⟨by omega, by decide, rfl⟩ ⟨[], rfl, by decide, rfl, by repeat' (first | exact True.intro | exact ⟨rfl, rfl⟩ | apply And.intro), by repeat' (exact True.intro)⟩ ?_
  rintro ⟨k, n⟩ ⟨hk1, hk2, hk3⟩
  dsimp only at hk1 hk2 hk3
  repeat' ((first | (apply AWP.go ok; rfl) | (apply And.intro; first | omega | (unfold inI; omega)) | (((with_reducible apply z14; omega)); intro _) | ((first | apply z9 | apply z40) <;> intro _) | (apply z10 (eval_ok s.b hv l[k] (hl.2 _ (List.getElem_mem _))); rfl; rfl)) <;> conv => whnf)
  · rename_i hkl h
    have hp := pow_bound (show k < 3 by omega)
    have e := shl_eq k (by omega)
    refine And.intro ⟨by omega, by omega, by rw [e]; unfold inI; omega⟩ ?_
    conv => whnf
    refine And.intro (by rw [e]; unfold bitsOk; omega) ?_
    conv => whnf
    repeat' ((first | (apply AWP.go ok; rfl) | (apply And.intro; (unfold inI; omega))) <;> conv => whnf)
    rw [ltr_cons _ _ _ _ hkl, if_neg h] at hk3
    refine z61 (k + 1, n ||| 2 ^ k) [] ⟨by dsimp only; omega, or_lt hk2, hk3⟩ (by dsimp only; omega) ⟨rfl, by decide, rfl, ⟨⟨rfl, rfl⟩, ⟨rfl, ?_⟩, ⟨rfl, rfl⟩, ⟨rfl, rfl⟩, ⟨rfl, rfl⟩, trivial⟩, trivial⟩
    show AC.raw (.int .i64 (((n : Int).toNat ||| ((1 : Int) * 2 ^ ((k : Int).toNat)).toNat : Nat) : Int)) = _
    rw [e]; rfl
  · rename_i hkl h
    rw [ltr_cons _ _ _ _ hkl, if_pos h] at hk3
    have : 2 ^ k ≤ 2 ^ (k + 1) := by rw [Nat.pow_succ]; omega
    exact z61 (k + 1, n) [] ⟨by dsimp only; omega, by dsimp only; omega, hk3⟩ (by dsimp only; omega) ⟨rfl, by decide, rfl, by repeat' (first | exact True.intro | exact ⟨rfl, rfl⟩ | apply And.intro), by repeat' (exact True.intro)⟩
  · rw [ltr_end _ _ _ _ (by omega)] at hk3
    exact z37 rfl rfl (by unfold z75; rw [hk3]; rfl)

theorem l8Letter_ok (s : State) (hv : ValsOk s.b) (l : List Tree) (hl : LabelsOk l) : CallsA Tryz.prog 192 [z39 State.cs s, lst 3 Tree.cs' l] [] (.int (z75 l s)) [] := by
  have h3 := hl.1
  refine z12 z20 Tryz.func192 rfl rfl 27 Tryz.ntmps192 (by simp) ?_
  repeat' (((apply AWP.go ok; rfl)) <;> conv => whnf)
  refine z73 (fun x : Nat × Nat => ([(1, lst 3 Tree.cs' l), (2, .ptr 0 none 0), (5, .int x.2), (6, .int x.1)], [.cells 2 [[ints s.a, ints s.b]]])) (fun x => x.1 ≤ l.length ∧ x.2 < 2 ^ x.1 ∧ ltr s.b l 0 0 = ltr s.b (l.drop x.1) x.1 x.2) (fun x => l.length - x.1) (0, 0) ⟨by omega, by decide, rfl⟩ ⟨[0], rfl, by decide, rfl, by repeat' (first | exact True.intro | exact ⟨rfl, rfl⟩ | apply And.intro), by repeat' (first | exact True.intro | exact z17 rfl rfl | apply And.intro)⟩ ?_
  rintro ⟨k, n⟩ ⟨hk1, hk2, hk3⟩
  dsimp only at hk1 hk2 hk3
  repeat' ((first | (apply AWP.go ok; rfl) | (apply z41; kernel_rfl) | (apply And.intro; first | omega | (unfold inI; omega)) | (((with_reducible apply z14; omega)); intro _) | ((first | apply z9 | apply z40) <;> intro _) | (apply z10 (l1Eval_ok s.b hv l[k] (hl.2 _ (List.getElem_mem _))); rfl; rfl)) <;> conv => whnf)
  · rename_i hkl h
    have hp := pow_bound (show k < 3 by omega)
    have e := shl_eq k (by omega)
    refine And.intro ?_ ?_
    · show IntKind.u64.wrap k = k
      have : k = 0 ∨ k = 1 ∨ k = 2 := by dsimp only at hkl; omega
      rcases this with rfl | rfl | rfl <;> rfl
    conv => whnf
    refine And.intro ⟨by omega, by omega, by rw [e]; unfold inI; omega⟩ ?_
    conv => whnf
    refine And.intro (by rw [e]; unfold bitsOk; omega) ?_
    conv => whnf
    repeat' ((first | (apply AWP.go ok; rfl) | (apply And.intro; (unfold inI; omega))) <;> conv => whnf)
    rw [ltr_cons _ _ _ _ hkl, if_neg h] at hk3
    refine z61 (k + 1, n ||| 2 ^ k) [0] ⟨by dsimp only; omega, or_lt hk2, hk3⟩ (by dsimp only; omega) ⟨rfl, by decide, rfl, ⟨⟨rfl, rfl⟩, ⟨rfl, rfl⟩, ⟨rfl, ?_⟩, ⟨rfl, rfl⟩, trivial⟩, ⟨z17 rfl rfl, trivial⟩⟩
    show AC.raw (.int .i64 (((n : Int).toNat ||| ((1 : Int) * 2 ^ ((k : Int).toNat)).toNat : Nat) : Int)) = _
    rw [e]; rfl
  · rename_i hkl h
    rw [ltr_cons _ _ _ _ hkl, if_pos h] at hk3
    have : 2 ^ k ≤ 2 ^ (k + 1) := by rw [Nat.pow_succ]; omega
    exact z61 (k + 1, n) [0] ⟨by dsimp only; omega, by dsimp only; omega, hk3⟩ (by dsimp only; omega) ⟨rfl, by decide, rfl, by repeat' (first | exact True.intro | exact ⟨rfl, rfl⟩ | apply And.intro), by repeat' (first | exact True.intro | exact z17 rfl rfl | apply And.intro)⟩
  · rw [ltr_end _ _ _ _ (by omega)] at hk3
    exact z37 rfl rfl (by unfold z75; rw [hk3]; rfl)

theorem label_new (g : Graph) (hg : ∀ s ∈ g.st, ValsOk s.b) (hn : g.st.length ≤ 60) (l : List Tree) (hl : LabelsOk l) : CallsA Tryz.prog 58 [.agg g.cs, lst 3 Tree.cs' l] [] (.sref 0 0 g.st.length) [.cells 1 (g.st.map fun s => enI (z75 l s))] := by
  refine z12 z20 Tryz.func58 rfl rfl 29 Tryz.ntmps58 (by simp) ?_
  repeat' ((first | (apply AWP.go ok; rfl) | (apply And.intro; (dsimp only; omega))) <;> conv => whnf)
  refine z73 (fun k : Nat => ([(1, lst 3 Tree.cs' l), (5, .sref 0 0 g.st.length), (13, lst 2 State.cs g.st), (14, .int g.st.length), (15, .int k)], [.cells 1 ((g.st.take k).map (fun s => enI (z75 l s)) ++ List.replicate (g.st.length - k) (enI 0))])) (fun k => k ≤ g.st.length) (fun k => g.st.length - k) 0 (by omega) ⟨[1], rfl, by decide, rfl, by repeat' (first | exact True.intro | exact ⟨rfl, rfl⟩ | apply And.intro), by repeat' (first | exact True.intro | exact z16 (by rfl) (by (first | exact z52 | exact z31 rfl)) | apply And.intro)⟩ ?_
  intro k hk
  repeat' ((first | (apply AWP.go ok; rfl) | (apply And.intro; first | omega | (unfold inI; omega)) | (((with_reducible apply z14; omega)); intro _) | (apply get_fill; omega) | ((apply z9) <;> intro _) | (apply z10 (letter_ok g.st[k] (hg _ (List.getElem_mem _)) l hl); rfl; rfl)) <;> conv => whnf)
  · rename_i h hkl
    exact z61 (k + 1) [0] (by omega) (by omega) ⟨rfl, by decide, rfl, ⟨⟨rfl, rfl⟩, ⟨rfl, rfl⟩, ⟨rfl, rfl⟩, ⟨rfl, rfl⟩, ⟨rfl, rfl⟩, trivial⟩, ⟨obj_fill hkl rfl rfl rfl (fun _ => rfl) rfl, trivial⟩⟩
  · exact ret_new rfl (z8 fun _ => rfl) rfl (fill_end _ _ _ _ (by omega))

theorem label_ok (g : Graph) (hg : ∀ s ∈ g.st, ValsOk s.b) (hn : g.st.length ≤ 60) (l : List Tree) (hl : LabelsOk l) : CallsA Tryz.prog 58 [.agg g.cs, lst 3 Tree.cs' l] [] (ints (g.st.map (z75 l))) [] := by
  have h := (label_new g hg hn l hl).keep (enc_unown1 _ _) (by simp)
  unfold ints
  rw [List.length_map, List.map_map]
  exact h

theorem l8Letters_new (g : Graph) (hg : ∀ s ∈ g.st, ValsOk s.b) (hn : g.st.length ≤ 60) (l : List Tree) (hl : LabelsOk l) : CallsA Tryz.prog 141 [.agg g.cs, lst 3 Tree.cs' l] [] (.sref 0 0 g.st.length) [.cells 1 (g.st.map fun s => enI (z75 l s))] := by
  refine z12 z20 Tryz.func141 rfl rfl 26 Tryz.ntmps141 (by simp) ?_
  repeat' (((apply AWP.go ok; rfl)) <;> conv => whnf)
  refine z73 (fun k : Nat => ([(1, lst 3 Tree.cs' l), (2, .ptr 0 none 0), (5, .sref 1 0 k), (6, .int k)], [.cells 2 [[lst 2 State.cs g.st, lst 1 encL g.nx]], .cells 1 ((g.st.take k).map fun s => enI (z75 l s))])) (fun k => k ≤ g.st.length) (fun k => g.st.length - k) 0 (by omega) ⟨[0, 1], rfl, by decide, rfl, by repeat' (first | exact True.intro | exact ⟨rfl, rfl⟩ | apply And.intro), by repeat' (first | exact True.intro | exact z17 rfl rfl | exact z16 (by rfl) (by (exact z52)) | apply And.intro)⟩ ?_
  intro k hk
  repeat' ((first | (apply AWP.go ok; rfl) | (apply And.intro; first | omega | (unfold inI; omega) | ((try dsimp only); simp only [List.length_map, List.length_take, List.length_append, List.length_replicate, List.length_cons, List.length_nil]; omega) | exact ⟨rfl, z24 rfl z30⟩) | (((with_reducible apply z14; omega)); intro _) | ((apply z9) <;> intro _) | (apply z10 (l8Letter_ok g.st[k] (hg _ (List.getElem_mem _)) l hl); rfl; rfl)) <;> conv => whnf)
  · rename_i h hkl
    exact z61 (k + 1) [0, 3] (by omega) (by omega) ⟨rfl, by decide, rfl, ⟨⟨rfl, rfl⟩, ⟨rfl, rfl⟩, ⟨rfl, rfl⟩, ⟨rfl, rfl⟩, trivial⟩, ⟨z17 rfl rfl, obj_app hkl _ rfl rfl rfl (fun _ => rfl), trivial⟩⟩
  · obtain rfl : k = g.st.length := by omega
    exact ret_new rfl (z8 fun _ => rfl) rfl (by rw [List.take_length])
theorem l8Letters_ok (g : Graph) (hg : ∀ s ∈ g.st, ValsOk s.b) (hn : g.st.length ≤ 60) (l : List Tree) (hl : LabelsOk l) : CallsA Tryz.prog 141 [.agg g.cs, lst 3 Tree.cs' l] [] (ints (g.st.map (z75 l))) [] := by
  have h := (l8Letters_new g hg hn l hl).keep (enc_unown1 _ _) (by simp)
  unfold ints
  rw [List.length_map, List.map_map]
  exact h
end Go.Proofs.YtppafngcahgagaaGreat

namespace Go.Proofs.YtppafngcahgagaaGreat
open Go.Gl
attribute [local irreducible] z29 AWP z51 z62 z55

theorem l1Vals_ok (l : List Int) (hl : l.length ≤ maxLen) : CallsA Tryz.prog 89 [ints l] [] (.bool (valsB l)) [] := by
  unfold maxLen at hl
  have e : valsB l = (l.all (fun n => btw n 0 3) && decide ((l.length : Int) = 3)) := by
    unfold valsB; rw [Bool.and_comm, List.all_eq_not_any_not]
  rw [e]
  refine z12 z20 Tryz.func89 rfl rfl 25 Tryz.ntmps89 (by simp) ?_
  repeat' (((apply AWP.go ok; rfl)) <;> conv => whnf)
  refine z73 (fun k : Nat => ([(0, ints l), (3, .int k)], [])) (fun k => k ≤ l.length ∧ l.all (fun n => btw n 0 3) = (l.drop k).all (fun n => btw n 0 3)) (fun k => l.length - k) 0 ⟨by omega, rfl⟩ ⟨[], rfl, by decide, rfl, by repeat' (first | exact True.intro | exact ⟨rfl, rfl⟩ | apply And.intro), by repeat' (exact True.intro)⟩ ?_
  intro k hk
  repeat' ((first | (apply AWP.go ok; rfl) | (apply And.intro; first | omega | (unfold inI; omega)) | (((with_reducible apply z14; omega)); intro _) | ((apply z9) <;> intro _)) <;> conv => whnf)
  · refine z19 rfl ?_
    have : btw l[k] 0 3 = false := btw_no.2 (by omega)
    rw [hk.2, z113 _ _ _ (by assumption), this]; rfl
  · refine z19 rfl ?_
    have : btw l[k] 0 3 = false := btw_no.2 (by omega)
    rw [hk.2, z113 _ _ _ (by assumption), this]; rfl
  · have : btw l[k] 0 3 = true := btw_iff.2 (by omega)
    exact z61 (k + 1) [] ⟨by omega, by rw [hk.2, z113 _ _ _ (by assumption), this]; rfl⟩ (by omega) ⟨rfl, by decide, rfl, by repeat' (first | exact True.intro | exact ⟨rfl, rfl⟩ | apply And.intro), by repeat' (exact True.intro)⟩
  · exact z19 rfl (by rw [hk.2, z107 _ _ _ (by omega), Bool.true_and])

theorem l4In_ok (l : List Int) (hl : l.length ≤ maxLen) (v : Int) : CallsA Tryz.prog 90 [ints l, .int v] [] (.bool (decide (v ∈ l))) [] := by
  unfold maxLen at hl
  have e : decide (v ∈ l) = l.any (fun x => decide (x = v)) := by
    rw [Bool.eq_iff_iff]; simp
  rw [e]
  refine z12 z20 Tryz.func90 rfl rfl 18 Tryz.ntmps90 (by simp) ?_
  repeat' (((apply AWP.go ok; rfl)) <;> conv => whnf)
  refine z73 (fun k : Nat => ([(0, ints l), (1, .int v), (5, .int k)], [])) (fun k => k ≤ l.length ∧ l.any (fun x => decide (x = v)) = (l.drop k).any (fun x => decide (x = v))) (fun k => l.length - k) 0 ⟨by omega, rfl⟩ ⟨[], rfl, by decide, rfl, by repeat' (first | exact True.intro | exact ⟨rfl, rfl⟩ | apply And.intro), by repeat' (exact True.intro)⟩ ?_
  intro k hk
  repeat' ((first | (apply AWP.go ok; rfl) | (apply And.intro; first | omega | (unfold inI; omega)) | (((with_reducible apply z14; omega)); intro _) | ((apply z9) <;> intro _)) <;> conv => whnf)
  · rename_i h
    exact z19 rfl (by rw [hk.2, drop_any _ _ _ (by assumption), decide_eq_true h]; rfl)
  · rename_i h
    exact z61 (k + 1) [] ⟨by omega, by rw [hk.2, drop_any _ _ _ (by assumption), decide_eq_false h]; rfl⟩ (by omega) ⟨rfl, by decide, rfl, by repeat' (first | exact True.intro | exact ⟨rfl, rfl⟩ | apply And.intro), by repeat' (exact True.intro)⟩
  · exact z19 rfl (by rw [hk.2, drop_any_end _ _ _ (by omega)])

/-- numbers that differ, each below n, are at most n -/
theorem Distinct.le {l : List Int} {n : Int} (h : Distinct l n l.length) (h0 : 0 ≤ n) : (l.length : Int) ≤ n := by
  have hnd : (l.map Int.toNat).Nodup := by
    rw [List.nodup_iff_pairwise_ne, List.pairwise_map, List.pairwise_iff_getElem]
    intro i j hi hj hij he
    have h1 := h i hi hi
    have h2 := h j hj hj
    refine h2.2 ?_
    have : l[j] = l[i] := by omega
    rw [this, List.mem_take_iff_getElem]
    exact ⟨i, by omega, rfl⟩
  have hsub : (l.map Int.toNat) ⊆ List.range n.toNat := by
    intro x hx
    obtain ⟨y, hy, rfl⟩ := List.mem_map.1 hx
    obtain ⟨i, hi, rfl⟩ := List.mem_iff_getElem.1 hy
    have := (h i hi hi).1
    rw [List.mem_range]; omega
  have := hnd.length_le_of_subset hsub
  simp at this
  omega

def RowOk (g : Graph) (i : Nat) : Prop := ∀ (h : i < g.nx.length) (h' : i < g.st.length), 1 ≤ g.nx[i].length ∧ g.nx[i].length ≤ g.st.length ∧ valsB g.st[i].b = true ∧ Distinct g.nx[i] g.st.length g.nx[i].length
def GB (g : Graph) : Prop := (1 ≤ g.st.length ∧ g.st.length ≤ 60) ∧ g.nx.length = g.st.length ∧ ∀ i, i < g.nx.length → RowOk g i

theorem succB_iff {n : Int} {l : List Int} : succB n l = true ↔ 1 ≤ l.length ∧ Distinct l n l.length := by
  unfold succB
  rw [Bool.and_eq_true, decide_eq_true_eq, Bool.not_eq_true', decide_eq_false_iff_not]
  exact and_congr (by omega) Iff.rfl

theorem z91 (g : Graph) : graphB g = true ↔ GB g := by
  unfold graphB GB
  simp only [Bool.and_eq_true, btw_iff, decide_eq_true_eq, Bool.not_eq_true', List.any_eq_false]
  constructor
  · rintro ⟨h1, h2, h3, h4⟩
    refine ⟨by omega, by omega, fun i hi h h' => ?_⟩
    have h5 := succB_iff.1 (by simpa using h4 _ (List.getElem_mem h))
    have h6 := h5.2.le (by omega)
    exact ⟨h5.1, by omega, by simpa using h3 _ (List.getElem_mem h'), h5.2⟩
  · rintro ⟨h1, h2, h3⟩
    refine ⟨by omega, by omega, fun s hs => ?_, fun l hl => ?_⟩
    · obtain ⟨i, hi, rfl⟩ := List.mem_iff_getElem.1 hs
      simpa using (h3 i (by omega) (by omega) hi).2.2.1
    · obtain ⟨i, hi, rfl⟩ := List.mem_iff_getElem.1 hl
      have := h3 i hi hi (by omega)
      simpa using succB_iff.2 ⟨this.1, this.2.2.2⟩

set_option maxHeartbeats 800000 in
theorem specGraphValid_ok (g : Graph) (hg : g.mx) : CallsA Tryz.prog 38 [.agg g.cs] [] (.bool (graphB g)) [] := by
  obtain ⟨hs, hn, hm⟩ := hg
  have hl1 := hs.1
  unfold maxLen at hl1 hn
  have hiff := z91 g
  refine z12 z20 Tryz.func38 rfl rfl 111 Tryz.ntmps38 (by simp) ?_
  repeat' ((first | (apply AWP.go ok; rfl) | ((first | apply z9 | apply z40) <;> intro _)) <;> conv => whnf)
  · exact z19 rfl (by rw [← Bool.not_eq_true, hiff]; rintro ⟨h1, h2, _⟩; omega)
  · exact z19 rfl (by rw [← Bool.not_eq_true, hiff]; rintro ⟨h1, h2, _⟩; omega)
  · exact z19 rfl (by rw [← Bool.not_eq_true, hiff]; rintro ⟨h1, h2, _⟩; omega)
  rename_i b1 b2 b3
  have hne : g.nx.length = g.st.length := by omega
  refine z73 (fun k : Nat => ([(1, .ptr 0 none 0), (3, .int k)], [.cells 2 [[lst 2 State.cs g.st, lst 1 encL g.nx]]])) (fun k => k ≤ g.nx.length ∧ ∀ i, i < k → RowOk g i) (fun k => g.nx.length - k) 0 ⟨by omega, fun i h => by omega⟩ ⟨[0], rfl, by decide, rfl, by repeat' (first | exact True.intro | exact ⟨rfl, rfl⟩ | apply And.intro), by repeat' (first | exact True.intro | exact z17 rfl rfl | apply And.intro)⟩ ?_
  intro k hk
  have bad : k < g.nx.length → ¬ RowOk g k → graphB g = false := fun h1 h2 => by
    rw [← Bool.not_eq_true, hiff]; rintro ⟨_, _, h3⟩; exact h2 (h3 k h1)
  repeat' ((first | (apply AWP.go ok; rfl) | (apply z41; kernel_rfl) | (apply And.intro; omega) | (((with_reducible apply z14; omega)); intro _) | ((first | apply z9 | apply z89) <;> intro _) | (apply z10 (l1Vals_ok _ (hs.2 _ (List.getElem_mem _)).2); rfl; rfl)) <;> conv => whnf)
  · refine z19 rfl (bad (by assumption) fun h => ?_)
    have := h (by assumption) (by omega); omega
  · refine z19 rfl (bad (by assumption) fun h => ?_)
    have := h (by assumption) (by omega); omega
  · rename_i hv
    refine z19 rfl (bad (by assumption) fun h => ?_)
    have := h (by assumption) (by omega)
    rw [hv] at this; simp at this
  · rename_i hv
    have hkn : k < g.nx.length := by assumption
    have hks : k < g.st.length := by omega
    refine z73 (fun j : Nat => ([(1, .ptr 0 none 0), (3, .int k), (4, .int j)], [.cells 2 [[lst 2 State.cs g.st, lst 1 encL g.nx]]])) (fun j => j ≤ g.nx[k].length ∧ Distinct g.nx[k] g.st.length j) (fun j => g.nx[k].length - j) 0 ⟨by omega, fun i h hi => by omega⟩ ⟨[0], rfl, by decide, rfl, by repeat' (first | exact True.intro | exact ⟨rfl, rfl⟩ | apply And.intro), by repeat' (first | exact True.intro | exact z17 rfl rfl | apply And.intro)⟩ ?_
    intro j hj
    repeat' ((first | (apply AWP.go ok; rfl) | (apply z41; kernel_rfl) | (apply And.intro; first | omega | (unfold inI; omega)) | (((with_reducible apply z14; omega)); intro _) | ((apply z9) <;> intro _)) <;> conv => whnf)
    · refine z19 rfl (bad hkn fun h => ?_)
      have := ((h hkn hks).2.2.2 j (by assumption) (by assumption)).1; omega
    · refine z19 rfl (bad hkn fun h => ?_)
      have := ((h hkn hks).2.2.2 j (by assumption) (by assumption)).1; omega
    · apply z10 (l4In_ok (g.nx[k].take j) (by rw [List.length_take]; unfold maxLen; omega) g.nx[k][j])
      · show _ = [AC.list 1 _ _, _]
        rw [show AC.list 1 (g.nx[k].take j).length ((g.nx[k].take j).map enI) = _ from (slice_take 1 enI g.nx[k] j hj.1).symm]
        rfl
      · rfl
      conv => whnf
      repeat' ((first | (apply AWP.go ok; rfl) | (apply z41; kernel_rfl) | (apply And.intro; (unfold inI; omega)) | ((apply z9) <;> intro _)) <;> conv => whnf)
      · rename_i h2
        exact z19 rfl (bad hkn fun h => ((h hkn hks).2.2.2 j (by assumption) (by assumption)).2 h2)
      · rename_i h2
        refine z61 (j + 1) [0] ⟨by omega, fun i hi hik => ?_⟩ (by omega) ⟨rfl, by decide, rfl, by repeat' (first | exact True.intro | exact ⟨rfl, rfl⟩ | apply And.intro), by repeat' (first | exact True.intro | exact z17 rfl rfl | apply And.intro)⟩
        rcases Nat.lt_or_ge i j with h3 | h3
        · exact hj.2 i hi h3
        · obtain rfl : i = j := by omega
          exact ⟨by omega, h2⟩
    · refine z61 (k + 1) [0] ⟨by omega, fun i hi => ?_⟩ (by omega) ⟨rfl, by decide, rfl, by repeat' (first | exact True.intro | exact ⟨rfl, rfl⟩ | apply And.intro), by repeat' (first | exact True.intro | exact z17 rfl rfl | apply And.intro)⟩
      rcases Nat.lt_or_ge i k with h3 | h3
      · exact hk.2 i h3
      · obtain rfl : i = k := by omega
        intro _ _
        obtain rfl : j = g.nx[i].length := by omega
        exact ⟨by omega, by omega, hv, hj.2⟩
  · exact z19 rfl (by rw [hiff]; exact ⟨by omega, hne, fun i hi => hk.2 i (by omega)⟩)
end Go.Proofs.YtppafngcahgagaaGreat

namespace Go.Proofs.YtppafngcahgagaaGreat
open Go.Gl
attribute [local irreducible] z29 AWP z51 z62 z55

def Trans.mx (t : Trans) : Prop := inI t.val
def edgeP (n : Int) (t : Trans) : Prop := (0 ≤ t.src ∧ t.src ≤ n - 1) ∧ (0 ≤ t.dst ∧ t.dst ≤ n - 1) ∧ (0 ≤ t.care ∧ t.care ≤ 7) ∧ 0 ≤ t.val ∧ t.val.toNat &&& t.care.toNat = t.val.toNat
instance {n : Int} {t : Trans} : Decidable (edgeP n t) := by unfold edgeP; infer_instance
def IniP (l : List Int) (n : Int) (k : Nat) : Prop := ∀ i (h : i < l.length), i < k → (0 ≤ l[i] ∧ l[i] ≤ n - 1) ∧ ∀ j (hj : j + 1 = i), l[j]'(by omega) < l[i]
def AutP (a : Aut) : Prop := (1 ≤ a.acc.length ∧ a.acc.length ≤ 64) ∧ a.ed.length ≤ 2048 ∧ IniP a.ini a.acc.length a.ini.length ∧ ∀ e ∈ a.ed, edgeP a.acc.length e
noncomputable instance {a : Aut} : Decidable (AutP a) := Classical.propDecidable _
theorem IniP.ge {l : List Int} {n : Int} (h : IniP l n l.length) : ∀ i (hi : i < l.length), (i : Int) ≤ l[i] := by
  intro i
  induction i with
  | zero => intro hi; exact (h 0 hi hi).1.1
  | succ i ih =>
    intro hi
    have h1 := ih (by omega)
    have h2 := (h (i + 1) hi hi).2 i rfl
    omega
theorem IniP.le {l : List Int} {n : Int} (h : IniP l n l.length) (h0 : 0 ≤ n) : (l.length : Int) ≤ n := by
  rcases Nat.eq_zero_or_pos l.length with e | e
  · omega
  · have h1 := h.ge (l.length - 1) (by omega)
    have h2 := (h (l.length - 1) (by omega) (by omega)).1.2
    omega

def Aut.mx (a : Aut) : Prop := a.ini.length ≤ maxLen ∧ a.acc.length ≤ maxLen ∧ a.ed.length ≤ maxLen ∧ ∀ t ∈ a.ed, t.mx
theorem IniP.step {l : List Int} {n : Int} {k : Nat} (h : IniP l n k) (hk : k < l.length) (h1 : 0 ≤ l[k] ∧ l[k] ≤ n - 1) (h2 : ∀ j (hj : j + 1 = k), l[j]'(by omega) < l[k]) : IniP l n (k + 1) := by
  intro i hi hik
  rcases Nat.lt_or_ge i k with h3 | h3
  · exact h i hi h3
  · obtain rfl : i = k := by omega
    exact ⟨h1, h2⟩

end Go.Proofs.YtppafngcahgagaaGreat

namespace Go.Proofs.YtppafngcahgagaaGreat
open Go.Gl
attribute [local irreducible] z29 AWP z51 z62 z55

theorem sref_le {o off w : Nat} : ACle (.sref o off 0) (.list w 0 []) := fun G h v hv => by
  simp only [V] at hv ⊢
  obtain ⟨cap, _, ⟨rfl, a, rfl⟩ | ⟨b, size, w', _, _, rfl⟩⟩ := hv
  · exact ⟨_, _, rfl, Nat.le_refl _, rfl, .inl trivial⟩
  · exact ⟨_, _, rfl, Nat.zero_le _, rfl, .inl trivial⟩
theorem tup_le2 {x x' y : AC} (h : ACle x x') : ACle (.tup [x, y]) (.tup [x', y]) := fun G hh v hv => by
  simp only [V, VL] at hv ⊢
  obtain ⟨c, rfl, hc, ⟨v1, h1, h2⟩, h3, _⟩ := hv
  exact ⟨c, rfl, hc, ⟨v1, h1, h _ _ _ h2⟩, h3, trivial⟩
/-- are the graph and the labels valid? -/
noncomputable def glB (g : Graph) (l : List Tree) : Bool := graphB g && labelsB l
theorem valsOk_of {l : List Int} (h : valsB l = true) : ValsOk l := by
  unfold valsB at h
  rw [Bool.and_eq_true, decide_eq_true_eq, Bool.not_eq_true', List.any_eq_false] at h
  exact ⟨by omega, fun x hx => by simpa [btw_iff] using h.2 x hx⟩
theorem GB.vals {g : Graph} (h : GB g) : ∀ s ∈ g.st, ValsOk s.b := fun s hs => by
  obtain ⟨i, hi, rfl⟩ := List.mem_iff_getElem.1 hs
  exact valsOk_of (h.2.2 i (by have := h.2.1; omega) (by have := h.2.1; omega) hi).2.2.1

def Lmx (l : List Tree) : Prop := l.length ≤ maxLen ∧ ∀ t ∈ l, t.mx
theorem specLabelGraph_ok (g : Graph) (hg : g.mx) (l : List Tree) (hl : Lmx l) : CallsA Tryz.prog 59 [.agg g.cs, lst 3 Tree.cs' l] [] (.tup [ints (if glB g l then g.st.map (z75 l) else []), .bool (glB g l)]) [] := by
  refine z12 z20 Tryz.func59 rfl rfl 18 Tryz.ntmps59 (by simp) ?_
  have k1 := specGraphValid_ok g hg
  have k2 := specLabelsValid_ok l hl.1 hl.2
  have k3 := fun (h1 : graphB g = true) (h2 : labelsB l = true) => l8Letters_ok g ((z91 g).1 h1).vals ((z91 g).1 h1).1.2 l (LabelsOk.of h2)
  repeat' (first | (apply AWP.go ok; rfl; conv => whnf) | (apply z89 <;> intro _ <;> conv => whnf) | (apply z10 (k1); rfl; rfl; conv => whnf) | (apply z10 (k2); rfl; rfl; conv => whnf) | (apply z10 (k3 (by assumption) (by assumption)); rfl; rfl; conv => whnf))
  · rename_i h
    have e : glB g l = false := by unfold glB; rw [h]; rfl
    rw [e]
    exact ret_le rfl rfl (tup_le2 sref_le)
  · rename_i h1 h2
    have e : glB g l = false := by unfold glB; rw [h1, h2]; rfl
    rw [e]
    exact ret_le rfl rfl (tup_le2 sref_le)
  · rename_i h1 h2
    have e : glB g l = true := by unfold glB; rw [h1, h2]; rfl
    rw [e]
    exact z37 rfl rfl rfl

end Go.Proofs.YtppafngcahgagaaGreat

namespace Go.Proofs.YtppafngcahgagaaGreat
open Go.Gl
attribute [local irreducible] z29 AWP z51 z62 z55

theorem rows_unown (l : List (List Int)) : z49 (l.map ownRow) = l.map encL := by
  rw [unownLL_eq, List.map_map]
  refine List.map_congr_left fun r _ => ?_
  show [AC.list 1 _ (z49 _)] = _
  rw [enc_unown1]
  simp [encL, ints, enI]
end Go.Proofs.YtppafngcahgagaaGreat

namespace Go.Proofs.YtppafngcahgagaaGreat
open Go.Gl
attribute [local irreducible] z29 AWP z51 z62 z55

theorem enB_unown1 (l : List Bool) : z49 (l.map enB) = l.map enB := enc_unown1 (fun b => Value.bool b) l
theorem bor_boolsN {objs : Nat → AObj} {π Bn : List Nat} {o n : Nat} {l : List Bool} (ho : objs o = .cells 1 (l.map enB)) (h1 : idx π o = none) (h2 : inB Bn o = true) (hl : l.length = n) : bor objs π Bn (.sref o 0 n) = lst 1 enB l := by
  subst hl; exact bor_list ho h1 h2 (by simp) (enB_unown1 _)
theorem tup_sref {x x' y : AC} (h : ACle x x') : ACle (.tup [x, y]) (.tup [x', y]) := fun G hh v hv => by
  simp only [V, VL] at hv ⊢
  obtain ⟨c, rfl, hs, ⟨u, h1, h2⟩, h3, _⟩ := hv
  exact ⟨c, rfl, hs, ⟨u, h1, h _ _ _ h2⟩, h3, trivial⟩

end Go.Proofs.YtppafngcahgagaaGreat

namespace Go.Proofs.YtppafngcahgagaaGreat
open Go.Gl
attribute [local irreducible] z29 AWP z51 z62 z55

/-- an input within the law's bounds -/
structure Graph.ok (g : Graph) : Prop where
  mx : g.mx
  st : g.st.length ≤ 1048576
  nx : g.nx.length ≤ 1048576
  states : ∀ s ∈ g.st, s.small
  rows : ∀ r ∈ g.nx, r.length ≤ 1048576
  sumS : (g.st.map State.sz).sum ≤ 1048576
  sumN : (g.nx.map List.length).sum ≤ 1048576
theorem Graph.ok_of {g : Graph} (hg : g.mx) (h1 : g.s1 ≤ 1048576) (h2 : g.s2 ≤ 1048576) : g.ok := by
  unfold Graph.s1 tot at h1
  unfold Graph.s2 tot at h2
  refine ⟨hg, by omega, by omega, fun s hs => ?_, fun r hr => ?_, by omega, by omega⟩
  · have := le_sum State.sz hs
    unfold State.sz at this h1
    exact ⟨by omega, by omega⟩
  · have := le_sum List.length hr; omega
structure LabOk (l : List Tree) : Prop where
  mx : Lmx l
  len : l.length ≤ 1048576
  el : ∀ t ∈ l, t.sz ≤ 1048576
  sum : (l.map Tree.sz).sum ≤ 1048576
theorem LabOk.of {l : List Tree} (hl : Lmx l) (h : tot Tree.sz l ≤ 1048576) : LabOk l := by
  unfold tot at h
  exact ⟨hl, by omega, fun t ht => by have := le_sum Tree.sz ht; omega, by omega⟩

end Go.Proofs.YtppafngcahgagaaGreat

namespace Go.Proofs.YtppafngcahgagaaGreat
open Go.Gl
attribute [local irreducible] z29 AWP z51 z62 z55

/-! the source of the drawn arguments -/
def enU (n : Int) : List AC := [.raw (.int .u8 n)]
def rdO (bs : List Int) (p : Int) : AObj := .cells 2 [[lst 1 enU bs, .int p]]
structure BytesOk (bs : List Int) : Prop where
  len : bs.length ≤ 2000
  el : ∀ x ∈ bs, 0 ≤ x ∧ x ≤ 255
theorem u_at {l : List Int} {i : Nat} (h : i < l.length) : (l.map enU)[i]? = some (enU l[i]) := by rw [List.getElem?_map, List.getElem?_eq_getElem h]; rfl
theorem rem_at {l : List Int} {i : Int} (h : 0 < l.length) (h0 : 0 ≤ i) : (i % (l.length : Int)).toNat < l.length := by
  have := Int.emod_lt_of_pos i (show (0 : Int) < l.length by omega)
  have := Int.emod_nonneg i (show (l.length : Int) ≠ 0 by omega)
  omega

set_option maxHeartbeats 1600000 in
theorem z53 (bs : List Int) (hb : BytesOk bs) (p n : Int) (h0 : 0 ≤ p) (h1 : p ≤ 1000000000) (hn : n ≤ 1000000000) : ∃ v : Int, (0 ≤ v ∧ (1 ≤ n → v < n)) ∧ CallsA Tryz.prog 105 [.ptr 0 none 0, .int n] [rdO bs p] (.int v) [rdO bs (p + 1)] := by
  have hlen := hb.len
  by_cases hz : n < 1 ∨ bs.length = 0
  · refine ⟨0, ⟨by omega, fun _ => by omega⟩, ?_⟩
    refine z12 z20 Tryz.func105 rfl rfl 99 Tryz.ntmps105 (by simp) ?_
    repeat' (first | (apply AWP.go ok; rfl; conv => whnf) | (apply z41; kernel_rfl; conv => whnf) | (apply And.intro; (first | omega | (unfold inI; omega)); conv => whnf) | (with_reducible apply get_mapI; omega; intro _; conv => whnf) | (apply z9 <;> intro _ <;> conv => whnf))
    all_goals first | (exfalso; omega) | exact z45 [0] (by decide) rfl rfl rfl ⟨z17 rfl rfl, trivial⟩
  by_cases hk : p < bs.length
  · have hp : (p + 1 - 1).toNat < bs.length := by omega
    have g0 := u_at (l := bs) (i := (p + 1 - 1).toNat) hp
    have hr := hb.el bs[(p + 1 - 1).toNat] (List.getElem_mem _)
    generalize bs[(p + 1 - 1).toNat] = b at *
    have hw : IntKind.i64.wrap b = b := IntWalk.i64_in _ (by omega)
    refine ⟨b % n, ⟨Int.emod_nonneg _ (by omega), fun _ => Int.emod_lt_of_pos _ (by omega)⟩, ?_⟩
    refine z12 z20 Tryz.func105 rfl rfl 99 Tryz.ntmps105 (by simp) ?_
    repeat' (first | (apply AWP.go ok; rfl; conv => whnf) | (apply z41; kernel_rfl; conv => whnf) | (refine z18 (i := (p + 1 - 1).toNat) rfl g0 ?_; conv => whnf) | (apply And.intro; (first | omega | (unfold inI; omega)); conv => whnf) | (with_reducible apply get_mapI; omega; intro _; conv => whnf) | (apply z9 <;> intro _ <;> conv => whnf))
    all_goals first | (exfalso; omega) | exact z45 [0] (by decide) rfl rfl rfl ⟨z17 rfl rfl, trivial⟩
  have hl0 : 0 < bs.length := by omega
  have m1 := rem_at (l := bs) (i := p + 1 - 1) hl0 (by omega)
  have m2 := rem_at (l := bs) (i := (p + 1 - 1) * 7 + 3) hl0 (by omega)
  have g1 := u_at m1
  have g2 := u_at m2
  have r1 := hb.el bs[((p + 1 - 1) % (bs.length : Int)).toNat] (List.getElem_mem _)
  have r2 := hb.el bs[(((p + 1 - 1) * 7 + 3) % (bs.length : Int)).toNat] (List.getElem_mem _)
  generalize bs[((p + 1 - 1) % (bs.length : Int)).toNat] = b1 at *
  generalize bs[(((p + 1 - 1) * 7 + 3) % (bs.length : Int)).toNat] = b2 at *
  have w1 : IntKind.i64.wrap b1 = b1 := IntWalk.i64_in _ (by omega)
  have w2 : IntKind.i64.wrap b2 = b2 := IntWalk.i64_in _ (by omega)
  have n1 := Int.emod_nonneg (p + 1 - 1) (show (bs.length : Int) ≠ 0 by omega)
  have n2 := Int.emod_nonneg ((p + 1 - 1) * 7 + 3) (show (bs.length : Int) ≠ 0 by omega)
  have l1 := Int.emod_lt_of_pos (p + 1 - 1) (show (0 : Int) < bs.length by omega)
  have l2 := Int.emod_lt_of_pos ((p + 1 - 1) * 7 + 3) (show (0 : Int) < bs.length by omega)
  have q0 : 0 ≤ (p + 1 - 1) / (bs.length : Int) := Int.ediv_nonneg (by omega) (by omega)
  have q1 : (p + 1 - 1) / (bs.length : Int) ≤ p + 1 - 1 := Int.ediv_le_self _ (by omega)
  have hx0 : 0 ≤ b1 * 131 + b2 * 1117 + (p + 1 - 1) * 29 + (p + 1 - 1) / (bs.length : Int) * 53 := by omega
  have hx1 : b1 * 131 + b2 * 1117 + (p + 1 - 1) * 29 + (p + 1 - 1) / (bs.length : Int) * 53 ≤ 1000000000000 := by omega
  have hq : 0 ≤ (b1 * 131 + b2 * 1117 + (p + 1 - 1) * 29 + (p + 1 - 1) / (bs.length : Int) * 53) / 64 ∧ (b1 * 131 + b2 * 1117 + (p + 1 - 1) * 29 + (p + 1 - 1) / (bs.length : Int) * 53) / 64 ≤ 1000000000000 := by omega
  refine ⟨(((b1 * 131 + b2 * 1117 + (p + 1 - 1) * 29 + (p + 1 - 1) / (bs.length : Int) * 53).toNat ^^^ ((b1 * 131 + b2 * 1117 + (p + 1 - 1) * 29 + (p + 1 - 1) / (bs.length : Int) * 53) / 64).toNat : Nat) : Int) % n, ⟨Int.emod_nonneg _ (by omega), fun _ => Int.emod_lt_of_pos _ (by omega)⟩, ?_⟩
  refine z12 z20 Tryz.func105 rfl rfl 99 Tryz.ntmps105 (by simp) ?_
  repeat' (first | (apply AWP.go ok; rfl; conv => whnf) | (apply z41; kernel_rfl; conv => whnf) | (refine z18 (i := (((p + 1 - 1) * 7 + 3) % (bs.length : Int)).toNat) rfl g2 ?_; conv => whnf) | (refine z18 (i := ((p + 1 - 1) % (bs.length : Int)).toNat) rfl g1 ?_; conv => whnf) | (apply And.intro; (first | omega | (unfold inI; omega) | (unfold bitsOk; omega)); conv => whnf) | (with_reducible apply get_mapI; omega; intro _; conv => whnf) | (apply z9 <;> intro _ <;> conv => whnf))
  all_goals first | (exfalso; omega) | exact z45 [0] (by decide) rfl rfl rfl ⟨z17 rfl rfl, trivial⟩

theorem l16Open_ok (bs : List Int) (hl : bs.length ≤ maxLen) : CallsA Tryz.prog 48 [lst 1 enU bs] [] (.ptr 0 none 0) [rdO (bs.take 2000) 0] := by
  unfold maxLen at hl
  refine z12 z20 Tryz.func48 rfl rfl 11 Tryz.ntmps48 (by simp) ?_
  by_cases h : bs.length ≤ 2000
  · rw [List.take_of_length_le h]
    repeat' (first | (apply AWP.go ok; rfl; conv => whnf) | (apply And.intro; (omega); conv => whnf) | (apply z9 <;> intro _ <;> conv => whnf))
    all_goals first | (exfalso; omega) | exact z45 [0] (by decide) rfl rfl rfl ⟨z17 rfl rfl, trivial⟩
  · repeat' (first | (apply AWP.go ok; rfl; conv => whnf) | (apply And.intro; (omega); conv => whnf) | (apply z9 <;> intro _ <;> conv => whnf))
    all_goals first | (exfalso; omega) | skip
    all_goals exact z45 [0] (by decide) rfl rfl rfl ⟨z17 rfl (congrArg (fun x => AObj.cells 2 [[x, AC.int 0]]) (slice_take 1 enU bs 2000 (by omega))), trivial⟩
end Go.Proofs.YtppafngcahgagaaGreat

namespace Go.Proofs.YtppafngcahgagaaGreat
open Go.Gl
attribute [local irreducible] z29 AWP z51 z62 z55

theorem z78 (bs : List Int) (hb : BytesOk bs) (p : Int) (h0 : 0 ≤ p) (h1 : p ≤ 1000000000) (l : List Int) (hl : 0 < l.length) (hl2 : l.length ≤ 1000) : ∃ v : Int, v ∈ l ∧ CallsA Tryz.prog 79 [.ptr 0 none 0, .sref 1 0 l.length] [rdO bs p, .cells 1 (l.map enI)] (.int v) [rdO bs (p + 1), .cells 1 (l.map enI)] := by
  obtain ⟨k, ⟨hk0, hk1⟩, hc⟩ := z53 bs hb p l.length h0 h1 (by omega)
  have hk : k.toNat < l.length := by omega
  have g0 : (l.map enI)[k.toNat]? = some (enI l[k.toNat]) := by rw [List.getElem?_map, List.getElem?_eq_getElem hk]; rfl
  refine ⟨l[k.toNat], List.getElem_mem _, ?_⟩
  generalize l[k.toNat] = v at *
  refine z12 z20 Tryz.func79 rfl rfl 12 Tryz.ntmps79 (by simp) ?_
  repeat' (first | (apply AWP.go ok; rfl; conv => whnf) | (refine z18 (i := k.toNat) rfl g0 ?_; conv => whnf) | (apply And.intro; (omega); conv => whnf) | (apply z6 [0] [] [] (hc); rfl; (focus ((repeat' (first | exact z4 | apply z5)) <;> (rfl))); rfl; rfl; rfl; rfl; rfl; (focus ((repeat' (first | exact z13 | apply z11)) <;> (exact z23 rfl rfl))); (exact .inl rfl); conv => whnf))
  all_goals (exact z45 [0, 1] (by decide) rfl rfl rfl ⟨z17 rfl rfl, z16 rfl (z8 fun _ => rfl), trivial⟩)
end Go.Proofs.YtppafngcahgagaaGreat

namespace Go.Proofs.YtppafngcahgagaaGreat
open Go.Gl
attribute [local irreducible] z29 AWP z51 z62 z55 RetS z76

theorem mx_of_sz (t : Tree) : t.sz ≤ maxLen → t.mx := by
  induction t using Tree.ind with | h t ih => ?_
  intro h
  rw [Tree.mx_iff]
  rw [Tree.sz_eq] at h
  refine ⟨by omega, fun u hu => ih u hu ?_⟩
  have := le_sum Tree.sz hu
  omega
/-- few draws -/
abbrev few (p : Int) : Prop := 0 ≤ p ∧ p ≤ 999999000
abbrev few1 (p : Int) : Prop := 0 ≤ p ∧ p ≤ 999990000
abbrev few2 (p : Int) : Prop := 0 ≤ p ∧ p ≤ 999900000
abbrev few3 (p : Int) : Prop := 0 ≤ p ∧ p ≤ 999000000
def leaf (k v : Int) : Tree := .mk k v []
theorem z72 (k v : Int) : (leaf k v).sz = 0 := rfl
theorem mk_sz (k v : Int) (l : List Tree) : (Tree.mk k v l).sz = l.length + (l.map Tree.sz).sum := Tree.sz_eq _

set_option maxHeartbeats 1600000 in
theorem l2Guard_ok (bs : List Int) (hb : BytesOk bs) (p : Int) (hp : few p) : ∃ (t : Tree) (p' : Int), (t.sz ≤ 3 ∧ p ≤ p' ∧ p' ≤ p + 5) ∧ CallsA Tryz.prog 110 [.ptr 0 none 0] [rdO bs p] (z39 Tree.cs' t) [rdO bs p'] := by
  obtain ⟨v0, ⟨l0, u0⟩, c0⟩ := z53 bs hb p 3 (by omega) (by omega) (by omega)
  by_cases h0 : v0 = 0
  · subst h0
    refine ⟨leaf 1 1, p + 1, ⟨by rw [z72]; omega, by omega, by omega⟩, ?_⟩
    refine z15 z20 Tryz.func110 rfl rfl 31 Tryz.ntmps110 (by simp) ?_
    repeat' ((first | (apply AWP.go ok; rfl) | (((apply z6 [0] [] [] (c0); rfl; (focus ((repeat' first | exact z4 | apply z5) <;> rfl)))); rfl; rfl; rfl; rfl; rfl; (focus ((repeat' first | exact z13 | apply z11) <;> exact z23 rfl rfl)); (exact .inl rfl))) <;> conv => whnf)
    all_goals (refine RetS.lay [0] [] rfl rfl rfl ?_; refine RetS.done ?_ ?_ <;> (repeat' (first | exact LocLe.refl _ | exact z38 | exact F2.nil | apply F2.cons | apply ObjLe.box | apply z50)))
  · obtain ⟨v1, m1, c1⟩ := z78 bs hb (p + 1) (by omega) (by omega) [0, 1, 0, 2] (by decide) (by decide)
    obtain ⟨v2, ⟨l2, u2⟩, c2⟩ := z53 bs hb (p + 1 + 1) 3 (by omega) (by omega) (by omega)
    obtain ⟨v3, m3, c3⟩ := z78 bs hb (p + 1 + 1 + 1) (by omega) (by omega) [6, 7, 6] (by decide) (by decide)
    obtain ⟨v4, ⟨l4, u4⟩, c4⟩ := z53 bs hb (p + 1 + 1 + 1 + 1) 5 (by omega) (by omega) (by omega)
    have z0 : v0 ≠ 0 := h0
    by_cases h4 : v4 = 0
    · subst h4
      refine ⟨.mk 3 0 [.mk v3 0 [leaf 2 v1, leaf 1 v2]], p + 1 + 1 + 1 + 1 + 1, ⟨by simp [mk_sz, z72], by omega, by omega⟩, ?_⟩
      refine z15 z20 Tryz.func110 rfl rfl 31 Tryz.ntmps110 (by simp) ?_
      repeat' ((first | (apply AWP.go ok; rfl) | (apply z41; kernel_rfl) | ((apply z9) <;> intro _) | ((first | (apply z6 [0] [] [] (c0); rfl; (focus ((repeat' first | exact z4 | apply z5) <;> rfl))) | (apply z6 [0, 2] [] [] (c1); rfl; (focus ((repeat' first | exact z4 | apply z5) <;> rfl))) | (apply z6 [0] [] [] (c2); rfl; (focus ((repeat' first | exact z4 | apply z5) <;> rfl))) | (apply z6 [0, 5] [] [] (c3); rfl; (focus ((repeat' first | exact z4 | apply z5) <;> rfl))) | (apply z6 [0] [] [] (c4); rfl; (focus ((repeat' first | exact z4 | apply z5) <;> rfl)))); rfl; rfl; rfl; rfl; rfl; (focus ((repeat' first | exact z13 | apply z11) <;> first | exact z23 rfl rfl | (refine z22 ?_; ((exact z8 fun _ => rfl))))); (exact .inl rfl))) <;> conv => whnf)
      all_goals first | (exfalso; omega) | skip
      all_goals (refine RetS.lay [0, 8] [6] rfl rfl rfl ?_; refine RetS.lay [0] [1] rfl rfl rfl ?_; refine RetS.done ?_ ?_ <;> (repeat' (first | exact LocLe.refl _ | exact z38 | exact F2.nil | apply F2.cons | apply ObjLe.box | ((first | apply z36 rfl rfl rfl | apply z68 rfl rfl rfl); (focus ((repeat (rfl)); done)); (focus ((rfl); done))) | apply z50 | (apply z74; rfl))))
    · refine ⟨.mk v3 0 [leaf 2 v1, leaf 1 v2], p + 1 + 1 + 1 + 1 + 1, ⟨by simp [mk_sz, z72], by omega, by omega⟩, ?_⟩
      refine z15 z20 Tryz.func110 rfl rfl 31 Tryz.ntmps110 (by simp) ?_
      repeat' ((first | (apply AWP.go ok; rfl) | (apply z41; kernel_rfl) | ((apply z9) <;> intro _) | ((first | (apply z6 [0] [] [] (c0); rfl; (focus ((repeat' first | exact z4 | apply z5) <;> rfl))) | (apply z6 [0, 2] [] [] (c1); rfl; (focus ((repeat' first | exact z4 | apply z5) <;> rfl))) | (apply z6 [0] [] [] (c2); rfl; (focus ((repeat' first | exact z4 | apply z5) <;> rfl))) | (apply z6 [0, 5] [] [] (c3); rfl; (focus ((repeat' first | exact z4 | apply z5) <;> rfl))) | (apply z6 [0] [] [] (c4); rfl; (focus ((repeat' first | exact z4 | apply z5) <;> rfl)))); rfl; rfl; rfl; rfl; rfl; (focus ((repeat' first | exact z13 | apply z11) <;> first | exact z23 rfl rfl | (refine z22 ?_; ((exact z8 fun _ => rfl))))); (exact .inl rfl))) <;> conv => whnf)
      all_goals first | (exfalso; omega) | skip
      all_goals (refine RetS.lay [0] [6] rfl rfl rfl ?_; refine RetS.done ?_ ?_ <;> (repeat' (first | exact LocLe.refl _ | exact z38 | exact F2.nil | apply F2.cons | apply ObjLe.box | ((apply z36 rfl rfl rfl); (focus ((repeat (rfl)); done)); (focus ((rfl); done))) | apply z50 | (apply z74; rfl))))
end Go.Proofs.YtppafngcahgagaaGreat

namespace Go.Proofs.YtppafngcahgagaaGreat
open Go.Gl
attribute [local irreducible] z29 AWP z51 z62 z55 RetS z76

def drK : Nat → Int
  | 0 => 4
  | n + 1 => 4 + 2 * drK n
def drS : Nat → Nat
  | 0 => 0
  | n + 1 => 2 + 2 * drS n
theorem drK_pos (n : Nat) : 4 ≤ drK n := by induction n with
  | zero => decide
  | succ n ih => rw [drK]; omega

set_option maxHeartbeats 1600000 in
theorem l1Random_ok (bs : List Int) (hb : BytesOk bs) : ∀ (n : Nat) (d p : Int), d ≤ n + 1 → n ≤ 100 → 0 ≤ d → 0 ≤ p → p + drK n ≤ 1000000000 → ∃ (t : Tree) (p' : Int), (t.sz ≤ drS n ∧ p ≤ p' ∧ p' ≤ p + drK n) ∧ CallsA Tryz.prog 246 [.ptr 0 none 0, .int d] [rdO bs p] (z39 Tree.cs' t) [rdO bs p'] := by
  intro n
  induction n with
  | zero =>
    intro d p hd hd1 hd0 hp hq
    rw [drK] at hq ⊢
    obtain ⟨v0, ⟨l0, u0⟩, c0⟩ := z53 bs hb p 3 (by omega) (by omega) (by omega)
    by_cases h0 : v0 = 0
    · subst h0
      obtain ⟨v1, ⟨l1, u1⟩, c1⟩ := z53 bs hb (p + 1) 4 (by omega) (by omega) (by omega)
      refine ⟨leaf 1 v1, p + 1 + 1, ⟨by rw [z72]; omega, by omega, by omega⟩, ?_⟩
      refine z15 z20 Tryz.func246 rfl rfl 46 Tryz.ntmps246 (by simp) ?_
      repeat' ((first | (apply AWP.go ok; rfl) | ((apply z9) <;> intro _) | ((first | (apply z6 [0] [] [] (c0); rfl; (focus ((repeat' first | exact z4 | apply z5) <;> rfl))) | (apply z6 [0] [] [] (c1); rfl; (focus ((repeat' first | exact z4 | apply z5) <;> rfl)))); rfl; rfl; rfl; rfl; rfl; (focus ((repeat' first | exact z13 | apply z11) <;> exact z23 rfl rfl)); (exact .inl rfl))) <;> conv => whnf)
      all_goals first | (exfalso; omega) | skip
      all_goals (refine RetS.lay [0] [] rfl rfl rfl ?_; refine RetS.done ?_ ?_ <;> (repeat' (first | exact LocLe.refl _ | exact z38 | exact F2.nil | apply F2.cons | apply ObjLe.box | apply z50)))
    · obtain ⟨v1, m1, c1⟩ := z78 bs hb (p + 1) (by omega) (by omega) [0, 1, 0, 2] (by decide) (by decide)
      refine ⟨leaf 2 v1, p + 1 + 1, ⟨by rw [z72]; omega, by omega, by omega⟩, ?_⟩
      refine z15 z20 Tryz.func246 rfl rfl 46 Tryz.ntmps246 (by simp) ?_
      repeat' ((first | (apply AWP.go ok; rfl) | ((apply z9) <;> intro _) | ((first | (apply z6 [0] [] [] (c0); rfl; (focus ((repeat' first | exact z4 | apply z5) <;> rfl))) | (apply z6 [0, 2] [] [] (c1); rfl; (focus ((repeat' first | exact z4 | apply z5) <;> rfl)))); rfl; rfl; rfl; rfl; rfl; (focus ((repeat' first | exact z13 | apply z11) <;> first | exact z23 rfl rfl | (refine z22 ?_; ((exact z8 fun _ => rfl))))); (exact .inl rfl))) <;> conv => whnf)
      all_goals first | (exfalso; omega) | skip
      all_goals (refine RetS.lay [0] [] rfl rfl rfl ?_; refine RetS.done ?_ ?_ <;> (repeat' (first | exact LocLe.refl _ | exact z38 | exact F2.nil | apply F2.cons | apply ObjLe.box | apply z50)))
  | succ n ih =>
    intro d p hd hd1 hd0 hp hq
    have hK := drK_pos n
    by_cases hlt : d < 2
    · obtain ⟨t, p', h1, h2⟩ := ih d p (by omega) (by omega) hd0 hp (by rw [drK] at hq; omega)
      exact ⟨t, p', ⟨by rw [drS]; omega, h1.2.1, by rw [drK]; omega⟩, h2⟩
    rw [drK] at hq
    rw [drK, drS]
    obtain ⟨w, ⟨lw, uw⟩, cw⟩ := z53 bs hb p 5 (by omega) (by omega) (by omega)
    by_cases hw : w = 0
    · subst hw
      obtain ⟨v0, ⟨l0, u0⟩, c0⟩ := z53 bs hb (p + 1) 3 (by omega) (by omega) (by omega)
      by_cases h0 : v0 = 0
      · subst h0
        obtain ⟨v1, ⟨l1, u1⟩, c1⟩ := z53 bs hb (p + 1 + 1) 4 (by omega) (by omega) (by omega)
        refine ⟨leaf 1 v1, p + 1 + 1 + 1, ⟨by rw [z72]; omega, by omega, by omega⟩, ?_⟩
        refine z15 z20 Tryz.func246 rfl rfl 46 Tryz.ntmps246 (by simp) ?_
        repeat' ((first | (apply AWP.go ok; rfl) | ((apply z9) <;> intro _) | ((first | (apply z6 [0] [] [] (cw); rfl; (focus ((repeat' first | exact z4 | apply z5) <;> rfl))) | (apply z6 [0] [] [] (c0); rfl; (focus ((repeat' first | exact z4 | apply z5) <;> rfl))) | (apply z6 [0] [] [] (c1); rfl; (focus ((repeat' first | exact z4 | apply z5) <;> rfl)))); rfl; rfl; rfl; rfl; rfl; (focus ((repeat' first | exact z13 | apply z11) <;> exact z23 rfl rfl)); (exact .inl rfl))) <;> conv => whnf)
        all_goals first | (exfalso; omega) | skip
        all_goals (refine RetS.lay [0] [] rfl rfl rfl ?_; refine RetS.done ?_ ?_ <;> (repeat' (first | exact LocLe.refl _ | exact z38 | exact F2.nil | apply F2.cons | apply ObjLe.box | apply z50)))
      · obtain ⟨v1, m1, c1⟩ := z78 bs hb (p + 1 + 1) (by omega) (by omega) [0, 1, 0, 2] (by decide) (by decide)
        refine ⟨leaf 2 v1, p + 1 + 1 + 1, ⟨by rw [z72]; omega, by omega, by omega⟩, ?_⟩
        refine z15 z20 Tryz.func246 rfl rfl 46 Tryz.ntmps246 (by simp) ?_
        repeat' ((first | (apply AWP.go ok; rfl) | ((apply z9) <;> intro _) | ((first | (apply z6 [0] [] [] (cw); rfl; (focus ((repeat' first | exact z4 | apply z5) <;> rfl))) | (apply z6 [0] [] [] (c0); rfl; (focus ((repeat' first | exact z4 | apply z5) <;> rfl))) | (apply z6 [0, 2] [] [] (c1); rfl; (focus ((repeat' first | exact z4 | apply z5) <;> rfl)))); rfl; rfl; rfl; rfl; rfl; (focus ((repeat' first | exact z13 | apply z11) <;> first | exact z23 rfl rfl | (refine z22 ?_; ((exact z8 fun _ => rfl))))); (exact .inl rfl))) <;> conv => whnf)
        all_goals first | (exfalso; omega) | skip
        all_goals (refine RetS.lay [0] [] rfl rfl rfl ?_; refine RetS.done ?_ ?_ <;> (repeat' (first | exact LocLe.refl _ | exact z38 | exact F2.nil | apply F2.cons | apply ObjLe.box | apply z50)))
    · obtain ⟨kd, mk, ck⟩ := z78 bs hb (p + 1) (by omega) (by omega) [6, 8, 7, 4, 3, 5, 9] (by decide) (by decide)
      have ca := l1Arity_ok kd
      have ham : ∃ m : Nat, arity kd = m ∧ m ≤ 2 := by
        simp only [List.mem_cons, List.not_mem_nil, or_false] at mk
        unfold arity
        rcases mk with rfl | rfl | rfl | rfl | rfl | rfl | rfl
        all_goals first | exact ⟨2, rfl, by omega⟩ | exact ⟨1, rfl, by omega⟩
      obtain ⟨m, em, hm⟩ := ham
      rw [em] at ca
      obtain ⟨ks, pf, hks, hp0, hst, hpf⟩ := seq_ex (fun k q (t : Tree) q' => t.sz ≤ drS n ∧ CallsA Tryz.prog 246 [.ptr 0 none 0, .int (d - 1)] [rdO bs q] (z39 Tree.cs' t) [rdO bs q']) (p + 1 + 1) (drK n) m (fun k q hk h1 h2 => by
        have : drK n * k ≤ drK n := by
          have : k = 0 ∨ k = 1 := by omega
          rcases this with rfl | rfl <;> simp <;> omega
        obtain ⟨t, q', ⟨a1, a2, a3⟩, a4⟩ := ih (d - 1) q (by omega) (by omega) (by omega) (by omega) (by omega)
        exact ⟨t, q', ⟨a1, a4⟩, a2, a3⟩)
      have hpm := hpf m (Nat.le_refl _)
      have hKm : drK n * m ≤ 2 * drK n := by
        have : m = 0 ∨ m = 1 ∨ m = 2 := by omega
        rcases this with rfl | rfl | rfl <;> simp <;> omega
      have hsum : (ks.map Tree.sz).sum ≤ 2 * drS n := by
        have : ∀ (l : List Tree), (∀ t ∈ l, t.sz ≤ drS n) → (l.map Tree.sz).sum ≤ l.length * drS n := by
          intro l
          induction l with
          | nil => intro _; simp
          | cons t l ih =>
            intro h
            have h1 := h t (by simp)
            have h2 := ih fun u hu => h u (by simp [hu])
            simp only [List.map_cons, List.sum_cons, List.length_cons, Nat.add_mul]
            omega
        have h1 := this ks fun t ht => by
          obtain ⟨i, hi, rfl⟩ := List.mem_iff_getElem.1 ht
          exact (hst i hi).1
        have h2 : ks.length * drS n ≤ 2 * drS n := Nat.mul_le_mul_right _ (by omega)
        omega
      refine ⟨.mk kd 0 ks, pf m, ⟨by rw [mk_sz]; omega, by omega, by omega⟩, ?_⟩
      refine z15 z20 Tryz.func246 rfl rfl 46 Tryz.ntmps246 (by simp) ?_
      rw [← hp0] at ck
      repeat' ((first | (apply AWP.go ok; rfl) | ((apply z9) <;> intro _) | (apply z10 (ca); rfl; rfl) | ((first | (apply z6 [0] [] [] (cw); rfl; (focus ((repeat' first | exact z4 | apply z5) <;> rfl))) | (apply z6 [0, 2] [] [] (ck); rfl; (focus ((repeat' first | exact z4 | apply z5) <;> rfl)))); rfl; rfl; rfl; rfl; rfl; (focus ((repeat' first | exact z13 | apply z11) <;> first | exact z23 rfl rfl | (refine z22 ?_; ((exact z8 fun _ => rfl))))); (exact .inl rfl))) <;> conv => whnf)
      all_goals first | (exfalso; omega) | skip
      refine AWP.reach (Reach.empty 3 rfl) ?_
      refine z108 (fun k : Nat => ([(0, .ptr 0 none 0), (1, .int d), (4, .ptr 1 none 0), (6, .ptr 2 none 0), (7, .int (m - k))], [rdO bs (pf k), .cells 3 [[.int 0, .int 0, .nils]], .cells 3 [[.int kd, .int 0, .sref 3 0 k]], .cells 3 ((ks.take k).map Tree.cs')])) (fun k => k ≤ m) (fun k => m - k) 0 (by omega) (by refine SealW.reach [0, 1, 3, 4] [] rfl rfl rfl rfl ?_ ?_ <;> (repeat' (first | exact LocLe.refl _ | exact z69 | exact F2.nil | apply F2.cons | apply ObjLe.box | ((refine z25 rfl ?_ ?_); (focus ((repeat' (exact z52)); done))) | exact True.intro | apply And.intro))) ?_
      intro k hk
      by_cases hkm : k < m
      · have hc := (hst k (by omega)).2
        have hkl : k < ks.length := by omega
        rw [Tree.arg_eq] at hc
        repeat' ((first | (apply AWP.go ok; rfl) | (apply z41; kernel_rfl) | (apply And.intro; first | (unfold inI; omega) | ((try dsimp only); simp only [List.length_map, List.length_take, List.length_append, List.length_replicate, List.length_cons, List.length_nil]; omega) | exact ⟨rfl, z24 rfl z30⟩) | ((apply z9) <;> intro _) | (((apply z6 [0] [] [] (hc); rfl; (focus ((repeat' first | exact z4 | apply z5) <;> rfl)))); rfl; rfl; rfl; rfl; rfl; (focus ((repeat' first | exact z13 | apply z11) <;> exact z23 rfl rfl)); (exact .inl rfl))) <;> conv => whnf)
        all_goals first | (exfalso; omega) | skip
        refine z58 (k + 1) (by omega) (by omega) (by refine SealW.reach [0, 1, 2, 5] [] rfl rfl rfl rfl ?_ ?_ <;> (repeat' (first | exact LocLe.refl _ | exact F2.nil | apply F2.cons | exact f22_cs | (refine int_le ?_; omega) | apply ObjLe.box | ((refine z34 rfl ?_ ?_); (focus ((repeat' (first | exact z8 (fun _ => rfl) | apply z28)); done))) | (refine z87 (by omega) (by omega) ?_) | (apply z74; rfl) | exact True.intro | apply And.intro)))
      · have : k = m := by omega
        subst this
        repeat' ((first | (apply AWP.go ok; rfl) | (apply And.intro; omega) | ((apply z9) <;> intro _)) <;> conv => whnf)
        all_goals first | (exfalso; omega) | skip
        all_goals (refine RetS.lay [0] [3] rfl rfl rfl ?_; refine RetS.done ?_ ?_ <;> (repeat' (first | exact LocLe.refl _ | exact F2.nil | apply F2.cons | (refine kids_end_le ?_; omega) | apply ObjLe.box | ((apply z36 rfl rfl rfl); (focus ((repeat ((exact z32 (fun _ => rfl) _))); done)); (focus (((simp; omega)); done))) | apply z50)))
end Go.Proofs.YtppafngcahgagaaGreat

namespace Go.Proofs.YtppafngcahgagaaGreat
open Go.Gl
attribute [local irreducible] z29 AWP z51 z62 z55 RetS z76

theorem l1Expr_ok (bs : List Int) (hb : BytesOk bs) (p : Int) (hp : few p) : ∃ (t : Tree) (p' : Int), (t.sz ≤ 20 ∧ p ≤ p' ∧ p' ≤ p + 100) ∧ CallsA Tryz.prog 214 [.ptr 0 none 0] [rdO bs p] (z39 Tree.cs' t) [rdO bs p'] := by
  obtain ⟨d, md, cd⟩ := z78 bs hb p (by omega) (by omega) [3, 2, 3, 4] (by decide) (by decide)
  have hd : 0 ≤ d ∧ d ≤ 4 := by simp at md; omega
  obtain ⟨t, q, ⟨t1, t2, t3⟩, ct⟩ := l1Random_ok bs hb 3 d (p + 1) (by omega) (by omega) (by omega) (by omega) (by simp only [drK]; omega)
  simp only [drK] at t3
  simp only [drS] at t1
  have cv := z98 t (mx_of_sz t (by unfold maxLen; omega))
  by_cases hv : t.exprB = true
  · refine ⟨t, q, ⟨by omega, by omega, by omega⟩, ?_⟩
    rw [hv] at cv
    rw [Tree.arg_eq] at *
    refine z15 z20 Tryz.func214 rfl rfl 15 Tryz.ntmps214 (by simp) ?_
    repeat' ((first | (apply AWP.go ok; rfl) | (apply z10 (cv); rfl; rfl) | ((first | (apply z6 [0, 2] [] [] (cd); rfl; (focus ((repeat' first | exact z4 | apply z5) <;> rfl))) | (apply z6 [0] [] [] (ct); rfl; (focus ((repeat' first | exact z4 | apply z5) <;> rfl)))); rfl; rfl; rfl; rfl; rfl; (focus ((repeat' first | exact z13 | apply z11) <;> first | exact z23 rfl rfl | (refine z22 ?_; ((exact z8 fun _ => rfl))))); (exact .inl rfl))) <;> conv => whnf)
    all_goals skip
    all_goals (refine RetS.lay [0] [] rfl rfl rfl ?_; refine RetS.done ?_ ?_ <;> (repeat' (first | exact LocLe.refl _ | exact F2.nil | apply F2.cons | apply ObjLe.box)))
  · obtain ⟨w, ⟨lw, uw⟩, cw⟩ := z53 bs hb q 3 (by omega) (by omega) (by omega)
    refine ⟨leaf 2 w, q + 1, ⟨by rw [z72]; omega, by omega, by omega⟩, ?_⟩
    rw [(Bool.not_eq_true _).mp hv] at cv
    rw [Tree.arg_eq] at cv ct
    refine z15 z20 Tryz.func214 rfl rfl 15 Tryz.ntmps214 (by simp) ?_
    repeat' ((first | (apply AWP.go ok; rfl) | (apply z10 (cv); rfl; rfl) | ((first | (apply z6 [0, 2] [] [] (cd); rfl; (focus ((repeat' first | exact z4 | apply z5) <;> rfl))) | (apply z6 [0] [] [] (ct); rfl; (focus ((repeat' first | exact z4 | apply z5) <;> rfl))) | (apply z6 [0] [] [] (cw); rfl; (focus ((repeat' first | exact z4 | apply z5) <;> rfl)))); rfl; rfl; rfl; rfl; rfl; (focus ((repeat' first | exact z13 | apply z11) <;> first | exact z23 rfl rfl | (refine z22 ?_; ((exact z8 fun _ => rfl))))); (exact .inl rfl))) <;> conv => whnf)
    all_goals skip
    all_goals (refine RetS.lay [0] [] rfl rfl rfl ?_; refine RetS.done ?_ ?_ <;> (repeat' (first | exact LocLe.refl _ | exact z38 | exact F2.nil | apply F2.cons | apply ObjLe.box | apply z50)))

mutual
def subZ (t : Tree) : Tree := match t with
  | .mk k v l => if k = 2 ∧ v = -1 then .mk 0 0 [] else .mk k v (subZs l)
def subZs (l : List Tree) : List Tree := match l with
  | [] => []
  | t :: r => subZ t :: subZs r
end
theorem subZs_eq (l : List Tree) : subZs l = l.map subZ := by
  induction l with
  | nil => simp [subZs]
  | cons t l ih => simp [subZs, ih]
theorem subZ_sz (t : Tree) : (subZ t).sz ≤ t.sz := by
  induction t using Tree.ind with | h t ih => ?_
  cases t with
  | mk k v l =>
    rw [subZ]
    split
    · rw [mk_sz]; simp
    · rw [subZs_eq, mk_sz, mk_sz]
      simp only [Tree.kids] at ih
      have key : ∀ l : List Tree, (∀ u ∈ l, (subZ u).sz ≤ u.sz) → ((l.map subZ).map Tree.sz).sum ≤ (l.map Tree.sz).sum := by
        intro l
        induction l with
        | nil => intro _; simp
        | cons t l ihl =>
          intro ih
          have h1 := ih t (by simp)
          have h2 := ihl fun u hu => ih u (by simp [hu])
          simp only [List.map_cons, List.sum_cons]
          omega
      have := key l ih
      simp only [List.length_map]
      omega

def zeroE : AC := .agg [.int 0, .int 0, .nils]
def ownT (t : Tree) : AC := .agg [.int t.kind, .int t.val, .sref 0 0 t.kids.length]
theorem subst0_new : CallsA Tryz.prog 173 [zeroE, .int (-1), zeroE] [] (ownT (.mk 0 0 [])) [.cells 3 []] := by
  refine z15 z20 Tryz.func173 rfl rfl 47 Tryz.ntmps173 (by simp) ?_
  repeat' (((apply AWP.go ok; rfl)) <;> conv => whnf)
  refine z73 (fun _ : Nat => ([(6, .ptr 0 none 0), (7, .ptr 1 none 0), (8, .int 0), (3, .ptr 2 none 0)], [.cells 3 [[.int 0, .int 0, .nils]], .cells 3 [[.int 0, .int 0, .nils]], .cells 3 [[.int 0, .int 0, .nils]]])) (fun _ => True) (fun _ => 0) 0 trivial ⟨[2, 3, 0], rfl, by decide, rfl, by repeat' (first | exact True.intro | exact ⟨rfl, rfl⟩ | apply And.intro), by repeat' (first | exact True.intro | exact z17 rfl rfl | apply And.intro)⟩ ?_
  intro k hk
  repeat' (((apply AWP.go ok; rfl)) <;> conv => whnf)
  all_goals skip
  all_goals (refine RetS.lay [] [] rfl rfl rfl ?_; refine RetS.empty 3 ?_; refine RetS.done ?_ ?_ <;> (repeat' (first | exact LocLe.refl _ | exact z69 | exact F2.nil | apply F2.cons | apply z50 | apply ObjLe.mk)))
theorem own_data {f : FuncId} {args : List AC} {t : Tree} (h : CallsA Tryz.prog f args [] (ownT t) [.cells 3 (t.kids.map Tree.cs')]) : CallsA Tryz.prog f args [] (z39 Tree.cs' t) [] := by
  rw [Tree.arg_eq]
  exact (by refine CallsA.settle (h) [] [0] rfl rfl rfl ?_ ?_ <;> (repeat' (first | exact LocLe.refl _ | exact F2.nil | apply F2.cons | ((apply z36 rfl rfl rfl); (focus ((repeat ((exact z32 (fun _ => rfl) _))); done)); (focus (((simp; done)); done))) | apply z50)))

theorem l1Subst_new (t : Tree) (h : t.sz ≤ 1000000) : CallsA Tryz.prog 173 [z39 Tree.cs' t, .int (-1), zeroE] [] (ownT (subZ t)) [.cells 3 ((subZ t).kids.map Tree.cs')] := by
  induction t using Tree.ind with | h t ih => ?_
  have hkl : t.kids.length ≤ 1000000 := by rw [Tree.sz_eq] at h; omega
  have hks : ∀ u ∈ t.kids, u.sz ≤ 1000000 := fun u hu => by
    have := le_sum Tree.sz hu
    rw [Tree.sz_eq] at h; omega
  rw [Tree.arg_eq t]
  obtain ⟨k, v, l⟩ := t
  simp only [Tree.kind, Tree.val, Tree.kids] at *
  rw [subZ]
  by_cases hz : k = 2 ∧ v = -1
  · obtain ⟨rfl, rfl⟩ := hz
    rw [if_pos ⟨rfl, rfl⟩]
    have c := subst0_new
    unfold zeroE ownT at *
    refine z15 z20 Tryz.func173 rfl rfl 47 Tryz.ntmps173 (by simp) ?_
    repeat' ((first | (apply AWP.go ok; rfl) | (((apply z6 [] [] [3] (c); rfl; (focus ((repeat' exact z4) <;> fail)))); rfl; rfl; rfl; rfl; rfl; (focus ((repeat' first | exact z13 | apply z11) <;> (refine z22 ?_; (exact z52)))); (exact .inl rfl))) <;> conv => whnf)
    all_goals skip
    all_goals (refine RetS.lay [3] [] rfl rfl rfl ?_; refine RetS.done ?_ ?_ <;> (repeat' (first | exact LocLe.refl _ | exact F2.nil | apply F2.cons | ((refine z25 rfl ?_ ?_); (focus ((repeat' (exact z52)); done))))))
  · rw [if_neg hz, subZs_eq]
    have hcs : ∀ (i : Nat) (hi : i < l.length) (hi2 : i < (l.map subZ).length), CallsA Tryz.prog 173 [z39 Tree.cs' l[i], .int (-1), zeroE] [] (z39 Tree.cs' (l.map subZ)[i]) [] := fun i hi hi2 => by
      rw [List.getElem_map]
      exact own_data (ih _ (List.getElem_mem _) (hks _ (List.getElem_mem _)))
    have hll : (l.map subZ).length = l.length := List.length_map ..
    generalize l.map subZ = L at *
    unfold zeroE ownT at *
    simp only [Tree.kind, Tree.val, Tree.kids] at *
    rw [hll]
    refine z15 z20 Tryz.func173 rfl rfl 47 Tryz.ntmps173 (by simp) ?_
    by_cases h2 : k = 2
    all_goals
      repeat' ((first | (apply AWP.go ok; rfl) | ((apply z9) <;> intro _)) <;> conv => whnf)
      all_goals first | (exfalso; omega) | skip
      refine AWP.reach (Reach.empty 3 rfl) ?_
      refine z108 (fun i : Nat => ([(1, .int (-1)), (3, .ptr 0 none 0), (5, .ptr 1 none 0), (6, .ptr 2 none 0), (7, .ptr 3 none 0), (8, .int i)], [.cells 3 [[.int k, .int v, lst 3 Tree.cs' l]], .cells 3 [[.int 0, .int 0, .nils]], .cells 3 [[.int 0, .int 0, .nils]], .cells 3 [[.int k, .int v, .sref 4 0 i]], .cells 3 ((L.take i).map Tree.cs')])) (fun i => i ≤ l.length) (fun i => l.length - i) 0 (by omega) (by refine SealW.reach [0, 1, 2, 3, 4] [] rfl rfl rfl rfl ?_ ?_ <;> (repeat' (first | exact LocLe.refl _ | exact z69 | exact F2.nil | apply F2.cons | apply ObjLe.box | ((refine z25 rfl ?_ ?_); (focus ((repeat' (exact z52)); done))) | exact True.intro | apply And.intro))) ?_
      intro i hi
      by_cases hil : i < l.length
      · have hiL : i < L.length := by omega
        have hc := hcs i hil hiL
        repeat' ((first | (apply AWP.go ok; rfl) | (apply z41; kernel_rfl) | (apply And.intro; first | omega | (unfold inI; omega) | ((try dsimp only); simp only [List.length_map, List.length_take, List.length_append, List.length_replicate, List.length_cons, List.length_nil]; omega) | exact ⟨rfl, z24 rfl z30⟩) | (((with_reducible apply z14; omega)); intro _) | ((apply z9) <;> intro _) | (apply z10 (hc); rfl; rfl)) <;> conv => whnf)
        all_goals first | (exfalso; omega) | skip
        refine z58 (i + 1) (by omega) (by omega) (by refine SealW.reach [0, 1, 2, 3, 6] [] rfl rfl rfl rfl ?_ ?_ <;> (repeat' (first | exact LocLe.refl _ | exact F2.nil | apply F2.cons | apply ObjLe.box | ((refine z34 rfl ?_ ?_); (focus ((repeat' (first | exact z8 (fun _ => rfl) | apply z28)); done))) | (refine z87 (by omega) (by omega) ?_) | exact True.intro | apply And.intro)))
      · have e : i = l.length := by omega
        subst e
        rw [List.take_of_length_le (show L.length ≤ l.length by omega)]
        repeat' ((first | (apply AWP.go ok; rfl) | (apply And.intro; omega) | (((with_reducible apply z14; omega)); intro _) | ((apply z9) <;> intro _)) <;> conv => whnf)
        all_goals first | (exfalso; omega) | skip
        all_goals (refine RetS.lay [4] [] rfl rfl rfl ?_; refine RetS.done ?_ ?_ <;> (repeat' (first | exact LocLe.refl _ | exact F2.nil | apply F2.cons | exact z26 _ | ((refine z25 rfl ?_ ?_); (focus ((repeat' ((exact z8 (fun _ => rfl)))); done))))))
end Go.Proofs.YtppafngcahgagaaGreat

namespace Go.Proofs.YtppafngcahgagaaGreat
open Go.Gl
attribute [local irreducible] z29 AWP z51 z62 z55 RetS z76

theorem snoc_list {w n n2 : Nat} {α : Type} {f : α → List AC} {l : List α} {x : α} {e : List AC} (hn : n = l.length) (h2 : n2 = l.length + 1) (h : F2 LocLe e (f x)) : LocLe (.list w n2 (((l.map f).take n) ++ [e])) (.list w (l ++ [x]).length ((l ++ [x]).map f)) := by
  subst hn
  refine z74 (by simp [h2]) ?_
  rw [List.take_of_length_le (by simp), List.map_append]
  have : ∀ (a : List (List AC)) {b c : List AC}, F2 LocLe b c → F2 (F2 LocLe) (a ++ [b]) (a ++ [c]) := fun a b c h => by
    induction a with
    | nil => exact .cons h .nil
    | cons x a ih => exact .cons (f2_refl x) ih
  exact this _ h
theorem snoc_tree {n n2 : Nat} {l : List Tree} {x : Tree} {e : List AC} (hn : n = l.length) (h2 : n2 = l.length + 1) (h : F2 LocLe e (Tree.cs' x)) : LocLe (.list 3 n2 (((l.map Tree.cs').take n) ++ [e])) (.list 3 (l ++ [x]).length ((l ++ [x]).map Tree.cs)) := by
  rw [Tree.cs_eq]; exact snoc_list hn h2 h

set_option maxHeartbeats 1600000 in
theorem l1Mutate_ok (bs : List Int) (hb : BytesOk bs) (p : Int) (hp : few p) (t : Tree) (ht : t.sz ≤ 1000) : ∃ (t' : Tree) (p' : Int), (t'.sz ≤ t.sz + 1 ∧ p ≤ p' ∧ p' ≤ p + 2) ∧ CallsA Tryz.prog 111 [.ptr 0 none 0, z39 Tree.cs' t] [rdO bs p] (z39 Tree.cs' t') [rdO bs p'] := by
  have cs := l1Subst_new t (by omega)
  have hsz := subZ_sz t
  generalize subZ t = u at *
  have hul : u.kids.length ≤ 1000 := by rw [Tree.sz_eq] at hsz; omega
  obtain ⟨v, ⟨lv, uv⟩, cv⟩ := z53 bs hb p 40 (by omega) (by omega) (by omega)
  rw [Tree.arg_eq t]
  rw [Tree.arg_eq t] at cs
  unfold ownT zeroE at cs
  by_cases h0 : v = 0
  · subst h0
    obtain ⟨k, mk, ck⟩ := z78 bs hb (p + 1) (by omega) (by omega) [0, 10, -1, 1, 2, 3, 4] (by decide) (by decide)
    refine ⟨.mk k u.val u.kids, p + 1 + 1, ⟨by rw [mk_sz]; rw [Tree.sz_eq] at hsz; omega, by omega, by omega⟩, ?_⟩
    refine z15 z20 Tryz.func111 rfl rfl 35 Tryz.ntmps111 (by simp) ?_
    repeat' ((first | (apply AWP.go ok; rfl) | ((first | (apply z6 [] [] [3] (cs); rfl; (focus ((repeat' exact z4) <;> fail))) | (apply z6 [0] [] [] (cv); rfl; (focus ((repeat' first | exact z4 | apply z5) <;> rfl))) | (apply z6 [0, 5] [] [] (ck); rfl; (focus ((repeat' first | exact z4 | apply z5) <;> rfl)))); rfl; rfl; rfl; rfl; rfl; (focus ((repeat' first | exact z13 | apply z11) <;> first | exact z23 rfl rfl | (refine z22 ?_; ((exact z8 fun _ => rfl))))); (exact .inl rfl))) <;> conv => whnf)
    all_goals skip
    all_goals (refine RetS.lay [0] [3] rfl rfl rfl ?_; refine RetS.done ?_ ?_ <;> (repeat' (first | exact LocLe.refl _ | exact F2.nil | apply F2.cons | exact f22_cs | apply ObjLe.box | ((apply z36 rfl rfl rfl); (focus ((repeat ((exact z32 (fun _ => rfl) _))); done)); (focus (((simp; done)); done))) | apply z50 | (apply z74; rfl))))
  by_cases h1 : v = 1
  · subst h1
    obtain ⟨k, mk, ck⟩ := z78 bs hb (p + 1) (by omega) (by omega) [-1, 4, 3, 9223372036854775807] (by decide) (by decide)
    refine ⟨.mk u.kind k u.kids, p + 1 + 1, ⟨by rw [mk_sz]; rw [Tree.sz_eq] at hsz; omega, by omega, by omega⟩, ?_⟩
    refine z15 z20 Tryz.func111 rfl rfl 35 Tryz.ntmps111 (by simp) ?_
    repeat' ((first | (apply AWP.go ok; rfl) | ((first | (apply z6 [] [] [3] (cs); rfl; (focus ((repeat' exact z4) <;> fail))) | (apply z6 [0] [] [] (cv); rfl; (focus ((repeat' first | exact z4 | apply z5) <;> rfl))) | (apply z6 [0, 5] [] [] (ck); rfl; (focus ((repeat' first | exact z4 | apply z5) <;> rfl)))); rfl; rfl; rfl; rfl; rfl; (focus ((repeat' first | exact z13 | apply z11) <;> first | exact z23 rfl rfl | (refine z22 ?_; ((exact z8 fun _ => rfl))))); (exact .inl rfl))) <;> conv => whnf)
    all_goals skip
    all_goals (refine RetS.lay [0] [3] rfl rfl rfl ?_; refine RetS.done ?_ ?_ <;> (repeat' (first | exact LocLe.refl _ | exact F2.nil | apply F2.cons | exact f22_cs | apply ObjLe.box | ((apply z36 rfl rfl rfl); (focus ((repeat ((exact z32 (fun _ => rfl) _))); done)); (focus (((simp; done)); done))) | apply z50 | (apply z74; rfl))))
  by_cases h2 : v = 2
  · subst h2
    refine ⟨.mk u.kind u.val (u.kids ++ [leaf 1 0]), p + 1, ⟨by rw [mk_sz]; rw [Tree.sz_eq] at hsz; simp [z72]; omega, by omega, by omega⟩, ?_⟩
    refine z15 z20 Tryz.func111 rfl rfl 35 Tryz.ntmps111 (by simp) ?_
    repeat' ((first | (apply AWP.go ok; rfl) | (apply And.intro; first | ((try dsimp only); simp only [List.length_map, List.length_take, List.length_append, List.length_replicate, List.length_cons, List.length_nil]; omega) | exact ⟨rfl, z24 rfl z30⟩) | ((first | (apply z6 [] [] [3] (cs); rfl; (focus ((repeat' exact z4) <;> fail))) | (apply z6 [0] [] [] (cv); rfl; (focus ((repeat' first | exact z4 | apply z5) <;> rfl)))); rfl; rfl; rfl; rfl; rfl; (focus ((repeat' first | exact z13 | apply z11) <;> first | exact z23 rfl rfl | (refine z22 ?_; ((exact z8 fun _ => rfl))))); (exact .inl rfl))) <;> conv => whnf)
    all_goals skip
    all_goals (refine RetS.lay [0] [6] rfl rfl rfl ?_; refine RetS.done ?_ ?_ <;> (repeat' (first | exact LocLe.refl _ | exact F2.nil | apply F2.cons | apply ObjLe.box | ((apply z36 rfl rfl rfl); (focus ((repeat (first | exact z32 (fun _ => rfl) _ | apply unown_app | apply unown_tk | rfl)); done)); (focus (((simp; done)); done))) | apply z50)))
    all_goals exact snoc_tree rfl rfl (node_le' z38)
  by_cases h3 : v = 3
  · subst h3
    refine ⟨leaf 0 0, p + 1, ⟨by rw [z72]; omega, by omega, by omega⟩, ?_⟩
    refine z15 z20 Tryz.func111 rfl rfl 35 Tryz.ntmps111 (by simp) ?_
    repeat' ((first | (apply AWP.go ok; rfl) | ((first | (apply z6 [] [] [3] (cs); rfl; (focus ((repeat' exact z4) <;> fail))) | (apply z6 [0] [] [] (cv); rfl; (focus ((repeat' first | exact z4 | apply z5) <;> rfl)))); rfl; rfl; rfl; rfl; rfl; (focus ((repeat' first | exact z13 | apply z11) <;> first | exact z23 rfl rfl | (refine z22 ?_; ((exact z8 fun _ => rfl))))); (exact .inl rfl))) <;> conv => whnf)
    all_goals skip
    all_goals (refine RetS.lay [0] [] rfl rfl rfl ?_; refine RetS.done ?_ ?_ <;> (repeat' (first | exact LocLe.refl _ | exact z38 | exact F2.nil | apply F2.cons | apply ObjLe.box | apply z50)))
  · refine ⟨.mk u.kind u.val u.kids, p + 1, ⟨by rw [mk_sz]; rw [Tree.sz_eq] at hsz; omega, by omega, by omega⟩, ?_⟩
    refine z15 z20 Tryz.func111 rfl rfl 35 Tryz.ntmps111 (by simp) ?_
    repeat' ((first | (apply AWP.go ok; rfl) | (apply And.intro; omega) | ((apply z9) <;> intro _) | ((first | (apply z6 [] [] [3] (cs); rfl; (focus ((repeat' exact z4) <;> fail))) | (apply z6 [0] [] [] (cv); rfl; (focus ((repeat' first | exact z4 | apply z5) <;> rfl)))); rfl; rfl; rfl; rfl; rfl; (focus ((repeat' first | exact z13 | apply z11) <;> first | exact z23 rfl rfl | (refine z22 ?_; ((exact z8 fun _ => rfl))))); (exact .inl rfl))) <;> conv => whnf)
    all_goals first | (exfalso; omega) | skip
    all_goals (refine RetS.lay [0] [3] rfl rfl rfl ?_; refine RetS.done ?_ ?_ <;> (repeat' (first | exact LocLe.refl _ | exact F2.nil | apply F2.cons | exact f22_cs | apply ObjLe.box | ((apply z36 rfl rfl rfl); (focus ((repeat ((exact z32 (fun _ => rfl) _))); done)); (focus (((simp; done)); done))) | apply z50 | (apply z74; rfl))))
end Go.Proofs.YtppafngcahgagaaGreat

namespace Go.Proofs.YtppafngcahgagaaGreat
open Go.Gl
attribute [local irreducible] z29 AWP z51 z62 z55 RetS z76

theorem len3 {α : Type} {l : List α} (h : l.length = 3) : ∃ a b c, l = [a, b, c] := by
  match l, h with
  | [a, b, c], _ => exact ⟨a, b, c, rfl⟩

set_option maxHeartbeats 3200000 in
theorem l8Labels_new (bs : List Int) (hb : BytesOk bs) (p : Int) (hp : few1 p) : ∃ (M : List Tree) (n : Nat) (p' : Int), (n ≤ M.length ∧ M.length = 3 ∧ (∀ t ∈ M, t.sz ≤ 5) ∧ p ≤ p' ∧ p' ≤ p + 30) ∧ CallsA Tryz.prog 49 [.ptr 0 none 0] [rdO bs p] (.sref 1 0 n) [rdO bs p', .cells 3 (M.map Tree.cs')] := by
  obtain ⟨M, pf, hM, hp0, hst, hpf⟩ := seq_ex (fun _ q (t' : Tree) q' => t'.sz ≤ 3 ∧ ∃ t q1, CallsA Tryz.prog 110 [.ptr 0 none 0] [rdO bs q] (z39 Tree.cs' t) [rdO bs q1] ∧ ((t.kind = 1 ∧ ∃ w, t' = leaf 2 w ∧ q' = q1 + 1 ∧ CallsA Tryz.prog 105 [.ptr 0 none 0, .int 3] [rdO bs q1] (.int w) [rdO bs (q1 + 1)]) ∨ (t.kind ≠ 1 ∧ t' = t ∧ q' = q1))) p 6 3 (fun k q hk h1 h2 => by
    obtain ⟨t, q1, ⟨a1, a2, a3⟩, ct⟩ := l2Guard_ok bs hb q ⟨by omega, by omega⟩
    by_cases ht : t.kind = 1
    · obtain ⟨w, ⟨lw, uw⟩, cw⟩ := z53 bs hb q1 3 (by omega) (by omega) (by omega)
      exact ⟨leaf 2 w, q1 + 1, ⟨by rw [z72]; omega, t, q1, ct, .inl ⟨ht, w, rfl, rfl, cw⟩⟩, by omega, by omega⟩
    · exact ⟨t, q1, ⟨a1, t, q1, ct, .inr ⟨ht, rfl, rfl⟩⟩, by omega, by omega⟩)
  have hMs : ∀ t ∈ M, t.sz ≤ 3 := fun t ht => by
    obtain ⟨i, hi, rfl⟩ := List.mem_iff_getElem.1 ht
    exact (hst i hi).1
  have hp3 := hpf 3 (Nat.le_refl _)
  obtain ⟨v, ⟨lv, uv⟩, cv⟩ := z53 bs hb (pf 3) 40 (by omega) (by omega) (by omega)
  have key : ∀ (M' : List Tree) (n : Nat) (p' : Int), (v = 0 → n = 2 ∧ M' = M ∧ p' = pf 3 + 1) → (v ≠ 0 → v ≠ 1 → n = 3 ∧ M' = M ∧ p' = pf 3 + 1) → (v = 1 → n = 3 ∧ ∃ a b c u w q1, M = [a, b, c] ∧ M' = [a, w, c] ∧ CallsA Tryz.prog 111 [.ptr 0 none 0, z39 Tree.cs' b] [rdO bs (pf 3 + 1)] (z39 Tree.cs' u) [rdO bs q1] ∧ CallsA Tryz.prog 111 [.ptr 0 none 0, z39 Tree.cs' u] [rdO bs q1] (z39 Tree.cs' w) [rdO bs p']) → CallsA Tryz.prog 49 [.ptr 0 none 0] [rdO bs p] (.sref 1 0 n) [rdO bs p', .cells 3 (M'.map Tree.cs')] := by
    intro M' n p' k0 k2 k1
    refine z15 z20 Tryz.func49 rfl rfl 41 Tryz.ntmps49 (by simp) ?_
    repeat' (((apply AWP.go ok; rfl)) <;> conv => whnf)
    all_goals skip
    rw [← hp0]
    refine z108 (fun i : Nat => ([(0, .ptr 0 none 0), (3, .sref 1 0 i), (4, .int i)], [rdO bs (pf i), .cells 3 ((M.take i).map Tree.cs')])) (fun i => i ≤ 3) (fun i => 3 - i) 0 (by omega) (by refine SealW.reach [0, 1] [] rfl rfl rfl rfl ?_ ?_ <;> (repeat' (first | exact LocLe.refl _ | exact F2.nil | apply F2.cons | apply ObjLe.box | ((refine z25 rfl ?_ ?_); (focus ((repeat' (exact z52)); done))) | exact True.intro | apply And.intro))) ?_
    intro i hi
    by_cases hil : i < 3
    · obtain ⟨a1, t, q1, ct, ht⟩ := hst i (by omega)
      have hiM : i < M.length := by omega
      rw [Tree.arg_eq t] at ct
      rcases ht with ⟨h1, w, h2, h3, cw⟩ | ⟨h1, h2, h3⟩
      · repeat' ((first | (apply AWP.go ok; rfl) | (apply And.intro; first | omega | (unfold inI; omega) | ((try dsimp only); simp only [List.length_map, List.length_take, List.length_append, List.length_replicate, List.length_cons, List.length_nil]; omega) | exact ⟨rfl, z24 rfl z30⟩) | ((apply z9) <;> intro _) | ((first | (apply z6 [0] [] [] (ct); rfl; (focus ((repeat' first | exact z4 | apply z5) <;> rfl))) | (apply z6 [0] [] [] (cw); rfl; (focus ((repeat' first | exact z4 | apply z5) <;> rfl)))); rfl; rfl; rfl; rfl; rfl; (focus ((repeat' first | exact z13 | apply z11) <;> exact z23 rfl rfl)); (exact .inl rfl))) <;> conv => whnf)
        all_goals first | (exfalso; omega) | skip
        have e1 : M[i].kind = 2 := by rw [h2]; rfl
        have e2 : M[i].val = w := by rw [h2]; rfl
        have e3 : M[i].kids = [] := by rw [h2]; rfl
        all_goals refine z58 (i + 1) (by omega) (by omega) (by refine SealW.reach [0, 4] [] rfl rfl rfl rfl ?_ ?_ <;> (repeat' (first | exact LocLe.refl _ | (refine nils_of ?_; assumption) | exact F2.nil | apply F2.cons | (refine int_le ?_; omega) | apply ObjLe.box | ((refine z34 rfl ?_ ?_); (focus ((repeat' (first | exact z8 (fun _ => rfl) | apply z28)); done))) | (refine z87 (by omega) (by omega) ?_) | exact True.intro | apply And.intro)))
      · subst h2
        repeat' ((first | (apply AWP.go ok; rfl) | (apply And.intro; first | (unfold inI; omega) | ((try dsimp only); simp only [List.length_map, List.length_take, List.length_append, List.length_replicate, List.length_cons, List.length_nil]; omega) | exact ⟨rfl, z24 rfl z30⟩) | ((apply z9) <;> intro _) | (((apply z6 [0] [] [] (ct); rfl; (focus ((repeat' first | exact z4 | apply z5) <;> rfl)))); rfl; rfl; rfl; rfl; rfl; (focus ((repeat' first | exact z13 | apply z11) <;> exact z23 rfl rfl)); (exact .inl rfl))) <;> conv => whnf)
        all_goals first | (exfalso; omega) | skip
        all_goals refine z58 (i + 1) (by omega) (by omega) (by refine SealW.reach [0, 4] [] rfl rfl rfl rfl ?_ ?_ <;> (repeat' (first | exact LocLe.refl _ | exact F2.nil | apply F2.cons | exact f22_cs | (refine int_le ?_; omega) | apply ObjLe.box | ((refine z34 rfl ?_ ?_); (focus ((repeat' (first | exact z8 (fun _ => rfl) | apply z28)); done))) | (refine z87 (by omega) (by omega) ?_) | (apply z74; rfl) | exact True.intro | apply And.intro)))
    · have : i = 3 := by omega
      subst this
      obtain ⟨a, b, c, rfl⟩ := len3 hM
      by_cases h0 : v = 0
      · obtain ⟨rfl, rfl, rfl⟩ := k0 h0
        subst h0
        repeat' ((first | (apply AWP.go ok; rfl) | (apply And.intro; omega) | (((apply z6 [0] [] [] (cv); rfl; (focus ((repeat' first | exact z4 | apply z5) <;> rfl)))); rfl; rfl; rfl; rfl; rfl; (focus ((repeat' first | exact z13 | apply z11) <;> exact z23 rfl rfl)); (exact .inl rfl))) <;> conv => whnf)
        all_goals skip
        all_goals (refine RetS.lay [0, 1] [] rfl rfl rfl ?_; refine RetS.done ?_ ?_ <;> (repeat' (first | exact LocLe.refl _ | exact F2.nil | apply F2.cons | apply ObjLe.box | ((refine z25 rfl ?_ ?_); (focus ((repeat' ((exact z8 (fun _ => rfl)))); done))))))
      by_cases h1 : v = 1
      · obtain ⟨rfl, a', b', c', u, w, q1, e, rfl, c1, c2⟩ := k1 h1
        simp only [List.cons.injEq, and_true] at e
        obtain ⟨rfl, rfl, rfl⟩ := e
        subst h1
        rw [Tree.arg_eq u] at c1 c2
        rw [Tree.arg_eq w] at c2
        repeat' ((first | (apply AWP.go ok; rfl) | (apply And.intro; omega) | apply z103 | ((first | (apply z6 [0] [] [] (cv); rfl; (focus ((repeat' first | exact z4 | apply z5) <;> rfl))) | (apply z6 [0] [] [] (c1); rfl; (focus ((repeat' first | exact z4 | apply z5) <;> rfl))) | (apply z6 [0] [] [] (c2); rfl; (focus ((repeat' first | exact z4 | apply z5) <;> rfl)))); rfl; rfl; rfl; rfl; rfl; (focus ((repeat' first | exact z13 | apply z11) <;> exact z23 rfl rfl)); (exact .inl rfl))) <;> conv => whnf)
        all_goals skip
        all_goals (refine RetS.lay [0, 1] [] rfl rfl rfl ?_; refine RetS.done ?_ ?_ <;> (repeat' (first | exact LocLe.refl _ | exact F2.nil | apply F2.cons | exact f22_cs | apply ObjLe.box | ((refine z99 rfl ?_ ?_); (focus ((repeat' ((exact z8 (fun _ => rfl)))); done))) | (apply z74; rfl))))
      · obtain ⟨rfl, rfl, rfl⟩ := k2 h0 h1
        repeat' ((first | (apply AWP.go ok; rfl) | (apply And.intro; omega) | (((apply z14; omega)); intro _) | ((apply z9) <;> intro _) | (((apply z6 [0] [] [] (cv); rfl; (focus ((repeat' first | exact z4 | apply z5) <;> rfl)))); rfl; rfl; rfl; rfl; rfl; (focus ((repeat' first | exact z13 | apply z11) <;> exact z23 rfl rfl)); (exact .inl rfl))) <;> conv => whnf)
        all_goals first | (exfalso; omega) | skip
        all_goals (refine RetS.lay [0, 1] [] rfl rfl rfl ?_; refine RetS.done ?_ ?_ <;> (repeat' (first | exact LocLe.refl _ | exact F2.nil | apply F2.cons | apply ObjLe.box | ((refine z25 rfl ?_ ?_); (focus ((repeat' ((exact z8 (fun _ => rfl)))); done))))))
  by_cases h1 : v = 1
  · obtain ⟨a, b, c, rfl⟩ := len3 hM
    have hb1 := hMs b (by simp)
    obtain ⟨u, q1, ⟨b1, b2, b3⟩, c1⟩ := l1Mutate_ok bs hb (pf 3 + 1) ⟨by omega, by omega⟩ b (by omega)
    obtain ⟨w, q2, ⟨d1, d2, d3⟩, c2⟩ := l1Mutate_ok bs hb q1 ⟨by omega, by omega⟩ u (by omega)
    refine ⟨[a, w, c], 3, q2, ⟨by simp, by simp, fun t ht => ?_, by omega, by omega⟩, key _ _ _ (fun h => by omega) (fun _ h => absurd h1 h) fun _ => ⟨rfl, a, b, c, u, w, q1, rfl, rfl, c1, c2⟩⟩
    have ha := hMs a (by simp)
    have hc := hMs c (by simp)
    simp only [List.mem_cons, List.not_mem_nil, or_false] at ht
    rcases ht with rfl | rfl | rfl <;> omega
  · by_cases h0 : v = 0
    · exact ⟨M, 2, pf 3 + 1, ⟨by omega, hM, fun t ht => by have := hMs t ht; omega, by omega, by omega⟩, key _ _ _ (fun _ => ⟨rfl, rfl, rfl⟩) (fun h => absurd h0 h) fun h => absurd h h1⟩
    · exact ⟨M, 3, pf 3 + 1, ⟨by omega, hM, fun t ht => by have := hMs t ht; omega, by omega, by omega⟩, key _ _ _ (fun h => absurd h h0) (fun _ _ => ⟨rfl, rfl, rfl⟩) fun h => absurd h h1⟩
end Go.Proofs.YtppafngcahgagaaGreat

namespace Go.Proofs.YtppafngcahgagaaGreat
open Go.Gl
attribute [local irreducible] z29 AWP z51 z62 z55 RetS z76

theorem l8Labels_ok (bs : List Int) (hb : BytesOk bs) (p : Int) (hp : few1 p) : ∃ (L : List Tree) (p' : Int), (L.length ≤ 3 ∧ (∀ t ∈ L, t.sz ≤ 5) ∧ p ≤ p' ∧ p' ≤ p + 30) ∧ CallsA Tryz.prog 49 [.ptr 0 none 0] [rdO bs p] (lst 3 Tree.cs' L) [rdO bs p'] := by
  obtain ⟨M, n, p', ⟨h1, h2, h3, h4, h5⟩, c⟩ := l8Labels_new bs hb p hp
  refine ⟨M.take n, p', ⟨by simp; omega, fun t ht => h3 t (List.mem_of_mem_take ht), h4, h5⟩, ?_⟩
  obtain ⟨a, b, d, rfl⟩ := len3 h2
  have hn : n = 0 ∨ n = 1 ∨ n = 2 ∨ n = 3 := by simp at h1; omega
  rcases hn with rfl | rfl | rfl | rfl
  all_goals exact (by refine CallsA.settle (c) [0] [1] rfl rfl rfl ?_ ?_ <;> (repeat' (first | exact LocLe.refl _ | exact F2.nil | apply F2.cons | apply ObjLe.box)))
theorem Lmx_of {L : List Tree} (h1 : L.length ≤ 10) (h2 : ∀ t ∈ L, t.sz ≤ 1000) : Lmx L := ⟨by unfold maxLen; omega, fun t ht => mx_of_sz t (by have := h2 t ht; unfold maxLen; omega)⟩

end Go.Proofs.YtppafngcahgagaaGreat

namespace Go.Proofs.YtppafngcahgagaaGreat
open Go.Gl
attribute [local irreducible] z29 AWP z51 z62 z55 RetS z76

def countL (n : Nat) : List Int := (List.range n).map Int.ofNat
theorem countL_len (n : Nat) : (countL n).length = n := by simp [countL]
theorem countL_at {n i : Nat} (h : i < (countL n).length) : (countL n)[i] = i := by simp [countL]
theorem l4Count_ok (n : Nat) (hn : n ≤ 1000000) : CallsA Tryz.prog 152 [.int n] [] (ints (countL n)) [] := by
  refine z15 z20 Tryz.func152 rfl rfl 16 Tryz.ntmps152 (by simp) ?_
  repeat' (((apply AWP.go ok; rfl)) <;> conv => whnf)
  refine z108 (fun i : Nat => ([(0, .int n), (3, .sref 0 0 i), (4, .int i)], [.cells 1 (((countL n).take i).map enI)])) (fun i => i ≤ n) (fun i => n - i) 0 (by omega) (by refine SealW.reach [0] [] rfl rfl rfl rfl ?_ ?_ <;> (repeat' (first | exact LocLe.refl _ | exact F2.nil | apply F2.cons | ((refine z25 rfl ?_ ?_); (focus ((repeat' (exact z52)); done))) | exact True.intro | apply And.intro))) ?_
  intro i hi
  by_cases hin : i < n
  · have hl : i < (countL n).length := by rw [countL_len]; exact hin
    have e := countL_at hl
    repeat' ((first | (apply AWP.go ok; rfl) | (apply And.intro; first | (unfold inI; omega) | ((try dsimp only); simp only [List.length_map, List.length_take, List.length_append, List.length_replicate, List.length_cons, List.length_nil]; omega) | exact ⟨rfl, z24 rfl z30⟩) | ((apply z9) <;> intro _)) <;> conv => whnf)
    all_goals first | (exfalso; omega) | skip
    all_goals refine z58 (i + 1) (by omega) (by omega) (by refine SealW.reach [2] [] rfl rfl rfl rfl ?_ ?_ <;> (repeat' (first | exact LocLe.refl _ | exact F2.nil | apply F2.cons | (refine int_le ?_; omega) | ((refine z34 rfl ?_ ?_); (focus ((repeat' (first | exact z8 (fun _ => rfl) | apply z28)); done))) | (refine z87 (by omega) (by omega) ?_) | exact True.intro | apply And.intro)))
  · have e : i = n := by omega
    subst e
    have hl := countL_len i
    rw [List.take_of_length_le (by omega)]
    generalize countL i = L at *
    repeat' ((first | (apply AWP.go ok; rfl) | (apply And.intro; omega) | ((apply z9) <;> intro _)) <;> conv => whnf)
    all_goals first | (exfalso; omega) | skip
    all_goals (refine RetS.lay [] [0] rfl rfl rfl ?_; refine RetS.done ?_ ?_ <;> (repeat' (first | exact F2.nil | (refine lst_le ?_; omega) | ((apply z36 rfl rfl rfl); (focus ((repeat ((exact z32 (fun _ => rfl) _))); done)); (focus (((simp; omega)); done))))))

structure State.sm (s : State) : Prop where
  a : s.a.length ≤ 100
  b : s.b.length ≤ 100
structure Graph.sm (g : Graph) : Prop where
  st : g.st.length ≤ 100
  nx : g.nx.length ≤ 100
  el : ∀ s ∈ g.st, s.sm
  row : ∀ r ∈ g.nx, r.length ≤ 1000
theorem Graph.sm.mx {g : Graph} (h : g.sm) : g.mx := by
  have h1 := h.st
  have h2 := h.nx
  refine ⟨?_, by unfold maxLen; omega, fun l hl => by have := h.row l hl; unfold maxLen; omega⟩
  have h3 := h.el
  exact ⟨by unfold maxLen; omega, fun s hs => ⟨by have := (h3 s hs).a; unfold maxLen; omega, by have := (h3 s hs).b; unfold maxLen; omega⟩⟩

theorem l4States_new (g : Graph) (hg : g.sm) (path : List Int) (hp : path.length ≤ 1000) (hin : ∀ x ∈ path, 0 ≤ x ∧ x < g.st.length) (S : List State) (hS : S.length = path.length) (he : ∀ i (h : i < path.length) (h2 : i < S.length), g.st[(path[i]).toNat]? = some S[i]) :
    CallsA Tryz.prog 175 [.agg g.cs, ints path] [] (.sref 0 0 S.length) [.cells 2 (S.map State.cs)] := by
  refine z15 z20 Tryz.func175 rfl rfl 36 Tryz.ntmps175 (by simp) ?_
  repeat' (((apply AWP.go ok; rfl)) <;> conv => whnf)
  refine z108 (fun i : Nat => ([(1, ints path), (2, .ptr 0 none 0), (5, .sref 1 0 i), (6, .int i)], [.cells 2 [g.cs], .cells 2 ((S.take i).map State.cs)])) (fun i => i ≤ path.length) (fun i => path.length - i) 0 (by omega) (by refine SealW.reach [0, 1] [] rfl rfl rfl rfl ?_ ?_ <;> (repeat' (first | exact LocLe.refl _ | exact F2.nil | apply F2.cons | apply ObjLe.box | ((refine z25 rfl ?_ ?_); (focus ((repeat' (exact z52)); done))) | exact True.intro | apply And.intro))) ?_
  intro i hi
  by_cases hip : i < path.length
  · have hl : i < S.length := by omega
    have hx := hin path[i] (List.getElem_mem _)
    have g0 : (path.map enI)[i]? = some (enI path[i]) := by rw [List.getElem?_map, List.getElem?_eq_getElem hip]; rfl
    have g1 := he i hip hl
    have g2 : (g.st.map State.cs)[(path[i]).toNat]? = some (State.cs S[i]) := by rw [List.getElem?_map, g1]; rfl
    have hs := hg.el S[i] (List.mem_of_getElem? g1)
    have ha := hs.a
    have hb := hs.b
    generalize path[i] = x at *
    repeat' ((first | (apply AWP.go ok; rfl) | (apply z41; kernel_rfl) | (refine z18 (i := i) rfl g0 ?_) | (refine z18 (i := x.toNat) rfl g2 ?_) | (apply And.intro; first | omega | (unfold inI; omega) | (dsimp only; omega) | ((try dsimp only); simp only [List.length_map, List.length_take, List.length_append, List.length_replicate, List.length_cons, List.length_nil]; omega) | exact stor_map (fun _ => rfl) | exact ⟨rfl, z24 rfl z30⟩) | ((apply z9) <;> intro _)) <;> conv => whnf)
    all_goals first | (exfalso; omega) | skip
    all_goals refine z58 (i + 1) (by omega) (by omega) (by refine SealW.reach [0, 8] [4, 6] rfl rfl rfl rfl ?_ ?_ <;> (repeat' (first | exact LocLe.refl _ | exact F2.nil | apply F2.cons | (refine lst_le ?_; omega) | apply ObjLe.box | ((refine z34 rfl ?_ ?_); (focus ((repeat' (first | exact z8 (fun _ => rfl) | apply z28)); done))) | (refine z87 (by omega) (by omega) ?_) | ((apply z68 rfl rfl rfl); (focus ((repeat ((exact z32 (fun _ => rfl) _))); done)); (focus (((simp; done)); done))) | exact True.intro | apply And.intro)))
  · have e : i = S.length := by omega
    subst e
    rw [List.take_of_length_le (by omega)]
    repeat' ((first | (apply AWP.go ok; rfl) | (apply z41; kernel_rfl) | (apply And.intro; omega) | ((first | (with_reducible apply z14; omega) | (with_reducible apply get_mapI; omega)); intro _) | ((apply z9) <;> intro _)) <;> conv => whnf)
    all_goals first | (exfalso; omega) | skip
    all_goals (refine RetS.lay [1] [] rfl rfl rfl ?_; refine RetS.done ?_ ?_ <;> (repeat' (first | exact LocLe.refl _ | exact F2.nil | apply F2.cons | exact z26 _ | ((refine z25 rfl ?_ ?_); (focus ((repeat' ((exact z8 (fun _ => rfl)))); done))))))
end Go.Proofs.YtppafngcahgagaaGreat

namespace Go.Proofs.YtppafngcahgagaaGreat
open Go.Gl
attribute [local irreducible] z29 AWP z51 z62 z55 RetS z76

theorem countL_in {n : Nat} {x : Int} (h : x ∈ countL n) : 0 ≤ x ∧ x < n := by
  unfold countL at h
  obtain ⟨i, hi, rfl⟩ := List.mem_map.1 h
  have := List.mem_range.1 hi
  show (0 : Int) ≤ (i : Int) ∧ (i : Int) < n
  omega
theorem snoc_at {α : Type} (a : List α) (x : α) (k : Nat) (h : a.length = k) : (a ++ [x])[k]? = some x := by subst h; simp
set_option maxHeartbeats 1600000 in
theorem l4Copy_new (g : Graph) (hg : g.sm) : CallsA Tryz.prog 114 [.agg g.cs] [] (.agg [.sref 0 0 g.st.length, .sref 1 0 g.nx.length]) [.cells 2 (g.st.map State.cs), .cells 1 (g.nx.map ownRow)] := by
  have hst := hg.st
  have hnx := hg.nx
  have c1 := l4Count_ok g.st.length (by omega)
  have c2 := l4States_new g hg (countL g.st.length) (by rw [countL_len]; omega) (fun x hx => countL_in hx) g.st (by rw [countL_len]) (fun i h h2 => by rw [countL_at h]; simp)
  generalize countL g.st.length = C at *
  refine z15 z20 Tryz.func114 rfl rfl 32 Tryz.ntmps114 (by simp) ?_
  repeat' ((first | (apply AWP.go ok; rfl) | (apply z41; kernel_rfl) | (apply z10 (c1); rfl; rfl) | (((apply z6 [] [] [2] (c2); rfl; (focus ((repeat' exact z4) <;> fail)))); rfl; rfl; rfl; rfl; rfl; (focus ((repeat' first | exact z13 | apply z11) <;> (refine z22 ?_; ((exact z8 fun _ => rfl))))); (exact .inl rfl))) <;> conv => whnf)
  all_goals skip
  refine AWP.reach (Reach.empty 1 rfl) ?_
  refine z108 (fun i : Nat => ([(1, .ptr 0 none 0), (2, .ptr 1 none 0), (3, .ptr 3 none 0), (4, .int i)], [.cells 2 [g.cs], .cells 2 [[.nils, .nils]], .cells 2 (g.st.map State.cs), .cells 2 [[.sref 2 0 g.st.length, .sref 4 0 i]], .cells 1 ((g.nx.take i).map ownRow)])) (fun i => i ≤ g.nx.length) (fun i => g.nx.length - i) 0 (by omega) (by refine SealW.reach [0, 1, 2, 3, 4] [] rfl rfl rfl rfl ?_ ?_ <;> (repeat' (first | exact LocLe.refl _ | exact z69 | exact F2.nil | apply F2.cons | exact z26 _ | apply ObjLe.box | ((refine z25 rfl ?_ ?_); (focus ((repeat' (first | exact z52 | exact z8 (fun _ => rfl))); done))) | exact True.intro | apply And.intro))) ?_
  intro i hi
  by_cases hin : i < g.nx.length
  · have hr := hg.row g.nx[i] (List.getElem_mem _)
    have g0 : (g.nx.map encL)[i]? = some (encL g.nx[i]) := by rw [List.getElem?_map, List.getElem?_eq_getElem hin]; rfl
    have htl : ((g.nx.take i).map ownRow).length = i := by simp; omega
    have hrow : ownRow g.nx[i] = [.own 1 (g.nx[i].map enI)] := rfl
    have htk : (g.nx.take (i + 1)).map ownRow = (g.nx.take i).map ownRow ++ [ownRow g.nx[i]] := by rw [List.take_succ_eq_append_getElem hin, List.map_append]; rfl
    generalize hrw : g.nx[i] = row at *
    repeat' ((first | (apply AWP.go ok; rfl) | (apply z41; kernel_rfl) | (refine z18 (i := i) rfl g0 ?_) | (apply And.intro; first | omega | (unfold inI; omega) | (dsimp only; omega) | exact stor_map (fun _ => rfl) | exact ⟨rfl, z24 rfl z30⟩) | ((apply z9) <;> intro _)) <;> conv => whnf)
    all_goals first | (exfalso; omega) | skip
    all_goals refine z58 (i + 1) (by omega) (by omega) (by
      refine Gl.Reach.trans (Gl.Reach.absorb (e := [.sref 6 0 (0 + row.length)]) 8 6 i 0 rfl (snoc_at _ _ i (by simp; omega)) rfl rfl (by simp) rfl (z42 z52 (z8 fun _ => rfl)) rfl) ?_
      exact (by refine SealW.reach [0, 1, 2, 3, 8] [] rfl rfl rfl rfl ?_ ?_ <;> (repeat' (first | exact LocLe.refl _ | exact F2.nil | apply F2.cons | exact z26 _ | apply ObjLe.box | ((first | refine z99 rfl ?_ ?_ | refine z25 rfl ?_ ?_); (focus ((repeat' (first | exact z8 (fun _ => rfl) | apply z42 | apply z28)); done))) | (refine z25 rfl ?_ ?_; (focus (refine flat_snoc_set ?_ ?_ rfl <;> first | (simp; omega) | (apply z28; exact z8 fun _ => rfl)))) | (refine snoc_set_le ?_ ?_; (focus (simp; omega))) | (refine z87 (by omega) (by omega) ?_) | exact True.intro | apply And.intro)) <;> (rw [hrw]; exact LocLe.refl _)))
  · have e : i = g.nx.length := by omega
    subst e
    rw [List.take_length]
    repeat' ((first | (apply AWP.go ok; rfl) | (apply z41; kernel_rfl) | (apply And.intro; omega) | (((with_reducible apply z14; omega)); intro _) | ((apply z9) <;> intro _)) <;> conv => whnf)
    all_goals first | (exfalso; omega) | skip
    all_goals (refine RetS.lay [2, 4] [] rfl rfl rfl ?_; refine RetS.done ?_ ?_ <;> (repeat' (first | exact LocLe.refl _ | exact F2.nil | apply F2.cons | exact z26 _ | ((refine z25 rfl ?_ ?_); (focus ((repeat' ((exact z8 (fun _ => rfl)))); done))))))
end Go.Proofs.YtppafngcahgagaaGreat

namespace Go.Proofs.YtppafngcahgagaaGreat
open Go.Gl
attribute [local irreducible] z29 AWP z51 z62 z55 RetS z76

set_option maxHeartbeats 3200000 in
theorem l4Mutate_ok (bs : List Int) (hb : BytesOk bs) (p : Int) (hp : few p) (g : Graph) (hg : g.sm) (h1 : 1 ≤ g.st.length) (h2 : g.nx.length = g.st.length) : ∃ (g' : Graph) (p' : Int), (g'.st.length ≤ 100 ∧ g'.nx.length ≤ 101 ∧ (∀ s ∈ g'.st, s.sm) ∧ (∀ r ∈ g'.nx, r.length ≤ 1001) ∧ p ≤ p' ∧ p' ≤ p + 3) ∧ CallsA Tryz.prog 52 [.ptr 0 none 0, .agg g.cs] [rdO bs p] (.agg g'.cs) [rdO bs p'] := by
  have hst := hg.st
  have hnx := hg.nx
  have cc := l4Copy_new g hg
  obtain ⟨k, ⟨k0, k1⟩, ck⟩ := z53 bs hb p g.st.length (by omega) (by omega) (by omega)
  obtain ⟨v, ⟨v0, v1⟩, cv⟩ := z53 bs hb (p + 1) 50 (by omega) (by omega) (by omega)
  have hks : k.toNat < g.st.length := by omega
  have hkn : k.toNat < g.nx.length := by omega
  have hrows : ∀ r ∈ g.nx, r.length ≤ 1001 := fun r hr => by have := hg.row r hr; omega
  by_cases e0 : v = 0
  · subst e0
    refine ⟨⟨g.st, g.nx ++ [[0]]⟩, p + 1 + 1, ⟨hst, by simp; omega, hg.el, fun r hr => ?_, by omega, by omega⟩, ?_⟩
    · simp only [List.mem_append, List.mem_singleton] at hr
      rcases hr with hr | rfl
      · exact hrows r hr
      · simp
    refine z15 z20 Tryz.func52 rfl rfl 62 Tryz.ntmps52 (by simp) ?_
    repeat' ((first | (apply AWP.go ok; rfl) | (apply And.intro; first | ((try dsimp only); simp only [List.length_map, List.length_take, List.length_append, List.length_replicate, List.length_cons, List.length_nil]; omega) | exact ⟨rfl, z24 rfl z30⟩) | ((first | (apply z6 [] [] [3, 4] (cc); rfl; (focus ((repeat' exact z4) <;> fail))) | (apply z6 [0] [] [] (ck); rfl; (focus ((repeat' first | exact z4 | apply z5) <;> rfl))) | (apply z6 [0] [] [] (cv); rfl; (focus ((repeat' first | exact z4 | apply z5) <;> rfl)))); rfl; rfl; rfl; rfl; rfl; (focus ((repeat' first | exact z13 | apply z11) <;> first | exact z23 rfl rfl | (refine z22 ?_; ((exact z8 fun _ => rfl))))); (exact .inl rfl))) <;> conv => whnf)
    all_goals skip
    all_goals (refine RetS.mid [0, 3, 8] [6] [rdO bs (p + 1 + 1), .cells 2 (g.st.map State.cs), .cells 1 (g.nx.map ownRow ++ [encL [0]])] (.agg [.sref 1 0 g.st.length, .sref 2 0 (g.nx.length + 1)]) rfl rfl rfl ?_ ?_ ?_; (focus (repeat' (exact LocLe.refl _))); (focus (repeat' (first | exact LocLe.refl _ | exact F2.nil | apply F2.cons | exact z26 _ | apply ObjLe.box | ((first | refine z34 rfl ?_ ?_ | refine z25 rfl ?_ ?_); (focus ((repeat' (first | exact z8 (fun _ => rfl) | apply z28)); done))) | (refine app2_le ?_ ?_; (focus (simp; done)))))))
    all_goals (refine RetS.lay [0] [1, 2] rfl rfl rfl ?_; refine RetS.done ?_ ?_ <;> (repeat' (first | exact LocLe.refl _ | exact F2.nil | apply F2.cons | apply ObjLe.box | (refine app3_le ?_) | ((apply z36 rfl rfl rfl); (focus ((repeat (first | exact z32 (fun _ => rfl) _ | exact rows_unown _ | apply unown_app | rfl)); done)); (focus (((simp; done)); done))) | apply z50 | (refine z74 ?_ ?_; (focus (simp; done))))))
  by_cases e1 : v = 1
  · subst e1
    obtain ⟨x, mx, cx⟩ := z78 bs hb (p + 1 + 1) (by omega) (by omega) [0, -1, 60, 9223372036854775807] (by decide) (by decide)
    refine ⟨⟨g.st, g.nx.set k.toNat (g.nx[k.toNat] ++ [x])⟩, p + 1 + 1 + 1, ⟨hst, by simp; omega, hg.el, fun r hr => ?_, by omega, by omega⟩, ?_⟩
    · rcases List.mem_or_eq_of_mem_set hr with h | rfl
      · exact hrows r h
      · have := hg.row g.nx[k.toNat] (List.getElem_mem _)
        simp; omega
    have hr := hg.row g.nx[k.toNat] (List.getElem_mem _)
    have g0 : (g.nx.map ownRow)[k.toNat]? = some (ownRow g.nx[k.toNat]) := by rw [List.getElem?_map, List.getElem?_eq_getElem hkn]; rfl
    generalize g.nx[k.toNat] = row at *
    refine z15 z20 Tryz.func52 rfl rfl 62 Tryz.ntmps52 (by simp) ?_
    repeat' ((first | ((fail_if_success apply stopAt 7); (fail_if_success apply stopAtS 7); apply AWP.go ok; rfl) | ((first | (apply z6 [] [] [3, 4] (cc); rfl; (focus ((repeat' exact z4) <;> fail))) | (apply z6 [0] [] [] (ck); rfl; (focus ((repeat' first | exact z4 | apply z5) <;> rfl))) | (apply z6 [0] [] [] (cv); rfl; (focus ((repeat' first | exact z4 | apply z5) <;> rfl)))); rfl; rfl; rfl; rfl; rfl; (focus ((repeat' first | exact z13 | apply z11) <;> first | exact z23 rfl rfl | (refine z22 ?_; ((exact z8 fun _ => rfl))))); (exact .inl rfl))) <;> conv => whnf)
    all_goals skip
    refine AWP.reach (Gl.Reach.exposeD (e := ownRow row) 4 k.toNat 0 rfl g0 rfl rfl) ?_
    conv => whnf
    repeat' ((first | (apply AWP.go ok; rfl) | (apply z41; kernel_rfl) | (refine get_set rfl (by simp; omega) ?_) | (apply And.intro; first | omega | ((try dsimp only); simp only [List.length_map, List.length_take, List.length_append, List.length_replicate, List.length_cons, List.length_nil]; omega) | exact ⟨rfl, z24 rfl z30⟩) | (((apply z6 [0, 7] [] [] (cx); rfl; (focus ((repeat' first | exact z4 | apply z5) <;> rfl)))); rfl; rfl; rfl; rfl; rfl; (focus ((repeat' first | exact z13 | apply z11) <;> first | exact z23 rfl rfl | (refine z22 ?_; ((exact z8 fun _ => rfl))))); (exact .inl rfl))) <;> conv => whnf)
    all_goals skip
    all_goals (refine RetS.mid [0, 3, 4] [9] [rdO bs (p + 1 + 1 + 1), .cells 2 (g.st.map State.cs), .cells 1 ((g.nx.map ownRow).set k.toNat (encL (row ++ [x])))] (.agg [.sref 1 0 g.st.length, .sref 2 0 g.nx.length]) rfl rfl rfl ?_ ?_ ?_; (focus (repeat' (exact LocLe.refl _))); (focus (repeat' (first | exact LocLe.refl _ | exact F2.nil | apply F2.cons | exact z26 _ | apply ObjLe.box | ((first | refine pass_set2 rfl rfl ?_ ?_ | refine z25 rfl ?_ ?_); (focus ((repeat' ((exact z8 (fun _ => rfl)))); done))) | (refine set2_le (by omega) ?_) | (refine snoc_le ?_ ?_; (focus ((simp; done)))) | ((apply z68 rfl rfl rfl); (focus ((repeat (first | exact z32 (fun _ => rfl) _ | apply unown_app | apply unown_tk | rfl)); done)); (focus (((simp; done)); done))) | (refine z74 ?_ ?_; (focus (simp; done)))))))
    all_goals (refine RetS.lay [0] [1, 2] rfl rfl rfl ?_; refine RetS.done ?_ ?_ <;> (repeat' (first | exact LocLe.refl _ | exact F2.nil | apply F2.cons | apply ObjLe.box | (refine put_le (by omega) ?_) | ((apply z36 rfl rfl rfl); (focus ((repeat (first | exact z32 (fun _ => rfl) _ | exact rows_unown _ | apply unown_st)); done)); (focus (((simp; done)); done))) | apply z50 | (refine z74 ?_ ?_; (focus (simp; done))))))
  have gs : (g.st.map State.cs)[k.toNat]? = some (State.cs g.st[k.toNat]) := by rw [List.getElem?_map, List.getElem?_eq_getElem hks]; rfl
  have hsm := hg.el g.st[k.toNat] (List.getElem_mem _)
  by_cases e2 : v = 2
  · subst e2
    refine ⟨⟨g.st, g.nx.set k.toNat []⟩, p + 1 + 1, ⟨hst, by simp; omega, hg.el, fun r hr => ?_, by omega, by omega⟩, ?_⟩
    · rcases List.mem_or_eq_of_mem_set hr with h | rfl
      · exact hrows r h
      · simp
    refine z15 z20 Tryz.func52 rfl rfl 62 Tryz.ntmps52 (by simp) ?_
    repeat' ((first | (apply AWP.go ok; rfl) | (apply And.intro; omega) | (((apply z14; omega)); intro _) | ((first | (apply z6 [] [] [3, 4] (cc); rfl; (focus ((repeat' exact z4) <;> fail))) | (apply z6 [0] [] [] (ck); rfl; (focus ((repeat' first | exact z4 | apply z5) <;> rfl))) | (apply z6 [0] [] [] (cv); rfl; (focus ((repeat' first | exact z4 | apply z5) <;> rfl)))); rfl; rfl; rfl; rfl; rfl; (focus ((repeat' first | exact z13 | apply z11) <;> first | exact z23 rfl rfl | (refine z22 ?_; ((exact z8 fun _ => rfl))))); (exact .inl rfl))) <;> conv => whnf)
    all_goals skip
    all_goals (refine RetS.mid [0, 3, 4] [6] [rdO bs (p + 1 + 1), .cells 2 (g.st.map State.cs), .cells 1 ((g.nx.map ownRow).set k.toNat (encL []))] (.agg [.sref 1 0 g.st.length, .sref 2 0 g.nx.length]) rfl rfl rfl ?_ ?_ ?_; (focus (repeat' (exact LocLe.refl _))); (focus (repeat' (first | exact LocLe.refl _ | exact F2.nil | apply F2.cons | exact z26 _ | apply ObjLe.box | ((first | refine z99 rfl ?_ ?_ | refine z25 rfl ?_ ?_); (focus ((repeat' ((exact z8 (fun _ => rfl)))); done)))))))
    all_goals (refine RetS.lay [0] [1, 2] rfl rfl rfl ?_; refine RetS.done ?_ ?_ <;> (repeat' (first | exact LocLe.refl _ | exact F2.nil | apply F2.cons | apply ObjLe.box | (refine put_le (by omega) ?_) | ((apply z36 rfl rfl rfl); (focus ((repeat (first | exact z32 (fun _ => rfl) _ | exact rows_unown _ | apply unown_st)); done)); (focus (((simp; done)); done))) | apply z50 | (refine z74 ?_ ?_; (focus (simp; done))))))
  by_cases e3 : v = 3
  · subst e3
    obtain ⟨x, mx, cx⟩ := z78 bs hb (p + 1 + 1) (by omega) (by omega) [4, -1, 0] (by decide) (by decide)
    refine ⟨⟨g.st.set k.toNat ⟨g.st[k.toNat].a, [0, 0, x]⟩, g.nx⟩, p + 1 + 1 + 1, ⟨by simp; omega, by show g.nx.length ≤ 101; omega, fun s hs => ?_, hrows, by omega, by omega⟩, ?_⟩
    · rcases List.mem_or_eq_of_mem_set hs with h | rfl
      · exact hg.el s h
      · exact ⟨hsm.a, by simp⟩
    generalize g.st[k.toNat] = s0 at *
    refine z15 z20 Tryz.func52 rfl rfl 62 Tryz.ntmps52 (by simp) ?_
    repeat' ((first | (apply AWP.go ok; rfl) | (apply z41; kernel_rfl) | (refine z18 (i := k.toNat) rfl gs ?_) | (apply And.intro; omega) | ((first | (apply z6 [] [] [3, 4] (cc); rfl; (focus ((repeat' exact z4) <;> fail))) | (apply z6 [0] [] [] (ck); rfl; (focus ((repeat' first | exact z4 | apply z5) <;> rfl))) | (apply z6 [0] [] [] (cv); rfl; (focus ((repeat' first | exact z4 | apply z5) <;> rfl))) | (apply z6 [0, 6] [] [] (cx); rfl; (focus ((repeat' first | exact z4 | apply z5) <;> rfl)))); rfl; rfl; rfl; rfl; rfl; (focus ((repeat' first | exact z13 | apply z11) <;> first | exact z23 rfl rfl | (refine z22 ?_; ((exact z8 fun _ => rfl))))); (exact .inl rfl))) <;> conv => whnf)
    all_goals skip
    all_goals (refine RetS.mid [0, 3, 4] [7] [rdO bs (p + 1 + 1 + 1), .cells 2 ((g.st.set k.toNat ⟨s0.a, [0, 0, x]⟩).map State.cs), .cells 1 (g.nx.map ownRow)] (.agg [.sref 1 0 g.st.length, .sref 2 0 g.nx.length]) rfl rfl rfl ?_ ?_ ?_; (focus (repeat' (exact LocLe.refl _))); (focus (repeat' (first | exact LocLe.refl _ | exact F2.nil | apply F2.cons | exact z26 _ | apply ObjLe.box | ((first | refine z99 rfl ?_ ?_ | refine z25 rfl ?_ ?_); (focus ((repeat' ((exact z8 (fun _ => rfl)))); done))) | (refine put_le (by omega) ?_)))))
    all_goals (refine RetS.lay [0] [1, 2] rfl rfl rfl ?_; refine RetS.done ?_ ?_ <;> (repeat' (first | exact LocLe.refl _ | exact F2.nil | apply F2.cons | exact z26 _ | apply ObjLe.box | ((apply z36 rfl rfl rfl); (focus ((repeat (first | exact z32 (fun _ => rfl) _ | exact rows_unown _)); done)); (focus (((simp; done)); done))) | apply z50 | (refine z74 ?_ ?_; (focus (simp; done))))))
  by_cases e4 : v = 4
  · subst e4
    refine ⟨⟨[], []⟩, p + 1 + 1, ⟨by simp, by simp, by simp, by simp, by omega, by omega⟩, ?_⟩
    refine z15 z20 Tryz.func52 rfl rfl 62 Tryz.ntmps52 (by simp) ?_
    repeat' ((first | (apply AWP.go ok; rfl) | ((first | (apply z6 [] [] [3, 4] (cc); rfl; (focus ((repeat' exact z4) <;> fail))) | (apply z6 [0] [] [] (ck); rfl; (focus ((repeat' first | exact z4 | apply z5) <;> rfl))) | (apply z6 [0] [] [] (cv); rfl; (focus ((repeat' first | exact z4 | apply z5) <;> rfl)))); rfl; rfl; rfl; rfl; rfl; (focus ((repeat' first | exact z13 | apply z11) <;> first | exact z23 rfl rfl | (refine z22 ?_; ((exact z8 fun _ => rfl))))); (exact .inl rfl))) <;> conv => whnf)
    all_goals skip
    all_goals (refine RetS.lay [0] [] rfl rfl rfl ?_; refine RetS.done ?_ ?_ <;> (repeat' (first | exact LocLe.refl _ | exact z38 | exact F2.nil | apply F2.cons | apply ObjLe.box | apply z50)))
  · refine ⟨g, p + 1 + 1, ⟨hst, by omega, hg.el, hrows, by omega, by omega⟩, ?_⟩
    refine z15 z20 Tryz.func52 rfl rfl 62 Tryz.ntmps52 (by simp) ?_
    repeat' ((first | (apply AWP.go ok; rfl) | (apply And.intro; omega) | (((apply z14; omega)); intro _) | ((apply z9) <;> intro _) | ((first | (apply z6 [] [] [3, 4] (cc); rfl; (focus ((repeat' exact z4) <;> fail))) | (apply z6 [0] [] [] (ck); rfl; (focus ((repeat' first | exact z4 | apply z5) <;> rfl))) | (apply z6 [0] [] [] (cv); rfl; (focus ((repeat' first | exact z4 | apply z5) <;> rfl)))); rfl; rfl; rfl; rfl; rfl; (focus ((repeat' first | exact z13 | apply z11) <;> first | exact z23 rfl rfl | (refine z22 ?_; ((exact z8 fun _ => rfl))))); (exact .inl rfl))) <;> conv => whnf)
    all_goals first | (exfalso; omega) | skip
    all_goals (refine RetS.lay [0] [3, 4] rfl rfl rfl ?_; refine RetS.done ?_ ?_ <;> (repeat' (first | exact LocLe.refl _ | exact F2.nil | apply F2.cons | apply ObjLe.box | ((apply z36 rfl rfl rfl); (focus ((repeat (first | exact z32 (fun _ => rfl) _ | exact rows_unown _)); done)); (focus (((simp; done)); done))) | apply z50)))
end Go.Proofs.YtppafngcahgagaaGreat

namespace Go.Proofs.YtppafngcahgagaaGreat
open Go.Gl
attribute [local irreducible] z29 AWP z51 z62 z55 RetS z76

/-! systems as data -/
structure Edge where
  fr : Int
  to : Int
  gd : Tree
  var : Int
  val : Tree
  sync : Int
def Edge.cs (e : Edge) : List AC := [.int e.fr, .int e.to, .int e.gd.kind, .int e.gd.val, lst 3 Tree.cs' e.gd.kids, .int e.var, .int e.val.kind, .int e.val.val, lst 3 Tree.cs' e.val.kids, .int e.sync]
structure Proc where
  loc : Int
  es : List Edge
def Proc.cs (p : Proc) : List AC := [.int p.loc, lst 10 Edge.cs p.es]
structure Sys where
  init : List Int
  ps : List Proc
def Sys.cs (s : Sys) : List AC := [ints s.init, lst 2 Proc.cs s.ps]
structure Edge.sm (e : Edge) : Prop where
  gd : e.gd.sz ≤ 100
  val : e.val.sz ≤ 100
  var : -1 ≤ e.var ∧ e.var ≤ 2
  sync : -2 ≤ e.sync ∧ e.sync ≤ 2
structure Proc.sm (p : Proc) : Prop where
  loc : 0 ≤ p.loc ∧ p.loc ≤ 100
  len : p.es.length ≤ 10
  el : ∀ e ∈ p.es, e.sm
structure Sys.sm (s : Sys) : Prop where
  init : s.init.length ≤ 10
  len : s.ps.length ≤ 10
  el : ∀ p ∈ s.ps, p.sm

set_option maxHeartbeats 6400000 in
theorem l2DrawEdge_ok (bs : List Int) (hb : BytesOk bs) (p : Int) (hp : few1 p) (n : Int) (hn : 0 ≤ n ∧ n ≤ 100) : ∃ (e : Edge) (p' : Int), (e.sm ∧ p ≤ p' ∧ p' ≤ p + 200) ∧ CallsA Tryz.prog 180 [.ptr 0 none 0, .int n] [rdO bs p] (.agg e.cs) [rdO bs p'] := by
  obtain ⟨a, ⟨la, ua⟩, ca⟩ := z53 bs hb p n (by omega) (by omega) (by omega)
  obtain ⟨b, ⟨lb, ub⟩, cb⟩ := z53 bs hb (p + 1) n (by omega) (by omega) (by omega)
  obtain ⟨gd, q, ⟨g1, g2, g3⟩, cg⟩ := l2Guard_ok bs hb (p + 1 + 1) ⟨by omega, by omega⟩
  obtain ⟨w, ⟨lw, uw⟩, cw⟩ := z53 bs hb q 3 (by omega) (by omega) (by omega)
  rw [Tree.arg_eq] at cg
  by_cases hw : w = 0
  · subst hw
    obtain ⟨y, ⟨ly, uy⟩, cy⟩ := z53 bs hb (q + 1) 4 (by omega) (by omega) (by omega)
    by_cases hy : y = 0
    · subst hy
      obtain ⟨s, ms, cs⟩ := z78 bs hb (q + 1 + 1) (by omega) (by omega) [1, -1, 1, -1, 2, -2] (by decide) (by decide)
      refine ⟨⟨a, b, gd, -1, leaf 0 0, s⟩, q + 1 + 1 + 1, ⟨⟨by show gd.sz ≤ 100; omega, by (rw [z72]; omega), by show -1 ≤ (-1 : Int) ∧ (-1 : Int) ≤ 2; omega, by simp at ms; show -2 ≤ s ∧ s ≤ 2; omega⟩, by omega, by omega⟩, ?_⟩
      refine z15 z20 Tryz.func180 rfl rfl 61 Tryz.ntmps180 (by simp) ?_
      repeat' ((first | (apply AWP.go ok; rfl) | ((first | (apply z6 [0] [] [] (ca); rfl; (focus ((repeat' first | exact z4 | apply z5) <;> rfl))) | (apply z6 [0] [] [] (cb); rfl; (focus ((repeat' first | exact z4 | apply z5) <;> rfl))) | (apply z6 [0] [] [] (cg); rfl; (focus ((repeat' first | exact z4 | apply z5) <;> rfl))) | (apply z6 [0] [] [] (cw); rfl; (focus ((repeat' first | exact z4 | apply z5) <;> rfl))) | (apply z6 [0] [] [] (cy); rfl; (focus ((repeat' first | exact z4 | apply z5) <;> rfl))) | (apply z6 [0, 3] [] [] (cs); rfl; (focus ((repeat' first | exact z4 | apply z5) <;> rfl)))); rfl; rfl; rfl; rfl; rfl; (focus ((repeat' first | exact z13 | apply z11) <;> first | exact z23 rfl rfl | (refine z22 ?_; ((exact z8 fun _ => rfl))))); (exact .inl rfl))) <;> conv => whnf)
      all_goals skip
      all_goals (refine RetS.lay [0] [] rfl rfl rfl ?_; refine RetS.done ?_ ?_ <;> (repeat' (first | exact LocLe.refl _ | exact z38 | exact F2.nil | apply F2.cons | apply ObjLe.box | apply z50)))
    · refine ⟨⟨a, b, gd, -1, leaf 0 0, 0⟩, q + 1 + 1, ⟨⟨by show gd.sz ≤ 100; omega, by (rw [z72]; omega), by show -1 ≤ (-1 : Int) ∧ (-1 : Int) ≤ 2; omega, by show -2 ≤ (0 : Int) ∧ (0 : Int) ≤ 2; omega⟩, by omega, by omega⟩, ?_⟩
      refine z15 z20 Tryz.func180 rfl rfl 61 Tryz.ntmps180 (by simp) ?_
      repeat' ((first | (apply AWP.go ok; rfl) | ((apply z9) <;> intro _) | ((first | (apply z6 [0] [] [] (ca); rfl; (focus ((repeat' first | exact z4 | apply z5) <;> rfl))) | (apply z6 [0] [] [] (cb); rfl; (focus ((repeat' first | exact z4 | apply z5) <;> rfl))) | (apply z6 [0] [] [] (cg); rfl; (focus ((repeat' first | exact z4 | apply z5) <;> rfl))) | (apply z6 [0] [] [] (cw); rfl; (focus ((repeat' first | exact z4 | apply z5) <;> rfl))) | (apply z6 [0] [] [] (cy); rfl; (focus ((repeat' first | exact z4 | apply z5) <;> rfl)))); rfl; rfl; rfl; rfl; rfl; (focus ((repeat' first | exact z13 | apply z11) <;> exact z23 rfl rfl)); (exact .inl rfl))) <;> conv => whnf)
      all_goals first | (exfalso; omega) | skip
      all_goals (refine RetS.lay [0] [] rfl rfl rfl ?_; refine RetS.done ?_ ?_ <;> (repeat' (first | exact LocLe.refl _ | exact z38 | exact F2.nil | apply F2.cons | apply ObjLe.box | apply z50)))
  obtain ⟨x, mx, cx⟩ := z78 bs hb (q + 1) (by omega) (by omega) [0, 1, 0, 2] (by decide) (by decide)
  obtain ⟨z, ⟨lz, uz⟩, cz⟩ := z53 bs hb (q + 1 + 1) 4 (by omega) (by omega) (by omega)
  by_cases h0 : z = 0
  · subst h0
    obtain ⟨k, ⟨lk, uk⟩, ck⟩ := z53 bs hb (q + 1 + 1 + 1) 3 (by omega) (by omega) (by omega)
    obtain ⟨y, ⟨ly, uy⟩, cy⟩ := z53 bs hb (q + 1 + 1 + 1 + 1) 4 (by omega) (by omega) (by omega)
    by_cases hy : y = 0
    · subst hy
      obtain ⟨s, ms, cs⟩ := z78 bs hb (q + 1 + 1 + 1 + 1 + 1) (by omega) (by omega) [1, -1, 1, -1, 2, -2] (by decide) (by decide)
      refine ⟨⟨a, b, gd, x, leaf 1 k, s⟩, q + 1 + 1 + 1 + 1 + 1 + 1, ⟨⟨by show gd.sz ≤ 100; omega, by (rw [z72]; omega), by simp at mx; show -1 ≤ x ∧ x ≤ 2; omega, by simp at ms; show -2 ≤ s ∧ s ≤ 2; omega⟩, by omega, by omega⟩, ?_⟩
      refine z15 z20 Tryz.func180 rfl rfl 61 Tryz.ntmps180 (by simp) ?_
      repeat' ((first | (apply AWP.go ok; rfl) | ((apply z9) <;> intro _) | ((first | (apply z6 [0] [] [] (ca); rfl; (focus ((repeat' first | exact z4 | apply z5) <;> rfl))) | (apply z6 [0] [] [] (cb); rfl; (focus ((repeat' first | exact z4 | apply z5) <;> rfl))) | (apply z6 [0] [] [] (cg); rfl; (focus ((repeat' first | exact z4 | apply z5) <;> rfl))) | (apply z6 [0] [] [] (cw); rfl; (focus ((repeat' first | exact z4 | apply z5) <;> rfl))) | (apply z6 [0, 3] [] [] (cx); rfl; (focus ((repeat' first | exact z4 | apply z5) <;> rfl))) | (apply z6 [0] [] [] (cz); rfl; (focus ((repeat' first | exact z4 | apply z5) <;> rfl))) | (apply z6 [0] [] [] (ck); rfl; (focus ((repeat' first | exact z4 | apply z5) <;> rfl))) | (apply z6 [0] [] [] (cy); rfl; (focus ((repeat' first | exact z4 | apply z5) <;> rfl))) | (apply z6 [0, 6] [] [] (cs); rfl; (focus ((repeat' first | exact z4 | apply z5) <;> rfl)))); rfl; rfl; rfl; rfl; rfl; (focus ((repeat' first | exact z13 | apply z11) <;> first | exact z23 rfl rfl | (refine z22 ?_; ((exact z8 fun _ => rfl))))); (exact .inl rfl))) <;> conv => whnf)
      all_goals first | (exfalso; omega) | skip
      all_goals (refine RetS.lay [0] [] rfl rfl rfl ?_; refine RetS.done ?_ ?_ <;> (repeat' (first | exact LocLe.refl _ | exact z38 | exact F2.nil | apply F2.cons | apply ObjLe.box | apply z50)))
    · refine ⟨⟨a, b, gd, x, leaf 1 k, 0⟩, q + 1 + 1 + 1 + 1 + 1, ⟨⟨by show gd.sz ≤ 100; omega, by (rw [z72]; omega), by simp at mx; show -1 ≤ x ∧ x ≤ 2; omega, by show -2 ≤ (0 : Int) ∧ (0 : Int) ≤ 2; omega⟩, by omega, by omega⟩, ?_⟩
      refine z15 z20 Tryz.func180 rfl rfl 61 Tryz.ntmps180 (by simp) ?_
      repeat' ((first | (apply AWP.go ok; rfl) | ((apply z9) <;> intro _) | ((first | (apply z6 [0] [] [] (ca); rfl; (focus ((repeat' first | exact z4 | apply z5) <;> rfl))) | (apply z6 [0] [] [] (cb); rfl; (focus ((repeat' first | exact z4 | apply z5) <;> rfl))) | (apply z6 [0] [] [] (cg); rfl; (focus ((repeat' first | exact z4 | apply z5) <;> rfl))) | (apply z6 [0] [] [] (cw); rfl; (focus ((repeat' first | exact z4 | apply z5) <;> rfl))) | (apply z6 [0, 3] [] [] (cx); rfl; (focus ((repeat' first | exact z4 | apply z5) <;> rfl))) | (apply z6 [0] [] [] (cz); rfl; (focus ((repeat' first | exact z4 | apply z5) <;> rfl))) | (apply z6 [0] [] [] (ck); rfl; (focus ((repeat' first | exact z4 | apply z5) <;> rfl))) | (apply z6 [0] [] [] (cy); rfl; (focus ((repeat' first | exact z4 | apply z5) <;> rfl)))); rfl; rfl; rfl; rfl; rfl; (focus ((repeat' first | exact z13 | apply z11) <;> first | exact z23 rfl rfl | (refine z22 ?_; ((exact z8 fun _ => rfl))))); (exact .inl rfl))) <;> conv => whnf)
      all_goals first | (exfalso; omega) | skip
      all_goals (refine RetS.lay [0] [] rfl rfl rfl ?_; refine RetS.done ?_ ?_ <;> (repeat' (first | exact LocLe.refl _ | exact z38 | exact F2.nil | apply F2.cons | apply ObjLe.box | apply z50)))
  by_cases h1 : z = 1
  · subst h1
    obtain ⟨y, ⟨ly, uy⟩, cy⟩ := z53 bs hb (q + 1 + 1 + 1) 4 (by omega) (by omega) (by omega)
    by_cases hy : y = 0
    · subst hy
      obtain ⟨s, ms, cs⟩ := z78 bs hb (q + 1 + 1 + 1 + 1) (by omega) (by omega) [1, -1, 1, -1, 2, -2] (by decide) (by decide)
      refine ⟨⟨a, b, gd, x, .mk 8 0 [leaf 2 x, leaf 1 1], s⟩, q + 1 + 1 + 1 + 1 + 1, ⟨⟨by show gd.sz ≤ 100; omega, by (show Tree.sz _ ≤ 100; rw [mk_sz]; simp [z72]), by simp at mx; show -1 ≤ x ∧ x ≤ 2; omega, by simp at ms; show -2 ≤ s ∧ s ≤ 2; omega⟩, by omega, by omega⟩, ?_⟩
      refine z15 z20 Tryz.func180 rfl rfl 61 Tryz.ntmps180 (by simp) ?_
      repeat' ((first | (apply AWP.go ok; rfl) | ((apply z9) <;> intro _) | ((first | (apply z6 [0] [] [] (ca); rfl; (focus ((repeat' first | exact z4 | apply z5) <;> rfl))) | (apply z6 [0] [] [] (cb); rfl; (focus ((repeat' first | exact z4 | apply z5) <;> rfl))) | (apply z6 [0] [] [] (cg); rfl; (focus ((repeat' first | exact z4 | apply z5) <;> rfl))) | (apply z6 [0] [] [] (cw); rfl; (focus ((repeat' first | exact z4 | apply z5) <;> rfl))) | (apply z6 [0, 3] [] [] (cx); rfl; (focus ((repeat' first | exact z4 | apply z5) <;> rfl))) | (apply z6 [0] [] [] (cz); rfl; (focus ((repeat' first | exact z4 | apply z5) <;> rfl))) | (apply z6 [0] [] [] (cy); rfl; (focus ((repeat' first | exact z4 | apply z5) <;> rfl))) | (apply z6 [0, 7] [] [] (cs); rfl; (focus ((repeat' first | exact z4 | apply z5) <;> rfl)))); rfl; rfl; rfl; rfl; rfl; (focus ((repeat' first | exact z13 | apply z11) <;> first | exact z23 rfl rfl | (refine z22 ?_; ((exact z8 fun _ => rfl))))); (exact .inl rfl))) <;> conv => whnf)
      all_goals first | (exfalso; omega) | skip
      all_goals (refine RetS.lay [0] [6] rfl rfl rfl ?_; refine RetS.done ?_ ?_ <;> (repeat' (first | exact LocLe.refl _ | exact z38 | exact F2.nil | apply F2.cons | apply ObjLe.box | ((apply z36 rfl rfl rfl); (focus ((repeat (rfl)); done)); (focus ((rfl); done))) | apply z50 | (apply z74; rfl))))
    · refine ⟨⟨a, b, gd, x, .mk 8 0 [leaf 2 x, leaf 1 1], 0⟩, q + 1 + 1 + 1 + 1, ⟨⟨by show gd.sz ≤ 100; omega, by (show Tree.sz _ ≤ 100; rw [mk_sz]; simp [z72]), by simp at mx; show -1 ≤ x ∧ x ≤ 2; omega, by show -2 ≤ (0 : Int) ∧ (0 : Int) ≤ 2; omega⟩, by omega, by omega⟩, ?_⟩
      refine z15 z20 Tryz.func180 rfl rfl 61 Tryz.ntmps180 (by simp) ?_
      repeat' ((first | (apply AWP.go ok; rfl) | ((apply z9) <;> intro _) | ((first | (apply z6 [0] [] [] (ca); rfl; (focus ((repeat' first | exact z4 | apply z5) <;> rfl))) | (apply z6 [0] [] [] (cb); rfl; (focus ((repeat' first | exact z4 | apply z5) <;> rfl))) | (apply z6 [0] [] [] (cg); rfl; (focus ((repeat' first | exact z4 | apply z5) <;> rfl))) | (apply z6 [0] [] [] (cw); rfl; (focus ((repeat' first | exact z4 | apply z5) <;> rfl))) | (apply z6 [0, 3] [] [] (cx); rfl; (focus ((repeat' first | exact z4 | apply z5) <;> rfl))) | (apply z6 [0] [] [] (cz); rfl; (focus ((repeat' first | exact z4 | apply z5) <;> rfl))) | (apply z6 [0] [] [] (cy); rfl; (focus ((repeat' first | exact z4 | apply z5) <;> rfl)))); rfl; rfl; rfl; rfl; rfl; (focus ((repeat' first | exact z13 | apply z11) <;> first | exact z23 rfl rfl | (refine z22 ?_; ((exact z8 fun _ => rfl))))); (exact .inl rfl))) <;> conv => whnf)
      all_goals first | (exfalso; omega) | skip
      all_goals (refine RetS.lay [0] [6] rfl rfl rfl ?_; refine RetS.done ?_ ?_ <;> (repeat' (first | exact LocLe.refl _ | exact z38 | exact F2.nil | apply F2.cons | apply ObjLe.box | ((apply z36 rfl rfl rfl); (focus ((repeat (rfl)); done)); (focus ((rfl); done))) | apply z50 | (apply z74; rfl))))
  by_cases h2 : z = 2
  · subst h2
    obtain ⟨y, ⟨ly, uy⟩, cy⟩ := z53 bs hb (q + 1 + 1 + 1) 4 (by omega) (by omega) (by omega)
    by_cases hy : y = 0
    · subst hy
      obtain ⟨s, ms, cs⟩ := z78 bs hb (q + 1 + 1 + 1 + 1) (by omega) (by omega) [1, -1, 1, -1, 2, -2] (by decide) (by decide)
      refine ⟨⟨a, b, gd, x, .mk 9 0 [leaf 1 1, leaf 2 x], s⟩, q + 1 + 1 + 1 + 1 + 1, ⟨⟨by show gd.sz ≤ 100; omega, by (show Tree.sz _ ≤ 100; rw [mk_sz]; simp [z72]), by simp at mx; show -1 ≤ x ∧ x ≤ 2; omega, by simp at ms; show -2 ≤ s ∧ s ≤ 2; omega⟩, by omega, by omega⟩, ?_⟩
      refine z15 z20 Tryz.func180 rfl rfl 61 Tryz.ntmps180 (by simp) ?_
      repeat' ((first | (apply AWP.go ok; rfl) | ((apply z9) <;> intro _) | ((first | (apply z6 [0] [] [] (ca); rfl; (focus ((repeat' first | exact z4 | apply z5) <;> rfl))) | (apply z6 [0] [] [] (cb); rfl; (focus ((repeat' first | exact z4 | apply z5) <;> rfl))) | (apply z6 [0] [] [] (cg); rfl; (focus ((repeat' first | exact z4 | apply z5) <;> rfl))) | (apply z6 [0] [] [] (cw); rfl; (focus ((repeat' first | exact z4 | apply z5) <;> rfl))) | (apply z6 [0, 3] [] [] (cx); rfl; (focus ((repeat' first | exact z4 | apply z5) <;> rfl))) | (apply z6 [0] [] [] (cz); rfl; (focus ((repeat' first | exact z4 | apply z5) <;> rfl))) | (apply z6 [0] [] [] (cy); rfl; (focus ((repeat' first | exact z4 | apply z5) <;> rfl))) | (apply z6 [0, 7] [] [] (cs); rfl; (focus ((repeat' first | exact z4 | apply z5) <;> rfl)))); rfl; rfl; rfl; rfl; rfl; (focus ((repeat' first | exact z13 | apply z11) <;> first | exact z23 rfl rfl | (refine z22 ?_; ((exact z8 fun _ => rfl))))); (exact .inl rfl))) <;> conv => whnf)
      all_goals first | (exfalso; omega) | skip
      all_goals (refine RetS.lay [0] [6] rfl rfl rfl ?_; refine RetS.done ?_ ?_ <;> (repeat' (first | exact LocLe.refl _ | exact z38 | exact F2.nil | apply F2.cons | apply ObjLe.box | ((apply z36 rfl rfl rfl); (focus ((repeat (rfl)); done)); (focus ((rfl); done))) | apply z50 | (apply z74; rfl))))
    · refine ⟨⟨a, b, gd, x, .mk 9 0 [leaf 1 1, leaf 2 x], 0⟩, q + 1 + 1 + 1 + 1, ⟨⟨by show gd.sz ≤ 100; omega, by (show Tree.sz _ ≤ 100; rw [mk_sz]; simp [z72]), by simp at mx; show -1 ≤ x ∧ x ≤ 2; omega, by show -2 ≤ (0 : Int) ∧ (0 : Int) ≤ 2; omega⟩, by omega, by omega⟩, ?_⟩
      refine z15 z20 Tryz.func180 rfl rfl 61 Tryz.ntmps180 (by simp) ?_
      repeat' ((first | (apply AWP.go ok; rfl) | ((apply z9) <;> intro _) | ((first | (apply z6 [0] [] [] (ca); rfl; (focus ((repeat' first | exact z4 | apply z5) <;> rfl))) | (apply z6 [0] [] [] (cb); rfl; (focus ((repeat' first | exact z4 | apply z5) <;> rfl))) | (apply z6 [0] [] [] (cg); rfl; (focus ((repeat' first | exact z4 | apply z5) <;> rfl))) | (apply z6 [0] [] [] (cw); rfl; (focus ((repeat' first | exact z4 | apply z5) <;> rfl))) | (apply z6 [0, 3] [] [] (cx); rfl; (focus ((repeat' first | exact z4 | apply z5) <;> rfl))) | (apply z6 [0] [] [] (cz); rfl; (focus ((repeat' first | exact z4 | apply z5) <;> rfl))) | (apply z6 [0] [] [] (cy); rfl; (focus ((repeat' first | exact z4 | apply z5) <;> rfl)))); rfl; rfl; rfl; rfl; rfl; (focus ((repeat' first | exact z13 | apply z11) <;> first | exact z23 rfl rfl | (refine z22 ?_; ((exact z8 fun _ => rfl))))); (exact .inl rfl))) <;> conv => whnf)
      all_goals first | (exfalso; omega) | skip
      all_goals (refine RetS.lay [0] [6] rfl rfl rfl ?_; refine RetS.done ?_ ?_ <;> (repeat' (first | exact LocLe.refl _ | exact z38 | exact F2.nil | apply F2.cons | apply ObjLe.box | ((apply z36 rfl rfl rfl); (focus ((repeat (rfl)); done)); (focus ((rfl); done))) | apply z50 | (apply z74; rfl))))
  obtain ⟨t, q2, ⟨t1, t2, t3⟩, ct⟩ := l1Expr_ok bs hb (q + 1 + 1 + 1) ⟨by omega, by omega⟩
  rw [Tree.arg_eq] at ct
  obtain ⟨y, ⟨ly, uy⟩, cy⟩ := z53 bs hb (q2) 4 (by omega) (by omega) (by omega)
  by_cases hy : y = 0
  · subst hy
    obtain ⟨s, ms, cs⟩ := z78 bs hb (q2 + 1) (by omega) (by omega) [1, -1, 1, -1, 2, -2] (by decide) (by decide)
    refine ⟨⟨a, b, gd, x, t, s⟩, q2 + 1 + 1, ⟨⟨by show gd.sz ≤ 100; omega, by show t.sz ≤ 100; omega, by simp at mx; show -1 ≤ x ∧ x ≤ 2; omega, by simp at ms; show -2 ≤ s ∧ s ≤ 2; omega⟩, by omega, by omega⟩, ?_⟩
    refine z15 z20 Tryz.func180 rfl rfl 61 Tryz.ntmps180 (by simp) ?_
    repeat' ((first | (apply AWP.go ok; rfl) | ((apply z9) <;> intro _) | ((first | (apply z6 [0] [] [] (ca); rfl; (focus ((repeat' first | exact z4 | apply z5) <;> rfl))) | (apply z6 [0] [] [] (cb); rfl; (focus ((repeat' first | exact z4 | apply z5) <;> rfl))) | (apply z6 [0] [] [] (cg); rfl; (focus ((repeat' first | exact z4 | apply z5) <;> rfl))) | (apply z6 [0] [] [] (cw); rfl; (focus ((repeat' first | exact z4 | apply z5) <;> rfl))) | (apply z6 [0, 3] [] [] (cx); rfl; (focus ((repeat' first | exact z4 | apply z5) <;> rfl))) | (apply z6 [0] [] [] (cz); rfl; (focus ((repeat' first | exact z4 | apply z5) <;> rfl))) | (apply z6 [0] [] [] (ct); rfl; (focus ((repeat' first | exact z4 | apply z5) <;> rfl))) | (apply z6 [0] [] [] (cy); rfl; (focus ((repeat' first | exact z4 | apply z5) <;> rfl))) | (apply z6 [0, 6] [] [] (cs); rfl; (focus ((repeat' first | exact z4 | apply z5) <;> rfl)))); rfl; rfl; rfl; rfl; rfl; (focus ((repeat' first | exact z13 | apply z11) <;> first | exact z23 rfl rfl | (refine z22 ?_; ((exact z8 fun _ => rfl))))); (exact .inl rfl))) <;> conv => whnf)
    all_goals first | (exfalso; omega) | skip
    all_goals (refine RetS.lay [0] [] rfl rfl rfl ?_; refine RetS.done ?_ ?_ <;> (repeat' (first | exact LocLe.refl _ | exact F2.nil | apply F2.cons | apply ObjLe.box)))
  · refine ⟨⟨a, b, gd, x, t, 0⟩, q2 + 1, ⟨⟨by show gd.sz ≤ 100; omega, by show t.sz ≤ 100; omega, by simp at mx; show -1 ≤ x ∧ x ≤ 2; omega, by show -2 ≤ (0 : Int) ∧ (0 : Int) ≤ 2; omega⟩, by omega, by omega⟩, ?_⟩
    refine z15 z20 Tryz.func180 rfl rfl 61 Tryz.ntmps180 (by simp) ?_
    repeat' ((first | (apply AWP.go ok; rfl) | ((apply z9) <;> intro _) | ((first | (apply z6 [0] [] [] (ca); rfl; (focus ((repeat' first | exact z4 | apply z5) <;> rfl))) | (apply z6 [0] [] [] (cb); rfl; (focus ((repeat' first | exact z4 | apply z5) <;> rfl))) | (apply z6 [0] [] [] (cg); rfl; (focus ((repeat' first | exact z4 | apply z5) <;> rfl))) | (apply z6 [0] [] [] (cw); rfl; (focus ((repeat' first | exact z4 | apply z5) <;> rfl))) | (apply z6 [0, 3] [] [] (cx); rfl; (focus ((repeat' first | exact z4 | apply z5) <;> rfl))) | (apply z6 [0] [] [] (cz); rfl; (focus ((repeat' first | exact z4 | apply z5) <;> rfl))) | (apply z6 [0] [] [] (ct); rfl; (focus ((repeat' first | exact z4 | apply z5) <;> rfl))) | (apply z6 [0] [] [] (cy); rfl; (focus ((repeat' first | exact z4 | apply z5) <;> rfl)))); rfl; rfl; rfl; rfl; rfl; (focus ((repeat' first | exact z13 | apply z11) <;> first | exact z23 rfl rfl | (refine z22 ?_; ((exact z8 fun _ => rfl))))); (exact .inl rfl))) <;> conv => whnf)
    all_goals first | (exfalso; omega) | skip
    all_goals (refine RetS.lay [0] [] rfl rfl rfl ?_; refine RetS.done ?_ ?_ <;> (repeat' (first | exact LocLe.refl _ | exact F2.nil | apply F2.cons | apply ObjLe.box)))
end Go.Proofs.YtppafngcahgagaaGreat

