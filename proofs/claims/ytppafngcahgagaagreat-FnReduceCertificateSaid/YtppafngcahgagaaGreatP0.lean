/- A part of the proofs over this program: Tab, T3, T4, T5, T6, T7, T8, T9, T10, T11, T12, T13, T15, T16, T17, T18, T19, T20, T21. -/
import Derived.Test.YtppafngcahgagaaGreatG0
import Derived.Test.YtppafngcahgagaaGreatG1
import Derived.Test.YtppafngcahgagaaGreatG2
import Derived.Test.YtppafngcahgagaaGreatG3
import Derived.Test.YtppafngcahgagaaGreatProg
import Derived.KernelRfl
set_option linter.all false
/- The types of this translation, as the ghost logic asks for them. Written by a program. -/
namespace Go.Proofs.YtppafngcahgagaaGreat
open Go.Gl
def tabL : List (Nat × TyI) := [
  (3, ⟨.int .i64, 1, 8, .int .i64 0⟩),
  (37, ⟨.slice 3, 1, 24, .slice none 0 0⟩),
  (26, ⟨.struct #[{ name := "States", type := 23, offset := 0, embedded := false, tag := "", pkgPath := "", byteOffset := 0 }, { name := "Next", type := 24, offset := 1, embedded := false, tag := "", pkgPath := "", byteOffset := 24 }], 2, 48, .agg #[.slice none 0 0, .slice none 0 0]⟩),
  (33, ⟨.slice 4, 1, 24, .slice none 0 0⟩),
  (24, ⟨.slice 37, 1, 24, .slice none 0 0⟩),
  (202, ⟨.struct #[{ name := "Kind", type := 3, offset := 0, embedded := false, tag := "", pkgPath := "", byteOffset := 0 }, { name := "Atom", type := 3, offset := 1, embedded := false, tag := "", pkgPath := "", byteOffset := 8 }, { name := "Kids", type := 200, offset := 2, embedded := false, tag := "", pkgPath := "", byteOffset := 16 }], 3, 40, .agg #[.int .i64 0, .int .i64 0, .slice none 0 0]⟩),
  (59, ⟨.struct #[{ name := "Kind", type := 3, offset := 0, embedded := false, tag := "", pkgPath := "", byteOffset := 0 }, { name := "Value", type := 3, offset := 1, embedded := false, tag := "", pkgPath := "", byteOffset := 8 }, { name := "Kids", type := 27, offset := 2, embedded := false, tag := "", pkgPath := "", byteOffset := 16 }], 3, 40, .agg #[.int .i64 0, .int .i64 0, .slice none 0 0]⟩),
  (68, ⟨.struct #[{ name := "Initial", type := 37, offset := 0, embedded := false, tag := "", pkgPath := "", byteOffset := 0 }, { name := "Accepting", type := 33, offset := 1, embedded := false, tag := "", pkgPath := "", byteOffset := 24 }, { name := "Edges", type := 66, offset := 2, embedded := false, tag := "", pkgPath := "", byteOffset := 48 }], 3, 72, .agg #[.slice none 0 0, .slice none 0 0, .slice none 0 0]⟩),
  (30, ⟨.struct #[{ name := "Kind", type := 3, offset := 0, embedded := false, tag := "", pkgPath := "", byteOffset := 0 }, { name := "Atom", type := 3, offset := 1, embedded := false, tag := "", pkgPath := "", byteOffset := 8 }, { name := "Kids", type := 28, offset := 2, embedded := false, tag := "", pkgPath := "", byteOffset := 16 }], 3, 40, .agg #[.int .i64 0, .int .i64 0, .slice none 0 0]⟩),
  (23, ⟨.slice 105, 1, 24, .slice none 0 0⟩),
  (4, ⟨.bool, 1, 1, .bool false⟩),
  (73, ⟨.struct #[{ name := "Ranks", type := 37, offset := 0, embedded := false, tag := "", pkgPath := "", byteOffset := 0 }], 1, 24, .agg #[.slice none 0 0]⟩),
  (200, ⟨.slice 202, 1, 24, .slice none 0 0⟩),
  (105, ⟨.struct #[{ name := "Locs", type := 37, offset := 0, embedded := false, tag := "", pkgPath := "", byteOffset := 0 }, { name := "Vals", type := 37, offset := 1, embedded := false, tag := "", pkgPath := "", byteOffset := 24 }], 2, 48, .agg #[.slice none 0 0, .slice none 0 0]⟩),
  (27, ⟨.slice 59, 1, 24, .slice none 0 0⟩),
  (66, ⟨.slice 164, 1, 24, .slice none 0 0⟩),
  (147, ⟨.slice 33, 1, 24, .slice none 0 0⟩),
  (28, ⟨.slice 30, 1, 24, .slice none 0 0⟩),
  (186, ⟨.struct #[{ name := "From", type := 3, offset := 0, embedded := false, tag := "", pkgPath := "", byteOffset := 0 }, { name := "To", type := 3, offset := 1, embedded := false, tag := "", pkgPath := "", byteOffset := 8 }, { name := "Guard", type := 59, offset := 2, embedded := false, tag := "", pkgPath := "", byteOffset := 16 }, { name := "Var", type := 3, offset := 5, embedded := false, tag := "", pkgPath := "", byteOffset := 56 }, { name := "Value", type := 59, offset := 6, embedded := false, tag := "", pkgPath := "", byteOffset := 64 }, { name := "Sync", type := 3, offset := 9, embedded := false, tag := "", pkgPath := "", byteOffset := 104 }], 10, 112, .agg #[.int .i64 0, .int .i64 0, .int .i64 0, .int .i64 0, .slice none 0 0, .int .i64 0, .int .i64 0, .int .i64 0, .slice none 0 0, .int .i64 0]⟩),
  (164, ⟨.struct #[{ name := "From", type := 3, offset := 0, embedded := false, tag := "", pkgPath := "", byteOffset := 0 }, { name := "Care", type := 3, offset := 1, embedded := false, tag := "", pkgPath := "", byteOffset := 8 }, { name := "Value", type := 3, offset := 2, embedded := false, tag := "", pkgPath := "", byteOffset := 16 }, { name := "To", type := 3, offset := 3, embedded := false, tag := "", pkgPath := "", byteOffset := 24 }], 4, 32, .agg #[.int .i64 0, .int .i64 0, .int .i64 0, .int .i64 0]⟩),
  (22, ⟨.slice 5, 1, 24, .slice none 0 0⟩),
  (136, ⟨.slice 184, 1, 24, .slice none 0 0⟩),
  (138, ⟨.struct #[{ name := "Init", type := 37, offset := 0, embedded := false, tag := "", pkgPath := "", byteOffset := 0 }, { name := "Processes", type := 136, offset := 1, embedded := false, tag := "", pkgPath := "", byteOffset := 24 }], 2, 48, .agg #[.slice none 0 0, .slice none 0 0]⟩),
  (39, ⟨.struct #[{ name := "Stem", type := 37, offset := 0, embedded := false, tag := "", pkgPath := "", byteOffset := 0 }, { name := "Loop", type := 37, offset := 1, embedded := false, tag := "", pkgPath := "", byteOffset := 24 }], 2, 48, .agg #[.slice none 0 0, .slice none 0 0]⟩),
  (182, ⟨.slice 186, 1, 24, .slice none 0 0⟩),
  (184, ⟨.struct #[{ name := "Locations", type := 3, offset := 0, embedded := false, tag := "", pkgPath := "", byteOffset := 0 }, { name := "Edges", type := 182, offset := 1, embedded := false, tag := "", pkgPath := "", byteOffset := 8 }], 2, 32, .agg #[.int .i64 0, .slice none 0 0]⟩),
  (249, ⟨.int .u64, 1, 8, .int .u64 0⟩),
  (176, ⟨.slice 180, 1, 24, .slice none 0 0⟩),
  (129, ⟨.struct #[{ name := "b", type := 22, offset := 0, embedded := false, tag := "", pkgPath := "loop.example/ltlcheck/spec", byteOffset := 0 }, { name := "p", type := 3, offset := 1, embedded := false, tag := "", pkgPath := "loop.example/ltlcheck/spec", byteOffset := 24 }], 2, 32, .agg #[.slice none 0 0, .int .i64 0]⟩),
  (194, ⟨.int .u64, 1, 8, .int .u64 0⟩),
  (5, ⟨.int .u8, 1, 1, .int .u8 0⟩),
  (180, ⟨.struct #[{ name := "Process", type := 3, offset := 0, embedded := false, tag := "", pkgPath := "", byteOffset := 0 }, { name := "Edge", type := 3, offset := 1, embedded := false, tag := "", pkgPath := "", byteOffset := 8 }, { name := "Partner", type := 3, offset := 2, embedded := false, tag := "", pkgPath := "", byteOffset := 16 }, { name := "PartnerEdge", type := 3, offset := 3, embedded := false, tag := "", pkgPath := "", byteOffset := 24 }], 4, 32, .agg #[.int .i64 0, .int .i64 0, .int .i64 0, .int .i64 0]⟩),
  (231, ⟨.int .u64, 1, 8, .int .u64 0⟩),
  (146, ⟨.pointer 3, 1, 8, .pointer none⟩),
  (229, ⟨.int .u32, 1, 4, .int .u32 0⟩),
  (162, ⟨.slice 66, 1, 24, .slice none 0 0⟩),
  (221, ⟨.int .i64, 1, 8, .int .i64 0⟩),
  (9, ⟨.string, 1, 16, .string ⟨#[]⟩⟩),
  (260, ⟨.map 3 3, 1, 8, .map none⟩)]
def tab : Tab := tabGet tabL
theorem inf3 : (Tryz.prog.info? 3).map (fun j => (j.zero, j.size, j.bytes)) = some (some (.int .i64 0), 1, 8) := by kernel_rfl
theorem inf37 : (Tryz.prog.info? 37).map (fun j => (j.zero, j.size, j.bytes)) = some (some (.slice none 0 0), 1, 24) := by kernel_rfl
theorem inf26 : (Tryz.prog.info? 26).map (fun j => (j.zero, j.size, j.bytes)) = some (some (.agg #[.slice none 0 0, .slice none 0 0]), 2, 48) := by kernel_rfl
theorem inf33 : (Tryz.prog.info? 33).map (fun j => (j.zero, j.size, j.bytes)) = some (some (.slice none 0 0), 1, 24) := by kernel_rfl
theorem inf24 : (Tryz.prog.info? 24).map (fun j => (j.zero, j.size, j.bytes)) = some (some (.slice none 0 0), 1, 24) := by kernel_rfl
theorem inf202 : (Tryz.prog.info? 202).map (fun j => (j.zero, j.size, j.bytes)) = some (some (.agg #[.int .i64 0, .int .i64 0, .slice none 0 0]), 3, 40) := by kernel_rfl
theorem inf59 : (Tryz.prog.info? 59).map (fun j => (j.zero, j.size, j.bytes)) = some (some (.agg #[.int .i64 0, .int .i64 0, .slice none 0 0]), 3, 40) := by kernel_rfl
theorem inf68 : (Tryz.prog.info? 68).map (fun j => (j.zero, j.size, j.bytes)) = some (some (.agg #[.slice none 0 0, .slice none 0 0, .slice none 0 0]), 3, 72) := by kernel_rfl
theorem inf30 : (Tryz.prog.info? 30).map (fun j => (j.zero, j.size, j.bytes)) = some (some (.agg #[.int .i64 0, .int .i64 0, .slice none 0 0]), 3, 40) := by kernel_rfl
theorem inf23 : (Tryz.prog.info? 23).map (fun j => (j.zero, j.size, j.bytes)) = some (some (.slice none 0 0), 1, 24) := by kernel_rfl
theorem inf4 : (Tryz.prog.info? 4).map (fun j => (j.zero, j.size, j.bytes)) = some (some (.bool false), 1, 1) := by kernel_rfl
theorem inf73 : (Tryz.prog.info? 73).map (fun j => (j.zero, j.size, j.bytes)) = some (some (.agg #[.slice none 0 0]), 1, 24) := by kernel_rfl
theorem inf200 : (Tryz.prog.info? 200).map (fun j => (j.zero, j.size, j.bytes)) = some (some (.slice none 0 0), 1, 24) := by kernel_rfl
theorem inf105 : (Tryz.prog.info? 105).map (fun j => (j.zero, j.size, j.bytes)) = some (some (.agg #[.slice none 0 0, .slice none 0 0]), 2, 48) := by kernel_rfl
theorem inf27 : (Tryz.prog.info? 27).map (fun j => (j.zero, j.size, j.bytes)) = some (some (.slice none 0 0), 1, 24) := by kernel_rfl
theorem inf66 : (Tryz.prog.info? 66).map (fun j => (j.zero, j.size, j.bytes)) = some (some (.slice none 0 0), 1, 24) := by kernel_rfl
theorem inf147 : (Tryz.prog.info? 147).map (fun j => (j.zero, j.size, j.bytes)) = some (some (.slice none 0 0), 1, 24) := by kernel_rfl
theorem inf28 : (Tryz.prog.info? 28).map (fun j => (j.zero, j.size, j.bytes)) = some (some (.slice none 0 0), 1, 24) := by kernel_rfl
theorem inf186 : (Tryz.prog.info? 186).map (fun j => (j.zero, j.size, j.bytes)) = some (some (.agg #[.int .i64 0, .int .i64 0, .int .i64 0, .int .i64 0, .slice none 0 0, .int .i64 0, .int .i64 0, .int .i64 0, .slice none 0 0, .int .i64 0]), 10, 112) := by kernel_rfl
theorem inf164 : (Tryz.prog.info? 164).map (fun j => (j.zero, j.size, j.bytes)) = some (some (.agg #[.int .i64 0, .int .i64 0, .int .i64 0, .int .i64 0]), 4, 32) := by kernel_rfl
theorem inf22 : (Tryz.prog.info? 22).map (fun j => (j.zero, j.size, j.bytes)) = some (some (.slice none 0 0), 1, 24) := by kernel_rfl
theorem inf136 : (Tryz.prog.info? 136).map (fun j => (j.zero, j.size, j.bytes)) = some (some (.slice none 0 0), 1, 24) := by kernel_rfl
theorem inf138 : (Tryz.prog.info? 138).map (fun j => (j.zero, j.size, j.bytes)) = some (some (.agg #[.slice none 0 0, .slice none 0 0]), 2, 48) := by kernel_rfl
theorem inf39 : (Tryz.prog.info? 39).map (fun j => (j.zero, j.size, j.bytes)) = some (some (.agg #[.slice none 0 0, .slice none 0 0]), 2, 48) := by kernel_rfl
theorem inf182 : (Tryz.prog.info? 182).map (fun j => (j.zero, j.size, j.bytes)) = some (some (.slice none 0 0), 1, 24) := by kernel_rfl
theorem inf184 : (Tryz.prog.info? 184).map (fun j => (j.zero, j.size, j.bytes)) = some (some (.agg #[.int .i64 0, .slice none 0 0]), 2, 32) := by kernel_rfl
theorem inf249 : (Tryz.prog.info? 249).map (fun j => (j.zero, j.size, j.bytes)) = some (some (.int .u64 0), 1, 8) := by kernel_rfl
theorem inf176 : (Tryz.prog.info? 176).map (fun j => (j.zero, j.size, j.bytes)) = some (some (.slice none 0 0), 1, 24) := by kernel_rfl
theorem inf129 : (Tryz.prog.info? 129).map (fun j => (j.zero, j.size, j.bytes)) = some (some (.agg #[.slice none 0 0, .int .i64 0]), 2, 32) := by kernel_rfl
theorem inf194 : (Tryz.prog.info? 194).map (fun j => (j.zero, j.size, j.bytes)) = some (some (.int .u64 0), 1, 8) := by kernel_rfl
theorem inf5 : (Tryz.prog.info? 5).map (fun j => (j.zero, j.size, j.bytes)) = some (some (.int .u8 0), 1, 1) := by kernel_rfl
theorem inf180 : (Tryz.prog.info? 180).map (fun j => (j.zero, j.size, j.bytes)) = some (some (.agg #[.int .i64 0, .int .i64 0, .int .i64 0, .int .i64 0]), 4, 32) := by kernel_rfl
theorem inf231 : (Tryz.prog.info? 231).map (fun j => (j.zero, j.size, j.bytes)) = some (some (.int .u64 0), 1, 8) := by kernel_rfl
theorem inf146 : (Tryz.prog.info? 146).map (fun j => (j.zero, j.size, j.bytes)) = some (some (.pointer none), 1, 8) := by kernel_rfl
theorem inf229 : (Tryz.prog.info? 229).map (fun j => (j.zero, j.size, j.bytes)) = some (some (.int .u32 0), 1, 4) := by kernel_rfl
theorem inf162 : (Tryz.prog.info? 162).map (fun j => (j.zero, j.size, j.bytes)) = some (some (.slice none 0 0), 1, 24) := by kernel_rfl
theorem inf221 : (Tryz.prog.info? 221).map (fun j => (j.zero, j.size, j.bytes)) = some (some (.int .i64 0), 1, 8) := by kernel_rfl
theorem inf9 : (Tryz.prog.info? 9).map (fun j => (j.zero, j.size, j.bytes)) = some (some (.string ⟨#[]⟩), 1, 16) := by kernel_rfl
theorem inf260 : (Tryz.prog.info? 260).map (fun j => (j.zero, j.size, j.bytes)) = some (some (.map none), 1, 8) := by kernel_rfl
theorem z18 : z115 Tryz.prog tab := tabOk_of (⟨z60 Tryz.underlying3 inf3, ⟨z60 Tryz.underlying37 inf37, ⟨z60 Tryz.underlying26 inf26, ⟨z60 Tryz.underlying33 inf33, ⟨z60 Tryz.underlying24 inf24, ⟨z60 Tryz.underlying202 inf202, ⟨z60 Tryz.underlying59 inf59, ⟨z60 Tryz.underlying68 inf68, ⟨z60 Tryz.underlying30 inf30, ⟨z60 Tryz.underlying23 inf23, ⟨z60 Tryz.underlying4 inf4, ⟨z60 Tryz.underlying73 inf73, ⟨z60 Tryz.underlying200 inf200, ⟨z60 Tryz.underlying105 inf105, ⟨z60 Tryz.underlying27 inf27, ⟨z60 Tryz.underlying66 inf66, ⟨z60 Tryz.underlying147 inf147, ⟨z60 Tryz.underlying28 inf28, ⟨z60 Tryz.underlying186 inf186, ⟨z60 Tryz.underlying164 inf164, ⟨z60 Tryz.underlying22 inf22, ⟨z60 Tryz.underlying136 inf136, ⟨z60 Tryz.underlying138 inf138, ⟨z60 Tryz.underlying39 inf39, ⟨z60 Tryz.underlying182 inf182, ⟨z60 Tryz.underlying184 inf184, ⟨z60 Tryz.underlying249 inf249, ⟨z60 Tryz.underlying176 inf176, ⟨z60 Tryz.underlying129 inf129, ⟨z60 Tryz.underlying194 inf194, ⟨z60 Tryz.underlying5 inf5, ⟨z60 Tryz.underlying180 inf180, ⟨z60 Tryz.underlying231 inf231, ⟨z60 Tryz.underlying146 inf146, ⟨z60 Tryz.underlying229 inf229, ⟨z60 Tryz.underlying162 inf162, ⟨z60 Tryz.underlying221 inf221, ⟨z60 Tryz.underlying9 inf9, ⟨z60 Tryz.underlying260 inf260, trivial⟩⟩⟩⟩⟩⟩⟩⟩⟩⟩⟩⟩⟩⟩⟩⟩⟩⟩⟩⟩⟩⟩⟩⟩⟩⟩⟩⟩⟩⟩⟩⟩⟩⟩⟩⟩⟩⟩⟩)
end Go.Proofs.YtppafngcahgagaaGreat

namespace Go.Proofs.YtppafngcahgagaaGreat
open Go.Gl
attribute [local irreducible] z32
def enI (n : Int) : List AC := [.int n]
def ints (l : List Int) : AC := .list 1 l.length (l.map enI)
theorem ok : Ok Tryz.prog tab := ⟨z18, by kernel_rfl⟩

structure State where
  a : List Int
  b : List Int
  deriving DecidableEq
def State.cs (s : State) : List AC := [ints s.a, ints s.b]
def State.mx (s : State) : Prop := s.a.length ≤ maxLen ∧ s.b.length ≤ maxLen
def State.sz (s : State) : Nat := s.a.length + s.b.length

def lst {α : Type} (w : Nat) (e : α → List AC) (l : List α) : AC := .list w l.length (l.map e)
def tot {α : Type} (f : α → Nat) (l : List α) : Nat := l.length + (l.map f).sum
theorem sum_take_le {α : Type} (f : α → Nat) (l : List α) (k : Nat) : ((l.take k).map f).sum ≤ (l.map f).sum := by
  conv => rhs; rw [← List.take_append_drop k l, List.map_append, List.sum_append]
  omega

def State.mxs (l : List State) : Prop := l.length ≤ maxLen ∧ ∀ s ∈ l, s.mx

def State.small (s : State) : Prop := s.a.length ≤ 1048576 ∧ s.b.length ≤ 1048576

theorem State.unown (s : State) : ∀ x ∈ s.cs, x.unown = x := fun x hx => by
  simp only [State.cs, List.mem_cons, List.not_mem_nil, or_false] at hx
  rcases hx with rfl | rfl <;> rfl

end Go.Proofs.YtppafngcahgagaaGreat

namespace Go.Proofs.YtppafngcahgagaaGreat
open Go.Gl
attribute [local irreducible] z32

end Go.Proofs.YtppafngcahgagaaGreat

namespace Go.Proofs.YtppafngcahgagaaGreat
open Go.Gl
attribute [local irreducible] z32

def z43 {α : Type} (e : α → List AC) (a : α) : AC := .agg (e a)
end Go.Proofs.YtppafngcahgagaaGreat

namespace Go.Proofs.YtppafngcahgagaaGreat
open Go.Gl
attribute [local irreducible] z32

theorem Tree.unown (t : Tree) : ∀ x ∈ Tree.cs' t, x.unown = x := fun x hx => by
  simp only [Tree.cs', List.mem_cons, List.not_mem_nil, or_false] at hx
  rcases hx with rfl | rfl | rfl <;> rfl

end Go.Proofs.YtppafngcahgagaaGreat

namespace Go.Proofs.YtppafngcahgagaaGreat
open Go.Gl
attribute [local irreducible] z32

def encL (l : List Int) : List AC := [ints l]
end Go.Proofs.YtppafngcahgagaaGreat

namespace Go.Proofs.YtppafngcahgagaaGreat
open Go.Gl
attribute [local irreducible] z32

structure Graph where
  st : List State
  nx : List (List Int)
  deriving DecidableEq
def Graph.a1 (g : Graph) : AC := lst 2 State.cs g.st
def Graph.a2 (g : Graph) : AC := lst 1 encL g.nx
def Graph.cs (g : Graph) : List AC := [lst 2 State.cs g.st, lst 1 encL g.nx]
def Graph.s1 (g : Graph) : Nat := tot State.sz g.st
def Graph.s2 (g : Graph) : Nat := tot List.length g.nx
end Go.Proofs.YtppafngcahgagaaGreat

namespace Go.Proofs.YtppafngcahgagaaGreat
open Go.Gl
attribute [local irreducible] z32

def enB (b : Bool) : List AC := [.bool b]
structure Trans where
  src : Int
  care : Int
  val : Int
  dst : Int
  deriving DecidableEq
def Trans.cs (t : Trans) : List AC := [.int t.src, .int t.care, .int t.val, .int t.dst]
theorem Trans.unown (t : Trans) : ∀ x ∈ t.cs, x.unown = x := fun x hx => by
  simp only [Trans.cs, List.mem_cons, List.not_mem_nil, or_false] at hx
  rcases hx with rfl | rfl | rfl | rfl <;> rfl
structure Aut where
  ini : List Int
  acc : List Bool
  ed : List Trans
  deriving DecidableEq
def Aut.a1 (a : Aut) : AC := lst 1 enI a.ini
def Aut.a2 (a : Aut) : AC := lst 1 enB a.acc
def Aut.a3 (a : Aut) : AC := lst 4 Trans.cs a.ed
def Aut.cs (a : Aut) : List AC := [lst 1 enI a.ini, lst 1 enB a.acc, lst 4 Trans.cs a.ed]
def Aut.s1 (a : Aut) : Nat := a.ini.length
def Aut.s2 (a : Aut) : Nat := a.acc.length
def Aut.s3 (a : Aut) : Nat := a.ed.length
structure Cert where
  ranks : List Int
  deriving DecidableEq
def Cert.a1 (a : Cert) : AC := lst 1 enI a.ranks
def Cert.cs (a : Cert) : List AC := [lst 1 enI a.ranks]
def Cert.s1 (a : Cert) : Nat := a.ranks.length
end Go.Proofs.YtppafngcahgagaaGreat

namespace Go.Proofs.YtppafngcahgagaaGreat
open Go.Gl
attribute [local irreducible] z32 AWP z48 z55 z50

def btw (n lo hi : Int) : Bool := decide (lo ≤ n) && decide (n ≤ hi)
theorem z134 {n lo hi : Int} : btw n lo hi = true ↔ lo ≤ n ∧ n ≤ hi := by simp [btw]
theorem btw_no {n lo hi : Int} : btw n lo hi = false ↔ ¬(lo ≤ n ∧ n ≤ hi) := by rw [← z134]; simp

theorem in_ok (n lo hi : Int) : CallsA Tryz.prog 62 [.int n, .int lo, .int hi] [] (.bool (btw n lo hi)) [] := by
  refine z14 z18 Tryz.func62 rfl rfl 15 Tryz.ntmps62 (by simp) ?_
  repeat' (first | (apply AWP.go ok; rfl; conv => whnf) | (apply z7 <;> intro _ <;> conv => whnf))
  all_goals (refine z20 rfl ?_; (unfold btw; simp [*]; done))
end Go.Proofs.YtppafngcahgagaaGreat

namespace Go.Proofs.YtppafngcahgagaaGreat
open Go.Gl
attribute [local irreducible] z32 AWP z48 z55 z50

def idxF {α : Type} (p : α → Bool) (l : List α) : Int := match l.findIdx? p with
  | some i => i
  | none => -1

theorem idxF_some {α : Type} {p : α → Bool} {l : List α} {i : Nat} (hi : i < l.length) (h : p l[i] = true) (hn : ∀ j (hj : j < l.length), j < i → p l[j] = false) : idxF p l = i := by
  have : l.findIdx? p = some i := List.findIdx?_eq_some_iff_getElem.2 ⟨hi, h, fun j hj => by simp [hn j (by omega) hj]⟩
  simp [idxF, this]
theorem idxF_none {α : Type} {p : α → Bool} {l : List α} (hn : ∀ j (hj : j < l.length), p l[j] = false) : idxF p l = -1 := by
  have : l.findIdx? p = none := List.findIdx?_eq_none_iff.2 fun x hx => by
    obtain ⟨i, hi, rfl⟩ := List.mem_iff_getElem.1 hx
    exact hn i hi
  simp [idxF, this]

theorem idxF_any {α : Type} (p : α → Bool) (l : List α) : decide (0 ≤ idxF p l) = l.any p := by
  unfold idxF
  split
  · rename_i i e
    obtain ⟨h, hp, _⟩ := List.findIdx?_eq_some_iff_getElem.1 e
    have : l.any p = true := List.any_eq_true.2 ⟨_, List.getElem_mem h, hp⟩
    rw [this]
    simp
  · rename_i e
    have := List.findIdx?_eq_none_iff.1 e
    have : l.any p = false := List.any_eq_false.2 fun x hx => by simp [this x hx]
    rw [this]
    simp

theorem indexFunc_int (l : List Int) (hl : l.length ≤ maxLen) (p : Int → Bool) (f : FuncId) (hf : ∀ x ∈ l, CallsA Tryz.prog f [.int x] [] (.bool (p x)) []) : CallsA Tryz.prog 68 [lst 1 enI l, .fn (.func f) [] []] [] (.int (idxF p l)) [] := by
  unfold maxLen at hl
  refine z14 z18 Tryz.func68 rfl rfl 19 Tryz.ntmps68 (by simp) ?_
  repeat' ((apply AWP.go ok; rfl; conv => whnf))
  refine z82 (fun k : Nat => ([(0, lst 1 enI l), (1, .fn (.func f) [] []), (7, .int l.length), (8, .int k)], [])) (fun k => k ≤ l.length ∧ ∀ j (hj : j < l.length), j < k → p l[j] = false) (fun k => l.length - k) 0 (by simp)
    ⟨[], rfl, by decide, rfl, ⟨⟨rfl, rfl⟩, ⟨rfl, rfl⟩, ⟨rfl, rfl⟩, ⟨rfl, rfl⟩, trivial⟩, trivial⟩ ?_
  intro k hk
  repeat' (first | (apply AWP.go ok; rfl; conv => whnf) | (apply And.intro; (first | omega | (unfold inI; omega)); conv => whnf) | (with_reducible apply z13; omega; intro _; conv => whnf) | (apply z7 <;> intro _ <;> conv => whnf) | (apply z84 <;> intro _ <;> conv => whnf) | (apply z9 (hf l[k] (List.getElem_mem _)); rfl; rfl; conv => whnf))
  · rename_i h h1
    exact z47 rfl rfl (by rw [idxF_some (by omega) h1 hk.2]; rfl)
  · rename_i h h1
    refine z69 (k + 1) [] ⟨by omega, fun j hj hjk => ?_⟩ (by omega) ⟨rfl, by decide, rfl, ⟨⟨rfl, rfl⟩, ⟨rfl, rfl⟩, ⟨rfl, rfl⟩, ⟨rfl, rfl⟩, trivial⟩, trivial⟩
    rcases Nat.lt_or_ge j k with h2 | h2
    · exact hk.2 j hj h2
    · obtain rfl : j = k := by omega
      exact h1
  · exact z47 rfl rfl (by rw [idxF_none fun j hj => hk.2 j hj (by omega)]; rfl)
theorem containsFunc_int (l : List Int) (hl : l.length ≤ maxLen) (p : Int → Bool) (f : FuncId) (hf : ∀ x ∈ l, CallsA Tryz.prog f [.int x] [] (.bool (p x)) []) : CallsA Tryz.prog 108 [lst 1 enI l, .fn (.func f) [] []] [] (.bool (l.any p)) [] := by
  refine z14 z18 Tryz.func108 rfl rfl 9 Tryz.ntmps108 (by simp) ?_
  repeat' (first | (apply AWP.go ok; rfl; conv => whnf) | (apply z9 (indexFunc_int l hl p f hf); rfl; rfl; conv => whnf))
  exact z20 rfl (by rw [← idxF_any])
end Go.Proofs.YtppafngcahgagaaGreat

namespace Go.Proofs.YtppafngcahgagaaGreat
open Go.Gl
attribute [local irreducible] z32 AWP z48 z55 z50

theorem valsOk1_ok (n : Int) : CallsA Tryz.prog 182 [.int n] [] (.bool (!btw n 0 3)) [] := by
  refine z14 z18 Tryz.func182 rfl rfl 6 Tryz.ntmps182 (by simp) ?_
  repeat' (first | (apply AWP.go ok; rfl; conv => whnf) | (apply z9 (in_ok n 0 3); rfl; rfl; conv => whnf))
  exact z20 rfl rfl

/-- a state's values are three, each from 0 to 3 -/
def valsB (l : List Int) : Bool := decide ((l.length : Int) = 3) && !(l.any fun n => !btw n 0 3)

theorem valsOk_ok (l : List Int) (hl : l.length ≤ maxLen) : CallsA Tryz.prog 119 [ints l] [] (.bool (valsB l)) [] := by
  have hl' := hl
  unfold maxLen at hl'
  have hk := containsFunc_int l hl (fun n => !btw n 0 3) 182 (fun x _ => valsOk1_ok x)
  refine z14 z18 Tryz.func119 rfl rfl 11 Tryz.ntmps119 (by simp) ?_
  repeat' (first | (apply AWP.go ok; rfl; conv => whnf) | (apply z7 <;> intro _ <;> conv => whnf) | (apply z9 (hk); rfl; rfl; conv => whnf))
  all_goals (refine z20 rfl ?_; (unfold valsB; simp [*]; done))
end Go.Proofs.YtppafngcahgagaaGreat

namespace Go.Proofs.YtppafngcahgagaaGreat
open Go.Gl
attribute [local irreducible] z32 vcPick vcGuard

theorem indexFunc_state (l : List State) (hl : l.length ≤ maxLen) (p : State → Bool) (f : FuncId) (hf : ∀ x ∈ l, CallsA Tryz.prog f [z43 State.cs x] [] (.bool (p x)) []) : CallsA Tryz.prog 181 [lst 2 State.cs l, .fn (.func f) [] []] [] (.int (idxF p l)) [] := by
  unfold maxLen at hl
  refine z14 z18 Tryz.func181 rfl rfl 19 Tryz.ntmps181 (by simp) ?_
  repeat' (((apply AWP.go ok; rfl)) <;> conv => whnf)
  refine z82 (fun k : Nat => ([(0, lst 2 State.cs l), (1, .fn (.func f) [] []), (7, .int l.length), (8, .int k)], [])) (fun k => k ≤ l.length ∧ ∀ j (hj : j < l.length), j < k → p l[j] = false) (fun k => l.length - k) 0 (by simp)
    ⟨[], rfl, by decide, rfl, ⟨⟨rfl, rfl⟩, ⟨rfl, rfl⟩, ⟨rfl, rfl⟩, ⟨rfl, rfl⟩, trivial⟩, trivial⟩ ?_
  intro k hk
  repeat' ((first | (apply AWP.go ok; rfl) | (apply And.intro; first | omega | (unfold inI; omega)) | (((with_reducible apply z13; omega)); intro _) | ((first | apply z7 | apply z84) <;> intro _) | (apply z9 (hf l[k] (List.getElem_mem _)); rfl; rfl)) <;> conv => whnf)
  · rename_i h h1
    exact z47 rfl rfl (by rw [idxF_some (by omega) h1 hk.2]; rfl)
  · rename_i h h1
    refine z69 (k + 1) [] ⟨by omega, fun j hj hjk => ?_⟩ (by omega) ⟨rfl, by decide, rfl, ⟨⟨rfl, rfl⟩, ⟨rfl, rfl⟩, ⟨rfl, rfl⟩, ⟨rfl, rfl⟩, trivial⟩, trivial⟩
    rcases Nat.lt_or_ge j k with h2 | h2
    · exact hk.2 j hj h2
    · obtain rfl : j = k := by omega
      exact h1
  · exact z47 rfl rfl (by rw [idxF_none fun j hj => hk.2 j hj (by omega)]; rfl)
theorem containsFunc_state (l : List State) (hl : l.length ≤ maxLen) (p : State → Bool) (f : FuncId) (hf : ∀ x ∈ l, CallsA Tryz.prog f [z43 State.cs x] [] (.bool (p x)) []) : CallsA Tryz.prog 117 [lst 2 State.cs l, .fn (.func f) [] []] [] (.bool (l.any p)) [] := by
  refine z14 z18 Tryz.func117 rfl rfl 9 Tryz.ntmps117 (by simp) ?_
  repeat' ((first | (apply AWP.go ok; rfl) | (apply z9 (indexFunc_state l hl p f hf); rfl; rfl)) <;> conv => whnf)
  exact z20 rfl (by rw [← idxF_any])
theorem indexFunc_expr (l : List Tree) (hl : l.length ≤ maxLen) (p : Tree → Bool) (f : FuncId) (hf : ∀ x ∈ l, CallsA Tryz.prog f [z43 Tree.cs' x] [] (.bool (p x)) []) : CallsA Tryz.prog 184 [lst 3 Tree.cs' l, .fn (.func f) [] []] [] (.int (idxF p l)) [] := by
  unfold maxLen at hl
  refine z14 z18 Tryz.func184 rfl rfl 19 Tryz.ntmps184 (by simp) ?_
  repeat' (((apply AWP.go ok; rfl)) <;> conv => whnf)
  refine z82 (fun k : Nat => ([(0, lst 3 Tree.cs' l), (1, .fn (.func f) [] []), (7, .int l.length), (8, .int k)], [])) (fun k => k ≤ l.length ∧ ∀ j (hj : j < l.length), j < k → p l[j] = false) (fun k => l.length - k) 0 (by simp)
    ⟨[], rfl, by decide, rfl, ⟨⟨rfl, rfl⟩, ⟨rfl, rfl⟩, ⟨rfl, rfl⟩, ⟨rfl, rfl⟩, trivial⟩, trivial⟩ ?_
  intro k hk
  repeat' ((first | (apply AWP.go ok; rfl) | (apply And.intro; first | omega | (unfold inI; omega)) | (((with_reducible apply z13; omega)); intro _) | ((first | apply z7 | apply z84) <;> intro _) | (apply z9 (hf l[k] (List.getElem_mem _)); rfl; rfl)) <;> conv => whnf)
  · rename_i h h1
    exact z47 rfl rfl (by rw [idxF_some (by omega) h1 hk.2]; rfl)
  · rename_i h h1
    refine z69 (k + 1) [] ⟨by omega, fun j hj hjk => ?_⟩ (by omega) ⟨rfl, by decide, rfl, ⟨⟨rfl, rfl⟩, ⟨rfl, rfl⟩, ⟨rfl, rfl⟩, ⟨rfl, rfl⟩, trivial⟩, trivial⟩
    rcases Nat.lt_or_ge j k with h2 | h2
    · exact hk.2 j hj h2
    · obtain rfl : j = k := by omega
      exact h1
  · exact z47 rfl rfl (by rw [idxF_none fun j hj => hk.2 j hj (by omega)]; rfl)
theorem containsFunc_expr (l : List Tree) (hl : l.length ≤ maxLen) (p : Tree → Bool) (f : FuncId) (hf : ∀ x ∈ l, CallsA Tryz.prog f [z43 Tree.cs' x] [] (.bool (p x)) []) : CallsA Tryz.prog 123 [lst 3 Tree.cs' l, .fn (.func f) [] []] [] (.bool (l.any p)) [] := by
  refine z14 z18 Tryz.func123 rfl rfl 9 Tryz.ntmps123 (by simp) ?_
  repeat' ((first | (apply AWP.go ok; rfl) | (apply z9 (indexFunc_expr l hl p f hf); rfl; rfl)) <;> conv => whnf)
  exact z20 rfl (by rw [← idxF_any])
theorem indexFunc_ints1 (c : Int) (l : List (List Int)) (hl : l.length ≤ maxLen) (p : (List Int) → Bool) (f : FuncId) (hf : ∀ x ∈ l, CallsA Tryz.prog f [ints x, .pt [.int c]] [] (.bool (p x)) []) : CallsA Tryz.prog 183 [lst 1 encL l, .fn (.func f) [] [.pt [.int c]]] [] (.int (idxF p l)) [] := by
  unfold maxLen at hl
  refine z14 z18 Tryz.func183 rfl rfl 19 Tryz.ntmps183 (by simp) ?_
  repeat' (((apply AWP.go ok; rfl)) <;> conv => whnf)
  refine z82 (fun k : Nat => ([(0, lst 1 encL l), (1, .fn (.func f) [] [.pt [.int c]]), (7, .int l.length), (8, .int k)], [])) (fun k => k ≤ l.length ∧ ∀ j (hj : j < l.length), j < k → p l[j] = false) (fun k => l.length - k) 0 (by simp)
    ⟨[], rfl, by decide, rfl, ⟨⟨rfl, rfl⟩, ⟨rfl, rfl⟩, ⟨rfl, rfl⟩, ⟨rfl, rfl⟩, trivial⟩, trivial⟩ ?_
  intro k hk
  repeat' ((first | (apply AWP.go ok; rfl) | (apply And.intro; first | omega | (unfold inI; omega)) | (((with_reducible apply z13; omega)); intro _) | ((first | apply z7 | apply z84) <;> intro _) | (apply z9 (hf l[k] (List.getElem_mem _)); rfl; rfl)) <;> conv => whnf)
  · rename_i h h1
    exact z47 rfl rfl (by rw [idxF_some (by omega) h1 hk.2]; rfl)
  · rename_i h h1
    refine z69 (k + 1) [] ⟨by omega, fun j hj hjk => ?_⟩ (by omega) ⟨rfl, by decide, rfl, ⟨⟨rfl, rfl⟩, ⟨rfl, rfl⟩, ⟨rfl, rfl⟩, ⟨rfl, rfl⟩, trivial⟩, trivial⟩
    rcases Nat.lt_or_ge j k with h2 | h2
    · exact hk.2 j hj h2
    · obtain rfl : j = k := by omega
      exact h1
  · exact z47 rfl rfl (by rw [idxF_none fun j hj => hk.2 j hj (by omega)]; rfl)
theorem containsFunc_ints1 (c : Int) (l : List (List Int)) (hl : l.length ≤ maxLen) (p : (List Int) → Bool) (f : FuncId) (hf : ∀ x ∈ l, CallsA Tryz.prog f [ints x, .pt [.int c]] [] (.bool (p x)) []) : CallsA Tryz.prog 120 [lst 1 encL l, .fn (.func f) [] [.pt [.int c]]] [] (.bool (l.any p)) [] := by
  refine z14 z18 Tryz.func120 rfl rfl 9 Tryz.ntmps120 (by simp) ?_
  repeat' ((first | (apply AWP.go ok; rfl) | (apply z9 (indexFunc_ints1 c l hl p f hf); rfl; rfl)) <;> conv => whnf)
  exact z20 rfl (by rw [← idxF_any])
end Go.Proofs.YtppafngcahgagaaGreat

namespace Go.Proofs.YtppafngcahgagaaGreat
open Go.Gl
attribute [local irreducible] z32 AWP z48 z55 z50

theorem indexInt_ok (l : List Int) (hl : l.length ≤ maxLen) (v : Int) : CallsA Tryz.prog 66 [ints l, .int v] [] (.int (idxF (fun x => decide (v = x)) l)) [] := by
  unfold maxLen at hl
  refine z14 z18 Tryz.func66 rfl rfl 19 Tryz.ntmps66 (by simp) ?_
  repeat' (((apply AWP.go ok; rfl)) <;> conv => whnf)
  refine z82 (fun k : Nat => ([(0, ints l), (1, .int v), (7, .int l.length), (8, .int k)], [])) (fun k => k ≤ l.length ∧ ∀ j (hj : j < l.length), j < k → decide (v = l[j]) = false) (fun k => l.length - k) 0 (by simp)
    ⟨[], rfl, by decide, rfl, ⟨⟨rfl, rfl⟩, ⟨rfl, rfl⟩, ⟨rfl, rfl⟩, ⟨rfl, rfl⟩, trivial⟩, trivial⟩ ?_
  intro k hk
  repeat' ((first | (apply AWP.go ok; rfl) | (apply And.intro; first | omega | (unfold inI; omega)) | (((with_reducible apply z13; omega)); intro _) | ((apply z7) <;> intro _)) <;> conv => whnf)
  · rename_i h h1
    exact z47 rfl rfl (by rw [idxF_some (p := fun x => decide (v = x)) (by omega) (decide_eq_true h1) hk.2]; rfl)
  · rename_i h h1
    refine z69 (k + 1) [] ⟨by omega, fun j hj hjk => ?_⟩ (by omega) ⟨rfl, by decide, rfl, ⟨⟨rfl, rfl⟩, ⟨rfl, rfl⟩, ⟨rfl, rfl⟩, ⟨rfl, rfl⟩, trivial⟩, trivial⟩
    rcases Nat.lt_or_ge j k with h2 | h2
    · exact hk.2 j hj h2
    · obtain rfl : j = k := by omega
      exact decide_eq_false h1
  · exact z47 rfl rfl (by rw [idxF_none (p := fun x => decide (v = x)) fun j hj => hk.2 j hj (by omega)]; rfl)

theorem containsInt_ok (l : List Int) (hl : l.length ≤ maxLen) (v : Int) : CallsA Tryz.prog 84 [ints l, .int v] [] (.bool (decide (v ∈ l))) [] := by
  refine z14 z18 Tryz.func84 rfl rfl 9 Tryz.ntmps84 (by simp) ?_
  repeat' ((first | (apply AWP.go ok; rfl) | (apply z9 (indexInt_ok l hl v); rfl; rfl)) <;> conv => whnf)
  have e : decide (v ∈ l) = l.any (fun x => decide (v = x)) := by
    rw [Bool.eq_iff_iff]; simp
  exact z20 rfl (by rw [e, ← idxF_any])

theorem slice_take {α : Type} (w : Nat) (e : α → List AC) (l : List α) (k : Nat) (hk : k ≤ l.length) : AC.list w ((k : Int).toNat - (0 : Int).toNat) (((l.map e).drop (0 : Int).toNat).take ((k : Int).toNat - (0 : Int).toNat)) = lst w e (l.take k) := by
  unfold lst
  rw [List.length_take, List.map_take]
  simp only [Int.toNat_natCast, Int.toNat_zero, Nat.sub_zero, List.drop_zero]
  rw [Nat.min_eq_left hk]

/-- different numbers, each from 0 to n - 1 -/
def Distinct (l : List Int) (n : Int) (k : Nat) : Prop := ∀ i (h : i < l.length), i < k → (0 ≤ l[i] ∧ l[i] ≤ n - 1) ∧ l[i] ∉ l.take i
noncomputable instance {l : List Int} {n : Int} {k : Nat} : Decidable (Distinct l n k) := Classical.propDecidable _
theorem distinct_ok (l : List Int) (hl : l.length ≤ maxLen) (n : Int) (h0 : 0 ≤ n) (h1 : n ≤ maxLen) : CallsA Tryz.prog 122 [ints l, .int n] [] (.bool (decide (Distinct l n l.length))) [] := by
  have hl' := hl
  unfold maxLen at hl' h1
  refine z14 z18 Tryz.func122 rfl rfl 27 Tryz.ntmps122 (by simp) ?_
  repeat' (((apply AWP.go ok; rfl)) <;> conv => whnf)
  refine z82 (fun k : Nat => ([(0, ints l), (1, .int n), (7, ints l), (8, .int l.length), (9, .int k)], [])) (fun k => k ≤ l.length ∧ Distinct l n k) (fun k => l.length - k) 0 ⟨by omega, fun i h hi => by omega⟩
    ⟨[], rfl, by decide, rfl, ⟨⟨rfl, rfl⟩, ⟨rfl, rfl⟩, ⟨rfl, rfl⟩, ⟨rfl, rfl⟩, ⟨rfl, rfl⟩, trivial⟩, trivial⟩ ?_
  intro k hk
  repeat' ((first | (apply AWP.go ok; rfl) | (apply And.intro; first | omega | (unfold inI; omega)) | (((with_reducible apply z13; omega)); intro _) | ((first | apply z7 | apply z80) <;> intro _) | (apply z9 (in_ok l[k] 0 (n - 1)); rfl; rfl)) <;> conv => whnf)
  · rename_i hb
    refine z20 rfl (decide_eq_false fun hd => ?_)
    have := (hd k ‹_› ‹_›).1
    rw [btw_no] at hb
    exact hb this
  · rename_i hb
    apply z9 (containsInt_ok (l.take k) (by rw [List.length_take]; omega) l[k])
    · show _ = [AC.list 1 _ _, _]
      rw [show AC.list 1 (l.take k).length ((l.take k).map enI) = _ from (slice_take 1 enI l k hk.1).symm]
      rfl
    · rfl
    conv => whnf
    repeat' ((first | (apply AWP.go ok; rfl) | (apply And.intro; (unfold inI; omega)) | ((apply z7) <;> intro _)) <;> conv => whnf)
    · rename_i h2
      exact z20 rfl (decide_eq_false fun hd => (hd k ‹_› ‹_›).2 h2)
    · rename_i h2
      refine z69 (k + 1) [] ⟨by omega, fun i hi hik => ?_⟩ (by omega) ⟨rfl, by decide, rfl, ⟨⟨rfl, rfl⟩, ⟨rfl, rfl⟩, ⟨rfl, rfl⟩, ⟨rfl, rfl⟩, ⟨rfl, rfl⟩, trivial⟩, trivial⟩
      rcases Nat.lt_or_ge i k with h3 | h3
      · exact hk.2 i hi h3
      · obtain rfl : i = k := by omega
        exact ⟨z134.1 hb, h2⟩
  · exact z20 rfl (decide_eq_true fun i h hi => hk.2 i h (by omega))
end Go.Proofs.YtppafngcahgagaaGreat

namespace Go.Proofs.YtppafngcahgagaaGreat
open Go.Gl
attribute [local irreducible] z32 AWP z48 z55 z50

theorem graphValid1_ok (s : State) (hs : s.mx) : CallsA Tryz.prog 118 [z43 State.cs s] [] (.bool (!valsB s.b)) [] := by
  refine z14 z18 Tryz.func118 rfl rfl 7 Tryz.ntmps118 (by simp) ?_
  repeat' (first | (apply AWP.go ok; rfl; conv => whnf) | (apply z9 (valsOk_ok s.b hs.2); rfl; rfl; conv => whnf))
  exact z20 rfl rfl

/-- a list of successors -/
noncomputable def succB (n : Int) (l : List Int) : Bool := !decide ((l.length : Int) = 0) && decide (Distinct l n l.length)

theorem graphValid2_ok (c : Int) (h0 : 0 ≤ c) (h1 : c ≤ maxLen) (l : List Int) (hl : l.length ≤ maxLen) : CallsA Tryz.prog 121 [ints l, .pt [.int c]] [] (.bool (!succB c l)) [] := by
  have hl' := hl
  unfold maxLen at hl'
  refine z14 z18 Tryz.func121 rfl rfl 13 Tryz.ntmps121 (by simp) ?_
  repeat' (first | (apply AWP.go ok; rfl; conv => whnf) | (apply z7 <;> intro _ <;> conv => whnf) | (apply z9 (distinct_ok l hl c h0 h1); rfl; rfl; conv => whnf))
  all_goals (refine z20 rfl ?_; first | (unfold succB; simp [*]; done) | (unfold succB; simp_all; done))
end Go.Proofs.YtppafngcahgagaaGreat

namespace Go.Proofs.YtppafngcahgagaaGreat
open Go.Gl
attribute [local irreducible] z32 AWP z48 z55 z50

def Graph.mx (g : Graph) : Prop := State.mxs g.st ∧ g.nx.length ≤ maxLen ∧ ∀ l ∈ g.nx, l.length ≤ maxLen
noncomputable def graphB (g : Graph) : Bool := btw g.st.length 1 60 && (decide ((g.nx.length : Int) = g.st.length) && (!(g.st.any fun s => !valsB s.b) && !(g.nx.any fun l => !succB g.st.length l)))

theorem graphValid_ok (g : Graph) (hg : g.mx) : CallsA Tryz.prog 54 [.agg g.cs] [] (.bool (graphB g)) [] := by
  obtain ⟨hs, hn, hm⟩ := hg
  have hl1 := hs.1
  unfold maxLen at hl1
  have k1 := containsFunc_state g.st hs.1 (fun s => !valsB s.b) 118 (fun s hx => graphValid1_ok s (hs.2 s hx))
  have k2 := containsFunc_ints1 (g.st.length : Int) g.nx hn (fun l => !succB g.st.length l) 121 (fun l hx => graphValid2_ok _ (by omega) (by unfold maxLen; omega) l (hm l hx))
  refine z14 z18 Tryz.func54 rfl rfl 29 Tryz.ntmps54 (by simp) ?_
  repeat' (first | (apply AWP.go ok; rfl; conv => whnf) | (apply z7 <;> intro _ <;> conv => whnf) | (apply z80 <;> intro _ <;> conv => whnf) | (apply z84 <;> intro _ <;> conv => whnf) | (apply z9 (in_ok (g.st.length : Int) 1 60); rfl; rfl; conv => whnf) | (apply z9 (k1); rfl; rfl; conv => whnf) | (apply call_bor [1] (k2); rfl; rfl; rfl; rfl; conv => whnf))
  all_goals (refine z20 rfl ?_; (unfold graphB; simp [*]; done))
end Go.Proofs.YtppafngcahgagaaGreat

namespace Go.Proofs.YtppafngcahgagaaGreat
open Go.Gl
attribute [local irreducible] z32 AWP z48 z55 z50

theorem containsS_expr_idx {d : Int} (l : List Tree) (hl : l.length ≤ maxLen) (p : Tree → Int → Bool) (nx : Tree → Int → Int) (okS : Int → Prop) (hok : ∀ x s, okS s → p x s = false → okS (nx x s)) (f : FuncId) (s : Int) (h0 : okS s)
    (hf : ∀ x ∈ l, ∀ s, okS s → CallsA Tryz.prog f [z43 Tree.cs' x, .pt [.int d], .ptr 1 none 0] [.cells 1 [[.int s]], .cells 1 [[.ptr 0 none 0]]] (.bool (p x s)) [.cells 1 [[.int (nx x s)]], .cells 1 [[.ptr 0 none 0]]]) :
    CallsA Tryz.prog 184 [lst 3 Tree.cs' l, .fn (.func f) [] [.pt [.int d], .ptr 1 none 0]] [.cells 1 [[.int s]], .cells 1 [[.ptr 0 none 0]]] (.int (idxS p nx l s 0).1) [.cells 1 [[.int (idxS p nx l s 0).2]], .cells 1 [[.ptr 0 none 0]]] := by
  unfold maxLen at hl
  refine z14 z18 Tryz.func184 rfl rfl 19 Tryz.ntmps184 (by simp) ?_
  repeat' (((apply AWP.go ok; rfl)) <;> conv => whnf)
  refine z82 (fun x : Nat × Int => ([(0, lst 3 Tree.cs' l), (1, .fn (.func f) [] [.pt [.int d], .ptr 1 none 0]), (7, .int l.length), (8, .int x.1)], [.cells 1 [[.int x.2]], .cells 1 [[.ptr 0 none 0]]])) (fun x => x.1 ≤ l.length ∧ okS x.2 ∧ idxS p nx l s 0 = idxS p nx (l.drop x.1) x.2 x.1) (fun x => l.length - x.1) (0, s) ⟨by omega, h0, rfl⟩
    ⟨[0, 1], rfl, by decide, rfl, ⟨⟨rfl, rfl⟩, ⟨rfl, rfl⟩, ⟨rfl, rfl⟩, ⟨rfl, rfl⟩, trivial⟩, ⟨z19 rfl rfl, z19 rfl rfl, trivial⟩⟩ ?_
  rintro ⟨k, t⟩ ⟨hk1, hk2, hk3⟩
  dsimp only at hk1 hk2 hk3
  repeat' ((first | (apply AWP.go ok; rfl) | (apply And.intro; first | omega | (unfold inI; omega)) | (((with_reducible apply z13; omega)); intro _) | ((first | apply z7 | apply z84) <;> intro _) | (((apply z6 [0, 1] [] [] (hf l[k] (List.getElem_mem _) t hk2); rfl; (focus ((repeat' first | exact z4 | apply z5) <;> rfl)))); rfl; rfl; rfl; rfl; rfl; (focus ((repeat' first | exact z12 | apply z11) <;> exact z17 rfl rfl)); (exact .inl rfl))) <;> conv => whnf)
  · rename_i h hkl h1
    rw [List.drop_eq_getElem_cons hkl, idxS, if_pos h1] at hk3
    rw [hk3]
    exact z89 [0, 1] (by decide) rfl rfl rfl ⟨z19 rfl rfl, z19 rfl rfl, trivial⟩
  · rename_i h hkl h1
    rw [List.drop_eq_getElem_cons hkl, idxS, if_neg (by rw [h1]; simp)] at hk3
    exact z69 (k + 1, nx l[k] t) [0, 1] ⟨by dsimp only; omega, hok _ _ hk2 h1, hk3⟩ (by dsimp only; omega) ⟨rfl, by decide, rfl, ⟨⟨rfl, rfl⟩, ⟨rfl, rfl⟩, ⟨rfl, rfl⟩, ⟨rfl, rfl⟩, trivial⟩, ⟨z19 rfl rfl, z19 rfl rfl, trivial⟩⟩
  · rw [List.drop_eq_nil_of_le (by omega), idxS] at hk3
    rw [hk3]
    exact z89 [0, 1] (by decide) rfl rfl rfl ⟨z19 rfl rfl, z19 rfl rfl, trivial⟩
theorem containsS_expr {d : Int} (l : List Tree) (hl : l.length ≤ maxLen) (p : Tree → Int → Bool) (nx : Tree → Int → Int) (okS : Int → Prop) (hok : ∀ x s, okS s → p x s = false → okS (nx x s)) (f : FuncId) (s : Int) (h0 : okS s)
    (hf : ∀ x ∈ l, ∀ s, okS s → CallsA Tryz.prog f [z43 Tree.cs' x, .pt [.int d], .ptr 1 none 0] [.cells 1 [[.int s]], .cells 1 [[.ptr 0 none 0]]] (.bool (p x s)) [.cells 1 [[.int (nx x s)]], .cells 1 [[.ptr 0 none 0]]]) :
    CallsA Tryz.prog 123 [lst 3 Tree.cs' l, .fn (.func f) [] [.pt [.int d], .ptr 1 none 0]] [.cells 1 [[.int s]], .cells 1 [[.ptr 0 none 0]]] (.bool (decide (0 ≤ (idxS p nx l s 0).1))) [.cells 1 [[.int (idxS p nx l s 0).2]], .cells 1 [[.ptr 0 none 0]]] := by
  refine z14 z18 Tryz.func123 rfl rfl 9 Tryz.ntmps123 (by simp) ?_
  repeat' ((first | (apply AWP.go ok; rfl) | (((apply z6 [0, 1] [] [] (containsS_expr_idx (d := d) l hl p nx okS hok f s h0 hf); rfl; (focus ((repeat' first | exact z4 | apply z5) <;> rfl)))); rfl; rfl; rfl; rfl; rfl; (focus ((repeat' first | exact z12 | apply z11) <;> exact z17 rfl rfl)); (exact .inl rfl))) <;> conv => whnf)
  exact z89 [0, 1] (by decide) rfl rfl rfl ⟨z19 rfl rfl, z19 rfl rfl, trivial⟩

theorem walk_ok (t : Tree) : t.mx → ∀ d n : Int, 0 ≤ d → d ≤ 100 → 0 ≤ n → n ≤ 15 → CallsA Tryz.prog 215 [z43 Tree.cs' t, .int d, .ptr 0 none 0] [.cells 1 [[.int n]]] (.bool (t.walkE d n).2) [.cells 1 [[.int (t.walkE d n).1]]] := by
  induction t using Tree.ind with | h t ih => ?_
  intro hm d n hd0 hd1 h0 h1
  rw [Tree.mx_iff] at hm
  have hs := Tree.walkE_spec.1
  have hk : d ≤ 6 → n + 1 ≤ 15 → CallsA Tryz.prog 123 [lst 3 Tree.cs' t.kids, .fn (.func 247) [] [.pt [.int d], .ptr 1 none 0]] [.cells 1 [[.int (n + 1)]], .cells 1 [[.ptr 0 none 0]]] (.bool (!(Tree.walkEs t.kids (d + 1) (n + 1)).2)) [.cells 1 [[.int (Tree.walkEs t.kids (d + 1) (n + 1)).1]], .cells 1 [[.ptr 0 none 0]]] := by
    intro hd hn
    have h := containsS_expr (d := d) t.kids hm.1 (fun x s => !(x.walkE (d + 1) s).2) (fun x s => (x.walkE (d + 1) s).1) (fun s => 0 ≤ s ∧ s ≤ 15) (fun x s h1 h2 => by
      obtain ⟨a1, a2, a3, a4⟩ := hs x (d + 1) s h1.1 h1.2
      have h3 : (x.walkE (d + 1) s).2 = true := by simpa using h2
      have := (a1.1 h3).2
      rw [← a2 h3] at this
      exact ⟨by omega, this⟩) 247 (n + 1) ⟨by omega, by omega⟩ (fun x hx s h => by
        have hc := ih x hx (hm.2 x hx) (d + 1) s (by omega) (by omega) h.1 h.2
        refine z14 z18 Tryz.func247 rfl rfl 11 Tryz.ntmps247 (by simp) ?_
        repeat' ((first | (apply AWP.go ok; rfl) | (apply And.intro; (unfold inI; omega)) | (((apply z6 [0] [] [] (hc); rfl; (focus ((repeat' first | exact z4 | apply z5) <;> rfl)))); rfl; rfl; rfl; rfl; rfl; (focus ((repeat' first | exact z12 | apply z11) <;> exact z17 rfl rfl)); (exact .inl rfl))) <;> conv => whnf)
        exact z89 [0, 1] (by decide) rfl rfl rfl ⟨z19 rfl rfl, z19 rfl rfl, trivial⟩)
    rw [Tree.walkEs_idx (d + 1) t.kids (n + 1) 0, Bool.not_not]
    exact h
  have hk2 := fun h1 h2 => by
    have := hk h1 h2
    unfold lst at this
    rw [← Tree.cs_eq] at this
    exact this
  refine z14 z18 Tryz.func215 rfl rfl 55 Tryz.ntmps215 (by simp) ?_
  repeat' ((first | (apply AWP.go ok; rfl) | (apply And.intro; (unfold inI; omega)) | ((first | apply z7 | apply z41 | apply z80) <;> intro _) | (apply z9 (in_ok _ 1 9); rfl; rfl) | (apply z9 (in_ok _ 0 3); rfl; rfl) | (apply z9 (in_ok _ 0 2); rfl; rfl) | (apply z9 (in_ok _ 0 0); rfl; rfl) | (((apply z6 [0, 3] [2] [] (hk2 (by omega) (by omega)); rfl; (focus ((repeat' first | exact z4 | apply z5) <;> rfl)))); rfl; rfl; rfl; rfl; rfl; (focus ((repeat' first | exact z12 | apply z11) <;> exact z17 rfl rfl)); ((refine .inr ⟨rfl, ?_⟩; repeat' first | exact True.intro | apply And.intro | exact rfl)))) <;> conv => whnf)
  all_goals first
    | (have e : t.walkE d n = (n + 1, false) := by
        rw [Tree.walkE_eq, if_neg]
        clear hk hk2 hs ih
        rintro ⟨c1, c2, c3, c4, c5⟩
        try simp only [btw_no, z134] at *
        unfold mostV at c4
        unfold arity at c5
        grind
       rw [e]
       exact z89 [0] (by decide) rfl rfl rfl ⟨z19 rfl rfl, trivial⟩)
    | (have e : t.walkE d n = Tree.walkEs t.kids (d + 1) (n + 1) := by
        rw [Tree.walkE_eq, if_pos]
        clear hk hk2 hs ih
        try simp only [btw_no, z134] at *
        unfold mostV arity
        grind
       rw [e]
       refine z89 [0] (by decide) rfl rfl ?_ ⟨z19 rfl rfl, trivial⟩
       show AC.raw (.bool (!!_)) = _
       rw [Bool.not_not]; rfl)
end Go.Proofs.YtppafngcahgagaaGreat

namespace Go.Proofs.YtppafngcahgagaaGreat
open Go.Gl
attribute [local irreducible] z32 AWP z48 z55 z50

theorem Tree.arg_eq (t : Tree) : z43 Tree.cs' t = .agg [.int t.kind, .int t.val, lst 3 Tree.cs' t.kids] := by
  simp only [z43, Tree.cs', lst, Tree.lst_eq]

theorem exprNodes_ok (t : Tree) (hm : t.mx) : CallsA Tryz.prog 185 [z43 Tree.cs' t] [] (.int (if t.exprB then t.count 6 else 0)) [] := by
  have hk := walk_ok t hm 1 0 (by omega) (by omega) (by omega) (by omega)
  obtain ⟨_, h2, _, _⟩ := Tree.walkE_spec.1 t 1 0 (by omega) (by omega)
  refine z14 z18 Tryz.func185 rfl rfl 8 Tryz.ntmps185 (by simp) ?_
  repeat' ((first | (apply AWP.go ok; rfl) | ((apply z80) <;> intro _) | (((apply z6 [1] [] [] (hk); rfl; (focus ((repeat' first | exact z4 | apply z5) <;> rfl)))); rfl; rfl; rfl; rfl; rfl; (focus ((repeat' first | exact z12 | apply z11) <;> exact z17 rfl rfl)); (exact .inl rfl))) <;> conv => whnf)
  · rename_i h
    exact z47 rfl rfl (by rw [if_neg (by unfold Tree.exprB; rw [h]; simp)]; rfl)
  · rename_i h
    have e := h2 h
    rw [Int.zero_add] at e
    exact z47 rfl rfl (by rw [if_pos (show t.exprB = true from h), show t.count 6 = (t.walkE 1 0).1 from e.symm]; rfl)

theorem exprValid_ok (t : Tree) (hm : t.mx) : CallsA Tryz.prog 125 [z43 Tree.cs' t] [] (.bool t.exprB) [] := by
  refine z14 z18 Tryz.func125 rfl rfl 6 Tryz.ntmps125 (by simp) ?_
  repeat' ((first | (apply AWP.go ok; rfl) | (apply z9 (exprNodes_ok t hm); rfl; rfl)) <;> conv => whnf)
  refine z20 rfl ?_
  have := Tree.count_pos.1 t 6
  cases t.exprB
  · simp
  · simp; omega

theorem labelsValid1_ok (t : Tree) (hm : t.mx) : CallsA Tryz.prog 124 [z43 Tree.cs' t] [] (.bool (!t.exprB)) [] := by
  refine z14 z18 Tryz.func124 rfl rfl 6 Tryz.ntmps124 (by simp) ?_
  repeat' ((first | (apply AWP.go ok; rfl) | (apply z9 (exprValid_ok t hm); rfl; rfl)) <;> conv => whnf)
  exact z20 rfl rfl

/-- labels: three expressions -/
def labelsB (l : List Tree) : Bool := decide ((l.length : Int) = 3) && l.all Tree.exprB
theorem labelsValid_ok (l : List Tree) (hl : l.length ≤ maxLen) (hm : ∀ t ∈ l, t.mx) : CallsA Tryz.prog 55 [lst 3 Tree.cs' l] [] (.bool (labelsB l)) [] := by
  have hk := containsFunc_expr l hl (fun t => !t.exprB) 124 (fun t ht => labelsValid1_ok t (hm t ht))
  refine z14 z18 Tryz.func55 rfl rfl 11 Tryz.ntmps55 (by simp) ?_
  repeat' ((first | (apply AWP.go ok; rfl) | ((apply z7) <;> intro _) | (apply z9 (hk); rfl; rfl)) <;> conv => whnf)
  · refine z20 rfl ?_
    rename_i h
    unfold labelsB
    rw [decide_eq_true h, List.all_eq_not_any_not]; rfl
  · refine z20 rfl ?_
    rename_i h
    unfold labelsB
    rw [decide_eq_false h]; rfl

theorem l1Arity_ok (k : Int) : CallsA Tryz.prog 248 [.int k] [] (.int (arity k)) [] := by
  refine z14 z18 Tryz.func248 rfl rfl 15 Tryz.ntmps248 (by simp) ?_
  repeat' ((first | (apply AWP.go ok; rfl) | ((apply z7) <;> intro _)) <;> conv => whnf)
  all_goals (refine z47 rfl rfl ?_; unfold arity; first | (rw [if_pos (by omega)]; rfl) | (rw [if_neg (by omega), if_pos (by omega)]; rfl) | (rw [if_neg (by omega), if_neg (by omega), if_pos (by omega)]; rfl) | (rw [if_neg (by omega), if_neg (by omega), if_neg (by omega)]; rfl))

theorem shapes_all (l : List Tree) (d : Int) : Tree.shapes l d = l.all (fun t => t.shape d) := by
  induction l with
  | nil => rfl
  | cons t l ih => simp [Tree.shapes, ih]
theorem shape_eq (t : Tree) (d : Int) : t.shape d = (decide (1 ≤ d ∧ (t.kids.length : Int) = arity t.kind ∧ 0 ≤ t.val ∧ t.val ≤ mostV t.kind) && t.kids.all fun t => t.shape (d - 1)) := by
  cases t; simp only [Tree.shape, Tree.kids, Tree.kind, Tree.val, shapes_all]; rfl

theorem l1Shape_ok (t : Tree) : t.mx → ∀ d : Int, -100 ≤ d → d ≤ 100 → CallsA Tryz.prog 218 [z43 Tree.cs' t, .int d] [] (.bool (t.shape d)) [] := by
  induction t using Tree.ind with | h t ih => ?_
  intro hm d h0 h1
  rw [Tree.mx_iff] at hm
  have hl := hm.1
  unfold maxLen at hl
  rw [Tree.arg_eq, shape_eq]
  refine z14 z18 Tryz.func218 rfl rfl 49 Tryz.ntmps218 (by simp) ?_
  repeat' ((first | (apply AWP.go ok; rfl) | (apply z29; kernel_rfl) | ((first | apply z7 | apply z41) <;> intro _) | (apply z9 (l1Arity_ok _); rfl; rfl)) <;> conv => whnf)
  all_goals first
    | (refine z20 rfl ?_
       rw [decide_eq_false]
       · rfl
       · clear ih
         rintro ⟨c1, c2, c3, c4⟩
         unfold mostV at c4
         grind)
    | (have hg : decide (1 ≤ d ∧ (t.kids.length : Int) = arity t.kind ∧ 0 ≤ t.val ∧ t.val ≤ mostV t.kind) = true := by
         clear ih
         refine decide_eq_true ?_
         unfold mostV
         grind
       rw [hg, Bool.true_and]
       refine z82 (fun k : Nat => ([(1, .int d), (2, .ptr 0 none 0), (6, .int k)], [.cells 3 [[.int t.kind, .int t.val, lst 3 Tree.cs' t.kids]]])) (fun k => k ≤ t.kids.length ∧ (t.kids.all fun t => t.shape (d - 1)) = (t.kids.drop k).all fun t => t.shape (d - 1)) (fun k => t.kids.length - k) 0 ⟨by omega, rfl⟩ ⟨[0], rfl, by decide, rfl, by repeat' (first | exact True.intro | exact ⟨rfl, rfl⟩ | apply And.intro), by repeat' (first | exact True.intro | exact z19 rfl rfl | apply And.intro)⟩ ?_
       intro k hk
       repeat' ((first | (apply AWP.go ok; rfl) | (apply And.intro; first | omega | (unfold inI; omega)) | (((with_reducible apply z13; omega)); intro _) | ((first | apply z7 | apply z80) <;> intro _) | (apply z9 (ih t.kids[k] (List.getElem_mem _) (hm.2 _ (List.getElem_mem _)) (d - 1) (by omega) (by omega)); rfl; rfl)) <;> conv => whnf)
       · rename_i h1
         exact z20 rfl (by rw [hk.2, z132 _ _ _ (by assumption)]; simp [h1])
       · rename_i h1
         exact z69 (k + 1) [0] ⟨by omega, by rw [hk.2, z132 _ _ _ (by assumption)]; simp [h1]⟩ (by omega) ⟨rfl, by decide, rfl, by repeat' (first | exact True.intro | exact ⟨rfl, rfl⟩ | apply And.intro), by repeat' (first | exact True.intro | exact z19 rfl rfl | apply And.intro)⟩
       · exact z20 rfl (by rw [hk.2, z127 _ _ _ (by omega)]))

theorem count_eq (t : Tree) (d : Int) : t.count d = if 0 < d then 1 + (t.kids.map fun t => t.count (d - 1)).sum else 1 := by
  have : ∀ (l : List Tree) d, Tree.counts l d = (l.map fun t => t.count d).sum := by
    intro l d
    induction l with
    | nil => rfl
    | cons t l ih => simp [Tree.counts, ih]
  cases t; simp only [Tree.count, Tree.kids, this]

/-- below a shape of depth d lie at most 2^d - 1 nodes -/
theorem count_le (t : Tree) : ∀ d n : Nat, t.shape d = true → t.count n ≤ 2 ^ d - 1 := by
  induction t using Tree.ind with | h t ih => ?_
  intro d n h
  rw [shape_eq, Bool.and_eq_true, decide_eq_true_eq] at h
  obtain ⟨⟨h1, h2, _, _⟩, h3⟩ := h
  rw [List.all_eq_true] at h3
  obtain ⟨d, rfl⟩ : ∃ e, d = e + 1 := ⟨d - 1, by omega⟩
  have e : ((d + 1 : Nat) : Int) - 1 = (d : Nat) := by omega
  rw [e] at h3
  rw [count_eq]
  have hp : (1 : Int) ≤ 2 ^ d := by exact_mod_cast Nat.one_le_two_pow
  have hq : ((2 : Int) ^ (d + 1)) = 2 * 2 ^ d := by rw [Int.pow_succ]; omega
  split
  · rename_i hn
    obtain ⟨n, rfl⟩ : ∃ e, n = e + 1 := ⟨n - 1, by omega⟩
    have e : ((n + 1 : Nat) : Int) - 1 = (n : Nat) := by omega
    rw [e]
    have hl : (t.kids.length : Int) ≤ 2 := by rw [h2]; unfold arity; grind
    have hk : ∀ u ∈ t.kids, u.count n ≤ 2 ^ d - 1 := fun u hu => ih u hu d n (h3 u hu)
    match hkk : t.kids with
    | [] => simp only [List.map_nil, List.sum_nil]; omega
    | [a] =>
      have := hk a (by simp [hkk])
      simp only [List.map_cons, List.map_nil, List.sum_cons, List.sum_nil]; omega
    | [a, b] =>
      have := hk a (by simp [hkk])
      have := hk b (by simp [hkk])
      simp only [List.map_cons, List.map_nil, List.sum_cons, List.sum_nil]; omega
    | a :: b :: c :: r => rw [hkk] at hl; simp only [List.length_cons] at hl; omega
  · omega

theorem sum_step (f : Tree → Int) (l : List Tree) (k : Nat) (hk : k < l.length) : ((l.take (k + 1)).map f).sum = ((l.take k).map f).sum + f l[k] := by
  rw [List.take_succ_eq_append_getElem hk, List.map_append, List.sum_append]; simp

theorem count_bound (t : Tree) (e d : Int) (he : e ≤ 50) (hd : 0 ≤ d) (h : t.shape e = true) : t.count d ≤ 2 ^ 50 := by
  have h1 : 1 ≤ e := by
    rw [shape_eq, Bool.and_eq_true, decide_eq_true_eq] at h; exact h.1.1
  obtain ⟨n, rfl⟩ := Int.eq_ofNat_of_zero_le (show 0 ≤ e by omega)
  obtain ⟨m, rfl⟩ := Int.eq_ofNat_of_zero_le hd
  have h2 := count_le t n m h
  have h4 : (2 : Int) ^ n ≤ 2 ^ 50 := by exact_mod_cast Nat.pow_le_pow_right (by omega) (by omega)
  omega

theorem l1Count_ok (t : Tree) : t.mx → ∀ e d : Int, e ≤ 50 → 0 ≤ d → d ≤ 50 → t.shape e = true → CallsA Tryz.prog 219 [z43 Tree.cs' t, .int d] [] (.int (t.count d)) [] := by
  induction t using Tree.ind with | h t ih => ?_
  intro hm e d h0 h1 h2 hs
  rw [Tree.mx_iff] at hm
  rw [shape_eq, Bool.and_eq_true, decide_eq_true_eq, List.all_eq_true] at hs
  obtain ⟨⟨hs1, hs2, _, _⟩, hs3⟩ := hs
  have hl : (t.kids.length : Int) ≤ 2 := by rw [hs2]; unfold arity; grind
  rw [Tree.arg_eq, count_eq]
  have hb : 0 < d → ∀ k, k ≤ t.kids.length → 0 ≤ ((t.kids.take k).map fun t => t.count (d - 1)).sum ∧ ((t.kids.take k).map fun t => t.count (d - 1)).sum ≤ k * 2 ^ 50 := by
    intro hd k
    induction k with
    | zero => intro _; simp
    | succ k ihk =>
      intro hk
      have h1 := ihk (by omega)
      rw [sum_step _ _ _ (by omega)]
      have h2 := count_bound t.kids[k] (e - 1) (d - 1) (by omega) (by omega) (hs3 _ (List.getElem_mem _))
      have h3 := Tree.count_pos.1 t.kids[k] (d - 1)
      omega
  refine z14 z18 Tryz.func219 rfl rfl 29 Tryz.ntmps219 (by simp) ?_
  repeat' (((apply AWP.go ok; rfl)) <;> conv => whnf)
  by_cases hd : 0 < d
  · rw [if_pos hd]
    refine z82 (fun k : Nat => ([(1, .int d), (2, .ptr 0 none 0), (5, .int (1 + ((t.kids.take k).map fun t => t.count (d - 1)).sum)), (6, .int k)], [.cells 3 [[.int t.kind, .int t.val, lst 3 Tree.cs' t.kids]]])) (fun k => k ≤ t.kids.length) (fun k => t.kids.length - k) 0 (by omega) ⟨[0], rfl, by decide, rfl, by repeat' (first | exact True.intro | exact ⟨rfl, rfl⟩ | apply And.intro), by repeat' (first | exact True.intro | exact z19 rfl rfl | apply And.intro)⟩ ?_
    intro k hk
    have hbk := hb hd k hk
    have hbk1 := fun h => hb hd (k + 1) h
    have hss := fun h => sum_step (fun t => t.count (d - 1)) t.kids k h
    repeat' ((first | (apply AWP.go ok; rfl) | (apply And.intro; first | omega | (unfold inI; omega)) | (((with_reducible apply z13; omega)); intro _) | ((apply z7) <;> intro _) | (apply z9 (ih t.kids[k] (List.getElem_mem _) (hm.2 _ (List.getElem_mem _)) (e - 1) (d - 1) (by omega) (by omega) (by omega) (hs3 _ (List.getElem_mem _))); rfl; rfl)) <;> conv => whnf)
    · have e1 := hss ‹_›
      have e2 := hbk1 (by omega)
      refine And.intro (by unfold inI; omega) ?_
      conv => whnf
      repeat' ((first | (apply AWP.go ok; rfl) | (apply And.intro; (unfold inI; omega))) <;> conv => whnf)
      exact z69 (k + 1) [0] (by omega) (by omega) ⟨rfl, by decide, rfl, ⟨⟨rfl, rfl⟩, ⟨rfl, rfl⟩, ⟨rfl, by rw [e1, ← Int.add_assoc]; rfl⟩, ⟨rfl, rfl⟩, trivial⟩, ⟨z19 rfl rfl, trivial⟩⟩
    · omega
    · obtain rfl : k = t.kids.length := by omega
      exact z47 rfl rfl (by rw [List.take_length]; rfl)
  · rw [if_neg hd]
    refine z82 (fun k : Nat => ([(1, .int d), (2, .ptr 0 none 0), (5, .int 1), (6, .int k)], [.cells 3 [[.int t.kind, .int t.val, lst 3 Tree.cs' t.kids]]])) (fun k => k ≤ t.kids.length) (fun k => t.kids.length - k) 0 (by omega) ⟨[0], rfl, by decide, rfl, by repeat' (first | exact True.intro | exact ⟨rfl, rfl⟩ | apply And.intro), by repeat' (first | exact True.intro | exact z19 rfl rfl | apply And.intro)⟩ ?_
    intro k hk
    repeat' ((first | (apply AWP.go ok; rfl) | (apply And.intro; omega) | (((with_reducible apply z13; omega)); intro _) | ((apply z7) <;> intro _)) <;> conv => whnf)
    · omega
    · exact z47 rfl rfl rfl
    · exact z47 rfl rfl rfl

theorem z117 (t : Tree) (hm : t.mx) : CallsA Tryz.prog 191 [z43 Tree.cs' t] [] (.bool t.exprB) [] := by
  rw [Tree.exprB_eq]
  refine z14 z18 Tryz.func191 rfl rfl 10 Tryz.ntmps191 (by simp) ?_
  repeat' ((first | (apply AWP.go ok; rfl) | ((apply z84) <;> intro _) | (apply z9 (l1Shape_ok t hm 6 (by omega) (by omega)); rfl; rfl) | (apply z9 (l1Count_ok t hm 6 6 (by omega) (by omega) (by omega) (by assumption)); rfl; rfl)) <;> conv => whnf)
  all_goals (refine z20 rfl ?_; (simp [*]; done))

theorem specLabelsValid_ok (l : List Tree) (hl : l.length ≤ maxLen) (hm : ∀ t ∈ l, t.mx) : CallsA Tryz.prog 140 [lst 3 Tree.cs' l] [] (.bool (labelsB l)) [] := by
  unfold maxLen at hl
  unfold labelsB
  refine z14 z18 Tryz.func140 rfl rfl 19 Tryz.ntmps140 (by simp) ?_
  repeat' (((apply AWP.go ok; rfl)) <;> conv => whnf)
  refine z82 (fun k : Nat => ([(0, lst 3 Tree.cs' l), (3, .int k)], [])) (fun k => k ≤ l.length ∧ l.all Tree.exprB = (l.drop k).all Tree.exprB) (fun k => l.length - k) 0 ⟨by omega, rfl⟩ ⟨[], rfl, by decide, rfl, by repeat' (first | exact True.intro | exact ⟨rfl, rfl⟩ | apply And.intro), by repeat' (exact True.intro)⟩ ?_
  intro k hk
  repeat' ((first | (apply AWP.go ok; rfl) | (apply And.intro; first | omega | (unfold inI; omega)) | (((with_reducible apply z13; omega)); intro _) | ((first | apply z7 | apply z80) <;> intro _) | (apply z9 (z117 l[k] (hm _ (List.getElem_mem _))); rfl; rfl)) <;> conv => whnf)
  · rename_i h1
    exact z20 rfl (by rw [hk.2, z132 _ _ _ (by assumption)]; simp [h1])
  · rename_i h1
    exact z69 (k + 1) [] ⟨by omega, by rw [hk.2, z132 _ _ _ (by assumption)]; simp [h1]⟩ (by omega) ⟨rfl, by decide, rfl, by repeat' (first | exact True.intro | exact ⟨rfl, rfl⟩ | apply And.intro), by repeat' (exact True.intro)⟩
  · exact z20 rfl (by rw [hk.2, z127 _ _ _ (by omega), Bool.and_true])

theorem truth_ok (b : Bool) : CallsA Tryz.prog 217 [.bool b] [] (.int (b2i b)) [] := by
  refine z14 z18 Tryz.func217 rfl rfl 4 Tryz.ntmps217 (by simp) ?_
  repeat' ((first | (apply AWP.go ok; rfl) | ((apply z84) <;> intro _)) <;> conv => whnf)
  all_goals (refine z47 rfl rfl ?_; simp only [*]; rfl)
theorem l1Bool_ok (b : Bool) : CallsA Tryz.prog 249 [.bool b] [] (.int (b2i b)) [] := by
  refine z14 z18 Tryz.func249 rfl rfl 4 Tryz.ntmps249 (by simp) ?_
  repeat' ((first | (apply AWP.go ok; rfl) | ((apply z84) <;> intro _)) <;> conv => whnf)
  all_goals (refine z47 rfl rfl ?_; simp only [*]; rfl)

theorem good_cases {t : Tree} (hg : t.good) : (∃ x, t = .mk 1 x [] ∧ 0 ≤ x ∧ x ≤ 3) ∨ (∃ x, t = .mk 2 x [] ∧ 0 ≤ x ∧ x ≤ 2) ∨ (∃ x a, t = .mk 3 x [a] ∧ a.good) ∨ (∃ k x a b, t = .mk k x [a, b] ∧ 4 ≤ k ∧ k ≤ 9 ∧ a.good ∧ b.good) := by
  obtain ⟨g1, g2, g3, g4⟩ := Tree.good_iff hg
  obtain ⟨k, x, l⟩ := t
  simp only [Tree.kind, Tree.val, Tree.kids] at *
  unfold arity at g1
  unfold mostV at g3
  match l, g1, g4 with
  | [], g1, _ =>
    simp only [List.length_nil] at g1
    have : k = 1 ∨ k = 2 := by grind
    rcases this with rfl | rfl
    · exact .inl ⟨x, rfl, g2, by grind⟩
    · exact .inr (.inl ⟨x, rfl, g2, by grind⟩)
  | [a], g1, g4 =>
    simp only [List.length_cons, List.length_nil] at g1
    have : k = 3 := by grind
    subst this
    exact .inr (.inr (.inl ⟨x, a, rfl, g4 a (by simp)⟩))
  | [a, b], g1, g4 =>
    simp only [List.length_cons, List.length_nil] at g1
    exact .inr (.inr (.inr ⟨k, x, a, b, rfl, by grind, by grind, g4 a (by simp), g4 b (by simp)⟩))
  | a :: b :: c :: r, g1, _ => simp only [List.length_cons] at g1; grind

theorem eval_ok (v : List Int) (hv : ValsOk v) (t : Tree) : t.good → CallsA Tryz.prog 190 [z43 Tree.cs' t, ints v] [] (.int (t.ev v)) [] := by
  induction t using Tree.ind with | h t ih => ?_
  intro hg
  have hl := hv.1
  rw [Tree.arg_eq]
  rcases good_cases hg with ⟨x, rfl, h1, h2⟩ | ⟨x, rfl, h1, h2⟩ | ⟨x, a, rfl, h1⟩ | ⟨k, x, a, b, rfl, h1, h2, h3, h4⟩ <;> simp only [Tree.kind, Tree.val, Tree.kids] at *
  · refine z14 z18 Tryz.func190 rfl rfl 82 Tryz.ntmps190 (by simp) ?_
    repeat' (((apply AWP.go ok; rfl)) <;> conv => whnf)
    all_goals (exact z47 rfl rfl (by rw [Tree.ev, if_pos rfl]; rfl))
  · refine z14 z18 Tryz.func190 rfl rfl 82 Tryz.ntmps190 (by simp) ?_
    repeat' ((first | (apply AWP.go ok; rfl) | (apply And.intro; omega) | (apply get_map; omega; intro _)) <;> conv => whnf)
    all_goals skip
    refine z47 rfl rfl ?_
    rw [Tree.ev, if_neg (by omega), if_pos rfl, List.getD_eq_getElem?_getD, List.getElem?_eq_getElem (by omega)]; rfl
  · have ha := Tree.ev_range hv a h1
    refine z14 z18 Tryz.func190 rfl rfl 82 Tryz.ntmps190 (by simp) ?_
    repeat' ((first | (apply AWP.go ok; rfl) | (apply And.intro; omega) | apply z113 | (apply z9 (ih a (by simp) h1); rfl; rfl) | (apply z9 (truth_ok _); rfl; rfl)) <;> conv => whnf)
    all_goals skip
    all_goals (refine z47 rfl rfl ?_; rw [Tree.ev, if_neg (by omega), if_neg (by omega)]; simp only [Tree.evs]; rfl)
  · have ha := Tree.ev_range hv a h3
    have hb := Tree.ev_range hv b h4
    refine z14 z18 Tryz.func190 rfl rfl 82 Tryz.ntmps190 (by simp) ?_
    repeat' ((first | (apply AWP.go ok; rfl) | (apply And.intro; first | omega | (unfold inI; omega)) | (((apply z13; omega)); intro _) | apply z113 | ((first | apply z7 | apply z41) <;> intro _) | (apply z9 (ih a (by simp) h3); rfl; rfl) | (apply z9 (ih b (by simp) h4); rfl; rfl) | (apply z9 (truth_ok _); rfl; rfl)) <;> conv => whnf)
    all_goals first | (exfalso; omega) | skip
    all_goals (refine ret_int rfl ?_; clear ih; simp only [Tree.ev, Tree.evs, b2i]; grind)

theorem l1Eval_ok (v : List Int) (hv : ValsOk v) (t : Tree) : t.good → CallsA Tryz.prog 220 [z43 Tree.cs' t, ints v] [] (.int (t.ev v)) [] := by
  induction t using Tree.ind with | h t ih => ?_
  intro hg
  have hl := hv.1
  rw [Tree.arg_eq]
  rcases good_cases hg with ⟨x, rfl, h1, h2⟩ | ⟨x, rfl, h1, h2⟩ | ⟨x, a, rfl, h1⟩ | ⟨k, x, a, b, rfl, h1, h2, h3, h4⟩ <;> simp only [Tree.kind, Tree.val, Tree.kids] at *
  · refine z14 z18 Tryz.func220 rfl rfl 86 Tryz.ntmps220 (by simp) ?_
    repeat' (((apply AWP.go ok; rfl)) <;> conv => whnf)
    all_goals (exact z47 rfl rfl (by rw [Tree.ev, if_pos rfl]; rfl))
  · refine z14 z18 Tryz.func220 rfl rfl 86 Tryz.ntmps220 (by simp) ?_
    repeat' ((first | (apply AWP.go ok; rfl) | (apply And.intro; omega) | (apply get_map; omega; intro _)) <;> conv => whnf)
    all_goals skip
    refine z47 rfl rfl ?_
    rw [Tree.ev, if_neg (by omega), if_pos rfl, List.getD_eq_getElem?_getD, List.getElem?_eq_getElem (by omega)]; rfl
  · have ha := Tree.ev_range hv a h1
    refine z14 z18 Tryz.func220 rfl rfl 86 Tryz.ntmps220 (by simp) ?_
    repeat' ((first | (apply AWP.go ok; rfl) | (apply And.intro; omega) | apply z113 | (apply z9 (ih a (by simp) h1); rfl; rfl) | (apply z9 (l1Bool_ok _); rfl; rfl)) <;> conv => whnf)
    all_goals skip
    all_goals (refine z47 rfl rfl ?_; rw [Tree.ev, if_neg (by omega), if_neg (by omega)]; simp only [Tree.evs]; rfl)
  · have ha := Tree.ev_range hv a h3
    have hb := Tree.ev_range hv b h4
    refine z14 z18 Tryz.func220 rfl rfl 86 Tryz.ntmps220 (by simp) ?_
    repeat' ((first | (apply AWP.go ok; rfl) | (apply And.intro; first | omega | (unfold inI; omega)) | (((apply z13; omega)); intro _) | apply z113 | ((first | apply z7 | apply z41) <;> intro _) | (apply z9 (ih a (by simp) h3); rfl; rfl) | (apply z9 (ih b (by simp) h4); rfl; rfl) | (apply z9 (l1Bool_ok _); rfl; rfl)) <;> conv => whnf)
    all_goals first | (exfalso; omega) | skip
    all_goals (refine ret_int rfl ?_; clear ih; simp only [Tree.ev, Tree.evs, b2i]; grind)
end Go.Proofs.YtppafngcahgagaaGreat

namespace Go.Proofs.YtppafngcahgagaaGreat
open Go.Gl
attribute [local irreducible] z32 AWP z48 z55 z50

/-- the letter of values, from the k-th label on -/
def ltr (v : List Int) (l : List Tree) (k n : Nat) : Nat := match l with
  | [] => n
  | t :: r => ltr v r (k + 1) (if t.ev v = 0 then n else n ||| 2 ^ k)
theorem ltr_cons (v : List Int) (l : List Tree) (k n : Nat) (h : k < l.length) : ltr v (l.drop k) k n = ltr v (l.drop (k + 1)) (k + 1) (if l[k].ev v = 0 then n else n ||| 2 ^ k) := by
  rw [List.drop_eq_getElem_cons h, ltr]
theorem ltr_end (v : List Int) (l : List Tree) (k n : Nat) (h : l.length ≤ k) : ltr v (l.drop k) k n = n := by
  rw [List.drop_eq_nil_of_le h, ltr]
def z36 (labels : List Tree) (s : State) : Int := ltr s.b labels 0 0
theorem or_lt {n k : Nat} (h : n < 2 ^ k) : n ||| 2 ^ k < 2 ^ (k + 1) :=
  Nat.or_lt_two_pow (by rw [Nat.pow_succ]; omega) (by rw [Nat.pow_succ]; have := Nat.two_pow_pos k; omega)

def LabelsOk (l : List Tree) : Prop := l.length = 3 ∧ ∀ t ∈ l, t.good
theorem LabelsOk.of {l : List Tree} (h : labelsB l = true) : LabelsOk l := by
  simp only [labelsB, Bool.and_eq_true, decide_eq_true_eq, List.all_eq_true] at h
  exact ⟨by omega, fun t ht => Tree.good_of (h.2 t ht)⟩

theorem shl_eq (k : Nat) (hk : k < 3) : (1 : Int) * 2 ^ ((k : Int).toNat) = ((2 ^ k : Nat) : Int) := by simp
theorem pow_bound {k : Nat} (hk : k < 3) : 2 ^ k ≤ 8 ∧ 2 ^ (k + 1) ≤ 8 ∧ 0 < 2 ^ k := by
  have : k = 0 ∨ k = 1 ∨ k = 2 := by omega
  rcases this with rfl | rfl | rfl <;> simp

theorem letter_ok (s : State) (hv : ValsOk s.b) (l : List Tree) (hl : LabelsOk l) : CallsA Tryz.prog 139 [ints s.b, lst 3 Tree.cs' l] [] (.int (z36 l s)) [] := by
  have h3 := hl.1
  refine z14 z18 Tryz.func139 rfl rfl 25 Tryz.ntmps139 (by simp) ?_
  repeat' (((apply AWP.go ok; rfl)) <;> conv => whnf)
  refine z82 (fun x : Nat × Nat => ([(0, ints s.b), (5, .int x.2), (8, lst 3 Tree.cs' l), (9, .int l.length), (10, .int x.1)], [])) (fun x => x.1 ≤ l.length ∧ x.2 < 2 ^ x.1 ∧ ltr s.b l 0 0 = ltr s.b (l.drop x.1) x.1 x.2) (fun x => l.length - x.1) (0, 0) ⟨by omega, by decide, rfl⟩ ⟨[], rfl, by decide, rfl, by repeat' (first | exact True.intro | exact ⟨rfl, rfl⟩ | apply And.intro), by repeat' (exact True.intro)⟩ ?_
  rintro ⟨k, n⟩ ⟨hk1, hk2, hk3⟩
  dsimp only at hk1 hk2 hk3
  repeat' ((first | (apply AWP.go ok; rfl) | (apply And.intro; first | omega | (unfold inI; omega)) | (((with_reducible apply z13; omega)); intro _) | ((first | apply z7 | apply z41) <;> intro _) | (apply z9 (eval_ok s.b hv l[k] (hl.2 _ (List.getElem_mem _))); rfl; rfl)) <;> conv => whnf)
  · rename_i hkl h
    have hp := pow_bound (show k < 3 by omega)
    have e := shl_eq k (by omega)
    refine And.intro ⟨by omega, by omega, by rw [e]; unfold inI; omega⟩ ?_
    conv => whnf
    refine And.intro (by rw [e]; unfold bitsOk; omega) ?_
    conv => whnf
    repeat' ((first | (apply AWP.go ok; rfl) | (apply And.intro; (unfold inI; omega))) <;> conv => whnf)
    rw [ltr_cons _ _ _ _ hkl, if_neg h] at hk3
    refine z69 (k + 1, n ||| 2 ^ k) [] ⟨by dsimp only; omega, or_lt hk2, hk3⟩ (by dsimp only; omega) ⟨rfl, by decide, rfl, ⟨⟨rfl, rfl⟩, ⟨rfl, ?_⟩, ⟨rfl, rfl⟩, ⟨rfl, rfl⟩, ⟨rfl, rfl⟩, trivial⟩, trivial⟩
    show AC.raw (.int .i64 (((n : Int).toNat ||| ((1 : Int) * 2 ^ ((k : Int).toNat)).toNat : Nat) : Int)) = _
    rw [e]; rfl
  · rename_i hkl h
    rw [ltr_cons _ _ _ _ hkl, if_pos h] at hk3
    have : 2 ^ k ≤ 2 ^ (k + 1) := by rw [Nat.pow_succ]; omega
    exact z69 (k + 1, n) [] ⟨by dsimp only; omega, by dsimp only; omega, hk3⟩ (by dsimp only; omega) ⟨rfl, by decide, rfl, by repeat' (first | exact True.intro | exact ⟨rfl, rfl⟩ | apply And.intro), by repeat' (exact True.intro)⟩
  · rw [ltr_end _ _ _ _ (by omega)] at hk3
    exact z47 rfl rfl (by unfold z36; rw [hk3]; rfl)

theorem l8Letter_ok (s : State) (hv : ValsOk s.b) (l : List Tree) (hl : LabelsOk l) : CallsA Tryz.prog 192 [z43 State.cs s, lst 3 Tree.cs' l] [] (.int (z36 l s)) [] := by
  have h3 := hl.1
  refine z14 z18 Tryz.func192 rfl rfl 27 Tryz.ntmps192 (by simp) ?_
  repeat' (((apply AWP.go ok; rfl)) <;> conv => whnf)
  refine z82 (fun x : Nat × Nat => ([(1, lst 3 Tree.cs' l), (2, .ptr 0 none 0), (5, .int x.2), (6, .int x.1)], [.cells 2 [[ints s.a, ints s.b]]])) (fun x => x.1 ≤ l.length ∧ x.2 < 2 ^ x.1 ∧ ltr s.b l 0 0 = ltr s.b (l.drop x.1) x.1 x.2) (fun x => l.length - x.1) (0, 0) ⟨by omega, by decide, rfl⟩ ⟨[0], rfl, by decide, rfl, by repeat' (first | exact True.intro | exact ⟨rfl, rfl⟩ | apply And.intro), by repeat' (first | exact True.intro | exact z19 rfl rfl | apply And.intro)⟩ ?_
  rintro ⟨k, n⟩ ⟨hk1, hk2, hk3⟩
  dsimp only at hk1 hk2 hk3
  repeat' ((first | (apply AWP.go ok; rfl) | (apply z29; kernel_rfl) | (apply And.intro; first | omega | (unfold inI; omega)) | (((with_reducible apply z13; omega)); intro _) | ((first | apply z7 | apply z41) <;> intro _) | (apply z9 (l1Eval_ok s.b hv l[k] (hl.2 _ (List.getElem_mem _))); rfl; rfl)) <;> conv => whnf)
  · rename_i hkl h
    have hp := pow_bound (show k < 3 by omega)
    have e := shl_eq k (by omega)
    refine And.intro ?_ ?_
    · show IntKind.u64.wrap k = k
      have : k = 0 ∨ k = 1 ∨ k = 2 := by dsimp only at hkl; omega
      rcases this with rfl | rfl | rfl <;> rfl
    conv => whnf
    refine And.intro ⟨by omega, by omega, by rw [e]; unfold inI; omega⟩ ?_
    conv => whnf
    refine And.intro (by rw [e]; unfold bitsOk; omega) ?_
    conv => whnf
    repeat' ((first | (apply AWP.go ok; rfl) | (apply And.intro; (unfold inI; omega))) <;> conv => whnf)
    rw [ltr_cons _ _ _ _ hkl, if_neg h] at hk3
    refine z69 (k + 1, n ||| 2 ^ k) [0] ⟨by dsimp only; omega, or_lt hk2, hk3⟩ (by dsimp only; omega) ⟨rfl, by decide, rfl, ⟨⟨rfl, rfl⟩, ⟨rfl, rfl⟩, ⟨rfl, ?_⟩, ⟨rfl, rfl⟩, trivial⟩, ⟨z19 rfl rfl, trivial⟩⟩
    show AC.raw (.int .i64 (((n : Int).toNat ||| ((1 : Int) * 2 ^ ((k : Int).toNat)).toNat : Nat) : Int)) = _
    rw [e]; rfl
  · rename_i hkl h
    rw [ltr_cons _ _ _ _ hkl, if_pos h] at hk3
    have : 2 ^ k ≤ 2 ^ (k + 1) := by rw [Nat.pow_succ]; omega
    exact z69 (k + 1, n) [0] ⟨by dsimp only; omega, by dsimp only; omega, hk3⟩ (by dsimp only; omega) ⟨rfl, by decide, rfl, by repeat' (first | exact True.intro | exact ⟨rfl, rfl⟩ | apply And.intro), by repeat' (first | exact True.intro | exact z19 rfl rfl | apply And.intro)⟩
  · rw [ltr_end _ _ _ _ (by omega)] at hk3
    exact z47 rfl rfl (by unfold z36; rw [hk3]; rfl)

theorem label_new (g : Graph) (hg : ∀ s ∈ g.st, ValsOk s.b) (hn : g.st.length ≤ 60) (l : List Tree) (hl : LabelsOk l) : CallsA Tryz.prog 58 [.agg g.cs, lst 3 Tree.cs' l] [] (.sref 0 0 g.st.length) [.cells 1 (g.st.map fun s => enI (z36 l s))] := by
  refine z14 z18 Tryz.func58 rfl rfl 29 Tryz.ntmps58 (by simp) ?_
  repeat' ((first | (apply AWP.go ok; rfl) | (apply And.intro; (dsimp only; omega))) <;> conv => whnf)
  refine z82 (fun k : Nat => ([(1, lst 3 Tree.cs' l), (5, .sref 0 0 g.st.length), (13, lst 2 State.cs g.st), (14, .int g.st.length), (15, .int k)], [.cells 1 ((g.st.take k).map (fun s => enI (z36 l s)) ++ List.replicate (g.st.length - k) (enI 0))])) (fun k => k ≤ g.st.length) (fun k => g.st.length - k) 0 (by omega) ⟨[1], rfl, by decide, rfl, by repeat' (first | exact True.intro | exact ⟨rfl, rfl⟩ | apply And.intro), by repeat' (first | exact True.intro | exact z28 (by rfl) (by (first | exact z38 | exact z102 rfl)) | apply And.intro)⟩ ?_
  intro k hk
  repeat' ((first | (apply AWP.go ok; rfl) | (apply And.intro; first | omega | (unfold inI; omega)) | (((with_reducible apply z13; omega)); intro _) | (apply get_fill; omega) | ((apply z7) <;> intro _) | (apply z9 (letter_ok g.st[k] (hg _ (List.getElem_mem _)) l hl); rfl; rfl)) <;> conv => whnf)
  · rename_i h hkl
    exact z69 (k + 1) [0] (by omega) (by omega) ⟨rfl, by decide, rfl, ⟨⟨rfl, rfl⟩, ⟨rfl, rfl⟩, ⟨rfl, rfl⟩, ⟨rfl, rfl⟩, ⟨rfl, rfl⟩, trivial⟩, ⟨obj_fill hkl rfl rfl rfl (fun _ => rfl) rfl, trivial⟩⟩
  · exact ret_new rfl (z8 fun _ => rfl) rfl (fill_end _ _ _ _ (by omega))

theorem label_ok (g : Graph) (hg : ∀ s ∈ g.st, ValsOk s.b) (hn : g.st.length ≤ 60) (l : List Tree) (hl : LabelsOk l) : CallsA Tryz.prog 58 [.agg g.cs, lst 3 Tree.cs' l] [] (ints (g.st.map (z36 l))) [] := by
  have h := (label_new g hg hn l hl).keep (enc_unown1 _ _) (by simp)
  unfold ints
  rw [List.length_map, List.map_map]
  exact h

theorem l8Letters_new (g : Graph) (hg : ∀ s ∈ g.st, ValsOk s.b) (hn : g.st.length ≤ 60) (l : List Tree) (hl : LabelsOk l) : CallsA Tryz.prog 141 [.agg g.cs, lst 3 Tree.cs' l] [] (.sref 0 0 g.st.length) [.cells 1 (g.st.map fun s => enI (z36 l s))] := by
  refine z14 z18 Tryz.func141 rfl rfl 26 Tryz.ntmps141 (by simp) ?_
  repeat' (((apply AWP.go ok; rfl)) <;> conv => whnf)
  refine z82 (fun k : Nat => ([(1, lst 3 Tree.cs' l), (2, .ptr 0 none 0), (5, .sref 1 0 k), (6, .int k)], [.cells 2 [[lst 2 State.cs g.st, lst 1 encL g.nx]], .cells 1 ((g.st.take k).map fun s => enI (z36 l s))])) (fun k => k ≤ g.st.length) (fun k => g.st.length - k) 0 (by omega) ⟨[0, 1], rfl, by decide, rfl, by repeat' (first | exact True.intro | exact ⟨rfl, rfl⟩ | apply And.intro), by repeat' (first | exact True.intro | exact z19 rfl rfl | exact z28 (by rfl) (by (exact z38)) | apply And.intro)⟩ ?_
  intro k hk
  repeat' ((first | (apply AWP.go ok; rfl) | (apply And.intro; first | omega | (unfold inI; omega) | ((try dsimp only); simp only [List.length_map, List.length_take, List.length_append, List.length_replicate, List.length_cons, List.length_nil]; omega) | exact ⟨rfl, z21 rfl z26⟩) | (((with_reducible apply z13; omega)); intro _) | ((apply z7) <;> intro _) | (apply z9 (l8Letter_ok g.st[k] (hg _ (List.getElem_mem _)) l hl); rfl; rfl)) <;> conv => whnf)
  · rename_i h hkl
    exact z69 (k + 1) [0, 3] (by omega) (by omega) ⟨rfl, by decide, rfl, ⟨⟨rfl, rfl⟩, ⟨rfl, rfl⟩, ⟨rfl, rfl⟩, ⟨rfl, rfl⟩, trivial⟩, ⟨z19 rfl rfl, obj_app hkl _ rfl rfl rfl (fun _ => rfl), trivial⟩⟩
  · obtain rfl : k = g.st.length := by omega
    exact ret_new rfl (z8 fun _ => rfl) rfl (by rw [List.take_length])
theorem l8Letters_ok (g : Graph) (hg : ∀ s ∈ g.st, ValsOk s.b) (hn : g.st.length ≤ 60) (l : List Tree) (hl : LabelsOk l) : CallsA Tryz.prog 141 [.agg g.cs, lst 3 Tree.cs' l] [] (ints (g.st.map (z36 l))) [] := by
  have h := (l8Letters_new g hg hn l hl).keep (enc_unown1 _ _) (by simp)
  unfold ints
  rw [List.length_map, List.map_map]
  exact h
end Go.Proofs.YtppafngcahgagaaGreat

namespace Go.Proofs.YtppafngcahgagaaGreat
open Go.Gl
attribute [local irreducible] z32 AWP z48 z55 z50

theorem l1Vals_ok (l : List Int) (hl : l.length ≤ maxLen) : CallsA Tryz.prog 89 [ints l] [] (.bool (valsB l)) [] := by
  unfold maxLen at hl
  have e : valsB l = (l.all (fun n => btw n 0 3) && decide ((l.length : Int) = 3)) := by
    unfold valsB; rw [Bool.and_comm, List.all_eq_not_any_not]
  rw [e]
  refine z14 z18 Tryz.func89 rfl rfl 25 Tryz.ntmps89 (by simp) ?_
  repeat' (((apply AWP.go ok; rfl)) <;> conv => whnf)
  refine z82 (fun k : Nat => ([(0, ints l), (3, .int k)], [])) (fun k => k ≤ l.length ∧ l.all (fun n => btw n 0 3) = (l.drop k).all (fun n => btw n 0 3)) (fun k => l.length - k) 0 ⟨by omega, rfl⟩ ⟨[], rfl, by decide, rfl, by repeat' (first | exact True.intro | exact ⟨rfl, rfl⟩ | apply And.intro), by repeat' (exact True.intro)⟩ ?_
  intro k hk
  repeat' ((first | (apply AWP.go ok; rfl) | (apply And.intro; first | omega | (unfold inI; omega)) | (((with_reducible apply z13; omega)); intro _) | ((apply z7) <;> intro _)) <;> conv => whnf)
  · refine z20 rfl ?_
    have : btw l[k] 0 3 = false := btw_no.2 (by omega)
    rw [hk.2, z132 _ _ _ (by assumption), this]; rfl
  · refine z20 rfl ?_
    have : btw l[k] 0 3 = false := btw_no.2 (by omega)
    rw [hk.2, z132 _ _ _ (by assumption), this]; rfl
  · have : btw l[k] 0 3 = true := z134.2 (by omega)
    exact z69 (k + 1) [] ⟨by omega, by rw [hk.2, z132 _ _ _ (by assumption), this]; rfl⟩ (by omega) ⟨rfl, by decide, rfl, by repeat' (first | exact True.intro | exact ⟨rfl, rfl⟩ | apply And.intro), by repeat' (exact True.intro)⟩
  · exact z20 rfl (by rw [hk.2, z127 _ _ _ (by omega), Bool.true_and])

theorem l4In_ok (l : List Int) (hl : l.length ≤ maxLen) (v : Int) : CallsA Tryz.prog 90 [ints l, .int v] [] (.bool (decide (v ∈ l))) [] := by
  unfold maxLen at hl
  have e : decide (v ∈ l) = l.any (fun x => decide (x = v)) := by
    rw [Bool.eq_iff_iff]; simp
  rw [e]
  refine z14 z18 Tryz.func90 rfl rfl 18 Tryz.ntmps90 (by simp) ?_
  repeat' (((apply AWP.go ok; rfl)) <;> conv => whnf)
  refine z82 (fun k : Nat => ([(0, ints l), (1, .int v), (5, .int k)], [])) (fun k => k ≤ l.length ∧ l.any (fun x => decide (x = v)) = (l.drop k).any (fun x => decide (x = v))) (fun k => l.length - k) 0 ⟨by omega, rfl⟩ ⟨[], rfl, by decide, rfl, by repeat' (first | exact True.intro | exact ⟨rfl, rfl⟩ | apply And.intro), by repeat' (exact True.intro)⟩ ?_
  intro k hk
  repeat' ((first | (apply AWP.go ok; rfl) | (apply And.intro; first | omega | (unfold inI; omega)) | (((with_reducible apply z13; omega)); intro _) | ((apply z7) <;> intro _)) <;> conv => whnf)
  · rename_i h
    exact z20 rfl (by rw [hk.2, drop_any _ _ _ (by assumption), decide_eq_true h]; rfl)
  · rename_i h
    exact z69 (k + 1) [] ⟨by omega, by rw [hk.2, drop_any _ _ _ (by assumption), decide_eq_false h]; rfl⟩ (by omega) ⟨rfl, by decide, rfl, by repeat' (first | exact True.intro | exact ⟨rfl, rfl⟩ | apply And.intro), by repeat' (exact True.intro)⟩
  · exact z20 rfl (by rw [hk.2, drop_any_end _ _ _ (by omega)])

/-- numbers that differ, each below n, are at most n -/
theorem Distinct.le {l : List Int} {n : Int} (h : Distinct l n l.length) (h0 : 0 ≤ n) : (l.length : Int) ≤ n := by
  have hnd : (l.map Int.toNat).Nodup := by
    rw [List.nodup_iff_pairwise_ne, List.pairwise_map, List.pairwise_iff_getElem]
    intro i j hi hj hij he
    have h1 := h i hi hi
    have h2 := h j hj hj
    refine h2.2 ?_
    have : l[j] = l[i] := by omega
    rw [this, List.mem_take_iff_getElem]
    exact ⟨i, by omega, rfl⟩
  have hsub : (l.map Int.toNat) ⊆ List.range n.toNat := by
    intro x hx
    obtain ⟨y, hy, rfl⟩ := List.mem_map.1 hx
    obtain ⟨i, hi, rfl⟩ := List.mem_iff_getElem.1 hy
    have := (h i hi hi).1
    rw [List.mem_range]; omega
  have := hnd.length_le_of_subset hsub
  simp at this
  omega

def RowOk (g : Graph) (i : Nat) : Prop := ∀ (h : i < g.nx.length) (h' : i < g.st.length), 1 ≤ g.nx[i].length ∧ g.nx[i].length ≤ g.st.length ∧ valsB g.st[i].b = true ∧ Distinct g.nx[i] g.st.length g.nx[i].length
def GB (g : Graph) : Prop := (1 ≤ g.st.length ∧ g.st.length ≤ 60) ∧ g.nx.length = g.st.length ∧ ∀ i, i < g.nx.length → RowOk g i

theorem succB_iff {n : Int} {l : List Int} : succB n l = true ↔ 1 ≤ l.length ∧ Distinct l n l.length := by
  unfold succB
  rw [Bool.and_eq_true, decide_eq_true_eq, Bool.not_eq_true', decide_eq_false_iff_not]
  exact and_congr (by omega) Iff.rfl

theorem z87 (g : Graph) : graphB g = true ↔ GB g := by
  unfold graphB GB
  simp only [Bool.and_eq_true, z134, decide_eq_true_eq, Bool.not_eq_true', List.any_eq_false]
  constructor
  · rintro ⟨h1, h2, h3, h4⟩
    refine ⟨by omega, by omega, fun i hi h h' => ?_⟩
    have h5 := succB_iff.1 (by simpa using h4 _ (List.getElem_mem h))
    have h6 := h5.2.le (by omega)
    exact ⟨h5.1, by omega, by simpa using h3 _ (List.getElem_mem h'), h5.2⟩
  · rintro ⟨h1, h2, h3⟩
    refine ⟨by omega, by omega, fun s hs => ?_, fun l hl => ?_⟩
    · obtain ⟨i, hi, rfl⟩ := List.mem_iff_getElem.1 hs
      simpa using (h3 i (by omega) (by omega) hi).2.2.1
    · obtain ⟨i, hi, rfl⟩ := List.mem_iff_getElem.1 hl
      have := h3 i hi hi (by omega)
      simpa using succB_iff.2 ⟨this.1, this.2.2.2⟩

set_option maxHeartbeats 800000 in
theorem specGraphValid_ok (g : Graph) (hg : g.mx) : CallsA Tryz.prog 38 [.agg g.cs] [] (.bool (graphB g)) [] := by
  obtain ⟨hs, hn, hm⟩ := hg
  have hl1 := hs.1
  unfold maxLen at hl1 hn
  have hiff := z87 g
  refine z14 z18 Tryz.func38 rfl rfl 111 Tryz.ntmps38 (by simp) ?_
  repeat' ((first | (apply AWP.go ok; rfl) | ((first | apply z7 | apply z41) <;> intro _)) <;> conv => whnf)
  · exact z20 rfl (by rw [← Bool.not_eq_true, hiff]; rintro ⟨h1, h2, _⟩; omega)
  · exact z20 rfl (by rw [← Bool.not_eq_true, hiff]; rintro ⟨h1, h2, _⟩; omega)
  · exact z20 rfl (by rw [← Bool.not_eq_true, hiff]; rintro ⟨h1, h2, _⟩; omega)
  rename_i b1 b2 b3
  have hne : g.nx.length = g.st.length := by omega
  refine z82 (fun k : Nat => ([(1, .ptr 0 none 0), (3, .int k)], [.cells 2 [[lst 2 State.cs g.st, lst 1 encL g.nx]]])) (fun k => k ≤ g.nx.length ∧ ∀ i, i < k → RowOk g i) (fun k => g.nx.length - k) 0 ⟨by omega, fun i h => by omega⟩ ⟨[0], rfl, by decide, rfl, by repeat' (first | exact True.intro | exact ⟨rfl, rfl⟩ | apply And.intro), by repeat' (first | exact True.intro | exact z19 rfl rfl | apply And.intro)⟩ ?_
  intro k hk
  have bad : k < g.nx.length → ¬ RowOk g k → graphB g = false := fun h1 h2 => by
    rw [← Bool.not_eq_true, hiff]; rintro ⟨_, _, h3⟩; exact h2 (h3 k h1)
  repeat' ((first | (apply AWP.go ok; rfl) | (apply z29; kernel_rfl) | (apply And.intro; omega) | (((with_reducible apply z13; omega)); intro _) | ((first | apply z7 | apply z80) <;> intro _) | (apply z9 (l1Vals_ok _ (hs.2 _ (List.getElem_mem _)).2); rfl; rfl)) <;> conv => whnf)
  · refine z20 rfl (bad (by assumption) fun h => ?_)
    have := h (by assumption) (by omega); omega
  · refine z20 rfl (bad (by assumption) fun h => ?_)
    have := h (by assumption) (by omega); omega
  · rename_i hv
    refine z20 rfl (bad (by assumption) fun h => ?_)
    have := h (by assumption) (by omega)
    rw [hv] at this; simp at this
  · rename_i hv
    have hkn : k < g.nx.length := by assumption
    have hks : k < g.st.length := by omega
    refine z82 (fun j : Nat => ([(1, .ptr 0 none 0), (3, .int k), (4, .int j)], [.cells 2 [[lst 2 State.cs g.st, lst 1 encL g.nx]]])) (fun j => j ≤ g.nx[k].length ∧ Distinct g.nx[k] g.st.length j) (fun j => g.nx[k].length - j) 0 ⟨by omega, fun i h hi => by omega⟩ ⟨[0], rfl, by decide, rfl, by repeat' (first | exact True.intro | exact ⟨rfl, rfl⟩ | apply And.intro), by repeat' (first | exact True.intro | exact z19 rfl rfl | apply And.intro)⟩ ?_
    intro j hj
    repeat' ((first | (apply AWP.go ok; rfl) | (apply z29; kernel_rfl) | (apply And.intro; first | omega | (unfold inI; omega)) | (((with_reducible apply z13; omega)); intro _) | ((apply z7) <;> intro _)) <;> conv => whnf)
    · refine z20 rfl (bad hkn fun h => ?_)
      have := ((h hkn hks).2.2.2 j (by assumption) (by assumption)).1; omega
    · refine z20 rfl (bad hkn fun h => ?_)
      have := ((h hkn hks).2.2.2 j (by assumption) (by assumption)).1; omega
    · apply z9 (l4In_ok (g.nx[k].take j) (by rw [List.length_take]; unfold maxLen; omega) g.nx[k][j])
      · show _ = [AC.list 1 _ _, _]
        rw [show AC.list 1 (g.nx[k].take j).length ((g.nx[k].take j).map enI) = _ from (slice_take 1 enI g.nx[k] j hj.1).symm]
        rfl
      · rfl
      conv => whnf
      repeat' ((first | (apply AWP.go ok; rfl) | (apply z29; kernel_rfl) | (apply And.intro; (unfold inI; omega)) | ((apply z7) <;> intro _)) <;> conv => whnf)
      · rename_i h2
        exact z20 rfl (bad hkn fun h => ((h hkn hks).2.2.2 j (by assumption) (by assumption)).2 h2)
      · rename_i h2
        refine z69 (j + 1) [0] ⟨by omega, fun i hi hik => ?_⟩ (by omega) ⟨rfl, by decide, rfl, by repeat' (first | exact True.intro | exact ⟨rfl, rfl⟩ | apply And.intro), by repeat' (first | exact True.intro | exact z19 rfl rfl | apply And.intro)⟩
        rcases Nat.lt_or_ge i j with h3 | h3
        · exact hj.2 i hi h3
        · obtain rfl : i = j := by omega
          exact ⟨by omega, h2⟩
    · refine z69 (k + 1) [0] ⟨by omega, fun i hi => ?_⟩ (by omega) ⟨rfl, by decide, rfl, by repeat' (first | exact True.intro | exact ⟨rfl, rfl⟩ | apply And.intro), by repeat' (first | exact True.intro | exact z19 rfl rfl | apply And.intro)⟩
      rcases Nat.lt_or_ge i k with h3 | h3
      · exact hk.2 i h3
      · obtain rfl : i = k := by omega
        intro _ _
        obtain rfl : j = g.nx[i].length := by omega
        exact ⟨by omega, by omega, hv, hj.2⟩
  · exact z20 rfl (by rw [hiff]; exact ⟨by omega, hne, fun i hi => hk.2 i (by omega)⟩)
end Go.Proofs.YtppafngcahgagaaGreat

