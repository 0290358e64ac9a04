/- A part of the proofs over this program: Tab, T3, T4, T5, T6, T7, T8, T9, T10, T11, T12, T13. -/
import Derived.Test.YtppafngcahgagaaGreatG0
import Derived.Test.YtppafngcahgagaaGreatG1
import Derived.Test.YtppafngcahgagaaGreatG2
import Derived.Test.YtppafngcahgagaaGreatProg
import Derived.KernelRfl
set_option linter.all false
namespace Go.Proofs.YtppafngcahgagaaGreat
open Go.Gl
def tabL : List (Nat × TyI) := [
  (3, ⟨.int .i64, 1, 8, .int .i64 0⟩),
  (37, ⟨.slice 3, 1, 24, .slice none 0 0⟩),
  (26, ⟨.struct #[{ name := "States", type := 23, offset := 0, embedded := false, tag := "", pkgPath := "", byteOffset := 0 }, { name := "Next", type := 24, offset := 1, embedded := false, tag := "", pkgPath := "", byteOffset := 24 }], 2, 48, .agg #[.slice none 0 0, .slice none 0 0]⟩),
  (33, ⟨.slice 4, 1, 24, .slice none 0 0⟩),
  (24, ⟨.slice 37, 1, 24, .slice none 0 0⟩),
  (202, ⟨.struct #[{ name := "Kind", type := 3, offset := 0, embedded := false, tag := "", pkgPath := "", byteOffset := 0 }, { name := "Atom", type := 3, offset := 1, embedded := false, tag := "", pkgPath := "", byteOffset := 8 }, { name := "Kids", type := 200, offset := 2, embedded := false, tag := "", pkgPath := "", byteOffset := 16 }], 3, 40, .agg #[.int .i64 0, .int .i64 0, .slice none 0 0]⟩),
  (59, ⟨.struct #[{ name := "Kind", type := 3, offset := 0, embedded := false, tag := "", pkgPath := "", byteOffset := 0 }, { name := "Value", type := 3, offset := 1, embedded := false, tag := "", pkgPath := "", byteOffset := 8 }, { name := "Kids", type := 27, offset := 2, embedded := false, tag := "", pkgPath := "", byteOffset := 16 }], 3, 40, .agg #[.int .i64 0, .int .i64 0, .slice none 0 0]⟩),
  (68, ⟨.struct #[{ name := "Initial", type := 37, offset := 0, embedded := false, tag := "", pkgPath := "", byteOffset := 0 }, { name := "Accepting", type := 33, offset := 1, embedded := false, tag := "", pkgPath := "", byteOffset := 24 }, { name := "Edges", type := 66, offset := 2, embedded := false, tag := "", pkgPath := "", byteOffset := 48 }], 3, 72, .agg #[.slice none 0 0, .slice none 0 0, .slice none 0 0]⟩),
  (30, ⟨.struct #[{ name := "Kind", type := 3, offset := 0, embedded := false, tag := "", pkgPath := "", byteOffset := 0 }, { name := "Atom", type := 3, offset := 1, embedded := false, tag := "", pkgPath := "", byteOffset := 8 }, { name := "Kids", type := 28, offset := 2, embedded := false, tag := "", pkgPath := "", byteOffset := 16 }], 3, 40, .agg #[.int .i64 0, .int .i64 0, .slice none 0 0]⟩),
  (23, ⟨.slice 105, 1, 24, .slice none 0 0⟩),
  (4, ⟨.bool, 1, 1, .bool false⟩),
  (73, ⟨.struct #[{ name := "Ranks", type := 37, offset := 0, embedded := false, tag := "", pkgPath := "", byteOffset := 0 }], 1, 24, .agg #[.slice none 0 0]⟩),
  (200, ⟨.slice 202, 1, 24, .slice none 0 0⟩),
  (105, ⟨.struct #[{ name := "Locs", type := 37, offset := 0, embedded := false, tag := "", pkgPath := "", byteOffset := 0 }, { name := "Vals", type := 37, offset := 1, embedded := false, tag := "", pkgPath := "", byteOffset := 24 }], 2, 48, .agg #[.slice none 0 0, .slice none 0 0]⟩),
  (27, ⟨.slice 59, 1, 24, .slice none 0 0⟩),
  (66, ⟨.slice 164, 1, 24, .slice none 0 0⟩),
  (147, ⟨.slice 33, 1, 24, .slice none 0 0⟩),
  (28, ⟨.slice 30, 1, 24, .slice none 0 0⟩),
  (186, ⟨.struct #[{ name := "From", type := 3, offset := 0, embedded := false, tag := "", pkgPath := "", byteOffset := 0 }, { name := "To", type := 3, offset := 1, embedded := false, tag := "", pkgPath := "", byteOffset := 8 }, { name := "Guard", type := 59, offset := 2, embedded := false, tag := "", pkgPath := "", byteOffset := 16 }, { name := "Var", type := 3, offset := 5, embedded := false, tag := "", pkgPath := "", byteOffset := 56 }, { name := "Value", type := 59, offset := 6, embedded := false, tag := "", pkgPath := "", byteOffset := 64 }, { name := "Sync", type := 3, offset := 9, embedded := false, tag := "", pkgPath := "", byteOffset := 104 }], 10, 112, .agg #[.int .i64 0, .int .i64 0, .int .i64 0, .int .i64 0, .slice none 0 0, .int .i64 0, .int .i64 0, .int .i64 0, .slice none 0 0, .int .i64 0]⟩),
  (164, ⟨.struct #[{ name := "From", type := 3, offset := 0, embedded := false, tag := "", pkgPath := "", byteOffset := 0 }, { name := "Care", type := 3, offset := 1, embedded := false, tag := "", pkgPath := "", byteOffset := 8 }, { name := "Value", type := 3, offset := 2, embedded := false, tag := "", pkgPath := "", byteOffset := 16 }, { name := "To", type := 3, offset := 3, embedded := false, tag := "", pkgPath := "", byteOffset := 24 }], 4, 32, .agg #[.int .i64 0, .int .i64 0, .int .i64 0, .int .i64 0]⟩),
  (22, ⟨.slice 5, 1, 24, .slice none 0 0⟩),
  (136, ⟨.slice 184, 1, 24, .slice none 0 0⟩),
  (138, ⟨.struct #[{ name := "Init", type := 37, offset := 0, embedded := false, tag := "", pkgPath := "", byteOffset := 0 }, { name := "Processes", type := 136, offset := 1, embedded := false, tag := "", pkgPath := "", byteOffset := 24 }], 2, 48, .agg #[.slice none 0 0, .slice none 0 0]⟩),
  (39, ⟨.struct #[{ name := "Stem", type := 37, offset := 0, embedded := false, tag := "", pkgPath := "", byteOffset := 0 }, { name := "Loop", type := 37, offset := 1, embedded := false, tag := "", pkgPath := "", byteOffset := 24 }], 2, 48, .agg #[.slice none 0 0, .slice none 0 0]⟩),
  (182, ⟨.slice 186, 1, 24, .slice none 0 0⟩),
  (184, ⟨.struct #[{ name := "Locations", type := 3, offset := 0, embedded := false, tag := "", pkgPath := "", byteOffset := 0 }, { name := "Edges", type := 182, offset := 1, embedded := false, tag := "", pkgPath := "", byteOffset := 8 }], 2, 32, .agg #[.int .i64 0, .slice none 0 0]⟩),
  (249, ⟨.int .u64, 1, 8, .int .u64 0⟩),
  (176, ⟨.slice 180, 1, 24, .slice none 0 0⟩),
  (129, ⟨.struct #[{ name := "b", type := 22, offset := 0, embedded := false, tag := "", pkgPath := "loop.example/ltlcheck/spec", byteOffset := 0 }, { name := "p", type := 3, offset := 1, embedded := false, tag := "", pkgPath := "loop.example/ltlcheck/spec", byteOffset := 24 }], 2, 32, .agg #[.slice none 0 0, .int .i64 0]⟩),
  (194, ⟨.int .u64, 1, 8, .int .u64 0⟩),
  (5, ⟨.int .u8, 1, 1, .int .u8 0⟩),
  (180, ⟨.struct #[{ name := "Process", type := 3, offset := 0, embedded := false, tag := "", pkgPath := "", byteOffset := 0 }, { name := "Edge", type := 3, offset := 1, embedded := false, tag := "", pkgPath := "", byteOffset := 8 }, { name := "Partner", type := 3, offset := 2, embedded := false, tag := "", pkgPath := "", byteOffset := 16 }, { name := "PartnerEdge", type := 3, offset := 3, embedded := false, tag := "", pkgPath := "", byteOffset := 24 }], 4, 32, .agg #[.int .i64 0, .int .i64 0, .int .i64 0, .int .i64 0]⟩),
  (231, ⟨.int .u64, 1, 8, .int .u64 0⟩),
  (146, ⟨.pointer 3, 1, 8, .pointer none⟩),
  (229, ⟨.int .u32, 1, 4, .int .u32 0⟩),
  (162, ⟨.slice 66, 1, 24, .slice none 0 0⟩),
  (221, ⟨.int .i64, 1, 8, .int .i64 0⟩),
  (9, ⟨.string, 1, 16, .string ⟨#[]⟩⟩),
  (260, ⟨.map 3 3, 1, 8, .map none⟩)]
def tab : Tab := z462 tabL
theorem inf3 : (Tryz.prog.info? 3).map (fun j => (j.zero, j.size, j.bytes)) = some (some (.int .i64 0), 1, 8) := by kernel_rfl
theorem inf37 : (Tryz.prog.info? 37).map (fun j => (j.zero, j.size, j.bytes)) = some (some (.slice none 0 0), 1, 24) := by kernel_rfl
theorem inf26 : (Tryz.prog.info? 26).map (fun j => (j.zero, j.size, j.bytes)) = some (some (.agg #[.slice none 0 0, .slice none 0 0]), 2, 48) := by kernel_rfl
theorem inf33 : (Tryz.prog.info? 33).map (fun j => (j.zero, j.size, j.bytes)) = some (some (.slice none 0 0), 1, 24) := by kernel_rfl
theorem inf24 : (Tryz.prog.info? 24).map (fun j => (j.zero, j.size, j.bytes)) = some (some (.slice none 0 0), 1, 24) := by kernel_rfl
theorem inf202 : (Tryz.prog.info? 202).map (fun j => (j.zero, j.size, j.bytes)) = some (some (.agg #[.int .i64 0, .int .i64 0, .slice none 0 0]), 3, 40) := by kernel_rfl
theorem inf59 : (Tryz.prog.info? 59).map (fun j => (j.zero, j.size, j.bytes)) = some (some (.agg #[.int .i64 0, .int .i64 0, .slice none 0 0]), 3, 40) := by kernel_rfl
theorem inf68 : (Tryz.prog.info? 68).map (fun j => (j.zero, j.size, j.bytes)) = some (some (.agg #[.slice none 0 0, .slice none 0 0, .slice none 0 0]), 3, 72) := by kernel_rfl
theorem inf30 : (Tryz.prog.info? 30).map (fun j => (j.zero, j.size, j.bytes)) = some (some (.agg #[.int .i64 0, .int .i64 0, .slice none 0 0]), 3, 40) := by kernel_rfl
theorem inf23 : (Tryz.prog.info? 23).map (fun j => (j.zero, j.size, j.bytes)) = some (some (.slice none 0 0), 1, 24) := by kernel_rfl
theorem inf4 : (Tryz.prog.info? 4).map (fun j => (j.zero, j.size, j.bytes)) = some (some (.bool false), 1, 1) := by kernel_rfl
theorem inf73 : (Tryz.prog.info? 73).map (fun j => (j.zero, j.size, j.bytes)) = some (some (.agg #[.slice none 0 0]), 1, 24) := by kernel_rfl
theorem inf200 : (Tryz.prog.info? 200).map (fun j => (j.zero, j.size, j.bytes)) = some (some (.slice none 0 0), 1, 24) := by kernel_rfl
theorem inf105 : (Tryz.prog.info? 105).map (fun j => (j.zero, j.size, j.bytes)) = some (some (.agg #[.slice none 0 0, .slice none 0 0]), 2, 48) := by kernel_rfl
theorem inf27 : (Tryz.prog.info? 27).map (fun j => (j.zero, j.size, j.bytes)) = some (some (.slice none 0 0), 1, 24) := by kernel_rfl
theorem inf66 : (Tryz.prog.info? 66).map (fun j => (j.zero, j.size, j.bytes)) = some (some (.slice none 0 0), 1, 24) := by kernel_rfl
theorem inf147 : (Tryz.prog.info? 147).map (fun j => (j.zero, j.size, j.bytes)) = some (some (.slice none 0 0), 1, 24) := by kernel_rfl
theorem inf28 : (Tryz.prog.info? 28).map (fun j => (j.zero, j.size, j.bytes)) = some (some (.slice none 0 0), 1, 24) := by kernel_rfl
theorem inf186 : (Tryz.prog.info? 186).map (fun j => (j.zero, j.size, j.bytes)) = some (some (.agg #[.int .i64 0, .int .i64 0, .int .i64 0, .int .i64 0, .slice none 0 0, .int .i64 0, .int .i64 0, .int .i64 0, .slice none 0 0, .int .i64 0]), 10, 112) := by kernel_rfl
theorem inf164 : (Tryz.prog.info? 164).map (fun j => (j.zero, j.size, j.bytes)) = some (some (.agg #[.int .i64 0, .int .i64 0, .int .i64 0, .int .i64 0]), 4, 32) := by kernel_rfl
theorem inf22 : (Tryz.prog.info? 22).map (fun j => (j.zero, j.size, j.bytes)) = some (some (.slice none 0 0), 1, 24) := by kernel_rfl
theorem inf136 : (Tryz.prog.info? 136).map (fun j => (j.zero, j.size, j.bytes)) = some (some (.slice none 0 0), 1, 24) := by kernel_rfl
theorem inf138 : (Tryz.prog.info? 138).map (fun j => (j.zero, j.size, j.bytes)) = some (some (.agg #[.slice none 0 0, .slice none 0 0]), 2, 48) := by kernel_rfl
theorem inf39 : (Tryz.prog.info? 39).map (fun j => (j.zero, j.size, j.bytes)) = some (some (.agg #[.slice none 0 0, .slice none 0 0]), 2, 48) := by kernel_rfl
theorem inf182 : (Tryz.prog.info? 182).map (fun j => (j.zero, j.size, j.bytes)) = some (some (.slice none 0 0), 1, 24) := by kernel_rfl
theorem inf184 : (Tryz.prog.info? 184).map (fun j => (j.zero, j.size, j.bytes)) = some (some (.agg #[.int .i64 0, .slice none 0 0]), 2, 32) := by kernel_rfl
theorem inf249 : (Tryz.prog.info? 249).map (fun j => (j.zero, j.size, j.bytes)) = some (some (.int .u64 0), 1, 8) := by kernel_rfl
theorem inf176 : (Tryz.prog.info? 176).map (fun j => (j.zero, j.size, j.bytes)) = some (some (.slice none 0 0), 1, 24) := by kernel_rfl
theorem inf129 : (Tryz.prog.info? 129).map (fun j => (j.zero, j.size, j.bytes)) = some (some (.agg #[.slice none 0 0, .int .i64 0]), 2, 32) := by kernel_rfl
theorem inf194 : (Tryz.prog.info? 194).map (fun j => (j.zero, j.size, j.bytes)) = some (some (.int .u64 0), 1, 8) := by kernel_rfl
theorem inf5 : (Tryz.prog.info? 5).map (fun j => (j.zero, j.size, j.bytes)) = some (some (.int .u8 0), 1, 1) := by kernel_rfl
theorem inf180 : (Tryz.prog.info? 180).map (fun j => (j.zero, j.size, j.bytes)) = some (some (.agg #[.int .i64 0, .int .i64 0, .int .i64 0, .int .i64 0]), 4, 32) := by kernel_rfl
theorem inf231 : (Tryz.prog.info? 231).map (fun j => (j.zero, j.size, j.bytes)) = some (some (.int .u64 0), 1, 8) := by kernel_rfl
theorem inf146 : (Tryz.prog.info? 146).map (fun j => (j.zero, j.size, j.bytes)) = some (some (.pointer none), 1, 8) := by kernel_rfl
theorem inf229 : (Tryz.prog.info? 229).map (fun j => (j.zero, j.size, j.bytes)) = some (some (.int .u32 0), 1, 4) := by kernel_rfl
theorem inf162 : (Tryz.prog.info? 162).map (fun j => (j.zero, j.size, j.bytes)) = some (some (.slice none 0 0), 1, 24) := by kernel_rfl
theorem inf221 : (Tryz.prog.info? 221).map (fun j => (j.zero, j.size, j.bytes)) = some (some (.int .i64 0), 1, 8) := by kernel_rfl
theorem inf9 : (Tryz.prog.info? 9).map (fun j => (j.zero, j.size, j.bytes)) = some (some (.string ⟨#[]⟩), 1, 16) := by kernel_rfl
theorem inf260 : (Tryz.prog.info? 260).map (fun j => (j.zero, j.size, j.bytes)) = some (some (.map none), 1, 8) := by kernel_rfl
theorem z82 : z135 Tryz.prog tab := tabOk_of (⟨z94 Tryz.underlying3 inf3, ⟨z94 Tryz.underlying37 inf37, ⟨z94 Tryz.underlying26 inf26, ⟨z94 Tryz.underlying33 inf33, ⟨z94 Tryz.underlying24 inf24, ⟨z94 Tryz.underlying202 inf202, ⟨z94 Tryz.underlying59 inf59, ⟨z94 Tryz.underlying68 inf68, ⟨z94 Tryz.underlying30 inf30, ⟨z94 Tryz.underlying23 inf23, ⟨z94 Tryz.underlying4 inf4, ⟨z94 Tryz.underlying73 inf73, ⟨z94 Tryz.underlying200 inf200, ⟨z94 Tryz.underlying105 inf105, ⟨z94 Tryz.underlying27 inf27, ⟨z94 Tryz.underlying66 inf66, ⟨z94 Tryz.underlying147 inf147, ⟨z94 Tryz.underlying28 inf28, ⟨z94 Tryz.underlying186 inf186, ⟨z94 Tryz.underlying164 inf164, ⟨z94 Tryz.underlying22 inf22, ⟨z94 Tryz.underlying136 inf136, ⟨z94 Tryz.underlying138 inf138, ⟨z94 Tryz.underlying39 inf39, ⟨z94 Tryz.underlying182 inf182, ⟨z94 Tryz.underlying184 inf184, ⟨z94 Tryz.underlying249 inf249, ⟨z94 Tryz.underlying176 inf176, ⟨z94 Tryz.underlying129 inf129, ⟨z94 Tryz.underlying194 inf194, ⟨z94 Tryz.underlying5 inf5, ⟨z94 Tryz.underlying180 inf180, ⟨z94 Tryz.underlying231 inf231, ⟨z94 Tryz.underlying146 inf146, ⟨z94 Tryz.underlying229 inf229, ⟨z94 Tryz.underlying162 inf162, ⟨z94 Tryz.underlying221 inf221, ⟨z94 Tryz.underlying9 inf9, ⟨z94 Tryz.underlying260 inf260, trivial⟩⟩⟩⟩⟩⟩⟩⟩⟩⟩⟩⟩⟩⟩⟩⟩⟩⟩⟩⟩⟩⟩⟩⟩⟩⟩⟩⟩⟩⟩⟩⟩⟩⟩⟩⟩⟩⟩⟩)
end Go.Proofs.YtppafngcahgagaaGreat

namespace Go.Proofs.YtppafngcahgagaaGreat
open Go.Gl
attribute [local irreducible] z85
def enI (n : Int) : List AC := [.int n]
def ints (l : List Int) : AC := .list 1 l.length (l.map enI)
theorem ok : Ok Tryz.prog tab := ⟨z82, by kernel_rfl⟩
structure State where
  a : List Int
  b : List Int
  deriving DecidableEq
def State.cs (s : State) : List AC := [ints s.a, ints s.b]
def State.mx (s : State) : Prop := s.a.length ≤ maxLen ∧ s.b.length ≤ maxLen
def State.sz (s : State) : Nat := s.a.length + s.b.length
def lst {α : Type} (w : Nat) (e : α → List AC) (l : List α) : AC := .list w l.length (l.map e)
def tot {α : Type} (f : α → Nat) (l : List α) : Nat := l.length + (l.map f).sum
def State.mxs (l : List State) : Prop := l.length ≤ maxLen ∧ ∀ s ∈ l, s.mx
def State.small (s : State) : Prop := s.a.length ≤ 1048576 ∧ s.b.length ≤ 1048576
theorem State.unown (s : State) : ∀ x ∈ s.cs, x.unown = x := fun x hx => by
  simp only [State.cs, List.mem_cons, List.not_mem_nil, or_false] at hx
  rcases hx with rfl|rfl <;> rfl
end Go.Proofs.YtppafngcahgagaaGreat

namespace Go.Proofs.YtppafngcahgagaaGreat
open Go.Gl
attribute [local irreducible] z85
end Go.Proofs.YtppafngcahgagaaGreat

namespace Go.Proofs.YtppafngcahgagaaGreat
open Go.Gl
attribute [local irreducible] z85
def z88 {α : Type} (e : α → List AC) (a : α) : AC := .agg (e a)
end Go.Proofs.YtppafngcahgagaaGreat

namespace Go.Proofs.YtppafngcahgagaaGreat
open Go.Gl
attribute [local irreducible] z85
theorem Tree.unown (t : Tree) : ∀ x ∈ Tree.cs' t, x.unown = x := fun x hx => by
  simp only [Tree.cs', List.mem_cons, List.not_mem_nil, or_false] at hx
  rcases hx with rfl|rfl|rfl <;> rfl
end Go.Proofs.YtppafngcahgagaaGreat

namespace Go.Proofs.YtppafngcahgagaaGreat
open Go.Gl
attribute [local irreducible] z85
def encL (l : List Int) : List AC := [ints l]
end Go.Proofs.YtppafngcahgagaaGreat

namespace Go.Proofs.YtppafngcahgagaaGreat
open Go.Gl
attribute [local irreducible] z85
structure Graph where
  st : List State
  nx : List (List Int)
  deriving DecidableEq
def Graph.a1 (g : Graph) : AC := lst 2 State.cs g.st
def Graph.a2 (g : Graph) : AC := lst 1 encL g.nx
def Graph.cs (g : Graph) : List AC := [lst 2 State.cs g.st, lst 1 encL g.nx]
def Graph.s1 (g : Graph) : Nat := tot State.sz g.st
def Graph.s2 (g : Graph) : Nat := tot List.length g.nx
end Go.Proofs.YtppafngcahgagaaGreat

namespace Go.Proofs.YtppafngcahgagaaGreat
open Go.Gl
attribute [local irreducible] z85
def enB (b : Bool) : List AC := [.bool b]
structure Trans where
  src : Int
  care : Int
  val : Int
  dst : Int
  deriving DecidableEq
def Trans.cs (t : Trans) : List AC := [.int t.src, .int t.care, .int t.val, .int t.dst]
theorem Trans.unown (t : Trans) : ∀ x ∈ t.cs, x.unown = x := fun x hx => by
  simp only [Trans.cs, List.mem_cons, List.not_mem_nil, or_false] at hx
  rcases hx with rfl|rfl|rfl|rfl <;> rfl
structure Aut where
  ini : List Int
  acc : List Bool
  ed : List Trans
  deriving DecidableEq
def Aut.a1 (a : Aut) : AC := lst 1 enI a.ini
def Aut.a2 (a : Aut) : AC := lst 1 enB a.acc
def Aut.a3 (a : Aut) : AC := lst 4 Trans.cs a.ed
def Aut.cs (a : Aut) : List AC := [lst 1 enI a.ini, lst 1 enB a.acc, lst 4 Trans.cs a.ed]
def Aut.s1 (a : Aut) : Nat := a.ini.length
def Aut.s2 (a : Aut) : Nat := a.acc.length
def Aut.s3 (a : Aut) : Nat := a.ed.length
structure Cert where
  ranks : List Int
  deriving DecidableEq
def Cert.a1 (a : Cert) : AC := lst 1 enI a.ranks
def Cert.cs (a : Cert) : List AC := [lst 1 enI a.ranks]
def Cert.s1 (a : Cert) : Nat := a.ranks.length
end Go.Proofs.YtppafngcahgagaaGreat

namespace Go.Proofs.YtppafngcahgagaaGreat
open Go.Gl
attribute [local irreducible] z85 AWP z100 z108 z104
def btw (n lo hi : Int) : Bool := decide (lo ≤ n) && decide (n ≤ hi)
theorem z49 {n lo hi : Int} : btw n lo hi = true ↔ lo ≤ n ∧ n ≤ hi := by simp [btw]
theorem z369 {n lo hi : Int} : btw n lo hi = false ↔ ¬(lo ≤ n ∧ n ≤ hi) := by rw [← z49];simp
theorem z364 (n lo hi : Int) : CallsA Tryz.prog 62 [.int n, .int lo, .int hi] [] (.bool (btw n lo hi)) [] := by
  refine z58 z82 Tryz.func62 rfl rfl 15 Tryz.ntmps62 (by simp) ?_
  repeat' (first|(apply AWP.go ok;rfl;conv => whnf)|(apply z35;kernel_rfl;conv => whnf)|(apply And.intro;(first|omega|(unfold inI;omega)|(dsimp only;omega)|(unfold z30;omega)|((try dsimp only);simp only [List.length_map, List.length_take, List.length_append, List.length_replicate, List.length_cons, List.length_nil];omega)|(simp only [z49] at *;first|omega|(unfold inI;omega)|(unfold z30;omega))|exact z6 (fun _ => rfl)|exact ⟨rfl, z13 rfl z19⟩|exact ⟨rfl, z6 (fun _ => rfl) _⟩|exact ⟨⟨rfl, by omega⟩, z6 (fun _ => rfl) _⟩);conv => whnf)|(with_reducible apply z9;omega;intro _;conv => whnf)|(with_reducible apply z20;omega;intro _;conv => whnf)|(apply z9;omega;intro _;conv => whnf)|(apply z21;omega;conv => whnf)|(apply z28;conv => whnf)|(apply z27;omega;intro _;conv => whnf)|(apply z26 <;> intro _ <;> conv => whnf)|(apply z18 <;> intro _ <;> conv => whnf)|(apply z25 <;> intro _ <;> conv => whnf)|(apply z36 <;> intro _ <;> conv => whnf)|(apply z16 <;> intro _ <;> conv => whnf)|(apply z11 <;> intro _ <;> conv => whnf)|(apply z17 <;> intro _ <;> conv => whnf)|(apply z24 <;> intro _ <;> conv => whnf))
  all_goals (refine z81 rfl ?_;first|rfl|(unfold btw;simp [*];done)|(unfold btw;simp_all;done)|(unfold btw;simp_all;omega))
end Go.Proofs.YtppafngcahgagaaGreat

namespace Go.Proofs.YtppafngcahgagaaGreat
open Go.Gl
attribute [local irreducible] z85 AWP z100 z108 z104
def idxF {α : Type} (p : α → Bool) (l : List α) : Int := match l.findIdx? p with
  | some i => i
  | none => -1
theorem z200 {α : Type} {p : α → Bool} {l : List α} {i : Nat} (hi : i < l.length) (h : p l[i] = true) (hn : ∀ j (hj : j < l.length), j < i → p l[j] = false) : idxF p l = i := by
  have : l.findIdx? p = some i := List.findIdx?_eq_some_iff_getElem.2 ⟨hi, h, fun j hj => by simp [hn j (by omega) hj]⟩
  simp [idxF, this]
theorem z201 {α : Type} {p : α → Bool} {l : List α} (hn : ∀ j (hj : j < l.length), p l[j] = false) : idxF p l = -1 := by
  have : l.findIdx? p = none := List.findIdx?_eq_none_iff.2 fun x hx => by
    obtain ⟨i, hi, rfl⟩ := List.mem_iff_getElem.1 hx
    exact hn i hi
  simp [idxF, this]
theorem z181 {α : Type} (p : α → Bool) (l : List α) : decide (0 ≤ idxF p l) = l.any p := by
  unfold idxF
  split
  · rename_i i e
    obtain ⟨h, hp, _⟩ := List.findIdx?_eq_some_iff_getElem.1 e
    have : l.any p = true := List.any_eq_true.2 ⟨_, List.getElem_mem h, hp⟩
    rw [this]
    simp
  · rename_i e
    have := List.findIdx?_eq_none_iff.1 e
    have : l.any p = false := List.any_eq_false.2 fun x hx => by simp [this x hx]
    rw [this]
    simp
theorem z437 (l : List Int) (hl : l.length ≤ maxLen) (p : Int → Bool) (f : FuncId) (hf : ∀ x ∈ l, CallsA Tryz.prog f [.int x] [] (.bool (p x)) []) : CallsA Tryz.prog 68 [lst 1 enI l, .fn (.func f) [] []] [] (.int (idxF p l)) [] := by
  unfold maxLen at hl
  refine z58 z82 Tryz.func68 rfl rfl 19 Tryz.ntmps68 (by simp) ?_
  repeat' (first|(apply AWP.go ok;rfl;conv => whnf)|(apply z35;kernel_rfl;conv => whnf)|(apply And.intro;(first|omega|(unfold inI;omega)|(dsimp only;omega)|(unfold z30;omega)|((try dsimp only);simp only [List.length_map, List.length_take, List.length_append, List.length_replicate, List.length_cons, List.length_nil];omega)|(simp only [z49] at *;first|omega|(unfold inI;omega)|(unfold z30;omega))|exact z6 (fun _ => rfl)|exact ⟨rfl, z13 rfl z19⟩|exact ⟨rfl, z6 (fun _ => rfl) _⟩|exact ⟨⟨rfl, by omega⟩, z6 (fun _ => rfl) _⟩);conv => whnf)|(with_reducible apply z9;omega;intro _;conv => whnf)|(with_reducible apply z20;omega;intro _;conv => whnf)|(apply z9;omega;intro _;conv => whnf)|(apply z21;omega;conv => whnf)|(apply z28;conv => whnf)|(apply z27;omega;intro _;conv => whnf)|(apply z26 <;> intro _ <;> conv => whnf)|(apply z18 <;> intro _ <;> conv => whnf)|(apply z25 <;> intro _ <;> conv => whnf)|(apply z36 <;> intro _ <;> conv => whnf)|(apply z16 <;> intro _ <;> conv => whnf)|(apply z11 <;> intro _ <;> conv => whnf)|(apply z17 <;> intro _ <;> conv => whnf)|(apply z24 <;> intro _ <;> conv => whnf))
  refine z116 (fun k : Nat => ([(0, lst 1 enI l), (1, .fn (.func f) [] []), (7, .int l.length), (8, .int k)], [])) (fun k => k ≤ l.length ∧ ∀ j (hj : j < l.length), j < k → p l[j] = false) (fun k => l.length - k) 0 (by simp)
    ⟨[], rfl, by decide, rfl, ⟨⟨rfl, rfl⟩, ⟨rfl, rfl⟩, ⟨rfl, rfl⟩, ⟨rfl, rfl⟩, trivial⟩, trivial⟩ ?_
  intro k hk
  repeat' (first|(apply AWP.go ok;rfl;conv => whnf)|(apply z35;kernel_rfl;conv => whnf)|(apply And.intro;(first|omega|(unfold inI;omega)|(dsimp only;omega)|(unfold z30;omega)|((try dsimp only);simp only [List.length_map, List.length_take, List.length_append, List.length_replicate, List.length_cons, List.length_nil];omega)|(simp only [z49] at *;first|omega|(unfold inI;omega)|(unfold z30;omega))|exact z6 (fun _ => rfl)|exact ⟨rfl, z13 rfl z19⟩|exact ⟨rfl, z6 (fun _ => rfl) _⟩|exact ⟨⟨rfl, by omega⟩, z6 (fun _ => rfl) _⟩);conv => whnf)|(with_reducible apply z9;omega;intro _;conv => whnf)|(with_reducible apply z20;omega;intro _;conv => whnf)|(apply z9;omega;intro _;conv => whnf)|(apply z21;omega;conv => whnf)|(apply z28;conv => whnf)|(apply z27;omega;intro _;conv => whnf)|(apply z26 <;> intro _ <;> conv => whnf)|(apply z18 <;> intro _ <;> conv => whnf)|(apply z25 <;> intro _ <;> conv => whnf)|(apply z36 <;> intro _ <;> conv => whnf)|(apply z16 <;> intro _ <;> conv => whnf)|(apply z11 <;> intro _ <;> conv => whnf)|(apply z17 <;> intro _ <;> conv => whnf)|(apply z24 <;> intro _ <;> conv => whnf)|(apply z48 (hf l[k] (List.getElem_mem _));rfl;rfl;conv => whnf))
  · rename_i h h1
    exact z87 rfl rfl (by rw [z200 (by omega) h1 hk.2];rfl)
  · rename_i h h1
    refine z105 (k + 1) [] ⟨by omega, fun j hj hjk => ?_⟩ (by omega) ⟨rfl, by decide, rfl, ⟨⟨rfl, rfl⟩, ⟨rfl, rfl⟩, ⟨rfl, rfl⟩, ⟨rfl, rfl⟩, trivial⟩, trivial⟩
    rcases Nat.lt_or_ge j k with h2|h2
    · exact hk.2 j hj h2
    · obtain rfl : j = k := by omega
      exact h1
  · exact z87 rfl rfl (by rw [z201 fun j hj => hk.2 j hj (by omega)];rfl)
theorem z318 (l : List Int) (hl : l.length ≤ maxLen) (p : Int → Bool) (f : FuncId) (hf : ∀ x ∈ l, CallsA Tryz.prog f [.int x] [] (.bool (p x)) []) : CallsA Tryz.prog 108 [lst 1 enI l, .fn (.func f) [] []] [] (.bool (l.any p)) [] := by
  refine z58 z82 Tryz.func108 rfl rfl 9 Tryz.ntmps108 (by simp) ?_
  repeat' (first|(apply AWP.go ok;rfl;conv => whnf)|(apply z35;kernel_rfl;conv => whnf)|(apply And.intro;(first|omega|(unfold inI;omega)|(dsimp only;omega)|(unfold z30;omega)|((try dsimp only);simp only [List.length_map, List.length_take, List.length_append, List.length_replicate, List.length_cons, List.length_nil];omega)|(simp only [z49] at *;first|omega|(unfold inI;omega)|(unfold z30;omega))|exact z6 (fun _ => rfl)|exact ⟨rfl, z13 rfl z19⟩|exact ⟨rfl, z6 (fun _ => rfl) _⟩|exact ⟨⟨rfl, by omega⟩, z6 (fun _ => rfl) _⟩);conv => whnf)|(with_reducible apply z9;omega;intro _;conv => whnf)|(with_reducible apply z20;omega;intro _;conv => whnf)|(apply z9;omega;intro _;conv => whnf)|(apply z21;omega;conv => whnf)|(apply z28;conv => whnf)|(apply z27;omega;intro _;conv => whnf)|(apply z26 <;> intro _ <;> conv => whnf)|(apply z18 <;> intro _ <;> conv => whnf)|(apply z25 <;> intro _ <;> conv => whnf)|(apply z36 <;> intro _ <;> conv => whnf)|(apply z16 <;> intro _ <;> conv => whnf)|(apply z11 <;> intro _ <;> conv => whnf)|(apply z17 <;> intro _ <;> conv => whnf)|(apply z24 <;> intro _ <;> conv => whnf)|(apply z48 (z437 l hl p f hf);rfl;rfl;conv => whnf))
  exact z81 rfl (by rw [← z181])
end Go.Proofs.YtppafngcahgagaaGreat

namespace Go.Proofs.YtppafngcahgagaaGreat
open Go.Gl
attribute [local irreducible] z85 AWP z100 z108 z104
theorem z609 (n : Int) : CallsA Tryz.prog 182 [.int n] [] (.bool (!btw n 0 3)) [] := by
  refine z58 z82 Tryz.func182 rfl rfl 6 Tryz.ntmps182 (by simp) ?_
  repeat' (first|(apply AWP.go ok;rfl;conv => whnf)|(apply z35;kernel_rfl;conv => whnf)|(apply And.intro;(first|omega|(unfold inI;omega)|(dsimp only;omega)|(unfold z30;omega)|((try dsimp only);simp only [List.length_map, List.length_take, List.length_append, List.length_replicate, List.length_cons, List.length_nil];omega)|(simp only [z49] at *;first|omega|(unfold inI;omega)|(unfold z30;omega))|exact z6 (fun _ => rfl)|exact ⟨rfl, z13 rfl z19⟩|exact ⟨rfl, z6 (fun _ => rfl) _⟩|exact ⟨⟨rfl, by omega⟩, z6 (fun _ => rfl) _⟩);conv => whnf)|(with_reducible apply z9;omega;intro _;conv => whnf)|(with_reducible apply z20;omega;intro _;conv => whnf)|(apply z9;omega;intro _;conv => whnf)|(apply z21;omega;conv => whnf)|(apply z28;conv => whnf)|(apply z27;omega;intro _;conv => whnf)|(apply z26 <;> intro _ <;> conv => whnf)|(apply z18 <;> intro _ <;> conv => whnf)|(apply z25 <;> intro _ <;> conv => whnf)|(apply z36 <;> intro _ <;> conv => whnf)|(apply z16 <;> intro _ <;> conv => whnf)|(apply z11 <;> intro _ <;> conv => whnf)|(apply z17 <;> intro _ <;> conv => whnf)|(apply z24 <;> intro _ <;> conv => whnf)|(apply z48 (z364 n 0 3);rfl;rfl;conv => whnf))
  exact z81 rfl rfl
def z262 (l : List Int) : Bool := decide ((l.length : Int) = 3) && !(l.any fun n => !btw n 0 3)
theorem z660 (l : List Int) (hl : l.length ≤ maxLen) : CallsA Tryz.prog 119 [ints l] [] (.bool (z262 l)) [] := by
  have hl' := hl
  unfold maxLen at hl'
  have hk := z318 l hl (fun n => !btw n 0 3) 182 (fun x _ => z609 x)
  refine z58 z82 Tryz.func119 rfl rfl 11 Tryz.ntmps119 (by simp) ?_
  repeat' (first|(apply AWP.go ok;rfl;conv => whnf)|(apply z35;kernel_rfl;conv => whnf)|(apply And.intro;(first|omega|(unfold inI;omega)|(dsimp only;omega)|(unfold z30;omega)|((try dsimp only);simp only [List.length_map, List.length_take, List.length_append, List.length_replicate, List.length_cons, List.length_nil];omega)|(simp only [z49] at *;first|omega|(unfold inI;omega)|(unfold z30;omega))|exact z6 (fun _ => rfl)|exact ⟨rfl, z13 rfl z19⟩|exact ⟨rfl, z6 (fun _ => rfl) _⟩|exact ⟨⟨rfl, by omega⟩, z6 (fun _ => rfl) _⟩);conv => whnf)|(with_reducible apply z9;omega;intro _;conv => whnf)|(with_reducible apply z20;omega;intro _;conv => whnf)|(apply z9;omega;intro _;conv => whnf)|(apply z21;omega;conv => whnf)|(apply z28;conv => whnf)|(apply z27;omega;intro _;conv => whnf)|(apply z26 <;> intro _ <;> conv => whnf)|(apply z18 <;> intro _ <;> conv => whnf)|(apply z25 <;> intro _ <;> conv => whnf)|(apply z36 <;> intro _ <;> conv => whnf)|(apply z16 <;> intro _ <;> conv => whnf)|(apply z11 <;> intro _ <;> conv => whnf)|(apply z17 <;> intro _ <;> conv => whnf)|(apply z24 <;> intro _ <;> conv => whnf)|(apply z48 (hk);rfl;rfl;conv => whnf))
  all_goals (refine z81 rfl ?_;first|rfl|(unfold z262;simp [*];done)|(unfold z262;simp_all;done)|(unfold z262;simp_all;omega))
end Go.Proofs.YtppafngcahgagaaGreat

namespace Go.Proofs.YtppafngcahgagaaGreat
open Go.Gl
attribute [local irreducible] z85 z580 z334
theorem z362 (l : List State) (hl : l.length ≤ maxLen) (p : State → Bool) (f : FuncId) (hf : ∀ x ∈ l, CallsA Tryz.prog f [z88 State.cs x] [] (.bool (p x)) []) : CallsA Tryz.prog 181 [lst 2 State.cs l, .fn (.func f) [] []] [] (.int (idxF p l)) [] := by
  unfold maxLen at hl
  refine z58 z82 Tryz.func181 rfl rfl 19 Tryz.ntmps181 (by simp) ?_
  repeat' ((first|(apply AWP.go ok;rfl)|(apply z35;kernel_rfl)|(apply And.intro;first|omega|(unfold inI;omega)|(dsimp only;omega)|((try dsimp only);simp only [List.length_map, List.length_take, List.length_append, List.length_replicate, List.length_cons, List.length_nil];omega)|exact z6 (fun _ => rfl)|exact ⟨rfl, z13 rfl z19⟩|exact ⟨rfl, z6 (fun _ => rfl) _⟩|exact ⟨⟨rfl, by omega⟩, z6 (fun _ => rfl) _⟩|(unfold z30;omega)|(simp only [z49] at *;first|omega|(unfold inI;omega)|(unfold z30;omega)))|((first|(with_reducible apply z9;omega)|(with_reducible apply z20;omega)|(apply z9;omega));intro _)|(apply z21;omega)|apply z28|(apply z27;omega;intro _)|((first|apply z26|apply z18|apply z25|apply z36|apply z16|apply z11|apply z17|apply z24) <;> intro _)) <;> conv => whnf)
  refine z116 (fun k : Nat => ([(0, lst 2 State.cs l), (1, .fn (.func f) [] []), (7, .int l.length), (8, .int k)], [])) (fun k => k ≤ l.length ∧ ∀ j (hj : j < l.length), j < k → p l[j] = false) (fun k => l.length - k) 0 (by simp)
    ⟨[], rfl, by decide, rfl, ⟨⟨rfl, rfl⟩, ⟨rfl, rfl⟩, ⟨rfl, rfl⟩, ⟨rfl, rfl⟩, trivial⟩, trivial⟩ ?_
  intro k hk
  repeat' ((first|(apply AWP.go ok;rfl)|(apply z35;kernel_rfl)|(apply And.intro;first|omega|(unfold inI;omega)|(dsimp only;omega)|((try dsimp only);simp only [List.length_map, List.length_take, List.length_append, List.length_replicate, List.length_cons, List.length_nil];omega)|exact z6 (fun _ => rfl)|exact ⟨rfl, z13 rfl z19⟩|exact ⟨rfl, z6 (fun _ => rfl) _⟩|exact ⟨⟨rfl, by omega⟩, z6 (fun _ => rfl) _⟩|(unfold z30;omega)|(simp only [z49] at *;first|omega|(unfold inI;omega)|(unfold z30;omega)))|((first|(with_reducible apply z9;omega)|(with_reducible apply z20;omega)|(apply z9;omega));intro _)|(apply z21;omega)|apply z28|(apply z27;omega;intro _)|((first|apply z26|apply z18|apply z25|apply z36|apply z16|apply z11|apply z17|apply z24) <;> intro _)|(apply z48 (hf l[k] (List.getElem_mem _));rfl;rfl)) <;> conv => whnf)
  · rename_i h h1
    exact z87 rfl rfl (by rw [z200 (by omega) h1 hk.2];rfl)
  · rename_i h h1
    refine z105 (k + 1) [] ⟨by omega, fun j hj hjk => ?_⟩ (by omega) ⟨rfl, by decide, rfl, ⟨⟨rfl, rfl⟩, ⟨rfl, rfl⟩, ⟨rfl, rfl⟩, ⟨rfl, rfl⟩, trivial⟩, trivial⟩
    rcases Nat.lt_or_ge j k with h2|h2
    · exact hk.2 j hj h2
    · obtain rfl : j = k := by omega
      exact h1
  · exact z87 rfl rfl (by rw [z201 fun j hj => hk.2 j hj (by omega)];rfl)
theorem z281 (l : List State) (hl : l.length ≤ maxLen) (p : State → Bool) (f : FuncId) (hf : ∀ x ∈ l, CallsA Tryz.prog f [z88 State.cs x] [] (.bool (p x)) []) : CallsA Tryz.prog 117 [lst 2 State.cs l, .fn (.func f) [] []] [] (.bool (l.any p)) [] := by
  refine z58 z82 Tryz.func117 rfl rfl 9 Tryz.ntmps117 (by simp) ?_
  repeat' ((first|(apply AWP.go ok;rfl)|(apply z35;kernel_rfl)|(apply And.intro;first|omega|(unfold inI;omega)|(dsimp only;omega)|((try dsimp only);simp only [List.length_map, List.length_take, List.length_append, List.length_replicate, List.length_cons, List.length_nil];omega)|exact z6 (fun _ => rfl)|exact ⟨rfl, z13 rfl z19⟩|exact ⟨rfl, z6 (fun _ => rfl) _⟩|exact ⟨⟨rfl, by omega⟩, z6 (fun _ => rfl) _⟩|(unfold z30;omega)|(simp only [z49] at *;first|omega|(unfold inI;omega)|(unfold z30;omega)))|((first|(with_reducible apply z9;omega)|(with_reducible apply z20;omega)|(apply z9;omega));intro _)|(apply z21;omega)|apply z28|(apply z27;omega;intro _)|((first|apply z26|apply z18|apply z25|apply z36|apply z16|apply z11|apply z17|apply z24) <;> intro _)|(apply z48 (z362 l hl p f hf);rfl;rfl)) <;> conv => whnf)
  exact z81 rfl (by rw [← z181])
theorem z392 (l : List Tree) (hl : l.length ≤ maxLen) (p : Tree → Bool) (f : FuncId) (hf : ∀ x ∈ l, CallsA Tryz.prog f [z88 Tree.cs' x] [] (.bool (p x)) []) : CallsA Tryz.prog 184 [lst 3 Tree.cs' l, .fn (.func f) [] []] [] (.int (idxF p l)) [] := by
  unfold maxLen at hl
  refine z58 z82 Tryz.func184 rfl rfl 19 Tryz.ntmps184 (by simp) ?_
  repeat' ((first|(apply AWP.go ok;rfl)|(apply z35;kernel_rfl)|(apply And.intro;first|omega|(unfold inI;omega)|(dsimp only;omega)|((try dsimp only);simp only [List.length_map, List.length_take, List.length_append, List.length_replicate, List.length_cons, List.length_nil];omega)|exact z6 (fun _ => rfl)|exact ⟨rfl, z13 rfl z19⟩|exact ⟨rfl, z6 (fun _ => rfl) _⟩|exact ⟨⟨rfl, by omega⟩, z6 (fun _ => rfl) _⟩|(unfold z30;omega)|(simp only [z49] at *;first|omega|(unfold inI;omega)|(unfold z30;omega)))|((first|(with_reducible apply z9;omega)|(with_reducible apply z20;omega)|(apply z9;omega));intro _)|(apply z21;omega)|apply z28|(apply z27;omega;intro _)|((first|apply z26|apply z18|apply z25|apply z36|apply z16|apply z11|apply z17|apply z24) <;> intro _)) <;> conv => whnf)
  refine z116 (fun k : Nat => ([(0, lst 3 Tree.cs' l), (1, .fn (.func f) [] []), (7, .int l.length), (8, .int k)], [])) (fun k => k ≤ l.length ∧ ∀ j (hj : j < l.length), j < k → p l[j] = false) (fun k => l.length - k) 0 (by simp)
    ⟨[], rfl, by decide, rfl, ⟨⟨rfl, rfl⟩, ⟨rfl, rfl⟩, ⟨rfl, rfl⟩, ⟨rfl, rfl⟩, trivial⟩, trivial⟩ ?_
  intro k hk
  repeat' ((first|(apply AWP.go ok;rfl)|(apply z35;kernel_rfl)|(apply And.intro;first|omega|(unfold inI;omega)|(dsimp only;omega)|((try dsimp only);simp only [List.length_map, List.length_take, List.length_append, List.length_replicate, List.length_cons, List.length_nil];omega)|exact z6 (fun _ => rfl)|exact ⟨rfl, z13 rfl z19⟩|exact ⟨rfl, z6 (fun _ => rfl) _⟩|exact ⟨⟨rfl, by omega⟩, z6 (fun _ => rfl) _⟩|(unfold z30;omega)|(simp only [z49] at *;first|omega|(unfold inI;omega)|(unfold z30;omega)))|((first|(with_reducible apply z9;omega)|(with_reducible apply z20;omega)|(apply z9;omega));intro _)|(apply z21;omega)|apply z28|(apply z27;omega;intro _)|((first|apply z26|apply z18|apply z25|apply z36|apply z16|apply z11|apply z17|apply z24) <;> intro _)|(apply z48 (hf l[k] (List.getElem_mem _));rfl;rfl)) <;> conv => whnf)
  · rename_i h h1
    exact z87 rfl rfl (by rw [z200 (by omega) h1 hk.2];rfl)
  · rename_i h h1
    refine z105 (k + 1) [] ⟨by omega, fun j hj hjk => ?_⟩ (by omega) ⟨rfl, by decide, rfl, ⟨⟨rfl, rfl⟩, ⟨rfl, rfl⟩, ⟨rfl, rfl⟩, ⟨rfl, rfl⟩, trivial⟩, trivial⟩
    rcases Nat.lt_or_ge j k with h2|h2
    · exact hk.2 j hj h2
    · obtain rfl : j = k := by omega
      exact h1
  · exact z87 rfl rfl (by rw [z201 fun j hj => hk.2 j hj (by omega)];rfl)
theorem z301 (l : List Tree) (hl : l.length ≤ maxLen) (p : Tree → Bool) (f : FuncId) (hf : ∀ x ∈ l, CallsA Tryz.prog f [z88 Tree.cs' x] [] (.bool (p x)) []) : CallsA Tryz.prog 123 [lst 3 Tree.cs' l, .fn (.func f) [] []] [] (.bool (l.any p)) [] := by
  refine z58 z82 Tryz.func123 rfl rfl 9 Tryz.ntmps123 (by simp) ?_
  repeat' ((first|(apply AWP.go ok;rfl)|(apply z35;kernel_rfl)|(apply And.intro;first|omega|(unfold inI;omega)|(dsimp only;omega)|((try dsimp only);simp only [List.length_map, List.length_take, List.length_append, List.length_replicate, List.length_cons, List.length_nil];omega)|exact z6 (fun _ => rfl)|exact ⟨rfl, z13 rfl z19⟩|exact ⟨rfl, z6 (fun _ => rfl) _⟩|exact ⟨⟨rfl, by omega⟩, z6 (fun _ => rfl) _⟩|(unfold z30;omega)|(simp only [z49] at *;first|omega|(unfold inI;omega)|(unfold z30;omega)))|((first|(with_reducible apply z9;omega)|(with_reducible apply z20;omega)|(apply z9;omega));intro _)|(apply z21;omega)|apply z28|(apply z27;omega;intro _)|((first|apply z26|apply z18|apply z25|apply z36|apply z16|apply z11|apply z17|apply z24) <;> intro _)|(apply z48 (z392 l hl p f hf);rfl;rfl)) <;> conv => whnf)
  exact z81 rfl (by rw [← z181])
theorem z363 (c : Int) (l : List (List Int)) (hl : l.length ≤ maxLen) (p : (List Int) → Bool) (f : FuncId) (hf : ∀ x ∈ l, CallsA Tryz.prog f [ints x, .pt [.int c]] [] (.bool (p x)) []) : CallsA Tryz.prog 183 [lst 1 encL l, .fn (.func f) [] [.pt [.int c]]] [] (.int (idxF p l)) [] := by
  unfold maxLen at hl
  refine z58 z82 Tryz.func183 rfl rfl 19 Tryz.ntmps183 (by simp) ?_
  repeat' ((first|(apply AWP.go ok;rfl)|(apply z35;kernel_rfl)|(apply And.intro;first|omega|(unfold inI;omega)|(dsimp only;omega)|((try dsimp only);simp only [List.length_map, List.length_take, List.length_append, List.length_replicate, List.length_cons, List.length_nil];omega)|exact z6 (fun _ => rfl)|exact ⟨rfl, z13 rfl z19⟩|exact ⟨rfl, z6 (fun _ => rfl) _⟩|exact ⟨⟨rfl, by omega⟩, z6 (fun _ => rfl) _⟩|(unfold z30;omega)|(simp only [z49] at *;first|omega|(unfold inI;omega)|(unfold z30;omega)))|((first|(with_reducible apply z9;omega)|(with_reducible apply z20;omega)|(apply z9;omega));intro _)|(apply z21;omega)|apply z28|(apply z27;omega;intro _)|((first|apply z26|apply z18|apply z25|apply z36|apply z16|apply z11|apply z17|apply z24) <;> intro _)) <;> conv => whnf)
  refine z116 (fun k : Nat => ([(0, lst 1 encL l), (1, .fn (.func f) [] [.pt [.int c]]), (7, .int l.length), (8, .int k)], [])) (fun k => k ≤ l.length ∧ ∀ j (hj : j < l.length), j < k → p l[j] = false) (fun k => l.length - k) 0 (by simp)
    ⟨[], rfl, by decide, rfl, ⟨⟨rfl, rfl⟩, ⟨rfl, rfl⟩, ⟨rfl, rfl⟩, ⟨rfl, rfl⟩, trivial⟩, trivial⟩ ?_
  intro k hk
  repeat' ((first|(apply AWP.go ok;rfl)|(apply z35;kernel_rfl)|(apply And.intro;first|omega|(unfold inI;omega)|(dsimp only;omega)|((try dsimp only);simp only [List.length_map, List.length_take, List.length_append, List.length_replicate, List.length_cons, List.length_nil];omega)|exact z6 (fun _ => rfl)|exact ⟨rfl, z13 rfl z19⟩|exact ⟨rfl, z6 (fun _ => rfl) _⟩|exact ⟨⟨rfl, by omega⟩, z6 (fun _ => rfl) _⟩|(unfold z30;omega)|(simp only [z49] at *;first|omega|(unfold inI;omega)|(unfold z30;omega)))|((first|(with_reducible apply z9;omega)|(with_reducible apply z20;omega)|(apply z9;omega));intro _)|(apply z21;omega)|apply z28|(apply z27;omega;intro _)|((first|apply z26|apply z18|apply z25|apply z36|apply z16|apply z11|apply z17|apply z24) <;> intro _)|(apply z48 (hf l[k] (List.getElem_mem _));rfl;rfl)) <;> conv => whnf)
  · rename_i h h1
    exact z87 rfl rfl (by rw [z200 (by omega) h1 hk.2];rfl)
  · rename_i h h1
    refine z105 (k + 1) [] ⟨by omega, fun j hj hjk => ?_⟩ (by omega) ⟨rfl, by decide, rfl, ⟨⟨rfl, rfl⟩, ⟨rfl, rfl⟩, ⟨rfl, rfl⟩, ⟨rfl, rfl⟩, trivial⟩, trivial⟩
    rcases Nat.lt_or_ge j k with h2|h2
    · exact hk.2 j hj h2
    · obtain rfl : j = k := by omega
      exact h1
  · exact z87 rfl rfl (by rw [z201 fun j hj => hk.2 j hj (by omega)];rfl)
theorem z282 (c : Int) (l : List (List Int)) (hl : l.length ≤ maxLen) (p : (List Int) → Bool) (f : FuncId) (hf : ∀ x ∈ l, CallsA Tryz.prog f [ints x, .pt [.int c]] [] (.bool (p x)) []) : CallsA Tryz.prog 120 [lst 1 encL l, .fn (.func f) [] [.pt [.int c]]] [] (.bool (l.any p)) [] := by
  refine z58 z82 Tryz.func120 rfl rfl 9 Tryz.ntmps120 (by simp) ?_
  repeat' ((first|(apply AWP.go ok;rfl)|(apply z35;kernel_rfl)|(apply And.intro;first|omega|(unfold inI;omega)|(dsimp only;omega)|((try dsimp only);simp only [List.length_map, List.length_take, List.length_append, List.length_replicate, List.length_cons, List.length_nil];omega)|exact z6 (fun _ => rfl)|exact ⟨rfl, z13 rfl z19⟩|exact ⟨rfl, z6 (fun _ => rfl) _⟩|exact ⟨⟨rfl, by omega⟩, z6 (fun _ => rfl) _⟩|(unfold z30;omega)|(simp only [z49] at *;first|omega|(unfold inI;omega)|(unfold z30;omega)))|((first|(with_reducible apply z9;omega)|(with_reducible apply z20;omega)|(apply z9;omega));intro _)|(apply z21;omega)|apply z28|(apply z27;omega;intro _)|((first|apply z26|apply z18|apply z25|apply z36|apply z16|apply z11|apply z17|apply z24) <;> intro _)|(apply z48 (z363 c l hl p f hf);rfl;rfl)) <;> conv => whnf)
  exact z81 rfl (by rw [← z181])
end Go.Proofs.YtppafngcahgagaaGreat

