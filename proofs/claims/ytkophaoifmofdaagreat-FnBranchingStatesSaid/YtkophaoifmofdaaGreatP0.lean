/- A part of the proofs over this program: Tab, T3, T4, T5, T6, T7, T8, T9, T10, T11, T12, T13. -/
import Derived.Test.YtkophaoifmofdaaGreatG0
import Derived.Test.YtkophaoifmofdaaGreatG1
import Derived.Test.YtkophaoifmofdaaGreatG2
import Derived.Test.YtkophaoifmofdaaGreatProg
import Derived.KernelRfl
set_option linter.all false
namespace Go.Proofs.YtkophaoifmofdaaGreat
open Go.Gl
def tabL : List (Nat × TyI) := [
  (3, ⟨.int .i64, 1, 8, .int .i64 0⟩),
  (43, ⟨.slice 3, 1, 24, .slice none 0 0⟩),
  (26, ⟨.struct #[{ name := "States", type := 23, offset := 0, embedded := false, tag := "", pkgPath := "", byteOffset := 0 }, { name := "Next", type := 24, offset := 1, embedded := false, tag := "", pkgPath := "", byteOffset := 24 }], 2, 48, .agg #[.slice none 0 0, .slice none 0 0]⟩),
  (30, ⟨.struct #[{ name := "Kind", type := 3, offset := 0, embedded := false, tag := "", pkgPath := "", byteOffset := 0 }, { name := "Atom", type := 3, offset := 1, embedded := false, tag := "", pkgPath := "", byteOffset := 8 }, { name := "Kids", type := 28, offset := 2, embedded := false, tag := "", pkgPath := "", byteOffset := 16 }], 3, 40, .agg #[.int .i64 0, .int .i64 0, .slice none 0 0]⟩),
  (88, ⟨.struct #[{ name := "Kind", type := 3, offset := 0, embedded := false, tag := "", pkgPath := "", byteOffset := 0 }, { name := "Value", type := 3, offset := 1, embedded := false, tag := "", pkgPath := "", byteOffset := 8 }, { name := "Kids", type := 27, offset := 2, embedded := false, tag := "", pkgPath := "", byteOffset := 16 }], 3, 40, .agg #[.int .i64 0, .int .i64 0, .slice none 0 0]⟩),
  (33, ⟨.slice 4, 1, 24, .slice none 0 0⟩),
  (24, ⟨.slice 43, 1, 24, .slice none 0 0⟩),
  (4, ⟨.bool, 1, 1, .bool false⟩),
  (23, ⟨.slice 96, 1, 24, .slice none 0 0⟩),
  (27, ⟨.slice 88, 1, 24, .slice none 0 0⟩),
  (96, ⟨.struct #[{ name := "Locs", type := 43, offset := 0, embedded := false, tag := "", pkgPath := "", byteOffset := 0 }, { name := "Vals", type := 43, offset := 1, embedded := false, tag := "", pkgPath := "", byteOffset := 24 }], 2, 48, .agg #[.slice none 0 0, .slice none 0 0]⟩),
  (28, ⟨.slice 30, 1, 24, .slice none 0 0⟩),
  (37, ⟨.slice 33, 1, 24, .slice none 0 0⟩),
  (139, ⟨.struct #[{ name := "From", type := 3, offset := 0, embedded := false, tag := "", pkgPath := "", byteOffset := 0 }, { name := "To", type := 3, offset := 1, embedded := false, tag := "", pkgPath := "", byteOffset := 8 }, { name := "Guard", type := 88, offset := 2, embedded := false, tag := "", pkgPath := "", byteOffset := 16 }, { name := "Var", type := 3, offset := 5, embedded := false, tag := "", pkgPath := "", byteOffset := 56 }, { name := "Value", type := 88, offset := 6, embedded := false, tag := "", pkgPath := "", byteOffset := 64 }, { name := "Sync", type := 3, offset := 9, embedded := false, tag := "", pkgPath := "", byteOffset := 104 }], 10, 112, .agg #[.int .i64 0, .int .i64 0, .int .i64 0, .int .i64 0, .slice none 0 0, .int .i64 0, .int .i64 0, .int .i64 0, .slice none 0 0, .int .i64 0]⟩),
  (99, ⟨.slice 137, 1, 24, .slice none 0 0⟩),
  (101, ⟨.struct #[{ name := "Init", type := 43, offset := 0, embedded := false, tag := "", pkgPath := "", byteOffset := 0 }, { name := "Processes", type := 99, offset := 1, embedded := false, tag := "", pkgPath := "", byteOffset := 24 }], 2, 48, .agg #[.slice none 0 0, .slice none 0 0]⟩),
  (22, ⟨.slice 5, 1, 24, .slice none 0 0⟩),
  (135, ⟨.slice 139, 1, 24, .slice none 0 0⟩),
  (137, ⟨.struct #[{ name := "Locations", type := 3, offset := 0, embedded := false, tag := "", pkgPath := "", byteOffset := 0 }, { name := "Edges", type := 135, offset := 1, embedded := false, tag := "", pkgPath := "", byteOffset := 8 }], 2, 32, .agg #[.int .i64 0, .slice none 0 0]⟩),
  (175, ⟨.int .u64, 1, 8, .int .u64 0⟩),
  (129, ⟨.slice 133, 1, 24, .slice none 0 0⟩),
  (86, ⟨.struct #[{ name := "b", type := 22, offset := 0, embedded := false, tag := "", pkgPath := "loop.example/ltlcheck/spec", byteOffset := 0 }, { name := "p", type := 3, offset := 1, embedded := false, tag := "", pkgPath := "loop.example/ltlcheck/spec", byteOffset := 24 }], 2, 32, .agg #[.slice none 0 0, .int .i64 0]⟩),
  (45, ⟨.struct #[{ name := "Stem", type := 43, offset := 0, embedded := false, tag := "", pkgPath := "", byteOffset := 0 }, { name := "Loop", type := 43, offset := 1, embedded := false, tag := "", pkgPath := "", byteOffset := 24 }], 2, 48, .agg #[.slice none 0 0, .slice none 0 0]⟩),
  (5, ⟨.int .u8, 1, 1, .int .u8 0⟩),
  (133, ⟨.struct #[{ name := "Process", type := 3, offset := 0, embedded := false, tag := "", pkgPath := "", byteOffset := 0 }, { name := "Edge", type := 3, offset := 1, embedded := false, tag := "", pkgPath := "", byteOffset := 8 }, { name := "Partner", type := 3, offset := 2, embedded := false, tag := "", pkgPath := "", byteOffset := 16 }, { name := "PartnerEdge", type := 3, offset := 3, embedded := false, tag := "", pkgPath := "", byteOffset := 24 }], 4, 32, .agg #[.int .i64 0, .int .i64 0, .int .i64 0, .int .i64 0]⟩),
  (147, ⟨.int .u64, 1, 8, .int .u64 0⟩),
  (172, ⟨.int .u64, 1, 8, .int .u64 0⟩),
  (110, ⟨.pointer 3, 1, 8, .pointer none⟩),
  (170, ⟨.int .u32, 1, 4, .int .u32 0⟩),
  (162, ⟨.int .i64, 1, 8, .int .i64 0⟩),
  (9, ⟨.string, 1, 16, .string ⟨#[]⟩⟩)]
def tab : Tab := z457 tabL
theorem inf3 : (Tryz.prog.info? 3).map (fun j => (j.zero, j.size, j.bytes)) = some (some (.int .i64 0), 1, 8) := by kernel_rfl
theorem inf43 : (Tryz.prog.info? 43).map (fun j => (j.zero, j.size, j.bytes)) = some (some (.slice none 0 0), 1, 24) := by kernel_rfl
theorem inf26 : (Tryz.prog.info? 26).map (fun j => (j.zero, j.size, j.bytes)) = some (some (.agg #[.slice none 0 0, .slice none 0 0]), 2, 48) := by kernel_rfl
theorem inf30 : (Tryz.prog.info? 30).map (fun j => (j.zero, j.size, j.bytes)) = some (some (.agg #[.int .i64 0, .int .i64 0, .slice none 0 0]), 3, 40) := by kernel_rfl
theorem inf88 : (Tryz.prog.info? 88).map (fun j => (j.zero, j.size, j.bytes)) = some (some (.agg #[.int .i64 0, .int .i64 0, .slice none 0 0]), 3, 40) := by kernel_rfl
theorem inf33 : (Tryz.prog.info? 33).map (fun j => (j.zero, j.size, j.bytes)) = some (some (.slice none 0 0), 1, 24) := by kernel_rfl
theorem inf24 : (Tryz.prog.info? 24).map (fun j => (j.zero, j.size, j.bytes)) = some (some (.slice none 0 0), 1, 24) := by kernel_rfl
theorem inf4 : (Tryz.prog.info? 4).map (fun j => (j.zero, j.size, j.bytes)) = some (some (.bool false), 1, 1) := by kernel_rfl
theorem inf23 : (Tryz.prog.info? 23).map (fun j => (j.zero, j.size, j.bytes)) = some (some (.slice none 0 0), 1, 24) := by kernel_rfl
theorem inf27 : (Tryz.prog.info? 27).map (fun j => (j.zero, j.size, j.bytes)) = some (some (.slice none 0 0), 1, 24) := by kernel_rfl
theorem inf96 : (Tryz.prog.info? 96).map (fun j => (j.zero, j.size, j.bytes)) = some (some (.agg #[.slice none 0 0, .slice none 0 0]), 2, 48) := by kernel_rfl
theorem inf28 : (Tryz.prog.info? 28).map (fun j => (j.zero, j.size, j.bytes)) = some (some (.slice none 0 0), 1, 24) := by kernel_rfl
theorem inf37 : (Tryz.prog.info? 37).map (fun j => (j.zero, j.size, j.bytes)) = some (some (.slice none 0 0), 1, 24) := by kernel_rfl
theorem inf139 : (Tryz.prog.info? 139).map (fun j => (j.zero, j.size, j.bytes)) = some (some (.agg #[.int .i64 0, .int .i64 0, .int .i64 0, .int .i64 0, .slice none 0 0, .int .i64 0, .int .i64 0, .int .i64 0, .slice none 0 0, .int .i64 0]), 10, 112) := by kernel_rfl
theorem inf99 : (Tryz.prog.info? 99).map (fun j => (j.zero, j.size, j.bytes)) = some (some (.slice none 0 0), 1, 24) := by kernel_rfl
theorem inf101 : (Tryz.prog.info? 101).map (fun j => (j.zero, j.size, j.bytes)) = some (some (.agg #[.slice none 0 0, .slice none 0 0]), 2, 48) := by kernel_rfl
theorem inf22 : (Tryz.prog.info? 22).map (fun j => (j.zero, j.size, j.bytes)) = some (some (.slice none 0 0), 1, 24) := by kernel_rfl
theorem inf135 : (Tryz.prog.info? 135).map (fun j => (j.zero, j.size, j.bytes)) = some (some (.slice none 0 0), 1, 24) := by kernel_rfl
theorem inf137 : (Tryz.prog.info? 137).map (fun j => (j.zero, j.size, j.bytes)) = some (some (.agg #[.int .i64 0, .slice none 0 0]), 2, 32) := by kernel_rfl
theorem inf175 : (Tryz.prog.info? 175).map (fun j => (j.zero, j.size, j.bytes)) = some (some (.int .u64 0), 1, 8) := by kernel_rfl
theorem inf129 : (Tryz.prog.info? 129).map (fun j => (j.zero, j.size, j.bytes)) = some (some (.slice none 0 0), 1, 24) := by kernel_rfl
theorem inf86 : (Tryz.prog.info? 86).map (fun j => (j.zero, j.size, j.bytes)) = some (some (.agg #[.slice none 0 0, .int .i64 0]), 2, 32) := by kernel_rfl
theorem inf45 : (Tryz.prog.info? 45).map (fun j => (j.zero, j.size, j.bytes)) = some (some (.agg #[.slice none 0 0, .slice none 0 0]), 2, 48) := by kernel_rfl
theorem inf5 : (Tryz.prog.info? 5).map (fun j => (j.zero, j.size, j.bytes)) = some (some (.int .u8 0), 1, 1) := by kernel_rfl
theorem inf133 : (Tryz.prog.info? 133).map (fun j => (j.zero, j.size, j.bytes)) = some (some (.agg #[.int .i64 0, .int .i64 0, .int .i64 0, .int .i64 0]), 4, 32) := by kernel_rfl
theorem inf147 : (Tryz.prog.info? 147).map (fun j => (j.zero, j.size, j.bytes)) = some (some (.int .u64 0), 1, 8) := by kernel_rfl
theorem inf172 : (Tryz.prog.info? 172).map (fun j => (j.zero, j.size, j.bytes)) = some (some (.int .u64 0), 1, 8) := by kernel_rfl
theorem inf110 : (Tryz.prog.info? 110).map (fun j => (j.zero, j.size, j.bytes)) = some (some (.pointer none), 1, 8) := by kernel_rfl
theorem inf170 : (Tryz.prog.info? 170).map (fun j => (j.zero, j.size, j.bytes)) = some (some (.int .u32 0), 1, 4) := by kernel_rfl
theorem inf162 : (Tryz.prog.info? 162).map (fun j => (j.zero, j.size, j.bytes)) = some (some (.int .i64 0), 1, 8) := by kernel_rfl
theorem inf9 : (Tryz.prog.info? 9).map (fun j => (j.zero, j.size, j.bytes)) = some (some (.string ⟨#[]⟩), 1, 16) := by kernel_rfl
theorem z81 : z132 Tryz.prog tab := tabOk_of (⟨z105 Tryz.underlying3 inf3, ⟨z105 Tryz.underlying43 inf43, ⟨z105 Tryz.underlying26 inf26, ⟨z105 Tryz.underlying30 inf30, ⟨z105 Tryz.underlying88 inf88, ⟨z105 Tryz.underlying33 inf33, ⟨z105 Tryz.underlying24 inf24, ⟨z105 Tryz.underlying4 inf4, ⟨z105 Tryz.underlying23 inf23, ⟨z105 Tryz.underlying27 inf27, ⟨z105 Tryz.underlying96 inf96, ⟨z105 Tryz.underlying28 inf28, ⟨z105 Tryz.underlying37 inf37, ⟨z105 Tryz.underlying139 inf139, ⟨z105 Tryz.underlying99 inf99, ⟨z105 Tryz.underlying101 inf101, ⟨z105 Tryz.underlying22 inf22, ⟨z105 Tryz.underlying135 inf135, ⟨z105 Tryz.underlying137 inf137, ⟨z105 Tryz.underlying175 inf175, ⟨z105 Tryz.underlying129 inf129, ⟨z105 Tryz.underlying86 inf86, ⟨z105 Tryz.underlying45 inf45, ⟨z105 Tryz.underlying5 inf5, ⟨z105 Tryz.underlying133 inf133, ⟨z105 Tryz.underlying147 inf147, ⟨z105 Tryz.underlying172 inf172, ⟨z105 Tryz.underlying110 inf110, ⟨z105 Tryz.underlying170 inf170, ⟨z105 Tryz.underlying162 inf162, ⟨z105 Tryz.underlying9 inf9, trivial⟩⟩⟩⟩⟩⟩⟩⟩⟩⟩⟩⟩⟩⟩⟩⟩⟩⟩⟩⟩⟩⟩⟩⟩⟩⟩⟩⟩⟩⟩⟩)
end Go.Proofs.YtkophaoifmofdaaGreat

namespace Go.Proofs.YtkophaoifmofdaaGreat
open Go.Gl
attribute [local irreducible] z84
def enI (n : Int) : List AC := [.int n]
def ints (l : List Int) : AC := .list 1 l.length (l.map enI)
theorem ok : Ok Tryz.prog tab := ⟨z81, by kernel_rfl⟩
structure State where
  a : List Int
  b : List Int
  deriving DecidableEq
def State.cs (s : State) : List AC := [ints s.a, ints s.b]
def State.mx (s : State) : Prop := s.a.length ≤ maxLen ∧ s.b.length ≤ maxLen
def State.sz (s : State) : Nat := s.a.length + s.b.length
def lst {α : Type} (w : Nat) (e : α → List AC) (l : List α) : AC := .list w l.length (l.map e)
def tot {α : Type} (f : α → Nat) (l : List α) : Nat := l.length + (l.map f).sum
def State.mxs (l : List State) : Prop := l.length ≤ maxLen ∧ ∀ s ∈ l, s.mx
def State.small (s : State) : Prop := s.a.length ≤ 1048576 ∧ s.b.length ≤ 1048576
theorem State.unown (s : State) : ∀ x ∈ s.cs, x.unown = x := fun x hx => by
  simp only [State.cs, List.mem_cons, List.not_mem_nil, or_false] at hx
  rcases hx with rfl | rfl <;> rfl
end Go.Proofs.YtkophaoifmofdaaGreat

namespace Go.Proofs.YtkophaoifmofdaaGreat
open Go.Gl
attribute [local irreducible] z84
end Go.Proofs.YtkophaoifmofdaaGreat

namespace Go.Proofs.YtkophaoifmofdaaGreat
open Go.Gl
attribute [local irreducible] z84
def z87 {α : Type} (e : α → List AC) (a : α) : AC := .agg (e a)
end Go.Proofs.YtkophaoifmofdaaGreat

namespace Go.Proofs.YtkophaoifmofdaaGreat
open Go.Gl
attribute [local irreducible] z84
theorem Tree.unown (t : Tree) : ∀ x ∈ Tree.cs' t, x.unown = x := fun x hx => by
  simp only [Tree.cs', List.mem_cons, List.not_mem_nil, or_false] at hx
  rcases hx with rfl | rfl | rfl <;> rfl
end Go.Proofs.YtkophaoifmofdaaGreat

namespace Go.Proofs.YtkophaoifmofdaaGreat
open Go.Gl
attribute [local irreducible] z84
def encL (l : List Int) : List AC := [ints l]
end Go.Proofs.YtkophaoifmofdaaGreat

namespace Go.Proofs.YtkophaoifmofdaaGreat
open Go.Gl
attribute [local irreducible] z84
structure Graph where
  st : List State
  nx : List (List Int)
  deriving DecidableEq
def Graph.a1 (g : Graph) : AC := lst 2 State.cs g.st
def Graph.a2 (g : Graph) : AC := lst 1 encL g.nx
def Graph.cs (g : Graph) : List AC := [lst 2 State.cs g.st, lst 1 encL g.nx]
def Graph.s1 (g : Graph) : Nat := tot State.sz g.st
def Graph.s2 (g : Graph) : Nat := tot List.length g.nx
end Go.Proofs.YtkophaoifmofdaaGreat

namespace Go.Proofs.YtkophaoifmofdaaGreat
open Go.Gl
attribute [local irreducible] z84
def enB (b : Bool) : List AC := [.bool b]
structure Trans where
  src : Int
  care : Int
  val : Int
  dst : Int
  deriving DecidableEq
def Trans.cs (t : Trans) : List AC := [.int t.src, .int t.care, .int t.val, .int t.dst]
theorem Trans.unown (t : Trans) : ∀ x ∈ t.cs, x.unown = x := fun x hx => by
  simp only [Trans.cs, List.mem_cons, List.not_mem_nil, or_false] at hx
  rcases hx with rfl | rfl | rfl | rfl <;> rfl
structure Aut where
  ini : List Int
  acc : List Bool
  ed : List Trans
  deriving DecidableEq
def Aut.a1 (a : Aut) : AC := lst 1 enI a.ini
def Aut.a2 (a : Aut) : AC := lst 1 enB a.acc
def Aut.a3 (a : Aut) : AC := lst 4 Trans.cs a.ed
def Aut.cs (a : Aut) : List AC := [lst 1 enI a.ini, lst 1 enB a.acc, lst 4 Trans.cs a.ed]
def Aut.s1 (a : Aut) : Nat := a.ini.length
def Aut.s2 (a : Aut) : Nat := a.acc.length
def Aut.s3 (a : Aut) : Nat := a.ed.length
structure Cert where
  ranks : List Int
  deriving DecidableEq
def Cert.a1 (a : Cert) : AC := lst 1 enI a.ranks
def Cert.cs (a : Cert) : List AC := [lst 1 enI a.ranks]
def Cert.s1 (a : Cert) : Nat := a.ranks.length
end Go.Proofs.YtkophaoifmofdaaGreat

namespace Go.Proofs.YtkophaoifmofdaaGreat
open Go.Gl
attribute [local irreducible] z84 AWP z97 z107 z101
def btw (n lo hi : Int) : Bool := decide (lo ≤ n) && decide (n ≤ hi)
theorem z47 {n lo hi : Int} : btw n lo hi = true ↔ lo ≤ n ∧ n ≤ hi := by simp [btw]
theorem z362 {n lo hi : Int} : btw n lo hi = false ↔ ¬(lo ≤ n ∧ n ≤ hi) := by rw [← z47]; simp
theorem z386 (n lo hi : Int) : CallsA Tryz.prog 47 [.int n, .int lo, .int hi] [] (.bool (btw n lo hi)) [] := by
  refine z58 z81 Tryz.func47 rfl rfl 15 Tryz.ntmps47 (by simp) ?_
  repeat' (first | (apply AWP.go ok; rfl; conv => whnf) | (apply z34; kernel_rfl; conv => whnf) | (apply And.intro; (first | omega | (unfold inI; omega) | (dsimp only; omega) | (unfold z29; omega) | ((try dsimp only); simp only [List.length_map, List.length_take, List.length_append, List.length_replicate, List.length_cons, List.length_nil]; omega) | (simp only [z47] at *; first | omega | (unfold inI; omega) | (unfold z29; omega)) | exact z6 (fun _ => rfl) | exact ⟨rfl, z12 rfl z18⟩ | exact ⟨rfl, z6 (fun _ => rfl) _⟩ | exact ⟨⟨rfl, by omega⟩, z6 (fun _ => rfl) _⟩); conv => whnf) | (with_reducible apply z8; omega; intro _; conv => whnf) | (with_reducible apply z19; omega; intro _; conv => whnf) | (apply z8; omega; intro _; conv => whnf) | (apply z20; omega; conv => whnf) | (apply z27; conv => whnf) | (apply z26; omega; intro _; conv => whnf) | (apply z25 <;> intro _ <;> conv => whnf) | (apply z17 <;> intro _ <;> conv => whnf) | (apply z24 <;> intro _ <;> conv => whnf) | (apply z35 <;> intro _ <;> conv => whnf) | (apply z15 <;> intro _ <;> conv => whnf) | (apply z10 <;> intro _ <;> conv => whnf) | (apply z16 <;> intro _ <;> conv => whnf) | (apply z23 <;> intro _ <;> conv => whnf))
  all_goals (refine z80 rfl ?_; first | rfl | (unfold btw; simp [*]; done) | (unfold btw; simp_all; done) | (unfold btw; simp_all; omega))
end Go.Proofs.YtkophaoifmofdaaGreat

namespace Go.Proofs.YtkophaoifmofdaaGreat
open Go.Gl
attribute [local irreducible] z84 AWP z97 z107 z101
def idxF {α : Type} (p : α → Bool) (l : List α) : Int := match l.findIdx? p with
  | some i => i
  | none => -1
theorem z194 {α : Type} {p : α → Bool} {l : List α} {i : Nat} (hi : i < l.length) (h : p l[i] = true) (hn : ∀ j (hj : j < l.length), j < i → p l[j] = false) : idxF p l = i := by
  have : l.findIdx? p = some i := List.findIdx?_eq_some_iff_getElem.2 ⟨hi, h, fun j hj => by simp [hn j (by omega) hj]⟩
  simp [idxF, this]
theorem z195 {α : Type} {p : α → Bool} {l : List α} (hn : ∀ j (hj : j < l.length), p l[j] = false) : idxF p l = -1 := by
  have : l.findIdx? p = none := List.findIdx?_eq_none_iff.2 fun x hx => by
    obtain ⟨i, hi, rfl⟩ := List.mem_iff_getElem.1 hx
    exact hn i hi
  simp [idxF, this]
theorem z243 {α : Type} (p : α → Bool) (l : List α) : decide (0 ≤ idxF p l) = l.any p := by
  unfold idxF
  split
  · rename_i i e
    obtain ⟨h, hp, _⟩ := List.findIdx?_eq_some_iff_getElem.1 e
    have : l.any p = true := List.any_eq_true.2 ⟨_, List.getElem_mem h, hp⟩
    rw [this]
    simp
  · rename_i e
    have := List.findIdx?_eq_none_iff.1 e
    have : l.any p = false := List.any_eq_false.2 fun x hx => by simp [this x hx]
    rw [this]
    simp
theorem z430 (l : List Int) (hl : l.length ≤ maxLen) (p : Int → Bool) (f : FuncId) (hf : ∀ x ∈ l, CallsA Tryz.prog f [.int x] [] (.bool (p x)) []) : CallsA Tryz.prog 53 [lst 1 enI l, .fn (.func f) [] []] [] (.int (idxF p l)) [] := by
  unfold maxLen at hl
  refine z58 z81 Tryz.func53 rfl rfl 19 Tryz.ntmps53 (by simp) ?_
  repeat' (first | (apply AWP.go ok; rfl; conv => whnf) | (apply z34; kernel_rfl; conv => whnf) | (apply And.intro; (first | omega | (unfold inI; omega) | (dsimp only; omega) | (unfold z29; omega) | ((try dsimp only); simp only [List.length_map, List.length_take, List.length_append, List.length_replicate, List.length_cons, List.length_nil]; omega) | (simp only [z47] at *; first | omega | (unfold inI; omega) | (unfold z29; omega)) | exact z6 (fun _ => rfl) | exact ⟨rfl, z12 rfl z18⟩ | exact ⟨rfl, z6 (fun _ => rfl) _⟩ | exact ⟨⟨rfl, by omega⟩, z6 (fun _ => rfl) _⟩); conv => whnf) | (with_reducible apply z8; omega; intro _; conv => whnf) | (with_reducible apply z19; omega; intro _; conv => whnf) | (apply z8; omega; intro _; conv => whnf) | (apply z20; omega; conv => whnf) | (apply z27; conv => whnf) | (apply z26; omega; intro _; conv => whnf) | (apply z25 <;> intro _ <;> conv => whnf) | (apply z17 <;> intro _ <;> conv => whnf) | (apply z24 <;> intro _ <;> conv => whnf) | (apply z35 <;> intro _ <;> conv => whnf) | (apply z15 <;> intro _ <;> conv => whnf) | (apply z10 <;> intro _ <;> conv => whnf) | (apply z16 <;> intro _ <;> conv => whnf) | (apply z23 <;> intro _ <;> conv => whnf))
  refine z115 (fun k : Nat => ([(0, lst 1 enI l), (1, .fn (.func f) [] []), (7, .int l.length), (8, .int k)], [])) (fun k => k ≤ l.length ∧ ∀ j (hj : j < l.length), j < k → p l[j] = false) (fun k => l.length - k) 0 (by simp)
    ⟨[], rfl, by decide, rfl, ⟨⟨rfl, rfl⟩, ⟨rfl, rfl⟩, ⟨rfl, rfl⟩, ⟨rfl, rfl⟩, trivial⟩, trivial⟩ ?_
  intro k hk
  repeat' (first | (apply AWP.go ok; rfl; conv => whnf) | (apply z34; kernel_rfl; conv => whnf) | (apply And.intro; (first | omega | (unfold inI; omega) | (dsimp only; omega) | (unfold z29; omega) | ((try dsimp only); simp only [List.length_map, List.length_take, List.length_append, List.length_replicate, List.length_cons, List.length_nil]; omega) | (simp only [z47] at *; first | omega | (unfold inI; omega) | (unfold z29; omega)) | exact z6 (fun _ => rfl) | exact ⟨rfl, z12 rfl z18⟩ | exact ⟨rfl, z6 (fun _ => rfl) _⟩ | exact ⟨⟨rfl, by omega⟩, z6 (fun _ => rfl) _⟩); conv => whnf) | (with_reducible apply z8; omega; intro _; conv => whnf) | (with_reducible apply z19; omega; intro _; conv => whnf) | (apply z8; omega; intro _; conv => whnf) | (apply z20; omega; conv => whnf) | (apply z27; conv => whnf) | (apply z26; omega; intro _; conv => whnf) | (apply z25 <;> intro _ <;> conv => whnf) | (apply z17 <;> intro _ <;> conv => whnf) | (apply z24 <;> intro _ <;> conv => whnf) | (apply z35 <;> intro _ <;> conv => whnf) | (apply z15 <;> intro _ <;> conv => whnf) | (apply z10 <;> intro _ <;> conv => whnf) | (apply z16 <;> intro _ <;> conv => whnf) | (apply z23 <;> intro _ <;> conv => whnf) | (apply z48 (hf l[k] (List.getElem_mem _)); rfl; rfl; conv => whnf))
  · rename_i h h1
    exact z86 rfl rfl (by rw [z194 (by omega) h1 hk.2]; rfl)
  · rename_i h h1
    refine z102 (k + 1) [] ⟨by omega, fun j hj hjk => ?_⟩ (by omega) ⟨rfl, by decide, rfl, ⟨⟨rfl, rfl⟩, ⟨rfl, rfl⟩, ⟨rfl, rfl⟩, ⟨rfl, rfl⟩, trivial⟩, trivial⟩
    rcases Nat.lt_or_ge j k with h2 | h2
    · exact hk.2 j hj h2
    · obtain rfl : j = k := by omega
      exact h1
  · exact z86 rfl rfl (by rw [z195 fun j hj => hk.2 j hj (by omega)]; rfl)
theorem z313 (l : List Int) (hl : l.length ≤ maxLen) (p : Int → Bool) (f : FuncId) (hf : ∀ x ∈ l, CallsA Tryz.prog f [.int x] [] (.bool (p x)) []) : CallsA Tryz.prog 107 [lst 1 enI l, .fn (.func f) [] []] [] (.bool (l.any p)) [] := by
  refine z58 z81 Tryz.func107 rfl rfl 9 Tryz.ntmps107 (by simp) ?_
  repeat' (first | (apply AWP.go ok; rfl; conv => whnf) | (apply z34; kernel_rfl; conv => whnf) | (apply And.intro; (first | omega | (unfold inI; omega) | (dsimp only; omega) | (unfold z29; omega) | ((try dsimp only); simp only [List.length_map, List.length_take, List.length_append, List.length_replicate, List.length_cons, List.length_nil]; omega) | (simp only [z47] at *; first | omega | (unfold inI; omega) | (unfold z29; omega)) | exact z6 (fun _ => rfl) | exact ⟨rfl, z12 rfl z18⟩ | exact ⟨rfl, z6 (fun _ => rfl) _⟩ | exact ⟨⟨rfl, by omega⟩, z6 (fun _ => rfl) _⟩); conv => whnf) | (with_reducible apply z8; omega; intro _; conv => whnf) | (with_reducible apply z19; omega; intro _; conv => whnf) | (apply z8; omega; intro _; conv => whnf) | (apply z20; omega; conv => whnf) | (apply z27; conv => whnf) | (apply z26; omega; intro _; conv => whnf) | (apply z25 <;> intro _ <;> conv => whnf) | (apply z17 <;> intro _ <;> conv => whnf) | (apply z24 <;> intro _ <;> conv => whnf) | (apply z35 <;> intro _ <;> conv => whnf) | (apply z15 <;> intro _ <;> conv => whnf) | (apply z10 <;> intro _ <;> conv => whnf) | (apply z16 <;> intro _ <;> conv => whnf) | (apply z23 <;> intro _ <;> conv => whnf) | (apply z48 (z430 l hl p f hf); rfl; rfl; conv => whnf))
  exact z80 rfl (by rw [← z243])
end Go.Proofs.YtkophaoifmofdaaGreat

namespace Go.Proofs.YtkophaoifmofdaaGreat
open Go.Gl
attribute [local irreducible] z84 AWP z97 z107 z101
theorem z606 (n : Int) : CallsA Tryz.prog 133 [.int n] [] (.bool (!btw n 0 3)) [] := by
  refine z58 z81 Tryz.func133 rfl rfl 6 Tryz.ntmps133 (by simp) ?_
  repeat' (first | (apply AWP.go ok; rfl; conv => whnf) | (apply z34; kernel_rfl; conv => whnf) | (apply And.intro; (first | omega | (unfold inI; omega) | (dsimp only; omega) | (unfold z29; omega) | ((try dsimp only); simp only [List.length_map, List.length_take, List.length_append, List.length_replicate, List.length_cons, List.length_nil]; omega) | (simp only [z47] at *; first | omega | (unfold inI; omega) | (unfold z29; omega)) | exact z6 (fun _ => rfl) | exact ⟨rfl, z12 rfl z18⟩ | exact ⟨rfl, z6 (fun _ => rfl) _⟩ | exact ⟨⟨rfl, by omega⟩, z6 (fun _ => rfl) _⟩); conv => whnf) | (with_reducible apply z8; omega; intro _; conv => whnf) | (with_reducible apply z19; omega; intro _; conv => whnf) | (apply z8; omega; intro _; conv => whnf) | (apply z20; omega; conv => whnf) | (apply z27; conv => whnf) | (apply z26; omega; intro _; conv => whnf) | (apply z25 <;> intro _ <;> conv => whnf) | (apply z17 <;> intro _ <;> conv => whnf) | (apply z24 <;> intro _ <;> conv => whnf) | (apply z35 <;> intro _ <;> conv => whnf) | (apply z15 <;> intro _ <;> conv => whnf) | (apply z10 <;> intro _ <;> conv => whnf) | (apply z16 <;> intro _ <;> conv => whnf) | (apply z23 <;> intro _ <;> conv => whnf) | (apply z48 (z386 n 0 3); rfl; rfl; conv => whnf))
  exact z80 rfl rfl
def z259 (l : List Int) : Bool := decide ((l.length : Int) = 3) && !(l.any fun n => !btw n 0 3)
theorem z660 (l : List Int) (hl : l.length ≤ maxLen) : CallsA Tryz.prog 78 [ints l] [] (.bool (z259 l)) [] := by
  have hl' := hl
  unfold maxLen at hl'
  have hk := z313 l hl (fun n => !btw n 0 3) 133 (fun x _ => z606 x)
  refine z58 z81 Tryz.func78 rfl rfl 11 Tryz.ntmps78 (by simp) ?_
  repeat' (first | (apply AWP.go ok; rfl; conv => whnf) | (apply z34; kernel_rfl; conv => whnf) | (apply And.intro; (first | omega | (unfold inI; omega) | (dsimp only; omega) | (unfold z29; omega) | ((try dsimp only); simp only [List.length_map, List.length_take, List.length_append, List.length_replicate, List.length_cons, List.length_nil]; omega) | (simp only [z47] at *; first | omega | (unfold inI; omega) | (unfold z29; omega)) | exact z6 (fun _ => rfl) | exact ⟨rfl, z12 rfl z18⟩ | exact ⟨rfl, z6 (fun _ => rfl) _⟩ | exact ⟨⟨rfl, by omega⟩, z6 (fun _ => rfl) _⟩); conv => whnf) | (with_reducible apply z8; omega; intro _; conv => whnf) | (with_reducible apply z19; omega; intro _; conv => whnf) | (apply z8; omega; intro _; conv => whnf) | (apply z20; omega; conv => whnf) | (apply z27; conv => whnf) | (apply z26; omega; intro _; conv => whnf) | (apply z25 <;> intro _ <;> conv => whnf) | (apply z17 <;> intro _ <;> conv => whnf) | (apply z24 <;> intro _ <;> conv => whnf) | (apply z35 <;> intro _ <;> conv => whnf) | (apply z15 <;> intro _ <;> conv => whnf) | (apply z10 <;> intro _ <;> conv => whnf) | (apply z16 <;> intro _ <;> conv => whnf) | (apply z23 <;> intro _ <;> conv => whnf) | (apply z48 (hk); rfl; rfl; conv => whnf))
  all_goals (refine z80 rfl ?_; first | rfl | (unfold z259; simp [*]; done) | (unfold z259; simp_all; done) | (unfold z259; simp_all; omega))
end Go.Proofs.YtkophaoifmofdaaGreat

namespace Go.Proofs.YtkophaoifmofdaaGreat
open Go.Gl
attribute [local irreducible] z84 z578 z329
theorem z357 (l : List State) (hl : l.length ≤ maxLen) (p : State → Bool) (f : FuncId) (hf : ∀ x ∈ l, CallsA Tryz.prog f [z87 State.cs x] [] (.bool (p x)) []) : CallsA Tryz.prog 132 [lst 2 State.cs l, .fn (.func f) [] []] [] (.int (idxF p l)) [] := by
  unfold maxLen at hl
  refine z58 z81 Tryz.func132 rfl rfl 19 Tryz.ntmps132 (by simp) ?_
  repeat' ((first | (apply AWP.go ok; rfl) | (apply z34; kernel_rfl) | (apply And.intro; first | omega | (unfold inI; omega) | (dsimp only; omega) | ((try dsimp only); simp only [List.length_map, List.length_take, List.length_append, List.length_replicate, List.length_cons, List.length_nil]; omega) | exact z6 (fun _ => rfl) | exact ⟨rfl, z12 rfl z18⟩ | exact ⟨rfl, z6 (fun _ => rfl) _⟩ | exact ⟨⟨rfl, by omega⟩, z6 (fun _ => rfl) _⟩ | (unfold z29; omega) | (simp only [z47] at *; first | omega | (unfold inI; omega) | (unfold z29; omega))) | ((first | (with_reducible apply z8; omega) | (with_reducible apply z19; omega) | (apply z8; omega)); intro _) | (apply z20; omega) | apply z27 | (apply z26; omega; intro _) | ((first | apply z25 | apply z17 | apply z24 | apply z35 | apply z15 | apply z10 | apply z16 | apply z23) <;> intro _)) <;> conv => whnf)
  refine z115 (fun k : Nat => ([(0, lst 2 State.cs l), (1, .fn (.func f) [] []), (7, .int l.length), (8, .int k)], [])) (fun k => k ≤ l.length ∧ ∀ j (hj : j < l.length), j < k → p l[j] = false) (fun k => l.length - k) 0 (by simp)
    ⟨[], rfl, by decide, rfl, ⟨⟨rfl, rfl⟩, ⟨rfl, rfl⟩, ⟨rfl, rfl⟩, ⟨rfl, rfl⟩, trivial⟩, trivial⟩ ?_
  intro k hk
  repeat' ((first | (apply AWP.go ok; rfl) | (apply z34; kernel_rfl) | (apply And.intro; first | omega | (unfold inI; omega) | (dsimp only; omega) | ((try dsimp only); simp only [List.length_map, List.length_take, List.length_append, List.length_replicate, List.length_cons, List.length_nil]; omega) | exact z6 (fun _ => rfl) | exact ⟨rfl, z12 rfl z18⟩ | exact ⟨rfl, z6 (fun _ => rfl) _⟩ | exact ⟨⟨rfl, by omega⟩, z6 (fun _ => rfl) _⟩ | (unfold z29; omega) | (simp only [z47] at *; first | omega | (unfold inI; omega) | (unfold z29; omega))) | ((first | (with_reducible apply z8; omega) | (with_reducible apply z19; omega) | (apply z8; omega)); intro _) | (apply z20; omega) | apply z27 | (apply z26; omega; intro _) | ((first | apply z25 | apply z17 | apply z24 | apply z35 | apply z15 | apply z10 | apply z16 | apply z23) <;> intro _) | (apply z48 (hf l[k] (List.getElem_mem _)); rfl; rfl)) <;> conv => whnf)
  · rename_i h h1
    exact z86 rfl rfl (by rw [z194 (by omega) h1 hk.2]; rfl)
  · rename_i h h1
    refine z102 (k + 1) [] ⟨by omega, fun j hj hjk => ?_⟩ (by omega) ⟨rfl, by decide, rfl, ⟨⟨rfl, rfl⟩, ⟨rfl, rfl⟩, ⟨rfl, rfl⟩, ⟨rfl, rfl⟩, trivial⟩, trivial⟩
    rcases Nat.lt_or_ge j k with h2 | h2
    · exact hk.2 j hj h2
    · obtain rfl : j = k := by omega
      exact h1
  · exact z86 rfl rfl (by rw [z195 fun j hj => hk.2 j hj (by omega)]; rfl)
theorem z276 (l : List State) (hl : l.length ≤ maxLen) (p : State → Bool) (f : FuncId) (hf : ∀ x ∈ l, CallsA Tryz.prog f [z87 State.cs x] [] (.bool (p x)) []) : CallsA Tryz.prog 76 [lst 2 State.cs l, .fn (.func f) [] []] [] (.bool (l.any p)) [] := by
  refine z58 z81 Tryz.func76 rfl rfl 9 Tryz.ntmps76 (by simp) ?_
  repeat' ((first | (apply AWP.go ok; rfl) | (apply z34; kernel_rfl) | (apply And.intro; first | omega | (unfold inI; omega) | (dsimp only; omega) | ((try dsimp only); simp only [List.length_map, List.length_take, List.length_append, List.length_replicate, List.length_cons, List.length_nil]; omega) | exact z6 (fun _ => rfl) | exact ⟨rfl, z12 rfl z18⟩ | exact ⟨rfl, z6 (fun _ => rfl) _⟩ | exact ⟨⟨rfl, by omega⟩, z6 (fun _ => rfl) _⟩ | (unfold z29; omega) | (simp only [z47] at *; first | omega | (unfold inI; omega) | (unfold z29; omega))) | ((first | (with_reducible apply z8; omega) | (with_reducible apply z19; omega) | (apply z8; omega)); intro _) | (apply z20; omega) | apply z27 | (apply z26; omega; intro _) | ((first | apply z25 | apply z17 | apply z24 | apply z35 | apply z15 | apply z10 | apply z16 | apply z23) <;> intro _) | (apply z48 (z357 l hl p f hf); rfl; rfl)) <;> conv => whnf)
  exact z80 rfl (by rw [← z243])
theorem z385 (l : List Tree) (hl : l.length ≤ maxLen) (p : Tree → Bool) (f : FuncId) (hf : ∀ x ∈ l, CallsA Tryz.prog f [z87 Tree.cs' x] [] (.bool (p x)) []) : CallsA Tryz.prog 136 [lst 3 Tree.cs' l, .fn (.func f) [] []] [] (.int (idxF p l)) [] := by
  unfold maxLen at hl
  refine z58 z81 Tryz.func136 rfl rfl 19 Tryz.ntmps136 (by simp) ?_
  repeat' ((first | (apply AWP.go ok; rfl) | (apply z34; kernel_rfl) | (apply And.intro; first | omega | (unfold inI; omega) | (dsimp only; omega) | ((try dsimp only); simp only [List.length_map, List.length_take, List.length_append, List.length_replicate, List.length_cons, List.length_nil]; omega) | exact z6 (fun _ => rfl) | exact ⟨rfl, z12 rfl z18⟩ | exact ⟨rfl, z6 (fun _ => rfl) _⟩ | exact ⟨⟨rfl, by omega⟩, z6 (fun _ => rfl) _⟩ | (unfold z29; omega) | (simp only [z47] at *; first | omega | (unfold inI; omega) | (unfold z29; omega))) | ((first | (with_reducible apply z8; omega) | (with_reducible apply z19; omega) | (apply z8; omega)); intro _) | (apply z20; omega) | apply z27 | (apply z26; omega; intro _) | ((first | apply z25 | apply z17 | apply z24 | apply z35 | apply z15 | apply z10 | apply z16 | apply z23) <;> intro _)) <;> conv => whnf)
  refine z115 (fun k : Nat => ([(0, lst 3 Tree.cs' l), (1, .fn (.func f) [] []), (7, .int l.length), (8, .int k)], [])) (fun k => k ≤ l.length ∧ ∀ j (hj : j < l.length), j < k → p l[j] = false) (fun k => l.length - k) 0 (by simp)
    ⟨[], rfl, by decide, rfl, ⟨⟨rfl, rfl⟩, ⟨rfl, rfl⟩, ⟨rfl, rfl⟩, ⟨rfl, rfl⟩, trivial⟩, trivial⟩ ?_
  intro k hk
  repeat' ((first | (apply AWP.go ok; rfl) | (apply z34; kernel_rfl) | (apply And.intro; first | omega | (unfold inI; omega) | (dsimp only; omega) | ((try dsimp only); simp only [List.length_map, List.length_take, List.length_append, List.length_replicate, List.length_cons, List.length_nil]; omega) | exact z6 (fun _ => rfl) | exact ⟨rfl, z12 rfl z18⟩ | exact ⟨rfl, z6 (fun _ => rfl) _⟩ | exact ⟨⟨rfl, by omega⟩, z6 (fun _ => rfl) _⟩ | (unfold z29; omega) | (simp only [z47] at *; first | omega | (unfold inI; omega) | (unfold z29; omega))) | ((first | (with_reducible apply z8; omega) | (with_reducible apply z19; omega) | (apply z8; omega)); intro _) | (apply z20; omega) | apply z27 | (apply z26; omega; intro _) | ((first | apply z25 | apply z17 | apply z24 | apply z35 | apply z15 | apply z10 | apply z16 | apply z23) <;> intro _) | (apply z48 (hf l[k] (List.getElem_mem _)); rfl; rfl)) <;> conv => whnf)
  · rename_i h h1
    exact z86 rfl rfl (by rw [z194 (by omega) h1 hk.2]; rfl)
  · rename_i h h1
    refine z102 (k + 1) [] ⟨by omega, fun j hj hjk => ?_⟩ (by omega) ⟨rfl, by decide, rfl, ⟨⟨rfl, rfl⟩, ⟨rfl, rfl⟩, ⟨rfl, rfl⟩, ⟨rfl, rfl⟩, trivial⟩, trivial⟩
    rcases Nat.lt_or_ge j k with h2 | h2
    · exact hk.2 j hj h2
    · obtain rfl : j = k := by omega
      exact h1
  · exact z86 rfl rfl (by rw [z195 fun j hj => hk.2 j hj (by omega)]; rfl)
theorem z297 (l : List Tree) (hl : l.length ≤ maxLen) (p : Tree → Bool) (f : FuncId) (hf : ∀ x ∈ l, CallsA Tryz.prog f [z87 Tree.cs' x] [] (.bool (p x)) []) : CallsA Tryz.prog 82 [lst 3 Tree.cs' l, .fn (.func f) [] []] [] (.bool (l.any p)) [] := by
  refine z58 z81 Tryz.func82 rfl rfl 9 Tryz.ntmps82 (by simp) ?_
  repeat' ((first | (apply AWP.go ok; rfl) | (apply z34; kernel_rfl) | (apply And.intro; first | omega | (unfold inI; omega) | (dsimp only; omega) | ((try dsimp only); simp only [List.length_map, List.length_take, List.length_append, List.length_replicate, List.length_cons, List.length_nil]; omega) | exact z6 (fun _ => rfl) | exact ⟨rfl, z12 rfl z18⟩ | exact ⟨rfl, z6 (fun _ => rfl) _⟩ | exact ⟨⟨rfl, by omega⟩, z6 (fun _ => rfl) _⟩ | (unfold z29; omega) | (simp only [z47] at *; first | omega | (unfold inI; omega) | (unfold z29; omega))) | ((first | (with_reducible apply z8; omega) | (with_reducible apply z19; omega) | (apply z8; omega)); intro _) | (apply z20; omega) | apply z27 | (apply z26; omega; intro _) | ((first | apply z25 | apply z17 | apply z24 | apply z35 | apply z15 | apply z10 | apply z16 | apply z23) <;> intro _) | (apply z48 (z385 l hl p f hf); rfl; rfl)) <;> conv => whnf)
  exact z80 rfl (by rw [← z243])
theorem z358 (c : Int) (l : List (List Int)) (hl : l.length ≤ maxLen) (p : (List Int) → Bool) (f : FuncId) (hf : ∀ x ∈ l, CallsA Tryz.prog f [ints x, .pt [.int c]] [] (.bool (p x)) []) : CallsA Tryz.prog 134 [lst 1 encL l, .fn (.func f) [] [.pt [.int c]]] [] (.int (idxF p l)) [] := by
  unfold maxLen at hl
  refine z58 z81 Tryz.func134 rfl rfl 19 Tryz.ntmps134 (by simp) ?_
  repeat' ((first | (apply AWP.go ok; rfl) | (apply z34; kernel_rfl) | (apply And.intro; first | omega | (unfold inI; omega) | (dsimp only; omega) | ((try dsimp only); simp only [List.length_map, List.length_take, List.length_append, List.length_replicate, List.length_cons, List.length_nil]; omega) | exact z6 (fun _ => rfl) | exact ⟨rfl, z12 rfl z18⟩ | exact ⟨rfl, z6 (fun _ => rfl) _⟩ | exact ⟨⟨rfl, by omega⟩, z6 (fun _ => rfl) _⟩ | (unfold z29; omega) | (simp only [z47] at *; first | omega | (unfold inI; omega) | (unfold z29; omega))) | ((first | (with_reducible apply z8; omega) | (with_reducible apply z19; omega) | (apply z8; omega)); intro _) | (apply z20; omega) | apply z27 | (apply z26; omega; intro _) | ((first | apply z25 | apply z17 | apply z24 | apply z35 | apply z15 | apply z10 | apply z16 | apply z23) <;> intro _)) <;> conv => whnf)
  refine z115 (fun k : Nat => ([(0, lst 1 encL l), (1, .fn (.func f) [] [.pt [.int c]]), (7, .int l.length), (8, .int k)], [])) (fun k => k ≤ l.length ∧ ∀ j (hj : j < l.length), j < k → p l[j] = false) (fun k => l.length - k) 0 (by simp)
    ⟨[], rfl, by decide, rfl, ⟨⟨rfl, rfl⟩, ⟨rfl, rfl⟩, ⟨rfl, rfl⟩, ⟨rfl, rfl⟩, trivial⟩, trivial⟩ ?_
  intro k hk
  repeat' ((first | (apply AWP.go ok; rfl) | (apply z34; kernel_rfl) | (apply And.intro; first | omega | (unfold inI; omega) | (dsimp only; omega) | ((try dsimp only); simp only [List.length_map, List.length_take, List.length_append, List.length_replicate, List.length_cons, List.length_nil]; omega) | exact z6 (fun _ => rfl) | exact ⟨rfl, z12 rfl z18⟩ | exact ⟨rfl, z6 (fun _ => rfl) _⟩ | exact ⟨⟨rfl, by omega⟩, z6 (fun _ => rfl) _⟩ | (unfold z29; omega) | (simp only [z47] at *; first | omega | (unfold inI; omega) | (unfold z29; omega))) | ((first | (with_reducible apply z8; omega) | (with_reducible apply z19; omega) | (apply z8; omega)); intro _) | (apply z20; omega) | apply z27 | (apply z26; omega; intro _) | ((first | apply z25 | apply z17 | apply z24 | apply z35 | apply z15 | apply z10 | apply z16 | apply z23) <;> intro _) | (apply z48 (hf l[k] (List.getElem_mem _)); rfl; rfl)) <;> conv => whnf)
  · rename_i h h1
    exact z86 rfl rfl (by rw [z194 (by omega) h1 hk.2]; rfl)
  · rename_i h h1
    refine z102 (k + 1) [] ⟨by omega, fun j hj hjk => ?_⟩ (by omega) ⟨rfl, by decide, rfl, ⟨⟨rfl, rfl⟩, ⟨rfl, rfl⟩, ⟨rfl, rfl⟩, ⟨rfl, rfl⟩, trivial⟩, trivial⟩
    rcases Nat.lt_or_ge j k with h2 | h2
    · exact hk.2 j hj h2
    · obtain rfl : j = k := by omega
      exact h1
  · exact z86 rfl rfl (by rw [z195 fun j hj => hk.2 j hj (by omega)]; rfl)
theorem z277 (c : Int) (l : List (List Int)) (hl : l.length ≤ maxLen) (p : (List Int) → Bool) (f : FuncId) (hf : ∀ x ∈ l, CallsA Tryz.prog f [ints x, .pt [.int c]] [] (.bool (p x)) []) : CallsA Tryz.prog 79 [lst 1 encL l, .fn (.func f) [] [.pt [.int c]]] [] (.bool (l.any p)) [] := by
  refine z58 z81 Tryz.func79 rfl rfl 9 Tryz.ntmps79 (by simp) ?_
  repeat' ((first | (apply AWP.go ok; rfl) | (apply z34; kernel_rfl) | (apply And.intro; first | omega | (unfold inI; omega) | (dsimp only; omega) | ((try dsimp only); simp only [List.length_map, List.length_take, List.length_append, List.length_replicate, List.length_cons, List.length_nil]; omega) | exact z6 (fun _ => rfl) | exact ⟨rfl, z12 rfl z18⟩ | exact ⟨rfl, z6 (fun _ => rfl) _⟩ | exact ⟨⟨rfl, by omega⟩, z6 (fun _ => rfl) _⟩ | (unfold z29; omega) | (simp only [z47] at *; first | omega | (unfold inI; omega) | (unfold z29; omega))) | ((first | (with_reducible apply z8; omega) | (with_reducible apply z19; omega) | (apply z8; omega)); intro _) | (apply z20; omega) | apply z27 | (apply z26; omega; intro _) | ((first | apply z25 | apply z17 | apply z24 | apply z35 | apply z15 | apply z10 | apply z16 | apply z23) <;> intro _) | (apply z48 (z358 c l hl p f hf); rfl; rfl)) <;> conv => whnf)
  exact z80 rfl (by rw [← z243])
end Go.Proofs.YtkophaoifmofdaaGreat

