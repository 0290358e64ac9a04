/- A part of the proofs over this program: Tab, T3, T4, T5, T6, T7, T8, T9, T10, T11, T12, T13. -/
import Derived.Test.YtkophaoifmofdaaG0
import Derived.Test.YtkophaoifmofdaaG1
import Derived.Test.YtkophaoifmofdaaG2
import Derived.Test.YtkophaoifmofdaaProg
import Derived.KernelRfl
set_option linter.all false
/- The types of this translation, as the ghost logic asks for them. Written by a program. -/
namespace Go.Proofs.Ytkophaoifmofdaa
open Go.Gl
def tabL : List (Nat × TyI) := [
  (3, ⟨.int .i64, 1, 8, .int .i64 0⟩),
  (30, ⟨.slice 3, 1, 24, .slice none 0 0⟩),
  (69, ⟨.struct #[{ name := "Kind", type := 3, offset := 0, embedded := false, tag := "", pkgPath := "", byteOffset := 0 }, { name := "Value", type := 3, offset := 1, embedded := false, tag := "", pkgPath := "", byteOffset := 8 }, { name := "Kids", type := 27, offset := 2, embedded := false, tag := "", pkgPath := "", byteOffset := 16 }], 3, 40, .agg #[.int .i64 0, .int .i64 0, .slice none 0 0]⟩),
  (26, ⟨.struct #[{ name := "States", type := 23, offset := 0, embedded := false, tag := "", pkgPath := "", byteOffset := 0 }, { name := "Next", type := 24, offset := 1, embedded := false, tag := "", pkgPath := "", byteOffset := 24 }], 2, 48, .agg #[.slice none 0 0, .slice none 0 0]⟩),
  (23, ⟨.slice 37, 1, 24, .slice none 0 0⟩),
  (24, ⟨.slice 30, 1, 24, .slice none 0 0⟩),
  (37, ⟨.struct #[{ name := "Locs", type := 30, offset := 0, embedded := false, tag := "", pkgPath := "", byteOffset := 0 }, { name := "Vals", type := 30, offset := 1, embedded := false, tag := "", pkgPath := "", byteOffset := 24 }], 2, 48, .agg #[.slice none 0 0, .slice none 0 0]⟩),
  (27, ⟨.slice 69, 1, 24, .slice none 0 0⟩),
  (43, ⟨.struct #[{ name := "Stem", type := 30, offset := 0, embedded := false, tag := "", pkgPath := "", byteOffset := 0 }, { name := "Loop", type := 30, offset := 1, embedded := false, tag := "", pkgPath := "", byteOffset := 24 }], 2, 48, .agg #[.slice none 0 0, .slice none 0 0]⟩),
  (40, ⟨.struct #[{ name := "Stem", type := 30, offset := 0, embedded := false, tag := "", pkgPath := "", byteOffset := 0 }, { name := "Loop", type := 30, offset := 1, embedded := false, tag := "", pkgPath := "", byteOffset := 24 }], 2, 48, .agg #[.slice none 0 0, .slice none 0 0]⟩),
  (110, ⟨.struct #[{ name := "From", type := 3, offset := 0, embedded := false, tag := "", pkgPath := "", byteOffset := 0 }, { name := "To", type := 3, offset := 1, embedded := false, tag := "", pkgPath := "", byteOffset := 8 }, { name := "Guard", type := 69, offset := 2, embedded := false, tag := "", pkgPath := "", byteOffset := 16 }, { name := "Var", type := 3, offset := 5, embedded := false, tag := "", pkgPath := "", byteOffset := 56 }, { name := "Value", type := 69, offset := 6, embedded := false, tag := "", pkgPath := "", byteOffset := 64 }, { name := "Sync", type := 3, offset := 9, embedded := false, tag := "", pkgPath := "", byteOffset := 104 }], 10, 112, .agg #[.int .i64 0, .int .i64 0, .int .i64 0, .int .i64 0, .slice none 0 0, .int .i64 0, .int .i64 0, .int .i64 0, .slice none 0 0, .int .i64 0]⟩),
  (77, ⟨.slice 108, 1, 24, .slice none 0 0⟩),
  (79, ⟨.struct #[{ name := "Init", type := 30, offset := 0, embedded := false, tag := "", pkgPath := "", byteOffset := 0 }, { name := "Processes", type := 77, offset := 1, embedded := false, tag := "", pkgPath := "", byteOffset := 24 }], 2, 48, .agg #[.slice none 0 0, .slice none 0 0]⟩),
  (106, ⟨.slice 110, 1, 24, .slice none 0 0⟩),
  (108, ⟨.struct #[{ name := "Locations", type := 3, offset := 0, embedded := false, tag := "", pkgPath := "", byteOffset := 0 }, { name := "Edges", type := 106, offset := 1, embedded := false, tag := "", pkgPath := "", byteOffset := 8 }], 2, 32, .agg #[.int .i64 0, .slice none 0 0]⟩),
  (22, ⟨.slice 5, 1, 24, .slice none 0 0⟩),
  (100, ⟨.slice 104, 1, 24, .slice none 0 0⟩),
  (67, ⟨.struct #[{ name := "b", type := 22, offset := 0, embedded := false, tag := "", pkgPath := "loop.example/ltlcheck/spec", byteOffset := 0 }, { name := "p", type := 3, offset := 1, embedded := false, tag := "", pkgPath := "loop.example/ltlcheck/spec", byteOffset := 24 }], 2, 32, .agg #[.slice none 0 0, .int .i64 0]⟩),
  (104, ⟨.struct #[{ name := "Process", type := 3, offset := 0, embedded := false, tag := "", pkgPath := "", byteOffset := 0 }, { name := "Edge", type := 3, offset := 1, embedded := false, tag := "", pkgPath := "", byteOffset := 8 }, { name := "Partner", type := 3, offset := 2, embedded := false, tag := "", pkgPath := "", byteOffset := 16 }, { name := "PartnerEdge", type := 3, offset := 3, embedded := false, tag := "", pkgPath := "", byteOffset := 24 }], 4, 32, .agg #[.int .i64 0, .int .i64 0, .int .i64 0, .int .i64 0]⟩),
  (4, ⟨.bool, 1, 1, .bool false⟩),
  (5, ⟨.int .u8, 1, 1, .int .u8 0⟩),
  (128, ⟨.pointer 3, 1, 8, .pointer none⟩),
  (119, ⟨.int .u64, 1, 8, .int .u64 0⟩)]
def tab : Tab := tabGet tabL
theorem inf3 : (Try.prog.info? 3).map (fun j => (j.zero, j.size, j.bytes)) = some (some (.int .i64 0), 1, 8) := by kernel_rfl
theorem inf30 : (Try.prog.info? 30).map (fun j => (j.zero, j.size, j.bytes)) = some (some (.slice none 0 0), 1, 24) := by kernel_rfl
theorem inf69 : (Try.prog.info? 69).map (fun j => (j.zero, j.size, j.bytes)) = some (some (.agg #[.int .i64 0, .int .i64 0, .slice none 0 0]), 3, 40) := by kernel_rfl
theorem inf26 : (Try.prog.info? 26).map (fun j => (j.zero, j.size, j.bytes)) = some (some (.agg #[.slice none 0 0, .slice none 0 0]), 2, 48) := by kernel_rfl
theorem inf23 : (Try.prog.info? 23).map (fun j => (j.zero, j.size, j.bytes)) = some (some (.slice none 0 0), 1, 24) := by kernel_rfl
theorem inf24 : (Try.prog.info? 24).map (fun j => (j.zero, j.size, j.bytes)) = some (some (.slice none 0 0), 1, 24) := by kernel_rfl
theorem inf37 : (Try.prog.info? 37).map (fun j => (j.zero, j.size, j.bytes)) = some (some (.agg #[.slice none 0 0, .slice none 0 0]), 2, 48) := by kernel_rfl
theorem inf27 : (Try.prog.info? 27).map (fun j => (j.zero, j.size, j.bytes)) = some (some (.slice none 0 0), 1, 24) := by kernel_rfl
theorem inf43 : (Try.prog.info? 43).map (fun j => (j.zero, j.size, j.bytes)) = some (some (.agg #[.slice none 0 0, .slice none 0 0]), 2, 48) := by kernel_rfl
theorem inf40 : (Try.prog.info? 40).map (fun j => (j.zero, j.size, j.bytes)) = some (some (.agg #[.slice none 0 0, .slice none 0 0]), 2, 48) := by kernel_rfl
theorem inf110 : (Try.prog.info? 110).map (fun j => (j.zero, j.size, j.bytes)) = some (some (.agg #[.int .i64 0, .int .i64 0, .int .i64 0, .int .i64 0, .slice none 0 0, .int .i64 0, .int .i64 0, .int .i64 0, .slice none 0 0, .int .i64 0]), 10, 112) := by kernel_rfl
theorem inf77 : (Try.prog.info? 77).map (fun j => (j.zero, j.size, j.bytes)) = some (some (.slice none 0 0), 1, 24) := by kernel_rfl
theorem inf79 : (Try.prog.info? 79).map (fun j => (j.zero, j.size, j.bytes)) = some (some (.agg #[.slice none 0 0, .slice none 0 0]), 2, 48) := by kernel_rfl
theorem inf106 : (Try.prog.info? 106).map (fun j => (j.zero, j.size, j.bytes)) = some (some (.slice none 0 0), 1, 24) := by kernel_rfl
theorem inf108 : (Try.prog.info? 108).map (fun j => (j.zero, j.size, j.bytes)) = some (some (.agg #[.int .i64 0, .slice none 0 0]), 2, 32) := by kernel_rfl
theorem inf22 : (Try.prog.info? 22).map (fun j => (j.zero, j.size, j.bytes)) = some (some (.slice none 0 0), 1, 24) := by kernel_rfl
theorem inf100 : (Try.prog.info? 100).map (fun j => (j.zero, j.size, j.bytes)) = some (some (.slice none 0 0), 1, 24) := by kernel_rfl
theorem inf67 : (Try.prog.info? 67).map (fun j => (j.zero, j.size, j.bytes)) = some (some (.agg #[.slice none 0 0, .int .i64 0]), 2, 32) := by kernel_rfl
theorem inf104 : (Try.prog.info? 104).map (fun j => (j.zero, j.size, j.bytes)) = some (some (.agg #[.int .i64 0, .int .i64 0, .int .i64 0, .int .i64 0]), 4, 32) := by kernel_rfl
theorem inf4 : (Try.prog.info? 4).map (fun j => (j.zero, j.size, j.bytes)) = some (some (.bool false), 1, 1) := by kernel_rfl
theorem inf5 : (Try.prog.info? 5).map (fun j => (j.zero, j.size, j.bytes)) = some (some (.int .u8 0), 1, 1) := by kernel_rfl
theorem inf128 : (Try.prog.info? 128).map (fun j => (j.zero, j.size, j.bytes)) = some (some (.pointer none), 1, 8) := by kernel_rfl
theorem inf119 : (Try.prog.info? 119).map (fun j => (j.zero, j.size, j.bytes)) = some (some (.int .u64 0), 1, 8) := by kernel_rfl
theorem z79 : z130 Try.prog tab := tabOk_of (⟨z112 Try.underlying3 inf3, ⟨z112 Try.underlying30 inf30, ⟨z112 Try.underlying69 inf69, ⟨z112 Try.underlying26 inf26, ⟨z112 Try.underlying23 inf23, ⟨z112 Try.underlying24 inf24, ⟨z112 Try.underlying37 inf37, ⟨z112 Try.underlying27 inf27, ⟨z112 Try.underlying43 inf43, ⟨z112 Try.underlying40 inf40, ⟨z112 Try.underlying110 inf110, ⟨z112 Try.underlying77 inf77, ⟨z112 Try.underlying79 inf79, ⟨z112 Try.underlying106 inf106, ⟨z112 Try.underlying108 inf108, ⟨z112 Try.underlying22 inf22, ⟨z112 Try.underlying100 inf100, ⟨z112 Try.underlying67 inf67, ⟨z112 Try.underlying104 inf104, ⟨z112 Try.underlying4 inf4, ⟨z112 Try.underlying5 inf5, ⟨z112 Try.underlying128 inf128, ⟨z112 Try.underlying119 inf119, trivial⟩⟩⟩⟩⟩⟩⟩⟩⟩⟩⟩⟩⟩⟩⟩⟩⟩⟩⟩⟩⟩⟩⟩)
end Go.Proofs.Ytkophaoifmofdaa

namespace Go.Proofs.Ytkophaoifmofdaa
open Go.Gl
attribute [local irreducible] z83
def enI (n : Int) : List AC := [.int n]
def ints (l : List Int) : AC := .list 1 l.length (l.map enI)
theorem ok : Ok Try.prog tab := ⟨z79, by kernel_rfl⟩

structure State where
  a : List Int
  b : List Int
  deriving DecidableEq
def State.cs (s : State) : List AC := [ints s.a, ints s.b]
def State.mx (s : State) : Prop := s.a.length ≤ maxLen ∧ s.b.length ≤ maxLen
def State.sz (s : State) : Nat := s.a.length + s.b.length

def lst {α : Type} (w : Nat) (e : α → List AC) (l : List α) : AC := .list w l.length (l.map e)
def tot {α : Type} (f : α → Nat) (l : List α) : Nat := l.length + (l.map f).sum
def State.mxs (l : List State) : Prop := l.length ≤ maxLen ∧ ∀ s ∈ l, s.mx

def State.small (s : State) : Prop := s.a.length ≤ 1048576 ∧ s.b.length ≤ 1048576

theorem State.unown (s : State) : ∀ x ∈ s.cs, x.unown = x := fun x hx => by
  simp only [State.cs, List.mem_cons, List.not_mem_nil, or_false] at hx
  rcases hx with rfl | rfl <;> rfl

end Go.Proofs.Ytkophaoifmofdaa

namespace Go.Proofs.Ytkophaoifmofdaa
open Go.Gl
attribute [local irreducible] z83

end Go.Proofs.Ytkophaoifmofdaa

namespace Go.Proofs.Ytkophaoifmofdaa
open Go.Gl
attribute [local irreducible] z83

def z111 {α : Type} (e : α → List AC) (a : α) : AC := .agg (e a)
end Go.Proofs.Ytkophaoifmofdaa

namespace Go.Proofs.Ytkophaoifmofdaa
open Go.Gl
attribute [local irreducible] z83

theorem Tree.unown (t : Tree) : ∀ x ∈ Tree.cs' t, x.unown = x := fun x hx => by
  simp only [Tree.cs', List.mem_cons, List.not_mem_nil, or_false] at hx
  rcases hx with rfl | rfl | rfl <;> rfl

end Go.Proofs.Ytkophaoifmofdaa

namespace Go.Proofs.Ytkophaoifmofdaa
open Go.Gl
attribute [local irreducible] z83

def encL (l : List Int) : List AC := [ints l]
end Go.Proofs.Ytkophaoifmofdaa

namespace Go.Proofs.Ytkophaoifmofdaa
open Go.Gl
attribute [local irreducible] z83

structure Graph where
  st : List State
  nx : List (List Int)
  deriving DecidableEq
def Graph.a1 (g : Graph) : AC := lst 2 State.cs g.st
def Graph.a2 (g : Graph) : AC := lst 1 encL g.nx
def Graph.cs (g : Graph) : List AC := [lst 2 State.cs g.st, lst 1 encL g.nx]
def Graph.s1 (g : Graph) : Nat := tot State.sz g.st
def Graph.s2 (g : Graph) : Nat := tot List.length g.nx
end Go.Proofs.Ytkophaoifmofdaa

namespace Go.Proofs.Ytkophaoifmofdaa
open Go.Gl
attribute [local irreducible] z83

def enB (b : Bool) : List AC := [.bool b]
structure Trans where
  src : Int
  care : Int
  val : Int
  dst : Int
  deriving DecidableEq
def Trans.cs (t : Trans) : List AC := [.int t.src, .int t.care, .int t.val, .int t.dst]
theorem Trans.unown (t : Trans) : ∀ x ∈ t.cs, x.unown = x := fun x hx => by
  simp only [Trans.cs, List.mem_cons, List.not_mem_nil, or_false] at hx
  rcases hx with rfl | rfl | rfl | rfl <;> rfl
structure Aut where
  ini : List Int
  acc : List Bool
  ed : List Trans
  deriving DecidableEq
def Aut.a1 (a : Aut) : AC := lst 1 enI a.ini
def Aut.a2 (a : Aut) : AC := lst 1 enB a.acc
def Aut.a3 (a : Aut) : AC := lst 4 Trans.cs a.ed
def Aut.cs (a : Aut) : List AC := [lst 1 enI a.ini, lst 1 enB a.acc, lst 4 Trans.cs a.ed]
def Aut.s1 (a : Aut) : Nat := a.ini.length
def Aut.s2 (a : Aut) : Nat := a.acc.length
def Aut.s3 (a : Aut) : Nat := a.ed.length
structure Cert where
  ranks : List Int
  deriving DecidableEq
def Cert.a1 (a : Cert) : AC := lst 1 enI a.ranks
def Cert.cs (a : Cert) : List AC := [lst 1 enI a.ranks]
def Cert.s1 (a : Cert) : Nat := a.ranks.length
end Go.Proofs.Ytkophaoifmofdaa

namespace Go.Proofs.Ytkophaoifmofdaa
open Go.Gl
attribute [local irreducible] z83 AWP z96 z107 z99

def btw (n lo hi : Int) : Bool := decide (lo ≤ n) && decide (n ≤ hi)
theorem z58 {n lo hi : Int} : btw n lo hi = true ↔ lo ≤ n ∧ n ≤ hi := by simp [btw]
theorem btw_no {n lo hi : Int} : btw n lo hi = false ↔ ¬(lo ≤ n ∧ n ≤ hi) := by rw [← z58]; simp

theorem in_ok (n lo hi : Int) : CallsA Try.prog 53 [.int n, .int lo, .int hi] [] (.bool (btw n lo hi)) [] := by
  refine z62 z79 Try.func53 rfl rfl 15 Try.ntmps53 (by simp) ?_
  repeat' (first | (apply AWP.go ok; rfl; conv => whnf) | (apply z37; kernel_rfl; conv => whnf) | (apply And.intro; (first | omega | (unfold inI; omega) | (dsimp only; omega) | (unfold z47; omega) | ((try dsimp only); simp only [List.length_map, List.length_take, List.length_append, List.length_replicate, List.length_cons, List.length_nil]; omega) | (simp only [z58] at *; first | omega | (unfold inI; omega) | (unfold z47; omega)) | exact z6 (fun _ => rfl) | exact ⟨rfl, z14 rfl z20⟩ | exact ⟨rfl, z6 (fun _ => rfl) _⟩ | exact ⟨⟨rfl, by omega⟩, z6 (fun _ => rfl) _⟩); conv => whnf) | (with_reducible apply z9; omega; intro _; conv => whnf) | (with_reducible apply z21; omega; intro _; conv => whnf) | (apply z9; omega; intro _; conv => whnf) | (apply z22; omega; conv => whnf) | (apply z32; conv => whnf) | (apply z31; omega; intro _; conv => whnf) | (apply z30 <;> intro _ <;> conv => whnf) | (apply z19 <;> intro _ <;> conv => whnf) | (apply z29 <;> intro _ <;> conv => whnf) | (apply z45 <;> intro _ <;> conv => whnf) | (apply z17 <;> intro _ <;> conv => whnf) | (apply z13 <;> intro _ <;> conv => whnf) | (apply z18 <;> intro _ <;> conv => whnf) | (apply z28 <;> intro _ <;> conv => whnf))
  all_goals (refine z76 rfl ?_; first | rfl | (unfold btw; simp [*]; done) | (unfold btw; simp_all; done) | (unfold btw; simp_all; omega))
end Go.Proofs.Ytkophaoifmofdaa

namespace Go.Proofs.Ytkophaoifmofdaa
open Go.Gl
attribute [local irreducible] z83 AWP z96 z107 z99

def idxF {α : Type} (p : α → Bool) (l : List α) : Int := match l.findIdx? p with
  | some i => i
  | none => -1

theorem idxF_some {α : Type} {p : α → Bool} {l : List α} {i : Nat} (hi : i < l.length) (h : p l[i] = true) (hn : ∀ j (hj : j < l.length), j < i → p l[j] = false) : idxF p l = i := by
  have : l.findIdx? p = some i := List.findIdx?_eq_some_iff_getElem.2 ⟨hi, h, fun j hj => by simp [hn j (by omega) hj]⟩
  simp [idxF, this]
theorem idxF_none {α : Type} {p : α → Bool} {l : List α} (hn : ∀ j (hj : j < l.length), p l[j] = false) : idxF p l = -1 := by
  have : l.findIdx? p = none := List.findIdx?_eq_none_iff.2 fun x hx => by
    obtain ⟨i, hi, rfl⟩ := List.mem_iff_getElem.1 hx
    exact hn i hi
  simp [idxF, this]

theorem idxF_any {α : Type} (p : α → Bool) (l : List α) : decide (0 ≤ idxF p l) = l.any p := by
  unfold idxF
  split
  · rename_i i e
    obtain ⟨h, hp, _⟩ := List.findIdx?_eq_some_iff_getElem.1 e
    have : l.any p = true := List.any_eq_true.2 ⟨_, List.getElem_mem h, hp⟩
    rw [this]
    simp
  · rename_i e
    have := List.findIdx?_eq_none_iff.1 e
    have : l.any p = false := List.any_eq_false.2 fun x hx => by simp [this x hx]
    rw [this]
    simp

theorem indexFunc_int (l : List Int) (hl : l.length ≤ maxLen) (p : Int → Bool) (f : FuncId) (hf : ∀ x ∈ l, CallsA Try.prog f [.int x] [] (.bool (p x)) []) : CallsA Try.prog 93 [lst 1 enI l, .fn (.func f) [] []] [] (.int (idxF p l)) [] := by
  unfold maxLen at hl
  refine z62 z79 Try.func93 rfl rfl 19 Try.ntmps93 (by simp) ?_
  repeat' (first | (apply AWP.go ok; rfl; conv => whnf) | (apply z37; kernel_rfl; conv => whnf) | (apply And.intro; (first | omega | (unfold inI; omega) | (dsimp only; omega) | (unfold z47; omega) | ((try dsimp only); simp only [List.length_map, List.length_take, List.length_append, List.length_replicate, List.length_cons, List.length_nil]; omega) | (simp only [z58] at *; first | omega | (unfold inI; omega) | (unfold z47; omega)) | exact z6 (fun _ => rfl) | exact ⟨rfl, z14 rfl z20⟩ | exact ⟨rfl, z6 (fun _ => rfl) _⟩ | exact ⟨⟨rfl, by omega⟩, z6 (fun _ => rfl) _⟩); conv => whnf) | (with_reducible apply z9; omega; intro _; conv => whnf) | (with_reducible apply z21; omega; intro _; conv => whnf) | (apply z9; omega; intro _; conv => whnf) | (apply z22; omega; conv => whnf) | (apply z32; conv => whnf) | (apply z31; omega; intro _; conv => whnf) | (apply z30 <;> intro _ <;> conv => whnf) | (apply z19 <;> intro _ <;> conv => whnf) | (apply z29 <;> intro _ <;> conv => whnf) | (apply z45 <;> intro _ <;> conv => whnf) | (apply z17 <;> intro _ <;> conv => whnf) | (apply z13 <;> intro _ <;> conv => whnf) | (apply z18 <;> intro _ <;> conv => whnf) | (apply z28 <;> intro _ <;> conv => whnf))
  refine z138 (fun k : Nat => ([(0, lst 1 enI l), (1, .fn (.func f) [] []), (7, .int l.length), (8, .int k)], [])) (fun k => k ≤ l.length ∧ ∀ j (hj : j < l.length), j < k → p l[j] = false) (fun k => l.length - k) 0 (by simp)
    ⟨[], rfl, by decide, rfl, ⟨⟨rfl, rfl⟩, ⟨rfl, rfl⟩, ⟨rfl, rfl⟩, ⟨rfl, rfl⟩, trivial⟩, trivial⟩ ?_
  intro k hk
  repeat' (first | (apply AWP.go ok; rfl; conv => whnf) | (apply z37; kernel_rfl; conv => whnf) | (apply And.intro; (first | omega | (unfold inI; omega) | (dsimp only; omega) | (unfold z47; omega) | ((try dsimp only); simp only [List.length_map, List.length_take, List.length_append, List.length_replicate, List.length_cons, List.length_nil]; omega) | (simp only [z58] at *; first | omega | (unfold inI; omega) | (unfold z47; omega)) | exact z6 (fun _ => rfl) | exact ⟨rfl, z14 rfl z20⟩ | exact ⟨rfl, z6 (fun _ => rfl) _⟩ | exact ⟨⟨rfl, by omega⟩, z6 (fun _ => rfl) _⟩); conv => whnf) | (with_reducible apply z9; omega; intro _; conv => whnf) | (with_reducible apply z21; omega; intro _; conv => whnf) | (apply z9; omega; intro _; conv => whnf) | (apply z22; omega; conv => whnf) | (apply z32; conv => whnf) | (apply z31; omega; intro _; conv => whnf) | (apply z30 <;> intro _ <;> conv => whnf) | (apply z19 <;> intro _ <;> conv => whnf) | (apply z29 <;> intro _ <;> conv => whnf) | (apply z45 <;> intro _ <;> conv => whnf) | (apply z17 <;> intro _ <;> conv => whnf) | (apply z13 <;> intro _ <;> conv => whnf) | (apply z18 <;> intro _ <;> conv => whnf) | (apply z28 <;> intro _ <;> conv => whnf) | (apply z34 (hf l[k] (List.getElem_mem _)); rfl; rfl; conv => whnf))
  · rename_i h h1
    exact z85 rfl rfl (by rw [idxF_some (by omega) h1 hk.2]; rfl)
  · rename_i h h1
    refine z117 (k + 1) [] ⟨by omega, fun j hj hjk => ?_⟩ (by omega) ⟨rfl, by decide, rfl, ⟨⟨rfl, rfl⟩, ⟨rfl, rfl⟩, ⟨rfl, rfl⟩, ⟨rfl, rfl⟩, trivial⟩, trivial⟩
    rcases Nat.lt_or_ge j k with h2 | h2
    · exact hk.2 j hj h2
    · obtain rfl : j = k := by omega
      exact h1
  · exact z85 rfl rfl (by rw [idxF_none fun j hj => hk.2 j hj (by omega)]; rfl)
theorem containsFunc_int (l : List Int) (hl : l.length ≤ maxLen) (p : Int → Bool) (f : FuncId) (hf : ∀ x ∈ l, CallsA Try.prog f [.int x] [] (.bool (p x)) []) : CallsA Try.prog 66 [lst 1 enI l, .fn (.func f) [] []] [] (.bool (l.any p)) [] := by
  refine z62 z79 Try.func66 rfl rfl 9 Try.ntmps66 (by simp) ?_
  repeat' (first | (apply AWP.go ok; rfl; conv => whnf) | (apply z37; kernel_rfl; conv => whnf) | (apply And.intro; (first | omega | (unfold inI; omega) | (dsimp only; omega) | (unfold z47; omega) | ((try dsimp only); simp only [List.length_map, List.length_take, List.length_append, List.length_replicate, List.length_cons, List.length_nil]; omega) | (simp only [z58] at *; first | omega | (unfold inI; omega) | (unfold z47; omega)) | exact z6 (fun _ => rfl) | exact ⟨rfl, z14 rfl z20⟩ | exact ⟨rfl, z6 (fun _ => rfl) _⟩ | exact ⟨⟨rfl, by omega⟩, z6 (fun _ => rfl) _⟩); conv => whnf) | (with_reducible apply z9; omega; intro _; conv => whnf) | (with_reducible apply z21; omega; intro _; conv => whnf) | (apply z9; omega; intro _; conv => whnf) | (apply z22; omega; conv => whnf) | (apply z32; conv => whnf) | (apply z31; omega; intro _; conv => whnf) | (apply z30 <;> intro _ <;> conv => whnf) | (apply z19 <;> intro _ <;> conv => whnf) | (apply z29 <;> intro _ <;> conv => whnf) | (apply z45 <;> intro _ <;> conv => whnf) | (apply z17 <;> intro _ <;> conv => whnf) | (apply z13 <;> intro _ <;> conv => whnf) | (apply z18 <;> intro _ <;> conv => whnf) | (apply z28 <;> intro _ <;> conv => whnf) | (apply z34 (indexFunc_int l hl p f hf); rfl; rfl; conv => whnf))
  exact z76 rfl (by rw [← idxF_any])
end Go.Proofs.Ytkophaoifmofdaa

namespace Go.Proofs.Ytkophaoifmofdaa
open Go.Gl
attribute [local irreducible] z83 AWP z96 z107 z99

theorem valsOk1_ok (n : Int) : CallsA Try.prog 67 [.int n] [] (.bool (!btw n 0 3)) [] := by
  refine z62 z79 Try.func67 rfl rfl 6 Try.ntmps67 (by simp) ?_
  repeat' (first | (apply AWP.go ok; rfl; conv => whnf) | (apply z37; kernel_rfl; conv => whnf) | (apply And.intro; (first | omega | (unfold inI; omega) | (dsimp only; omega) | (unfold z47; omega) | ((try dsimp only); simp only [List.length_map, List.length_take, List.length_append, List.length_replicate, List.length_cons, List.length_nil]; omega) | (simp only [z58] at *; first | omega | (unfold inI; omega) | (unfold z47; omega)) | exact z6 (fun _ => rfl) | exact ⟨rfl, z14 rfl z20⟩ | exact ⟨rfl, z6 (fun _ => rfl) _⟩ | exact ⟨⟨rfl, by omega⟩, z6 (fun _ => rfl) _⟩); conv => whnf) | (with_reducible apply z9; omega; intro _; conv => whnf) | (with_reducible apply z21; omega; intro _; conv => whnf) | (apply z9; omega; intro _; conv => whnf) | (apply z22; omega; conv => whnf) | (apply z32; conv => whnf) | (apply z31; omega; intro _; conv => whnf) | (apply z30 <;> intro _ <;> conv => whnf) | (apply z19 <;> intro _ <;> conv => whnf) | (apply z29 <;> intro _ <;> conv => whnf) | (apply z45 <;> intro _ <;> conv => whnf) | (apply z17 <;> intro _ <;> conv => whnf) | (apply z13 <;> intro _ <;> conv => whnf) | (apply z18 <;> intro _ <;> conv => whnf) | (apply z28 <;> intro _ <;> conv => whnf) | (apply z34 (in_ok n 0 3); rfl; rfl; conv => whnf))
  exact z76 rfl rfl

/-- a state's values are three, each from 0 to 3 -/
def valsB (l : List Int) : Bool := decide ((l.length : Int) = 3) && !(l.any fun n => !btw n 0 3)

theorem valsOk_ok (l : List Int) (hl : l.length ≤ maxLen) : CallsA Try.prog 30 [ints l] [] (.bool (valsB l)) [] := by
  have hl' := hl
  unfold maxLen at hl'
  have hk := containsFunc_int l hl (fun n => !btw n 0 3) 67 (fun x _ => valsOk1_ok x)
  refine z62 z79 Try.func30 rfl rfl 11 Try.ntmps30 (by simp) ?_
  repeat' (first | (apply AWP.go ok; rfl; conv => whnf) | (apply z37; kernel_rfl; conv => whnf) | (apply And.intro; (first | omega | (unfold inI; omega) | (dsimp only; omega) | (unfold z47; omega) | ((try dsimp only); simp only [List.length_map, List.length_take, List.length_append, List.length_replicate, List.length_cons, List.length_nil]; omega) | (simp only [z58] at *; first | omega | (unfold inI; omega) | (unfold z47; omega)) | exact z6 (fun _ => rfl) | exact ⟨rfl, z14 rfl z20⟩ | exact ⟨rfl, z6 (fun _ => rfl) _⟩ | exact ⟨⟨rfl, by omega⟩, z6 (fun _ => rfl) _⟩); conv => whnf) | (with_reducible apply z9; omega; intro _; conv => whnf) | (with_reducible apply z21; omega; intro _; conv => whnf) | (apply z9; omega; intro _; conv => whnf) | (apply z22; omega; conv => whnf) | (apply z32; conv => whnf) | (apply z31; omega; intro _; conv => whnf) | (apply z30 <;> intro _ <;> conv => whnf) | (apply z19 <;> intro _ <;> conv => whnf) | (apply z29 <;> intro _ <;> conv => whnf) | (apply z45 <;> intro _ <;> conv => whnf) | (apply z17 <;> intro _ <;> conv => whnf) | (apply z13 <;> intro _ <;> conv => whnf) | (apply z18 <;> intro _ <;> conv => whnf) | (apply z28 <;> intro _ <;> conv => whnf) | (apply z34 (hk); rfl; rfl; conv => whnf))
  all_goals (refine z76 rfl ?_; first | rfl | (unfold valsB; simp [*]; done) | (unfold valsB; simp_all; done) | (unfold valsB; simp_all; omega))
end Go.Proofs.Ytkophaoifmofdaa

namespace Go.Proofs.Ytkophaoifmofdaa
open Go.Gl
attribute [local irreducible] z83 vcPick vcGuard

theorem indexFunc_state (l : List State) (hl : l.length ≤ maxLen) (p : State → Bool) (f : FuncId) (hf : ∀ x ∈ l, CallsA Try.prog f [z111 State.cs x] [] (.bool (p x)) []) : CallsA Try.prog 86 [lst 2 State.cs l, .fn (.func f) [] []] [] (.int (idxF p l)) [] := by
  unfold maxLen at hl
  refine z62 z79 Try.func86 rfl rfl 19 Try.ntmps86 (by simp) ?_
  repeat' (first | (apply AWP.go ok; rfl; conv => whnf) | (apply z37; kernel_rfl; conv => whnf) | (apply And.intro; (first | omega | (unfold inI; omega) | (dsimp only; omega) | (unfold z47; omega) | ((try dsimp only); simp only [List.length_map, List.length_take, List.length_append, List.length_replicate, List.length_cons, List.length_nil]; omega) | (simp only [z58] at *; first | omega | (unfold inI; omega) | (unfold z47; omega)) | exact z6 (fun _ => rfl) | exact ⟨rfl, z14 rfl z20⟩ | exact ⟨rfl, z6 (fun _ => rfl) _⟩ | exact ⟨⟨rfl, by omega⟩, z6 (fun _ => rfl) _⟩); conv => whnf) | (with_reducible apply z9; omega; intro _; conv => whnf) | (with_reducible apply z21; omega; intro _; conv => whnf) | (apply z9; omega; intro _; conv => whnf) | (apply z22; omega; conv => whnf) | (apply z32; conv => whnf) | (apply z31; omega; intro _; conv => whnf) | (apply z30 <;> intro _ <;> conv => whnf) | (apply z19 <;> intro _ <;> conv => whnf) | (apply z29 <;> intro _ <;> conv => whnf) | (apply z45 <;> intro _ <;> conv => whnf) | (apply z17 <;> intro _ <;> conv => whnf) | (apply z13 <;> intro _ <;> conv => whnf) | (apply z18 <;> intro _ <;> conv => whnf) | (apply z28 <;> intro _ <;> conv => whnf))
  refine z138 (fun k : Nat => ([(0, lst 2 State.cs l), (1, .fn (.func f) [] []), (7, .int l.length), (8, .int k)], [])) (fun k => k ≤ l.length ∧ ∀ j (hj : j < l.length), j < k → p l[j] = false) (fun k => l.length - k) 0 (by simp)
    ⟨[], rfl, by decide, rfl, ⟨⟨rfl, rfl⟩, ⟨rfl, rfl⟩, ⟨rfl, rfl⟩, ⟨rfl, rfl⟩, trivial⟩, trivial⟩ ?_
  intro k hk
  repeat' (first | (apply AWP.go ok; rfl; conv => whnf) | (apply z37; kernel_rfl; conv => whnf) | (apply And.intro; (first | omega | (unfold inI; omega) | (dsimp only; omega) | (unfold z47; omega) | ((try dsimp only); simp only [List.length_map, List.length_take, List.length_append, List.length_replicate, List.length_cons, List.length_nil]; omega) | (simp only [z58] at *; first | omega | (unfold inI; omega) | (unfold z47; omega)) | exact z6 (fun _ => rfl) | exact ⟨rfl, z14 rfl z20⟩ | exact ⟨rfl, z6 (fun _ => rfl) _⟩ | exact ⟨⟨rfl, by omega⟩, z6 (fun _ => rfl) _⟩); conv => whnf) | (with_reducible apply z9; omega; intro _; conv => whnf) | (with_reducible apply z21; omega; intro _; conv => whnf) | (apply z9; omega; intro _; conv => whnf) | (apply z22; omega; conv => whnf) | (apply z32; conv => whnf) | (apply z31; omega; intro _; conv => whnf) | (apply z30 <;> intro _ <;> conv => whnf) | (apply z19 <;> intro _ <;> conv => whnf) | (apply z29 <;> intro _ <;> conv => whnf) | (apply z45 <;> intro _ <;> conv => whnf) | (apply z17 <;> intro _ <;> conv => whnf) | (apply z13 <;> intro _ <;> conv => whnf) | (apply z18 <;> intro _ <;> conv => whnf) | (apply z28 <;> intro _ <;> conv => whnf) | (apply z34 (hf l[k] (List.getElem_mem _)); rfl; rfl; conv => whnf))
  · rename_i h h1
    exact z85 rfl rfl (by rw [idxF_some (by omega) h1 hk.2]; rfl)
  · rename_i h h1
    refine z117 (k + 1) [] ⟨by omega, fun j hj hjk => ?_⟩ (by omega) ⟨rfl, by decide, rfl, ⟨⟨rfl, rfl⟩, ⟨rfl, rfl⟩, ⟨rfl, rfl⟩, ⟨rfl, rfl⟩, trivial⟩, trivial⟩
    rcases Nat.lt_or_ge j k with h2 | h2
    · exact hk.2 j hj h2
    · obtain rfl : j = k := by omega
      exact h1
  · exact z85 rfl rfl (by rw [idxF_none fun j hj => hk.2 j hj (by omega)]; rfl)
theorem containsFunc_state (l : List State) (hl : l.length ≤ maxLen) (p : State → Bool) (f : FuncId) (hf : ∀ x ∈ l, CallsA Try.prog f [z111 State.cs x] [] (.bool (p x)) []) : CallsA Try.prog 54 [lst 2 State.cs l, .fn (.func f) [] []] [] (.bool (l.any p)) [] := by
  refine z62 z79 Try.func54 rfl rfl 9 Try.ntmps54 (by simp) ?_
  repeat' (first | (apply AWP.go ok; rfl; conv => whnf) | (apply z37; kernel_rfl; conv => whnf) | (apply And.intro; (first | omega | (unfold inI; omega) | (dsimp only; omega) | (unfold z47; omega) | ((try dsimp only); simp only [List.length_map, List.length_take, List.length_append, List.length_replicate, List.length_cons, List.length_nil]; omega) | (simp only [z58] at *; first | omega | (unfold inI; omega) | (unfold z47; omega)) | exact z6 (fun _ => rfl) | exact ⟨rfl, z14 rfl z20⟩ | exact ⟨rfl, z6 (fun _ => rfl) _⟩ | exact ⟨⟨rfl, by omega⟩, z6 (fun _ => rfl) _⟩); conv => whnf) | (with_reducible apply z9; omega; intro _; conv => whnf) | (with_reducible apply z21; omega; intro _; conv => whnf) | (apply z9; omega; intro _; conv => whnf) | (apply z22; omega; conv => whnf) | (apply z32; conv => whnf) | (apply z31; omega; intro _; conv => whnf) | (apply z30 <;> intro _ <;> conv => whnf) | (apply z19 <;> intro _ <;> conv => whnf) | (apply z29 <;> intro _ <;> conv => whnf) | (apply z45 <;> intro _ <;> conv => whnf) | (apply z17 <;> intro _ <;> conv => whnf) | (apply z13 <;> intro _ <;> conv => whnf) | (apply z18 <;> intro _ <;> conv => whnf) | (apply z28 <;> intro _ <;> conv => whnf) | (apply z34 (indexFunc_state l hl p f hf); rfl; rfl; conv => whnf))
  exact z76 rfl (by rw [← idxF_any])
theorem indexFunc_expr (l : List Tree) (hl : l.length ≤ maxLen) (p : Tree → Bool) (f : FuncId) (hf : ∀ x ∈ l, CallsA Try.prog f [z111 Tree.cs' x] [] (.bool (p x)) []) : CallsA Try.prog 88 [lst 3 Tree.cs' l, .fn (.func f) [] []] [] (.int (idxF p l)) [] := by
  unfold maxLen at hl
  refine z62 z79 Try.func88 rfl rfl 19 Try.ntmps88 (by simp) ?_
  repeat' (first | (apply AWP.go ok; rfl; conv => whnf) | (apply z37; kernel_rfl; conv => whnf) | (apply And.intro; (first | omega | (unfold inI; omega) | (dsimp only; omega) | (unfold z47; omega) | ((try dsimp only); simp only [List.length_map, List.length_take, List.length_append, List.length_replicate, List.length_cons, List.length_nil]; omega) | (simp only [z58] at *; first | omega | (unfold inI; omega) | (unfold z47; omega)) | exact z6 (fun _ => rfl) | exact ⟨rfl, z14 rfl z20⟩ | exact ⟨rfl, z6 (fun _ => rfl) _⟩ | exact ⟨⟨rfl, by omega⟩, z6 (fun _ => rfl) _⟩); conv => whnf) | (with_reducible apply z9; omega; intro _; conv => whnf) | (with_reducible apply z21; omega; intro _; conv => whnf) | (apply z9; omega; intro _; conv => whnf) | (apply z22; omega; conv => whnf) | (apply z32; conv => whnf) | (apply z31; omega; intro _; conv => whnf) | (apply z30 <;> intro _ <;> conv => whnf) | (apply z19 <;> intro _ <;> conv => whnf) | (apply z29 <;> intro _ <;> conv => whnf) | (apply z45 <;> intro _ <;> conv => whnf) | (apply z17 <;> intro _ <;> conv => whnf) | (apply z13 <;> intro _ <;> conv => whnf) | (apply z18 <;> intro _ <;> conv => whnf) | (apply z28 <;> intro _ <;> conv => whnf))
  refine z138 (fun k : Nat => ([(0, lst 3 Tree.cs' l), (1, .fn (.func f) [] []), (7, .int l.length), (8, .int k)], [])) (fun k => k ≤ l.length ∧ ∀ j (hj : j < l.length), j < k → p l[j] = false) (fun k => l.length - k) 0 (by simp)
    ⟨[], rfl, by decide, rfl, ⟨⟨rfl, rfl⟩, ⟨rfl, rfl⟩, ⟨rfl, rfl⟩, ⟨rfl, rfl⟩, trivial⟩, trivial⟩ ?_
  intro k hk
  repeat' (first | (apply AWP.go ok; rfl; conv => whnf) | (apply z37; kernel_rfl; conv => whnf) | (apply And.intro; (first | omega | (unfold inI; omega) | (dsimp only; omega) | (unfold z47; omega) | ((try dsimp only); simp only [List.length_map, List.length_take, List.length_append, List.length_replicate, List.length_cons, List.length_nil]; omega) | (simp only [z58] at *; first | omega | (unfold inI; omega) | (unfold z47; omega)) | exact z6 (fun _ => rfl) | exact ⟨rfl, z14 rfl z20⟩ | exact ⟨rfl, z6 (fun _ => rfl) _⟩ | exact ⟨⟨rfl, by omega⟩, z6 (fun _ => rfl) _⟩); conv => whnf) | (with_reducible apply z9; omega; intro _; conv => whnf) | (with_reducible apply z21; omega; intro _; conv => whnf) | (apply z9; omega; intro _; conv => whnf) | (apply z22; omega; conv => whnf) | (apply z32; conv => whnf) | (apply z31; omega; intro _; conv => whnf) | (apply z30 <;> intro _ <;> conv => whnf) | (apply z19 <;> intro _ <;> conv => whnf) | (apply z29 <;> intro _ <;> conv => whnf) | (apply z45 <;> intro _ <;> conv => whnf) | (apply z17 <;> intro _ <;> conv => whnf) | (apply z13 <;> intro _ <;> conv => whnf) | (apply z18 <;> intro _ <;> conv => whnf) | (apply z28 <;> intro _ <;> conv => whnf) | (apply z34 (hf l[k] (List.getElem_mem _)); rfl; rfl; conv => whnf))
  · rename_i h h1
    exact z85 rfl rfl (by rw [idxF_some (by omega) h1 hk.2]; rfl)
  · rename_i h h1
    refine z117 (k + 1) [] ⟨by omega, fun j hj hjk => ?_⟩ (by omega) ⟨rfl, by decide, rfl, ⟨⟨rfl, rfl⟩, ⟨rfl, rfl⟩, ⟨rfl, rfl⟩, ⟨rfl, rfl⟩, trivial⟩, trivial⟩
    rcases Nat.lt_or_ge j k with h2 | h2
    · exact hk.2 j hj h2
    · obtain rfl : j = k := by omega
      exact h1
  · exact z85 rfl rfl (by rw [idxF_none fun j hj => hk.2 j hj (by omega)]; rfl)
theorem containsFunc_expr (l : List Tree) (hl : l.length ≤ maxLen) (p : Tree → Bool) (f : FuncId) (hf : ∀ x ∈ l, CallsA Try.prog f [z111 Tree.cs' x] [] (.bool (p x)) []) : CallsA Try.prog 59 [lst 3 Tree.cs' l, .fn (.func f) [] []] [] (.bool (l.any p)) [] := by
  refine z62 z79 Try.func59 rfl rfl 9 Try.ntmps59 (by simp) ?_
  repeat' (first | (apply AWP.go ok; rfl; conv => whnf) | (apply z37; kernel_rfl; conv => whnf) | (apply And.intro; (first | omega | (unfold inI; omega) | (dsimp only; omega) | (unfold z47; omega) | ((try dsimp only); simp only [List.length_map, List.length_take, List.length_append, List.length_replicate, List.length_cons, List.length_nil]; omega) | (simp only [z58] at *; first | omega | (unfold inI; omega) | (unfold z47; omega)) | exact z6 (fun _ => rfl) | exact ⟨rfl, z14 rfl z20⟩ | exact ⟨rfl, z6 (fun _ => rfl) _⟩ | exact ⟨⟨rfl, by omega⟩, z6 (fun _ => rfl) _⟩); conv => whnf) | (with_reducible apply z9; omega; intro _; conv => whnf) | (with_reducible apply z21; omega; intro _; conv => whnf) | (apply z9; omega; intro _; conv => whnf) | (apply z22; omega; conv => whnf) | (apply z32; conv => whnf) | (apply z31; omega; intro _; conv => whnf) | (apply z30 <;> intro _ <;> conv => whnf) | (apply z19 <;> intro _ <;> conv => whnf) | (apply z29 <;> intro _ <;> conv => whnf) | (apply z45 <;> intro _ <;> conv => whnf) | (apply z17 <;> intro _ <;> conv => whnf) | (apply z13 <;> intro _ <;> conv => whnf) | (apply z18 <;> intro _ <;> conv => whnf) | (apply z28 <;> intro _ <;> conv => whnf) | (apply z34 (indexFunc_expr l hl p f hf); rfl; rfl; conv => whnf))
  exact z76 rfl (by rw [← idxF_any])
theorem indexFunc_ints1 (c : Int) (l : List (List Int)) (hl : l.length ≤ maxLen) (p : (List Int) → Bool) (f : FuncId) (hf : ∀ x ∈ l, CallsA Try.prog f [ints x, .pt [.int c]] [] (.bool (p x)) []) : CallsA Try.prog 87 [lst 1 encL l, .fn (.func f) [] [.pt [.int c]]] [] (.int (idxF p l)) [] := by
  unfold maxLen at hl
  refine z62 z79 Try.func87 rfl rfl 19 Try.ntmps87 (by simp) ?_
  repeat' (first | (apply AWP.go ok; rfl; conv => whnf) | (apply z37; kernel_rfl; conv => whnf) | (apply And.intro; (first | omega | (unfold inI; omega) | (dsimp only; omega) | (unfold z47; omega) | ((try dsimp only); simp only [List.length_map, List.length_take, List.length_append, List.length_replicate, List.length_cons, List.length_nil]; omega) | (simp only [z58] at *; first | omega | (unfold inI; omega) | (unfold z47; omega)) | exact z6 (fun _ => rfl) | exact ⟨rfl, z14 rfl z20⟩ | exact ⟨rfl, z6 (fun _ => rfl) _⟩ | exact ⟨⟨rfl, by omega⟩, z6 (fun _ => rfl) _⟩); conv => whnf) | (with_reducible apply z9; omega; intro _; conv => whnf) | (with_reducible apply z21; omega; intro _; conv => whnf) | (apply z9; omega; intro _; conv => whnf) | (apply z22; omega; conv => whnf) | (apply z32; conv => whnf) | (apply z31; omega; intro _; conv => whnf) | (apply z30 <;> intro _ <;> conv => whnf) | (apply z19 <;> intro _ <;> conv => whnf) | (apply z29 <;> intro _ <;> conv => whnf) | (apply z45 <;> intro _ <;> conv => whnf) | (apply z17 <;> intro _ <;> conv => whnf) | (apply z13 <;> intro _ <;> conv => whnf) | (apply z18 <;> intro _ <;> conv => whnf) | (apply z28 <;> intro _ <;> conv => whnf))
  refine z138 (fun k : Nat => ([(0, lst 1 encL l), (1, .fn (.func f) [] [.pt [.int c]]), (7, .int l.length), (8, .int k)], [])) (fun k => k ≤ l.length ∧ ∀ j (hj : j < l.length), j < k → p l[j] = false) (fun k => l.length - k) 0 (by simp)
    ⟨[], rfl, by decide, rfl, ⟨⟨rfl, rfl⟩, ⟨rfl, rfl⟩, ⟨rfl, rfl⟩, ⟨rfl, rfl⟩, trivial⟩, trivial⟩ ?_
  intro k hk
  repeat' (first | (apply AWP.go ok; rfl; conv => whnf) | (apply z37; kernel_rfl; conv => whnf) | (apply And.intro; (first | omega | (unfold inI; omega) | (dsimp only; omega) | (unfold z47; omega) | ((try dsimp only); simp only [List.length_map, List.length_take, List.length_append, List.length_replicate, List.length_cons, List.length_nil]; omega) | (simp only [z58] at *; first | omega | (unfold inI; omega) | (unfold z47; omega)) | exact z6 (fun _ => rfl) | exact ⟨rfl, z14 rfl z20⟩ | exact ⟨rfl, z6 (fun _ => rfl) _⟩ | exact ⟨⟨rfl, by omega⟩, z6 (fun _ => rfl) _⟩); conv => whnf) | (with_reducible apply z9; omega; intro _; conv => whnf) | (with_reducible apply z21; omega; intro _; conv => whnf) | (apply z9; omega; intro _; conv => whnf) | (apply z22; omega; conv => whnf) | (apply z32; conv => whnf) | (apply z31; omega; intro _; conv => whnf) | (apply z30 <;> intro _ <;> conv => whnf) | (apply z19 <;> intro _ <;> conv => whnf) | (apply z29 <;> intro _ <;> conv => whnf) | (apply z45 <;> intro _ <;> conv => whnf) | (apply z17 <;> intro _ <;> conv => whnf) | (apply z13 <;> intro _ <;> conv => whnf) | (apply z18 <;> intro _ <;> conv => whnf) | (apply z28 <;> intro _ <;> conv => whnf) | (apply z34 (hf l[k] (List.getElem_mem _)); rfl; rfl; conv => whnf))
  · rename_i h h1
    exact z85 rfl rfl (by rw [idxF_some (by omega) h1 hk.2]; rfl)
  · rename_i h h1
    refine z117 (k + 1) [] ⟨by omega, fun j hj hjk => ?_⟩ (by omega) ⟨rfl, by decide, rfl, ⟨⟨rfl, rfl⟩, ⟨rfl, rfl⟩, ⟨rfl, rfl⟩, ⟨rfl, rfl⟩, trivial⟩, trivial⟩
    rcases Nat.lt_or_ge j k with h2 | h2
    · exact hk.2 j hj h2
    · obtain rfl : j = k := by omega
      exact h1
  · exact z85 rfl rfl (by rw [idxF_none fun j hj => hk.2 j hj (by omega)]; rfl)
theorem containsFunc_ints1 (c : Int) (l : List (List Int)) (hl : l.length ≤ maxLen) (p : (List Int) → Bool) (f : FuncId) (hf : ∀ x ∈ l, CallsA Try.prog f [ints x, .pt [.int c]] [] (.bool (p x)) []) : CallsA Try.prog 56 [lst 1 encL l, .fn (.func f) [] [.pt [.int c]]] [] (.bool (l.any p)) [] := by
  refine z62 z79 Try.func56 rfl rfl 9 Try.ntmps56 (by simp) ?_
  repeat' (first | (apply AWP.go ok; rfl; conv => whnf) | (apply z37; kernel_rfl; conv => whnf) | (apply And.intro; (first | omega | (unfold inI; omega) | (dsimp only; omega) | (unfold z47; omega) | ((try dsimp only); simp only [List.length_map, List.length_take, List.length_append, List.length_replicate, List.length_cons, List.length_nil]; omega) | (simp only [z58] at *; first | omega | (unfold inI; omega) | (unfold z47; omega)) | exact z6 (fun _ => rfl) | exact ⟨rfl, z14 rfl z20⟩ | exact ⟨rfl, z6 (fun _ => rfl) _⟩ | exact ⟨⟨rfl, by omega⟩, z6 (fun _ => rfl) _⟩); conv => whnf) | (with_reducible apply z9; omega; intro _; conv => whnf) | (with_reducible apply z21; omega; intro _; conv => whnf) | (apply z9; omega; intro _; conv => whnf) | (apply z22; omega; conv => whnf) | (apply z32; conv => whnf) | (apply z31; omega; intro _; conv => whnf) | (apply z30 <;> intro _ <;> conv => whnf) | (apply z19 <;> intro _ <;> conv => whnf) | (apply z29 <;> intro _ <;> conv => whnf) | (apply z45 <;> intro _ <;> conv => whnf) | (apply z17 <;> intro _ <;> conv => whnf) | (apply z13 <;> intro _ <;> conv => whnf) | (apply z18 <;> intro _ <;> conv => whnf) | (apply z28 <;> intro _ <;> conv => whnf) | (apply z34 (indexFunc_ints1 c l hl p f hf); rfl; rfl; conv => whnf))
  exact z76 rfl (by rw [← idxF_any])
end Go.Proofs.Ytkophaoifmofdaa

