/- A part of the proofs over this program: Tab, T3, T200, T4, T5, T6, T7, T8. -/
import Derived.Test.YtknlmbniicacmaaGreatG0
import Derived.Test.YtknlmbniicacmaaGreatG1
import Derived.Test.YtknlmbniicacmaaGreatG2
import Derived.Test.YtknlmbniicacmaaGreatG3
import Derived.Test.YtknlmbniicacmaaGreatProg
import Derived.KernelRfl
set_option linter.all false
/- The types of this translation, as the ghost logic asks for them. Written by a program. -/
namespace Go.Proofs.YtknlmbniicacmaaGreat
open Go.Gl
def tabL : List (Nat × TyI) := [
  (3, ⟨.int .i64, 1, 8, .int .i64 0⟩),
  (28, ⟨.slice 3, 1, 24, .slice none 0 0⟩),
  (99, ⟨.struct #[{ name := "Kind", type := 3, offset := 0, embedded := false, tag := "", pkgPath := "", byteOffset := 0 }, { name := "Atom", type := 3, offset := 1, embedded := false, tag := "", pkgPath := "", byteOffset := 8 }, { name := "Kids", type := 97, offset := 2, embedded := false, tag := "", pkgPath := "", byteOffset := 16 }], 3, 40, .agg #[.int .i64 0, .int .i64 0, .slice none 0 0]⟩),
  (26, ⟨.struct #[{ name := "States", type := 23, offset := 0, embedded := false, tag := "", pkgPath := "", byteOffset := 0 }, { name := "Next", type := 24, offset := 1, embedded := false, tag := "", pkgPath := "", byteOffset := 24 }], 2, 48, .agg #[.slice none 0 0, .slice none 0 0]⟩),
  (32, ⟨.struct #[{ name := "Initial", type := 28, offset := 0, embedded := false, tag := "", pkgPath := "", byteOffset := 0 }, { name := "Accepting", type := 29, offset := 1, embedded := false, tag := "", pkgPath := "", byteOffset := 24 }, { name := "Edges", type := 30, offset := 2, embedded := false, tag := "", pkgPath := "", byteOffset := 48 }], 3, 72, .agg #[.slice none 0 0, .slice none 0 0, .slice none 0 0]⟩),
  (97, ⟨.slice 99, 1, 24, .slice none 0 0⟩),
  (24, ⟨.slice 28, 1, 24, .slice none 0 0⟩),
  (159, ⟨.struct #[{ name := "Kind", type := 3, offset := 0, embedded := false, tag := "", pkgPath := "", byteOffset := 0 }, { name := "Value", type := 3, offset := 1, embedded := false, tag := "", pkgPath := "", byteOffset := 8 }, { name := "Kids", type := 27, offset := 2, embedded := false, tag := "", pkgPath := "", byteOffset := 16 }], 3, 40, .agg #[.int .i64 0, .int .i64 0, .slice none 0 0]⟩),
  (34, ⟨.struct #[{ name := "Ranks", type := 28, offset := 0, embedded := false, tag := "", pkgPath := "", byteOffset := 0 }], 1, 24, .agg #[.slice none 0 0]⟩),
  (29, ⟨.slice 4, 1, 24, .slice none 0 0⟩),
  (41, ⟨.struct #[{ name := "Stem", type := 28, offset := 0, embedded := false, tag := "", pkgPath := "", byteOffset := 0 }, { name := "Loop", type := 28, offset := 1, embedded := false, tag := "", pkgPath := "", byteOffset := 24 }], 2, 48, .agg #[.slice none 0 0, .slice none 0 0]⟩),
  (23, ⟨.slice 137, 1, 24, .slice none 0 0⟩),
  (30, ⟨.slice 191, 1, 24, .slice none 0 0⟩),
  (4, ⟨.bool, 1, 1, .bool false⟩),
  (137, ⟨.struct #[{ name := "Locs", type := 28, offset := 0, embedded := false, tag := "", pkgPath := "", byteOffset := 0 }, { name := "Vals", type := 28, offset := 1, embedded := false, tag := "", pkgPath := "", byteOffset := 24 }], 2, 48, .agg #[.slice none 0 0, .slice none 0 0]⟩),
  (27, ⟨.slice 159, 1, 24, .slice none 0 0⟩),
  (191, ⟨.struct #[{ name := "From", type := 3, offset := 0, embedded := false, tag := "", pkgPath := "", byteOffset := 0 }, { name := "Care", type := 3, offset := 1, embedded := false, tag := "", pkgPath := "", byteOffset := 8 }, { name := "Value", type := 3, offset := 2, embedded := false, tag := "", pkgPath := "", byteOffset := 16 }, { name := "To", type := 3, offset := 3, embedded := false, tag := "", pkgPath := "", byteOffset := 24 }], 4, 32, .agg #[.int .i64 0, .int .i64 0, .int .i64 0, .int .i64 0]⟩),
  (53, ⟨.struct #[{ name := "Stem", type := 28, offset := 0, embedded := false, tag := "", pkgPath := "", byteOffset := 0 }, { name := "Loop", type := 28, offset := 1, embedded := false, tag := "", pkgPath := "", byteOffset := 24 }], 2, 48, .agg #[.slice none 0 0, .slice none 0 0]⟩),
  (246, ⟨.struct #[{ name := "From", type := 3, offset := 0, embedded := false, tag := "", pkgPath := "", byteOffset := 0 }, { name := "To", type := 3, offset := 1, embedded := false, tag := "", pkgPath := "", byteOffset := 8 }, { name := "Guard", type := 159, offset := 2, embedded := false, tag := "", pkgPath := "", byteOffset := 16 }, { name := "Var", type := 3, offset := 5, embedded := false, tag := "", pkgPath := "", byteOffset := 56 }, { name := "Value", type := 159, offset := 6, embedded := false, tag := "", pkgPath := "", byteOffset := 64 }, { name := "Sync", type := 3, offset := 9, embedded := false, tag := "", pkgPath := "", byteOffset := 104 }], 10, 112, .agg #[.int .i64 0, .int .i64 0, .int .i64 0, .int .i64 0, .slice none 0 0, .int .i64 0, .int .i64 0, .int .i64 0, .slice none 0 0, .int .i64 0]⟩),
  (22, ⟨.slice 5, 1, 24, .slice none 0 0⟩),
  (196, ⟨.slice 244, 1, 24, .slice none 0 0⟩),
  (198, ⟨.struct #[{ name := "Init", type := 28, offset := 0, embedded := false, tag := "", pkgPath := "", byteOffset := 0 }, { name := "Processes", type := 196, offset := 1, embedded := false, tag := "", pkgPath := "", byteOffset := 24 }], 2, 48, .agg #[.slice none 0 0, .slice none 0 0]⟩),
  (242, ⟨.slice 246, 1, 24, .slice none 0 0⟩),
  (67, ⟨.struct #[{ name := "States", type := 65, offset := 0, embedded := false, tag := "", pkgPath := "", byteOffset := 0 }, { name := "Next", type := 24, offset := 1, embedded := false, tag := "", pkgPath := "", byteOffset := 24 }], 2, 48, .agg #[.slice none 0 0, .slice none 0 0]⟩),
  (244, ⟨.struct #[{ name := "Locations", type := 3, offset := 0, embedded := false, tag := "", pkgPath := "", byteOffset := 0 }, { name := "Edges", type := 242, offset := 1, embedded := false, tag := "", pkgPath := "", byteOffset := 8 }], 2, 32, .agg #[.int .i64 0, .slice none 0 0]⟩),
  (272, ⟨.slice 275, 1, 24, .slice none 0 0⟩),
  (329, ⟨.int .u64, 1, 8, .int .u64 0⟩),
  (275, ⟨.struct #[{ name := "set", type := 3, offset := 0, embedded := false, tag := "", pkgPath := "loop.example/ltlcheck/impl", byteOffset := 0 }, { name := "phase", type := 3, offset := 1, embedded := false, tag := "", pkgPath := "loop.example/ltlcheck/impl", byteOffset := 8 }], 2, 16, .agg #[.int .i64 0, .int .i64 0]⟩),
  (71, ⟨.struct #[{ name := "Initial", type := 28, offset := 0, embedded := false, tag := "", pkgPath := "", byteOffset := 0 }, { name := "Accepting", type := 29, offset := 1, embedded := false, tag := "", pkgPath := "", byteOffset := 24 }, { name := "Edges", type := 69, offset := 2, embedded := false, tag := "", pkgPath := "", byteOffset := 48 }], 3, 72, .agg #[.slice none 0 0, .slice none 0 0, .slice none 0 0]⟩),
  (92, ⟨.struct #[{ name := "Kind", type := 3, offset := 0, embedded := false, tag := "", pkgPath := "", byteOffset := 0 }, { name := "Atom", type := 3, offset := 1, embedded := false, tag := "", pkgPath := "", byteOffset := 8 }, { name := "Kids", type := 90, offset := 2, embedded := false, tag := "", pkgPath := "", byteOffset := 16 }], 3, 40, .agg #[.int .i64 0, .int .i64 0, .slice none 0 0]⟩),
  (5, ⟨.int .u8, 1, 1, .int .u8 0⟩),
  (236, ⟨.slice 240, 1, 24, .slice none 0 0⟩),
  (186, ⟨.struct #[{ name := "b", type := 22, offset := 0, embedded := false, tag := "", pkgPath := "loop.example/ltlcheck/spec", byteOffset := 0 }, { name := "p", type := 3, offset := 1, embedded := false, tag := "", pkgPath := "loop.example/ltlcheck/spec", byteOffset := 24 }], 2, 32, .agg #[.slice none 0 0, .int .i64 0]⟩),
  (257, ⟨.int .u64, 1, 8, .int .u64 0⟩),
  (271, ⟨.struct #[{ name := "basics", type := 97, offset := 0, embedded := false, tag := "", pkgPath := "loop.example/ltlcheck/impl", byteOffset := 0 }, { name := "untils", type := 28, offset := 1, embedded := false, tag := "", pkgPath := "loop.example/ltlcheck/impl", byteOffset := 24 }], 2, 48, .agg #[.slice none 0 0, .slice none 0 0]⟩),
  (240, ⟨.struct #[{ name := "Process", type := 3, offset := 0, embedded := false, tag := "", pkgPath := "", byteOffset := 0 }, { name := "Edge", type := 3, offset := 1, embedded := false, tag := "", pkgPath := "", byteOffset := 8 }, { name := "Partner", type := 3, offset := 2, embedded := false, tag := "", pkgPath := "", byteOffset := 16 }, { name := "PartnerEdge", type := 3, offset := 3, embedded := false, tag := "", pkgPath := "", byteOffset := 24 }], 4, 32, .agg #[.int .i64 0, .int .i64 0, .int .i64 0, .int .i64 0]⟩),
  (65, ⟨.slice 210, 1, 24, .slice none 0 0⟩),
  (68, ⟨.slice 153, 1, 24, .slice none 0 0⟩),
  (90, ⟨.slice 92, 1, 24, .slice none 0 0⟩),
  (269, ⟨.pointer 271, 1, 8, .pointer none⟩),
  (303, ⟨.map 275 3, 1, 8, .map none⟩),
  (307, ⟨.struct #[{ name := "care", type := 3, offset := 0, embedded := false, tag := "", pkgPath := "loop.example/ltlcheck/impl", byteOffset := 0 }, { name := "value", type := 3, offset := 1, embedded := false, tag := "", pkgPath := "loop.example/ltlcheck/impl", byteOffset := 8 }, { name := "to", type := 275, offset := 2, embedded := false, tag := "", pkgPath := "loop.example/ltlcheck/impl", byteOffset := 16 }], 4, 32, .agg #[.int .i64 0, .int .i64 0, .int .i64 0, .int .i64 0]⟩),
  (321, ⟨.int .u64, 1, 8, .int .u64 0⟩),
  (93, ⟨.struct #[{ name := "Ranks", type := 28, offset := 0, embedded := false, tag := "", pkgPath := "", byteOffset := 0 }], 1, 24, .agg #[.slice none 0 0]⟩),
  (153, ⟨.struct #[{ name := "Kind", type := 3, offset := 0, embedded := false, tag := "", pkgPath := "", byteOffset := 0 }, { name := "Value", type := 3, offset := 1, embedded := false, tag := "", pkgPath := "", byteOffset := 8 }, { name := "Kids", type := 68, offset := 2, embedded := false, tag := "", pkgPath := "", byteOffset := 16 }], 3, 40, .agg #[.int .i64 0, .int .i64 0, .slice none 0 0]⟩),
  (69, ⟨.slice 216, 1, 24, .slice none 0 0⟩),
  (210, ⟨.struct #[{ name := "Locs", type := 28, offset := 0, embedded := false, tag := "", pkgPath := "", byteOffset := 0 }, { name := "Vals", type := 28, offset := 1, embedded := false, tag := "", pkgPath := "", byteOffset := 24 }], 2, 48, .agg #[.slice none 0 0, .slice none 0 0]⟩),
  (291, ⟨.pointer 3, 1, 8, .pointer none⟩),
  (319, ⟨.int .u32, 1, 4, .int .u32 0⟩),
  (216, ⟨.struct #[{ name := "From", type := 3, offset := 0, embedded := false, tag := "", pkgPath := "", byteOffset := 0 }, { name := "Care", type := 3, offset := 1, embedded := false, tag := "", pkgPath := "", byteOffset := 8 }, { name := "Value", type := 3, offset := 2, embedded := false, tag := "", pkgPath := "", byteOffset := 16 }, { name := "To", type := 3, offset := 3, embedded := false, tag := "", pkgPath := "", byteOffset := 24 }], 4, 32, .agg #[.int .i64 0, .int .i64 0, .int .i64 0, .int .i64 0]⟩),
  (295, ⟨.map 3 3, 1, 8, .map none⟩),
  (305, ⟨.slice 307, 1, 24, .slice none 0 0⟩),
  (189, ⟨.slice 30, 1, 24, .slice none 0 0⟩),
  (207, ⟨.func #[3] #[] false, 1, 8, .nilFunc⟩),
  (335, ⟨.func #[99] #[] false, 1, 8, .nilFunc⟩),
  (312, ⟨.int .i64, 1, 8, .int .i64 0⟩),
  (9, ⟨.string, 1, 16, .string ⟨#[]⟩⟩)]
def tab : Tab := tabGet tabL
theorem inf3 : (Tryz.prog.info? 3).map (fun j => (j.zero, j.size, j.bytes)) = some (some (.int .i64 0), 1, 8) := by kernel_rfl
theorem inf28 : (Tryz.prog.info? 28).map (fun j => (j.zero, j.size, j.bytes)) = some (some (.slice none 0 0), 1, 24) := by kernel_rfl
theorem inf99 : (Tryz.prog.info? 99).map (fun j => (j.zero, j.size, j.bytes)) = some (some (.agg #[.int .i64 0, .int .i64 0, .slice none 0 0]), 3, 40) := by kernel_rfl
theorem inf26 : (Tryz.prog.info? 26).map (fun j => (j.zero, j.size, j.bytes)) = some (some (.agg #[.slice none 0 0, .slice none 0 0]), 2, 48) := by kernel_rfl
theorem inf32 : (Tryz.prog.info? 32).map (fun j => (j.zero, j.size, j.bytes)) = some (some (.agg #[.slice none 0 0, .slice none 0 0, .slice none 0 0]), 3, 72) := by kernel_rfl
theorem inf97 : (Tryz.prog.info? 97).map (fun j => (j.zero, j.size, j.bytes)) = some (some (.slice none 0 0), 1, 24) := by kernel_rfl
theorem inf24 : (Tryz.prog.info? 24).map (fun j => (j.zero, j.size, j.bytes)) = some (some (.slice none 0 0), 1, 24) := by kernel_rfl
theorem inf159 : (Tryz.prog.info? 159).map (fun j => (j.zero, j.size, j.bytes)) = some (some (.agg #[.int .i64 0, .int .i64 0, .slice none 0 0]), 3, 40) := by kernel_rfl
theorem inf34 : (Tryz.prog.info? 34).map (fun j => (j.zero, j.size, j.bytes)) = some (some (.agg #[.slice none 0 0]), 1, 24) := by kernel_rfl
theorem inf29 : (Tryz.prog.info? 29).map (fun j => (j.zero, j.size, j.bytes)) = some (some (.slice none 0 0), 1, 24) := by kernel_rfl
theorem inf41 : (Tryz.prog.info? 41).map (fun j => (j.zero, j.size, j.bytes)) = some (some (.agg #[.slice none 0 0, .slice none 0 0]), 2, 48) := by kernel_rfl
theorem inf23 : (Tryz.prog.info? 23).map (fun j => (j.zero, j.size, j.bytes)) = some (some (.slice none 0 0), 1, 24) := by kernel_rfl
theorem inf30 : (Tryz.prog.info? 30).map (fun j => (j.zero, j.size, j.bytes)) = some (some (.slice none 0 0), 1, 24) := by kernel_rfl
theorem inf4 : (Tryz.prog.info? 4).map (fun j => (j.zero, j.size, j.bytes)) = some (some (.bool false), 1, 1) := by kernel_rfl
theorem inf137 : (Tryz.prog.info? 137).map (fun j => (j.zero, j.size, j.bytes)) = some (some (.agg #[.slice none 0 0, .slice none 0 0]), 2, 48) := by kernel_rfl
theorem inf27 : (Tryz.prog.info? 27).map (fun j => (j.zero, j.size, j.bytes)) = some (some (.slice none 0 0), 1, 24) := by kernel_rfl
theorem inf191 : (Tryz.prog.info? 191).map (fun j => (j.zero, j.size, j.bytes)) = some (some (.agg #[.int .i64 0, .int .i64 0, .int .i64 0, .int .i64 0]), 4, 32) := by kernel_rfl
theorem inf53 : (Tryz.prog.info? 53).map (fun j => (j.zero, j.size, j.bytes)) = some (some (.agg #[.slice none 0 0, .slice none 0 0]), 2, 48) := by kernel_rfl
theorem inf246 : (Tryz.prog.info? 246).map (fun j => (j.zero, j.size, j.bytes)) = some (some (.agg #[.int .i64 0, .int .i64 0, .int .i64 0, .int .i64 0, .slice none 0 0, .int .i64 0, .int .i64 0, .int .i64 0, .slice none 0 0, .int .i64 0]), 10, 112) := by kernel_rfl
theorem inf22 : (Tryz.prog.info? 22).map (fun j => (j.zero, j.size, j.bytes)) = some (some (.slice none 0 0), 1, 24) := by kernel_rfl
theorem inf196 : (Tryz.prog.info? 196).map (fun j => (j.zero, j.size, j.bytes)) = some (some (.slice none 0 0), 1, 24) := by kernel_rfl
theorem inf198 : (Tryz.prog.info? 198).map (fun j => (j.zero, j.size, j.bytes)) = some (some (.agg #[.slice none 0 0, .slice none 0 0]), 2, 48) := by kernel_rfl
theorem inf242 : (Tryz.prog.info? 242).map (fun j => (j.zero, j.size, j.bytes)) = some (some (.slice none 0 0), 1, 24) := by kernel_rfl
theorem inf67 : (Tryz.prog.info? 67).map (fun j => (j.zero, j.size, j.bytes)) = some (some (.agg #[.slice none 0 0, .slice none 0 0]), 2, 48) := by kernel_rfl
theorem inf244 : (Tryz.prog.info? 244).map (fun j => (j.zero, j.size, j.bytes)) = some (some (.agg #[.int .i64 0, .slice none 0 0]), 2, 32) := by kernel_rfl
theorem inf272 : (Tryz.prog.info? 272).map (fun j => (j.zero, j.size, j.bytes)) = some (some (.slice none 0 0), 1, 24) := by kernel_rfl
theorem inf329 : (Tryz.prog.info? 329).map (fun j => (j.zero, j.size, j.bytes)) = some (some (.int .u64 0), 1, 8) := by kernel_rfl
theorem inf275 : (Tryz.prog.info? 275).map (fun j => (j.zero, j.size, j.bytes)) = some (some (.agg #[.int .i64 0, .int .i64 0]), 2, 16) := by kernel_rfl
theorem inf71 : (Tryz.prog.info? 71).map (fun j => (j.zero, j.size, j.bytes)) = some (some (.agg #[.slice none 0 0, .slice none 0 0, .slice none 0 0]), 3, 72) := by kernel_rfl
theorem inf92 : (Tryz.prog.info? 92).map (fun j => (j.zero, j.size, j.bytes)) = some (some (.agg #[.int .i64 0, .int .i64 0, .slice none 0 0]), 3, 40) := by kernel_rfl
theorem inf5 : (Tryz.prog.info? 5).map (fun j => (j.zero, j.size, j.bytes)) = some (some (.int .u8 0), 1, 1) := by kernel_rfl
theorem inf236 : (Tryz.prog.info? 236).map (fun j => (j.zero, j.size, j.bytes)) = some (some (.slice none 0 0), 1, 24) := by kernel_rfl
theorem inf186 : (Tryz.prog.info? 186).map (fun j => (j.zero, j.size, j.bytes)) = some (some (.agg #[.slice none 0 0, .int .i64 0]), 2, 32) := by kernel_rfl
theorem inf257 : (Tryz.prog.info? 257).map (fun j => (j.zero, j.size, j.bytes)) = some (some (.int .u64 0), 1, 8) := by kernel_rfl
theorem inf271 : (Tryz.prog.info? 271).map (fun j => (j.zero, j.size, j.bytes)) = some (some (.agg #[.slice none 0 0, .slice none 0 0]), 2, 48) := by kernel_rfl
theorem inf240 : (Tryz.prog.info? 240).map (fun j => (j.zero, j.size, j.bytes)) = some (some (.agg #[.int .i64 0, .int .i64 0, .int .i64 0, .int .i64 0]), 4, 32) := by kernel_rfl
theorem inf65 : (Tryz.prog.info? 65).map (fun j => (j.zero, j.size, j.bytes)) = some (some (.slice none 0 0), 1, 24) := by kernel_rfl
theorem inf68 : (Tryz.prog.info? 68).map (fun j => (j.zero, j.size, j.bytes)) = some (some (.slice none 0 0), 1, 24) := by kernel_rfl
theorem inf90 : (Tryz.prog.info? 90).map (fun j => (j.zero, j.size, j.bytes)) = some (some (.slice none 0 0), 1, 24) := by kernel_rfl
theorem inf269 : (Tryz.prog.info? 269).map (fun j => (j.zero, j.size, j.bytes)) = some (some (.pointer none), 1, 8) := by kernel_rfl
theorem inf303 : (Tryz.prog.info? 303).map (fun j => (j.zero, j.size, j.bytes)) = some (some (.map none), 1, 8) := by kernel_rfl
theorem inf307 : (Tryz.prog.info? 307).map (fun j => (j.zero, j.size, j.bytes)) = some (some (.agg #[.int .i64 0, .int .i64 0, .int .i64 0, .int .i64 0]), 4, 32) := by kernel_rfl
theorem inf321 : (Tryz.prog.info? 321).map (fun j => (j.zero, j.size, j.bytes)) = some (some (.int .u64 0), 1, 8) := by kernel_rfl
theorem inf93 : (Tryz.prog.info? 93).map (fun j => (j.zero, j.size, j.bytes)) = some (some (.agg #[.slice none 0 0]), 1, 24) := by kernel_rfl
theorem inf153 : (Tryz.prog.info? 153).map (fun j => (j.zero, j.size, j.bytes)) = some (some (.agg #[.int .i64 0, .int .i64 0, .slice none 0 0]), 3, 40) := by kernel_rfl
theorem inf69 : (Tryz.prog.info? 69).map (fun j => (j.zero, j.size, j.bytes)) = some (some (.slice none 0 0), 1, 24) := by kernel_rfl
theorem inf210 : (Tryz.prog.info? 210).map (fun j => (j.zero, j.size, j.bytes)) = some (some (.agg #[.slice none 0 0, .slice none 0 0]), 2, 48) := by kernel_rfl
theorem inf291 : (Tryz.prog.info? 291).map (fun j => (j.zero, j.size, j.bytes)) = some (some (.pointer none), 1, 8) := by kernel_rfl
theorem inf319 : (Tryz.prog.info? 319).map (fun j => (j.zero, j.size, j.bytes)) = some (some (.int .u32 0), 1, 4) := by kernel_rfl
theorem inf216 : (Tryz.prog.info? 216).map (fun j => (j.zero, j.size, j.bytes)) = some (some (.agg #[.int .i64 0, .int .i64 0, .int .i64 0, .int .i64 0]), 4, 32) := by kernel_rfl
theorem inf295 : (Tryz.prog.info? 295).map (fun j => (j.zero, j.size, j.bytes)) = some (some (.map none), 1, 8) := by kernel_rfl
theorem inf305 : (Tryz.prog.info? 305).map (fun j => (j.zero, j.size, j.bytes)) = some (some (.slice none 0 0), 1, 24) := by kernel_rfl
theorem inf189 : (Tryz.prog.info? 189).map (fun j => (j.zero, j.size, j.bytes)) = some (some (.slice none 0 0), 1, 24) := by kernel_rfl
theorem inf207 : (Tryz.prog.info? 207).map (fun j => (j.zero, j.size, j.bytes)) = some (some (.nilFunc), 1, 8) := by kernel_rfl
theorem inf335 : (Tryz.prog.info? 335).map (fun j => (j.zero, j.size, j.bytes)) = some (some (.nilFunc), 1, 8) := by kernel_rfl
theorem inf312 : (Tryz.prog.info? 312).map (fun j => (j.zero, j.size, j.bytes)) = some (some (.int .i64 0), 1, 8) := by kernel_rfl
theorem inf9 : (Tryz.prog.info? 9).map (fun j => (j.zero, j.size, j.bytes)) = some (some (.string ⟨#[]⟩), 1, 16) := by kernel_rfl
theorem z28 : z104 Tryz.prog tab := tabOk_of (⟨z44 Tryz.underlying3 inf3, ⟨z44 Tryz.underlying28 inf28, ⟨z44 Tryz.underlying99 inf99, ⟨z44 Tryz.underlying26 inf26, ⟨z44 Tryz.underlying32 inf32, ⟨z44 Tryz.underlying97 inf97, ⟨z44 Tryz.underlying24 inf24, ⟨z44 Tryz.underlying159 inf159, ⟨z44 Tryz.underlying34 inf34, ⟨z44 Tryz.underlying29 inf29, ⟨z44 Tryz.underlying41 inf41, ⟨z44 Tryz.underlying23 inf23, ⟨z44 Tryz.underlying30 inf30, ⟨z44 Tryz.underlying4 inf4, ⟨z44 Tryz.underlying137 inf137, ⟨z44 Tryz.underlying27 inf27, ⟨z44 Tryz.underlying191 inf191, ⟨z44 Tryz.underlying53 inf53, ⟨z44 Tryz.underlying246 inf246, ⟨z44 Tryz.underlying22 inf22, ⟨z44 Tryz.underlying196 inf196, ⟨z44 Tryz.underlying198 inf198, ⟨z44 Tryz.underlying242 inf242, ⟨z44 Tryz.underlying67 inf67, ⟨z44 Tryz.underlying244 inf244, ⟨z44 Tryz.underlying272 inf272, ⟨z44 Tryz.underlying329 inf329, ⟨z44 Tryz.underlying275 inf275, ⟨z44 Tryz.underlying71 inf71, ⟨z44 Tryz.underlying92 inf92, ⟨z44 Tryz.underlying5 inf5, ⟨z44 Tryz.underlying236 inf236, ⟨z44 Tryz.underlying186 inf186, ⟨z44 Tryz.underlying257 inf257, ⟨z44 Tryz.underlying271 inf271, ⟨z44 Tryz.underlying240 inf240, ⟨z44 Tryz.underlying65 inf65, ⟨z44 Tryz.underlying68 inf68, ⟨z44 Tryz.underlying90 inf90, ⟨z44 Tryz.underlying269 inf269, ⟨z44 Tryz.underlying303 inf303, ⟨z44 Tryz.underlying307 inf307, ⟨z44 Tryz.underlying321 inf321, ⟨z44 Tryz.underlying93 inf93, ⟨z44 Tryz.underlying153 inf153, ⟨z44 Tryz.underlying69 inf69, ⟨z44 Tryz.underlying210 inf210, ⟨z44 Tryz.underlying291 inf291, ⟨z44 Tryz.underlying319 inf319, ⟨z44 Tryz.underlying216 inf216, ⟨z44 Tryz.underlying295 inf295, ⟨z44 Tryz.underlying305 inf305, ⟨z44 Tryz.underlying189 inf189, ⟨z44 Tryz.underlying207 inf207, ⟨z44 Tryz.underlying335 inf335, ⟨z44 Tryz.underlying312 inf312, ⟨z44 Tryz.underlying9 inf9, trivial⟩⟩⟩⟩⟩⟩⟩⟩⟩⟩⟩⟩⟩⟩⟩⟩⟩⟩⟩⟩⟩⟩⟩⟩⟩⟩⟩⟩⟩⟩⟩⟩⟩⟩⟩⟩⟩⟩⟩⟩⟩⟩⟩⟩⟩⟩⟩⟩⟩⟩⟩⟩⟩⟩⟩⟩⟩)
end Go.Proofs.YtknlmbniicacmaaGreat

namespace Go.Proofs.YtknlmbniicacmaaGreat
open Go.Gl
attribute [local irreducible] z22
def enI (n : Int) : List AC := [.int n]
def ints (l : List Int) : AC := .list 1 l.length (l.map enI)
/-- what is left of n behind s -/
def bud (n : Int) (s : Nat) : Int := if n - s < 0 then -1 else n - s

theorem ok : Ok Tryz.prog tab := ⟨z28, by kernel_rfl⟩

structure State where
  a : List Int
  b : List Int
  deriving DecidableEq
def State.cs (s : State) : List AC := [ints s.a, ints s.b]
def State.mx (s : State) : Prop := s.a.length ≤ maxLen ∧ s.b.length ≤ maxLen
def State.sz (s : State) : Nat := s.a.length + s.b.length

theorem szIntS_ok (l : List Int) (n : Int) (hl : l.length ≤ maxLen) (h0 : 0 ≤ n) (h1 : n ≤ 1048576) : CallsA Tryz.prog 115 [ints l, .int n] [] (.int (bud n l.length)) [] := by
  unfold maxLen at hl
  refine z7 z28 Tryz.func115 rfl rfl 12 Tryz.ntmps115 (by simp) ?_
  repeat (first | refine AWP.go ok _ _ _ _ _ rfl ?_ | refine z5 (by kernel_rfl) ?_ | refine And.intro (by first | omega | (unfold inI; omega) | (dsimp only; omega)) ?_)
  refine z2 (fun h => ?_) (fun h => ?_)
  · repeat (first | refine AWP.go ok _ _ _ _ _ rfl ?_ | refine z5 (by kernel_rfl) ?_ | refine And.intro (by first | omega | (unfold inI; omega) | (dsimp only; omega)) ?_)
    have : bud n l.length = -1 := by unfold bud; rw [if_pos h]
    rw [this]
    exact ⟨[], by decide, rfl, rfl, ACle.of_eq rfl, trivial⟩
  · repeat (first | refine AWP.go ok _ _ _ _ _ rfl ?_ | refine z5 (by kernel_rfl) ?_ | refine And.intro (by first | omega | (unfold inI; omega) | (dsimp only; omega)) ?_)
    have : bud n l.length = n - l.length := by unfold bud; rw [if_neg h]
    rw [this]
    exact ⟨[], by decide, rfl, rfl, ACle.of_eq rfl, trivial⟩

theorem szState_ok (s : State) (n : Int) (hs : s.mx) (h0 : 0 ≤ n) (h1 : n ≤ 1048576) : CallsA Tryz.prog 187 [.agg s.cs, .int n] [] (.int (bud n s.sz)) [] := by
  refine z7 z28 Tryz.func187 rfl rfl 18 Tryz.ntmps187 (by simp) ?_
  repeat (first | refine AWP.go ok _ _ _ _ _ rfl ?_ | refine z5 (by kernel_rfl) ?_ | refine And.intro (by first | omega | (unfold inI; omega) | (dsimp only; omega)) ?_)
  refine z4 (szIntS_ok s.a n hs.1 h0 h1) ?_ ?_ ?_
  · rfl
  · rfl
  repeat (first | refine AWP.go ok _ _ _ _ _ rfl ?_ | refine z5 (by kernel_rfl) ?_ | refine And.intro (by first | omega | (unfold inI; omega) | (dsimp only; omega)) ?_)
  refine z2 (fun h => ?_) (fun h => ?_)
  · repeat (first | refine AWP.go ok _ _ _ _ _ rfl ?_ | refine z5 (by kernel_rfl) ?_ | refine And.intro (by first | omega | (unfold inI; omega) | (dsimp only; omega)) ?_)
    have : bud n s.sz = -1 := by unfold bud at h ⊢; unfold State.sz; split at h <;> split <;> omega
    rw [this]
    exact ⟨[], by decide, rfl, rfl, ACle.of_eq rfl, trivial⟩
  · have e : bud n s.a.length = n - s.a.length := by unfold bud at h ⊢; split at h <;> split <;> omega
    rw [e] at h ⊢
    repeat (first | refine AWP.go ok _ _ _ _ _ rfl ?_ | refine z5 (by kernel_rfl) ?_ | refine And.intro (by first | omega | (unfold inI; omega) | (dsimp only; omega)) ?_)
    refine z4 (szIntS_ok s.b (n - s.a.length) hs.2 (by omega) (by omega)) ?_ ?_ ?_
    · rfl
    · rfl
    repeat (first | refine AWP.go ok _ _ _ _ _ rfl ?_ | refine z5 (by kernel_rfl) ?_ | refine And.intro (by first | omega | (unfold inI; omega) | (dsimp only; omega)) ?_)
    have e2 : bud n s.sz = bud (n - s.a.length) s.b.length := by unfold bud State.sz; split <;> split <;> omega
    rw [e2]
    refine z2 (fun h => ?_) (fun h => ?_)
    · repeat (first | refine AWP.go ok _ _ _ _ _ rfl ?_ | refine z5 (by kernel_rfl) ?_ | refine And.intro (by first | omega | (unfold inI; omega) | (dsimp only; omega)) ?_)
      have : bud (n - s.a.length) s.b.length = -1 := by unfold bud at h ⊢; split at h <;> split <;> omega
      rw [this]
      exact ⟨[], by decide, rfl, rfl, ACle.of_eq rfl, trivial⟩
    · repeat (first | refine AWP.go ok _ _ _ _ _ rfl ?_ | refine z5 (by kernel_rfl) ?_ | refine And.intro (by first | omega | (unfold inI; omega) | (dsimp only; omega)) ?_)
      exact ⟨[], by decide, rfl, rfl, ACle.of_eq rfl, trivial⟩
def lst {α : Type} (w : Nat) (e : α → List AC) (l : List α) : AC := .list w l.length (l.map e)
def tot {α : Type} (f : α → Nat) (l : List α) : Nat := l.length + (l.map f).sum
theorem sum_take {α : Type} (f : α → Nat) (l : List α) (k : Nat) (hk : k < l.length) : ((l.take (k + 1)).map f).sum = ((l.take k).map f).sum + f l[k] := by
  rw [List.take_succ_eq_append_getElem hk, List.map_append, List.sum_append]; simp only [List.map_cons, List.map_nil, List.sum_cons, List.sum_nil, Nat.add_zero]
theorem sum_take_le {α : Type} (f : α → Nat) (l : List α) (k : Nat) : ((l.take k).map f).sum ≤ (l.map f).sum := by
  conv => rhs; rw [← List.take_append_drop k l, List.map_append, List.sum_append]
  omega

def State.mxs (l : List State) : Prop := l.length ≤ maxLen ∧ ∀ s ∈ l, s.mx

theorem szStateS_ok (l : List State) (n : Int) (hl : State.mxs l) (h0 : 0 ≤ n) (h1 : n ≤ 1048576) : CallsA Tryz.prog 112 [lst 2 State.cs l, .int n] [] (.int (bud n (tot State.sz l))) [] := by
  obtain ⟨hl, hm⟩ := hl
  unfold maxLen at hl
  refine z7 z28 Tryz.func112 rfl rfl 27 Tryz.ntmps112 (by simp) ?_
  repeat (first | refine AWP.go ok _ _ _ _ _ rfl ?_ | refine z5 (by kernel_rfl) ?_ | refine And.intro (by first | omega | (unfold inI; omega) | (dsimp only; omega)) ?_)
  refine z2 (fun h => ?_) (fun h => ?_)
  · repeat (first | refine AWP.go ok _ _ _ _ _ rfl ?_ | refine z5 (by kernel_rfl) ?_ | refine And.intro (by first | omega | (unfold inI; omega) | (dsimp only; omega)) ?_)
    have : bud n (tot State.sz l) = -1 := by unfold bud tot; rw [if_pos (by omega)]
    rw [this]
    exact ⟨[], by decide, rfl, rfl, ACle.of_eq rfl, trivial⟩
  · repeat (first | refine AWP.go ok _ _ _ _ _ rfl ?_ | refine z5 (by kernel_rfl) ?_ | refine And.intro (by first | omega | (unfold inI; omega) | (dsimp only; omega)) ?_)
    refine z93 (fun k : Nat => ([(0, lst 2 State.cs l), (1, .int (n - l.length - ((l.take k).map State.sz).sum)), (5, .int k)], [])) (fun k => k ≤ l.length ∧ 0 ≤ n - l.length - ((l.take k).map State.sz).sum) (fun k => l.length - k) 0 ⟨by omega, by simp; omega⟩
      ⟨[], rfl, by decide, rfl, ⟨⟨rfl, rfl⟩, ⟨rfl, by simp; rfl⟩, ⟨rfl, rfl⟩, trivial⟩, trivial⟩ ?_
    intro k hk
    obtain ⟨hk1, hk2⟩ := hk
    repeat (first | refine AWP.go ok _ _ _ _ _ rfl ?_ | refine z5 (by kernel_rfl) ?_ | refine And.intro (by first | omega | (unfold inI; omega) | (dsimp only; omega)) ?_)
    refine z2 (fun h => ?_) (fun h => ?_)
    · have hkl : k < l.length := by omega
      repeat (first | refine AWP.go ok _ _ _ _ _ rfl ?_ | refine z5 (by kernel_rfl) ?_ | refine And.intro (by first | omega | (unfold inI; omega) | (dsimp only; omega)) ?_)
      refine ⟨_, z86 _ _ _ hkl, ?_⟩
      repeat (first | refine AWP.go ok _ _ _ _ _ rfl ?_ | refine z5 (by kernel_rfl) ?_ | refine And.intro (by first | omega | (unfold inI; omega) | (dsimp only; omega)) ?_)
      refine z4 (szState_ok l[k] _ (hm _ (List.getElem_mem _)) hk2 (by omega)) ?_ ?_ ?_
      · rfl
      · rfl
      repeat (first | refine AWP.go ok _ _ _ _ _ rfl ?_ | refine z5 (by kernel_rfl) ?_ | refine And.intro (by first | omega | (unfold inI; omega) | (dsimp only; omega)) ?_)
      have e := sum_take State.sz l k hkl
      have e2 := sum_take_le State.sz l (k + 1)
      refine z2 (fun h => ?_) (fun h => ?_)
      · repeat (first | refine AWP.go ok _ _ _ _ _ rfl ?_ | refine z5 (by kernel_rfl) ?_ | refine And.intro (by first | omega | (unfold inI; omega) | (dsimp only; omega)) ?_)
        have : bud n (tot State.sz l) = -1 := by unfold bud at h ⊢; unfold tot; split at h <;> rw [if_pos (by omega)] <;> omega
        rw [this]
        exact ⟨[], by decide, rfl, rfl, ACle.of_eq rfl, trivial⟩
      · repeat (first | refine AWP.go ok _ _ _ _ _ rfl ?_ | refine z5 (by kernel_rfl) ?_ | refine And.intro (by first | omega | (unfold inI; omega) | (dsimp only; omega)) ?_)
        have e3 : bud (n - l.length - ((l.take k).map State.sz).sum) l[k].sz = n - l.length - ((l.take (k + 1)).map State.sz).sum := by unfold bud at h ⊢; split at h <;> rename_i hh <;> (first | rw [if_pos hh] | rw [if_neg hh]) <;> omega
        refine ⟨k + 1, [], ⟨by omega, ?_⟩, by omega, rfl, by decide, rfl, ⟨⟨rfl, rfl⟩, ⟨rfl, ?_⟩, ⟨rfl, rfl⟩, trivial⟩, trivial⟩
        · rw [← e3]; omega
        · rw [← e3]; rfl
    · repeat (first | refine AWP.go ok _ _ _ _ _ rfl ?_ | refine z5 (by kernel_rfl) ?_ | refine And.intro (by first | omega | (unfold inI; omega) | (dsimp only; omega)) ?_)
      obtain rfl : k = l.length := by omega
      rw [List.take_length] at hk2
      have : bud n (tot State.sz l) = n - l.length - (l.map State.sz).sum := by unfold bud tot; rw [if_neg (by omega)]; omega
      rw [this, List.take_length]
      exact ⟨[], by decide, rfl, rfl, ACle.of_eq rfl, trivial⟩
theorem toIntS_ok (l : List Int) (hl : l.length ≤ 1048576) : CallsA Tryz.prog 122 [ints l] [] (ints l) [] := by
  refine z7 z28 Tryz.func122 rfl rfl 22 Tryz.ntmps122 (by simp) ?_
  repeat (first | refine AWP.go ok _ _ _ _ _ rfl ?_ | refine z5 (by kernel_rfl) ?_ | refine And.intro (by first | omega | (unfold inI; omega) | (dsimp only; omega)) ?_)
  refine z93 (fun k : Nat => ([(0, ints l), (3, .sref 0 0 l.length), (4, .int k)], [.cells 1 ((l.take k).map enI ++ List.replicate (l.length - k) (enI 0))])) (fun k => k ≤ l.length) (fun k => l.length - k) 0 (by omega)
    ⟨[0], rfl, by decide, rfl, ⟨⟨rfl, rfl⟩, ⟨rfl, rfl⟩, ⟨rfl, rfl⟩, trivial⟩, ⟨z10 (by rfl) (z9 (z0 fun _ => rfl) (z1 rfl)), trivial⟩⟩ ?_
  · intro k hk
    repeat (first | refine AWP.go ok _ _ _ _ _ rfl ?_ | refine z5 (by kernel_rfl) ?_ | refine And.intro (by first | omega | (unfold inI; omega) | (dsimp only; omega)) ?_)
    refine z2 (fun h => ?_) (fun h => ?_)
    · repeat (first | refine AWP.go ok _ _ _ _ _ rfl ?_ | refine z5 (by kernel_rfl) ?_ | refine And.intro (by first | omega | (unfold inI; omega) | (dsimp only; omega)) ?_)
      refine ⟨_, z86 _ _ _ (by omega), ?_⟩
      repeat (first | refine AWP.go ok _ _ _ _ _ rfl ?_ | refine z5 (by kernel_rfl) ?_ | refine And.intro (by first | omega | (unfold inI; omega) | (dsimp only; omega)) ?_)
      refine ⟨enI 0, fill_get _ _ _ _ (by omega), ?_⟩
      repeat (first | refine AWP.go ok _ _ _ _ _ rfl ?_ | refine z5 (by kernel_rfl) ?_ | refine And.intro (by first | omega | (unfold inI; omega) | (dsimp only; omega)) ?_)
      exact ⟨k + 1, [0], by omega, by omega, rfl, by decide, rfl, ⟨⟨rfl, rfl⟩, ⟨rfl, rfl⟩, ⟨rfl, rfl⟩, trivial⟩, ⟨z10 (z16 (fill_set _ _ _ _ (by omega))) (z9 (z0 fun _ => rfl) (z1 rfl)), trivial⟩⟩
    · refine AWP.go ok _ _ _ _ _ rfl ?_
      obtain rfl : k = l.length := by omega
      refine AWP.reach (SealL.reach (π := []) (Bn := [0]) (env := [(3, ints l)]) (objs := []) ⟨rfl, rfl, by simp, rfl, by simp, ⟨?_, trivial⟩, rfl⟩) ?_
      · exact bor_seal rfl rfl rfl (by simp) (z98 (fun a x hx => by cases hx with | head => rfl | tail _ h => cases h) l) (by simp)
      repeat (first | refine AWP.go ok _ _ _ _ _ rfl ?_ | refine z5 (by kernel_rfl) ?_ | refine And.intro (by first | omega | (unfold inI; omega) | (dsimp only; omega)) ?_)
      exact ⟨[], by decide, rfl, rfl, ACle.of_eq rfl, trivial⟩
def State.small (s : State) : Prop := s.a.length ≤ 1048576 ∧ s.b.length ≤ 1048576

theorem toState_ok (s : State) (hs : s.small) : CallsA Tryz.prog 192 [.agg s.cs] [] (.agg s.cs) [] := by
  refine z7 z28 Tryz.func192 rfl rfl 13 Tryz.ntmps192 (by simp) ?_
  repeat (first | refine AWP.go ok _ _ _ _ _ rfl ?_ | refine z5 (by kernel_rfl) ?_ | refine And.intro (by first | omega | (unfold inI; omega) | (dsimp only; omega)) ?_)
  refine z4 (toIntS_ok s.a hs.1) ?_ ?_ ?_
  · rfl
  · rfl
  repeat (first | refine AWP.go ok _ _ _ _ _ rfl ?_ | refine z5 (by kernel_rfl) ?_ | refine And.intro (by first | omega | (unfold inI; omega) | (dsimp only; omega)) ?_)
  refine z4 (toIntS_ok s.b hs.2) ?_ ?_ ?_
  · rfl
  · rfl
  repeat (first | refine AWP.go ok _ _ _ _ _ rfl ?_ | refine z5 (by kernel_rfl) ?_ | refine And.intro (by first | omega | (unfold inI; omega) | (dsimp only; omega)) ?_)
  exact ⟨[], by decide, rfl, rfl, ACle.of_eq rfl, trivial⟩

theorem State.unown (s : State) : ∀ x ∈ s.cs, x.unown = x := fun x hx => by
  simp only [State.cs, List.mem_cons, List.not_mem_nil, or_false] at hx
  rcases hx with rfl | rfl <;> rfl

theorem toStateS_ok (l : List State) (hl : l.length ≤ 1048576) (hs : ∀ s ∈ l, s.small) : CallsA Tryz.prog 119 [lst 2 State.cs l] [] (lst 2 State.cs l) [] := by
  refine z7 z28 Tryz.func119 rfl rfl 23 Tryz.ntmps119 (by simp) ?_
  repeat (first | refine AWP.go ok _ _ _ _ _ rfl ?_ | refine z5 (by kernel_rfl) ?_ | refine And.intro (by first | omega | (unfold inI; omega) | (dsimp only; omega)) ?_)
  refine z93 (fun k : Nat => ([(0, lst 2 State.cs l), (3, .sref 0 0 l.length), (4, .int k)], [.cells 2 ((l.take k).map State.cs ++ List.replicate (l.length - k) [.nils, .nils])])) (fun k => k ≤ l.length) (fun k => l.length - k) 0 (by omega)
    ⟨[0], rfl, by decide, rfl, ⟨⟨rfl, rfl⟩, ⟨rfl, rfl⟩, ⟨rfl, rfl⟩, trivial⟩, ⟨z10 (by rfl) (z9 (z0 fun _ => rfl) (z1 rfl)), trivial⟩⟩ ?_
  · intro k hk
    repeat (first | refine AWP.go ok _ _ _ _ _ rfl ?_ | refine z5 (by kernel_rfl) ?_ | refine And.intro (by first | omega | (unfold inI; omega) | (dsimp only; omega)) ?_)
    refine z2 (fun h => ?_) (fun h => ?_)
    · repeat (first | refine AWP.go ok _ _ _ _ _ rfl ?_ | refine z5 (by kernel_rfl) ?_ | refine And.intro (by first | omega | (unfold inI; omega) | (dsimp only; omega)) ?_)
      refine ⟨_, z86 _ _ _ (by omega), ?_⟩
      repeat (first | refine AWP.go ok _ _ _ _ _ rfl ?_ | refine z5 (by kernel_rfl) ?_ | refine And.intro (by first | omega | (unfold inI; omega) | (dsimp only; omega)) ?_)
      refine z4 (toState_ok l[k] (hs _ (List.getElem_mem _))) ?_ ?_ ?_
      · rfl
      · rfl
      repeat (first | refine AWP.go ok _ _ _ _ _ rfl ?_ | refine z5 (by kernel_rfl) ?_ | refine And.intro (by first | omega | (unfold inI; omega) | (dsimp only; omega)) ?_)
      refine ⟨[.nils, .nils], fill_get _ _ _ _ (by omega), ?_⟩
      repeat (first | refine AWP.go ok _ _ _ _ _ rfl ?_ | refine z5 (by kernel_rfl) ?_ | refine And.intro (by first | omega | (unfold inI; omega) | (dsimp only; omega)) ?_)
      exact ⟨k + 1, [0], by omega, by omega, rfl, by decide, rfl, ⟨⟨rfl, rfl⟩, ⟨rfl, rfl⟩, ⟨rfl, rfl⟩, trivial⟩, ⟨z10 (z16 (fill_set _ _ _ _ (by omega))) (z9 (z0 fun _ => rfl) (z1 rfl)), trivial⟩⟩
    · refine AWP.go ok _ _ _ _ _ rfl ?_
      obtain rfl : k = l.length := by omega
      refine AWP.reach (SealL.reach (π := []) (Bn := [0]) (env := [(3, lst 2 State.cs l)]) (objs := []) ⟨rfl, rfl, by simp, rfl, by simp, ⟨?_, trivial⟩, rfl⟩) ?_
      · exact bor_seal rfl rfl rfl (by simp) (z98 State.unown l) (by simp)
      repeat (first | refine AWP.go ok _ _ _ _ _ rfl ?_ | refine z5 (by kernel_rfl) ?_ | refine And.intro (by first | omega | (unfold inI; omega) | (dsimp only; omega)) ?_)
      exact ⟨[], by decide, rfl, rfl, ACle.of_eq rfl, trivial⟩
end Go.Proofs.YtknlmbniicacmaaGreat

namespace Go.Proofs.YtknlmbniicacmaaGreat
open Go.Gl
attribute [local irreducible] z22 AWP z46 z54 z51 RetS z58

theorem back_ok (L : List Int) (hL : L.length ≤ maxLen) : CallsA Tryz.prog 111 [ints L] [] (.fn (.func 186) [] [.ptr 0 none 0]) [.cells 1 [[ints L]]] := by
  refine z40 z28 Tryz.func111 rfl rfl 4 Tryz.ntmps111 (by simp) ?_
  repeat' (((apply AWP.go ok; rfl)) <;> conv => whnf)
  all_goals (refine RetS.lay [0] [] rfl rfl rfl ?_; refine RetS.done ?_ ?_ <;> (repeat' (first | exact LocLe.refl _ | exact F2.nil | apply F2.cons | apply ObjLe.box)))

/-- what stays known between two steps of the iterator -/
def BackR {α : Type} (M : Nat) (Gc : Ghost) (wc : World) (rest : α → List AObj) (L : List Int) (env : List (Nat × AC)) (x : α) (a : Act) (w : World) : Prop :=
  ∃ G, SubM M Gc G ∧ Le wc w ∧ Rel G (mkSt 19 env (.cells 1 [[ints L]] :: rest x)) a w
/-- a state's environment is the one given -/
def IsSt {α : Type} (rest : α → List AObj) (L : List Int) (x : α) (env' : List (Nat × AC)) (st : St) : Prop := st = mkSt 19 env' (.cells 1 [[ints L]] :: rest x)
theorem BackR.step {α : Type} {M : Nat} {Gc : Ghost} {wc : World} {rest : α → List AObj} {L : List Int} {env env' : List (Nat × AC)} {x : α} {a : Act} {w : World} {c : Code}
    (h : BackR M Gc wc rest L env x a w) (hc : AWP Tryz.prog M c (thenA (IsSt rest L x env') (fun _ _ => False)) (mkSt 19 env (.cells 1 [[ints L]] :: rest x))) {K : Act → World → Prop} {Q : Exit → Act → World → Prop}
    (hk : ∀ a w, BackR M Gc wc rest L env' x a w → K a w) : c.wpIn Fence.wide 0 Tryz.prog (Exit.then K Q) a w := by
  obtain ⟨G, h1, h2, h3⟩ := h
  refine wpIn_mono (hc.at_ h3) ?_
  rintro ex a' w' ⟨G', st', k1, k2, k3, k4⟩
  cases ex with
  | normal =>
    have k3 : st' = _ := k3
    subst k3
    exact hk _ _ ⟨G', h1.trans k1, h2.trans k2, k4⟩
  | _ => exact k3.elim

theorem BackR.less {α : Type} {M : Nat} {Gc : Ghost} {wc : World} {rest : α → List AObj} {L : List Int} {env env' : List (Nat × AC)} {x : α} {a : Act} {w : World} (h : BackR M Gc wc rest L env x a w) (he : envAll (fun s y => z83 env s = y) env') : BackR M Gc wc rest L env' x a w := by
  obtain ⟨G, h1, h2, h3⟩ := h
  refine ⟨G, h1, h2, h3.wf, fun s => ?_, h3.size, h3.defers⟩
  rcases envFn_cases env' _ he s with e | e
  · show V _ _ _ (z83 env' s) _
    rw [e]; simp [V]
  · have := h3.env s
    show V _ _ _ (z83 env' s) _
    rw [← e]; exact this

theorem wpListIn_app {F : Fence} {n : Nat} {P : Program} {ops : Array Oper} {Q : Exit → Act → World → Prop} {l : List Oper} {a : Act} {w : World} (h : wpListIn F n P ops Q (l ++ []) a w) : wpListIn F n P ops Q l a w := by rwa [List.append_nil] at h
theorem BackR.val {α : Type} {M : Nat} {Gc : Ghost} {wc : World} {rest : α → List AObj} {L : List Int} {env : List (Nat × AC)} {x : α} {a : Act} {w : World} (h : BackR M Gc wc rest L env x a w) {s : Nat} {v : Value} (he : z83 env s = .raw v) : a.tmps.getD s undef = v := by
  obtain ⟨G, _, _, hR⟩ := h
  have := hR.env s
  rw [show (mkSt 19 env (.cells 1 [[ints L]] :: rest x)).env s = z83 env s from rfl, he] at this
  simpa only [V] using this

set_option maxHeartbeats 1600000 in
theorem back1 : IterBack Tryz.prog 186 := by
  intro α M rest okI L l Gc wc lb x0 hL hlen hy h0 hWc hlbs hlb
  unfold maxLen at hL
  refine callsIn_of_wp_marks (n := 0) Tryz.func186 rfl trivial ?_
  have hvs : (#[Value.func (.yield l) #[] #[]] ++ lb).size = 2 := by simp [hlbs]
  have hinit : BackR M Gc.split wc rest L [(0, .raw (.func (.yield l) #[] #[])), (1, .ptr 0 none 0)] x0 { tmps := (#[Value.func (.yield l) #[] #[]] ++ lb) ++ Array.replicate (19 - (#[Value.func (.yield l) #[] #[]] ++ lb).size) undef, defers := [] } wc := by
    refine ⟨Gc.split, SubM.refl _ _, Le.refl _, hWc.split, fun s => ?_, by show Array.size _ = 19; simp [hlbs], Marks.nil _⟩
    refine V_noneC (G := Gc) (h := hp wc) (fun _ _ _ _ e => split_S e) (fun _ _ e => e) ?_
    refine enter_env (args := [.raw (.func (.yield l) #[] #[]), .ptr 0 none 0]) hvs ?_ 19 s
    exact VL_append (xs := [.raw (.func (.yield l) #[] #[])]) rfl (by simp [VL, V]) hlb
  refine wpIn_seq (hinit.step (env' := [(3, .int (L.length - 1)), (6, .int (L.length - 1)), (5, .int L.length), (4, ints L), (0, .raw (.func (.yield l) #[] #[])), (1, .ptr 0 none 0)]) ?_ fun a1 w1 hB1 => ?_)
  · repeat' ((first | (apply AWP.go ok; rfl) | (apply And.intro; (unfold inI; omega))) <;> conv => whnf)
    all_goals rfl
  refine wpIn_block (wpIn_loop (fun a w => ∃ k x, k ≤ L.length ∧ okI k x ∧ BackR M Gc.split wc rest L [(3, .int ((k : Int) - 1)), (0, .raw (.func (.yield l) #[] #[])), (1, .ptr 0 none 0)] x a w) (fun a _ => match a.tmps.getD 3 undef with
    | .int _ i => (i + 1).toNat
    | _ => 0) ⟨L.length, x0, Nat.le_refl _, h0, hB1.less ⟨rfl, rfl, rfl, trivial⟩⟩ ?_)
  rintro a w ⟨k, x, hk, hok, hB⟩
  have hμ : (match a.tmps.getD 3 undef with
    | .int _ i => (i + 1).toNat
    | _ => 0) = k := by
    rw [hB.val (s := 3) rfl]; simp
  rw [hμ]
  refine wpIn_seq (wpIn_seq (hB.step (env' := [(8, .raw (.bool (decide ((0 : Int) ≤ (k : Int) - 1)))), (7, .int ((k : Int) - 1)), (3, .int ((k : Int) - 1)), (0, .raw (.func (.yield l) #[] #[])), (1, .ptr 0 none 0)]) ?_ fun a2 w2 hB2 => ?_))
  · repeat' (((apply AWP.go ok; rfl)) <;> conv => whnf)
    all_goals rfl
  have h8 : a2.eval (.tmp 8) = .bool (decide ((0 : Int) ≤ (k : Int) - 1)) := hB2.val (s := 8) rfl
  by_cases hk0 : k = 0
  · subst hk0
    refine wpIn_cond_false (h8.trans (by simp)) (wpIn_exit ?_)
    obtain ⟨G, s1, s2, hR⟩ := hB2
    obtain ⟨Ds, d1, d2, d3, d4, d5, d6⟩ := marks_end hWc s1.1 hR
    show LeavesInM Fence.wide 0 _ _ a2.tmps _ a2.defers .returning w2
    rw [d1]
    exact leaves_marks Ds w2 d2 d3 ⟨.tuple #[], by rw [results_eq, show Tryz.f186.results = #[] from rfl]; simp, .tuple #[], Gc.join G Ds, x, rfl, hok, ⟨d4, fun o t ho e => by rw [d5]; exact s1.2 o t ho e⟩, s2.trans (takes_le Ds w2), d6.wf⟩
  obtain ⟨j, rfl⟩ : ∃ j, k = j + 1 := ⟨k - 1, by omega⟩
  refine wpIn_cond_true (h8.trans (by rw [decide_eq_true (by omega)])) (wpIn_skip ?_)
  have hjL : j < L.length := by omega
  have gL : (L.map enI)[j]? = some (enI L[j]) := by rw [List.getElem?_map, List.getElem?_eq_getElem hjL]; rfl
  have hB3 : BackR M Gc.split wc rest L [(3, .int (j : Int)), (0, .raw (.func (.yield l) #[] #[])), (1, .ptr 0 none 0)] x a2 w2 := hB2.less ⟨by show AC.int _ = _; congr 3; omega, rfl, rfl, trivial⟩
  refine wpIn_seq (wpIn_block (wpIn_seq (wpIn_region_list ?_)))
  rw [← List.take_append_drop 6 (Array.toList _)]
  obtain ⟨G, s1, s2, hR⟩ := hB3
  generalize hz : L[j] = z at gL
  refine sound_ops (ro := none) z28 _ _ _ _ (fun env' objs' => objs' = .cells 1 [[ints L]] :: rest x ∧ envAll (fun s y => z83 env' s = y) [(16, .int z), (12, .int (j : Int)), (11, .raw (.func (.yield l) #[] #[])), (3, .int (j : Int)), (0, .raw (.func (.yield l) #[] #[])), (1, .ptr 0 none 0)]) (.inl rfl) ?_ M G a2 w2 hR ?_
  · conv => whnf
    repeat' ((first | (refine z13 (i := j) rfl gL ?_) | (apply And.intro; omega)) <;> conv => whnf)
    all_goals exact ⟨rfl, rfl, rfl, rfl, rfl, rfl, rfl, trivial⟩
  rintro G1 env1 objs1 a3 w3 t1 t2 ⟨rfl, hE⟩ t4
  have hB4 : BackR M Gc.split wc rest L env1 x a3 w3 := ⟨G1, s1.trans t1, s2.trans t2, t4⟩
  have hB5 := hB4.less hE
  have v16 : a3.eval (.tmp 16) = .int .i64 z := hB5.val (s := 16) rfl
  have v12 : a3.eval (.tmp 12) = .int .i64 (j : Int) := hB5.val (s := 12) rfl
  have v11 : a3.eval (.tmp 11) = .func (.yield l) #[] #[] := hB5.val (s := 11) rfl
  obtain ⟨f, tm, asg, bo, hyr, hyR⟩ := hy j x G1 w3 hjL hok (s1.trans t1) (s2.trans t2) t4.wf
  rw [hz] at hyr
  refine wpListIn_plain rfl fun Kk hKk => ?_
  unfold Oper.wpIn
  refine ⟨fun _ _ => trivial, ?_⟩
  have hex : (execOp a3.eval ⟨some 17, .call ⟨.value (.tmp 11), #[.tmp 12, .tmp 16], #[3, 3]⟩, 4, "iter.go:29", #[], none⟩).run Tryz.prog w3 = .ok (.round l f tm asg bo) w3 := by
    show (do let d ← resolve a3.eval ⟨.value (.tmp 11), #[.tmp 12, .tmp 16], #[3, 3]⟩ 4; invoke d.target d.args : Sem Next).run Tryz.prog w3 = _
    simp only [resolve, v11, Deferred.ofValue, Sem.run_bind, Sem.run_pure, Result.andThen, invoke]
    rw [show (#[] ++ (#[Operand.tmp 12, .tmp 16].map a3.eval) : Array Value) = #[.int .i64 (j : Int), .int .i64 z] by simp [v12, v16]]
    exact hyr
  show Oper.uponIn Fence.wide 0 _ _ _ _ _ ((execOp a3.eval ⟨some 17, .call ⟨.value (.tmp 11), #[.tmp 12, .tmp 16], #[3, 3]⟩, 4, "iter.go:29", #[], none⟩).run Tryz.prog w3)
  rw [hex]
  refine ⟨(fun h => by cases h), hyR.mono ?_⟩
  rintro e w4 ⟨rfl, G2, y, u1, u2, u3, u4⟩
  refine hKk _ _ ?_
  have hall := SubM.all_ι (M := M) t4.wf (Nat.le_of_eq (hlen x)) u2
  have hB6 : BackR M Gc.split wc rest L ((17, .raw (.bool true)) :: [(16, .int z), (12, .int (j : Int)), (11, .raw (.func (.yield l) #[] #[])), (3, .int (j : Int)), (0, .raw (.func (.yield l) #[] #[])), (1, .ptr 0 none 0)]) y (a3.put (some 17) (.bool true)) w4 := by
    refine ⟨G2, (s1.trans t1).trans u2, (s2.trans t2).trans u3, u4, env_put2 (n := 19) (by decide) t4.size (fun s => ?_) (by simp [V]), by rw [put_size]; exact t4.size, by rw [z114]; exact t4.defers.mono u2.1.S⟩
    rcases envFn_cases _ _ hE s with e | e
    · rw [e]; simp [V]
    · rw [← e]; exact z106 u2.1.S hall (t4.env s)
  obtain ⟨G3, p1, p2, p3⟩ := hB6
  refine wpListIn_app ?_
  refine sound_ops (ro := none) z28 _ [] _ _ (fun env' objs' => objs' = .cells 1 [[ints L]] :: rest y ∧ envAll (fun s y => z83 env' s = y) [(18, .raw (.bool false)), (3, .int (j : Int)), (0, .raw (.func (.yield l) #[] #[])), (1, .ptr 0 none 0)]) (.inl rfl) ?_ M G3 _ w4 p3 ?_
  · conv => whnf
    repeat' ((fail) <;> conv => whnf)
    all_goals exact ⟨rfl, rfl, rfl, rfl, rfl, trivial⟩
  rintro G4 env4 objs4 a5 w5 q1 q2 ⟨rfl, hE4⟩ q4
  have hB7 : BackR M Gc.split wc rest L env4 y a5 w5 := ⟨G4, p1.trans q1, p2.trans q2, q4⟩
  have hB8 := hB7.less hE4
  have v18 : a5.eval (.tmp 18) = .bool false := hB8.val (s := 18) rfl
  show Code.wpIn Fence.wide 0 _ _ _ a5 w5
  refine wpIn_cond_false v18 (wpIn_skip ?_)
  show Code.wpIn Fence.wide 0 _ _ _ a5 w5
  refine wpIn_mono (hB8.step (env' := [(3, .int ((j : Int) - 1)), (10, .int ((j : Int) - 1)), (9, .int (j : Int)), (18, .raw (.bool false)), (3, .int (j : Int)), (0, .raw (.func (.yield l) #[] #[])), (1, .ptr 0 none 0)]) (K := fun a w => BackR M Gc.split wc rest L [(3, .int ((j : Int) - 1)), (10, .int ((j : Int) - 1)), (9, .int (j : Int)), (18, .raw (.bool false)), (3, .int (j : Int)), (0, .raw (.func (.yield l) #[] #[])), (1, .ptr 0 none 0)] y a w) (Q := fun _ _ _ => False) ?_ fun _ _ h => h) ?_
  · repeat' ((first | (apply AWP.go ok; rfl) | (apply And.intro; (unfold inI; omega))) <;> conv => whnf)
    all_goals rfl
  rintro ex a6 w6 hB9
  cases ex with
  | normal =>
    have hB9 : BackR M Gc.split wc rest L _ y a6 w6 := hB9
    refine ⟨⟨j, y, by omega, u1, hB9.less ⟨rfl, rfl, rfl, trivial⟩⟩, ?_⟩
    show (match a6.tmps.getD 3 undef with
      | .int _ i => (i + 1).toNat
      | _ => 0) < j + 1
    rw [hB9.val (s := 3) rfl]
    show ((j : Int) - 1 + 1).toNat < j + 1
    omega
  | _ => exact hB9.elim
end Go.Proofs.YtknlmbniicacmaaGreat

namespace Go.Proofs.YtknlmbniicacmaaGreat
open Go.Gl
attribute [local irreducible] z22

/-- do two slices of ints hold the same? -/
theorem eqIntS_ok (a b : List Int) (ha : a.length ≤ maxLen) (hb : b.length ≤ maxLen) : CallsA Tryz.prog 128 [ints a, ints b] [] (.bool (decide (a = b))) [] := by
  unfold maxLen at ha hb
  refine z7 z28 Tryz.func128 rfl rfl 26 Tryz.ntmps128 (by simp) ?_
  repeat (first | refine AWP.go ok _ _ _ _ _ rfl ?_ | refine z5 (by kernel_rfl) ?_ | refine And.intro (by first | omega | (unfold inI; omega) | (dsimp only; omega)) ?_)
  refine z8 (fun h => ?_) (fun h => ?_)
  · repeat (first | refine AWP.go ok _ _ _ _ _ rfl ?_ | refine z5 (by kernel_rfl) ?_ | refine And.intro (by first | omega | (unfold inI; omega) | (dsimp only; omega)) ?_)
    have hne : a ≠ b := by rintro rfl; exact h rfl
    rw [decide_eq_false hne]
    exact ⟨[], by decide, rfl, rfl, ACle.of_eq rfl, trivial⟩
  · have hl : a.length = b.length := by omega
    repeat (first | refine AWP.go ok _ _ _ _ _ rfl ?_ | refine z5 (by kernel_rfl) ?_ | refine And.intro (by first | omega | (unfold inI; omega) | (dsimp only; omega)) ?_)
    refine z93 (fun k : Nat => ([(0, ints a), (1, ints b), (5, .int k)], [])) (fun k => k ≤ a.length ∧ a.take k = b.take k) (fun k => a.length - k) 0 (by simp)
      ⟨[], rfl, by decide, rfl, ⟨⟨rfl, rfl⟩, ⟨rfl, rfl⟩, ⟨rfl, rfl⟩, trivial⟩, trivial⟩ ?_
    intro k hk
    repeat (first | refine AWP.go ok _ _ _ _ _ rfl ?_ | refine z5 (by kernel_rfl) ?_ | refine And.intro (by first | omega | (unfold inI; omega) | (dsimp only; omega)) ?_)
    refine z2 (fun h => ?_) (fun h => ?_)
    · have hka : k < a.length := by omega
      repeat (first | refine AWP.go ok _ _ _ _ _ rfl ?_ | refine z5 (by kernel_rfl) ?_ | refine And.intro (by first | omega | (unfold inI; omega) | (dsimp only; omega)) ?_)
      refine ⟨_, z86 _ _ _ (by omega), ?_⟩
      repeat (first | refine AWP.go ok _ _ _ _ _ rfl ?_ | refine z5 (by kernel_rfl) ?_ | refine And.intro (by first | omega | (unfold inI; omega) | (dsimp only; omega)) ?_)
      refine ⟨_, z86 _ _ _ (by omega), ?_⟩
      repeat (first | refine AWP.go ok _ _ _ _ _ rfl ?_ | refine z5 (by kernel_rfl) ?_ | refine And.intro (by first | omega | (unfold inI; omega) | (dsimp only; omega)) ?_)
      refine z8 (fun h => ?_) (fun h => ?_)
      · repeat (first | refine AWP.go ok _ _ _ _ _ rfl ?_ | refine z5 (by kernel_rfl) ?_ | refine And.intro (by first | omega | (unfold inI; omega) | (dsimp only; omega)) ?_)
        have hne : a ≠ b := by rintro rfl; exact h rfl
        rw [decide_eq_false hne]
        exact ⟨[], by decide, rfl, rfl, ACle.of_eq rfl, trivial⟩
      · repeat (first | refine AWP.go ok _ _ _ _ _ rfl ?_ | refine z5 (by kernel_rfl) ?_ | refine And.intro (by first | omega | (unfold inI; omega) | (dsimp only; omega)) ?_)
        refine ⟨k + 1, [], ⟨by omega, ?_⟩, by omega, rfl, by decide, rfl, ⟨⟨rfl, rfl⟩, ⟨rfl, rfl⟩, ⟨rfl, rfl⟩, trivial⟩, trivial⟩
        have h' : a[k] = b[k] := h
        rw [List.take_succ_eq_append_getElem hka, List.take_succ_eq_append_getElem (by omega), hk.2, h']
    · repeat (first | refine AWP.go ok _ _ _ _ _ rfl ?_ | refine z5 (by kernel_rfl) ?_ | refine And.intro (by first | omega | (unfold inI; omega) | (dsimp only; omega)) ?_)
      have he : a = b := by
        have := hk.2
        rwa [List.take_of_length_le (by omega), List.take_of_length_le (by omega)] at this
      rw [decide_eq_true he]
      exact ⟨[], by decide, rfl, rfl, ACle.of_eq rfl, trivial⟩

theorem eqState_ok (s t : State) (hs : s.mx) (ht : t.mx) : CallsA Tryz.prog 198 [.agg s.cs, .agg t.cs] [] (.bool (decide (s = t))) [] := by
  refine z7 z28 Tryz.func198 rfl rfl 17 Tryz.ntmps198 (by simp) ?_
  repeat (first | refine AWP.go ok _ _ _ _ _ rfl ?_ | refine z5 (by kernel_rfl) ?_ | refine And.intro (by first | omega | (unfold inI; omega) | (dsimp only; omega)) ?_)
  refine z4 (eqIntS_ok s.a t.a hs.1 ht.1) ?_ ?_ ?_
  · rfl
  · rfl
  repeat (first | refine AWP.go ok _ _ _ _ _ rfl ?_ | refine z5 (by kernel_rfl) ?_ | refine And.intro (by first | omega | (unfold inI; omega) | (dsimp only; omega)) ?_)
  refine z8 (fun h => ?_) (fun h => ?_)
  · repeat (first | refine AWP.go ok _ _ _ _ _ rfl ?_ | refine z5 (by kernel_rfl) ?_ | refine And.intro (by first | omega | (unfold inI; omega) | (dsimp only; omega)) ?_)
    have : s ≠ t := by rintro rfl; exact h rfl
    rw [decide_eq_false this]
    exact ⟨[], by decide, rfl, rfl, ACle.of_eq rfl, trivial⟩
  · repeat (first | refine AWP.go ok _ _ _ _ _ rfl ?_ | refine z5 (by kernel_rfl) ?_ | refine And.intro (by first | omega | (unfold inI; omega) | (dsimp only; omega)) ?_)
    refine z4 (eqIntS_ok s.b t.b hs.2 ht.2) ?_ ?_ ?_
    · rfl
    · rfl
    repeat (first | refine AWP.go ok _ _ _ _ _ rfl ?_ | refine z5 (by kernel_rfl) ?_ | refine And.intro (by first | omega | (unfold inI; omega) | (dsimp only; omega)) ?_)
    refine z8 (fun h2 => ?_) (fun h2 => ?_)
    · repeat (first | refine AWP.go ok _ _ _ _ _ rfl ?_ | refine z5 (by kernel_rfl) ?_ | refine And.intro (by first | omega | (unfold inI; omega) | (dsimp only; omega)) ?_)
      have : s ≠ t := by rintro rfl; exact h2 rfl
      rw [decide_eq_false this]
      exact ⟨[], by decide, rfl, rfl, ACle.of_eq rfl, trivial⟩
    · repeat (first | refine AWP.go ok _ _ _ _ _ rfl ?_ | refine z5 (by kernel_rfl) ?_ | refine And.intro (by first | omega | (unfold inI; omega) | (dsimp only; omega)) ?_)
      have : s = t := by cases s; cases t; simp_all
      rw [decide_eq_true this]
      exact ⟨[], by decide, rfl, rfl, ACle.of_eq rfl, trivial⟩
theorem eqStateS_ok (a b : List State) (ha : State.mxs a) (hb : State.mxs b) : CallsA Tryz.prog 129 [lst 2 State.cs a, lst 2 State.cs b] [] (.bool (decide (a = b))) [] := by
  obtain ⟨ha, hma⟩ := ha
  obtain ⟨hb, hmb⟩ := hb
  unfold maxLen at ha hb
  refine z7 z28 Tryz.func129 rfl rfl 27 Tryz.ntmps129 (by simp) ?_
  repeat (first | refine AWP.go ok _ _ _ _ _ rfl ?_ | refine z5 (by kernel_rfl) ?_ | refine And.intro (by first | omega | (unfold inI; omega) | (dsimp only; omega)) ?_)
  refine z8 (fun h => ?_) (fun h => ?_)
  · repeat (first | refine AWP.go ok _ _ _ _ _ rfl ?_ | refine z5 (by kernel_rfl) ?_ | refine And.intro (by first | omega | (unfold inI; omega) | (dsimp only; omega)) ?_)
    have hne : a ≠ b := by rintro rfl; exact h rfl
    rw [decide_eq_false hne]
    exact ⟨[], by decide, rfl, rfl, ACle.of_eq rfl, trivial⟩
  · have hl : a.length = b.length := by omega
    repeat (first | refine AWP.go ok _ _ _ _ _ rfl ?_ | refine z5 (by kernel_rfl) ?_ | refine And.intro (by first | omega | (unfold inI; omega) | (dsimp only; omega)) ?_)
    refine z93 (fun k : Nat => ([(0, lst 2 State.cs a), (1, lst 2 State.cs b), (5, .int k)], [])) (fun k => k ≤ a.length ∧ a.take k = b.take k) (fun k => a.length - k) 0 (by simp)
      ⟨[], rfl, by decide, rfl, ⟨⟨rfl, rfl⟩, ⟨rfl, rfl⟩, ⟨rfl, rfl⟩, trivial⟩, trivial⟩ ?_
    intro k hk
    repeat (first | refine AWP.go ok _ _ _ _ _ rfl ?_ | refine z5 (by kernel_rfl) ?_ | refine And.intro (by first | omega | (unfold inI; omega) | (dsimp only; omega)) ?_)
    refine z2 (fun h => ?_) (fun h => ?_)
    · have hka : k < a.length := by omega
      repeat (first | refine AWP.go ok _ _ _ _ _ rfl ?_ | refine z5 (by kernel_rfl) ?_ | refine And.intro (by first | omega | (unfold inI; omega) | (dsimp only; omega)) ?_)
      refine ⟨_, z86 _ _ _ (by omega), ?_⟩
      repeat (first | refine AWP.go ok _ _ _ _ _ rfl ?_ | refine z5 (by kernel_rfl) ?_ | refine And.intro (by first | omega | (unfold inI; omega) | (dsimp only; omega)) ?_)
      refine ⟨_, z86 _ _ _ (by omega), ?_⟩
      repeat (first | refine AWP.go ok _ _ _ _ _ rfl ?_ | refine z5 (by kernel_rfl) ?_ | refine And.intro (by first | omega | (unfold inI; omega) | (dsimp only; omega)) ?_)
      refine z4 (eqState_ok a[k] b[k] (hma _ (List.getElem_mem _)) (hmb _ (List.getElem_mem _))) ?_ ?_ ?_
      · rfl
      · rfl
      repeat (first | refine AWP.go ok _ _ _ _ _ rfl ?_ | refine z5 (by kernel_rfl) ?_ | refine And.intro (by first | omega | (unfold inI; omega) | (dsimp only; omega)) ?_)
      refine z8 (fun h => ?_) (fun h => ?_)
      · repeat (first | refine AWP.go ok _ _ _ _ _ rfl ?_ | refine z5 (by kernel_rfl) ?_ | refine And.intro (by first | omega | (unfold inI; omega) | (dsimp only; omega)) ?_)
        have hne : a ≠ b := by rintro rfl; exact h rfl
        rw [decide_eq_false hne]
        exact ⟨[], by decide, rfl, rfl, ACle.of_eq rfl, trivial⟩
      · repeat (first | refine AWP.go ok _ _ _ _ _ rfl ?_ | refine z5 (by kernel_rfl) ?_ | refine And.intro (by first | omega | (unfold inI; omega) | (dsimp only; omega)) ?_)
        refine ⟨k + 1, [], ⟨by omega, ?_⟩, by omega, rfl, by decide, rfl, ⟨⟨rfl, rfl⟩, ⟨rfl, rfl⟩, ⟨rfl, rfl⟩, trivial⟩, trivial⟩
        have h' : a[k] = b[k] := h
        rw [List.take_succ_eq_append_getElem hka, List.take_succ_eq_append_getElem (by omega), hk.2, h']
    · repeat (first | refine AWP.go ok _ _ _ _ _ rfl ?_ | refine z5 (by kernel_rfl) ?_ | refine And.intro (by first | omega | (unfold inI; omega) | (dsimp only; omega)) ?_)
      have he : a = b := by
        have := hk.2
        rwa [List.take_of_length_le (by omega), List.take_of_length_le (by omega)] at this
      rw [decide_eq_true he]
      exact ⟨[], by decide, rfl, rfl, ACle.of_eq rfl, trivial⟩
end Go.Proofs.YtknlmbniicacmaaGreat

namespace Go.Proofs.YtknlmbniicacmaaGreat
open Go.Gl
attribute [local irreducible] z22

def z70 {α : Type} (e : α → List AC) (a : α) : AC := .agg (e a)
theorem szExprS_of (l : List Tree) (n : Int) (hl : l.length ≤ maxLen) (hel : ∀ s ∈ l, ∀ n : Int, 0 ≤ n → n ≤ 1048576 → CallsA Tryz.prog 114 [z70 Tree.cs' s, .int n] [] (.int (bud n (Tree.sz s))) []) (h0 : 0 ≤ n) (h1 : n ≤ 1048576) : CallsA Tryz.prog 34 [lst 3 Tree.cs' l, .int n] [] (.int (bud n (tot Tree.sz l))) [] := by
  unfold maxLen at hl
  refine z7 z28 Tryz.func34 rfl rfl 27 Tryz.ntmps34 (by simp) ?_
  repeat (first | refine AWP.go ok _ _ _ _ _ rfl ?_ | refine z5 (by kernel_rfl) ?_ | refine And.intro (by first | omega | (unfold inI; omega) | (dsimp only; omega)) ?_)
  refine z2 (fun h => ?_) (fun h => ?_)
  · repeat (first | refine AWP.go ok _ _ _ _ _ rfl ?_ | refine z5 (by kernel_rfl) ?_ | refine And.intro (by first | omega | (unfold inI; omega) | (dsimp only; omega)) ?_)
    have : bud n (tot Tree.sz l) = -1 := by unfold bud tot; rw [if_pos (by omega)]
    rw [this]
    exact ⟨[], by decide, rfl, rfl, ACle.of_eq rfl, trivial⟩
  · repeat (first | refine AWP.go ok _ _ _ _ _ rfl ?_ | refine z5 (by kernel_rfl) ?_ | refine And.intro (by first | omega | (unfold inI; omega) | (dsimp only; omega)) ?_)
    refine z93 (fun k : Nat => ([(0, lst 3 Tree.cs' l), (1, .int (n - l.length - ((l.take k).map Tree.sz).sum)), (5, .int k)], [])) (fun k => k ≤ l.length ∧ 0 ≤ n - l.length - ((l.take k).map Tree.sz).sum) (fun k => l.length - k) 0 ⟨by omega, by simp; omega⟩
      ⟨[], rfl, by decide, rfl, ⟨⟨rfl, rfl⟩, ⟨rfl, by simp; rfl⟩, ⟨rfl, rfl⟩, trivial⟩, trivial⟩ ?_
    intro k hk
    obtain ⟨hk1, hk2⟩ := hk
    repeat (first | refine AWP.go ok _ _ _ _ _ rfl ?_ | refine z5 (by kernel_rfl) ?_ | refine And.intro (by first | omega | (unfold inI; omega) | (dsimp only; omega)) ?_)
    refine z2 (fun h => ?_) (fun h => ?_)
    · have hkl : k < l.length := by omega
      repeat (first | refine AWP.go ok _ _ _ _ _ rfl ?_ | refine z5 (by kernel_rfl) ?_ | refine And.intro (by first | omega | (unfold inI; omega) | (dsimp only; omega)) ?_)
      refine ⟨_, z86 _ _ _ hkl, ?_⟩
      repeat (first | refine AWP.go ok _ _ _ _ _ rfl ?_ | refine z5 (by kernel_rfl) ?_ | refine And.intro (by first | omega | (unfold inI; omega) | (dsimp only; omega)) ?_)
      refine z4 (hel l[k] (List.getElem_mem _) _ hk2 (by omega)) ?_ ?_ ?_
      · rfl
      · rfl
      repeat (first | refine AWP.go ok _ _ _ _ _ rfl ?_ | refine z5 (by kernel_rfl) ?_ | refine And.intro (by first | omega | (unfold inI; omega) | (dsimp only; omega)) ?_)
      have e := sum_take Tree.sz l k hkl
      have e2 := sum_take_le Tree.sz l (k + 1)
      refine z2 (fun h => ?_) (fun h => ?_)
      · repeat (first | refine AWP.go ok _ _ _ _ _ rfl ?_ | refine z5 (by kernel_rfl) ?_ | refine And.intro (by first | omega | (unfold inI; omega) | (dsimp only; omega)) ?_)
        have : bud n (tot Tree.sz l) = -1 := by unfold bud at h ⊢; unfold tot; split at h <;> rw [if_pos (by omega)] <;> omega
        rw [this]
        exact ⟨[], by decide, rfl, rfl, ACle.of_eq rfl, trivial⟩
      · repeat (first | refine AWP.go ok _ _ _ _ _ rfl ?_ | refine z5 (by kernel_rfl) ?_ | refine And.intro (by first | omega | (unfold inI; omega) | (dsimp only; omega)) ?_)
        have e3 : bud (n - l.length - ((l.take k).map Tree.sz).sum) (Tree.sz l[k]) = n - l.length - ((l.take (k + 1)).map Tree.sz).sum := by unfold bud at h ⊢; split at h <;> rename_i hh <;> (first | rw [if_pos hh] | rw [if_neg hh]) <;> omega
        refine ⟨k + 1, [], ⟨by omega, ?_⟩, by omega, rfl, by decide, rfl, ⟨⟨rfl, rfl⟩, ⟨rfl, ?_⟩, ⟨rfl, rfl⟩, trivial⟩, trivial⟩
        · rw [← e3]; omega
        · rw [← e3]; rfl
    · repeat (first | refine AWP.go ok _ _ _ _ _ rfl ?_ | refine z5 (by kernel_rfl) ?_ | refine And.intro (by first | omega | (unfold inI; omega) | (dsimp only; omega)) ?_)
      obtain rfl : k = l.length := by omega
      rw [List.take_length] at hk2
      have : bud n (tot Tree.sz l) = n - l.length - (l.map Tree.sz).sum := by unfold bud tot; rw [if_neg (by omega)]; omega
      rw [this, List.take_length]
      exact ⟨[], by decide, rfl, rfl, ACle.of_eq rfl, trivial⟩

theorem szExpr_ok (t : Tree) : t.mx → ∀ n : Int, 0 ≤ n → n ≤ 1048576 → CallsA Tryz.prog 114 [z70 Tree.cs' t, .int n] [] (.int (bud n t.sz)) [] := by
  induction t using Tree.ind with | h t ih => ?_
  intro hm n h0 h1
  rw [Tree.mx_iff] at hm
  have hk := szExprS_of t.kids n hm.1 (fun s hs => ih s hs (hm.2 s hs)) h0 h1
  refine z7 z28 Tryz.func114 rfl rfl 12 Tryz.ntmps114 (by simp) ?_
  repeat (first | refine AWP.go ok _ _ _ _ _ rfl ?_ | refine z5 (by kernel_rfl) ?_ | refine And.intro (by first | omega | (unfold inI; omega) | (dsimp only; omega)) ?_)
  refine z4 hk ?_ ?_ ?_
  · show [AC.list 3 t.kids.length (t.kids.map Tree.cs), .int n] = _
    rw [Tree.lst_eq]
    rfl
  · rfl
  repeat (first | refine AWP.go ok _ _ _ _ _ rfl ?_ | refine z5 (by kernel_rfl) ?_ | refine And.intro (by first | omega | (unfold inI; omega) | (dsimp only; omega)) ?_)
  have e : bud n (tot Tree.sz t.kids) = bud n t.sz := by rw [Tree.sz_eq]; rfl
  rw [e]
  refine z2 (fun h => ?_) (fun h => ?_)
  · repeat (first | refine AWP.go ok _ _ _ _ _ rfl ?_ | refine z5 (by kernel_rfl) ?_ | refine And.intro (by first | omega | (unfold inI; omega) | (dsimp only; omega)) ?_)
    have : bud n t.sz = -1 := by unfold bud at h ⊢; split at h <;> rename_i hh <;> (first | rw [if_pos hh] | rw [if_neg hh]) <;> omega
    rw [this]
    exact ⟨[], by decide, rfl, rfl, ACle.of_eq rfl, trivial⟩
  · repeat (first | refine AWP.go ok _ _ _ _ _ rfl ?_ | refine z5 (by kernel_rfl) ?_ | refine And.intro (by first | omega | (unfold inI; omega) | (dsimp only; omega)) ?_)
    exact ⟨[], by decide, rfl, rfl, ACle.of_eq rfl, trivial⟩

theorem szExprS_ok (l : List Tree) (n : Int) (hl : l.length ≤ maxLen) (hm : ∀ t ∈ l, t.mx) (h0 : 0 ≤ n) (h1 : n ≤ 1048576) : CallsA Tryz.prog 34 [lst 3 Tree.cs' l, .int n] [] (.int (bud n (tot Tree.sz l))) [] :=
  szExprS_of l n hl (fun s hs => szExpr_ok s (hm s hs)) h0 h1
end Go.Proofs.YtknlmbniicacmaaGreat

namespace Go.Proofs.YtknlmbniicacmaaGreat
open Go.Gl
attribute [local irreducible] z22

theorem Tree.unown (t : Tree) : ∀ x ∈ Tree.cs' t, x.unown = x := fun x hx => by
  simp only [Tree.cs', List.mem_cons, List.not_mem_nil, or_false] at hx
  rcases hx with rfl | rfl | rfl <;> rfl

theorem toExprS_of (l : List Tree) (hl : l.length ≤ 1048576) (hel : ∀ s ∈ l, CallsA Tryz.prog 121 [z70 Tree.cs' s] [] (z70 Tree.cs' s) []) : CallsA Tryz.prog 38 [lst 3 Tree.cs' l] [] (lst 3 Tree.cs' l) [] := by
  refine z7 z28 Tryz.func38 rfl rfl 23 Tryz.ntmps38 (by simp) ?_
  repeat (first | refine AWP.go ok _ _ _ _ _ rfl ?_ | refine z5 (by kernel_rfl) ?_ | refine And.intro (by first | omega | (unfold inI; omega) | (dsimp only; omega)) ?_)
  refine z93 (fun k : Nat => ([(0, lst 3 Tree.cs' l), (3, .sref 0 0 l.length), (4, .int k)], [.cells 3 ((l.take k).map Tree.cs' ++ List.replicate (l.length - k) [.int 0, .int 0, .nils])])) (fun k => k ≤ l.length) (fun k => l.length - k) 0 (by omega)
    ⟨[0], rfl, by decide, rfl, ⟨⟨rfl, rfl⟩, ⟨rfl, rfl⟩, ⟨rfl, rfl⟩, trivial⟩, ⟨z10 (by rfl) (z9 (z0 fun _ => rfl) (z1 rfl)), trivial⟩⟩ ?_
  · intro k hk
    repeat (first | refine AWP.go ok _ _ _ _ _ rfl ?_ | refine z5 (by kernel_rfl) ?_ | refine And.intro (by first | omega | (unfold inI; omega) | (dsimp only; omega)) ?_)
    refine z2 (fun h => ?_) (fun h => ?_)
    · repeat (first | refine AWP.go ok _ _ _ _ _ rfl ?_ | refine z5 (by kernel_rfl) ?_ | refine And.intro (by first | omega | (unfold inI; omega) | (dsimp only; omega)) ?_)
      refine ⟨_, z86 _ _ _ (by omega), ?_⟩
      repeat (first | refine AWP.go ok _ _ _ _ _ rfl ?_ | refine z5 (by kernel_rfl) ?_ | refine And.intro (by first | omega | (unfold inI; omega) | (dsimp only; omega)) ?_)
      refine z4 (hel l[k] (List.getElem_mem _)) ?_ ?_ ?_
      · rfl
      · rfl
      repeat (first | refine AWP.go ok _ _ _ _ _ rfl ?_ | refine z5 (by kernel_rfl) ?_ | refine And.intro (by first | omega | (unfold inI; omega) | (dsimp only; omega)) ?_)
      refine ⟨[.int 0, .int 0, .nils], fill_get _ _ _ _ (by omega), ?_⟩
      repeat (first | refine AWP.go ok _ _ _ _ _ rfl ?_ | refine z5 (by kernel_rfl) ?_ | refine And.intro (by first | omega | (unfold inI; omega) | (dsimp only; omega)) ?_)
      exact ⟨k + 1, [0], by omega, by omega, rfl, by decide, rfl, ⟨⟨rfl, rfl⟩, ⟨rfl, rfl⟩, ⟨rfl, rfl⟩, trivial⟩, ⟨z10 (z16 (fill_set _ _ _ _ (by omega))) (z9 (z0 fun _ => rfl) (z1 rfl)), trivial⟩⟩
    · refine AWP.go ok _ _ _ _ _ rfl ?_
      obtain rfl : k = l.length := by omega
      refine AWP.reach (SealL.reach (π := []) (Bn := [0]) (env := [(3, lst 3 Tree.cs' l)]) (objs := []) ⟨rfl, rfl, by simp, rfl, by simp, ⟨?_, trivial⟩, rfl⟩) ?_
      · exact bor_seal rfl rfl rfl (by simp) (z98 Tree.unown l) (by simp)
      repeat (first | refine AWP.go ok _ _ _ _ _ rfl ?_ | refine z5 (by kernel_rfl) ?_ | refine And.intro (by first | omega | (unfold inI; omega) | (dsimp only; omega)) ?_)
      exact ⟨[], by decide, rfl, rfl, ACle.of_eq rfl, trivial⟩

theorem toExpr_ok (t : Tree) : t.sz ≤ 1048576 → CallsA Tryz.prog 121 [z70 Tree.cs' t] [] (z70 Tree.cs' t) [] := by
  induction t using Tree.ind with | h t ih => ?_
  intro hm
  rw [Tree.sz_eq] at hm
  have hk := toExprS_of t.kids (by omega) (fun s hs => ih s hs (by
    have := le_sum Tree.sz hs
    omega))
  refine z7 z28 Tryz.func121 rfl rfl 15 Tryz.ntmps121 (by simp) ?_
  repeat (first | refine AWP.go ok _ _ _ _ _ rfl ?_ | refine z5 (by kernel_rfl) ?_ | refine And.intro (by first | omega | (unfold inI; omega) | (dsimp only; omega)) ?_)
  refine z4 hk ?_ ?_ ?_
  · show [AC.list 3 t.kids.length (t.kids.map Tree.cs)] = _
    rw [Tree.lst_eq]
    rfl
  · rfl
  repeat (first | refine AWP.go ok _ _ _ _ _ rfl ?_ | refine z5 (by kernel_rfl) ?_ | refine And.intro (by first | omega | (unfold inI; omega) | (dsimp only; omega)) ?_)
  refine ⟨[], by decide, rfl, rfl, ACle.of_eq ?_, trivial⟩
  show AC.agg [.int t.kind, .int t.val, .list 3 t.kids.length (t.kids.map Tree.cs')] = AC.agg [.int t.kind, .int t.val, .list 3 t.kids.length (t.kids.map Tree.cs)]
  rw [Tree.lst_eq]

theorem eqExprS_of (a b : List Tree) (ha : a.length ≤ maxLen) (hb : b.length ≤ maxLen) (hel : ∀ s ∈ a, ∀ t ∈ b, CallsA Tryz.prog 131 [z70 Tree.cs' s, z70 Tree.cs' t] [] (.bool (decide (s = t))) []) : CallsA Tryz.prog 43 [lst 3 Tree.cs' a, lst 3 Tree.cs' b] [] (.bool (decide (a = b))) [] := by
  unfold maxLen at ha hb
  refine z7 z28 Tryz.func43 rfl rfl 27 Tryz.ntmps43 (by simp) ?_
  repeat (first | refine AWP.go ok _ _ _ _ _ rfl ?_ | refine z5 (by kernel_rfl) ?_ | refine And.intro (by first | omega | (unfold inI; omega) | (dsimp only; omega)) ?_)
  refine z8 (fun h => ?_) (fun h => ?_)
  · repeat (first | refine AWP.go ok _ _ _ _ _ rfl ?_ | refine z5 (by kernel_rfl) ?_ | refine And.intro (by first | omega | (unfold inI; omega) | (dsimp only; omega)) ?_)
    have hne : a ≠ b := by rintro rfl; exact h rfl
    rw [decide_eq_false hne]
    exact ⟨[], by decide, rfl, rfl, ACle.of_eq rfl, trivial⟩
  · have hl : a.length = b.length := by omega
    repeat (first | refine AWP.go ok _ _ _ _ _ rfl ?_ | refine z5 (by kernel_rfl) ?_ | refine And.intro (by first | omega | (unfold inI; omega) | (dsimp only; omega)) ?_)
    refine z93 (fun k : Nat => ([(0, lst 3 Tree.cs' a), (1, lst 3 Tree.cs' b), (5, .int k)], [])) (fun k => k ≤ a.length ∧ a.take k = b.take k) (fun k => a.length - k) 0 (by simp)
      ⟨[], rfl, by decide, rfl, ⟨⟨rfl, rfl⟩, ⟨rfl, rfl⟩, ⟨rfl, rfl⟩, trivial⟩, trivial⟩ ?_
    intro k hk
    repeat (first | refine AWP.go ok _ _ _ _ _ rfl ?_ | refine z5 (by kernel_rfl) ?_ | refine And.intro (by first | omega | (unfold inI; omega) | (dsimp only; omega)) ?_)
    refine z2 (fun h => ?_) (fun h => ?_)
    · have hka : k < a.length := by omega
      repeat (first | refine AWP.go ok _ _ _ _ _ rfl ?_ | refine z5 (by kernel_rfl) ?_ | refine And.intro (by first | omega | (unfold inI; omega) | (dsimp only; omega)) ?_)
      refine ⟨_, z86 _ _ _ (by omega), ?_⟩
      repeat (first | refine AWP.go ok _ _ _ _ _ rfl ?_ | refine z5 (by kernel_rfl) ?_ | refine And.intro (by first | omega | (unfold inI; omega) | (dsimp only; omega)) ?_)
      refine ⟨_, z86 _ _ _ (by omega), ?_⟩
      repeat (first | refine AWP.go ok _ _ _ _ _ rfl ?_ | refine z5 (by kernel_rfl) ?_ | refine And.intro (by first | omega | (unfold inI; omega) | (dsimp only; omega)) ?_)
      refine z4 (hel a[k] (List.getElem_mem _) b[k] (List.getElem_mem _)) ?_ ?_ ?_
      · rfl
      · rfl
      repeat (first | refine AWP.go ok _ _ _ _ _ rfl ?_ | refine z5 (by kernel_rfl) ?_ | refine And.intro (by first | omega | (unfold inI; omega) | (dsimp only; omega)) ?_)
      refine z8 (fun h => ?_) (fun h => ?_)
      · repeat (first | refine AWP.go ok _ _ _ _ _ rfl ?_ | refine z5 (by kernel_rfl) ?_ | refine And.intro (by first | omega | (unfold inI; omega) | (dsimp only; omega)) ?_)
        have hne : a ≠ b := by rintro rfl; exact h rfl
        rw [decide_eq_false hne]
        exact ⟨[], by decide, rfl, rfl, ACle.of_eq rfl, trivial⟩
      · repeat (first | refine AWP.go ok _ _ _ _ _ rfl ?_ | refine z5 (by kernel_rfl) ?_ | refine And.intro (by first | omega | (unfold inI; omega) | (dsimp only; omega)) ?_)
        refine ⟨k + 1, [], ⟨by omega, ?_⟩, by omega, rfl, by decide, rfl, ⟨⟨rfl, rfl⟩, ⟨rfl, rfl⟩, ⟨rfl, rfl⟩, trivial⟩, trivial⟩
        have h' : a[k] = b[k] := h
        rw [List.take_succ_eq_append_getElem hka, List.take_succ_eq_append_getElem (by omega), hk.2, h']
    · repeat (first | refine AWP.go ok _ _ _ _ _ rfl ?_ | refine z5 (by kernel_rfl) ?_ | refine And.intro (by first | omega | (unfold inI; omega) | (dsimp only; omega)) ?_)
      have he : a = b := by
        have := hk.2
        rwa [List.take_of_length_le (by omega), List.take_of_length_le (by omega)] at this
      rw [decide_eq_true he]
      exact ⟨[], by decide, rfl, rfl, ACle.of_eq rfl, trivial⟩

theorem eqExpr_ok (a : Tree) : a.mx → ∀ b : Tree, b.mx → CallsA Tryz.prog 131 [z70 Tree.cs' a, z70 Tree.cs' b] [] (.bool (decide (a = b))) [] := by
  induction a using Tree.ind with | h a ih => ?_
  intro ha b hb
  rw [Tree.mx_iff] at ha hb
  have hk := eqExprS_of a.kids b.kids ha.1 hb.1 (fun s hs t ht => ih s hs (ha.2 s hs) t (hb.2 t ht))
  refine z7 z28 Tryz.func131 rfl rfl 21 Tryz.ntmps131 (by simp) ?_
  repeat (first | refine AWP.go ok _ _ _ _ _ rfl ?_ | refine z5 (by kernel_rfl) ?_ | refine And.intro (by first | omega | (unfold inI; omega) | (dsimp only; omega)) ?_)
  refine z8 (fun h => ?_) (fun h1 => ?_)
  · repeat (first | refine AWP.go ok _ _ _ _ _ rfl ?_ | refine z5 (by kernel_rfl) ?_ | refine And.intro (by first | omega | (unfold inI; omega) | (dsimp only; omega)) ?_)
    have hne : a ≠ b := by rintro rfl; exact h rfl
    rw [decide_eq_false hne]
    exact ⟨[], by decide, rfl, rfl, ACle.of_eq rfl, trivial⟩
  repeat (first | refine AWP.go ok _ _ _ _ _ rfl ?_ | refine z5 (by kernel_rfl) ?_ | refine And.intro (by first | omega | (unfold inI; omega) | (dsimp only; omega)) ?_)
  refine z8 (fun h => ?_) (fun h2 => ?_)
  · repeat (first | refine AWP.go ok _ _ _ _ _ rfl ?_ | refine z5 (by kernel_rfl) ?_ | refine And.intro (by first | omega | (unfold inI; omega) | (dsimp only; omega)) ?_)
    have hne : a ≠ b := by rintro rfl; exact h rfl
    rw [decide_eq_false hne]
    exact ⟨[], by decide, rfl, rfl, ACle.of_eq rfl, trivial⟩
  repeat (first | refine AWP.go ok _ _ _ _ _ rfl ?_ | refine z5 (by kernel_rfl) ?_ | refine And.intro (by first | omega | (unfold inI; omega) | (dsimp only; omega)) ?_)
  refine z4 hk ?_ ?_ ?_
  · show [AC.list 3 a.kids.length (a.kids.map Tree.cs), AC.list 3 b.kids.length (b.kids.map Tree.cs)] = _
    rw [Tree.lst_eq, Tree.lst_eq]
    rfl
  · rfl
  repeat (first | refine AWP.go ok _ _ _ _ _ rfl ?_ | refine z5 (by kernel_rfl) ?_ | refine And.intro (by first | omega | (unfold inI; omega) | (dsimp only; omega)) ?_)
  refine z8 (fun h => ?_) (fun h3 => ?_)
  · repeat (first | refine AWP.go ok _ _ _ _ _ rfl ?_ | refine z5 (by kernel_rfl) ?_ | refine And.intro (by first | omega | (unfold inI; omega) | (dsimp only; omega)) ?_)
    have hne : a ≠ b := by rintro rfl; exact h rfl
    rw [decide_eq_false hne]
    exact ⟨[], by decide, rfl, rfl, ACle.of_eq rfl, trivial⟩
  · repeat (first | refine AWP.go ok _ _ _ _ _ rfl ?_ | refine z5 (by kernel_rfl) ?_ | refine And.intro (by first | omega | (unfold inI; omega) | (dsimp only; omega)) ?_)
    have he : a = b := Tree.ext h1 h2 h3
    rw [decide_eq_true he]
    exact ⟨[], by decide, rfl, rfl, ACle.of_eq rfl, trivial⟩
end Go.Proofs.YtknlmbniicacmaaGreat

namespace Go.Proofs.YtknlmbniicacmaaGreat
open Go.Gl
attribute [local irreducible] z22

def encL (l : List Int) : List AC := [ints l]
theorem encL_unown (l : List Int) : ∀ x ∈ encL l, x.unown = x := fun x hx => by
  simp only [encL, List.mem_cons, List.not_mem_nil, or_false] at hx
  subst hx; rfl
theorem szIntSS_of (l : List (List Int)) (n : Int) (hl : l.length ≤ maxLen) (hel : ∀ s ∈ l, ∀ n : Int, 0 ≤ n → n ≤ 1048576 → CallsA Tryz.prog 115 [ints s, .int n] [] (.int (bud n (List.length s))) []) (h0 : 0 ≤ n) (h1 : n ≤ 1048576) : CallsA Tryz.prog 113 [lst 1 encL l, .int n] [] (.int (bud n (tot List.length l))) [] := by
  unfold maxLen at hl
  refine z7 z28 Tryz.func113 rfl rfl 27 Tryz.ntmps113 (by simp) ?_
  repeat (first | refine AWP.go ok _ _ _ _ _ rfl ?_ | refine z5 (by kernel_rfl) ?_ | refine And.intro (by first | omega | (unfold inI; omega) | (dsimp only; omega)) ?_)
  refine z2 (fun h => ?_) (fun h => ?_)
  · repeat (first | refine AWP.go ok _ _ _ _ _ rfl ?_ | refine z5 (by kernel_rfl) ?_ | refine And.intro (by first | omega | (unfold inI; omega) | (dsimp only; omega)) ?_)
    have : bud n (tot List.length l) = -1 := by unfold bud tot; rw [if_pos (by omega)]
    rw [this]
    exact ⟨[], by decide, rfl, rfl, ACle.of_eq rfl, trivial⟩
  · repeat (first | refine AWP.go ok _ _ _ _ _ rfl ?_ | refine z5 (by kernel_rfl) ?_ | refine And.intro (by first | omega | (unfold inI; omega) | (dsimp only; omega)) ?_)
    refine z93 (fun k : Nat => ([(0, lst 1 encL l), (1, .int (n - l.length - ((l.take k).map List.length).sum)), (5, .int k)], [])) (fun k => k ≤ l.length ∧ 0 ≤ n - l.length - ((l.take k).map List.length).sum) (fun k => l.length - k) 0 ⟨by omega, by simp; omega⟩
      ⟨[], rfl, by decide, rfl, ⟨⟨rfl, rfl⟩, ⟨rfl, by simp; rfl⟩, ⟨rfl, rfl⟩, trivial⟩, trivial⟩ ?_
    intro k hk
    obtain ⟨hk1, hk2⟩ := hk
    repeat (first | refine AWP.go ok _ _ _ _ _ rfl ?_ | refine z5 (by kernel_rfl) ?_ | refine And.intro (by first | omega | (unfold inI; omega) | (dsimp only; omega)) ?_)
    refine z2 (fun h => ?_) (fun h => ?_)
    · have hkl : k < l.length := by omega
      repeat (first | refine AWP.go ok _ _ _ _ _ rfl ?_ | refine z5 (by kernel_rfl) ?_ | refine And.intro (by first | omega | (unfold inI; omega) | (dsimp only; omega)) ?_)
      refine ⟨_, z86 _ _ _ hkl, ?_⟩
      repeat (first | refine AWP.go ok _ _ _ _ _ rfl ?_ | refine z5 (by kernel_rfl) ?_ | refine And.intro (by first | omega | (unfold inI; omega) | (dsimp only; omega)) ?_)
      refine z4 (hel l[k] (List.getElem_mem _) _ hk2 (by omega)) ?_ ?_ ?_
      · rfl
      · rfl
      repeat (first | refine AWP.go ok _ _ _ _ _ rfl ?_ | refine z5 (by kernel_rfl) ?_ | refine And.intro (by first | omega | (unfold inI; omega) | (dsimp only; omega)) ?_)
      have e := sum_take List.length l k hkl
      have e2 := sum_take_le List.length l (k + 1)
      refine z2 (fun h => ?_) (fun h => ?_)
      · repeat (first | refine AWP.go ok _ _ _ _ _ rfl ?_ | refine z5 (by kernel_rfl) ?_ | refine And.intro (by first | omega | (unfold inI; omega) | (dsimp only; omega)) ?_)
        have : bud n (tot List.length l) = -1 := by unfold bud at h ⊢; unfold tot; split at h <;> rw [if_pos (by omega)] <;> omega
        rw [this]
        exact ⟨[], by decide, rfl, rfl, ACle.of_eq rfl, trivial⟩
      · repeat (first | refine AWP.go ok _ _ _ _ _ rfl ?_ | refine z5 (by kernel_rfl) ?_ | refine And.intro (by first | omega | (unfold inI; omega) | (dsimp only; omega)) ?_)
        have e3 : bud (n - l.length - ((l.take k).map List.length).sum) (List.length l[k]) = n - l.length - ((l.take (k + 1)).map List.length).sum := by unfold bud at h ⊢; split at h <;> rename_i hh <;> (first | rw [if_pos hh] | rw [if_neg hh]) <;> omega
        refine ⟨k + 1, [], ⟨by omega, ?_⟩, by omega, rfl, by decide, rfl, ⟨⟨rfl, rfl⟩, ⟨rfl, ?_⟩, ⟨rfl, rfl⟩, trivial⟩, trivial⟩
        · rw [← e3]; omega
        · rw [← e3]; rfl
    · repeat (first | refine AWP.go ok _ _ _ _ _ rfl ?_ | refine z5 (by kernel_rfl) ?_ | refine And.intro (by first | omega | (unfold inI; omega) | (dsimp only; omega)) ?_)
      obtain rfl : k = l.length := by omega
      rw [List.take_length] at hk2
      have : bud n (tot List.length l) = n - l.length - (l.map List.length).sum := by unfold bud tot; rw [if_neg (by omega)]; omega
      rw [this, List.take_length]
      exact ⟨[], by decide, rfl, rfl, ACle.of_eq rfl, trivial⟩
theorem toIntSS_of (l : List (List Int)) (hl : l.length ≤ 1048576) (hel : ∀ s ∈ l, CallsA Tryz.prog 122 [ints s] [] (ints s) []) : CallsA Tryz.prog 120 [lst 1 encL l] [] (lst 1 encL l) [] := by
  refine z7 z28 Tryz.func120 rfl rfl 23 Tryz.ntmps120 (by simp) ?_
  repeat (first | refine AWP.go ok _ _ _ _ _ rfl ?_ | refine z5 (by kernel_rfl) ?_ | refine And.intro (by first | omega | (unfold inI; omega) | (dsimp only; omega)) ?_)
  refine z93 (fun k : Nat => ([(0, lst 1 encL l), (3, .sref 0 0 l.length), (4, .int k)], [.cells 1 ((l.take k).map encL ++ List.replicate (l.length - k) [.nils])])) (fun k => k ≤ l.length) (fun k => l.length - k) 0 (by omega)
    ⟨[0], rfl, by decide, rfl, ⟨⟨rfl, rfl⟩, ⟨rfl, rfl⟩, ⟨rfl, rfl⟩, trivial⟩, ⟨z10 (by rfl) (z9 (z0 fun _ => rfl) (z1 rfl)), trivial⟩⟩ ?_
  · intro k hk
    repeat (first | refine AWP.go ok _ _ _ _ _ rfl ?_ | refine z5 (by kernel_rfl) ?_ | refine And.intro (by first | omega | (unfold inI; omega) | (dsimp only; omega)) ?_)
    refine z2 (fun h => ?_) (fun h => ?_)
    · repeat (first | refine AWP.go ok _ _ _ _ _ rfl ?_ | refine z5 (by kernel_rfl) ?_ | refine And.intro (by first | omega | (unfold inI; omega) | (dsimp only; omega)) ?_)
      refine ⟨_, z86 _ _ _ (by omega), ?_⟩
      repeat (first | refine AWP.go ok _ _ _ _ _ rfl ?_ | refine z5 (by kernel_rfl) ?_ | refine And.intro (by first | omega | (unfold inI; omega) | (dsimp only; omega)) ?_)
      refine z4 (hel l[k] (List.getElem_mem _)) ?_ ?_ ?_
      · rfl
      · rfl
      repeat (first | refine AWP.go ok _ _ _ _ _ rfl ?_ | refine z5 (by kernel_rfl) ?_ | refine And.intro (by first | omega | (unfold inI; omega) | (dsimp only; omega)) ?_)
      refine ⟨[.nils], fill_get _ _ _ _ (by omega), ?_⟩
      repeat (first | refine AWP.go ok _ _ _ _ _ rfl ?_ | refine z5 (by kernel_rfl) ?_ | refine And.intro (by first | omega | (unfold inI; omega) | (dsimp only; omega)) ?_)
      exact ⟨k + 1, [0], by omega, by omega, rfl, by decide, rfl, ⟨⟨rfl, rfl⟩, ⟨rfl, rfl⟩, ⟨rfl, rfl⟩, trivial⟩, ⟨z10 (z16 (fill_set _ _ _ _ (by omega))) (z9 (z0 fun _ => rfl) (z1 rfl)), trivial⟩⟩
    · refine AWP.go ok _ _ _ _ _ rfl ?_
      obtain rfl : k = l.length := by omega
      refine AWP.reach (SealL.reach (π := []) (Bn := [0]) (env := [(3, lst 1 encL l)]) (objs := []) ⟨rfl, rfl, by simp, rfl, by simp, ⟨?_, trivial⟩, rfl⟩) ?_
      · exact bor_seal rfl rfl rfl (by simp) (z98 encL_unown l) (by simp)
      repeat (first | refine AWP.go ok _ _ _ _ _ rfl ?_ | refine z5 (by kernel_rfl) ?_ | refine And.intro (by first | omega | (unfold inI; omega) | (dsimp only; omega)) ?_)
      exact ⟨[], by decide, rfl, rfl, ACle.of_eq rfl, trivial⟩
theorem eqIntSS_of (a b : List (List Int)) (ha : a.length ≤ maxLen) (hb : b.length ≤ maxLen) (hel : ∀ s ∈ a, ∀ t ∈ b, CallsA Tryz.prog 128 [ints s, ints t] [] (.bool (decide (s = t))) []) : CallsA Tryz.prog 130 [lst 1 encL a, lst 1 encL b] [] (.bool (decide (a = b))) [] := by
  unfold maxLen at ha hb
  refine z7 z28 Tryz.func130 rfl rfl 27 Tryz.ntmps130 (by simp) ?_
  repeat (first | refine AWP.go ok _ _ _ _ _ rfl ?_ | refine z5 (by kernel_rfl) ?_ | refine And.intro (by first | omega | (unfold inI; omega) | (dsimp only; omega)) ?_)
  refine z8 (fun h => ?_) (fun h => ?_)
  · repeat (first | refine AWP.go ok _ _ _ _ _ rfl ?_ | refine z5 (by kernel_rfl) ?_ | refine And.intro (by first | omega | (unfold inI; omega) | (dsimp only; omega)) ?_)
    have hne : a ≠ b := by rintro rfl; exact h rfl
    rw [decide_eq_false hne]
    exact ⟨[], by decide, rfl, rfl, ACle.of_eq rfl, trivial⟩
  · have hl : a.length = b.length := by omega
    repeat (first | refine AWP.go ok _ _ _ _ _ rfl ?_ | refine z5 (by kernel_rfl) ?_ | refine And.intro (by first | omega | (unfold inI; omega) | (dsimp only; omega)) ?_)
    refine z93 (fun k : Nat => ([(0, lst 1 encL a), (1, lst 1 encL b), (5, .int k)], [])) (fun k => k ≤ a.length ∧ a.take k = b.take k) (fun k => a.length - k) 0 (by simp)
      ⟨[], rfl, by decide, rfl, ⟨⟨rfl, rfl⟩, ⟨rfl, rfl⟩, ⟨rfl, rfl⟩, trivial⟩, trivial⟩ ?_
    intro k hk
    repeat (first | refine AWP.go ok _ _ _ _ _ rfl ?_ | refine z5 (by kernel_rfl) ?_ | refine And.intro (by first | omega | (unfold inI; omega) | (dsimp only; omega)) ?_)
    refine z2 (fun h => ?_) (fun h => ?_)
    · have hka : k < a.length := by omega
      repeat (first | refine AWP.go ok _ _ _ _ _ rfl ?_ | refine z5 (by kernel_rfl) ?_ | refine And.intro (by first | omega | (unfold inI; omega) | (dsimp only; omega)) ?_)
      refine ⟨_, z86 _ _ _ (by omega), ?_⟩
      repeat (first | refine AWP.go ok _ _ _ _ _ rfl ?_ | refine z5 (by kernel_rfl) ?_ | refine And.intro (by first | omega | (unfold inI; omega) | (dsimp only; omega)) ?_)
      refine ⟨_, z86 _ _ _ (by omega), ?_⟩
      repeat (first | refine AWP.go ok _ _ _ _ _ rfl ?_ | refine z5 (by kernel_rfl) ?_ | refine And.intro (by first | omega | (unfold inI; omega) | (dsimp only; omega)) ?_)
      refine z4 (hel a[k] (List.getElem_mem _) b[k] (List.getElem_mem _)) ?_ ?_ ?_
      · rfl
      · rfl
      repeat (first | refine AWP.go ok _ _ _ _ _ rfl ?_ | refine z5 (by kernel_rfl) ?_ | refine And.intro (by first | omega | (unfold inI; omega) | (dsimp only; omega)) ?_)
      refine z8 (fun h => ?_) (fun h => ?_)
      · repeat (first | refine AWP.go ok _ _ _ _ _ rfl ?_ | refine z5 (by kernel_rfl) ?_ | refine And.intro (by first | omega | (unfold inI; omega) | (dsimp only; omega)) ?_)
        have hne : a ≠ b := by rintro rfl; exact h rfl
        rw [decide_eq_false hne]
        exact ⟨[], by decide, rfl, rfl, ACle.of_eq rfl, trivial⟩
      · repeat (first | refine AWP.go ok _ _ _ _ _ rfl ?_ | refine z5 (by kernel_rfl) ?_ | refine And.intro (by first | omega | (unfold inI; omega) | (dsimp only; omega)) ?_)
        refine ⟨k + 1, [], ⟨by omega, ?_⟩, by omega, rfl, by decide, rfl, ⟨⟨rfl, rfl⟩, ⟨rfl, rfl⟩, ⟨rfl, rfl⟩, trivial⟩, trivial⟩
        have h' : a[k] = b[k] := h
        rw [List.take_succ_eq_append_getElem hka, List.take_succ_eq_append_getElem (by omega), hk.2, h']
    · repeat (first | refine AWP.go ok _ _ _ _ _ rfl ?_ | refine z5 (by kernel_rfl) ?_ | refine And.intro (by first | omega | (unfold inI; omega) | (dsimp only; omega)) ?_)
      have he : a = b := by
        have := hk.2
        rwa [List.take_of_length_le (by omega), List.take_of_length_le (by omega)] at this
      rw [decide_eq_true he]
      exact ⟨[], by decide, rfl, rfl, ACle.of_eq rfl, trivial⟩
end Go.Proofs.YtknlmbniicacmaaGreat

namespace Go.Proofs.YtknlmbniicacmaaGreat
open Go.Gl
attribute [local irreducible] z22

structure Graph where
  st : List State
  nx : List (List Int)
  deriving DecidableEq
def Graph.a1 (g : Graph) : AC := lst 2 State.cs g.st
def Graph.a2 (g : Graph) : AC := lst 1 encL g.nx
def Graph.cs (g : Graph) : List AC := [lst 2 State.cs g.st, lst 1 encL g.nx]
def Graph.s1 (g : Graph) : Nat := tot State.sz g.st
def Graph.s2 (g : Graph) : Nat := tot List.length g.nx
theorem szGraph_of (s : Graph) (n : Int) (c0 : ∀ n : Int, 0 ≤ n → n ≤ 1048576 → CallsA Tryz.prog 112 [Graph.a1 s, .int n] [] (.int (bud n (Graph.s1 s))) []) (c1 : ∀ n : Int, 0 ≤ n → n ≤ 1048576 → CallsA Tryz.prog 113 [Graph.a2 s, .int n] [] (.int (bud n (Graph.s2 s))) []) (h0 : 0 ≤ n) (h1 : n ≤ 1048576) : CallsA Tryz.prog 33 [.agg (Graph.cs s), .int n] [] (.int (bud n (Graph.s1 s + Graph.s2 s))) [] := by
  refine z7 z28 Tryz.func33 rfl rfl 18 Tryz.ntmps33 (by simp) ?_
  repeat (first | refine AWP.go ok _ _ _ _ _ rfl ?_ | refine z5 (by kernel_rfl) ?_ | refine And.intro (by first | omega | (unfold inI; omega) | (dsimp only; omega)) ?_)
  refine z4 (c0 (n) (by omega) (by omega)) ?_ ?_ ?_
  · rfl
  · rfl
  repeat (first | refine AWP.go ok _ _ _ _ _ rfl ?_ | refine z5 (by kernel_rfl) ?_ | refine And.intro (by first | omega | (unfold inI; omega) | (dsimp only; omega)) ?_)
  refine z2 (fun g0 => ?_) (fun g0 => ?_)
  · repeat (first | refine AWP.go ok _ _ _ _ _ rfl ?_ | refine z5 (by kernel_rfl) ?_ | refine And.intro (by first | omega | (unfold inI; omega) | (dsimp only; omega)) ?_)
    have e : bud n (Graph.s1 s + Graph.s2 s) = -1 := by unfold bud at g0 ⊢; split at g0 <;> rw [if_pos (by omega)] <;> omega
    rw [e]
    exact ⟨[], by decide, rfl, rfl, ACle.of_eq rfl, trivial⟩
  have e0 : bud (n) (Graph.s1 s) = n - (Graph.s1 s : Int) := by unfold bud at g0 ⊢; split at g0 <;> rename_i hh <;> (first | rw [if_pos hh] | rw [if_neg hh]) <;> omega
  rw [e0] at g0 ⊢
  repeat (first | refine AWP.go ok _ _ _ _ _ rfl ?_ | refine z5 (by kernel_rfl) ?_ | refine And.intro (by first | omega | (unfold inI; omega) | (dsimp only; omega)) ?_)
  refine z4 (c1 (n - (Graph.s1 s : Int)) (by omega) (by omega)) ?_ ?_ ?_
  · rfl
  · rfl
  repeat (first | refine AWP.go ok _ _ _ _ _ rfl ?_ | refine z5 (by kernel_rfl) ?_ | refine And.intro (by first | omega | (unfold inI; omega) | (dsimp only; omega)) ?_)
  refine z2 (fun g1 => ?_) (fun g1 => ?_)
  · repeat (first | refine AWP.go ok _ _ _ _ _ rfl ?_ | refine z5 (by kernel_rfl) ?_ | refine And.intro (by first | omega | (unfold inI; omega) | (dsimp only; omega)) ?_)
    have e : bud n (Graph.s1 s + Graph.s2 s) = -1 := by unfold bud at g1 ⊢; split at g1 <;> rw [if_pos (by omega)] <;> omega
    rw [e]
    exact ⟨[], by decide, rfl, rfl, ACle.of_eq rfl, trivial⟩
  have e1 : bud (n - (Graph.s1 s : Int)) (Graph.s2 s) = n - (Graph.s1 s : Int) - (Graph.s2 s : Int) := by unfold bud at g1 ⊢; split at g1 <;> rename_i hh <;> (first | rw [if_pos hh] | rw [if_neg hh]) <;> omega
  rw [e1] at g1 ⊢
  repeat (first | refine AWP.go ok _ _ _ _ _ rfl ?_ | refine z5 (by kernel_rfl) ?_ | refine And.intro (by first | omega | (unfold inI; omega) | (dsimp only; omega)) ?_)
  have e : bud n (Graph.s1 s + Graph.s2 s) = n - (Graph.s1 s : Int) - (Graph.s2 s : Int) := by unfold bud; rw [if_neg (by omega)] <;> omega
  try rw [e]
  exact ⟨[], by decide, rfl, rfl, ACle.of_eq rfl, trivial⟩
theorem toGraph_of (s : Graph) (c0 : CallsA Tryz.prog 119 [Graph.a1 s] [] (Graph.a1 s) []) (c1 : CallsA Tryz.prog 120 [Graph.a2 s] [] (Graph.a2 s) []) : CallsA Tryz.prog 37 [.agg (Graph.cs s)] [] (.agg (Graph.cs s)) [] := by
  refine z7 z28 Tryz.func37 rfl rfl 13 Tryz.ntmps37 (by simp) ?_
  repeat (first | refine AWP.go ok _ _ _ _ _ rfl ?_ | refine z5 (by kernel_rfl) ?_ | refine And.intro (by first | omega | (unfold inI; omega) | (dsimp only; omega)) ?_)
  refine z4 c0 ?_ ?_ ?_
  · rfl
  · rfl
  repeat (first | refine AWP.go ok _ _ _ _ _ rfl ?_ | refine z5 (by kernel_rfl) ?_ | refine And.intro (by first | omega | (unfold inI; omega) | (dsimp only; omega)) ?_)
  refine z4 c1 ?_ ?_ ?_
  · rfl
  · rfl
  repeat (first | refine AWP.go ok _ _ _ _ _ rfl ?_ | refine z5 (by kernel_rfl) ?_ | refine And.intro (by first | omega | (unfold inI; omega) | (dsimp only; omega)) ?_)
  exact ⟨[], by decide, rfl, rfl, ACle.of_eq rfl, trivial⟩
theorem eqGraph_of (s t : Graph) (c0 : CallsA Tryz.prog 129 [Graph.a1 s, Graph.a1 t] [] (.bool (decide (Graph.st s = Graph.st t))) []) (c1 : CallsA Tryz.prog 130 [Graph.a2 s, Graph.a2 t] [] (.bool (decide (Graph.nx s = Graph.nx t))) []) : CallsA Tryz.prog 42 [.agg (Graph.cs s), .agg (Graph.cs t)] [] (.bool (decide (s = t))) [] := by
  refine z7 z28 Tryz.func42 rfl rfl 17 Tryz.ntmps42 (by simp) ?_
  repeat (first | refine AWP.go ok _ _ _ _ _ rfl ?_ | refine z5 (by kernel_rfl) ?_ | refine And.intro (by first | omega | (unfold inI; omega) | (dsimp only; omega)) ?_)
  refine z4 c0 ?_ ?_ ?_
  · rfl
  · rfl
  repeat (first | refine AWP.go ok _ _ _ _ _ rfl ?_ | refine z5 (by kernel_rfl) ?_ | refine And.intro (by first | omega | (unfold inI; omega) | (dsimp only; omega)) ?_)
  refine z8 (fun h => ?_) (fun g0 => ?_)
  · repeat (first | refine AWP.go ok _ _ _ _ _ rfl ?_ | refine z5 (by kernel_rfl) ?_ | refine And.intro (by first | omega | (unfold inI; omega) | (dsimp only; omega)) ?_)
    have hne : s ≠ t := by rintro rfl; exact h rfl
    rw [decide_eq_false hne]
    exact ⟨[], by decide, rfl, rfl, ACle.of_eq rfl, trivial⟩
  repeat (first | refine AWP.go ok _ _ _ _ _ rfl ?_ | refine z5 (by kernel_rfl) ?_ | refine And.intro (by first | omega | (unfold inI; omega) | (dsimp only; omega)) ?_)
  refine z4 c1 ?_ ?_ ?_
  · rfl
  · rfl
  repeat (first | refine AWP.go ok _ _ _ _ _ rfl ?_ | refine z5 (by kernel_rfl) ?_ | refine And.intro (by first | omega | (unfold inI; omega) | (dsimp only; omega)) ?_)
  refine z8 (fun h => ?_) (fun g1 => ?_)
  · repeat (first | refine AWP.go ok _ _ _ _ _ rfl ?_ | refine z5 (by kernel_rfl) ?_ | refine And.intro (by first | omega | (unfold inI; omega) | (dsimp only; omega)) ?_)
    have hne : s ≠ t := by rintro rfl; exact h rfl
    rw [decide_eq_false hne]
    exact ⟨[], by decide, rfl, rfl, ACle.of_eq rfl, trivial⟩
  repeat (first | refine AWP.go ok _ _ _ _ _ rfl ?_ | refine z5 (by kernel_rfl) ?_ | refine And.intro (by first | omega | (unfold inI; omega) | (dsimp only; omega)) ?_)
  have he : s = t := by cases s; cases t; simp_all
  rw [decide_eq_true he]
  exact ⟨[], by decide, rfl, rfl, ACle.of_eq rfl, trivial⟩
end Go.Proofs.YtknlmbniicacmaaGreat

