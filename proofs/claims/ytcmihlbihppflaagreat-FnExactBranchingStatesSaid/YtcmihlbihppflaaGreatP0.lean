/- A part of the proofs over this program: Tab, T3, T4, T5, T6, T7, T8, T9, T10, T11, T12, T13. -/
import Derived.Test.YtcmihlbihppflaaGreatG0
import Derived.Test.YtcmihlbihppflaaGreatG1
import Derived.Test.YtcmihlbihppflaaGreatG2
import Derived.Test.YtcmihlbihppflaaGreatProg
import Derived.KernelRfl
set_option linter.all false
/- The types of this translation, as the ghost logic asks for them. Written by a program. -/
namespace Go.Proofs.YtcmihlbihppflaaGreat
open Go.Gl
def tabL : List (Nat × TyI) := [
  (3, ⟨.int .i64, 1, 8, .int .i64 0⟩),
  (27, ⟨.slice 3, 1, 24, .slice none 0 0⟩),
  (102, ⟨.struct #[{ name := "Kind", type := 3, offset := 0, embedded := false, tag := "", pkgPath := "", byteOffset := 0 }, { name := "Atom", type := 3, offset := 1, embedded := false, tag := "", pkgPath := "", byteOffset := 8 }, { name := "Kids", type := 100, offset := 2, embedded := false, tag := "", pkgPath := "", byteOffset := 16 }], 3, 40, .agg #[.int .i64 0, .int .i64 0, .slice none 0 0]⟩),
  (100, ⟨.slice 102, 1, 24, .slice none 0 0⟩),
  (28, ⟨.slice 4, 1, 24, .slice none 0 0⟩),
  (39, ⟨.struct #[{ name := "States", type := 37, offset := 0, embedded := false, tag := "", pkgPath := "", byteOffset := 0 }, { name := "Next", type := 23, offset := 1, embedded := false, tag := "", pkgPath := "", byteOffset := 24 }], 2, 48, .agg #[.slice none 0 0, .slice none 0 0]⟩),
  (45, ⟨.struct #[{ name := "Initial", type := 27, offset := 0, embedded := false, tag := "", pkgPath := "", byteOffset := 0 }, { name := "Accepting", type := 28, offset := 1, embedded := false, tag := "", pkgPath := "", byteOffset := 24 }, { name := "Edges", type := 43, offset := 2, embedded := false, tag := "", pkgPath := "", byteOffset := 48 }], 3, 72, .agg #[.slice none 0 0, .slice none 0 0, .slice none 0 0]⟩),
  (23, ⟨.slice 27, 1, 24, .slice none 0 0⟩),
  (59, ⟨.struct #[{ name := "Ranks", type := 27, offset := 0, embedded := false, tag := "", pkgPath := "", byteOffset := 0 }], 1, 24, .agg #[.slice none 0 0]⟩),
  (4, ⟨.bool, 1, 1, .bool false⟩),
  (73, ⟨.struct #[{ name := "Kind", type := 3, offset := 0, embedded := false, tag := "", pkgPath := "", byteOffset := 0 }, { name := "Atom", type := 3, offset := 1, embedded := false, tag := "", pkgPath := "", byteOffset := 8 }, { name := "Kids", type := 71, offset := 2, embedded := false, tag := "", pkgPath := "", byteOffset := 16 }], 3, 40, .agg #[.int .i64 0, .int .i64 0, .slice none 0 0]⟩),
  (118, ⟨.struct #[{ name := "Kind", type := 3, offset := 0, embedded := false, tag := "", pkgPath := "", byteOffset := 0 }, { name := "Value", type := 3, offset := 1, embedded := false, tag := "", pkgPath := "", byteOffset := 8 }, { name := "Kids", type := 41, offset := 2, embedded := false, tag := "", pkgPath := "", byteOffset := 16 }], 3, 40, .agg #[.int .i64 0, .int .i64 0, .slice none 0 0]⟩),
  (43, ⟨.slice 165, 1, 24, .slice none 0 0⟩),
  (165, ⟨.struct #[{ name := "From", type := 3, offset := 0, embedded := false, tag := "", pkgPath := "", byteOffset := 0 }, { name := "Care", type := 3, offset := 1, embedded := false, tag := "", pkgPath := "", byteOffset := 8 }, { name := "Value", type := 3, offset := 2, embedded := false, tag := "", pkgPath := "", byteOffset := 16 }, { name := "To", type := 3, offset := 3, embedded := false, tag := "", pkgPath := "", byteOffset := 24 }], 4, 32, .agg #[.int .i64 0, .int .i64 0, .int .i64 0, .int .i64 0]⟩),
  (37, ⟨.slice 166, 1, 24, .slice none 0 0⟩),
  (41, ⟨.slice 118, 1, 24, .slice none 0 0⟩),
  (25, ⟨.struct #[{ name := "States", type := 22, offset := 0, embedded := false, tag := "", pkgPath := "", byteOffset := 0 }, { name := "Next", type := 23, offset := 1, embedded := false, tag := "", pkgPath := "", byteOffset := 24 }], 2, 48, .agg #[.slice none 0 0, .slice none 0 0]⟩),
  (79, ⟨.struct #[{ name := "Stem", type := 27, offset := 0, embedded := false, tag := "", pkgPath := "", byteOffset := 0 }, { name := "Loop", type := 27, offset := 1, embedded := false, tag := "", pkgPath := "", byteOffset := 24 }], 2, 48, .agg #[.slice none 0 0, .slice none 0 0]⟩),
  (176, ⟨.slice 28, 1, 24, .slice none 0 0⟩),
  (71, ⟨.slice 73, 1, 24, .slice none 0 0⟩),
  (31, ⟨.struct #[{ name := "Initial", type := 27, offset := 0, embedded := false, tag := "", pkgPath := "", byteOffset := 0 }, { name := "Accepting", type := 28, offset := 1, embedded := false, tag := "", pkgPath := "", byteOffset := 24 }, { name := "Edges", type := 29, offset := 2, embedded := false, tag := "", pkgPath := "", byteOffset := 48 }], 3, 72, .agg #[.slice none 0 0, .slice none 0 0, .slice none 0 0]⟩),
  (166, ⟨.struct #[{ name := "Locs", type := 27, offset := 0, embedded := false, tag := "", pkgPath := "", byteOffset := 0 }, { name := "Vals", type := 27, offset := 1, embedded := false, tag := "", pkgPath := "", byteOffset := 24 }], 2, 48, .agg #[.slice none 0 0, .slice none 0 0]⟩),
  (239, ⟨.slice 242, 1, 24, .slice none 0 0⟩),
  (278, ⟨.int .u64, 1, 8, .int .u64 0⟩),
  (242, ⟨.struct #[{ name := "set", type := 3, offset := 0, embedded := false, tag := "", pkgPath := "loop.example/ltlcheck/impl", byteOffset := 0 }, { name := "phase", type := 3, offset := 1, embedded := false, tag := "", pkgPath := "loop.example/ltlcheck/impl", byteOffset := 8 }], 2, 16, .agg #[.int .i64 0, .int .i64 0]⟩),
  (212, ⟨.int .u64, 1, 8, .int .u64 0⟩),
  (57, ⟨.struct #[{ name := "Ranks", type := 27, offset := 0, embedded := false, tag := "", pkgPath := "", byteOffset := 0 }], 1, 24, .agg #[.slice none 0 0]⟩),
  (68, ⟨.struct #[{ name := "Kind", type := 3, offset := 0, embedded := false, tag := "", pkgPath := "", byteOffset := 0 }, { name := "Atom", type := 3, offset := 1, embedded := false, tag := "", pkgPath := "", byteOffset := 8 }, { name := "Kids", type := 66, offset := 2, embedded := false, tag := "", pkgPath := "", byteOffset := 16 }], 3, 40, .agg #[.int .i64 0, .int .i64 0, .slice none 0 0]⟩),
  (238, ⟨.struct #[{ name := "basics", type := 100, offset := 0, embedded := false, tag := "", pkgPath := "loop.example/ltlcheck/impl", byteOffset := 0 }, { name := "untils", type := 27, offset := 1, embedded := false, tag := "", pkgPath := "loop.example/ltlcheck/impl", byteOffset := 24 }], 2, 48, .agg #[.slice none 0 0, .slice none 0 0]⟩),
  (97, ⟨.struct #[{ name := "Kind", type := 3, offset := 0, embedded := false, tag := "", pkgPath := "", byteOffset := 0 }, { name := "Atom", type := 3, offset := 1, embedded := false, tag := "", pkgPath := "", byteOffset := 8 }, { name := "Kids", type := 95, offset := 2, embedded := false, tag := "", pkgPath := "", byteOffset := 16 }], 3, 40, .agg #[.int .i64 0, .int .i64 0, .slice none 0 0]⟩),
  (188, ⟨.pointer 3, 1, 8, .pointer none⟩),
  (22, ⟨.slice 161, 1, 24, .slice none 0 0⟩),
  (26, ⟨.slice 110, 1, 24, .slice none 0 0⟩),
  (66, ⟨.slice 68, 1, 24, .slice none 0 0⟩),
  (95, ⟨.slice 97, 1, 24, .slice none 0 0⟩),
  (236, ⟨.pointer 238, 1, 8, .pointer none⟩),
  (276, ⟨.struct #[{ name := "care", type := 3, offset := 0, embedded := false, tag := "", pkgPath := "loop.example/ltlcheck/impl", byteOffset := 0 }, { name := "value", type := 3, offset := 1, embedded := false, tag := "", pkgPath := "loop.example/ltlcheck/impl", byteOffset := 8 }, { name := "to", type := 242, offset := 2, embedded := false, tag := "", pkgPath := "loop.example/ltlcheck/impl", byteOffset := 16 }], 4, 32, .agg #[.int .i64 0, .int .i64 0, .int .i64 0, .int .i64 0]⟩),
  (263, ⟨.int .u64, 1, 8, .int .u64 0⟩),
  (110, ⟨.struct #[{ name := "Kind", type := 3, offset := 0, embedded := false, tag := "", pkgPath := "", byteOffset := 0 }, { name := "Value", type := 3, offset := 1, embedded := false, tag := "", pkgPath := "", byteOffset := 8 }, { name := "Kids", type := 26, offset := 2, embedded := false, tag := "", pkgPath := "", byteOffset := 16 }], 3, 40, .agg #[.int .i64 0, .int .i64 0, .slice none 0 0]⟩),
  (29, ⟨.slice 169, 1, 24, .slice none 0 0⟩),
  (161, ⟨.struct #[{ name := "Locs", type := 27, offset := 0, embedded := false, tag := "", pkgPath := "", byteOffset := 0 }, { name := "Vals", type := 27, offset := 1, embedded := false, tag := "", pkgPath := "", byteOffset := 24 }], 2, 48, .agg #[.slice none 0 0, .slice none 0 0]⟩),
  (261, ⟨.int .u32, 1, 4, .int .u32 0⟩),
  (169, ⟨.struct #[{ name := "From", type := 3, offset := 0, embedded := false, tag := "", pkgPath := "", byteOffset := 0 }, { name := "Care", type := 3, offset := 1, embedded := false, tag := "", pkgPath := "", byteOffset := 8 }, { name := "Value", type := 3, offset := 2, embedded := false, tag := "", pkgPath := "", byteOffset := 16 }, { name := "To", type := 3, offset := 3, embedded := false, tag := "", pkgPath := "", byteOffset := 24 }], 4, 32, .agg #[.int .i64 0, .int .i64 0, .int .i64 0, .int .i64 0]⟩),
  (274, ⟨.slice 276, 1, 24, .slice none 0 0⟩),
  (170, ⟨.slice 43, 1, 24, .slice none 0 0⟩),
  (272, ⟨.map 242 3, 1, 8, .map none⟩),
  (5, ⟨.int .u8, 1, 1, .int .u8 0⟩),
  (254, ⟨.int .i64, 1, 8, .int .i64 0⟩),
  (9, ⟨.string, 1, 16, .string ⟨#[]⟩⟩),
  (252, ⟨.map 3 3, 1, 8, .map none⟩)]
def tab : Tab := tabGet tabL
theorem inf3 : (Tryz.prog.info? 3).map (fun j => (j.zero, j.size, j.bytes)) = some (some (.int .i64 0), 1, 8) := by kernel_rfl
theorem inf27 : (Tryz.prog.info? 27).map (fun j => (j.zero, j.size, j.bytes)) = some (some (.slice none 0 0), 1, 24) := by kernel_rfl
theorem inf102 : (Tryz.prog.info? 102).map (fun j => (j.zero, j.size, j.bytes)) = some (some (.agg #[.int .i64 0, .int .i64 0, .slice none 0 0]), 3, 40) := by kernel_rfl
theorem inf100 : (Tryz.prog.info? 100).map (fun j => (j.zero, j.size, j.bytes)) = some (some (.slice none 0 0), 1, 24) := by kernel_rfl
theorem inf28 : (Tryz.prog.info? 28).map (fun j => (j.zero, j.size, j.bytes)) = some (some (.slice none 0 0), 1, 24) := by kernel_rfl
theorem inf39 : (Tryz.prog.info? 39).map (fun j => (j.zero, j.size, j.bytes)) = some (some (.agg #[.slice none 0 0, .slice none 0 0]), 2, 48) := by kernel_rfl
theorem inf45 : (Tryz.prog.info? 45).map (fun j => (j.zero, j.size, j.bytes)) = some (some (.agg #[.slice none 0 0, .slice none 0 0, .slice none 0 0]), 3, 72) := by kernel_rfl
theorem inf23 : (Tryz.prog.info? 23).map (fun j => (j.zero, j.size, j.bytes)) = some (some (.slice none 0 0), 1, 24) := by kernel_rfl
theorem inf59 : (Tryz.prog.info? 59).map (fun j => (j.zero, j.size, j.bytes)) = some (some (.agg #[.slice none 0 0]), 1, 24) := by kernel_rfl
theorem inf4 : (Tryz.prog.info? 4).map (fun j => (j.zero, j.size, j.bytes)) = some (some (.bool false), 1, 1) := by kernel_rfl
theorem inf73 : (Tryz.prog.info? 73).map (fun j => (j.zero, j.size, j.bytes)) = some (some (.agg #[.int .i64 0, .int .i64 0, .slice none 0 0]), 3, 40) := by kernel_rfl
theorem inf118 : (Tryz.prog.info? 118).map (fun j => (j.zero, j.size, j.bytes)) = some (some (.agg #[.int .i64 0, .int .i64 0, .slice none 0 0]), 3, 40) := by kernel_rfl
theorem inf43 : (Tryz.prog.info? 43).map (fun j => (j.zero, j.size, j.bytes)) = some (some (.slice none 0 0), 1, 24) := by kernel_rfl
theorem inf165 : (Tryz.prog.info? 165).map (fun j => (j.zero, j.size, j.bytes)) = some (some (.agg #[.int .i64 0, .int .i64 0, .int .i64 0, .int .i64 0]), 4, 32) := by kernel_rfl
theorem inf37 : (Tryz.prog.info? 37).map (fun j => (j.zero, j.size, j.bytes)) = some (some (.slice none 0 0), 1, 24) := by kernel_rfl
theorem inf41 : (Tryz.prog.info? 41).map (fun j => (j.zero, j.size, j.bytes)) = some (some (.slice none 0 0), 1, 24) := by kernel_rfl
theorem inf25 : (Tryz.prog.info? 25).map (fun j => (j.zero, j.size, j.bytes)) = some (some (.agg #[.slice none 0 0, .slice none 0 0]), 2, 48) := by kernel_rfl
theorem inf79 : (Tryz.prog.info? 79).map (fun j => (j.zero, j.size, j.bytes)) = some (some (.agg #[.slice none 0 0, .slice none 0 0]), 2, 48) := by kernel_rfl
theorem inf176 : (Tryz.prog.info? 176).map (fun j => (j.zero, j.size, j.bytes)) = some (some (.slice none 0 0), 1, 24) := by kernel_rfl
theorem inf71 : (Tryz.prog.info? 71).map (fun j => (j.zero, j.size, j.bytes)) = some (some (.slice none 0 0), 1, 24) := by kernel_rfl
theorem inf31 : (Tryz.prog.info? 31).map (fun j => (j.zero, j.size, j.bytes)) = some (some (.agg #[.slice none 0 0, .slice none 0 0, .slice none 0 0]), 3, 72) := by kernel_rfl
theorem inf166 : (Tryz.prog.info? 166).map (fun j => (j.zero, j.size, j.bytes)) = some (some (.agg #[.slice none 0 0, .slice none 0 0]), 2, 48) := by kernel_rfl
theorem inf239 : (Tryz.prog.info? 239).map (fun j => (j.zero, j.size, j.bytes)) = some (some (.slice none 0 0), 1, 24) := by kernel_rfl
theorem inf278 : (Tryz.prog.info? 278).map (fun j => (j.zero, j.size, j.bytes)) = some (some (.int .u64 0), 1, 8) := by kernel_rfl
theorem inf242 : (Tryz.prog.info? 242).map (fun j => (j.zero, j.size, j.bytes)) = some (some (.agg #[.int .i64 0, .int .i64 0]), 2, 16) := by kernel_rfl
theorem inf212 : (Tryz.prog.info? 212).map (fun j => (j.zero, j.size, j.bytes)) = some (some (.int .u64 0), 1, 8) := by kernel_rfl
theorem inf57 : (Tryz.prog.info? 57).map (fun j => (j.zero, j.size, j.bytes)) = some (some (.agg #[.slice none 0 0]), 1, 24) := by kernel_rfl
theorem inf68 : (Tryz.prog.info? 68).map (fun j => (j.zero, j.size, j.bytes)) = some (some (.agg #[.int .i64 0, .int .i64 0, .slice none 0 0]), 3, 40) := by kernel_rfl
theorem inf238 : (Tryz.prog.info? 238).map (fun j => (j.zero, j.size, j.bytes)) = some (some (.agg #[.slice none 0 0, .slice none 0 0]), 2, 48) := by kernel_rfl
theorem inf97 : (Tryz.prog.info? 97).map (fun j => (j.zero, j.size, j.bytes)) = some (some (.agg #[.int .i64 0, .int .i64 0, .slice none 0 0]), 3, 40) := by kernel_rfl
theorem inf188 : (Tryz.prog.info? 188).map (fun j => (j.zero, j.size, j.bytes)) = some (some (.pointer none), 1, 8) := by kernel_rfl
theorem inf22 : (Tryz.prog.info? 22).map (fun j => (j.zero, j.size, j.bytes)) = some (some (.slice none 0 0), 1, 24) := by kernel_rfl
theorem inf26 : (Tryz.prog.info? 26).map (fun j => (j.zero, j.size, j.bytes)) = some (some (.slice none 0 0), 1, 24) := by kernel_rfl
theorem inf66 : (Tryz.prog.info? 66).map (fun j => (j.zero, j.size, j.bytes)) = some (some (.slice none 0 0), 1, 24) := by kernel_rfl
theorem inf95 : (Tryz.prog.info? 95).map (fun j => (j.zero, j.size, j.bytes)) = some (some (.slice none 0 0), 1, 24) := by kernel_rfl
theorem inf236 : (Tryz.prog.info? 236).map (fun j => (j.zero, j.size, j.bytes)) = some (some (.pointer none), 1, 8) := by kernel_rfl
theorem inf276 : (Tryz.prog.info? 276).map (fun j => (j.zero, j.size, j.bytes)) = some (some (.agg #[.int .i64 0, .int .i64 0, .int .i64 0, .int .i64 0]), 4, 32) := by kernel_rfl
theorem inf263 : (Tryz.prog.info? 263).map (fun j => (j.zero, j.size, j.bytes)) = some (some (.int .u64 0), 1, 8) := by kernel_rfl
theorem inf110 : (Tryz.prog.info? 110).map (fun j => (j.zero, j.size, j.bytes)) = some (some (.agg #[.int .i64 0, .int .i64 0, .slice none 0 0]), 3, 40) := by kernel_rfl
theorem inf29 : (Tryz.prog.info? 29).map (fun j => (j.zero, j.size, j.bytes)) = some (some (.slice none 0 0), 1, 24) := by kernel_rfl
theorem inf161 : (Tryz.prog.info? 161).map (fun j => (j.zero, j.size, j.bytes)) = some (some (.agg #[.slice none 0 0, .slice none 0 0]), 2, 48) := by kernel_rfl
theorem inf261 : (Tryz.prog.info? 261).map (fun j => (j.zero, j.size, j.bytes)) = some (some (.int .u32 0), 1, 4) := by kernel_rfl
theorem inf169 : (Tryz.prog.info? 169).map (fun j => (j.zero, j.size, j.bytes)) = some (some (.agg #[.int .i64 0, .int .i64 0, .int .i64 0, .int .i64 0]), 4, 32) := by kernel_rfl
theorem inf274 : (Tryz.prog.info? 274).map (fun j => (j.zero, j.size, j.bytes)) = some (some (.slice none 0 0), 1, 24) := by kernel_rfl
theorem inf170 : (Tryz.prog.info? 170).map (fun j => (j.zero, j.size, j.bytes)) = some (some (.slice none 0 0), 1, 24) := by kernel_rfl
theorem inf272 : (Tryz.prog.info? 272).map (fun j => (j.zero, j.size, j.bytes)) = some (some (.map none), 1, 8) := by kernel_rfl
theorem inf5 : (Tryz.prog.info? 5).map (fun j => (j.zero, j.size, j.bytes)) = some (some (.int .u8 0), 1, 1) := by kernel_rfl
theorem inf254 : (Tryz.prog.info? 254).map (fun j => (j.zero, j.size, j.bytes)) = some (some (.int .i64 0), 1, 8) := by kernel_rfl
theorem inf9 : (Tryz.prog.info? 9).map (fun j => (j.zero, j.size, j.bytes)) = some (some (.string ⟨#[]⟩), 1, 16) := by kernel_rfl
theorem inf252 : (Tryz.prog.info? 252).map (fun j => (j.zero, j.size, j.bytes)) = some (some (.map none), 1, 8) := by kernel_rfl
theorem tabOk : TabOk Tryz.prog tab := tabOk_of (⟨tyOk_of Tryz.underlying3 inf3, ⟨tyOk_of Tryz.underlying27 inf27, ⟨tyOk_of Tryz.underlying102 inf102, ⟨tyOk_of Tryz.underlying100 inf100, ⟨tyOk_of Tryz.underlying28 inf28, ⟨tyOk_of Tryz.underlying39 inf39, ⟨tyOk_of Tryz.underlying45 inf45, ⟨tyOk_of Tryz.underlying23 inf23, ⟨tyOk_of Tryz.underlying59 inf59, ⟨tyOk_of Tryz.underlying4 inf4, ⟨tyOk_of Tryz.underlying73 inf73, ⟨tyOk_of Tryz.underlying118 inf118, ⟨tyOk_of Tryz.underlying43 inf43, ⟨tyOk_of Tryz.underlying165 inf165, ⟨tyOk_of Tryz.underlying37 inf37, ⟨tyOk_of Tryz.underlying41 inf41, ⟨tyOk_of Tryz.underlying25 inf25, ⟨tyOk_of Tryz.underlying79 inf79, ⟨tyOk_of Tryz.underlying176 inf176, ⟨tyOk_of Tryz.underlying71 inf71, ⟨tyOk_of Tryz.underlying31 inf31, ⟨tyOk_of Tryz.underlying166 inf166, ⟨tyOk_of Tryz.underlying239 inf239, ⟨tyOk_of Tryz.underlying278 inf278, ⟨tyOk_of Tryz.underlying242 inf242, ⟨tyOk_of Tryz.underlying212 inf212, ⟨tyOk_of Tryz.underlying57 inf57, ⟨tyOk_of Tryz.underlying68 inf68, ⟨tyOk_of Tryz.underlying238 inf238, ⟨tyOk_of Tryz.underlying97 inf97, ⟨tyOk_of Tryz.underlying188 inf188, ⟨tyOk_of Tryz.underlying22 inf22, ⟨tyOk_of Tryz.underlying26 inf26, ⟨tyOk_of Tryz.underlying66 inf66, ⟨tyOk_of Tryz.underlying95 inf95, ⟨tyOk_of Tryz.underlying236 inf236, ⟨tyOk_of Tryz.underlying276 inf276, ⟨tyOk_of Tryz.underlying263 inf263, ⟨tyOk_of Tryz.underlying110 inf110, ⟨tyOk_of Tryz.underlying29 inf29, ⟨tyOk_of Tryz.underlying161 inf161, ⟨tyOk_of Tryz.underlying261 inf261, ⟨tyOk_of Tryz.underlying169 inf169, ⟨tyOk_of Tryz.underlying274 inf274, ⟨tyOk_of Tryz.underlying170 inf170, ⟨tyOk_of Tryz.underlying272 inf272, ⟨tyOk_of Tryz.underlying5 inf5, ⟨tyOk_of Tryz.underlying254 inf254, ⟨tyOk_of Tryz.underlying9 inf9, ⟨tyOk_of Tryz.underlying252 inf252, trivial⟩⟩⟩⟩⟩⟩⟩⟩⟩⟩⟩⟩⟩⟩⟩⟩⟩⟩⟩⟩⟩⟩⟩⟩⟩⟩⟩⟩⟩⟩⟩⟩⟩⟩⟩⟩⟩⟩⟩⟩⟩⟩⟩⟩⟩⟩⟩⟩⟩⟩)
end Go.Proofs.YtcmihlbihppflaaGreat

namespace Go.Proofs.YtcmihlbihppflaaGreat
open Go.Gl
attribute [local irreducible] vcCall
def enI (n : Int) : List AC := [.int n]
def ints (l : List Int) : AC := .list 1 l.length (l.map enI)
/-- what is left of n behind s -/
def bud (n : Int) (s : Nat) : Int := if n - s < 0 then -1 else n - s

theorem ok : Ok Tryz.prog tab := ⟨tabOk, by kernel_rfl⟩

structure State where
  a : List Int
  b : List Int
  deriving DecidableEq
def State.cs (s : State) : List AC := [ints s.a, ints s.b]
def State.mx (s : State) : Prop := s.a.length ≤ maxLen ∧ s.b.length ≤ maxLen
def State.sz (s : State) : Nat := s.a.length + s.b.length

theorem szIntS_ok (l : List Int) (n : Int) (hl : l.length ≤ maxLen) (h0 : 0 ≤ n) (h1 : n ≤ 1048576) : CallsA Tryz.prog 67 [ints l, .int n] [] (.int (bud n l.length)) [] := by
  unfold maxLen at hl
  refine callsA_of tabOk Tryz.func67 rfl rfl 12 Tryz.ntmps67 (by simp) ?_
  repeat (first | refine AWP.go ok _ _ _ _ _ rfl ?_ | refine ord_mk (by kernel_rfl) ?_ | refine And.intro (by first | omega | (unfold inI; omega) | (dsimp only; omega)) ?_)
  refine vcIf_dec (fun h => ?_) (fun h => ?_)
  · repeat (first | refine AWP.go ok _ _ _ _ _ rfl ?_ | refine ord_mk (by kernel_rfl) ?_ | refine And.intro (by first | omega | (unfold inI; omega) | (dsimp only; omega)) ?_)
    have : bud n l.length = -1 := by unfold bud; rw [if_pos h]
    rw [this]
    exact ⟨[], by decide, rfl, rfl, ACle.of_eq rfl, trivial⟩
  · repeat (first | refine AWP.go ok _ _ _ _ _ rfl ?_ | refine ord_mk (by kernel_rfl) ?_ | refine And.intro (by first | omega | (unfold inI; omega) | (dsimp only; omega)) ?_)
    have : bud n l.length = n - l.length := by unfold bud; rw [if_neg h]
    rw [this]
    exact ⟨[], by decide, rfl, rfl, ACle.of_eq rfl, trivial⟩

theorem szState_ok (s : State) (n : Int) (hs : s.mx) (h0 : 0 ≤ n) (h1 : n ≤ 1048576) : CallsA Tryz.prog 125 [.agg s.cs, .int n] [] (.int (bud n s.sz)) [] := by
  refine callsA_of tabOk Tryz.func125 rfl rfl 18 Tryz.ntmps125 (by simp) ?_
  repeat (first | refine AWP.go ok _ _ _ _ _ rfl ?_ | refine ord_mk (by kernel_rfl) ?_ | refine And.intro (by first | omega | (unfold inI; omega) | (dsimp only; omega)) ?_)
  refine call_data (szIntS_ok s.a n hs.1 h0 h1) ?_ ?_ ?_
  · rfl
  · rfl
  repeat (first | refine AWP.go ok _ _ _ _ _ rfl ?_ | refine ord_mk (by kernel_rfl) ?_ | refine And.intro (by first | omega | (unfold inI; omega) | (dsimp only; omega)) ?_)
  refine vcIf_dec (fun h => ?_) (fun h => ?_)
  · repeat (first | refine AWP.go ok _ _ _ _ _ rfl ?_ | refine ord_mk (by kernel_rfl) ?_ | refine And.intro (by first | omega | (unfold inI; omega) | (dsimp only; omega)) ?_)
    have : bud n s.sz = -1 := by unfold bud at h ⊢; unfold State.sz; split at h <;> split <;> omega
    rw [this]
    exact ⟨[], by decide, rfl, rfl, ACle.of_eq rfl, trivial⟩
  · have e : bud n s.a.length = n - s.a.length := by unfold bud at h ⊢; split at h <;> split <;> omega
    rw [e] at h ⊢
    repeat (first | refine AWP.go ok _ _ _ _ _ rfl ?_ | refine ord_mk (by kernel_rfl) ?_ | refine And.intro (by first | omega | (unfold inI; omega) | (dsimp only; omega)) ?_)
    refine call_data (szIntS_ok s.b (n - s.a.length) hs.2 (by omega) (by omega)) ?_ ?_ ?_
    · rfl
    · rfl
    repeat (first | refine AWP.go ok _ _ _ _ _ rfl ?_ | refine ord_mk (by kernel_rfl) ?_ | refine And.intro (by first | omega | (unfold inI; omega) | (dsimp only; omega)) ?_)
    have e2 : bud n s.sz = bud (n - s.a.length) s.b.length := by unfold bud State.sz; split <;> split <;> omega
    rw [e2]
    refine vcIf_dec (fun h => ?_) (fun h => ?_)
    · repeat (first | refine AWP.go ok _ _ _ _ _ rfl ?_ | refine ord_mk (by kernel_rfl) ?_ | refine And.intro (by first | omega | (unfold inI; omega) | (dsimp only; omega)) ?_)
      have : bud (n - s.a.length) s.b.length = -1 := by unfold bud at h ⊢; split at h <;> split <;> omega
      rw [this]
      exact ⟨[], by decide, rfl, rfl, ACle.of_eq rfl, trivial⟩
    · repeat (first | refine AWP.go ok _ _ _ _ _ rfl ?_ | refine ord_mk (by kernel_rfl) ?_ | refine And.intro (by first | omega | (unfold inI; omega) | (dsimp only; omega)) ?_)
      exact ⟨[], by decide, rfl, rfl, ACle.of_eq rfl, trivial⟩
def lst {α : Type} (w : Nat) (e : α → List AC) (l : List α) : AC := .list w l.length (l.map e)
def tot {α : Type} (f : α → Nat) (l : List α) : Nat := l.length + (l.map f).sum
theorem sum_take {α : Type} (f : α → Nat) (l : List α) (k : Nat) (hk : k < l.length) : ((l.take (k + 1)).map f).sum = ((l.take k).map f).sum + f l[k] := by
  rw [List.take_succ_eq_append_getElem hk, List.map_append, List.sum_append]; simp only [List.map_cons, List.map_nil, List.sum_cons, List.sum_nil, Nat.add_zero]
theorem sum_take_le {α : Type} (f : α → Nat) (l : List α) (k : Nat) : ((l.take k).map f).sum ≤ (l.map f).sum := by
  conv => rhs; rw [← List.take_append_drop k l, List.map_append, List.sum_append]
  omega

def State.mxs (l : List State) : Prop := l.length ≤ maxLen ∧ ∀ s ∈ l, s.mx

theorem szStateS_ok (l : List State) (n : Int) (hl : State.mxs l) (h0 : 0 ≤ n) (h1 : n ≤ 1048576) : CallsA Tryz.prog 64 [lst 2 State.cs l, .int n] [] (.int (bud n (tot State.sz l))) [] := by
  obtain ⟨hl, hm⟩ := hl
  unfold maxLen at hl
  refine callsA_of tabOk Tryz.func64 rfl rfl 27 Tryz.ntmps64 (by simp) ?_
  repeat (first | refine AWP.go ok _ _ _ _ _ rfl ?_ | refine ord_mk (by kernel_rfl) ?_ | refine And.intro (by first | omega | (unfold inI; omega) | (dsimp only; omega)) ?_)
  refine vcIf_dec (fun h => ?_) (fun h => ?_)
  · repeat (first | refine AWP.go ok _ _ _ _ _ rfl ?_ | refine ord_mk (by kernel_rfl) ?_ | refine And.intro (by first | omega | (unfold inI; omega) | (dsimp only; omega)) ?_)
    have : bud n (tot State.sz l) = -1 := by unfold bud tot; rw [if_pos (by omega)]
    rw [this]
    exact ⟨[], by decide, rfl, rfl, ACle.of_eq rfl, trivial⟩
  · repeat (first | refine AWP.go ok _ _ _ _ _ rfl ?_ | refine ord_mk (by kernel_rfl) ?_ | refine And.intro (by first | omega | (unfold inI; omega) | (dsimp only; omega)) ?_)
    refine awp_loop (fun k : Nat => ([(0, lst 2 State.cs l), (1, .int (n - l.length - ((l.take k).map State.sz).sum)), (5, .int k)], [])) (fun k => k ≤ l.length ∧ 0 ≤ n - l.length - ((l.take k).map State.sz).sum) (fun k => l.length - k) 0 ⟨by omega, by simp; omega⟩
      ⟨[], rfl, by decide, rfl, ⟨⟨rfl, rfl⟩, ⟨rfl, by simp; rfl⟩, ⟨rfl, rfl⟩, trivial⟩, trivial⟩ ?_
    intro k hk
    obtain ⟨hk1, hk2⟩ := hk
    repeat (first | refine AWP.go ok _ _ _ _ _ rfl ?_ | refine ord_mk (by kernel_rfl) ?_ | refine And.intro (by first | omega | (unfold inI; omega) | (dsimp only; omega)) ?_)
    refine vcIf_dec (fun h => ?_) (fun h => ?_)
    · have hkl : k < l.length := by omega
      repeat (first | refine AWP.go ok _ _ _ _ _ rfl ?_ | refine ord_mk (by kernel_rfl) ?_ | refine And.intro (by first | omega | (unfold inI; omega) | (dsimp only; omega)) ?_)
      refine ⟨_, map_get _ _ _ hkl, ?_⟩
      repeat (first | refine AWP.go ok _ _ _ _ _ rfl ?_ | refine ord_mk (by kernel_rfl) ?_ | refine And.intro (by first | omega | (unfold inI; omega) | (dsimp only; omega)) ?_)
      refine call_data (szState_ok l[k] _ (hm _ (List.getElem_mem _)) hk2 (by omega)) ?_ ?_ ?_
      · rfl
      · rfl
      repeat (first | refine AWP.go ok _ _ _ _ _ rfl ?_ | refine ord_mk (by kernel_rfl) ?_ | refine And.intro (by first | omega | (unfold inI; omega) | (dsimp only; omega)) ?_)
      have e := sum_take State.sz l k hkl
      have e2 := sum_take_le State.sz l (k + 1)
      refine vcIf_dec (fun h => ?_) (fun h => ?_)
      · repeat (first | refine AWP.go ok _ _ _ _ _ rfl ?_ | refine ord_mk (by kernel_rfl) ?_ | refine And.intro (by first | omega | (unfold inI; omega) | (dsimp only; omega)) ?_)
        have : bud n (tot State.sz l) = -1 := by unfold bud at h ⊢; unfold tot; split at h <;> rw [if_pos (by omega)] <;> omega
        rw [this]
        exact ⟨[], by decide, rfl, rfl, ACle.of_eq rfl, trivial⟩
      · repeat (first | refine AWP.go ok _ _ _ _ _ rfl ?_ | refine ord_mk (by kernel_rfl) ?_ | refine And.intro (by first | omega | (unfold inI; omega) | (dsimp only; omega)) ?_)
        have e3 : bud (n - l.length - ((l.take k).map State.sz).sum) l[k].sz = n - l.length - ((l.take (k + 1)).map State.sz).sum := by unfold bud at h ⊢; split at h <;> rename_i hh <;> (first | rw [if_pos hh] | rw [if_neg hh]) <;> omega
        refine ⟨k + 1, [], ⟨by omega, ?_⟩, by omega, rfl, by decide, rfl, ⟨⟨rfl, rfl⟩, ⟨rfl, ?_⟩, ⟨rfl, rfl⟩, trivial⟩, trivial⟩
        · rw [← e3]; omega
        · rw [← e3]; rfl
    · repeat (first | refine AWP.go ok _ _ _ _ _ rfl ?_ | refine ord_mk (by kernel_rfl) ?_ | refine And.intro (by first | omega | (unfold inI; omega) | (dsimp only; omega)) ?_)
      obtain rfl : k = l.length := by omega
      rw [List.take_length] at hk2
      have : bud n (tot State.sz l) = n - l.length - (l.map State.sz).sum := by unfold bud tot; rw [if_neg (by omega)]; omega
      rw [this, List.take_length]
      exact ⟨[], by decide, rfl, rfl, ACle.of_eq rfl, trivial⟩
theorem toIntS_ok (l : List Int) (hl : l.length ≤ 1048576) : CallsA Tryz.prog 52 [ints l] [] (ints l) [] := by
  refine callsA_of tabOk Tryz.func52 rfl rfl 22 Tryz.ntmps52 (by simp) ?_
  repeat (first | refine AWP.go ok _ _ _ _ _ rfl ?_ | refine ord_mk (by kernel_rfl) ?_ | refine And.intro (by first | omega | (unfold inI; omega) | (dsimp only; omega)) ?_)
  refine awp_loop (fun k : Nat => ([(0, ints l), (3, .sref 0 0 l.length), (4, .int k)], [.cells 1 ((l.take k).map enI ++ List.replicate (l.length - k) (enI 0))])) (fun k => k ≤ l.length) (fun k => l.length - k) 0 (by omega)
    ⟨[0], rfl, by decide, rfl, ⟨⟨rfl, rfl⟩, ⟨rfl, rfl⟩, ⟨rfl, rfl⟩, trivial⟩, ⟨obj_flat (by rfl) (flat_append (flat_map fun _ => rfl) (flat_replicate rfl)), trivial⟩⟩ ?_
  · intro k hk
    repeat (first | refine AWP.go ok _ _ _ _ _ rfl ?_ | refine ord_mk (by kernel_rfl) ?_ | refine And.intro (by first | omega | (unfold inI; omega) | (dsimp only; omega)) ?_)
    refine vcIf_dec (fun h => ?_) (fun h => ?_)
    · repeat (first | refine AWP.go ok _ _ _ _ _ rfl ?_ | refine ord_mk (by kernel_rfl) ?_ | refine And.intro (by first | omega | (unfold inI; omega) | (dsimp only; omega)) ?_)
      refine ⟨_, map_get _ _ _ (by omega), ?_⟩
      repeat (first | refine AWP.go ok _ _ _ _ _ rfl ?_ | refine ord_mk (by kernel_rfl) ?_ | refine And.intro (by first | omega | (unfold inI; omega) | (dsimp only; omega)) ?_)
      refine ⟨enI 0, fill_get _ _ _ _ (by omega), ?_⟩
      repeat (first | refine AWP.go ok _ _ _ _ _ rfl ?_ | refine ord_mk (by kernel_rfl) ?_ | refine And.intro (by first | omega | (unfold inI; omega) | (dsimp only; omega)) ?_)
      exact ⟨k + 1, [0], by omega, by omega, rfl, by decide, rfl, ⟨⟨rfl, rfl⟩, ⟨rfl, rfl⟩, ⟨rfl, rfl⟩, trivial⟩, ⟨obj_flat (cells_congr (fill_set _ _ _ _ (by omega))) (flat_append (flat_map fun _ => rfl) (flat_replicate rfl)), trivial⟩⟩
    · refine AWP.go ok _ _ _ _ _ rfl ?_
      obtain rfl : k = l.length := by omega
      refine AWP.reach (SealL.reach (π := []) (Bn := [0]) (env := [(3, ints l)]) (objs := []) ⟨rfl, rfl, by simp, rfl, by simp, ⟨?_, trivial⟩, rfl⟩) ?_
      · exact bor_seal rfl rfl rfl (by simp) (unownLL_map (fun a x hx => by cases hx with | head => rfl | tail _ h => cases h) l) (by simp)
      repeat (first | refine AWP.go ok _ _ _ _ _ rfl ?_ | refine ord_mk (by kernel_rfl) ?_ | refine And.intro (by first | omega | (unfold inI; omega) | (dsimp only; omega)) ?_)
      exact ⟨[], by decide, rfl, rfl, ACle.of_eq rfl, trivial⟩
def State.small (s : State) : Prop := s.a.length ≤ 1048576 ∧ s.b.length ≤ 1048576

theorem toState_ok (s : State) (hs : s.small) : CallsA Tryz.prog 131 [.agg s.cs] [] (.agg s.cs) [] := by
  refine callsA_of tabOk Tryz.func131 rfl rfl 13 Tryz.ntmps131 (by simp) ?_
  repeat (first | refine AWP.go ok _ _ _ _ _ rfl ?_ | refine ord_mk (by kernel_rfl) ?_ | refine And.intro (by first | omega | (unfold inI; omega) | (dsimp only; omega)) ?_)
  refine call_data (toIntS_ok s.a hs.1) ?_ ?_ ?_
  · rfl
  · rfl
  repeat (first | refine AWP.go ok _ _ _ _ _ rfl ?_ | refine ord_mk (by kernel_rfl) ?_ | refine And.intro (by first | omega | (unfold inI; omega) | (dsimp only; omega)) ?_)
  refine call_data (toIntS_ok s.b hs.2) ?_ ?_ ?_
  · rfl
  · rfl
  repeat (first | refine AWP.go ok _ _ _ _ _ rfl ?_ | refine ord_mk (by kernel_rfl) ?_ | refine And.intro (by first | omega | (unfold inI; omega) | (dsimp only; omega)) ?_)
  exact ⟨[], by decide, rfl, rfl, ACle.of_eq rfl, trivial⟩

theorem State.unown (s : State) : ∀ x ∈ s.cs, x.unown = x := fun x hx => by
  simp only [State.cs, List.mem_cons, List.not_mem_nil, or_false] at hx
  rcases hx with rfl | rfl <;> rfl

theorem toStateS_ok (l : List State) (hl : l.length ≤ 1048576) (hs : ∀ s ∈ l, s.small) : CallsA Tryz.prog 74 [lst 2 State.cs l] [] (lst 2 State.cs l) [] := by
  refine callsA_of tabOk Tryz.func74 rfl rfl 23 Tryz.ntmps74 (by simp) ?_
  repeat (first | refine AWP.go ok _ _ _ _ _ rfl ?_ | refine ord_mk (by kernel_rfl) ?_ | refine And.intro (by first | omega | (unfold inI; omega) | (dsimp only; omega)) ?_)
  refine awp_loop (fun k : Nat => ([(0, lst 2 State.cs l), (3, .sref 0 0 l.length), (4, .int k)], [.cells 2 ((l.take k).map State.cs ++ List.replicate (l.length - k) [.nils, .nils])])) (fun k => k ≤ l.length) (fun k => l.length - k) 0 (by omega)
    ⟨[0], rfl, by decide, rfl, ⟨⟨rfl, rfl⟩, ⟨rfl, rfl⟩, ⟨rfl, rfl⟩, trivial⟩, ⟨obj_flat (by rfl) (flat_append (flat_map fun _ => rfl) (flat_replicate rfl)), trivial⟩⟩ ?_
  · intro k hk
    repeat (first | refine AWP.go ok _ _ _ _ _ rfl ?_ | refine ord_mk (by kernel_rfl) ?_ | refine And.intro (by first | omega | (unfold inI; omega) | (dsimp only; omega)) ?_)
    refine vcIf_dec (fun h => ?_) (fun h => ?_)
    · repeat (first | refine AWP.go ok _ _ _ _ _ rfl ?_ | refine ord_mk (by kernel_rfl) ?_ | refine And.intro (by first | omega | (unfold inI; omega) | (dsimp only; omega)) ?_)
      refine ⟨_, map_get _ _ _ (by omega), ?_⟩
      repeat (first | refine AWP.go ok _ _ _ _ _ rfl ?_ | refine ord_mk (by kernel_rfl) ?_ | refine And.intro (by first | omega | (unfold inI; omega) | (dsimp only; omega)) ?_)
      refine call_data (toState_ok l[k] (hs _ (List.getElem_mem _))) ?_ ?_ ?_
      · rfl
      · rfl
      repeat (first | refine AWP.go ok _ _ _ _ _ rfl ?_ | refine ord_mk (by kernel_rfl) ?_ | refine And.intro (by first | omega | (unfold inI; omega) | (dsimp only; omega)) ?_)
      refine ⟨[.nils, .nils], fill_get _ _ _ _ (by omega), ?_⟩
      repeat (first | refine AWP.go ok _ _ _ _ _ rfl ?_ | refine ord_mk (by kernel_rfl) ?_ | refine And.intro (by first | omega | (unfold inI; omega) | (dsimp only; omega)) ?_)
      exact ⟨k + 1, [0], by omega, by omega, rfl, by decide, rfl, ⟨⟨rfl, rfl⟩, ⟨rfl, rfl⟩, ⟨rfl, rfl⟩, trivial⟩, ⟨obj_flat (cells_congr (fill_set _ _ _ _ (by omega))) (flat_append (flat_map fun _ => rfl) (flat_replicate rfl)), trivial⟩⟩
    · refine AWP.go ok _ _ _ _ _ rfl ?_
      obtain rfl : k = l.length := by omega
      refine AWP.reach (SealL.reach (π := []) (Bn := [0]) (env := [(3, lst 2 State.cs l)]) (objs := []) ⟨rfl, rfl, by simp, rfl, by simp, ⟨?_, trivial⟩, rfl⟩) ?_
      · exact bor_seal rfl rfl rfl (by simp) (unownLL_map State.unown l) (by simp)
      repeat (first | refine AWP.go ok _ _ _ _ _ rfl ?_ | refine ord_mk (by kernel_rfl) ?_ | refine And.intro (by first | omega | (unfold inI; omega) | (dsimp only; omega)) ?_)
      exact ⟨[], by decide, rfl, rfl, ACle.of_eq rfl, trivial⟩
end Go.Proofs.YtcmihlbihppflaaGreat

namespace Go.Proofs.YtcmihlbihppflaaGreat
open Go.Gl
attribute [local irreducible] vcCall

/-- do two slices of ints hold the same? -/
theorem eqIntS_ok (a b : List Int) (ha : a.length ≤ maxLen) (hb : b.length ≤ maxLen) : CallsA Tryz.prog 54 [ints a, ints b] [] (.bool (decide (a = b))) [] := by
  unfold maxLen at ha hb
  refine callsA_of tabOk Tryz.func54 rfl rfl 26 Tryz.ntmps54 (by simp) ?_
  repeat (first | refine AWP.go ok _ _ _ _ _ rfl ?_ | refine ord_mk (by kernel_rfl) ?_ | refine And.intro (by first | omega | (unfold inI; omega) | (dsimp only; omega)) ?_)
  refine vcIf_ndec (fun h => ?_) (fun h => ?_)
  · repeat (first | refine AWP.go ok _ _ _ _ _ rfl ?_ | refine ord_mk (by kernel_rfl) ?_ | refine And.intro (by first | omega | (unfold inI; omega) | (dsimp only; omega)) ?_)
    have hne : a ≠ b := by rintro rfl; exact h rfl
    rw [decide_eq_false hne]
    exact ⟨[], by decide, rfl, rfl, ACle.of_eq rfl, trivial⟩
  · have hl : a.length = b.length := by omega
    repeat (first | refine AWP.go ok _ _ _ _ _ rfl ?_ | refine ord_mk (by kernel_rfl) ?_ | refine And.intro (by first | omega | (unfold inI; omega) | (dsimp only; omega)) ?_)
    refine awp_loop (fun k : Nat => ([(0, ints a), (1, ints b), (5, .int k)], [])) (fun k => k ≤ a.length ∧ a.take k = b.take k) (fun k => a.length - k) 0 (by simp)
      ⟨[], rfl, by decide, rfl, ⟨⟨rfl, rfl⟩, ⟨rfl, rfl⟩, ⟨rfl, rfl⟩, trivial⟩, trivial⟩ ?_
    intro k hk
    repeat (first | refine AWP.go ok _ _ _ _ _ rfl ?_ | refine ord_mk (by kernel_rfl) ?_ | refine And.intro (by first | omega | (unfold inI; omega) | (dsimp only; omega)) ?_)
    refine vcIf_dec (fun h => ?_) (fun h => ?_)
    · have hka : k < a.length := by omega
      repeat (first | refine AWP.go ok _ _ _ _ _ rfl ?_ | refine ord_mk (by kernel_rfl) ?_ | refine And.intro (by first | omega | (unfold inI; omega) | (dsimp only; omega)) ?_)
      refine ⟨_, map_get _ _ _ (by omega), ?_⟩
      repeat (first | refine AWP.go ok _ _ _ _ _ rfl ?_ | refine ord_mk (by kernel_rfl) ?_ | refine And.intro (by first | omega | (unfold inI; omega) | (dsimp only; omega)) ?_)
      refine ⟨_, map_get _ _ _ (by omega), ?_⟩
      repeat (first | refine AWP.go ok _ _ _ _ _ rfl ?_ | refine ord_mk (by kernel_rfl) ?_ | refine And.intro (by first | omega | (unfold inI; omega) | (dsimp only; omega)) ?_)
      refine vcIf_ndec (fun h => ?_) (fun h => ?_)
      · repeat (first | refine AWP.go ok _ _ _ _ _ rfl ?_ | refine ord_mk (by kernel_rfl) ?_ | refine And.intro (by first | omega | (unfold inI; omega) | (dsimp only; omega)) ?_)
        have hne : a ≠ b := by rintro rfl; exact h rfl
        rw [decide_eq_false hne]
        exact ⟨[], by decide, rfl, rfl, ACle.of_eq rfl, trivial⟩
      · repeat (first | refine AWP.go ok _ _ _ _ _ rfl ?_ | refine ord_mk (by kernel_rfl) ?_ | refine And.intro (by first | omega | (unfold inI; omega) | (dsimp only; omega)) ?_)
        refine ⟨k + 1, [], ⟨by omega, ?_⟩, by omega, rfl, by decide, rfl, ⟨⟨rfl, rfl⟩, ⟨rfl, rfl⟩, ⟨rfl, rfl⟩, trivial⟩, trivial⟩
        have h' : a[k] = b[k] := h
        rw [List.take_succ_eq_append_getElem hka, List.take_succ_eq_append_getElem (by omega), hk.2, h']
    · repeat (first | refine AWP.go ok _ _ _ _ _ rfl ?_ | refine ord_mk (by kernel_rfl) ?_ | refine And.intro (by first | omega | (unfold inI; omega) | (dsimp only; omega)) ?_)
      have he : a = b := by
        have := hk.2
        rwa [List.take_of_length_le (by omega), List.take_of_length_le (by omega)] at this
      rw [decide_eq_true he]
      exact ⟨[], by decide, rfl, rfl, ACle.of_eq rfl, trivial⟩

theorem eqState_ok (s t : State) (hs : s.mx) (ht : t.mx) : CallsA Tryz.prog 135 [.agg s.cs, .agg t.cs] [] (.bool (decide (s = t))) [] := by
  refine callsA_of tabOk Tryz.func135 rfl rfl 17 Tryz.ntmps135 (by simp) ?_
  repeat (first | refine AWP.go ok _ _ _ _ _ rfl ?_ | refine ord_mk (by kernel_rfl) ?_ | refine And.intro (by first | omega | (unfold inI; omega) | (dsimp only; omega)) ?_)
  refine call_data (eqIntS_ok s.a t.a hs.1 ht.1) ?_ ?_ ?_
  · rfl
  · rfl
  repeat (first | refine AWP.go ok _ _ _ _ _ rfl ?_ | refine ord_mk (by kernel_rfl) ?_ | refine And.intro (by first | omega | (unfold inI; omega) | (dsimp only; omega)) ?_)
  refine vcIf_ndec (fun h => ?_) (fun h => ?_)
  · repeat (first | refine AWP.go ok _ _ _ _ _ rfl ?_ | refine ord_mk (by kernel_rfl) ?_ | refine And.intro (by first | omega | (unfold inI; omega) | (dsimp only; omega)) ?_)
    have : s ≠ t := by rintro rfl; exact h rfl
    rw [decide_eq_false this]
    exact ⟨[], by decide, rfl, rfl, ACle.of_eq rfl, trivial⟩
  · repeat (first | refine AWP.go ok _ _ _ _ _ rfl ?_ | refine ord_mk (by kernel_rfl) ?_ | refine And.intro (by first | omega | (unfold inI; omega) | (dsimp only; omega)) ?_)
    refine call_data (eqIntS_ok s.b t.b hs.2 ht.2) ?_ ?_ ?_
    · rfl
    · rfl
    repeat (first | refine AWP.go ok _ _ _ _ _ rfl ?_ | refine ord_mk (by kernel_rfl) ?_ | refine And.intro (by first | omega | (unfold inI; omega) | (dsimp only; omega)) ?_)
    refine vcIf_ndec (fun h2 => ?_) (fun h2 => ?_)
    · repeat (first | refine AWP.go ok _ _ _ _ _ rfl ?_ | refine ord_mk (by kernel_rfl) ?_ | refine And.intro (by first | omega | (unfold inI; omega) | (dsimp only; omega)) ?_)
      have : s ≠ t := by rintro rfl; exact h2 rfl
      rw [decide_eq_false this]
      exact ⟨[], by decide, rfl, rfl, ACle.of_eq rfl, trivial⟩
    · repeat (first | refine AWP.go ok _ _ _ _ _ rfl ?_ | refine ord_mk (by kernel_rfl) ?_ | refine And.intro (by first | omega | (unfold inI; omega) | (dsimp only; omega)) ?_)
      have : s = t := by cases s; cases t; simp_all
      rw [decide_eq_true this]
      exact ⟨[], by decide, rfl, rfl, ACle.of_eq rfl, trivial⟩
theorem eqStateS_ok (a b : List State) (ha : State.mxs a) (hb : State.mxs b) : CallsA Tryz.prog 82 [lst 2 State.cs a, lst 2 State.cs b] [] (.bool (decide (a = b))) [] := by
  obtain ⟨ha, hma⟩ := ha
  obtain ⟨hb, hmb⟩ := hb
  unfold maxLen at ha hb
  refine callsA_of tabOk Tryz.func82 rfl rfl 27 Tryz.ntmps82 (by simp) ?_
  repeat (first | refine AWP.go ok _ _ _ _ _ rfl ?_ | refine ord_mk (by kernel_rfl) ?_ | refine And.intro (by first | omega | (unfold inI; omega) | (dsimp only; omega)) ?_)
  refine vcIf_ndec (fun h => ?_) (fun h => ?_)
  · repeat (first | refine AWP.go ok _ _ _ _ _ rfl ?_ | refine ord_mk (by kernel_rfl) ?_ | refine And.intro (by first | omega | (unfold inI; omega) | (dsimp only; omega)) ?_)
    have hne : a ≠ b := by rintro rfl; exact h rfl
    rw [decide_eq_false hne]
    exact ⟨[], by decide, rfl, rfl, ACle.of_eq rfl, trivial⟩
  · have hl : a.length = b.length := by omega
    repeat (first | refine AWP.go ok _ _ _ _ _ rfl ?_ | refine ord_mk (by kernel_rfl) ?_ | refine And.intro (by first | omega | (unfold inI; omega) | (dsimp only; omega)) ?_)
    refine awp_loop (fun k : Nat => ([(0, lst 2 State.cs a), (1, lst 2 State.cs b), (5, .int k)], [])) (fun k => k ≤ a.length ∧ a.take k = b.take k) (fun k => a.length - k) 0 (by simp)
      ⟨[], rfl, by decide, rfl, ⟨⟨rfl, rfl⟩, ⟨rfl, rfl⟩, ⟨rfl, rfl⟩, trivial⟩, trivial⟩ ?_
    intro k hk
    repeat (first | refine AWP.go ok _ _ _ _ _ rfl ?_ | refine ord_mk (by kernel_rfl) ?_ | refine And.intro (by first | omega | (unfold inI; omega) | (dsimp only; omega)) ?_)
    refine vcIf_dec (fun h => ?_) (fun h => ?_)
    · have hka : k < a.length := by omega
      repeat (first | refine AWP.go ok _ _ _ _ _ rfl ?_ | refine ord_mk (by kernel_rfl) ?_ | refine And.intro (by first | omega | (unfold inI; omega) | (dsimp only; omega)) ?_)
      refine ⟨_, map_get _ _ _ (by omega), ?_⟩
      repeat (first | refine AWP.go ok _ _ _ _ _ rfl ?_ | refine ord_mk (by kernel_rfl) ?_ | refine And.intro (by first | omega | (unfold inI; omega) | (dsimp only; omega)) ?_)
      refine ⟨_, map_get _ _ _ (by omega), ?_⟩
      repeat (first | refine AWP.go ok _ _ _ _ _ rfl ?_ | refine ord_mk (by kernel_rfl) ?_ | refine And.intro (by first | omega | (unfold inI; omega) | (dsimp only; omega)) ?_)
      refine call_data (eqState_ok a[k] b[k] (hma _ (List.getElem_mem _)) (hmb _ (List.getElem_mem _))) ?_ ?_ ?_
      · rfl
      · rfl
      repeat (first | refine AWP.go ok _ _ _ _ _ rfl ?_ | refine ord_mk (by kernel_rfl) ?_ | refine And.intro (by first | omega | (unfold inI; omega) | (dsimp only; omega)) ?_)
      refine vcIf_ndec (fun h => ?_) (fun h => ?_)
      · repeat (first | refine AWP.go ok _ _ _ _ _ rfl ?_ | refine ord_mk (by kernel_rfl) ?_ | refine And.intro (by first | omega | (unfold inI; omega) | (dsimp only; omega)) ?_)
        have hne : a ≠ b := by rintro rfl; exact h rfl
        rw [decide_eq_false hne]
        exact ⟨[], by decide, rfl, rfl, ACle.of_eq rfl, trivial⟩
      · repeat (first | refine AWP.go ok _ _ _ _ _ rfl ?_ | refine ord_mk (by kernel_rfl) ?_ | refine And.intro (by first | omega | (unfold inI; omega) | (dsimp only; omega)) ?_)
        refine ⟨k + 1, [], ⟨by omega, ?_⟩, by omega, rfl, by decide, rfl, ⟨⟨rfl, rfl⟩, ⟨rfl, rfl⟩, ⟨rfl, rfl⟩, trivial⟩, trivial⟩
        have h' : a[k] = b[k] := h
        rw [List.take_succ_eq_append_getElem hka, List.take_succ_eq_append_getElem (by omega), hk.2, h']
    · repeat (first | refine AWP.go ok _ _ _ _ _ rfl ?_ | refine ord_mk (by kernel_rfl) ?_ | refine And.intro (by first | omega | (unfold inI; omega) | (dsimp only; omega)) ?_)
      have he : a = b := by
        have := hk.2
        rwa [List.take_of_length_le (by omega), List.take_of_length_le (by omega)] at this
      rw [decide_eq_true he]
      exact ⟨[], by decide, rfl, rfl, ACle.of_eq rfl, trivial⟩
end Go.Proofs.YtcmihlbihppflaaGreat

namespace Go.Proofs.YtcmihlbihppflaaGreat
open Go.Gl
attribute [local irreducible] vcCall

def argAgg {α : Type} (e : α → List AC) (a : α) : AC := .agg (e a)
theorem szExprS_of (l : List Tree) (n : Int) (hl : l.length ≤ maxLen) (hel : ∀ s ∈ l, ∀ n : Int, 0 ≤ n → n ≤ 1048576 → CallsA Tryz.prog 66 [argAgg Tree.cs' s, .int n] [] (.int (bud n (Tree.sz s))) []) (h0 : 0 ≤ n) (h1 : n ≤ 1048576) : CallsA Tryz.prog 13 [lst 3 Tree.cs' l, .int n] [] (.int (bud n (tot Tree.sz l))) [] := by
  unfold maxLen at hl
  refine callsA_of tabOk Tryz.func13 rfl rfl 27 Tryz.ntmps13 (by simp) ?_
  repeat (first | refine AWP.go ok _ _ _ _ _ rfl ?_ | refine ord_mk (by kernel_rfl) ?_ | refine And.intro (by first | omega | (unfold inI; omega) | (dsimp only; omega)) ?_)
  refine vcIf_dec (fun h => ?_) (fun h => ?_)
  · repeat (first | refine AWP.go ok _ _ _ _ _ rfl ?_ | refine ord_mk (by kernel_rfl) ?_ | refine And.intro (by first | omega | (unfold inI; omega) | (dsimp only; omega)) ?_)
    have : bud n (tot Tree.sz l) = -1 := by unfold bud tot; rw [if_pos (by omega)]
    rw [this]
    exact ⟨[], by decide, rfl, rfl, ACle.of_eq rfl, trivial⟩
  · repeat (first | refine AWP.go ok _ _ _ _ _ rfl ?_ | refine ord_mk (by kernel_rfl) ?_ | refine And.intro (by first | omega | (unfold inI; omega) | (dsimp only; omega)) ?_)
    refine awp_loop (fun k : Nat => ([(0, lst 3 Tree.cs' l), (1, .int (n - l.length - ((l.take k).map Tree.sz).sum)), (5, .int k)], [])) (fun k => k ≤ l.length ∧ 0 ≤ n - l.length - ((l.take k).map Tree.sz).sum) (fun k => l.length - k) 0 ⟨by omega, by simp; omega⟩
      ⟨[], rfl, by decide, rfl, ⟨⟨rfl, rfl⟩, ⟨rfl, by simp; rfl⟩, ⟨rfl, rfl⟩, trivial⟩, trivial⟩ ?_
    intro k hk
    obtain ⟨hk1, hk2⟩ := hk
    repeat (first | refine AWP.go ok _ _ _ _ _ rfl ?_ | refine ord_mk (by kernel_rfl) ?_ | refine And.intro (by first | omega | (unfold inI; omega) | (dsimp only; omega)) ?_)
    refine vcIf_dec (fun h => ?_) (fun h => ?_)
    · have hkl : k < l.length := by omega
      repeat (first | refine AWP.go ok _ _ _ _ _ rfl ?_ | refine ord_mk (by kernel_rfl) ?_ | refine And.intro (by first | omega | (unfold inI; omega) | (dsimp only; omega)) ?_)
      refine ⟨_, map_get _ _ _ hkl, ?_⟩
      repeat (first | refine AWP.go ok _ _ _ _ _ rfl ?_ | refine ord_mk (by kernel_rfl) ?_ | refine And.intro (by first | omega | (unfold inI; omega) | (dsimp only; omega)) ?_)
      refine call_data (hel l[k] (List.getElem_mem _) _ hk2 (by omega)) ?_ ?_ ?_
      · rfl
      · rfl
      repeat (first | refine AWP.go ok _ _ _ _ _ rfl ?_ | refine ord_mk (by kernel_rfl) ?_ | refine And.intro (by first | omega | (unfold inI; omega) | (dsimp only; omega)) ?_)
      have e := sum_take Tree.sz l k hkl
      have e2 := sum_take_le Tree.sz l (k + 1)
      refine vcIf_dec (fun h => ?_) (fun h => ?_)
      · repeat (first | refine AWP.go ok _ _ _ _ _ rfl ?_ | refine ord_mk (by kernel_rfl) ?_ | refine And.intro (by first | omega | (unfold inI; omega) | (dsimp only; omega)) ?_)
        have : bud n (tot Tree.sz l) = -1 := by unfold bud at h ⊢; unfold tot; split at h <;> rw [if_pos (by omega)] <;> omega
        rw [this]
        exact ⟨[], by decide, rfl, rfl, ACle.of_eq rfl, trivial⟩
      · repeat (first | refine AWP.go ok _ _ _ _ _ rfl ?_ | refine ord_mk (by kernel_rfl) ?_ | refine And.intro (by first | omega | (unfold inI; omega) | (dsimp only; omega)) ?_)
        have e3 : bud (n - l.length - ((l.take k).map Tree.sz).sum) (Tree.sz l[k]) = n - l.length - ((l.take (k + 1)).map Tree.sz).sum := by unfold bud at h ⊢; split at h <;> rename_i hh <;> (first | rw [if_pos hh] | rw [if_neg hh]) <;> omega
        refine ⟨k + 1, [], ⟨by omega, ?_⟩, by omega, rfl, by decide, rfl, ⟨⟨rfl, rfl⟩, ⟨rfl, ?_⟩, ⟨rfl, rfl⟩, trivial⟩, trivial⟩
        · rw [← e3]; omega
        · rw [← e3]; rfl
    · repeat (first | refine AWP.go ok _ _ _ _ _ rfl ?_ | refine ord_mk (by kernel_rfl) ?_ | refine And.intro (by first | omega | (unfold inI; omega) | (dsimp only; omega)) ?_)
      obtain rfl : k = l.length := by omega
      rw [List.take_length] at hk2
      have : bud n (tot Tree.sz l) = n - l.length - (l.map Tree.sz).sum := by unfold bud tot; rw [if_neg (by omega)]; omega
      rw [this, List.take_length]
      exact ⟨[], by decide, rfl, rfl, ACle.of_eq rfl, trivial⟩

theorem szExpr_ok (t : Tree) : t.mx → ∀ n : Int, 0 ≤ n → n ≤ 1048576 → CallsA Tryz.prog 66 [argAgg Tree.cs' t, .int n] [] (.int (bud n t.sz)) [] := by
  induction t using Tree.ind with | h t ih => ?_
  intro hm n h0 h1
  rw [Tree.mx_iff] at hm
  have hk := szExprS_of t.kids n hm.1 (fun s hs => ih s hs (hm.2 s hs)) h0 h1
  refine callsA_of tabOk Tryz.func66 rfl rfl 12 Tryz.ntmps66 (by simp) ?_
  repeat (first | refine AWP.go ok _ _ _ _ _ rfl ?_ | refine ord_mk (by kernel_rfl) ?_ | refine And.intro (by first | omega | (unfold inI; omega) | (dsimp only; omega)) ?_)
  refine call_data hk ?_ ?_ ?_
  · show [AC.list 3 t.kids.length (t.kids.map Tree.cs), .int n] = _
    rw [Tree.lst_eq]
    rfl
  · rfl
  repeat (first | refine AWP.go ok _ _ _ _ _ rfl ?_ | refine ord_mk (by kernel_rfl) ?_ | refine And.intro (by first | omega | (unfold inI; omega) | (dsimp only; omega)) ?_)
  have e : bud n (tot Tree.sz t.kids) = bud n t.sz := by rw [Tree.sz_eq]; rfl
  rw [e]
  refine vcIf_dec (fun h => ?_) (fun h => ?_)
  · repeat (first | refine AWP.go ok _ _ _ _ _ rfl ?_ | refine ord_mk (by kernel_rfl) ?_ | refine And.intro (by first | omega | (unfold inI; omega) | (dsimp only; omega)) ?_)
    have : bud n t.sz = -1 := by unfold bud at h ⊢; split at h <;> rename_i hh <;> (first | rw [if_pos hh] | rw [if_neg hh]) <;> omega
    rw [this]
    exact ⟨[], by decide, rfl, rfl, ACle.of_eq rfl, trivial⟩
  · repeat (first | refine AWP.go ok _ _ _ _ _ rfl ?_ | refine ord_mk (by kernel_rfl) ?_ | refine And.intro (by first | omega | (unfold inI; omega) | (dsimp only; omega)) ?_)
    exact ⟨[], by decide, rfl, rfl, ACle.of_eq rfl, trivial⟩

theorem szExprS_ok (l : List Tree) (n : Int) (hl : l.length ≤ maxLen) (hm : ∀ t ∈ l, t.mx) (h0 : 0 ≤ n) (h1 : n ≤ 1048576) : CallsA Tryz.prog 13 [lst 3 Tree.cs' l, .int n] [] (.int (bud n (tot Tree.sz l))) [] :=
  szExprS_of l n hl (fun s hs => szExpr_ok s (hm s hs)) h0 h1
end Go.Proofs.YtcmihlbihppflaaGreat

namespace Go.Proofs.YtcmihlbihppflaaGreat
open Go.Gl
attribute [local irreducible] vcCall

theorem Tree.unown (t : Tree) : ∀ x ∈ Tree.cs' t, x.unown = x := fun x hx => by
  simp only [Tree.cs', List.mem_cons, List.not_mem_nil, or_false] at hx
  rcases hx with rfl | rfl | rfl <;> rfl

theorem toExprS_of (l : List Tree) (hl : l.length ≤ 1048576) (hel : ∀ s ∈ l, CallsA Tryz.prog 76 [argAgg Tree.cs' s] [] (argAgg Tree.cs' s) []) : CallsA Tryz.prog 17 [lst 3 Tree.cs' l] [] (lst 3 Tree.cs' l) [] := by
  refine callsA_of tabOk Tryz.func17 rfl rfl 23 Tryz.ntmps17 (by simp) ?_
  repeat (first | refine AWP.go ok _ _ _ _ _ rfl ?_ | refine ord_mk (by kernel_rfl) ?_ | refine And.intro (by first | omega | (unfold inI; omega) | (dsimp only; omega)) ?_)
  refine awp_loop (fun k : Nat => ([(0, lst 3 Tree.cs' l), (3, .sref 0 0 l.length), (4, .int k)], [.cells 3 ((l.take k).map Tree.cs' ++ List.replicate (l.length - k) [.int 0, .int 0, .nils])])) (fun k => k ≤ l.length) (fun k => l.length - k) 0 (by omega)
    ⟨[0], rfl, by decide, rfl, ⟨⟨rfl, rfl⟩, ⟨rfl, rfl⟩, ⟨rfl, rfl⟩, trivial⟩, ⟨obj_flat (by rfl) (flat_append (flat_map fun _ => rfl) (flat_replicate rfl)), trivial⟩⟩ ?_
  · intro k hk
    repeat (first | refine AWP.go ok _ _ _ _ _ rfl ?_ | refine ord_mk (by kernel_rfl) ?_ | refine And.intro (by first | omega | (unfold inI; omega) | (dsimp only; omega)) ?_)
    refine vcIf_dec (fun h => ?_) (fun h => ?_)
    · repeat (first | refine AWP.go ok _ _ _ _ _ rfl ?_ | refine ord_mk (by kernel_rfl) ?_ | refine And.intro (by first | omega | (unfold inI; omega) | (dsimp only; omega)) ?_)
      refine ⟨_, map_get _ _ _ (by omega), ?_⟩
      repeat (first | refine AWP.go ok _ _ _ _ _ rfl ?_ | refine ord_mk (by kernel_rfl) ?_ | refine And.intro (by first | omega | (unfold inI; omega) | (dsimp only; omega)) ?_)
      refine call_data (hel l[k] (List.getElem_mem _)) ?_ ?_ ?_
      · rfl
      · rfl
      repeat (first | refine AWP.go ok _ _ _ _ _ rfl ?_ | refine ord_mk (by kernel_rfl) ?_ | refine And.intro (by first | omega | (unfold inI; omega) | (dsimp only; omega)) ?_)
      refine ⟨[.int 0, .int 0, .nils], fill_get _ _ _ _ (by omega), ?_⟩
      repeat (first | refine AWP.go ok _ _ _ _ _ rfl ?_ | refine ord_mk (by kernel_rfl) ?_ | refine And.intro (by first | omega | (unfold inI; omega) | (dsimp only; omega)) ?_)
      exact ⟨k + 1, [0], by omega, by omega, rfl, by decide, rfl, ⟨⟨rfl, rfl⟩, ⟨rfl, rfl⟩, ⟨rfl, rfl⟩, trivial⟩, ⟨obj_flat (cells_congr (fill_set _ _ _ _ (by omega))) (flat_append (flat_map fun _ => rfl) (flat_replicate rfl)), trivial⟩⟩
    · refine AWP.go ok _ _ _ _ _ rfl ?_
      obtain rfl : k = l.length := by omega
      refine AWP.reach (SealL.reach (π := []) (Bn := [0]) (env := [(3, lst 3 Tree.cs' l)]) (objs := []) ⟨rfl, rfl, by simp, rfl, by simp, ⟨?_, trivial⟩, rfl⟩) ?_
      · exact bor_seal rfl rfl rfl (by simp) (unownLL_map Tree.unown l) (by simp)
      repeat (first | refine AWP.go ok _ _ _ _ _ rfl ?_ | refine ord_mk (by kernel_rfl) ?_ | refine And.intro (by first | omega | (unfold inI; omega) | (dsimp only; omega)) ?_)
      exact ⟨[], by decide, rfl, rfl, ACle.of_eq rfl, trivial⟩

theorem toExpr_ok (t : Tree) : t.sz ≤ 1048576 → CallsA Tryz.prog 76 [argAgg Tree.cs' t] [] (argAgg Tree.cs' t) [] := by
  induction t using Tree.ind with | h t ih => ?_
  intro hm
  rw [Tree.sz_eq] at hm
  have hk := toExprS_of t.kids (by omega) (fun s hs => ih s hs (by
    have := le_sum Tree.sz hs
    omega))
  refine callsA_of tabOk Tryz.func76 rfl rfl 15 Tryz.ntmps76 (by simp) ?_
  repeat (first | refine AWP.go ok _ _ _ _ _ rfl ?_ | refine ord_mk (by kernel_rfl) ?_ | refine And.intro (by first | omega | (unfold inI; omega) | (dsimp only; omega)) ?_)
  refine call_data hk ?_ ?_ ?_
  · show [AC.list 3 t.kids.length (t.kids.map Tree.cs)] = _
    rw [Tree.lst_eq]
    rfl
  · rfl
  repeat (first | refine AWP.go ok _ _ _ _ _ rfl ?_ | refine ord_mk (by kernel_rfl) ?_ | refine And.intro (by first | omega | (unfold inI; omega) | (dsimp only; omega)) ?_)
  refine ⟨[], by decide, rfl, rfl, ACle.of_eq ?_, trivial⟩
  show AC.agg [.int t.kind, .int t.val, .list 3 t.kids.length (t.kids.map Tree.cs')] = AC.agg [.int t.kind, .int t.val, .list 3 t.kids.length (t.kids.map Tree.cs)]
  rw [Tree.lst_eq]

theorem eqExprS_of (a b : List Tree) (ha : a.length ≤ maxLen) (hb : b.length ≤ maxLen) (hel : ∀ s ∈ a, ∀ t ∈ b, CallsA Tryz.prog 84 [argAgg Tree.cs' s, argAgg Tree.cs' t] [] (.bool (decide (s = t))) []) : CallsA Tryz.prog 22 [lst 3 Tree.cs' a, lst 3 Tree.cs' b] [] (.bool (decide (a = b))) [] := by
  unfold maxLen at ha hb
  refine callsA_of tabOk Tryz.func22 rfl rfl 27 Tryz.ntmps22 (by simp) ?_
  repeat (first | refine AWP.go ok _ _ _ _ _ rfl ?_ | refine ord_mk (by kernel_rfl) ?_ | refine And.intro (by first | omega | (unfold inI; omega) | (dsimp only; omega)) ?_)
  refine vcIf_ndec (fun h => ?_) (fun h => ?_)
  · repeat (first | refine AWP.go ok _ _ _ _ _ rfl ?_ | refine ord_mk (by kernel_rfl) ?_ | refine And.intro (by first | omega | (unfold inI; omega) | (dsimp only; omega)) ?_)
    have hne : a ≠ b := by rintro rfl; exact h rfl
    rw [decide_eq_false hne]
    exact ⟨[], by decide, rfl, rfl, ACle.of_eq rfl, trivial⟩
  · have hl : a.length = b.length := by omega
    repeat (first | refine AWP.go ok _ _ _ _ _ rfl ?_ | refine ord_mk (by kernel_rfl) ?_ | refine And.intro (by first | omega | (unfold inI; omega) | (dsimp only; omega)) ?_)
    refine awp_loop (fun k : Nat => ([(0, lst 3 Tree.cs' a), (1, lst 3 Tree.cs' b), (5, .int k)], [])) (fun k => k ≤ a.length ∧ a.take k = b.take k) (fun k => a.length - k) 0 (by simp)
      ⟨[], rfl, by decide, rfl, ⟨⟨rfl, rfl⟩, ⟨rfl, rfl⟩, ⟨rfl, rfl⟩, trivial⟩, trivial⟩ ?_
    intro k hk
    repeat (first | refine AWP.go ok _ _ _ _ _ rfl ?_ | refine ord_mk (by kernel_rfl) ?_ | refine And.intro (by first | omega | (unfold inI; omega) | (dsimp only; omega)) ?_)
    refine vcIf_dec (fun h => ?_) (fun h => ?_)
    · have hka : k < a.length := by omega
      repeat (first | refine AWP.go ok _ _ _ _ _ rfl ?_ | refine ord_mk (by kernel_rfl) ?_ | refine And.intro (by first | omega | (unfold inI; omega) | (dsimp only; omega)) ?_)
      refine ⟨_, map_get _ _ _ (by omega), ?_⟩
      repeat (first | refine AWP.go ok _ _ _ _ _ rfl ?_ | refine ord_mk (by kernel_rfl) ?_ | refine And.intro (by first | omega | (unfold inI; omega) | (dsimp only; omega)) ?_)
      refine ⟨_, map_get _ _ _ (by omega), ?_⟩
      repeat (first | refine AWP.go ok _ _ _ _ _ rfl ?_ | refine ord_mk (by kernel_rfl) ?_ | refine And.intro (by first | omega | (unfold inI; omega) | (dsimp only; omega)) ?_)
      refine call_data (hel a[k] (List.getElem_mem _) b[k] (List.getElem_mem _)) ?_ ?_ ?_
      · rfl
      · rfl
      repeat (first | refine AWP.go ok _ _ _ _ _ rfl ?_ | refine ord_mk (by kernel_rfl) ?_ | refine And.intro (by first | omega | (unfold inI; omega) | (dsimp only; omega)) ?_)
      refine vcIf_ndec (fun h => ?_) (fun h => ?_)
      · repeat (first | refine AWP.go ok _ _ _ _ _ rfl ?_ | refine ord_mk (by kernel_rfl) ?_ | refine And.intro (by first | omega | (unfold inI; omega) | (dsimp only; omega)) ?_)
        have hne : a ≠ b := by rintro rfl; exact h rfl
        rw [decide_eq_false hne]
        exact ⟨[], by decide, rfl, rfl, ACle.of_eq rfl, trivial⟩
      · repeat (first | refine AWP.go ok _ _ _ _ _ rfl ?_ | refine ord_mk (by kernel_rfl) ?_ | refine And.intro (by first | omega | (unfold inI; omega) | (dsimp only; omega)) ?_)
        refine ⟨k + 1, [], ⟨by omega, ?_⟩, by omega, rfl, by decide, rfl, ⟨⟨rfl, rfl⟩, ⟨rfl, rfl⟩, ⟨rfl, rfl⟩, trivial⟩, trivial⟩
        have h' : a[k] = b[k] := h
        rw [List.take_succ_eq_append_getElem hka, List.take_succ_eq_append_getElem (by omega), hk.2, h']
    · repeat (first | refine AWP.go ok _ _ _ _ _ rfl ?_ | refine ord_mk (by kernel_rfl) ?_ | refine And.intro (by first | omega | (unfold inI; omega) | (dsimp only; omega)) ?_)
      have he : a = b := by
        have := hk.2
        rwa [List.take_of_length_le (by omega), List.take_of_length_le (by omega)] at this
      rw [decide_eq_true he]
      exact ⟨[], by decide, rfl, rfl, ACle.of_eq rfl, trivial⟩

theorem eqExpr_ok (a : Tree) : a.mx → ∀ b : Tree, b.mx → CallsA Tryz.prog 84 [argAgg Tree.cs' a, argAgg Tree.cs' b] [] (.bool (decide (a = b))) [] := by
  induction a using Tree.ind with | h a ih => ?_
  intro ha b hb
  rw [Tree.mx_iff] at ha hb
  have hk := eqExprS_of a.kids b.kids ha.1 hb.1 (fun s hs t ht => ih s hs (ha.2 s hs) t (hb.2 t ht))
  refine callsA_of tabOk Tryz.func84 rfl rfl 21 Tryz.ntmps84 (by simp) ?_
  repeat (first | refine AWP.go ok _ _ _ _ _ rfl ?_ | refine ord_mk (by kernel_rfl) ?_ | refine And.intro (by first | omega | (unfold inI; omega) | (dsimp only; omega)) ?_)
  refine vcIf_ndec (fun h => ?_) (fun h1 => ?_)
  · repeat (first | refine AWP.go ok _ _ _ _ _ rfl ?_ | refine ord_mk (by kernel_rfl) ?_ | refine And.intro (by first | omega | (unfold inI; omega) | (dsimp only; omega)) ?_)
    have hne : a ≠ b := by rintro rfl; exact h rfl
    rw [decide_eq_false hne]
    exact ⟨[], by decide, rfl, rfl, ACle.of_eq rfl, trivial⟩
  repeat (first | refine AWP.go ok _ _ _ _ _ rfl ?_ | refine ord_mk (by kernel_rfl) ?_ | refine And.intro (by first | omega | (unfold inI; omega) | (dsimp only; omega)) ?_)
  refine vcIf_ndec (fun h => ?_) (fun h2 => ?_)
  · repeat (first | refine AWP.go ok _ _ _ _ _ rfl ?_ | refine ord_mk (by kernel_rfl) ?_ | refine And.intro (by first | omega | (unfold inI; omega) | (dsimp only; omega)) ?_)
    have hne : a ≠ b := by rintro rfl; exact h rfl
    rw [decide_eq_false hne]
    exact ⟨[], by decide, rfl, rfl, ACle.of_eq rfl, trivial⟩
  repeat (first | refine AWP.go ok _ _ _ _ _ rfl ?_ | refine ord_mk (by kernel_rfl) ?_ | refine And.intro (by first | omega | (unfold inI; omega) | (dsimp only; omega)) ?_)
  refine call_data hk ?_ ?_ ?_
  · show [AC.list 3 a.kids.length (a.kids.map Tree.cs), AC.list 3 b.kids.length (b.kids.map Tree.cs)] = _
    rw [Tree.lst_eq, Tree.lst_eq]
    rfl
  · rfl
  repeat (first | refine AWP.go ok _ _ _ _ _ rfl ?_ | refine ord_mk (by kernel_rfl) ?_ | refine And.intro (by first | omega | (unfold inI; omega) | (dsimp only; omega)) ?_)
  refine vcIf_ndec (fun h => ?_) (fun h3 => ?_)
  · repeat (first | refine AWP.go ok _ _ _ _ _ rfl ?_ | refine ord_mk (by kernel_rfl) ?_ | refine And.intro (by first | omega | (unfold inI; omega) | (dsimp only; omega)) ?_)
    have hne : a ≠ b := by rintro rfl; exact h rfl
    rw [decide_eq_false hne]
    exact ⟨[], by decide, rfl, rfl, ACle.of_eq rfl, trivial⟩
  · repeat (first | refine AWP.go ok _ _ _ _ _ rfl ?_ | refine ord_mk (by kernel_rfl) ?_ | refine And.intro (by first | omega | (unfold inI; omega) | (dsimp only; omega)) ?_)
    have he : a = b := Tree.ext h1 h2 h3
    rw [decide_eq_true he]
    exact ⟨[], by decide, rfl, rfl, ACle.of_eq rfl, trivial⟩
end Go.Proofs.YtcmihlbihppflaaGreat

namespace Go.Proofs.YtcmihlbihppflaaGreat
open Go.Gl
attribute [local irreducible] vcCall

def encL (l : List Int) : List AC := [ints l]
theorem encL_unown (l : List Int) : ∀ x ∈ encL l, x.unown = x := fun x hx => by
  simp only [encL, List.mem_cons, List.not_mem_nil, or_false] at hx
  subst hx; rfl
theorem szIntSS_of (l : List (List Int)) (n : Int) (hl : l.length ≤ maxLen) (hel : ∀ s ∈ l, ∀ n : Int, 0 ≤ n → n ≤ 1048576 → CallsA Tryz.prog 67 [ints s, .int n] [] (.int (bud n (List.length s))) []) (h0 : 0 ≤ n) (h1 : n ≤ 1048576) : CallsA Tryz.prog 65 [lst 1 encL l, .int n] [] (.int (bud n (tot List.length l))) [] := by
  unfold maxLen at hl
  refine callsA_of tabOk Tryz.func65 rfl rfl 27 Tryz.ntmps65 (by simp) ?_
  repeat (first | refine AWP.go ok _ _ _ _ _ rfl ?_ | refine ord_mk (by kernel_rfl) ?_ | refine And.intro (by first | omega | (unfold inI; omega) | (dsimp only; omega)) ?_)
  refine vcIf_dec (fun h => ?_) (fun h => ?_)
  · repeat (first | refine AWP.go ok _ _ _ _ _ rfl ?_ | refine ord_mk (by kernel_rfl) ?_ | refine And.intro (by first | omega | (unfold inI; omega) | (dsimp only; omega)) ?_)
    have : bud n (tot List.length l) = -1 := by unfold bud tot; rw [if_pos (by omega)]
    rw [this]
    exact ⟨[], by decide, rfl, rfl, ACle.of_eq rfl, trivial⟩
  · repeat (first | refine AWP.go ok _ _ _ _ _ rfl ?_ | refine ord_mk (by kernel_rfl) ?_ | refine And.intro (by first | omega | (unfold inI; omega) | (dsimp only; omega)) ?_)
    refine awp_loop (fun k : Nat => ([(0, lst 1 encL l), (1, .int (n - l.length - ((l.take k).map List.length).sum)), (5, .int k)], [])) (fun k => k ≤ l.length ∧ 0 ≤ n - l.length - ((l.take k).map List.length).sum) (fun k => l.length - k) 0 ⟨by omega, by simp; omega⟩
      ⟨[], rfl, by decide, rfl, ⟨⟨rfl, rfl⟩, ⟨rfl, by simp; rfl⟩, ⟨rfl, rfl⟩, trivial⟩, trivial⟩ ?_
    intro k hk
    obtain ⟨hk1, hk2⟩ := hk
    repeat (first | refine AWP.go ok _ _ _ _ _ rfl ?_ | refine ord_mk (by kernel_rfl) ?_ | refine And.intro (by first | omega | (unfold inI; omega) | (dsimp only; omega)) ?_)
    refine vcIf_dec (fun h => ?_) (fun h => ?_)
    · have hkl : k < l.length := by omega
      repeat (first | refine AWP.go ok _ _ _ _ _ rfl ?_ | refine ord_mk (by kernel_rfl) ?_ | refine And.intro (by first | omega | (unfold inI; omega) | (dsimp only; omega)) ?_)
      refine ⟨_, map_get _ _ _ hkl, ?_⟩
      repeat (first | refine AWP.go ok _ _ _ _ _ rfl ?_ | refine ord_mk (by kernel_rfl) ?_ | refine And.intro (by first | omega | (unfold inI; omega) | (dsimp only; omega)) ?_)
      refine call_data (hel l[k] (List.getElem_mem _) _ hk2 (by omega)) ?_ ?_ ?_
      · rfl
      · rfl
      repeat (first | refine AWP.go ok _ _ _ _ _ rfl ?_ | refine ord_mk (by kernel_rfl) ?_ | refine And.intro (by first | omega | (unfold inI; omega) | (dsimp only; omega)) ?_)
      have e := sum_take List.length l k hkl
      have e2 := sum_take_le List.length l (k + 1)
      refine vcIf_dec (fun h => ?_) (fun h => ?_)
      · repeat (first | refine AWP.go ok _ _ _ _ _ rfl ?_ | refine ord_mk (by kernel_rfl) ?_ | refine And.intro (by first | omega | (unfold inI; omega) | (dsimp only; omega)) ?_)
        have : bud n (tot List.length l) = -1 := by unfold bud at h ⊢; unfold tot; split at h <;> rw [if_pos (by omega)] <;> omega
        rw [this]
        exact ⟨[], by decide, rfl, rfl, ACle.of_eq rfl, trivial⟩
      · repeat (first | refine AWP.go ok _ _ _ _ _ rfl ?_ | refine ord_mk (by kernel_rfl) ?_ | refine And.intro (by first | omega | (unfold inI; omega) | (dsimp only; omega)) ?_)
        have e3 : bud (n - l.length - ((l.take k).map List.length).sum) (List.length l[k]) = n - l.length - ((l.take (k + 1)).map List.length).sum := by unfold bud at h ⊢; split at h <;> rename_i hh <;> (first | rw [if_pos hh] | rw [if_neg hh]) <;> omega
        refine ⟨k + 1, [], ⟨by omega, ?_⟩, by omega, rfl, by decide, rfl, ⟨⟨rfl, rfl⟩, ⟨rfl, ?_⟩, ⟨rfl, rfl⟩, trivial⟩, trivial⟩
        · rw [← e3]; omega
        · rw [← e3]; rfl
    · repeat (first | refine AWP.go ok _ _ _ _ _ rfl ?_ | refine ord_mk (by kernel_rfl) ?_ | refine And.intro (by first | omega | (unfold inI; omega) | (dsimp only; omega)) ?_)
      obtain rfl : k = l.length := by omega
      rw [List.take_length] at hk2
      have : bud n (tot List.length l) = n - l.length - (l.map List.length).sum := by unfold bud tot; rw [if_neg (by omega)]; omega
      rw [this, List.take_length]
      exact ⟨[], by decide, rfl, rfl, ACle.of_eq rfl, trivial⟩
theorem toIntSS_of (l : List (List Int)) (hl : l.length ≤ 1048576) (hel : ∀ s ∈ l, CallsA Tryz.prog 52 [ints s] [] (ints s) []) : CallsA Tryz.prog 75 [lst 1 encL l] [] (lst 1 encL l) [] := by
  refine callsA_of tabOk Tryz.func75 rfl rfl 23 Tryz.ntmps75 (by simp) ?_
  repeat (first | refine AWP.go ok _ _ _ _ _ rfl ?_ | refine ord_mk (by kernel_rfl) ?_ | refine And.intro (by first | omega | (unfold inI; omega) | (dsimp only; omega)) ?_)
  refine awp_loop (fun k : Nat => ([(0, lst 1 encL l), (3, .sref 0 0 l.length), (4, .int k)], [.cells 1 ((l.take k).map encL ++ List.replicate (l.length - k) [.nils])])) (fun k => k ≤ l.length) (fun k => l.length - k) 0 (by omega)
    ⟨[0], rfl, by decide, rfl, ⟨⟨rfl, rfl⟩, ⟨rfl, rfl⟩, ⟨rfl, rfl⟩, trivial⟩, ⟨obj_flat (by rfl) (flat_append (flat_map fun _ => rfl) (flat_replicate rfl)), trivial⟩⟩ ?_
  · intro k hk
    repeat (first | refine AWP.go ok _ _ _ _ _ rfl ?_ | refine ord_mk (by kernel_rfl) ?_ | refine And.intro (by first | omega | (unfold inI; omega) | (dsimp only; omega)) ?_)
    refine vcIf_dec (fun h => ?_) (fun h => ?_)
    · repeat (first | refine AWP.go ok _ _ _ _ _ rfl ?_ | refine ord_mk (by kernel_rfl) ?_ | refine And.intro (by first | omega | (unfold inI; omega) | (dsimp only; omega)) ?_)
      refine ⟨_, map_get _ _ _ (by omega), ?_⟩
      repeat (first | refine AWP.go ok _ _ _ _ _ rfl ?_ | refine ord_mk (by kernel_rfl) ?_ | refine And.intro (by first | omega | (unfold inI; omega) | (dsimp only; omega)) ?_)
      refine call_data (hel l[k] (List.getElem_mem _)) ?_ ?_ ?_
      · rfl
      · rfl
      repeat (first | refine AWP.go ok _ _ _ _ _ rfl ?_ | refine ord_mk (by kernel_rfl) ?_ | refine And.intro (by first | omega | (unfold inI; omega) | (dsimp only; omega)) ?_)
      refine ⟨[.nils], fill_get _ _ _ _ (by omega), ?_⟩
      repeat (first | refine AWP.go ok _ _ _ _ _ rfl ?_ | refine ord_mk (by kernel_rfl) ?_ | refine And.intro (by first | omega | (unfold inI; omega) | (dsimp only; omega)) ?_)
      exact ⟨k + 1, [0], by omega, by omega, rfl, by decide, rfl, ⟨⟨rfl, rfl⟩, ⟨rfl, rfl⟩, ⟨rfl, rfl⟩, trivial⟩, ⟨obj_flat (cells_congr (fill_set _ _ _ _ (by omega))) (flat_append (flat_map fun _ => rfl) (flat_replicate rfl)), trivial⟩⟩
    · refine AWP.go ok _ _ _ _ _ rfl ?_
      obtain rfl : k = l.length := by omega
      refine AWP.reach (SealL.reach (π := []) (Bn := [0]) (env := [(3, lst 1 encL l)]) (objs := []) ⟨rfl, rfl, by simp, rfl, by simp, ⟨?_, trivial⟩, rfl⟩) ?_
      · exact bor_seal rfl rfl rfl (by simp) (unownLL_map encL_unown l) (by simp)
      repeat (first | refine AWP.go ok _ _ _ _ _ rfl ?_ | refine ord_mk (by kernel_rfl) ?_ | refine And.intro (by first | omega | (unfold inI; omega) | (dsimp only; omega)) ?_)
      exact ⟨[], by decide, rfl, rfl, ACle.of_eq rfl, trivial⟩
theorem eqIntSS_of (a b : List (List Int)) (ha : a.length ≤ maxLen) (hb : b.length ≤ maxLen) (hel : ∀ s ∈ a, ∀ t ∈ b, CallsA Tryz.prog 54 [ints s, ints t] [] (.bool (decide (s = t))) []) : CallsA Tryz.prog 83 [lst 1 encL a, lst 1 encL b] [] (.bool (decide (a = b))) [] := by
  unfold maxLen at ha hb
  refine callsA_of tabOk Tryz.func83 rfl rfl 27 Tryz.ntmps83 (by simp) ?_
  repeat (first | refine AWP.go ok _ _ _ _ _ rfl ?_ | refine ord_mk (by kernel_rfl) ?_ | refine And.intro (by first | omega | (unfold inI; omega) | (dsimp only; omega)) ?_)
  refine vcIf_ndec (fun h => ?_) (fun h => ?_)
  · repeat (first | refine AWP.go ok _ _ _ _ _ rfl ?_ | refine ord_mk (by kernel_rfl) ?_ | refine And.intro (by first | omega | (unfold inI; omega) | (dsimp only; omega)) ?_)
    have hne : a ≠ b := by rintro rfl; exact h rfl
    rw [decide_eq_false hne]
    exact ⟨[], by decide, rfl, rfl, ACle.of_eq rfl, trivial⟩
  · have hl : a.length = b.length := by omega
    repeat (first | refine AWP.go ok _ _ _ _ _ rfl ?_ | refine ord_mk (by kernel_rfl) ?_ | refine And.intro (by first | omega | (unfold inI; omega) | (dsimp only; omega)) ?_)
    refine awp_loop (fun k : Nat => ([(0, lst 1 encL a), (1, lst 1 encL b), (5, .int k)], [])) (fun k => k ≤ a.length ∧ a.take k = b.take k) (fun k => a.length - k) 0 (by simp)
      ⟨[], rfl, by decide, rfl, ⟨⟨rfl, rfl⟩, ⟨rfl, rfl⟩, ⟨rfl, rfl⟩, trivial⟩, trivial⟩ ?_
    intro k hk
    repeat (first | refine AWP.go ok _ _ _ _ _ rfl ?_ | refine ord_mk (by kernel_rfl) ?_ | refine And.intro (by first | omega | (unfold inI; omega) | (dsimp only; omega)) ?_)
    refine vcIf_dec (fun h => ?_) (fun h => ?_)
    · have hka : k < a.length := by omega
      repeat (first | refine AWP.go ok _ _ _ _ _ rfl ?_ | refine ord_mk (by kernel_rfl) ?_ | refine And.intro (by first | omega | (unfold inI; omega) | (dsimp only; omega)) ?_)
      refine ⟨_, map_get _ _ _ (by omega), ?_⟩
      repeat (first | refine AWP.go ok _ _ _ _ _ rfl ?_ | refine ord_mk (by kernel_rfl) ?_ | refine And.intro (by first | omega | (unfold inI; omega) | (dsimp only; omega)) ?_)
      refine ⟨_, map_get _ _ _ (by omega), ?_⟩
      repeat (first | refine AWP.go ok _ _ _ _ _ rfl ?_ | refine ord_mk (by kernel_rfl) ?_ | refine And.intro (by first | omega | (unfold inI; omega) | (dsimp only; omega)) ?_)
      refine call_data (hel a[k] (List.getElem_mem _) b[k] (List.getElem_mem _)) ?_ ?_ ?_
      · rfl
      · rfl
      repeat (first | refine AWP.go ok _ _ _ _ _ rfl ?_ | refine ord_mk (by kernel_rfl) ?_ | refine And.intro (by first | omega | (unfold inI; omega) | (dsimp only; omega)) ?_)
      refine vcIf_ndec (fun h => ?_) (fun h => ?_)
      · repeat (first | refine AWP.go ok _ _ _ _ _ rfl ?_ | refine ord_mk (by kernel_rfl) ?_ | refine And.intro (by first | omega | (unfold inI; omega) | (dsimp only; omega)) ?_)
        have hne : a ≠ b := by rintro rfl; exact h rfl
        rw [decide_eq_false hne]
        exact ⟨[], by decide, rfl, rfl, ACle.of_eq rfl, trivial⟩
      · repeat (first | refine AWP.go ok _ _ _ _ _ rfl ?_ | refine ord_mk (by kernel_rfl) ?_ | refine And.intro (by first | omega | (unfold inI; omega) | (dsimp only; omega)) ?_)
        refine ⟨k + 1, [], ⟨by omega, ?_⟩, by omega, rfl, by decide, rfl, ⟨⟨rfl, rfl⟩, ⟨rfl, rfl⟩, ⟨rfl, rfl⟩, trivial⟩, trivial⟩
        have h' : a[k] = b[k] := h
        rw [List.take_succ_eq_append_getElem hka, List.take_succ_eq_append_getElem (by omega), hk.2, h']
    · repeat (first | refine AWP.go ok _ _ _ _ _ rfl ?_ | refine ord_mk (by kernel_rfl) ?_ | refine And.intro (by first | omega | (unfold inI; omega) | (dsimp only; omega)) ?_)
      have he : a = b := by
        have := hk.2
        rwa [List.take_of_length_le (by omega), List.take_of_length_le (by omega)] at this
      rw [decide_eq_true he]
      exact ⟨[], by decide, rfl, rfl, ACle.of_eq rfl, trivial⟩
end Go.Proofs.YtcmihlbihppflaaGreat

namespace Go.Proofs.YtcmihlbihppflaaGreat
open Go.Gl
attribute [local irreducible] vcCall

structure Graph where
  st : List State
  nx : List (List Int)
  deriving DecidableEq
def Graph.a1 (g : Graph) : AC := lst 2 State.cs g.st
def Graph.a2 (g : Graph) : AC := lst 1 encL g.nx
def Graph.cs (g : Graph) : List AC := [lst 2 State.cs g.st, lst 1 encL g.nx]
def Graph.s1 (g : Graph) : Nat := tot State.sz g.st
def Graph.s2 (g : Graph) : Nat := tot List.length g.nx
theorem szGraph_of (s : Graph) (n : Int) (c0 : ∀ n : Int, 0 ≤ n → n ≤ 1048576 → CallsA Tryz.prog 64 [Graph.a1 s, .int n] [] (.int (bud n (Graph.s1 s))) []) (c1 : ∀ n : Int, 0 ≤ n → n ≤ 1048576 → CallsA Tryz.prog 65 [Graph.a2 s, .int n] [] (.int (bud n (Graph.s2 s))) []) (h0 : 0 ≤ n) (h1 : n ≤ 1048576) : CallsA Tryz.prog 12 [.agg (Graph.cs s), .int n] [] (.int (bud n (Graph.s1 s + Graph.s2 s))) [] := by
  refine callsA_of tabOk Tryz.func12 rfl rfl 18 Tryz.ntmps12 (by simp) ?_
  repeat (first | refine AWP.go ok _ _ _ _ _ rfl ?_ | refine ord_mk (by kernel_rfl) ?_ | refine And.intro (by first | omega | (unfold inI; omega) | (dsimp only; omega)) ?_)
  refine call_data (c0 (n) (by omega) (by omega)) ?_ ?_ ?_
  · rfl
  · rfl
  repeat (first | refine AWP.go ok _ _ _ _ _ rfl ?_ | refine ord_mk (by kernel_rfl) ?_ | refine And.intro (by first | omega | (unfold inI; omega) | (dsimp only; omega)) ?_)
  refine vcIf_dec (fun g0 => ?_) (fun g0 => ?_)
  · repeat (first | refine AWP.go ok _ _ _ _ _ rfl ?_ | refine ord_mk (by kernel_rfl) ?_ | refine And.intro (by first | omega | (unfold inI; omega) | (dsimp only; omega)) ?_)
    have e : bud n (Graph.s1 s + Graph.s2 s) = -1 := by unfold bud at g0 ⊢; split at g0 <;> rw [if_pos (by omega)] <;> omega
    rw [e]
    exact ⟨[], by decide, rfl, rfl, ACle.of_eq rfl, trivial⟩
  have e0 : bud (n) (Graph.s1 s) = n - (Graph.s1 s : Int) := by unfold bud at g0 ⊢; split at g0 <;> rename_i hh <;> (first | rw [if_pos hh] | rw [if_neg hh]) <;> omega
  rw [e0] at g0 ⊢
  repeat (first | refine AWP.go ok _ _ _ _ _ rfl ?_ | refine ord_mk (by kernel_rfl) ?_ | refine And.intro (by first | omega | (unfold inI; omega) | (dsimp only; omega)) ?_)
  refine call_data (c1 (n - (Graph.s1 s : Int)) (by omega) (by omega)) ?_ ?_ ?_
  · rfl
  · rfl
  repeat (first | refine AWP.go ok _ _ _ _ _ rfl ?_ | refine ord_mk (by kernel_rfl) ?_ | refine And.intro (by first | omega | (unfold inI; omega) | (dsimp only; omega)) ?_)
  refine vcIf_dec (fun g1 => ?_) (fun g1 => ?_)
  · repeat (first | refine AWP.go ok _ _ _ _ _ rfl ?_ | refine ord_mk (by kernel_rfl) ?_ | refine And.intro (by first | omega | (unfold inI; omega) | (dsimp only; omega)) ?_)
    have e : bud n (Graph.s1 s + Graph.s2 s) = -1 := by unfold bud at g1 ⊢; split at g1 <;> rw [if_pos (by omega)] <;> omega
    rw [e]
    exact ⟨[], by decide, rfl, rfl, ACle.of_eq rfl, trivial⟩
  have e1 : bud (n - (Graph.s1 s : Int)) (Graph.s2 s) = n - (Graph.s1 s : Int) - (Graph.s2 s : Int) := by unfold bud at g1 ⊢; split at g1 <;> rename_i hh <;> (first | rw [if_pos hh] | rw [if_neg hh]) <;> omega
  rw [e1] at g1 ⊢
  repeat (first | refine AWP.go ok _ _ _ _ _ rfl ?_ | refine ord_mk (by kernel_rfl) ?_ | refine And.intro (by first | omega | (unfold inI; omega) | (dsimp only; omega)) ?_)
  have e : bud n (Graph.s1 s + Graph.s2 s) = n - (Graph.s1 s : Int) - (Graph.s2 s : Int) := by unfold bud; rw [if_neg (by omega)] <;> omega
  try rw [e]
  exact ⟨[], by decide, rfl, rfl, ACle.of_eq rfl, trivial⟩
theorem toGraph_of (s : Graph) (c0 : CallsA Tryz.prog 74 [Graph.a1 s] [] (Graph.a1 s) []) (c1 : CallsA Tryz.prog 75 [Graph.a2 s] [] (Graph.a2 s) []) : CallsA Tryz.prog 16 [.agg (Graph.cs s)] [] (.agg (Graph.cs s)) [] := by
  refine callsA_of tabOk Tryz.func16 rfl rfl 13 Tryz.ntmps16 (by simp) ?_
  repeat (first | refine AWP.go ok _ _ _ _ _ rfl ?_ | refine ord_mk (by kernel_rfl) ?_ | refine And.intro (by first | omega | (unfold inI; omega) | (dsimp only; omega)) ?_)
  refine call_data c0 ?_ ?_ ?_
  · rfl
  · rfl
  repeat (first | refine AWP.go ok _ _ _ _ _ rfl ?_ | refine ord_mk (by kernel_rfl) ?_ | refine And.intro (by first | omega | (unfold inI; omega) | (dsimp only; omega)) ?_)
  refine call_data c1 ?_ ?_ ?_
  · rfl
  · rfl
  repeat (first | refine AWP.go ok _ _ _ _ _ rfl ?_ | refine ord_mk (by kernel_rfl) ?_ | refine And.intro (by first | omega | (unfold inI; omega) | (dsimp only; omega)) ?_)
  exact ⟨[], by decide, rfl, rfl, ACle.of_eq rfl, trivial⟩
theorem eqGraph_of (s t : Graph) (c0 : CallsA Tryz.prog 82 [Graph.a1 s, Graph.a1 t] [] (.bool (decide (Graph.st s = Graph.st t))) []) (c1 : CallsA Tryz.prog 83 [Graph.a2 s, Graph.a2 t] [] (.bool (decide (Graph.nx s = Graph.nx t))) []) : CallsA Tryz.prog 21 [.agg (Graph.cs s), .agg (Graph.cs t)] [] (.bool (decide (s = t))) [] := by
  refine callsA_of tabOk Tryz.func21 rfl rfl 17 Tryz.ntmps21 (by simp) ?_
  repeat (first | refine AWP.go ok _ _ _ _ _ rfl ?_ | refine ord_mk (by kernel_rfl) ?_ | refine And.intro (by first | omega | (unfold inI; omega) | (dsimp only; omega)) ?_)
  refine call_data c0 ?_ ?_ ?_
  · rfl
  · rfl
  repeat (first | refine AWP.go ok _ _ _ _ _ rfl ?_ | refine ord_mk (by kernel_rfl) ?_ | refine And.intro (by first | omega | (unfold inI; omega) | (dsimp only; omega)) ?_)
  refine vcIf_ndec (fun h => ?_) (fun g0 => ?_)
  · repeat (first | refine AWP.go ok _ _ _ _ _ rfl ?_ | refine ord_mk (by kernel_rfl) ?_ | refine And.intro (by first | omega | (unfold inI; omega) | (dsimp only; omega)) ?_)
    have hne : s ≠ t := by rintro rfl; exact h rfl
    rw [decide_eq_false hne]
    exact ⟨[], by decide, rfl, rfl, ACle.of_eq rfl, trivial⟩
  repeat (first | refine AWP.go ok _ _ _ _ _ rfl ?_ | refine ord_mk (by kernel_rfl) ?_ | refine And.intro (by first | omega | (unfold inI; omega) | (dsimp only; omega)) ?_)
  refine call_data c1 ?_ ?_ ?_
  · rfl
  · rfl
  repeat (first | refine AWP.go ok _ _ _ _ _ rfl ?_ | refine ord_mk (by kernel_rfl) ?_ | refine And.intro (by first | omega | (unfold inI; omega) | (dsimp only; omega)) ?_)
  refine vcIf_ndec (fun h => ?_) (fun g1 => ?_)
  · repeat (first | refine AWP.go ok _ _ _ _ _ rfl ?_ | refine ord_mk (by kernel_rfl) ?_ | refine And.intro (by first | omega | (unfold inI; omega) | (dsimp only; omega)) ?_)
    have hne : s ≠ t := by rintro rfl; exact h rfl
    rw [decide_eq_false hne]
    exact ⟨[], by decide, rfl, rfl, ACle.of_eq rfl, trivial⟩
  repeat (first | refine AWP.go ok _ _ _ _ _ rfl ?_ | refine ord_mk (by kernel_rfl) ?_ | refine And.intro (by first | omega | (unfold inI; omega) | (dsimp only; omega)) ?_)
  have he : s = t := by cases s; cases t; simp_all
  rw [decide_eq_true he]
  exact ⟨[], by decide, rfl, rfl, ACle.of_eq rfl, trivial⟩
end Go.Proofs.YtcmihlbihppflaaGreat

namespace Go.Proofs.YtcmihlbihppflaaGreat
open Go.Gl
attribute [local irreducible] vcCall

def enB (b : Bool) : List AC := [.bool b]
theorem enB_unown (b : Bool) : ∀ x ∈ enB b, x.unown = x := fun x hx => by
  simp only [enB, List.mem_cons, List.not_mem_nil, or_false] at hx
  subst hx; rfl
theorem szBoolS_ok (l : List Bool) (n : Int) (hl : l.length ≤ maxLen) (h0 : 0 ≤ n) (h1 : n ≤ 1048576) : CallsA Tryz.prog 68 [lst 1 enB l, .int n] [] (.int (bud n l.length)) [] := by
  unfold maxLen at hl
  refine callsA_of tabOk Tryz.func68 rfl rfl 12 Tryz.ntmps68 (by simp) ?_
  repeat (first | refine AWP.go ok _ _ _ _ _ rfl ?_ | refine ord_mk (by kernel_rfl) ?_ | refine And.intro (by first | omega | (unfold inI; omega) | (dsimp only; omega)) ?_)
  refine vcIf_dec (fun h => ?_) (fun h => ?_)
  · repeat (first | refine AWP.go ok _ _ _ _ _ rfl ?_ | refine ord_mk (by kernel_rfl) ?_ | refine And.intro (by first | omega | (unfold inI; omega) | (dsimp only; omega)) ?_)
    have : bud n l.length = -1 := by unfold bud; rw [if_pos h]
    rw [this]
    exact ⟨[], by decide, rfl, rfl, ACle.of_eq rfl, trivial⟩
  · repeat (first | refine AWP.go ok _ _ _ _ _ rfl ?_ | refine ord_mk (by kernel_rfl) ?_ | refine And.intro (by first | omega | (unfold inI; omega) | (dsimp only; omega)) ?_)
    have : bud n l.length = n - l.length := by unfold bud; rw [if_neg h]
    rw [this]
    exact ⟨[], by decide, rfl, rfl, ACle.of_eq rfl, trivial⟩
theorem toBoolS_ok (l : List Bool) (hl : l.length ≤ 1048576) : CallsA Tryz.prog 77 [lst 1 enB l] [] (lst 1 enB l) [] := by
  refine callsA_of tabOk Tryz.func77 rfl rfl 22 Tryz.ntmps77 (by simp) ?_
  repeat (first | refine AWP.go ok _ _ _ _ _ rfl ?_ | refine ord_mk (by kernel_rfl) ?_ | refine And.intro (by first | omega | (unfold inI; omega) | (dsimp only; omega)) ?_)
  refine awp_loop (fun k : Nat => ([(0, lst 1 enB l), (3, .sref 0 0 l.length), (4, .int k)], [.cells 1 ((l.take k).map enB ++ List.replicate (l.length - k) ((enB false)))])) (fun k => k ≤ l.length) (fun k => l.length - k) 0 (by omega)
    ⟨[0], rfl, by decide, rfl, ⟨⟨rfl, rfl⟩, ⟨rfl, rfl⟩, ⟨rfl, rfl⟩, trivial⟩, ⟨obj_flat (by rfl) (flat_append (flat_map fun _ => rfl) (flat_replicate rfl)), trivial⟩⟩ ?_
  · intro k hk
    repeat (first | refine AWP.go ok _ _ _ _ _ rfl ?_ | refine ord_mk (by kernel_rfl) ?_ | refine And.intro (by first | omega | (unfold inI; omega) | (dsimp only; omega)) ?_)
    refine vcIf_dec (fun h => ?_) (fun h => ?_)
    · repeat (first | refine AWP.go ok _ _ _ _ _ rfl ?_ | refine ord_mk (by kernel_rfl) ?_ | refine And.intro (by first | omega | (unfold inI; omega) | (dsimp only; omega)) ?_)
      refine ⟨_, map_get _ _ _ (by omega), ?_⟩
      repeat (first | refine AWP.go ok _ _ _ _ _ rfl ?_ | refine ord_mk (by kernel_rfl) ?_ | refine And.intro (by first | omega | (unfold inI; omega) | (dsimp only; omega)) ?_)
      refine ⟨(enB false), fill_get _ _ _ _ (by omega), ?_⟩
      repeat (first | refine AWP.go ok _ _ _ _ _ rfl ?_ | refine ord_mk (by kernel_rfl) ?_ | refine And.intro (by first | omega | (unfold inI; omega) | (dsimp only; omega)) ?_)
      exact ⟨k + 1, [0], by omega, by omega, rfl, by decide, rfl, ⟨⟨rfl, rfl⟩, ⟨rfl, rfl⟩, ⟨rfl, rfl⟩, trivial⟩, ⟨obj_flat (cells_congr (fill_set _ _ _ _ (by omega))) (flat_append (flat_map fun _ => rfl) (flat_replicate rfl)), trivial⟩⟩
    · refine AWP.go ok _ _ _ _ _ rfl ?_
      obtain rfl : k = l.length := by omega
      refine AWP.reach (SealL.reach (π := []) (Bn := [0]) (env := [(3, lst 1 enB l)]) (objs := []) ⟨rfl, rfl, by simp, rfl, by simp, ⟨?_, trivial⟩, rfl⟩) ?_
      · exact bor_seal rfl rfl rfl (by simp) (unownLL_map enB_unown l) (by simp)
      repeat (first | refine AWP.go ok _ _ _ _ _ rfl ?_ | refine ord_mk (by kernel_rfl) ?_ | refine And.intro (by first | omega | (unfold inI; omega) | (dsimp only; omega)) ?_)
      exact ⟨[], by decide, rfl, rfl, ACle.of_eq rfl, trivial⟩
theorem eqBoolS_ok (a b : List Bool) (ha : a.length ≤ maxLen) (hb : b.length ≤ maxLen) : CallsA Tryz.prog 20 [lst 1 enB a, lst 1 enB b] [] (.bool (decide (a = b))) [] := by
  unfold maxLen at ha hb
  refine callsA_of tabOk Tryz.func20 rfl rfl 26 Tryz.ntmps20 (by simp) ?_
  repeat (first | refine AWP.go ok _ _ _ _ _ rfl ?_ | refine ord_mk (by kernel_rfl) ?_ | refine And.intro (by first | omega | (unfold inI; omega) | (dsimp only; omega)) ?_)
  refine vcIf_ndec (fun h => ?_) (fun h => ?_)
  · repeat (first | refine AWP.go ok _ _ _ _ _ rfl ?_ | refine ord_mk (by kernel_rfl) ?_ | refine And.intro (by first | omega | (unfold inI; omega) | (dsimp only; omega)) ?_)
    have hne : a ≠ b := by rintro rfl; exact h rfl
    rw [decide_eq_false hne]
    exact ⟨[], by decide, rfl, rfl, ACle.of_eq rfl, trivial⟩
  · have hl : a.length = b.length := by omega
    repeat (first | refine AWP.go ok _ _ _ _ _ rfl ?_ | refine ord_mk (by kernel_rfl) ?_ | refine And.intro (by first | omega | (unfold inI; omega) | (dsimp only; omega)) ?_)
    refine awp_loop (fun k : Nat => ([(0, lst 1 enB a), (1, lst 1 enB b), (5, .int k)], [])) (fun k => k ≤ a.length ∧ a.take k = b.take k) (fun k => a.length - k) 0 (by simp)
      ⟨[], rfl, by decide, rfl, ⟨⟨rfl, rfl⟩, ⟨rfl, rfl⟩, ⟨rfl, rfl⟩, trivial⟩, trivial⟩ ?_
    intro k hk
    repeat (first | refine AWP.go ok _ _ _ _ _ rfl ?_ | refine ord_mk (by kernel_rfl) ?_ | refine And.intro (by first | omega | (unfold inI; omega) | (dsimp only; omega)) ?_)
    refine vcIf_dec (fun h => ?_) (fun h => ?_)
    · have hka : k < a.length := by omega
      repeat (first | refine AWP.go ok _ _ _ _ _ rfl ?_ | refine ord_mk (by kernel_rfl) ?_ | refine And.intro (by first | omega | (unfold inI; omega) | (dsimp only; omega)) ?_)
      refine ⟨_, map_get _ _ _ (by omega), ?_⟩
      repeat (first | refine AWP.go ok _ _ _ _ _ rfl ?_ | refine ord_mk (by kernel_rfl) ?_ | refine And.intro (by first | omega | (unfold inI; omega) | (dsimp only; omega)) ?_)
      refine ⟨_, map_get _ _ _ (by omega), ?_⟩
      repeat (first | refine AWP.go ok _ _ _ _ _ rfl ?_ | refine ord_mk (by kernel_rfl) ?_ | refine And.intro (by first | omega | (unfold inI; omega) | (dsimp only; omega)) ?_)
      refine vcIf_ndec (fun h => ?_) (fun h => ?_)
      · repeat (first | refine AWP.go ok _ _ _ _ _ rfl ?_ | refine ord_mk (by kernel_rfl) ?_ | refine And.intro (by first | omega | (unfold inI; omega) | (dsimp only; omega)) ?_)
        have hne : a ≠ b := by rintro rfl; exact h rfl
        rw [decide_eq_false hne]
        exact ⟨[], by decide, rfl, rfl, ACle.of_eq rfl, trivial⟩
      · repeat (first | refine AWP.go ok _ _ _ _ _ rfl ?_ | refine ord_mk (by kernel_rfl) ?_ | refine And.intro (by first | omega | (unfold inI; omega) | (dsimp only; omega)) ?_)
        refine ⟨k + 1, [], ⟨by omega, ?_⟩, by omega, rfl, by decide, rfl, ⟨⟨rfl, rfl⟩, ⟨rfl, rfl⟩, ⟨rfl, rfl⟩, trivial⟩, trivial⟩
        have h' : a[k] = b[k] := h
        rw [List.take_succ_eq_append_getElem hka, List.take_succ_eq_append_getElem (by omega), hk.2, h']
    · repeat (first | refine AWP.go ok _ _ _ _ _ rfl ?_ | refine ord_mk (by kernel_rfl) ?_ | refine And.intro (by first | omega | (unfold inI; omega) | (dsimp only; omega)) ?_)
      have he : a = b := by
        have := hk.2
        rwa [List.take_of_length_le (by omega), List.take_of_length_le (by omega)] at this
      rw [decide_eq_true he]
      exact ⟨[], by decide, rfl, rfl, ACle.of_eq rfl, trivial⟩

structure Trans where
  src : Int
  care : Int
  val : Int
  dst : Int
  deriving DecidableEq
def Trans.cs (t : Trans) : List AC := [.int t.src, .int t.care, .int t.val, .int t.dst]
theorem Trans.unown (t : Trans) : ∀ x ∈ t.cs, x.unown = x := fun x hx => by
  simp only [Trans.cs, List.mem_cons, List.not_mem_nil, or_false] at hx
  rcases hx with rfl | rfl | rfl | rfl <;> rfl
theorem szTransitionS_ok (l : List Trans) (n : Int) (hl : l.length ≤ maxLen) (h0 : 0 ≤ n) (h1 : n ≤ 1048576) : CallsA Tryz.prog 69 [lst 4 Trans.cs l, .int n] [] (.int (bud n l.length)) [] := by
  unfold maxLen at hl
  refine callsA_of tabOk Tryz.func69 rfl rfl 12 Tryz.ntmps69 (by simp) ?_
  repeat (first | refine AWP.go ok _ _ _ _ _ rfl ?_ | refine ord_mk (by kernel_rfl) ?_ | refine And.intro (by first | omega | (unfold inI; omega) | (dsimp only; omega)) ?_)
  refine vcIf_dec (fun h => ?_) (fun h => ?_)
  · repeat (first | refine AWP.go ok _ _ _ _ _ rfl ?_ | refine ord_mk (by kernel_rfl) ?_ | refine And.intro (by first | omega | (unfold inI; omega) | (dsimp only; omega)) ?_)
    have : bud n l.length = -1 := by unfold bud; rw [if_pos h]
    rw [this]
    exact ⟨[], by decide, rfl, rfl, ACle.of_eq rfl, trivial⟩
  · repeat (first | refine AWP.go ok _ _ _ _ _ rfl ?_ | refine ord_mk (by kernel_rfl) ?_ | refine And.intro (by first | omega | (unfold inI; omega) | (dsimp only; omega)) ?_)
    have : bud n l.length = n - l.length := by unfold bud; rw [if_neg h]
    rw [this]
    exact ⟨[], by decide, rfl, rfl, ACle.of_eq rfl, trivial⟩
theorem toTransition_ok (t : Trans) : CallsA Tryz.prog 132 [argAgg Trans.cs t] [] (argAgg Trans.cs t) [] := by
  refine callsA_of tabOk Tryz.func132 rfl rfl 17 Tryz.ntmps132 (by simp) ?_
  repeat (first | refine AWP.go ok _ _ _ _ _ rfl ?_ | refine ord_mk (by kernel_rfl) ?_ | refine And.intro (by first | omega | (unfold inI; omega) | (dsimp only; omega)) ?_)
  exact ⟨[], by decide, rfl, rfl, ACle.of_eq rfl, trivial⟩
theorem toTransitionS_of (l : List Trans) (hl : l.length ≤ 1048576) (hel : ∀ s ∈ l, CallsA Tryz.prog 132 [argAgg Trans.cs s] [] (argAgg Trans.cs s) []) : CallsA Tryz.prog 78 [lst 4 Trans.cs l] [] (lst 4 Trans.cs l) [] := by
  refine callsA_of tabOk Tryz.func78 rfl rfl 23 Tryz.ntmps78 (by simp) ?_
  repeat (first | refine AWP.go ok _ _ _ _ _ rfl ?_ | refine ord_mk (by kernel_rfl) ?_ | refine And.intro (by first | omega | (unfold inI; omega) | (dsimp only; omega)) ?_)
  refine awp_loop (fun k : Nat => ([(0, lst 4 Trans.cs l), (3, .sref 0 0 l.length), (4, .int k)], [.cells 4 ((l.take k).map Trans.cs ++ List.replicate (l.length - k) [.int 0, .int 0, .int 0, .int 0])])) (fun k => k ≤ l.length) (fun k => l.length - k) 0 (by omega)
    ⟨[0], rfl, by decide, rfl, ⟨⟨rfl, rfl⟩, ⟨rfl, rfl⟩, ⟨rfl, rfl⟩, trivial⟩, ⟨obj_flat (by rfl) (flat_append (flat_map fun _ => rfl) (flat_replicate rfl)), trivial⟩⟩ ?_
  · intro k hk
    repeat (first | refine AWP.go ok _ _ _ _ _ rfl ?_ | refine ord_mk (by kernel_rfl) ?_ | refine And.intro (by first | omega | (unfold inI; omega) | (dsimp only; omega)) ?_)
    refine vcIf_dec (fun h => ?_) (fun h => ?_)
    · repeat (first | refine AWP.go ok _ _ _ _ _ rfl ?_ | refine ord_mk (by kernel_rfl) ?_ | refine And.intro (by first | omega | (unfold inI; omega) | (dsimp only; omega)) ?_)
      refine ⟨_, map_get _ _ _ (by omega), ?_⟩
      repeat (first | refine AWP.go ok _ _ _ _ _ rfl ?_ | refine ord_mk (by kernel_rfl) ?_ | refine And.intro (by first | omega | (unfold inI; omega) | (dsimp only; omega)) ?_)
      refine call_data (hel l[k] (List.getElem_mem _)) ?_ ?_ ?_
      · rfl
      · rfl
      repeat (first | refine AWP.go ok _ _ _ _ _ rfl ?_ | refine ord_mk (by kernel_rfl) ?_ | refine And.intro (by first | omega | (unfold inI; omega) | (dsimp only; omega)) ?_)
      refine ⟨[.int 0, .int 0, .int 0, .int 0], fill_get _ _ _ _ (by omega), ?_⟩
      repeat (first | refine AWP.go ok _ _ _ _ _ rfl ?_ | refine ord_mk (by kernel_rfl) ?_ | refine And.intro (by first | omega | (unfold inI; omega) | (dsimp only; omega)) ?_)
      exact ⟨k + 1, [0], by omega, by omega, rfl, by decide, rfl, ⟨⟨rfl, rfl⟩, ⟨rfl, rfl⟩, ⟨rfl, rfl⟩, trivial⟩, ⟨obj_flat (cells_congr (fill_set _ _ _ _ (by omega))) (flat_append (flat_map fun _ => rfl) (flat_replicate rfl)), trivial⟩⟩
    · refine AWP.go ok _ _ _ _ _ rfl ?_
      obtain rfl : k = l.length := by omega
      refine AWP.reach (SealL.reach (π := []) (Bn := [0]) (env := [(3, lst 4 Trans.cs l)]) (objs := []) ⟨rfl, rfl, by simp, rfl, by simp, ⟨?_, trivial⟩, rfl⟩) ?_
      · exact bor_seal rfl rfl rfl (by simp) (unownLL_map Trans.unown l) (by simp)
      repeat (first | refine AWP.go ok _ _ _ _ _ rfl ?_ | refine ord_mk (by kernel_rfl) ?_ | refine And.intro (by first | omega | (unfold inI; omega) | (dsimp only; omega)) ?_)
      exact ⟨[], by decide, rfl, rfl, ACle.of_eq rfl, trivial⟩
theorem eqTransition_ok (s t : Trans) : CallsA Tryz.prog 136 [argAgg Trans.cs s, argAgg Trans.cs t] [] (.bool (decide (s = t))) [] := by
  refine callsA_of tabOk Tryz.func136 rfl rfl 25 Tryz.ntmps136 (by simp) ?_
  repeat (first | refine AWP.go ok _ _ _ _ _ rfl ?_ | refine ord_mk (by kernel_rfl) ?_ | refine And.intro (by first | omega | (unfold inI; omega) | (dsimp only; omega)) ?_)
  refine vcIf_ndec (fun h => ?_) (fun h1 => ?_)
  · repeat (first | refine AWP.go ok _ _ _ _ _ rfl ?_ | refine ord_mk (by kernel_rfl) ?_ | refine And.intro (by first | omega | (unfold inI; omega) | (dsimp only; omega)) ?_)
    have hne : s ≠ t := by rintro rfl; exact h rfl
    rw [decide_eq_false hne]
    exact ⟨[], by decide, rfl, rfl, ACle.of_eq rfl, trivial⟩
  repeat (first | refine AWP.go ok _ _ _ _ _ rfl ?_ | refine ord_mk (by kernel_rfl) ?_ | refine And.intro (by first | omega | (unfold inI; omega) | (dsimp only; omega)) ?_)
  refine vcIf_ndec (fun h => ?_) (fun h2 => ?_)
  · repeat (first | refine AWP.go ok _ _ _ _ _ rfl ?_ | refine ord_mk (by kernel_rfl) ?_ | refine And.intro (by first | omega | (unfold inI; omega) | (dsimp only; omega)) ?_)
    have hne : s ≠ t := by rintro rfl; exact h rfl
    rw [decide_eq_false hne]
    exact ⟨[], by decide, rfl, rfl, ACle.of_eq rfl, trivial⟩
  repeat (first | refine AWP.go ok _ _ _ _ _ rfl ?_ | refine ord_mk (by kernel_rfl) ?_ | refine And.intro (by first | omega | (unfold inI; omega) | (dsimp only; omega)) ?_)
  refine vcIf_ndec (fun h => ?_) (fun h3 => ?_)
  · repeat (first | refine AWP.go ok _ _ _ _ _ rfl ?_ | refine ord_mk (by kernel_rfl) ?_ | refine And.intro (by first | omega | (unfold inI; omega) | (dsimp only; omega)) ?_)
    have hne : s ≠ t := by rintro rfl; exact h rfl
    rw [decide_eq_false hne]
    exact ⟨[], by decide, rfl, rfl, ACle.of_eq rfl, trivial⟩
  repeat (first | refine AWP.go ok _ _ _ _ _ rfl ?_ | refine ord_mk (by kernel_rfl) ?_ | refine And.intro (by first | omega | (unfold inI; omega) | (dsimp only; omega)) ?_)
  refine vcIf_ndec (fun h => ?_) (fun h4 => ?_)
  · repeat (first | refine AWP.go ok _ _ _ _ _ rfl ?_ | refine ord_mk (by kernel_rfl) ?_ | refine And.intro (by first | omega | (unfold inI; omega) | (dsimp only; omega)) ?_)
    have hne : s ≠ t := by rintro rfl; exact h rfl
    rw [decide_eq_false hne]
    exact ⟨[], by decide, rfl, rfl, ACle.of_eq rfl, trivial⟩
  repeat (first | refine AWP.go ok _ _ _ _ _ rfl ?_ | refine ord_mk (by kernel_rfl) ?_ | refine And.intro (by first | omega | (unfold inI; omega) | (dsimp only; omega)) ?_)
  have he : s = t := by cases s; cases t; simp_all
  rw [decide_eq_true he]
  exact ⟨[], by decide, rfl, rfl, ACle.of_eq rfl, trivial⟩
theorem eqTransitionS_of (a b : List Trans) (ha : a.length ≤ maxLen) (hb : b.length ≤ maxLen) (hel : ∀ s ∈ a, ∀ t ∈ b, CallsA Tryz.prog 136 [argAgg Trans.cs s, argAgg Trans.cs t] [] (.bool (decide (s = t))) []) : CallsA Tryz.prog 85 [lst 4 Trans.cs a, lst 4 Trans.cs b] [] (.bool (decide (a = b))) [] := by
  unfold maxLen at ha hb
  refine callsA_of tabOk Tryz.func85 rfl rfl 27 Tryz.ntmps85 (by simp) ?_
  repeat (first | refine AWP.go ok _ _ _ _ _ rfl ?_ | refine ord_mk (by kernel_rfl) ?_ | refine And.intro (by first | omega | (unfold inI; omega) | (dsimp only; omega)) ?_)
  refine vcIf_ndec (fun h => ?_) (fun h => ?_)
  · repeat (first | refine AWP.go ok _ _ _ _ _ rfl ?_ | refine ord_mk (by kernel_rfl) ?_ | refine And.intro (by first | omega | (unfold inI; omega) | (dsimp only; omega)) ?_)
    have hne : a ≠ b := by rintro rfl; exact h rfl
    rw [decide_eq_false hne]
    exact ⟨[], by decide, rfl, rfl, ACle.of_eq rfl, trivial⟩
  · have hl : a.length = b.length := by omega
    repeat (first | refine AWP.go ok _ _ _ _ _ rfl ?_ | refine ord_mk (by kernel_rfl) ?_ | refine And.intro (by first | omega | (unfold inI; omega) | (dsimp only; omega)) ?_)
    refine awp_loop (fun k : Nat => ([(0, lst 4 Trans.cs a), (1, lst 4 Trans.cs b), (5, .int k)], [])) (fun k => k ≤ a.length ∧ a.take k = b.take k) (fun k => a.length - k) 0 (by simp)
      ⟨[], rfl, by decide, rfl, ⟨⟨rfl, rfl⟩, ⟨rfl, rfl⟩, ⟨rfl, rfl⟩, trivial⟩, trivial⟩ ?_
    intro k hk
    repeat (first | refine AWP.go ok _ _ _ _ _ rfl ?_ | refine ord_mk (by kernel_rfl) ?_ | refine And.intro (by first | omega | (unfold inI; omega) | (dsimp only; omega)) ?_)
    refine vcIf_dec (fun h => ?_) (fun h => ?_)
    · have hka : k < a.length := by omega
      repeat (first | refine AWP.go ok _ _ _ _ _ rfl ?_ | refine ord_mk (by kernel_rfl) ?_ | refine And.intro (by first | omega | (unfold inI; omega) | (dsimp only; omega)) ?_)
      refine ⟨_, map_get _ _ _ (by omega), ?_⟩
      repeat (first | refine AWP.go ok _ _ _ _ _ rfl ?_ | refine ord_mk (by kernel_rfl) ?_ | refine And.intro (by first | omega | (unfold inI; omega) | (dsimp only; omega)) ?_)
      refine ⟨_, map_get _ _ _ (by omega), ?_⟩
      repeat (first | refine AWP.go ok _ _ _ _ _ rfl ?_ | refine ord_mk (by kernel_rfl) ?_ | refine And.intro (by first | omega | (unfold inI; omega) | (dsimp only; omega)) ?_)
      refine call_data (hel a[k] (List.getElem_mem _) b[k] (List.getElem_mem _)) ?_ ?_ ?_
      · rfl
      · rfl
      repeat (first | refine AWP.go ok _ _ _ _ _ rfl ?_ | refine ord_mk (by kernel_rfl) ?_ | refine And.intro (by first | omega | (unfold inI; omega) | (dsimp only; omega)) ?_)
      refine vcIf_ndec (fun h => ?_) (fun h => ?_)
      · repeat (first | refine AWP.go ok _ _ _ _ _ rfl ?_ | refine ord_mk (by kernel_rfl) ?_ | refine And.intro (by first | omega | (unfold inI; omega) | (dsimp only; omega)) ?_)
        have hne : a ≠ b := by rintro rfl; exact h rfl
        rw [decide_eq_false hne]
        exact ⟨[], by decide, rfl, rfl, ACle.of_eq rfl, trivial⟩
      · repeat (first | refine AWP.go ok _ _ _ _ _ rfl ?_ | refine ord_mk (by kernel_rfl) ?_ | refine And.intro (by first | omega | (unfold inI; omega) | (dsimp only; omega)) ?_)
        refine ⟨k + 1, [], ⟨by omega, ?_⟩, by omega, rfl, by decide, rfl, ⟨⟨rfl, rfl⟩, ⟨rfl, rfl⟩, ⟨rfl, rfl⟩, trivial⟩, trivial⟩
        have h' : a[k] = b[k] := h
        rw [List.take_succ_eq_append_getElem hka, List.take_succ_eq_append_getElem (by omega), hk.2, h']
    · repeat (first | refine AWP.go ok _ _ _ _ _ rfl ?_ | refine ord_mk (by kernel_rfl) ?_ | refine And.intro (by first | omega | (unfold inI; omega) | (dsimp only; omega)) ?_)
      have he : a = b := by
        have := hk.2
        rwa [List.take_of_length_le (by omega), List.take_of_length_le (by omega)] at this
      rw [decide_eq_true he]
      exact ⟨[], by decide, rfl, rfl, ACle.of_eq rfl, trivial⟩

structure Aut where
  ini : List Int
  acc : List Bool
  ed : List Trans
  deriving DecidableEq
def Aut.a1 (a : Aut) : AC := lst 1 enI a.ini
def Aut.a2 (a : Aut) : AC := lst 1 enB a.acc
def Aut.a3 (a : Aut) : AC := lst 4 Trans.cs a.ed
def Aut.cs (a : Aut) : List AC := [lst 1 enI a.ini, lst 1 enB a.acc, lst 4 Trans.cs a.ed]
def Aut.s1 (a : Aut) : Nat := a.ini.length
def Aut.s2 (a : Aut) : Nat := a.acc.length
def Aut.s3 (a : Aut) : Nat := a.ed.length
theorem szAutomaton_of (s : Aut) (n : Int) (c0 : ∀ n : Int, 0 ≤ n → n ≤ 1048576 → CallsA Tryz.prog 67 [Aut.a1 s, .int n] [] (.int (bud n (Aut.s1 s))) []) (c1 : ∀ n : Int, 0 ≤ n → n ≤ 1048576 → CallsA Tryz.prog 68 [Aut.a2 s, .int n] [] (.int (bud n (Aut.s2 s))) []) (c2 : ∀ n : Int, 0 ≤ n → n ≤ 1048576 → CallsA Tryz.prog 69 [Aut.a3 s, .int n] [] (.int (bud n (Aut.s3 s))) []) (h0 : 0 ≤ n) (h1 : n ≤ 1048576) : CallsA Tryz.prog 14 [.agg (Aut.cs s), .int n] [] (.int (bud n (Aut.s1 s + Aut.s2 s + Aut.s3 s))) [] := by
  refine callsA_of tabOk Tryz.func14 rfl rfl 24 Tryz.ntmps14 (by simp) ?_
  repeat (first | refine AWP.go ok _ _ _ _ _ rfl ?_ | refine ord_mk (by kernel_rfl) ?_ | refine And.intro (by first | omega | (unfold inI; omega) | (dsimp only; omega)) ?_)
  refine call_data (c0 (n) (by omega) (by omega)) ?_ ?_ ?_
  · rfl
  · rfl
  repeat (first | refine AWP.go ok _ _ _ _ _ rfl ?_ | refine ord_mk (by kernel_rfl) ?_ | refine And.intro (by first | omega | (unfold inI; omega) | (dsimp only; omega)) ?_)
  refine vcIf_dec (fun g0 => ?_) (fun g0 => ?_)
  · repeat (first | refine AWP.go ok _ _ _ _ _ rfl ?_ | refine ord_mk (by kernel_rfl) ?_ | refine And.intro (by first | omega | (unfold inI; omega) | (dsimp only; omega)) ?_)
    have e : bud n (Aut.s1 s + Aut.s2 s + Aut.s3 s) = -1 := by unfold bud at g0 ⊢; split at g0 <;> rw [if_pos (by omega)] <;> omega
    rw [e]
    exact ⟨[], by decide, rfl, rfl, ACle.of_eq rfl, trivial⟩
  have e0 : bud (n) (Aut.s1 s) = n - (Aut.s1 s : Int) := by unfold bud at g0 ⊢; split at g0 <;> rename_i hh <;> (first | rw [if_pos hh] | rw [if_neg hh]) <;> omega
  rw [e0] at g0 ⊢
  repeat (first | refine AWP.go ok _ _ _ _ _ rfl ?_ | refine ord_mk (by kernel_rfl) ?_ | refine And.intro (by first | omega | (unfold inI; omega) | (dsimp only; omega)) ?_)
  refine call_data (c1 (n - (Aut.s1 s : Int)) (by omega) (by omega)) ?_ ?_ ?_
  · rfl
  · rfl
  repeat (first | refine AWP.go ok _ _ _ _ _ rfl ?_ | refine ord_mk (by kernel_rfl) ?_ | refine And.intro (by first | omega | (unfold inI; omega) | (dsimp only; omega)) ?_)
  refine vcIf_dec (fun g1 => ?_) (fun g1 => ?_)
  · repeat (first | refine AWP.go ok _ _ _ _ _ rfl ?_ | refine ord_mk (by kernel_rfl) ?_ | refine And.intro (by first | omega | (unfold inI; omega) | (dsimp only; omega)) ?_)
    have e : bud n (Aut.s1 s + Aut.s2 s + Aut.s3 s) = -1 := by unfold bud at g1 ⊢; split at g1 <;> rw [if_pos (by omega)] <;> omega
    rw [e]
    exact ⟨[], by decide, rfl, rfl, ACle.of_eq rfl, trivial⟩
  have e1 : bud (n - (Aut.s1 s : Int)) (Aut.s2 s) = n - (Aut.s1 s : Int) - (Aut.s2 s : Int) := by unfold bud at g1 ⊢; split at g1 <;> rename_i hh <;> (first | rw [if_pos hh] | rw [if_neg hh]) <;> omega
  rw [e1] at g1 ⊢
  repeat (first | refine AWP.go ok _ _ _ _ _ rfl ?_ | refine ord_mk (by kernel_rfl) ?_ | refine And.intro (by first | omega | (unfold inI; omega) | (dsimp only; omega)) ?_)
  refine call_data (c2 (n - (Aut.s1 s : Int) - (Aut.s2 s : Int)) (by omega) (by omega)) ?_ ?_ ?_
  · rfl
  · rfl
  repeat (first | refine AWP.go ok _ _ _ _ _ rfl ?_ | refine ord_mk (by kernel_rfl) ?_ | refine And.intro (by first | omega | (unfold inI; omega) | (dsimp only; omega)) ?_)
  refine vcIf_dec (fun g2 => ?_) (fun g2 => ?_)
  · repeat (first | refine AWP.go ok _ _ _ _ _ rfl ?_ | refine ord_mk (by kernel_rfl) ?_ | refine And.intro (by first | omega | (unfold inI; omega) | (dsimp only; omega)) ?_)
    have e : bud n (Aut.s1 s + Aut.s2 s + Aut.s3 s) = -1 := by unfold bud at g2 ⊢; split at g2 <;> rw [if_pos (by omega)] <;> omega
    rw [e]
    exact ⟨[], by decide, rfl, rfl, ACle.of_eq rfl, trivial⟩
  have e2 : bud (n - (Aut.s1 s : Int) - (Aut.s2 s : Int)) (Aut.s3 s) = n - (Aut.s1 s : Int) - (Aut.s2 s : Int) - (Aut.s3 s : Int) := by unfold bud at g2 ⊢; split at g2 <;> rename_i hh <;> (first | rw [if_pos hh] | rw [if_neg hh]) <;> omega
  rw [e2] at g2 ⊢
  repeat (first | refine AWP.go ok _ _ _ _ _ rfl ?_ | refine ord_mk (by kernel_rfl) ?_ | refine And.intro (by first | omega | (unfold inI; omega) | (dsimp only; omega)) ?_)
  have e : bud n (Aut.s1 s + Aut.s2 s + Aut.s3 s) = n - (Aut.s1 s : Int) - (Aut.s2 s : Int) - (Aut.s3 s : Int) := by unfold bud; rw [if_neg (by omega)] <;> omega
  try rw [e]
  exact ⟨[], by decide, rfl, rfl, ACle.of_eq rfl, trivial⟩
theorem toAutomaton_of (s : Aut) (c0 : CallsA Tryz.prog 52 [Aut.a1 s] [] (Aut.a1 s) []) (c1 : CallsA Tryz.prog 77 [Aut.a2 s] [] (Aut.a2 s) []) (c2 : CallsA Tryz.prog 78 [Aut.a3 s] [] (Aut.a3 s) []) : CallsA Tryz.prog 18 [.agg (Aut.cs s)] [] (.agg (Aut.cs s)) [] := by
  refine callsA_of tabOk Tryz.func18 rfl rfl 17 Tryz.ntmps18 (by simp) ?_
  repeat (first | refine AWP.go ok _ _ _ _ _ rfl ?_ | refine ord_mk (by kernel_rfl) ?_ | refine And.intro (by first | omega | (unfold inI; omega) | (dsimp only; omega)) ?_)
  refine call_data c0 ?_ ?_ ?_
  · rfl
  · rfl
  repeat (first | refine AWP.go ok _ _ _ _ _ rfl ?_ | refine ord_mk (by kernel_rfl) ?_ | refine And.intro (by first | omega | (unfold inI; omega) | (dsimp only; omega)) ?_)
  refine call_data c1 ?_ ?_ ?_
  · rfl
  · rfl
  repeat (first | refine AWP.go ok _ _ _ _ _ rfl ?_ | refine ord_mk (by kernel_rfl) ?_ | refine And.intro (by first | omega | (unfold inI; omega) | (dsimp only; omega)) ?_)
  refine call_data c2 ?_ ?_ ?_
  · rfl
  · rfl
  repeat (first | refine AWP.go ok _ _ _ _ _ rfl ?_ | refine ord_mk (by kernel_rfl) ?_ | refine And.intro (by first | omega | (unfold inI; omega) | (dsimp only; omega)) ?_)
  exact ⟨[], by decide, rfl, rfl, ACle.of_eq rfl, trivial⟩
theorem eqAutomaton_of (s t : Aut) (c0 : CallsA Tryz.prog 54 [Aut.a1 s, Aut.a1 t] [] (.bool (decide (Aut.ini s = Aut.ini t))) []) (c1 : CallsA Tryz.prog 20 [Aut.a2 s, Aut.a2 t] [] (.bool (decide (Aut.acc s = Aut.acc t))) []) (c2 : CallsA Tryz.prog 85 [Aut.a3 s, Aut.a3 t] [] (.bool (decide (Aut.ed s = Aut.ed t))) []) : CallsA Tryz.prog 23 [.agg (Aut.cs s), .agg (Aut.cs t)] [] (.bool (decide (s = t))) [] := by
  refine callsA_of tabOk Tryz.func23 rfl rfl 23 Tryz.ntmps23 (by simp) ?_
  repeat (first | refine AWP.go ok _ _ _ _ _ rfl ?_ | refine ord_mk (by kernel_rfl) ?_ | refine And.intro (by first | omega | (unfold inI; omega) | (dsimp only; omega)) ?_)
  refine call_data c0 ?_ ?_ ?_
  · rfl
  · rfl
  repeat (first | refine AWP.go ok _ _ _ _ _ rfl ?_ | refine ord_mk (by kernel_rfl) ?_ | refine And.intro (by first | omega | (unfold inI; omega) | (dsimp only; omega)) ?_)
  refine vcIf_ndec (fun h => ?_) (fun g0 => ?_)
  · repeat (first | refine AWP.go ok _ _ _ _ _ rfl ?_ | refine ord_mk (by kernel_rfl) ?_ | refine And.intro (by first | omega | (unfold inI; omega) | (dsimp only; omega)) ?_)
    have hne : s ≠ t := by rintro rfl; exact h rfl
    rw [decide_eq_false hne]
    exact ⟨[], by decide, rfl, rfl, ACle.of_eq rfl, trivial⟩
  repeat (first | refine AWP.go ok _ _ _ _ _ rfl ?_ | refine ord_mk (by kernel_rfl) ?_ | refine And.intro (by first | omega | (unfold inI; omega) | (dsimp only; omega)) ?_)
  refine call_data c1 ?_ ?_ ?_
  · rfl
  · rfl
  repeat (first | refine AWP.go ok _ _ _ _ _ rfl ?_ | refine ord_mk (by kernel_rfl) ?_ | refine And.intro (by first | omega | (unfold inI; omega) | (dsimp only; omega)) ?_)
  refine vcIf_ndec (fun h => ?_) (fun g1 => ?_)
  · repeat (first | refine AWP.go ok _ _ _ _ _ rfl ?_ | refine ord_mk (by kernel_rfl) ?_ | refine And.intro (by first | omega | (unfold inI; omega) | (dsimp only; omega)) ?_)
    have hne : s ≠ t := by rintro rfl; exact h rfl
    rw [decide_eq_false hne]
    exact ⟨[], by decide, rfl, rfl, ACle.of_eq rfl, trivial⟩
  repeat (first | refine AWP.go ok _ _ _ _ _ rfl ?_ | refine ord_mk (by kernel_rfl) ?_ | refine And.intro (by first | omega | (unfold inI; omega) | (dsimp only; omega)) ?_)
  refine call_data c2 ?_ ?_ ?_
  · rfl
  · rfl
  repeat (first | refine AWP.go ok _ _ _ _ _ rfl ?_ | refine ord_mk (by kernel_rfl) ?_ | refine And.intro (by first | omega | (unfold inI; omega) | (dsimp only; omega)) ?_)
  refine vcIf_ndec (fun h => ?_) (fun g2 => ?_)
  · repeat (first | refine AWP.go ok _ _ _ _ _ rfl ?_ | refine ord_mk (by kernel_rfl) ?_ | refine And.intro (by first | omega | (unfold inI; omega) | (dsimp only; omega)) ?_)
    have hne : s ≠ t := by rintro rfl; exact h rfl
    rw [decide_eq_false hne]
    exact ⟨[], by decide, rfl, rfl, ACle.of_eq rfl, trivial⟩
  repeat (first | refine AWP.go ok _ _ _ _ _ rfl ?_ | refine ord_mk (by kernel_rfl) ?_ | refine And.intro (by first | omega | (unfold inI; omega) | (dsimp only; omega)) ?_)
  have he : s = t := by cases s; cases t; simp_all
  rw [decide_eq_true he]
  exact ⟨[], by decide, rfl, rfl, ACle.of_eq rfl, trivial⟩

structure Cert where
  ranks : List Int
  deriving DecidableEq
def Cert.a1 (a : Cert) : AC := lst 1 enI a.ranks
def Cert.cs (a : Cert) : List AC := [lst 1 enI a.ranks]
def Cert.s1 (a : Cert) : Nat := a.ranks.length
theorem szCertificate_of (s : Cert) (n : Int) (c0 : ∀ n : Int, 0 ≤ n → n ≤ 1048576 → CallsA Tryz.prog 67 [Cert.a1 s, .int n] [] (.int (bud n (Cert.s1 s))) []) (h0 : 0 ≤ n) (h1 : n ≤ 1048576) : CallsA Tryz.prog 29 [.agg (Cert.cs s), .int n] [] (.int (bud n (Cert.s1 s))) [] := by
  refine callsA_of tabOk Tryz.func29 rfl rfl 12 Tryz.ntmps29 (by simp) ?_
  repeat (first | refine AWP.go ok _ _ _ _ _ rfl ?_ | refine ord_mk (by kernel_rfl) ?_ | refine And.intro (by first | omega | (unfold inI; omega) | (dsimp only; omega)) ?_)
  refine call_data (c0 (n) (by omega) (by omega)) ?_ ?_ ?_
  · rfl
  · rfl
  repeat (first | refine AWP.go ok _ _ _ _ _ rfl ?_ | refine ord_mk (by kernel_rfl) ?_ | refine And.intro (by first | omega | (unfold inI; omega) | (dsimp only; omega)) ?_)
  refine vcIf_dec (fun g0 => ?_) (fun g0 => ?_)
  · repeat (first | refine AWP.go ok _ _ _ _ _ rfl ?_ | refine ord_mk (by kernel_rfl) ?_ | refine And.intro (by first | omega | (unfold inI; omega) | (dsimp only; omega)) ?_)
    have e : bud n (Cert.s1 s) = -1 := by unfold bud at g0 ⊢; split at g0 <;> rw [if_pos (by omega)] <;> omega
    rw [e]
    exact ⟨[], by decide, rfl, rfl, ACle.of_eq rfl, trivial⟩
  have e0 : bud (n) (Cert.s1 s) = n - (Cert.s1 s : Int) := by unfold bud at g0 ⊢; split at g0 <;> rename_i hh <;> (first | rw [if_pos hh] | rw [if_neg hh]) <;> omega
  rw [e0] at g0 ⊢
  repeat (first | refine AWP.go ok _ _ _ _ _ rfl ?_ | refine ord_mk (by kernel_rfl) ?_ | refine And.intro (by first | omega | (unfold inI; omega) | (dsimp only; omega)) ?_)
  have e : bud n (Cert.s1 s) = n - (Cert.s1 s : Int) := by unfold bud; rw [if_neg (by omega)] <;> omega
  try rw [e]
  exact ⟨[], by decide, rfl, rfl, ACle.of_eq rfl, trivial⟩
theorem toCertificate_of (s : Cert) (c0 : CallsA Tryz.prog 52 [Cert.a1 s] [] (Cert.a1 s) []) : CallsA Tryz.prog 31 [.agg (Cert.cs s)] [] (.agg (Cert.cs s)) [] := by
  refine callsA_of tabOk Tryz.func31 rfl rfl 9 Tryz.ntmps31 (by simp) ?_
  repeat (first | refine AWP.go ok _ _ _ _ _ rfl ?_ | refine ord_mk (by kernel_rfl) ?_ | refine And.intro (by first | omega | (unfold inI; omega) | (dsimp only; omega)) ?_)
  refine call_data c0 ?_ ?_ ?_
  · rfl
  · rfl
  repeat (first | refine AWP.go ok _ _ _ _ _ rfl ?_ | refine ord_mk (by kernel_rfl) ?_ | refine And.intro (by first | omega | (unfold inI; omega) | (dsimp only; omega)) ?_)
  exact ⟨[], by decide, rfl, rfl, ACle.of_eq rfl, trivial⟩
theorem eqCertificate_of (s t : Cert) (c0 : CallsA Tryz.prog 54 [Cert.a1 s, Cert.a1 t] [] (.bool (decide (Cert.ranks s = Cert.ranks t))) []) : CallsA Tryz.prog 33 [.agg (Cert.cs s), .agg (Cert.cs t)] [] (.bool (decide (s = t))) [] := by
  refine callsA_of tabOk Tryz.func33 rfl rfl 11 Tryz.ntmps33 (by simp) ?_
  repeat (first | refine AWP.go ok _ _ _ _ _ rfl ?_ | refine ord_mk (by kernel_rfl) ?_ | refine And.intro (by first | omega | (unfold inI; omega) | (dsimp only; omega)) ?_)
  refine call_data c0 ?_ ?_ ?_
  · rfl
  · rfl
  repeat (first | refine AWP.go ok _ _ _ _ _ rfl ?_ | refine ord_mk (by kernel_rfl) ?_ | refine And.intro (by first | omega | (unfold inI; omega) | (dsimp only; omega)) ?_)
  refine vcIf_ndec (fun h => ?_) (fun g0 => ?_)
  · repeat (first | refine AWP.go ok _ _ _ _ _ rfl ?_ | refine ord_mk (by kernel_rfl) ?_ | refine And.intro (by first | omega | (unfold inI; omega) | (dsimp only; omega)) ?_)
    have hne : s ≠ t := by rintro rfl; exact h rfl
    rw [decide_eq_false hne]
    exact ⟨[], by decide, rfl, rfl, ACle.of_eq rfl, trivial⟩
  repeat (first | refine AWP.go ok _ _ _ _ _ rfl ?_ | refine ord_mk (by kernel_rfl) ?_ | refine And.intro (by first | omega | (unfold inI; omega) | (dsimp only; omega)) ?_)
  have he : s = t := by cases s; cases t; simp_all
  rw [decide_eq_true he]
  exact ⟨[], by decide, rfl, rfl, ACle.of_eq rfl, trivial⟩
end Go.Proofs.YtcmihlbihppflaaGreat

namespace Go.Proofs.YtcmihlbihppflaaGreat
open Go.Gl
attribute [local irreducible] vcCall AWP RetOk Again ordOk

def btw (n lo hi : Int) : Bool := decide (lo ≤ n) && decide (n ≤ hi)
theorem btw_iff {n lo hi : Int} : btw n lo hi = true ↔ lo ≤ n ∧ n ≤ hi := by simp [btw]
theorem btw_no {n lo hi : Int} : btw n lo hi = false ↔ ¬(lo ≤ n ∧ n ≤ hi) := by rw [← btw_iff]; simp

theorem in_ok (n lo hi : Int) : CallsA Tryz.prog 110 [.int n, .int lo, .int hi] [] (.bool (btw n lo hi)) [] := by
  refine callsA_of tabOk Tryz.func110 rfl rfl 15 Tryz.ntmps110 (by simp) ?_
  repeat' (first | (apply AWP.go ok; rfl; conv => whnf) | (apply ord_mk; kernel_rfl; conv => whnf) | (apply And.intro; (first | omega | (unfold inI; omega) | (dsimp only; omega) | (unfold bitsOk; omega) | ((try dsimp only); simp only [List.length_map, List.length_take, List.length_append, List.length_replicate, List.length_cons, List.length_nil]; omega) | (simp only [btw_iff] at *; first | omega | (unfold inI; omega) | (unfold bitsOk; omega)) | exact stor_map (fun _ => rfl) | exact ⟨rfl, stor_cons rfl stor_nil⟩ | exact ⟨rfl, stor_map (fun _ => rfl) _⟩ | exact ⟨⟨rfl, by omega⟩, stor_map (fun _ => rfl) _⟩); conv => whnf) | (with_reducible apply get_mapN; omega; intro _; conv => whnf) | (with_reducible apply get_mapI; omega; intro _; conv => whnf) | (apply get_mapN; omega; intro _; conv => whnf) | (apply get_fill; omega; conv => whnf) | (apply ex_some; conv => whnf) | (apply get_map; omega; intro _; conv => whnf) | (apply vcG_dec <;> intro _ <;> conv => whnf) | (apply vcG_ndec <;> intro _ <;> conv => whnf) | (apply vcG_not <;> intro _ <;> conv => whnf) | (apply vcG_mk <;> intro _ <;> conv => whnf) | (apply vcIf_dec <;> intro _ <;> conv => whnf) | (apply vcIf_ndec <;> intro _ <;> conv => whnf) | (apply vcIf_not <;> intro _ <;> conv => whnf) | (apply vcIf_mk <;> intro _ <;> conv => whnf))
  all_goals (refine ret_bool rfl ?_; first | rfl | (unfold btw; simp [*]; done) | (unfold btw; simp_all; done) | (unfold btw; simp_all; omega))
end Go.Proofs.YtcmihlbihppflaaGreat

namespace Go.Proofs.YtcmihlbihppflaaGreat
open Go.Gl
attribute [local irreducible] vcCall AWP RetOk Again ordOk

def idxF {α : Type} (p : α → Bool) (l : List α) : Int := match l.findIdx? p with
  | some i => i
  | none => -1

theorem idxF_some {α : Type} {p : α → Bool} {l : List α} {i : Nat} (hi : i < l.length) (h : p l[i] = true) (hn : ∀ j (hj : j < l.length), j < i → p l[j] = false) : idxF p l = i := by
  have : l.findIdx? p = some i := List.findIdx?_eq_some_iff_getElem.2 ⟨hi, h, fun j hj => by simp [hn j (by omega) hj]⟩
  simp [idxF, this]
theorem idxF_none {α : Type} {p : α → Bool} {l : List α} (hn : ∀ j (hj : j < l.length), p l[j] = false) : idxF p l = -1 := by
  have : l.findIdx? p = none := List.findIdx?_eq_none_iff.2 fun x hx => by
    obtain ⟨i, hi, rfl⟩ := List.mem_iff_getElem.1 hx
    exact hn i hi
  simp [idxF, this]

theorem idxF_any {α : Type} (p : α → Bool) (l : List α) : decide (0 ≤ idxF p l) = l.any p := by
  unfold idxF
  split
  · rename_i i e
    obtain ⟨h, hp, _⟩ := List.findIdx?_eq_some_iff_getElem.1 e
    have : l.any p = true := List.any_eq_true.2 ⟨_, List.getElem_mem h, hp⟩
    rw [this]
    simp
  · rename_i e
    have := List.findIdx?_eq_none_iff.1 e
    have : l.any p = false := List.any_eq_false.2 fun x hx => by simp [this x hx]
    rw [this]
    simp

theorem indexFunc_int (l : List Int) (hl : l.length ≤ maxLen) (p : Int → Bool) (f : FuncId) (hf : ∀ x ∈ l, CallsA Tryz.prog f [.int x] [] (.bool (p x)) []) : CallsA Tryz.prog 203 [lst 1 enI l, .fn (.func f) [] []] [] (.int (idxF p l)) [] := by
  unfold maxLen at hl
  refine callsA_of tabOk Tryz.func203 rfl rfl 19 Tryz.ntmps203 (by simp) ?_
  repeat' (first | (apply AWP.go ok; rfl; conv => whnf) | (apply ord_mk; kernel_rfl; conv => whnf) | (apply And.intro; (first | omega | (unfold inI; omega) | (dsimp only; omega) | (unfold bitsOk; omega) | ((try dsimp only); simp only [List.length_map, List.length_take, List.length_append, List.length_replicate, List.length_cons, List.length_nil]; omega) | (simp only [btw_iff] at *; first | omega | (unfold inI; omega) | (unfold bitsOk; omega)) | exact stor_map (fun _ => rfl) | exact ⟨rfl, stor_cons rfl stor_nil⟩ | exact ⟨rfl, stor_map (fun _ => rfl) _⟩ | exact ⟨⟨rfl, by omega⟩, stor_map (fun _ => rfl) _⟩); conv => whnf) | (with_reducible apply get_mapN; omega; intro _; conv => whnf) | (with_reducible apply get_mapI; omega; intro _; conv => whnf) | (apply get_mapN; omega; intro _; conv => whnf) | (apply get_fill; omega; conv => whnf) | (apply ex_some; conv => whnf) | (apply get_map; omega; intro _; conv => whnf) | (apply vcG_dec <;> intro _ <;> conv => whnf) | (apply vcG_ndec <;> intro _ <;> conv => whnf) | (apply vcG_not <;> intro _ <;> conv => whnf) | (apply vcG_mk <;> intro _ <;> conv => whnf) | (apply vcIf_dec <;> intro _ <;> conv => whnf) | (apply vcIf_ndec <;> intro _ <;> conv => whnf) | (apply vcIf_not <;> intro _ <;> conv => whnf) | (apply vcIf_mk <;> intro _ <;> conv => whnf))
  refine loopA (fun k : Nat => ([(0, lst 1 enI l), (1, .fn (.func f) [] []), (7, .int l.length), (8, .int k)], [])) (fun k => k ≤ l.length ∧ ∀ j (hj : j < l.length), j < k → p l[j] = false) (fun k => l.length - k) 0 (by simp)
    ⟨[], rfl, by decide, rfl, ⟨⟨rfl, rfl⟩, ⟨rfl, rfl⟩, ⟨rfl, rfl⟩, ⟨rfl, rfl⟩, trivial⟩, trivial⟩ ?_
  intro k hk
  repeat' (first | (apply AWP.go ok; rfl; conv => whnf) | (apply ord_mk; kernel_rfl; conv => whnf) | (apply And.intro; (first | omega | (unfold inI; omega) | (dsimp only; omega) | (unfold bitsOk; omega) | ((try dsimp only); simp only [List.length_map, List.length_take, List.length_append, List.length_replicate, List.length_cons, List.length_nil]; omega) | (simp only [btw_iff] at *; first | omega | (unfold inI; omega) | (unfold bitsOk; omega)) | exact stor_map (fun _ => rfl) | exact ⟨rfl, stor_cons rfl stor_nil⟩ | exact ⟨rfl, stor_map (fun _ => rfl) _⟩ | exact ⟨⟨rfl, by omega⟩, stor_map (fun _ => rfl) _⟩); conv => whnf) | (with_reducible apply get_mapN; omega; intro _; conv => whnf) | (with_reducible apply get_mapI; omega; intro _; conv => whnf) | (apply get_mapN; omega; intro _; conv => whnf) | (apply get_fill; omega; conv => whnf) | (apply ex_some; conv => whnf) | (apply get_map; omega; intro _; conv => whnf) | (apply vcG_dec <;> intro _ <;> conv => whnf) | (apply vcG_ndec <;> intro _ <;> conv => whnf) | (apply vcG_not <;> intro _ <;> conv => whnf) | (apply vcG_mk <;> intro _ <;> conv => whnf) | (apply vcIf_dec <;> intro _ <;> conv => whnf) | (apply vcIf_ndec <;> intro _ <;> conv => whnf) | (apply vcIf_not <;> intro _ <;> conv => whnf) | (apply vcIf_mk <;> intro _ <;> conv => whnf) | (apply call_data (hf l[k] (List.getElem_mem _)); rfl; rfl; conv => whnf))
  · rename_i h h1
    exact ret_data rfl rfl (by rw [idxF_some (by omega) h1 hk.2]; rfl)
  · rename_i h h1
    refine again (k + 1) [] ⟨by omega, fun j hj hjk => ?_⟩ (by omega) ⟨rfl, by decide, rfl, ⟨⟨rfl, rfl⟩, ⟨rfl, rfl⟩, ⟨rfl, rfl⟩, ⟨rfl, rfl⟩, trivial⟩, trivial⟩
    rcases Nat.lt_or_ge j k with h2 | h2
    · exact hk.2 j hj h2
    · obtain rfl : j = k := by omega
      exact h1
  · exact ret_data rfl rfl (by rw [idxF_none fun j hj => hk.2 j hj (by omega)]; rfl)
theorem containsFunc_int (l : List Int) (hl : l.length ≤ maxLen) (p : Int → Bool) (f : FuncId) (hf : ∀ x ∈ l, CallsA Tryz.prog f [.int x] [] (.bool (p x)) []) : CallsA Tryz.prog 138 [lst 1 enI l, .fn (.func f) [] []] [] (.bool (l.any p)) [] := by
  refine callsA_of tabOk Tryz.func138 rfl rfl 9 Tryz.ntmps138 (by simp) ?_
  repeat' (first | (apply AWP.go ok; rfl; conv => whnf) | (apply ord_mk; kernel_rfl; conv => whnf) | (apply And.intro; (first | omega | (unfold inI; omega) | (dsimp only; omega) | (unfold bitsOk; omega) | ((try dsimp only); simp only [List.length_map, List.length_take, List.length_append, List.length_replicate, List.length_cons, List.length_nil]; omega) | (simp only [btw_iff] at *; first | omega | (unfold inI; omega) | (unfold bitsOk; omega)) | exact stor_map (fun _ => rfl) | exact ⟨rfl, stor_cons rfl stor_nil⟩ | exact ⟨rfl, stor_map (fun _ => rfl) _⟩ | exact ⟨⟨rfl, by omega⟩, stor_map (fun _ => rfl) _⟩); conv => whnf) | (with_reducible apply get_mapN; omega; intro _; conv => whnf) | (with_reducible apply get_mapI; omega; intro _; conv => whnf) | (apply get_mapN; omega; intro _; conv => whnf) | (apply get_fill; omega; conv => whnf) | (apply ex_some; conv => whnf) | (apply get_map; omega; intro _; conv => whnf) | (apply vcG_dec <;> intro _ <;> conv => whnf) | (apply vcG_ndec <;> intro _ <;> conv => whnf) | (apply vcG_not <;> intro _ <;> conv => whnf) | (apply vcG_mk <;> intro _ <;> conv => whnf) | (apply vcIf_dec <;> intro _ <;> conv => whnf) | (apply vcIf_ndec <;> intro _ <;> conv => whnf) | (apply vcIf_not <;> intro _ <;> conv => whnf) | (apply vcIf_mk <;> intro _ <;> conv => whnf) | (apply call_data (indexFunc_int l hl p f hf); rfl; rfl; conv => whnf))
  exact ret_bool rfl (by rw [← idxF_any])
end Go.Proofs.YtcmihlbihppflaaGreat

namespace Go.Proofs.YtcmihlbihppflaaGreat
open Go.Gl
attribute [local irreducible] vcCall AWP RetOk Again ordOk

theorem valsOk1_ok (n : Int) : CallsA Tryz.prog 206 [.int n] [] (.bool (!btw n 0 3)) [] := by
  refine callsA_of tabOk Tryz.func206 rfl rfl 6 Tryz.ntmps206 (by simp) ?_
  repeat' (first | (apply AWP.go ok; rfl; conv => whnf) | (apply ord_mk; kernel_rfl; conv => whnf) | (apply And.intro; (first | omega | (unfold inI; omega) | (dsimp only; omega) | (unfold bitsOk; omega) | ((try dsimp only); simp only [List.length_map, List.length_take, List.length_append, List.length_replicate, List.length_cons, List.length_nil]; omega) | (simp only [btw_iff] at *; first | omega | (unfold inI; omega) | (unfold bitsOk; omega)) | exact stor_map (fun _ => rfl) | exact ⟨rfl, stor_cons rfl stor_nil⟩ | exact ⟨rfl, stor_map (fun _ => rfl) _⟩ | exact ⟨⟨rfl, by omega⟩, stor_map (fun _ => rfl) _⟩); conv => whnf) | (with_reducible apply get_mapN; omega; intro _; conv => whnf) | (with_reducible apply get_mapI; omega; intro _; conv => whnf) | (apply get_mapN; omega; intro _; conv => whnf) | (apply get_fill; omega; conv => whnf) | (apply ex_some; conv => whnf) | (apply get_map; omega; intro _; conv => whnf) | (apply vcG_dec <;> intro _ <;> conv => whnf) | (apply vcG_ndec <;> intro _ <;> conv => whnf) | (apply vcG_not <;> intro _ <;> conv => whnf) | (apply vcG_mk <;> intro _ <;> conv => whnf) | (apply vcIf_dec <;> intro _ <;> conv => whnf) | (apply vcIf_ndec <;> intro _ <;> conv => whnf) | (apply vcIf_not <;> intro _ <;> conv => whnf) | (apply vcIf_mk <;> intro _ <;> conv => whnf) | (apply call_data (in_ok n 0 3); rfl; rfl; conv => whnf))
  exact ret_bool rfl rfl

/-- a state's values are three, each from 0 to 3 -/
def valsB (l : List Int) : Bool := decide ((l.length : Int) = 3) && !(l.any fun n => !btw n 0 3)

theorem valsOk_ok (l : List Int) (hl : l.length ≤ maxLen) : CallsA Tryz.prog 150 [ints l] [] (.bool (valsB l)) [] := by
  have hl' := hl
  unfold maxLen at hl'
  have hk := containsFunc_int l hl (fun n => !btw n 0 3) 206 (fun x _ => valsOk1_ok x)
  refine callsA_of tabOk Tryz.func150 rfl rfl 11 Tryz.ntmps150 (by simp) ?_
  repeat' (first | (apply AWP.go ok; rfl; conv => whnf) | (apply ord_mk; kernel_rfl; conv => whnf) | (apply And.intro; (first | omega | (unfold inI; omega) | (dsimp only; omega) | (unfold bitsOk; omega) | ((try dsimp only); simp only [List.length_map, List.length_take, List.length_append, List.length_replicate, List.length_cons, List.length_nil]; omega) | (simp only [btw_iff] at *; first | omega | (unfold inI; omega) | (unfold bitsOk; omega)) | exact stor_map (fun _ => rfl) | exact ⟨rfl, stor_cons rfl stor_nil⟩ | exact ⟨rfl, stor_map (fun _ => rfl) _⟩ | exact ⟨⟨rfl, by omega⟩, stor_map (fun _ => rfl) _⟩); conv => whnf) | (with_reducible apply get_mapN; omega; intro _; conv => whnf) | (with_reducible apply get_mapI; omega; intro _; conv => whnf) | (apply get_mapN; omega; intro _; conv => whnf) | (apply get_fill; omega; conv => whnf) | (apply ex_some; conv => whnf) | (apply get_map; omega; intro _; conv => whnf) | (apply vcG_dec <;> intro _ <;> conv => whnf) | (apply vcG_ndec <;> intro _ <;> conv => whnf) | (apply vcG_not <;> intro _ <;> conv => whnf) | (apply vcG_mk <;> intro _ <;> conv => whnf) | (apply vcIf_dec <;> intro _ <;> conv => whnf) | (apply vcIf_ndec <;> intro _ <;> conv => whnf) | (apply vcIf_not <;> intro _ <;> conv => whnf) | (apply vcIf_mk <;> intro _ <;> conv => whnf) | (apply call_data (hk); rfl; rfl; conv => whnf))
  all_goals (refine ret_bool rfl ?_; first | rfl | (unfold valsB; simp [*]; done) | (unfold valsB; simp_all; done) | (unfold valsB; simp_all; omega))
end Go.Proofs.YtcmihlbihppflaaGreat

namespace Go.Proofs.YtcmihlbihppflaaGreat
open Go.Gl
attribute [local irreducible] vcCall vcPick vcGuard

theorem indexFunc_state (l : List State) (hl : l.length ≤ maxLen) (p : State → Bool) (f : FuncId) (hf : ∀ x ∈ l, CallsA Tryz.prog f [argAgg State.cs x] [] (.bool (p x)) []) : CallsA Tryz.prog 205 [lst 2 State.cs l, .fn (.func f) [] []] [] (.int (idxF p l)) [] := by
  unfold maxLen at hl
  refine callsA_of tabOk Tryz.func205 rfl rfl 19 Tryz.ntmps205 (by simp) ?_
  repeat' (first | (apply AWP.go ok; rfl; conv => whnf) | (apply ord_mk; kernel_rfl; conv => whnf) | (apply And.intro; (first | omega | (unfold inI; omega) | (dsimp only; omega) | (unfold bitsOk; omega) | ((try dsimp only); simp only [List.length_map, List.length_take, List.length_append, List.length_replicate, List.length_cons, List.length_nil]; omega) | (simp only [btw_iff] at *; first | omega | (unfold inI; omega) | (unfold bitsOk; omega)) | exact stor_map (fun _ => rfl) | exact ⟨rfl, stor_cons rfl stor_nil⟩ | exact ⟨rfl, stor_map (fun _ => rfl) _⟩ | exact ⟨⟨rfl, by omega⟩, stor_map (fun _ => rfl) _⟩); conv => whnf) | (with_reducible apply get_mapN; omega; intro _; conv => whnf) | (with_reducible apply get_mapI; omega; intro _; conv => whnf) | (apply get_mapN; omega; intro _; conv => whnf) | (apply get_fill; omega; conv => whnf) | (apply ex_some; conv => whnf) | (apply get_map; omega; intro _; conv => whnf) | (apply vcG_dec <;> intro _ <;> conv => whnf) | (apply vcG_ndec <;> intro _ <;> conv => whnf) | (apply vcG_not <;> intro _ <;> conv => whnf) | (apply vcG_mk <;> intro _ <;> conv => whnf) | (apply vcIf_dec <;> intro _ <;> conv => whnf) | (apply vcIf_ndec <;> intro _ <;> conv => whnf) | (apply vcIf_not <;> intro _ <;> conv => whnf) | (apply vcIf_mk <;> intro _ <;> conv => whnf))
  refine loopA (fun k : Nat => ([(0, lst 2 State.cs l), (1, .fn (.func f) [] []), (7, .int l.length), (8, .int k)], [])) (fun k => k ≤ l.length ∧ ∀ j (hj : j < l.length), j < k → p l[j] = false) (fun k => l.length - k) 0 (by simp)
    ⟨[], rfl, by decide, rfl, ⟨⟨rfl, rfl⟩, ⟨rfl, rfl⟩, ⟨rfl, rfl⟩, ⟨rfl, rfl⟩, trivial⟩, trivial⟩ ?_
  intro k hk
  repeat' (first | (apply AWP.go ok; rfl; conv => whnf) | (apply ord_mk; kernel_rfl; conv => whnf) | (apply And.intro; (first | omega | (unfold inI; omega) | (dsimp only; omega) | (unfold bitsOk; omega) | ((try dsimp only); simp only [List.length_map, List.length_take, List.length_append, List.length_replicate, List.length_cons, List.length_nil]; omega) | (simp only [btw_iff] at *; first | omega | (unfold inI; omega) | (unfold bitsOk; omega)) | exact stor_map (fun _ => rfl) | exact ⟨rfl, stor_cons rfl stor_nil⟩ | exact ⟨rfl, stor_map (fun _ => rfl) _⟩ | exact ⟨⟨rfl, by omega⟩, stor_map (fun _ => rfl) _⟩); conv => whnf) | (with_reducible apply get_mapN; omega; intro _; conv => whnf) | (with_reducible apply get_mapI; omega; intro _; conv => whnf) | (apply get_mapN; omega; intro _; conv => whnf) | (apply get_fill; omega; conv => whnf) | (apply ex_some; conv => whnf) | (apply get_map; omega; intro _; conv => whnf) | (apply vcG_dec <;> intro _ <;> conv => whnf) | (apply vcG_ndec <;> intro _ <;> conv => whnf) | (apply vcG_not <;> intro _ <;> conv => whnf) | (apply vcG_mk <;> intro _ <;> conv => whnf) | (apply vcIf_dec <;> intro _ <;> conv => whnf) | (apply vcIf_ndec <;> intro _ <;> conv => whnf) | (apply vcIf_not <;> intro _ <;> conv => whnf) | (apply vcIf_mk <;> intro _ <;> conv => whnf) | (apply call_data (hf l[k] (List.getElem_mem _)); rfl; rfl; conv => whnf))
  · rename_i h h1
    exact ret_data rfl rfl (by rw [idxF_some (by omega) h1 hk.2]; rfl)
  · rename_i h h1
    refine again (k + 1) [] ⟨by omega, fun j hj hjk => ?_⟩ (by omega) ⟨rfl, by decide, rfl, ⟨⟨rfl, rfl⟩, ⟨rfl, rfl⟩, ⟨rfl, rfl⟩, ⟨rfl, rfl⟩, trivial⟩, trivial⟩
    rcases Nat.lt_or_ge j k with h2 | h2
    · exact hk.2 j hj h2
    · obtain rfl : j = k := by omega
      exact h1
  · exact ret_data rfl rfl (by rw [idxF_none fun j hj => hk.2 j hj (by omega)]; rfl)
theorem containsFunc_state (l : List State) (hl : l.length ≤ maxLen) (p : State → Bool) (f : FuncId) (hf : ∀ x ∈ l, CallsA Tryz.prog f [argAgg State.cs x] [] (.bool (p x)) []) : CallsA Tryz.prog 148 [lst 2 State.cs l, .fn (.func f) [] []] [] (.bool (l.any p)) [] := by
  refine callsA_of tabOk Tryz.func148 rfl rfl 9 Tryz.ntmps148 (by simp) ?_
  repeat' (first | (apply AWP.go ok; rfl; conv => whnf) | (apply ord_mk; kernel_rfl; conv => whnf) | (apply And.intro; (first | omega | (unfold inI; omega) | (dsimp only; omega) | (unfold bitsOk; omega) | ((try dsimp only); simp only [List.length_map, List.length_take, List.length_append, List.length_replicate, List.length_cons, List.length_nil]; omega) | (simp only [btw_iff] at *; first | omega | (unfold inI; omega) | (unfold bitsOk; omega)) | exact stor_map (fun _ => rfl) | exact ⟨rfl, stor_cons rfl stor_nil⟩ | exact ⟨rfl, stor_map (fun _ => rfl) _⟩ | exact ⟨⟨rfl, by omega⟩, stor_map (fun _ => rfl) _⟩); conv => whnf) | (with_reducible apply get_mapN; omega; intro _; conv => whnf) | (with_reducible apply get_mapI; omega; intro _; conv => whnf) | (apply get_mapN; omega; intro _; conv => whnf) | (apply get_fill; omega; conv => whnf) | (apply ex_some; conv => whnf) | (apply get_map; omega; intro _; conv => whnf) | (apply vcG_dec <;> intro _ <;> conv => whnf) | (apply vcG_ndec <;> intro _ <;> conv => whnf) | (apply vcG_not <;> intro _ <;> conv => whnf) | (apply vcG_mk <;> intro _ <;> conv => whnf) | (apply vcIf_dec <;> intro _ <;> conv => whnf) | (apply vcIf_ndec <;> intro _ <;> conv => whnf) | (apply vcIf_not <;> intro _ <;> conv => whnf) | (apply vcIf_mk <;> intro _ <;> conv => whnf) | (apply call_data (indexFunc_state l hl p f hf); rfl; rfl; conv => whnf))
  exact ret_bool rfl (by rw [← idxF_any])
theorem indexFunc_expr (l : List Tree) (hl : l.length ≤ maxLen) (p : Tree → Bool) (f : FuncId) (hf : ∀ x ∈ l, CallsA Tryz.prog f [argAgg Tree.cs' x] [] (.bool (p x)) []) : CallsA Tryz.prog 209 [lst 3 Tree.cs' l, .fn (.func f) [] []] [] (.int (idxF p l)) [] := by
  unfold maxLen at hl
  refine callsA_of tabOk Tryz.func209 rfl rfl 19 Tryz.ntmps209 (by simp) ?_
  repeat' (first | (apply AWP.go ok; rfl; conv => whnf) | (apply ord_mk; kernel_rfl; conv => whnf) | (apply And.intro; (first | omega | (unfold inI; omega) | (dsimp only; omega) | (unfold bitsOk; omega) | ((try dsimp only); simp only [List.length_map, List.length_take, List.length_append, List.length_replicate, List.length_cons, List.length_nil]; omega) | (simp only [btw_iff] at *; first | omega | (unfold inI; omega) | (unfold bitsOk; omega)) | exact stor_map (fun _ => rfl) | exact ⟨rfl, stor_cons rfl stor_nil⟩ | exact ⟨rfl, stor_map (fun _ => rfl) _⟩ | exact ⟨⟨rfl, by omega⟩, stor_map (fun _ => rfl) _⟩); conv => whnf) | (with_reducible apply get_mapN; omega; intro _; conv => whnf) | (with_reducible apply get_mapI; omega; intro _; conv => whnf) | (apply get_mapN; omega; intro _; conv => whnf) | (apply get_fill; omega; conv => whnf) | (apply ex_some; conv => whnf) | (apply get_map; omega; intro _; conv => whnf) | (apply vcG_dec <;> intro _ <;> conv => whnf) | (apply vcG_ndec <;> intro _ <;> conv => whnf) | (apply vcG_not <;> intro _ <;> conv => whnf) | (apply vcG_mk <;> intro _ <;> conv => whnf) | (apply vcIf_dec <;> intro _ <;> conv => whnf) | (apply vcIf_ndec <;> intro _ <;> conv => whnf) | (apply vcIf_not <;> intro _ <;> conv => whnf) | (apply vcIf_mk <;> intro _ <;> conv => whnf))
  refine loopA (fun k : Nat => ([(0, lst 3 Tree.cs' l), (1, .fn (.func f) [] []), (7, .int l.length), (8, .int k)], [])) (fun k => k ≤ l.length ∧ ∀ j (hj : j < l.length), j < k → p l[j] = false) (fun k => l.length - k) 0 (by simp)
    ⟨[], rfl, by decide, rfl, ⟨⟨rfl, rfl⟩, ⟨rfl, rfl⟩, ⟨rfl, rfl⟩, ⟨rfl, rfl⟩, trivial⟩, trivial⟩ ?_
  intro k hk
  repeat' (first | (apply AWP.go ok; rfl; conv => whnf) | (apply ord_mk; kernel_rfl; conv => whnf) | (apply And.intro; (first | omega | (unfold inI; omega) | (dsimp only; omega) | (unfold bitsOk; omega) | ((try dsimp only); simp only [List.length_map, List.length_take, List.length_append, List.length_replicate, List.length_cons, List.length_nil]; omega) | (simp only [btw_iff] at *; first | omega | (unfold inI; omega) | (unfold bitsOk; omega)) | exact stor_map (fun _ => rfl) | exact ⟨rfl, stor_cons rfl stor_nil⟩ | exact ⟨rfl, stor_map (fun _ => rfl) _⟩ | exact ⟨⟨rfl, by omega⟩, stor_map (fun _ => rfl) _⟩); conv => whnf) | (with_reducible apply get_mapN; omega; intro _; conv => whnf) | (with_reducible apply get_mapI; omega; intro _; conv => whnf) | (apply get_mapN; omega; intro _; conv => whnf) | (apply get_fill; omega; conv => whnf) | (apply ex_some; conv => whnf) | (apply get_map; omega; intro _; conv => whnf) | (apply vcG_dec <;> intro _ <;> conv => whnf) | (apply vcG_ndec <;> intro _ <;> conv => whnf) | (apply vcG_not <;> intro _ <;> conv => whnf) | (apply vcG_mk <;> intro _ <;> conv => whnf) | (apply vcIf_dec <;> intro _ <;> conv => whnf) | (apply vcIf_ndec <;> intro _ <;> conv => whnf) | (apply vcIf_not <;> intro _ <;> conv => whnf) | (apply vcIf_mk <;> intro _ <;> conv => whnf) | (apply call_data (hf l[k] (List.getElem_mem _)); rfl; rfl; conv => whnf))
  · rename_i h h1
    exact ret_data rfl rfl (by rw [idxF_some (by omega) h1 hk.2]; rfl)
  · rename_i h h1
    refine again (k + 1) [] ⟨by omega, fun j hj hjk => ?_⟩ (by omega) ⟨rfl, by decide, rfl, ⟨⟨rfl, rfl⟩, ⟨rfl, rfl⟩, ⟨rfl, rfl⟩, ⟨rfl, rfl⟩, trivial⟩, trivial⟩
    rcases Nat.lt_or_ge j k with h2 | h2
    · exact hk.2 j hj h2
    · obtain rfl : j = k := by omega
      exact h1
  · exact ret_data rfl rfl (by rw [idxF_none fun j hj => hk.2 j hj (by omega)]; rfl)
theorem containsFunc_expr (l : List Tree) (hl : l.length ≤ maxLen) (p : Tree → Bool) (f : FuncId) (hf : ∀ x ∈ l, CallsA Tryz.prog f [argAgg Tree.cs' x] [] (.bool (p x)) []) : CallsA Tryz.prog 154 [lst 3 Tree.cs' l, .fn (.func f) [] []] [] (.bool (l.any p)) [] := by
  refine callsA_of tabOk Tryz.func154 rfl rfl 9 Tryz.ntmps154 (by simp) ?_
  repeat' (first | (apply AWP.go ok; rfl; conv => whnf) | (apply ord_mk; kernel_rfl; conv => whnf) | (apply And.intro; (first | omega | (unfold inI; omega) | (dsimp only; omega) | (unfold bitsOk; omega) | ((try dsimp only); simp only [List.length_map, List.length_take, List.length_append, List.length_replicate, List.length_cons, List.length_nil]; omega) | (simp only [btw_iff] at *; first | omega | (unfold inI; omega) | (unfold bitsOk; omega)) | exact stor_map (fun _ => rfl) | exact ⟨rfl, stor_cons rfl stor_nil⟩ | exact ⟨rfl, stor_map (fun _ => rfl) _⟩ | exact ⟨⟨rfl, by omega⟩, stor_map (fun _ => rfl) _⟩); conv => whnf) | (with_reducible apply get_mapN; omega; intro _; conv => whnf) | (with_reducible apply get_mapI; omega; intro _; conv => whnf) | (apply get_mapN; omega; intro _; conv => whnf) | (apply get_fill; omega; conv => whnf) | (apply ex_some; conv => whnf) | (apply get_map; omega; intro _; conv => whnf) | (apply vcG_dec <;> intro _ <;> conv => whnf) | (apply vcG_ndec <;> intro _ <;> conv => whnf) | (apply vcG_not <;> intro _ <;> conv => whnf) | (apply vcG_mk <;> intro _ <;> conv => whnf) | (apply vcIf_dec <;> intro _ <;> conv => whnf) | (apply vcIf_ndec <;> intro _ <;> conv => whnf) | (apply vcIf_not <;> intro _ <;> conv => whnf) | (apply vcIf_mk <;> intro _ <;> conv => whnf) | (apply call_data (indexFunc_expr l hl p f hf); rfl; rfl; conv => whnf))
  exact ret_bool rfl (by rw [← idxF_any])
theorem indexFunc_ints1 (c : Int) (l : List (List Int)) (hl : l.length ≤ maxLen) (p : (List Int) → Bool) (f : FuncId) (hf : ∀ x ∈ l, CallsA Tryz.prog f [ints x, .pt [.int c]] [] (.bool (p x)) []) : CallsA Tryz.prog 207 [lst 1 encL l, .fn (.func f) [] [.pt [.int c]]] [] (.int (idxF p l)) [] := by
  unfold maxLen at hl
  refine callsA_of tabOk Tryz.func207 rfl rfl 19 Tryz.ntmps207 (by simp) ?_
  repeat' (first | (apply AWP.go ok; rfl; conv => whnf) | (apply ord_mk; kernel_rfl; conv => whnf) | (apply And.intro; (first | omega | (unfold inI; omega) | (dsimp only; omega) | (unfold bitsOk; omega) | ((try dsimp only); simp only [List.length_map, List.length_take, List.length_append, List.length_replicate, List.length_cons, List.length_nil]; omega) | (simp only [btw_iff] at *; first | omega | (unfold inI; omega) | (unfold bitsOk; omega)) | exact stor_map (fun _ => rfl) | exact ⟨rfl, stor_cons rfl stor_nil⟩ | exact ⟨rfl, stor_map (fun _ => rfl) _⟩ | exact ⟨⟨rfl, by omega⟩, stor_map (fun _ => rfl) _⟩); conv => whnf) | (with_reducible apply get_mapN; omega; intro _; conv => whnf) | (with_reducible apply get_mapI; omega; intro _; conv => whnf) | (apply get_mapN; omega; intro _; conv => whnf) | (apply get_fill; omega; conv => whnf) | (apply ex_some; conv => whnf) | (apply get_map; omega; intro _; conv => whnf) | (apply vcG_dec <;> intro _ <;> conv => whnf) | (apply vcG_ndec <;> intro _ <;> conv => whnf) | (apply vcG_not <;> intro _ <;> conv => whnf) | (apply vcG_mk <;> intro _ <;> conv => whnf) | (apply vcIf_dec <;> intro _ <;> conv => whnf) | (apply vcIf_ndec <;> intro _ <;> conv => whnf) | (apply vcIf_not <;> intro _ <;> conv => whnf) | (apply vcIf_mk <;> intro _ <;> conv => whnf))
  refine loopA (fun k : Nat => ([(0, lst 1 encL l), (1, .fn (.func f) [] [.pt [.int c]]), (7, .int l.length), (8, .int k)], [])) (fun k => k ≤ l.length ∧ ∀ j (hj : j < l.length), j < k → p l[j] = false) (fun k => l.length - k) 0 (by simp)
    ⟨[], rfl, by decide, rfl, ⟨⟨rfl, rfl⟩, ⟨rfl, rfl⟩, ⟨rfl, rfl⟩, ⟨rfl, rfl⟩, trivial⟩, trivial⟩ ?_
  intro k hk
  repeat' (first | (apply AWP.go ok; rfl; conv => whnf) | (apply ord_mk; kernel_rfl; conv => whnf) | (apply And.intro; (first | omega | (unfold inI; omega) | (dsimp only; omega) | (unfold bitsOk; omega) | ((try dsimp only); simp only [List.length_map, List.length_take, List.length_append, List.length_replicate, List.length_cons, List.length_nil]; omega) | (simp only [btw_iff] at *; first | omega | (unfold inI; omega) | (unfold bitsOk; omega)) | exact stor_map (fun _ => rfl) | exact ⟨rfl, stor_cons rfl stor_nil⟩ | exact ⟨rfl, stor_map (fun _ => rfl) _⟩ | exact ⟨⟨rfl, by omega⟩, stor_map (fun _ => rfl) _⟩); conv => whnf) | (with_reducible apply get_mapN; omega; intro _; conv => whnf) | (with_reducible apply get_mapI; omega; intro _; conv => whnf) | (apply get_mapN; omega; intro _; conv => whnf) | (apply get_fill; omega; conv => whnf) | (apply ex_some; conv => whnf) | (apply get_map; omega; intro _; conv => whnf) | (apply vcG_dec <;> intro _ <;> conv => whnf) | (apply vcG_ndec <;> intro _ <;> conv => whnf) | (apply vcG_not <;> intro _ <;> conv => whnf) | (apply vcG_mk <;> intro _ <;> conv => whnf) | (apply vcIf_dec <;> intro _ <;> conv => whnf) | (apply vcIf_ndec <;> intro _ <;> conv => whnf) | (apply vcIf_not <;> intro _ <;> conv => whnf) | (apply vcIf_mk <;> intro _ <;> conv => whnf) | (apply call_data (hf l[k] (List.getElem_mem _)); rfl; rfl; conv => whnf))
  · rename_i h h1
    exact ret_data rfl rfl (by rw [idxF_some (by omega) h1 hk.2]; rfl)
  · rename_i h h1
    refine again (k + 1) [] ⟨by omega, fun j hj hjk => ?_⟩ (by omega) ⟨rfl, by decide, rfl, ⟨⟨rfl, rfl⟩, ⟨rfl, rfl⟩, ⟨rfl, rfl⟩, ⟨rfl, rfl⟩, trivial⟩, trivial⟩
    rcases Nat.lt_or_ge j k with h2 | h2
    · exact hk.2 j hj h2
    · obtain rfl : j = k := by omega
      exact h1
  · exact ret_data rfl rfl (by rw [idxF_none fun j hj => hk.2 j hj (by omega)]; rfl)
theorem containsFunc_ints1 (c : Int) (l : List (List Int)) (hl : l.length ≤ maxLen) (p : (List Int) → Bool) (f : FuncId) (hf : ∀ x ∈ l, CallsA Tryz.prog f [ints x, .pt [.int c]] [] (.bool (p x)) []) : CallsA Tryz.prog 151 [lst 1 encL l, .fn (.func f) [] [.pt [.int c]]] [] (.bool (l.any p)) [] := by
  refine callsA_of tabOk Tryz.func151 rfl rfl 9 Tryz.ntmps151 (by simp) ?_
  repeat' (first | (apply AWP.go ok; rfl; conv => whnf) | (apply ord_mk; kernel_rfl; conv => whnf) | (apply And.intro; (first | omega | (unfold inI; omega) | (dsimp only; omega) | (unfold bitsOk; omega) | ((try dsimp only); simp only [List.length_map, List.length_take, List.length_append, List.length_replicate, List.length_cons, List.length_nil]; omega) | (simp only [btw_iff] at *; first | omega | (unfold inI; omega) | (unfold bitsOk; omega)) | exact stor_map (fun _ => rfl) | exact ⟨rfl, stor_cons rfl stor_nil⟩ | exact ⟨rfl, stor_map (fun _ => rfl) _⟩ | exact ⟨⟨rfl, by omega⟩, stor_map (fun _ => rfl) _⟩); conv => whnf) | (with_reducible apply get_mapN; omega; intro _; conv => whnf) | (with_reducible apply get_mapI; omega; intro _; conv => whnf) | (apply get_mapN; omega; intro _; conv => whnf) | (apply get_fill; omega; conv => whnf) | (apply ex_some; conv => whnf) | (apply get_map; omega; intro _; conv => whnf) | (apply vcG_dec <;> intro _ <;> conv => whnf) | (apply vcG_ndec <;> intro _ <;> conv => whnf) | (apply vcG_not <;> intro _ <;> conv => whnf) | (apply vcG_mk <;> intro _ <;> conv => whnf) | (apply vcIf_dec <;> intro _ <;> conv => whnf) | (apply vcIf_ndec <;> intro _ <;> conv => whnf) | (apply vcIf_not <;> intro _ <;> conv => whnf) | (apply vcIf_mk <;> intro _ <;> conv => whnf) | (apply call_data (indexFunc_ints1 c l hl p f hf); rfl; rfl; conv => whnf))
  exact ret_bool rfl (by rw [← idxF_any])
theorem indexFunc_int1 (c : Int) (l : List Int) (hl : l.length ≤ maxLen) (p : Int → Bool) (f : FuncId) (hf : ∀ x ∈ l, CallsA Tryz.prog f [.int x, .pt [.int c]] [] (.bool (p x)) []) : CallsA Tryz.prog 203 [lst 1 enI l, .fn (.func f) [] [.pt [.int c]]] [] (.int (idxF p l)) [] := by
  unfold maxLen at hl
  refine callsA_of tabOk Tryz.func203 rfl rfl 19 Tryz.ntmps203 (by simp) ?_
  repeat' (first | (apply AWP.go ok; rfl; conv => whnf) | (apply ord_mk; kernel_rfl; conv => whnf) | (apply And.intro; (first | omega | (unfold inI; omega) | (dsimp only; omega) | (unfold bitsOk; omega) | ((try dsimp only); simp only [List.length_map, List.length_take, List.length_append, List.length_replicate, List.length_cons, List.length_nil]; omega) | (simp only [btw_iff] at *; first | omega | (unfold inI; omega) | (unfold bitsOk; omega)) | exact stor_map (fun _ => rfl) | exact ⟨rfl, stor_cons rfl stor_nil⟩ | exact ⟨rfl, stor_map (fun _ => rfl) _⟩ | exact ⟨⟨rfl, by omega⟩, stor_map (fun _ => rfl) _⟩); conv => whnf) | (with_reducible apply get_mapN; omega; intro _; conv => whnf) | (with_reducible apply get_mapI; omega; intro _; conv => whnf) | (apply get_mapN; omega; intro _; conv => whnf) | (apply get_fill; omega; conv => whnf) | (apply ex_some; conv => whnf) | (apply get_map; omega; intro _; conv => whnf) | (apply vcG_dec <;> intro _ <;> conv => whnf) | (apply vcG_ndec <;> intro _ <;> conv => whnf) | (apply vcG_not <;> intro _ <;> conv => whnf) | (apply vcG_mk <;> intro _ <;> conv => whnf) | (apply vcIf_dec <;> intro _ <;> conv => whnf) | (apply vcIf_ndec <;> intro _ <;> conv => whnf) | (apply vcIf_not <;> intro _ <;> conv => whnf) | (apply vcIf_mk <;> intro _ <;> conv => whnf))
  refine loopA (fun k : Nat => ([(0, lst 1 enI l), (1, .fn (.func f) [] [.pt [.int c]]), (7, .int l.length), (8, .int k)], [])) (fun k => k ≤ l.length ∧ ∀ j (hj : j < l.length), j < k → p l[j] = false) (fun k => l.length - k) 0 (by simp)
    ⟨[], rfl, by decide, rfl, ⟨⟨rfl, rfl⟩, ⟨rfl, rfl⟩, ⟨rfl, rfl⟩, ⟨rfl, rfl⟩, trivial⟩, trivial⟩ ?_
  intro k hk
  repeat' (first | (apply AWP.go ok; rfl; conv => whnf) | (apply ord_mk; kernel_rfl; conv => whnf) | (apply And.intro; (first | omega | (unfold inI; omega) | (dsimp only; omega) | (unfold bitsOk; omega) | ((try dsimp only); simp only [List.length_map, List.length_take, List.length_append, List.length_replicate, List.length_cons, List.length_nil]; omega) | (simp only [btw_iff] at *; first | omega | (unfold inI; omega) | (unfold bitsOk; omega)) | exact stor_map (fun _ => rfl) | exact ⟨rfl, stor_cons rfl stor_nil⟩ | exact ⟨rfl, stor_map (fun _ => rfl) _⟩ | exact ⟨⟨rfl, by omega⟩, stor_map (fun _ => rfl) _⟩); conv => whnf) | (with_reducible apply get_mapN; omega; intro _; conv => whnf) | (with_reducible apply get_mapI; omega; intro _; conv => whnf) | (apply get_mapN; omega; intro _; conv => whnf) | (apply get_fill; omega; conv => whnf) | (apply ex_some; conv => whnf) | (apply get_map; omega; intro _; conv => whnf) | (apply vcG_dec <;> intro _ <;> conv => whnf) | (apply vcG_ndec <;> intro _ <;> conv => whnf) | (apply vcG_not <;> intro _ <;> conv => whnf) | (apply vcG_mk <;> intro _ <;> conv => whnf) | (apply vcIf_dec <;> intro _ <;> conv => whnf) | (apply vcIf_ndec <;> intro _ <;> conv => whnf) | (apply vcIf_not <;> intro _ <;> conv => whnf) | (apply vcIf_mk <;> intro _ <;> conv => whnf) | (apply call_data (hf l[k] (List.getElem_mem _)); rfl; rfl; conv => whnf))
  · rename_i h h1
    exact ret_data rfl rfl (by rw [idxF_some (by omega) h1 hk.2]; rfl)
  · rename_i h h1
    refine again (k + 1) [] ⟨by omega, fun j hj hjk => ?_⟩ (by omega) ⟨rfl, by decide, rfl, ⟨⟨rfl, rfl⟩, ⟨rfl, rfl⟩, ⟨rfl, rfl⟩, ⟨rfl, rfl⟩, trivial⟩, trivial⟩
    rcases Nat.lt_or_ge j k with h2 | h2
    · exact hk.2 j hj h2
    · obtain rfl : j = k := by omega
      exact h1
  · exact ret_data rfl rfl (by rw [idxF_none fun j hj => hk.2 j hj (by omega)]; rfl)
theorem containsFunc_int1 (c : Int) (l : List Int) (hl : l.length ≤ maxLen) (p : Int → Bool) (f : FuncId) (hf : ∀ x ∈ l, CallsA Tryz.prog f [.int x, .pt [.int c]] [] (.bool (p x)) []) : CallsA Tryz.prog 138 [lst 1 enI l, .fn (.func f) [] [.pt [.int c]]] [] (.bool (l.any p)) [] := by
  refine callsA_of tabOk Tryz.func138 rfl rfl 9 Tryz.ntmps138 (by simp) ?_
  repeat' (first | (apply AWP.go ok; rfl; conv => whnf) | (apply ord_mk; kernel_rfl; conv => whnf) | (apply And.intro; (first | omega | (unfold inI; omega) | (dsimp only; omega) | (unfold bitsOk; omega) | ((try dsimp only); simp only [List.length_map, List.length_take, List.length_append, List.length_replicate, List.length_cons, List.length_nil]; omega) | (simp only [btw_iff] at *; first | omega | (unfold inI; omega) | (unfold bitsOk; omega)) | exact stor_map (fun _ => rfl) | exact ⟨rfl, stor_cons rfl stor_nil⟩ | exact ⟨rfl, stor_map (fun _ => rfl) _⟩ | exact ⟨⟨rfl, by omega⟩, stor_map (fun _ => rfl) _⟩); conv => whnf) | (with_reducible apply get_mapN; omega; intro _; conv => whnf) | (with_reducible apply get_mapI; omega; intro _; conv => whnf) | (apply get_mapN; omega; intro _; conv => whnf) | (apply get_fill; omega; conv => whnf) | (apply ex_some; conv => whnf) | (apply get_map; omega; intro _; conv => whnf) | (apply vcG_dec <;> intro _ <;> conv => whnf) | (apply vcG_ndec <;> intro _ <;> conv => whnf) | (apply vcG_not <;> intro _ <;> conv => whnf) | (apply vcG_mk <;> intro _ <;> conv => whnf) | (apply vcIf_dec <;> intro _ <;> conv => whnf) | (apply vcIf_ndec <;> intro _ <;> conv => whnf) | (apply vcIf_not <;> intro _ <;> conv => whnf) | (apply vcIf_mk <;> intro _ <;> conv => whnf) | (apply call_data (indexFunc_int1 c l hl p f hf); rfl; rfl; conv => whnf))
  exact ret_bool rfl (by rw [← idxF_any])
end Go.Proofs.YtcmihlbihppflaaGreat

