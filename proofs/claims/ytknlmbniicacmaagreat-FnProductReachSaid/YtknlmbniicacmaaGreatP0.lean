/- A part of the proofs over this program: Tab, T3, T200, T4, T5, T6, T7, T8, T9, T10, T11, T12, T13, T15, T16, T17, T18, T19, T20. -/
import Derived.Test.YtknlmbniicacmaaGreatG0
import Derived.Test.YtknlmbniicacmaaGreatG1
import Derived.Test.YtknlmbniicacmaaGreatG2
import Derived.Test.YtknlmbniicacmaaGreatG3
import Derived.Test.YtknlmbniicacmaaGreatProg
import Derived.KernelRfl
set_option linter.all false
namespace Go.Proofs.YtknlmbniicacmaaGreat
open Go.Gl
def tabL:List (Nat×TyI):=[
  (3,⟨.int .i64,1,8,.int .i64 0⟩),
  (28,⟨.slice 3,1,24,.slice none 0 0⟩),
  (99, ⟨.struct #[{ name := "Kind", type := 3, offset := 0, embedded := false, tag := "", pkgPath := "", byteOffset := 0 }, { name := "Atom", type := 3, offset := 1, embedded := false, tag := "", pkgPath := "", byteOffset := 8 }, { name := "Kids", type := 97, offset := 2, embedded := false, tag := "", pkgPath := "", byteOffset := 16 }], 3, 40, .agg #[.int .i64 0, .int .i64 0, .slice none 0 0]⟩),
  (26, ⟨.struct #[{ name := "States", type := 23, offset := 0, embedded := false, tag := "", pkgPath := "", byteOffset := 0 }, { name := "Next", type := 24, offset := 1, embedded := false, tag := "", pkgPath := "", byteOffset := 24 }], 2, 48, .agg #[.slice none 0 0, .slice none 0 0]⟩),
  (32, ⟨.struct #[{ name := "Initial", type := 28, offset := 0, embedded := false, tag := "", pkgPath := "", byteOffset := 0 }, { name := "Accepting", type := 29, offset := 1, embedded := false, tag := "", pkgPath := "", byteOffset := 24 }, { name := "Edges", type := 30, offset := 2, embedded := false, tag := "", pkgPath := "", byteOffset := 48 }], 3, 72, .agg #[.slice none 0 0, .slice none 0 0, .slice none 0 0]⟩),
  (97,⟨.slice 99,1,24,.slice none 0 0⟩),
  (24,⟨.slice 28,1,24,.slice none 0 0⟩),
  (159, ⟨.struct #[{ name := "Kind", type := 3, offset := 0, embedded := false, tag := "", pkgPath := "", byteOffset := 0 }, { name := "Value", type := 3, offset := 1, embedded := false, tag := "", pkgPath := "", byteOffset := 8 }, { name := "Kids", type := 27, offset := 2, embedded := false, tag := "", pkgPath := "", byteOffset := 16 }], 3, 40, .agg #[.int .i64 0, .int .i64 0, .slice none 0 0]⟩),
  (34, ⟨.struct #[{ name := "Ranks", type := 28, offset := 0, embedded := false, tag := "", pkgPath := "", byteOffset := 0 }], 1, 24, .agg #[.slice none 0 0]⟩),
  (29,⟨.slice 4,1,24,.slice none 0 0⟩),
  (41, ⟨.struct #[{ name := "Stem", type := 28, offset := 0, embedded := false, tag := "", pkgPath := "", byteOffset := 0 }, { name := "Loop", type := 28, offset := 1, embedded := false, tag := "", pkgPath := "", byteOffset := 24 }], 2, 48, .agg #[.slice none 0 0, .slice none 0 0]⟩),
  (23,⟨.slice 137,1,24,.slice none 0 0⟩),
  (30,⟨.slice 191,1,24,.slice none 0 0⟩),
  (4,⟨.bool,1,1,.bool false⟩),
  (137, ⟨.struct #[{ name := "Locs", type := 28, offset := 0, embedded := false, tag := "", pkgPath := "", byteOffset := 0 }, { name := "Vals", type := 28, offset := 1, embedded := false, tag := "", pkgPath := "", byteOffset := 24 }], 2, 48, .agg #[.slice none 0 0, .slice none 0 0]⟩),
  (27,⟨.slice 159,1,24,.slice none 0 0⟩),
  (191, ⟨.struct #[{ name := "From", type := 3, offset := 0, embedded := false, tag := "", pkgPath := "", byteOffset := 0 }, { name := "Care", type := 3, offset := 1, embedded := false, tag := "", pkgPath := "", byteOffset := 8 }, { name := "Value", type := 3, offset := 2, embedded := false, tag := "", pkgPath := "", byteOffset := 16 }, { name := "To", type := 3, offset := 3, embedded := false, tag := "", pkgPath := "", byteOffset := 24 }], 4, 32, .agg #[.int .i64 0, .int .i64 0, .int .i64 0, .int .i64 0]⟩),
  (53, ⟨.struct #[{ name := "Stem", type := 28, offset := 0, embedded := false, tag := "", pkgPath := "", byteOffset := 0 }, { name := "Loop", type := 28, offset := 1, embedded := false, tag := "", pkgPath := "", byteOffset := 24 }], 2, 48, .agg #[.slice none 0 0, .slice none 0 0]⟩),
  (246, ⟨.struct #[{ name := "From", type := 3, offset := 0, embedded := false, tag := "", pkgPath := "", byteOffset := 0 }, { name := "To", type := 3, offset := 1, embedded := false, tag := "", pkgPath := "", byteOffset := 8 }, { name := "Guard", type := 159, offset := 2, embedded := false, tag := "", pkgPath := "", byteOffset := 16 }, { name := "Var", type := 3, offset := 5, embedded := false, tag := "", pkgPath := "", byteOffset := 56 }, { name := "Value", type := 159, offset := 6, embedded := false, tag := "", pkgPath := "", byteOffset := 64 }, { name := "Sync", type := 3, offset := 9, embedded := false, tag := "", pkgPath := "", byteOffset := 104 }], 10, 112, .agg #[.int .i64 0, .int .i64 0, .int .i64 0, .int .i64 0, .slice none 0 0, .int .i64 0, .int .i64 0, .int .i64 0, .slice none 0 0, .int .i64 0]⟩),
  (22,⟨.slice 5,1,24,.slice none 0 0⟩),
  (196,⟨.slice 244,1,24,.slice none 0 0⟩),
  (198, ⟨.struct #[{ name := "Init", type := 28, offset := 0, embedded := false, tag := "", pkgPath := "", byteOffset := 0 }, { name := "Processes", type := 196, offset := 1, embedded := false, tag := "", pkgPath := "", byteOffset := 24 }], 2, 48, .agg #[.slice none 0 0, .slice none 0 0]⟩),
  (242,⟨.slice 246,1,24,.slice none 0 0⟩),
  (67, ⟨.struct #[{ name := "States", type := 65, offset := 0, embedded := false, tag := "", pkgPath := "", byteOffset := 0 }, { name := "Next", type := 24, offset := 1, embedded := false, tag := "", pkgPath := "", byteOffset := 24 }], 2, 48, .agg #[.slice none 0 0, .slice none 0 0]⟩),
  (244, ⟨.struct #[{ name := "Locations", type := 3, offset := 0, embedded := false, tag := "", pkgPath := "", byteOffset := 0 }, { name := "Edges", type := 242, offset := 1, embedded := false, tag := "", pkgPath := "", byteOffset := 8 }], 2, 32, .agg #[.int .i64 0, .slice none 0 0]⟩),
  (272,⟨.slice 275,1,24,.slice none 0 0⟩),
  (329,⟨.int .u64,1,8,.int .u64 0⟩),
  (275, ⟨.struct #[{ name := "set", type := 3, offset := 0, embedded := false, tag := "", pkgPath := "loop.example/ltlcheck/impl", byteOffset := 0 }, { name := "phase", type := 3, offset := 1, embedded := false, tag := "", pkgPath := "loop.example/ltlcheck/impl", byteOffset := 8 }], 2, 16, .agg #[.int .i64 0, .int .i64 0]⟩),
  (71, ⟨.struct #[{ name := "Initial", type := 28, offset := 0, embedded := false, tag := "", pkgPath := "", byteOffset := 0 }, { name := "Accepting", type := 29, offset := 1, embedded := false, tag := "", pkgPath := "", byteOffset := 24 }, { name := "Edges", type := 69, offset := 2, embedded := false, tag := "", pkgPath := "", byteOffset := 48 }], 3, 72, .agg #[.slice none 0 0, .slice none 0 0, .slice none 0 0]⟩),
  (92, ⟨.struct #[{ name := "Kind", type := 3, offset := 0, embedded := false, tag := "", pkgPath := "", byteOffset := 0 }, { name := "Atom", type := 3, offset := 1, embedded := false, tag := "", pkgPath := "", byteOffset := 8 }, { name := "Kids", type := 90, offset := 2, embedded := false, tag := "", pkgPath := "", byteOffset := 16 }], 3, 40, .agg #[.int .i64 0, .int .i64 0, .slice none 0 0]⟩),
  (5,⟨.int .u8,1,1,.int .u8 0⟩),
  (236,⟨.slice 240,1,24,.slice none 0 0⟩),
  (186, ⟨.struct #[{ name := "b", type := 22, offset := 0, embedded := false, tag := "", pkgPath := "loop.example/ltlcheck/spec", byteOffset := 0 }, { name := "p", type := 3, offset := 1, embedded := false, tag := "", pkgPath := "loop.example/ltlcheck/spec", byteOffset := 24 }], 2, 32, .agg #[.slice none 0 0, .int .i64 0]⟩),
  (257,⟨.int .u64,1,8,.int .u64 0⟩),
  (271, ⟨.struct #[{ name := "basics", type := 97, offset := 0, embedded := false, tag := "", pkgPath := "loop.example/ltlcheck/impl", byteOffset := 0 }, { name := "untils", type := 28, offset := 1, embedded := false, tag := "", pkgPath := "loop.example/ltlcheck/impl", byteOffset := 24 }], 2, 48, .agg #[.slice none 0 0, .slice none 0 0]⟩),
  (240, ⟨.struct #[{ name := "Process", type := 3, offset := 0, embedded := false, tag := "", pkgPath := "", byteOffset := 0 }, { name := "Edge", type := 3, offset := 1, embedded := false, tag := "", pkgPath := "", byteOffset := 8 }, { name := "Partner", type := 3, offset := 2, embedded := false, tag := "", pkgPath := "", byteOffset := 16 }, { name := "PartnerEdge", type := 3, offset := 3, embedded := false, tag := "", pkgPath := "", byteOffset := 24 }], 4, 32, .agg #[.int .i64 0, .int .i64 0, .int .i64 0, .int .i64 0]⟩),
  (65,⟨.slice 210,1,24,.slice none 0 0⟩),
  (68,⟨.slice 153,1,24,.slice none 0 0⟩),
  (90,⟨.slice 92,1,24,.slice none 0 0⟩),
  (269,⟨.pointer 271,1,8,.pointer none⟩),
  (303,⟨.map 275 3,1,8,.map none⟩),
  (307, ⟨.struct #[{ name := "care", type := 3, offset := 0, embedded := false, tag := "", pkgPath := "loop.example/ltlcheck/impl", byteOffset := 0 }, { name := "value", type := 3, offset := 1, embedded := false, tag := "", pkgPath := "loop.example/ltlcheck/impl", byteOffset := 8 }, { name := "to", type := 275, offset := 2, embedded := false, tag := "", pkgPath := "loop.example/ltlcheck/impl", byteOffset := 16 }], 4, 32, .agg #[.int .i64 0, .int .i64 0, .int .i64 0, .int .i64 0]⟩),
  (321,⟨.int .u64,1,8,.int .u64 0⟩),
  (93, ⟨.struct #[{ name := "Ranks", type := 28, offset := 0, embedded := false, tag := "", pkgPath := "", byteOffset := 0 }], 1, 24, .agg #[.slice none 0 0]⟩),
  (153, ⟨.struct #[{ name := "Kind", type := 3, offset := 0, embedded := false, tag := "", pkgPath := "", byteOffset := 0 }, { name := "Value", type := 3, offset := 1, embedded := false, tag := "", pkgPath := "", byteOffset := 8 }, { name := "Kids", type := 68, offset := 2, embedded := false, tag := "", pkgPath := "", byteOffset := 16 }], 3, 40, .agg #[.int .i64 0, .int .i64 0, .slice none 0 0]⟩),
  (69,⟨.slice 216,1,24,.slice none 0 0⟩),
  (210, ⟨.struct #[{ name := "Locs", type := 28, offset := 0, embedded := false, tag := "", pkgPath := "", byteOffset := 0 }, { name := "Vals", type := 28, offset := 1, embedded := false, tag := "", pkgPath := "", byteOffset := 24 }], 2, 48, .agg #[.slice none 0 0, .slice none 0 0]⟩),
  (291,⟨.pointer 3,1,8,.pointer none⟩),
  (319,⟨.int .u32,1,4,.int .u32 0⟩),
  (216, ⟨.struct #[{ name := "From", type := 3, offset := 0, embedded := false, tag := "", pkgPath := "", byteOffset := 0 }, { name := "Care", type := 3, offset := 1, embedded := false, tag := "", pkgPath := "", byteOffset := 8 }, { name := "Value", type := 3, offset := 2, embedded := false, tag := "", pkgPath := "", byteOffset := 16 }, { name := "To", type := 3, offset := 3, embedded := false, tag := "", pkgPath := "", byteOffset := 24 }], 4, 32, .agg #[.int .i64 0, .int .i64 0, .int .i64 0, .int .i64 0]⟩),
  (295,⟨.map 3 3,1,8,.map none⟩),
  (305,⟨.slice 307,1,24,.slice none 0 0⟩),
  (189,⟨.slice 30,1,24,.slice none 0 0⟩),
  (207,⟨.func #[3] #[] false,1,8,.nilFunc⟩),
  (335,⟨.func #[99] #[] false,1,8,.nilFunc⟩),
  (312,⟨.int .i64,1,8,.int .i64 0⟩),
  (9,⟨.string,1,16,.string ⟨#[]⟩⟩)]
def tab:Tab:=z656 tabL
theorem inf3:(Tryz.prog.info? 3).map (fun j=>(j.zero,j.size,j.bytes))=some (some (.int .i64 0),1,8):=by kernel_rfl
theorem inf28:(Tryz.prog.info? 28).map (fun j=>(j.zero,j.size,j.bytes))=some (some (.slice none 0 0),1,24):=by kernel_rfl
theorem inf99:(Tryz.prog.info? 99).map (fun j=>(j.zero,j.size,j.bytes))=some (some (.agg #[.int .i64 0,.int .i64 0,.slice none 0 0]),3,40):=by kernel_rfl
theorem inf26:(Tryz.prog.info? 26).map (fun j=>(j.zero,j.size,j.bytes))=some (some (.agg #[.slice none 0 0,.slice none 0 0]),2,48):=by kernel_rfl
theorem inf32:(Tryz.prog.info? 32).map (fun j=>(j.zero,j.size,j.bytes))=some (some (.agg #[.slice none 0 0,.slice none 0 0,.slice none 0 0]),3,72):=by kernel_rfl
theorem inf97:(Tryz.prog.info? 97).map (fun j=>(j.zero,j.size,j.bytes))=some (some (.slice none 0 0),1,24):=by kernel_rfl
theorem inf24:(Tryz.prog.info? 24).map (fun j=>(j.zero,j.size,j.bytes))=some (some (.slice none 0 0),1,24):=by kernel_rfl
theorem inf159:(Tryz.prog.info? 159).map (fun j=>(j.zero,j.size,j.bytes))=some (some (.agg #[.int .i64 0,.int .i64 0,.slice none 0 0]),3,40):=by kernel_rfl
theorem inf34:(Tryz.prog.info? 34).map (fun j=>(j.zero,j.size,j.bytes))=some (some (.agg #[.slice none 0 0]),1,24):=by kernel_rfl
theorem inf29:(Tryz.prog.info? 29).map (fun j=>(j.zero,j.size,j.bytes))=some (some (.slice none 0 0),1,24):=by kernel_rfl
theorem inf41:(Tryz.prog.info? 41).map (fun j=>(j.zero,j.size,j.bytes))=some (some (.agg #[.slice none 0 0,.slice none 0 0]),2,48):=by kernel_rfl
theorem inf23:(Tryz.prog.info? 23).map (fun j=>(j.zero,j.size,j.bytes))=some (some (.slice none 0 0),1,24):=by kernel_rfl
theorem inf30:(Tryz.prog.info? 30).map (fun j=>(j.zero,j.size,j.bytes))=some (some (.slice none 0 0),1,24):=by kernel_rfl
theorem inf4:(Tryz.prog.info? 4).map (fun j=>(j.zero,j.size,j.bytes))=some (some (.bool false),1,1):=by kernel_rfl
theorem inf137:(Tryz.prog.info? 137).map (fun j=>(j.zero,j.size,j.bytes))=some (some (.agg #[.slice none 0 0,.slice none 0 0]),2,48):=by kernel_rfl
theorem inf27:(Tryz.prog.info? 27).map (fun j=>(j.zero,j.size,j.bytes))=some (some (.slice none 0 0),1,24):=by kernel_rfl
theorem inf191:(Tryz.prog.info? 191).map (fun j=>(j.zero,j.size,j.bytes))=some (some (.agg #[.int .i64 0,.int .i64 0,.int .i64 0,.int .i64 0]),4,32):=by kernel_rfl
theorem inf53:(Tryz.prog.info? 53).map (fun j=>(j.zero,j.size,j.bytes))=some (some (.agg #[.slice none 0 0,.slice none 0 0]),2,48):=by kernel_rfl
theorem inf246:(Tryz.prog.info? 246).map (fun j=>(j.zero,j.size,j.bytes))=some (some (.agg #[.int .i64 0,.int .i64 0,.int .i64 0,.int .i64 0,.slice none 0 0,.int .i64 0,.int .i64 0,.int .i64 0,.slice none 0 0,.int .i64 0]),10,112):=by kernel_rfl
theorem inf22:(Tryz.prog.info? 22).map (fun j=>(j.zero,j.size,j.bytes))=some (some (.slice none 0 0),1,24):=by kernel_rfl
theorem inf196:(Tryz.prog.info? 196).map (fun j=>(j.zero,j.size,j.bytes))=some (some (.slice none 0 0),1,24):=by kernel_rfl
theorem inf198:(Tryz.prog.info? 198).map (fun j=>(j.zero,j.size,j.bytes))=some (some (.agg #[.slice none 0 0,.slice none 0 0]),2,48):=by kernel_rfl
theorem inf242:(Tryz.prog.info? 242).map (fun j=>(j.zero,j.size,j.bytes))=some (some (.slice none 0 0),1,24):=by kernel_rfl
theorem inf67:(Tryz.prog.info? 67).map (fun j=>(j.zero,j.size,j.bytes))=some (some (.agg #[.slice none 0 0,.slice none 0 0]),2,48):=by kernel_rfl
theorem inf244:(Tryz.prog.info? 244).map (fun j=>(j.zero,j.size,j.bytes))=some (some (.agg #[.int .i64 0,.slice none 0 0]),2,32):=by kernel_rfl
theorem inf272:(Tryz.prog.info? 272).map (fun j=>(j.zero,j.size,j.bytes))=some (some (.slice none 0 0),1,24):=by kernel_rfl
theorem inf329:(Tryz.prog.info? 329).map (fun j=>(j.zero,j.size,j.bytes))=some (some (.int .u64 0),1,8):=by kernel_rfl
theorem inf275:(Tryz.prog.info? 275).map (fun j=>(j.zero,j.size,j.bytes))=some (some (.agg #[.int .i64 0,.int .i64 0]),2,16):=by kernel_rfl
theorem inf71:(Tryz.prog.info? 71).map (fun j=>(j.zero,j.size,j.bytes))=some (some (.agg #[.slice none 0 0,.slice none 0 0,.slice none 0 0]),3,72):=by kernel_rfl
theorem inf92:(Tryz.prog.info? 92).map (fun j=>(j.zero,j.size,j.bytes))=some (some (.agg #[.int .i64 0,.int .i64 0,.slice none 0 0]),3,40):=by kernel_rfl
theorem inf5:(Tryz.prog.info? 5).map (fun j=>(j.zero,j.size,j.bytes))=some (some (.int .u8 0),1,1):=by kernel_rfl
theorem inf236:(Tryz.prog.info? 236).map (fun j=>(j.zero,j.size,j.bytes))=some (some (.slice none 0 0),1,24):=by kernel_rfl
theorem inf186:(Tryz.prog.info? 186).map (fun j=>(j.zero,j.size,j.bytes))=some (some (.agg #[.slice none 0 0,.int .i64 0]),2,32):=by kernel_rfl
theorem inf257:(Tryz.prog.info? 257).map (fun j=>(j.zero,j.size,j.bytes))=some (some (.int .u64 0),1,8):=by kernel_rfl
theorem inf271:(Tryz.prog.info? 271).map (fun j=>(j.zero,j.size,j.bytes))=some (some (.agg #[.slice none 0 0,.slice none 0 0]),2,48):=by kernel_rfl
theorem inf240:(Tryz.prog.info? 240).map (fun j=>(j.zero,j.size,j.bytes))=some (some (.agg #[.int .i64 0,.int .i64 0,.int .i64 0,.int .i64 0]),4,32):=by kernel_rfl
theorem inf65:(Tryz.prog.info? 65).map (fun j=>(j.zero,j.size,j.bytes))=some (some (.slice none 0 0),1,24):=by kernel_rfl
theorem inf68:(Tryz.prog.info? 68).map (fun j=>(j.zero,j.size,j.bytes))=some (some (.slice none 0 0),1,24):=by kernel_rfl
theorem inf90:(Tryz.prog.info? 90).map (fun j=>(j.zero,j.size,j.bytes))=some (some (.slice none 0 0),1,24):=by kernel_rfl
theorem inf269:(Tryz.prog.info? 269).map (fun j=>(j.zero,j.size,j.bytes))=some (some (.pointer none),1,8):=by kernel_rfl
theorem inf303:(Tryz.prog.info? 303).map (fun j=>(j.zero,j.size,j.bytes))=some (some (.map none),1,8):=by kernel_rfl
theorem inf307:(Tryz.prog.info? 307).map (fun j=>(j.zero,j.size,j.bytes))=some (some (.agg #[.int .i64 0,.int .i64 0,.int .i64 0,.int .i64 0]),4,32):=by kernel_rfl
theorem inf321:(Tryz.prog.info? 321).map (fun j=>(j.zero,j.size,j.bytes))=some (some (.int .u64 0),1,8):=by kernel_rfl
theorem inf93:(Tryz.prog.info? 93).map (fun j=>(j.zero,j.size,j.bytes))=some (some (.agg #[.slice none 0 0]),1,24):=by kernel_rfl
theorem inf153:(Tryz.prog.info? 153).map (fun j=>(j.zero,j.size,j.bytes))=some (some (.agg #[.int .i64 0,.int .i64 0,.slice none 0 0]),3,40):=by kernel_rfl
theorem inf69:(Tryz.prog.info? 69).map (fun j=>(j.zero,j.size,j.bytes))=some (some (.slice none 0 0),1,24):=by kernel_rfl
theorem inf210:(Tryz.prog.info? 210).map (fun j=>(j.zero,j.size,j.bytes))=some (some (.agg #[.slice none 0 0,.slice none 0 0]),2,48):=by kernel_rfl
theorem inf291:(Tryz.prog.info? 291).map (fun j=>(j.zero,j.size,j.bytes))=some (some (.pointer none),1,8):=by kernel_rfl
theorem inf319:(Tryz.prog.info? 319).map (fun j=>(j.zero,j.size,j.bytes))=some (some (.int .u32 0),1,4):=by kernel_rfl
theorem inf216:(Tryz.prog.info? 216).map (fun j=>(j.zero,j.size,j.bytes))=some (some (.agg #[.int .i64 0,.int .i64 0,.int .i64 0,.int .i64 0]),4,32):=by kernel_rfl
theorem inf295:(Tryz.prog.info? 295).map (fun j=>(j.zero,j.size,j.bytes))=some (some (.map none),1,8):=by kernel_rfl
theorem inf305:(Tryz.prog.info? 305).map (fun j=>(j.zero,j.size,j.bytes))=some (some (.slice none 0 0),1,24):=by kernel_rfl
theorem inf189:(Tryz.prog.info? 189).map (fun j=>(j.zero,j.size,j.bytes))=some (some (.slice none 0 0),1,24):=by kernel_rfl
theorem inf207:(Tryz.prog.info? 207).map (fun j=>(j.zero,j.size,j.bytes))=some (some (.nilFunc),1,8):=by kernel_rfl
theorem inf335:(Tryz.prog.info? 335).map (fun j=>(j.zero,j.size,j.bytes))=some (some (.nilFunc),1,8):=by kernel_rfl
theorem inf312:(Tryz.prog.info? 312).map (fun j=>(j.zero,j.size,j.bytes))=some (some (.int .i64 0),1,8):=by kernel_rfl
theorem inf9:(Tryz.prog.info? 9).map (fun j=>(j.zero,j.size,j.bytes))=some (some (.string ⟨#[]⟩),1,16):=by kernel_rfl
theorem z18:z113 Tryz.prog tab:=tabOk_of (⟨z49 Tryz.underlying3 inf3,⟨z49 Tryz.underlying28 inf28,⟨z49 Tryz.underlying99 inf99,⟨z49 Tryz.underlying26 inf26,⟨z49 Tryz.underlying32 inf32,⟨z49 Tryz.underlying97 inf97,⟨z49 Tryz.underlying24 inf24,⟨z49 Tryz.underlying159 inf159,⟨z49 Tryz.underlying34 inf34,⟨z49 Tryz.underlying29 inf29,⟨z49 Tryz.underlying41 inf41,⟨z49 Tryz.underlying23 inf23,⟨z49 Tryz.underlying30 inf30,⟨z49 Tryz.underlying4 inf4,⟨z49 Tryz.underlying137 inf137,⟨z49 Tryz.underlying27 inf27,⟨z49 Tryz.underlying191 inf191,⟨z49 Tryz.underlying53 inf53,⟨z49 Tryz.underlying246 inf246,⟨z49 Tryz.underlying22 inf22,⟨z49 Tryz.underlying196 inf196,⟨z49 Tryz.underlying198 inf198,⟨z49 Tryz.underlying242 inf242,⟨z49 Tryz.underlying67 inf67,⟨z49 Tryz.underlying244 inf244,⟨z49 Tryz.underlying272 inf272,⟨z49 Tryz.underlying329 inf329,⟨z49 Tryz.underlying275 inf275,⟨z49 Tryz.underlying71 inf71,⟨z49 Tryz.underlying92 inf92,⟨z49 Tryz.underlying5 inf5,⟨z49 Tryz.underlying236 inf236,⟨z49 Tryz.underlying186 inf186,⟨z49 Tryz.underlying257 inf257,⟨z49 Tryz.underlying271 inf271,⟨z49 Tryz.underlying240 inf240,⟨z49 Tryz.underlying65 inf65,⟨z49 Tryz.underlying68 inf68,⟨z49 Tryz.underlying90 inf90,⟨z49 Tryz.underlying269 inf269,⟨z49 Tryz.underlying303 inf303,⟨z49 Tryz.underlying307 inf307,⟨z49 Tryz.underlying321 inf321,⟨z49 Tryz.underlying93 inf93,⟨z49 Tryz.underlying153 inf153,⟨z49 Tryz.underlying69 inf69,⟨z49 Tryz.underlying210 inf210,⟨z49 Tryz.underlying291 inf291,⟨z49 Tryz.underlying319 inf319,⟨z49 Tryz.underlying216 inf216,⟨z49 Tryz.underlying295 inf295,⟨z49 Tryz.underlying305 inf305,⟨z49 Tryz.underlying189 inf189,⟨z49 Tryz.underlying207 inf207,⟨z49 Tryz.underlying335 inf335,⟨z49 Tryz.underlying312 inf312,⟨z49 Tryz.underlying9 inf9,trivial⟩⟩⟩⟩⟩⟩⟩⟩⟩⟩⟩⟩⟩⟩⟩⟩⟩⟩⟩⟩⟩⟩⟩⟩⟩⟩⟩⟩⟩⟩⟩⟩⟩⟩⟩⟩⟩⟩⟩⟩⟩⟩⟩⟩⟩⟩⟩⟩⟩⟩⟩⟩⟩⟩⟩⟩⟩)
end Go.Proofs.YtknlmbniicacmaaGreat

namespace Go.Proofs.YtknlmbniicacmaaGreat
open Go.Gl
attribute [local irreducible] z31
def enI (n:Int):List AC:=[.int n]
def ints (l:List Int):AC:=.list 1 l.length (l.map enI)
theorem ok:Ok Tryz.prog tab:=⟨z18,by kernel_rfl⟩
structure State where
  a:List Int
  b:List Int
  deriving DecidableEq
def State.cs (s:State):List AC:=[ints s.a,ints s.b]
def State.mx (s:State):Prop:=s.a.length≤maxLen∧s.b.length≤maxLen
def State.sz (s:State):Nat:=s.a.length+s.b.length
def lst {α:Type} (w:Nat) (e:α→List AC) (l:List α):AC:=.list w l.length (l.map e)
def tot {α:Type} (f:α→Nat) (l:List α):Nat:=l.length+(l.map f).sum
theorem z749 {α:Type} (f:α→Nat) (l:List α) (k:Nat):((l.take k).map f).sum≤(l.map f).sum:=by
  conv=>rhs;rw [← List.take_append_drop k l,List.map_append,List.sum_append]
  omega
def State.mxs (l:List State):Prop:=l.length≤maxLen∧∀ s∈l,s.mx
def State.small (s:State):Prop:=s.a.length≤1048576∧s.b.length≤1048576
theorem State.unown (s:State):∀ x∈s.cs,x.unown=x:=fun x hx=>by
  simp only [State.cs,List.mem_cons,List.not_mem_nil,or_false] at hx
  rcases hx with rfl|rfl<;>rfl
end Go.Proofs.YtknlmbniicacmaaGreat

namespace Go.Proofs.YtknlmbniicacmaaGreat
open Go.Gl
attribute [local irreducible] z31 AWP z48 z52 z50 RetS z57
theorem back_ok (L:List Int) (hL:L.length≤maxLen):CallsA Tryz.prog 111 [ints L] [] (.fn (.func 186) [] [.ptr 0 none 0]) [.cells 1 [[ints L]]]:=by
  refine z10 z18 Tryz.func111 rfl rfl 4 Tryz.ntmps111 (by simp) ?_
  repeat' (((apply AWP.go ok;rfl))<;>conv=>whnf)
  all_goals (refine RetS.lay [0] [] rfl rfl rfl ?_;refine RetS.done ?_ ?_<;>(repeat' (first|exact LocLe.refl _|exact F2.nil|apply F2.cons|apply ObjLe.box)))
def BackR {α:Type} (M:Nat) (Gc:Ghost) (wc:World) (rest:α→List AObj) (L:List Int) (env:List (Nat×AC)) (x:α) (a:Act) (w:World):Prop :=
  ∃ G,SubM M Gc G∧Le wc w∧Rel G (mkSt 19 env (.cells 1 [[ints L]]::rest x)) a w
def IsSt {α:Type} (rest:α→List AObj) (L:List Int) (x:α) (env' : List (Nat×AC)) (st:St):Prop:=st=mkSt 19 env' (.cells 1 [[ints L]]::rest x)
theorem BackR.step {α : Type} {M : Nat} {Gc : Ghost} {wc : World} {rest : α → List AObj} {L : List Int} {env env' : List (Nat × AC)} {x : α} {a : Act} {w : World} {c : Code}
    (h:BackR M Gc wc rest L env x a w) (hc:AWP Tryz.prog M c (z452 (IsSt rest L x env') (fun _ _=>False)) (mkSt 19 env (.cells 1 [[ints L]]::rest x))) {K:Act→World→Prop} {Q:Exit→Act→World→Prop}
    (hk:∀ a w,BackR M Gc wc rest L env' x a w→K a w):c.wpIn Fence.wide 0 Tryz.prog (Exit.then K Q) a w:=by
  obtain ⟨G,h1,h2,h3⟩:=h
  refine wpIn_mono (hc.at_ h3) ?_
  rintro ex a' w' ⟨G',st',k1,k2,k3,k4⟩
  cases ex with
  | normal =>
    have k3:st'=_:=k3
    subst k3
    exact hk _ _ ⟨G',h1.trans k1,h2.trans k2,k4⟩
  | _=>exact k3.elim
theorem BackR.less {α:Type} {M:Nat} {Gc:Ghost} {wc:World} {rest:α→List AObj} {L:List Int} {env env' : List (Nat×AC)} {x:α} {a:Act} {w:World} (h:BackR M Gc wc rest L env x a w) (he:z499 (fun s y=>z81 env s=y) env'):BackR M Gc wc rest L env' x a w:=by
  obtain ⟨G,h1,h2,h3⟩:=h
  refine ⟨G,h1,h2,h3.wf,fun s=>?_,h3.size,h3.defers⟩
  rcases z241 env' _ he s with e|e
  · show V _ _ _ (z81 env' s) _
    rw [e];simp [V]
  · have:=h3.env s
    show V _ _ _ (z81 env' s) _
    rw [← e];exact this
theorem z641 {F:Fence} {n:Nat} {P:Program} {ops:Array Oper} {Q:Exit→Act→World→Prop} {l:List Oper} {a:Act} {w:World} (h:wpListIn F n P ops Q (l++[]) a w):wpListIn F n P ops Q l a w:=by rwa [List.append_nil] at h
theorem BackR.val {α:Type} {M:Nat} {Gc:Ghost} {wc:World} {rest:α→List AObj} {L:List Int} {env:List (Nat×AC)} {x:α} {a:Act} {w:World} (h:BackR M Gc wc rest L env x a w) {s:Nat} {v:Value} (he:z81 env s=.raw v):a.tmps.getD s undef=v:=by
  obtain ⟨G,_,_,hR⟩:=h
  have:=hR.env s
  rw [show (mkSt 19 env (.cells 1 [[ints L]]::rest x)).env s=z81 env s from rfl,he] at this
  simpa only [V] using this
set_option maxHeartbeats 1600000 in
theorem back1:z871 Tryz.prog 186:=by
  intro α M rest okI L l Gc wc lb x0 hL hlen hy h0 hWc hlbs hlb
  unfold maxLen at hL
  refine callsIn_of_wp_marks (n:=0) Tryz.func186 rfl trivial ?_
  have hvs:(#[Value.func (.yield l) #[] #[]]++lb).size=2:=by simp [hlbs]
  have hinit:BackR M Gc.split wc rest L [(0,.raw (.func (.yield l) #[] #[])),(1,.ptr 0 none 0)] x0 { tmps:=(#[Value.func (.yield l) #[] #[]]++lb)++Array.replicate (19 - (#[Value.func (.yield l) #[] #[]]++lb).size) undef,defers:=[] } wc:=by
    refine ⟨Gc.split,SubM.refl _ _,Le.refl _,hWc.split,fun s=>?_,by show Array.size _=19;simp [hlbs],Marks.nil _⟩
    refine z399 (G:=Gc) (h:=hp wc) (fun _ _ _ _ e=>z374 e) (fun _ _ e=>e) ?_
    refine z1053 (args:=[.raw (.func (.yield l) #[] #[]),.ptr 0 none 0]) hvs ?_ 19 s
    exact z518 (xs:=[.raw (.func (.yield l) #[] #[])]) rfl (by simp [VL,V]) hlb
  refine wpIn_seq (hinit.step (env':=[(3,.int (L.length - 1)),(6,.int (L.length - 1)),(5,.int L.length),(4,ints L),(0,.raw (.func (.yield l) #[] #[])),(1,.ptr 0 none 0)]) ?_ fun a1 w1 hB1=>?_)
  · repeat' ((first|(apply AWP.go ok;rfl)|(apply And.intro;(unfold inI;omega)))<;>conv=>whnf)
    all_goals rfl
  refine wpIn_block (wpIn_loop (fun a w=>∃ k x,k≤L.length∧okI k x∧BackR M Gc.split wc rest L [(3,.int ((k:Int) - 1)),(0,.raw (.func (.yield l) #[] #[])),(1,.ptr 0 none 0)] x a w) (fun a _=>match a.tmps.getD 3 undef with
    | .int _ i=>(i+1).toNat
    | _=>0) ⟨L.length,x0,Nat.le_refl _,h0,hB1.less ⟨rfl,rfl,rfl,trivial⟩⟩ ?_)
  rintro a w ⟨k,x,hk,hok,hB⟩
  have hμ:(match a.tmps.getD 3 undef with
    | .int _ i=>(i+1).toNat
    | _=>0)=k:=by
    rw [hB.val (s:=3) rfl];simp
  rw [hμ]
  refine wpIn_seq (wpIn_seq (hB.step (env':=[(8,.raw (.bool (decide ((0:Int)≤(k:Int) - 1)))),(7,.int ((k:Int) - 1)),(3,.int ((k:Int) - 1)),(0,.raw (.func (.yield l) #[] #[])),(1,.ptr 0 none 0)]) ?_ fun a2 w2 hB2=>?_))
  · repeat' (((apply AWP.go ok;rfl))<;>conv=>whnf)
    all_goals rfl
  have h8:a2.eval (.tmp 8)=.bool (decide ((0:Int)≤(k:Int) - 1)):=hB2.val (s:=8) rfl
  by_cases hk0:k=0
  · subst hk0
    refine wpIn_cond_false (h8.trans (by simp)) (wpIn_exit ?_)
    obtain ⟨G,s1,s2,hR⟩:=hB2
    obtain ⟨Ds,d1,d2,d3,d4,d5,d6⟩:=z482 hWc s1.1 hR
    show LeavesInM Fence.wide 0 _ _ a2.tmps _ a2.defers .returning w2
    rw [d1]
    exact z263 Ds w2 d2 d3 ⟨.tuple #[],by rw [z380,show Tryz.f186.results=#[] from rfl];simp,.tuple #[],Gc.join G Ds,x,rfl,hok,⟨d4,fun o t ho e=>by rw [d5];exact s1.2 o t ho e⟩,s2.trans (z577 Ds w2),d6.wf⟩
  obtain ⟨j,rfl⟩:∃ j,k=j+1:=⟨k - 1,by omega⟩
  refine wpIn_cond_true (h8.trans (by rw [decide_eq_true (by omega)])) (wpIn_skip ?_)
  have hjL:j < L.length:=by omega
  have gL:(L.map enI)[j]?=some (enI L[j]):=by rw [List.getElem?_map,List.getElem?_eq_getElem hjL];rfl
  have hB3:BackR M Gc.split wc rest L [(3,.int (j:Int)),(0,.raw (.func (.yield l) #[] #[])),(1,.ptr 0 none 0)] x a2 w2:=hB2.less ⟨by show AC.int _=_;congr 3;omega,rfl,rfl,trivial⟩
  refine wpIn_seq (wpIn_block (wpIn_seq (wpIn_region_list ?_)))
  rw [← List.take_append_drop 6 (Array.toList _)]
  obtain ⟨G,s1,s2,hR⟩:=hB3
  generalize hz:L[j]=z at gL
  refine z457 (ro:=none) z18 _ _ _ _ (fun env' objs'=>objs'=.cells 1 [[ints L]]::rest x∧z499 (fun s y=>z81 env' s=y) [(16,.int z),(12,.int (j:Int)),(11,.raw (.func (.yield l) #[] #[])),(3,.int (j:Int)),(0,.raw (.func (.yield l) #[] #[])),(1,.ptr 0 none 0)]) (.inl rfl) ?_ M G a2 w2 hR ?_
  · conv=>whnf
    repeat' ((first|(refine z16 (i:=j) rfl gL ?_)|(apply And.intro;omega))<;>conv=>whnf)
    all_goals exact ⟨rfl,rfl,rfl,rfl,rfl,rfl,rfl,trivial⟩
  rintro G1 env1 objs1 a3 w3 t1 t2 ⟨rfl,hE⟩ t4
  have hB4:BackR M Gc.split wc rest L env1 x a3 w3:=⟨G1,s1.trans t1,s2.trans t2,t4⟩
  have hB5:=hB4.less hE
  have v16:a3.eval (.tmp 16)=.int .i64 z:=hB5.val (s:=16) rfl
  have v12:a3.eval (.tmp 12)=.int .i64 (j:Int):=hB5.val (s:=12) rfl
  have v11:a3.eval (.tmp 11)=.func (.yield l) #[] #[]:=hB5.val (s:=11) rfl
  obtain ⟨f,tm,asg,bo,hyr,hyR⟩:=hy j x G1 w3 hjL hok (s1.trans t1) (s2.trans t2) t4.wf
  rw [hz] at hyr
  refine wpListIn_plain rfl fun Kk hKk=>?_
  unfold Oper.wpIn
  refine ⟨fun _ _=>trivial,?_⟩
  have hex : (execOp a3.eval ⟨some 17, .call ⟨.value (.tmp 11), #[.tmp 12, .tmp 16], #[3, 3]⟩, 4, "iter.go:29", #[], none⟩).run Tryz.prog w3 = .ok (.round l f tm asg bo) w3 := by
    show (do let d ← resolve a3.eval ⟨.value (.tmp 11),#[.tmp 12,.tmp 16],#[3,3]⟩ 4;invoke d.target d.args:Sem Next).run Tryz.prog w3=_
    simp only [resolve,v11,Deferred.ofValue,Sem.run_bind,Sem.run_pure,Result.andThen,invoke]
    rw [show (#[]++(#[Operand.tmp 12,.tmp 16].map a3.eval):Array Value)=#[.int .i64 (j:Int),.int .i64 z] by simp [v12,v16]]
    exact hyr
  show Oper.uponIn Fence.wide 0 _ _ _ _ _ ((execOp a3.eval ⟨some 17, .call ⟨.value (.tmp 11), #[.tmp 12, .tmp 16], #[3, 3]⟩, 4, "iter.go:29", #[], none⟩).run Tryz.prog w3)
  rw [hex]
  refine ⟨(fun h=>by cases h),hyR.mono ?_⟩
  rintro e w4 ⟨rfl,G2,y,u1,u2,u3,u4⟩
  refine hKk _ _ ?_
  have hall:=SubM.all_ι (M:=M) t4.wf (Nat.le_of_eq (hlen x)) u2
  have hB6:BackR M Gc.split wc rest L ((17,.raw (.bool true))::[(16,.int z),(12,.int (j:Int)),(11,.raw (.func (.yield l) #[] #[])),(3,.int (j:Int)),(0,.raw (.func (.yield l) #[] #[])),(1,.ptr 0 none 0)]) y (a3.put (some 17) (.bool true)) w4:=by
    refine ⟨G2,(s1.trans t1).trans u2,(s2.trans t2).trans u3,u4,z624 (n:=19) (by decide) t4.size (fun s=>?_) (by simp [V]),by rw [z170];exact t4.size,by rw [z121];exact t4.defers.mono u2.1.S⟩
    rcases z241 _ _ hE s with e|e
    · rw [e];simp [V]
    · rw [← e];exact z109 u2.1.S hall (t4.env s)
  obtain ⟨G3,p1,p2,p3⟩:=hB6
  refine z641 ?_
  refine z457 (ro:=none) z18 _ [] _ _ (fun env' objs'=>objs'=.cells 1 [[ints L]]::rest y∧z499 (fun s y=>z81 env' s=y) [(18,.raw (.bool false)),(3,.int (j:Int)),(0,.raw (.func (.yield l) #[] #[])),(1,.ptr 0 none 0)]) (.inl rfl) ?_ M G3 _ w4 p3 ?_
  · conv=>whnf
    repeat' ((fail)<;>conv=>whnf)
    all_goals exact ⟨rfl,rfl,rfl,rfl,rfl,trivial⟩
  rintro G4 env4 objs4 a5 w5 q1 q2 ⟨rfl,hE4⟩ q4
  have hB7:BackR M Gc.split wc rest L env4 y a5 w5:=⟨G4,p1.trans q1,p2.trans q2,q4⟩
  have hB8:=hB7.less hE4
  have v18:a5.eval (.tmp 18)=.bool false:=hB8.val (s:=18) rfl
  show Code.wpIn Fence.wide 0 _ _ _ a5 w5
  refine wpIn_cond_false v18 (wpIn_skip ?_)
  show Code.wpIn Fence.wide 0 _ _ _ a5 w5
  refine wpIn_mono (hB8.step (env':=[(3,.int ((j:Int) - 1)),(10,.int ((j:Int) - 1)),(9,.int (j:Int)),(18,.raw (.bool false)),(3,.int (j:Int)),(0,.raw (.func (.yield l) #[] #[])),(1,.ptr 0 none 0)]) (K:=fun a w=>BackR M Gc.split wc rest L [(3,.int ((j:Int) - 1)),(10,.int ((j:Int) - 1)),(9,.int (j:Int)),(18,.raw (.bool false)),(3,.int (j:Int)),(0,.raw (.func (.yield l) #[] #[])),(1,.ptr 0 none 0)] y a w) (Q:=fun _ _ _=>False) ?_ fun _ _ h=>h) ?_
  · repeat' ((first|(apply AWP.go ok;rfl)|(apply And.intro;(unfold inI;omega)))<;>conv=>whnf)
    all_goals rfl
  rintro ex a6 w6 hB9
  cases ex with
  | normal =>
    have hB9:BackR M Gc.split wc rest L _ y a6 w6:=hB9
    refine ⟨⟨j,y,by omega,u1,hB9.less ⟨rfl,rfl,rfl,trivial⟩⟩,?_⟩
    show (match a6.tmps.getD 3 undef with
      | .int _ i=>(i+1).toNat
      | _=>0) < j+1
    rw [hB9.val (s:=3) rfl]
    show ((j:Int) - 1+1).toNat < j+1
    omega
  | _=>exact hB9.elim
end Go.Proofs.YtknlmbniicacmaaGreat

namespace Go.Proofs.YtknlmbniicacmaaGreat
open Go.Gl
attribute [local irreducible] z31
end Go.Proofs.YtknlmbniicacmaaGreat

namespace Go.Proofs.YtknlmbniicacmaaGreat
open Go.Gl
attribute [local irreducible] z31
def z51 {α:Type} (e:α→List AC) (a:α):AC:=.agg (e a)
end Go.Proofs.YtknlmbniicacmaaGreat

namespace Go.Proofs.YtknlmbniicacmaaGreat
open Go.Gl
attribute [local irreducible] z31
theorem Tree.unown (t:Tree):∀ x∈Tree.cs' t,x.unown=x:=fun x hx=>by
  simp only [Tree.cs',List.mem_cons,List.not_mem_nil,or_false] at hx
  rcases hx with rfl|rfl|rfl<;>rfl
end Go.Proofs.YtknlmbniicacmaaGreat

namespace Go.Proofs.YtknlmbniicacmaaGreat
open Go.Gl
attribute [local irreducible] z31
def encL (l:List Int):List AC:=[ints l]
end Go.Proofs.YtknlmbniicacmaaGreat

namespace Go.Proofs.YtknlmbniicacmaaGreat
open Go.Gl
attribute [local irreducible] z31
structure Graph where
  st:List State
  nx:List (List Int)
  deriving DecidableEq
def Graph.a1 (g:Graph):AC:=lst 2 State.cs g.st
def Graph.a2 (g:Graph):AC:=lst 1 encL g.nx
def Graph.cs (g:Graph):List AC:=[lst 2 State.cs g.st,lst 1 encL g.nx]
def Graph.s1 (g:Graph):Nat:=tot State.sz g.st
def Graph.s2 (g:Graph):Nat:=tot List.length g.nx
end Go.Proofs.YtknlmbniicacmaaGreat

namespace Go.Proofs.YtknlmbniicacmaaGreat
open Go.Gl
attribute [local irreducible] z31
def enB (b:Bool):List AC:=[.bool b]
structure Trans where
  src:Int
  care:Int
  val:Int
  dst:Int
  deriving DecidableEq
def Trans.cs (t:Trans):List AC:=[.int t.src,.int t.care,.int t.val,.int t.dst]
theorem Trans.unown (t:Trans):∀ x∈t.cs,x.unown=x:=fun x hx=>by
  simp only [Trans.cs,List.mem_cons,List.not_mem_nil,or_false] at hx
  rcases hx with rfl|rfl|rfl|rfl<;>rfl
structure Aut where
  ini:List Int
  acc:List Bool
  ed:List Trans
  deriving DecidableEq
def Aut.a1 (a:Aut):AC:=lst 1 enI a.ini
def Aut.a2 (a:Aut):AC:=lst 1 enB a.acc
def Aut.a3 (a:Aut):AC:=lst 4 Trans.cs a.ed
def Aut.cs (a:Aut):List AC:=[lst 1 enI a.ini,lst 1 enB a.acc,lst 4 Trans.cs a.ed]
def Aut.s1 (a:Aut):Nat:=a.ini.length
def Aut.s2 (a:Aut):Nat:=a.acc.length
def Aut.s3 (a:Aut):Nat:=a.ed.length
structure Cert where
  ranks:List Int
  deriving DecidableEq
def Cert.a1 (a:Cert):AC:=lst 1 enI a.ranks
def Cert.cs (a:Cert):List AC:=[lst 1 enI a.ranks]
def Cert.s1 (a:Cert):Nat:=a.ranks.length
end Go.Proofs.YtknlmbniicacmaaGreat

namespace Go.Proofs.YtknlmbniicacmaaGreat
open Go.Gl
attribute [local irreducible] z31 AWP z48 z52 z50
def btw (n lo hi:Int):Bool:=decide (lo≤n) && decide (n≤hi)
theorem z144 {n lo hi:Int} : btw n lo hi=true↔lo≤n∧n≤hi:=by simp [btw]
theorem z362 {n lo hi:Int} : btw n lo hi=false↔¬(lo≤n∧n≤hi):=by rw [← z144];simp
theorem z389 (n lo hi:Int):CallsA Tryz.prog 78 [.int n,.int lo,.int hi] [] (.bool (btw n lo hi)) []:=by
  refine z17 z18 Tryz.func78 rfl rfl 15 Tryz.ntmps78 (by simp) ?_
  repeat' (first|(apply AWP.go ok;rfl;conv=>whnf)|(apply z7<;>intro _<;>conv=>whnf))
  all_goals (refine z27 rfl ?_;(unfold btw;simp [*];done))
end Go.Proofs.YtknlmbniicacmaaGreat

namespace Go.Proofs.YtknlmbniicacmaaGreat
open Go.Gl
attribute [local irreducible] z31 AWP z48 z52 z50
def idxF {α:Type} (p:α→Bool) (l:List α):Int:=match l.findIdx? p with
  | some i=>i
  | none=>-1
theorem z182 {α:Type} {p:α→Bool} {l:List α} {i:Nat} (hi:i < l.length) (h:p l[i]=true) (hn:∀ j (hj:j < l.length),j < i→p l[j]=false):idxF p l=i:=by
  have:l.findIdx? p=some i:=List.findIdx?_eq_some_iff_getElem.2 ⟨hi,h,fun j hj=>by simp [hn j (by omega) hj]⟩
  simp [idxF,this]
theorem z183 {α:Type} {p:α→Bool} {l:List α} (hn:∀ j (hj:j < l.length),p l[j]=false):idxF p l=-1:=by
  have:l.findIdx? p=none:=List.findIdx?_eq_none_iff.2 fun x hx=>by
    obtain ⟨i,hi,rfl⟩:=List.mem_iff_getElem.1 hx
    exact hn i hi
  simp [idxF,this]
theorem z234 {α:Type} (p:α→Bool) (l:List α):decide (0≤idxF p l)=l.any p:=by
  unfold idxF
  split
  · rename_i i e
    obtain ⟨h,hp,_⟩:=List.findIdx?_eq_some_iff_getElem.1 e
    have:l.any p=true:=List.any_eq_true.2 ⟨_,List.getElem_mem h,hp⟩
    rw [this]
    simp
  · rename_i e
    have:=List.findIdx?_eq_none_iff.1 e
    have:l.any p=false:=List.any_eq_false.2 fun x hx=>by simp [this x hx]
    rw [this]
    simp
theorem z616 (l:List Int) (hl:l.length≤maxLen) (p:Int→Bool) (f:FuncId) (hf:∀ x∈l,CallsA Tryz.prog f [.int x] [] (.bool (p x)) []):CallsA Tryz.prog 159 [lst 1 enI l,.fn (.func f) [] []] [] (.int (idxF p l)) []:=by
  unfold maxLen at hl
  refine z17 z18 Tryz.func159 rfl rfl 19 Tryz.ntmps159 (by simp) ?_
  repeat' ((apply AWP.go ok;rfl;conv=>whnf))
  refine z90 (fun k:Nat=>([(0,lst 1 enI l),(1,.fn (.func f) [] []),(7,.int l.length),(8,.int k)],[])) (fun k=>k≤l.length∧∀ j (hj:j < l.length),j < k→p l[j]=false) (fun k=>l.length - k) 0 (by simp)
    ⟨[],rfl,by decide,rfl,⟨⟨rfl,rfl⟩,⟨rfl,rfl⟩,⟨rfl,rfl⟩,⟨rfl,rfl⟩,trivial⟩,trivial⟩ ?_
  intro k hk
  repeat' (first|(apply AWP.go ok;rfl;conv=>whnf)|(apply And.intro;(first|omega|(unfold inI;omega));conv=>whnf)|(with_reducible apply z11;omega;intro _;conv=>whnf)|(apply z7<;>intro _<;>conv=>whnf)|(apply z92<;>intro _<;>conv=>whnf)|(apply z9 (hf l[k] (List.getElem_mem _));rfl;rfl;conv=>whnf))
  · rename_i h h1
    exact z54 rfl rfl (by rw [z182 (by omega) h1 hk.2];rfl)
  · rename_i h h1
    refine z78 (k+1) [] ⟨by omega,fun j hj hjk=>?_⟩ (by omega) ⟨rfl,by decide,rfl,⟨⟨rfl,rfl⟩,⟨rfl,rfl⟩,⟨rfl,rfl⟩,⟨rfl,rfl⟩,trivial⟩,trivial⟩
    rcases Nat.lt_or_ge j k with h2|h2
    · exact hk.2 j hj h2
    · obtain rfl:j=k:=by omega
      exact h1
  · exact z54 rfl rfl (by rw [z183 fun j hj=>hk.2 j hj (by omega)];rfl)
theorem z249 (l:List Int) (hl:l.length≤maxLen) (p:Int→Bool) (f:FuncId) (hf:∀ x∈l,CallsA Tryz.prog f [.int x] [] (.bool (p x)) []):CallsA Tryz.prog 76 [lst 1 enI l,.fn (.func f) [] []] [] (.bool (l.any p)) []:=by
  refine z17 z18 Tryz.func76 rfl rfl 9 Tryz.ntmps76 (by simp) ?_
  repeat' (first|(apply AWP.go ok;rfl;conv=>whnf)|(apply z9 (z616 l hl p f hf);rfl;rfl;conv=>whnf))
  exact z27 rfl (by rw [← z234])
end Go.Proofs.YtknlmbniicacmaaGreat

namespace Go.Proofs.YtknlmbniicacmaaGreat
open Go.Gl
attribute [local irreducible] z31 AWP z48 z52 z50
theorem z875 (n:Int):CallsA Tryz.prog 213 [.int n] [] (.bool (!btw n 0 3)) []:=by
  refine z17 z18 Tryz.func213 rfl rfl 6 Tryz.ntmps213 (by simp) ?_
  repeat' (first|(apply AWP.go ok;rfl;conv=>whnf)|(apply z9 (z389 n 0 3);rfl;rfl;conv=>whnf))
  exact z27 rfl rfl
def z371 (l:List Int):Bool:=decide ((l.length:Int)=3) && !(l.any fun n=>!btw n 0 3)
theorem z959 (l:List Int) (hl:l.length≤maxLen):CallsA Tryz.prog 154 [ints l] [] (.bool (z371 l)) []:=by
  have hl':=hl
  unfold maxLen at hl'
  have hk:=z249 l hl (fun n=>!btw n 0 3) 213 (fun x _=>z875 x)
  refine z17 z18 Tryz.func154 rfl rfl 11 Tryz.ntmps154 (by simp) ?_
  repeat' (first|(apply AWP.go ok;rfl;conv=>whnf)|(apply z7<;>intro _<;>conv=>whnf)|(apply z9 (hk);rfl;rfl;conv=>whnf))
  all_goals (refine z27 rfl ?_;(unfold z371;simp [*];done))
end Go.Proofs.YtknlmbniicacmaaGreat

namespace Go.Proofs.YtknlmbniicacmaaGreat
open Go.Gl
attribute [local irreducible] z31 z819 z448
theorem z493 (l:List State) (hl:l.length≤maxLen) (p:State→Bool) (f:FuncId) (hf:∀ x∈l,CallsA Tryz.prog f [z51 State.cs x] [] (.bool (p x)) []):CallsA Tryz.prog 212 [lst 2 State.cs l,.fn (.func f) [] []] [] (.int (idxF p l)) []:=by
  unfold maxLen at hl
  refine z17 z18 Tryz.func212 rfl rfl 19 Tryz.ntmps212 (by simp) ?_
  repeat' (((apply AWP.go ok;rfl))<;>conv=>whnf)
  refine z90 (fun k:Nat=>([(0,lst 2 State.cs l),(1,.fn (.func f) [] []),(7,.int l.length),(8,.int k)],[])) (fun k=>k≤l.length∧∀ j (hj:j < l.length),j < k→p l[j]=false) (fun k=>l.length - k) 0 (by simp)
    ⟨[],rfl,by decide,rfl,⟨⟨rfl,rfl⟩,⟨rfl,rfl⟩,⟨rfl,rfl⟩,⟨rfl,rfl⟩,trivial⟩,trivial⟩ ?_
  intro k hk
  repeat' ((first|(apply AWP.go ok;rfl)|(apply And.intro;first|omega|(unfold inI;omega))|(((with_reducible apply z11;omega));intro _)|((first|apply z7|apply z92)<;>intro _)|(apply z9 (hf l[k] (List.getElem_mem _));rfl;rfl))<;>conv=>whnf)
  · rename_i h h1
    exact z54 rfl rfl (by rw [z182 (by omega) h1 hk.2];rfl)
  · rename_i h h1
    refine z78 (k+1) [] ⟨by omega,fun j hj hjk=>?_⟩ (by omega) ⟨rfl,by decide,rfl,⟨⟨rfl,rfl⟩,⟨rfl,rfl⟩,⟨rfl,rfl⟩,⟨rfl,rfl⟩,trivial⟩,trivial⟩
    rcases Nat.lt_or_ge j k with h2|h2
    · exact hk.2 j hj h2
    · obtain rfl:j=k:=by omega
      exact h1
  · exact z54 rfl rfl (by rw [z183 fun j hj=>hk.2 j hj (by omega)];rfl)
theorem z357 (l:List State) (hl:l.length≤maxLen) (p:State→Bool) (f:FuncId) (hf:∀ x∈l,CallsA Tryz.prog f [z51 State.cs x] [] (.bool (p x)) []):CallsA Tryz.prog 152 [lst 2 State.cs l,.fn (.func f) [] []] [] (.bool (l.any p)) []:=by
  refine z17 z18 Tryz.func152 rfl rfl 9 Tryz.ntmps152 (by simp) ?_
  repeat' ((first|(apply AWP.go ok;rfl)|(apply z9 (z493 l hl p f hf);rfl;rfl))<;>conv=>whnf)
  exact z27 rfl (by rw [← z234])
theorem z535 (l:List Tree) (hl:l.length≤maxLen) (p:Tree→Bool) (f:FuncId) (hf:∀ x∈l,CallsA Tryz.prog f [z51 Tree.cs' x] [] (.bool (p x)) []):CallsA Tryz.prog 228 [lst 3 Tree.cs' l,.fn (.func f) [] []] [] (.int (idxF p l)) []:=by
  unfold maxLen at hl
  refine z17 z18 Tryz.func228 rfl rfl 19 Tryz.ntmps228 (by simp) ?_
  repeat' (((apply AWP.go ok;rfl))<;>conv=>whnf)
  refine z90 (fun k:Nat=>([(0,lst 3 Tree.cs' l),(1,.fn (.func f) [] []),(7,.int l.length),(8,.int k)],[])) (fun k=>k≤l.length∧∀ j (hj:j < l.length),j < k→p l[j]=false) (fun k=>l.length - k) 0 (by simp)
    ⟨[],rfl,by decide,rfl,⟨⟨rfl,rfl⟩,⟨rfl,rfl⟩,⟨rfl,rfl⟩,⟨rfl,rfl⟩,trivial⟩,trivial⟩ ?_
  intro k hk
  repeat' ((first|(apply AWP.go ok;rfl)|(apply And.intro;first|omega|(unfold inI;omega))|(((with_reducible apply z11;omega));intro _)|((first|apply z7|apply z92)<;>intro _)|(apply z9 (hf l[k] (List.getElem_mem _));rfl;rfl))<;>conv=>whnf)
  · rename_i h h1
    exact z54 rfl rfl (by rw [z182 (by omega) h1 hk.2];rfl)
  · rename_i h h1
    refine z78 (k+1) [] ⟨by omega,fun j hj hjk=>?_⟩ (by omega) ⟨rfl,by decide,rfl,⟨⟨rfl,rfl⟩,⟨rfl,rfl⟩,⟨rfl,rfl⟩,⟨rfl,rfl⟩,trivial⟩,trivial⟩
    rcases Nat.lt_or_ge j k with h2|h2
    · exact hk.2 j hj h2
    · obtain rfl:j=k:=by omega
      exact h1
  · exact z54 rfl rfl (by rw [z183 fun j hj=>hk.2 j hj (by omega)];rfl)
theorem z395 (l:List Tree) (hl:l.length≤maxLen) (p:Tree→Bool) (f:FuncId) (hf:∀ x∈l,CallsA Tryz.prog f [z51 Tree.cs' x] [] (.bool (p x)) []):CallsA Tryz.prog 177 [lst 3 Tree.cs' l,.fn (.func f) [] []] [] (.bool (l.any p)) []:=by
  refine z17 z18 Tryz.func177 rfl rfl 9 Tryz.ntmps177 (by simp) ?_
  repeat' ((first|(apply AWP.go ok;rfl)|(apply z9 (z535 l hl p f hf);rfl;rfl))<;>conv=>whnf)
  exact z27 rfl (by rw [← z234])
theorem z494 (c:Int) (l:List (List Int)) (hl:l.length≤maxLen) (p:(List Int)→Bool) (f:FuncId) (hf:∀ x∈l,CallsA Tryz.prog f [ints x,.pt [.int c]] [] (.bool (p x)) []):CallsA Tryz.prog 214 [lst 1 encL l,.fn (.func f) [] [.pt [.int c]]] [] (.int (idxF p l)) []:=by
  unfold maxLen at hl
  refine z17 z18 Tryz.func214 rfl rfl 19 Tryz.ntmps214 (by simp) ?_
  repeat' (((apply AWP.go ok;rfl))<;>conv=>whnf)
  refine z90 (fun k:Nat=>([(0,lst 1 encL l),(1,.fn (.func f) [] [.pt [.int c]]),(7,.int l.length),(8,.int k)],[])) (fun k=>k≤l.length∧∀ j (hj:j < l.length),j < k→p l[j]=false) (fun k=>l.length - k) 0 (by simp)
    ⟨[],rfl,by decide,rfl,⟨⟨rfl,rfl⟩,⟨rfl,rfl⟩,⟨rfl,rfl⟩,⟨rfl,rfl⟩,trivial⟩,trivial⟩ ?_
  intro k hk
  repeat' ((first|(apply AWP.go ok;rfl)|(apply And.intro;first|omega|(unfold inI;omega))|(((with_reducible apply z11;omega));intro _)|((first|apply z7|apply z92)<;>intro _)|(apply z9 (hf l[k] (List.getElem_mem _));rfl;rfl))<;>conv=>whnf)
  · rename_i h h1
    exact z54 rfl rfl (by rw [z182 (by omega) h1 hk.2];rfl)
  · rename_i h h1
    refine z78 (k+1) [] ⟨by omega,fun j hj hjk=>?_⟩ (by omega) ⟨rfl,by decide,rfl,⟨⟨rfl,rfl⟩,⟨rfl,rfl⟩,⟨rfl,rfl⟩,⟨rfl,rfl⟩,trivial⟩,trivial⟩
    rcases Nat.lt_or_ge j k with h2|h2
    · exact hk.2 j hj h2
    · obtain rfl:j=k:=by omega
      exact h1
  · exact z54 rfl rfl (by rw [z183 fun j hj=>hk.2 j hj (by omega)];rfl)
theorem z358 (c:Int) (l:List (List Int)) (hl:l.length≤maxLen) (p:(List Int)→Bool) (f:FuncId) (hf:∀ x∈l,CallsA Tryz.prog f [ints x,.pt [.int c]] [] (.bool (p x)) []):CallsA Tryz.prog 155 [lst 1 encL l,.fn (.func f) [] [.pt [.int c]]] [] (.bool (l.any p)) []:=by
  refine z17 z18 Tryz.func155 rfl rfl 9 Tryz.ntmps155 (by simp) ?_
  repeat' ((first|(apply AWP.go ok;rfl)|(apply z9 (z494 c l hl p f hf);rfl;rfl))<;>conv=>whnf)
  exact z27 rfl (by rw [← z234])
end Go.Proofs.YtknlmbniicacmaaGreat

namespace Go.Proofs.YtknlmbniicacmaaGreat
open Go.Gl
attribute [local irreducible] z31 AWP z48 z52 z50
theorem z793 (l:List Int) (hl:l.length≤maxLen) (v:Int):CallsA Tryz.prog 97 [ints l,.int v] [] (.int (idxF (fun x=>decide (v=x)) l)) []:=by
  unfold maxLen at hl
  refine z17 z18 Tryz.func97 rfl rfl 19 Tryz.ntmps97 (by simp) ?_
  repeat' (((apply AWP.go ok;rfl))<;>conv=>whnf)
  refine z90 (fun k:Nat=>([(0,ints l),(1,.int v),(7,.int l.length),(8,.int k)],[])) (fun k=>k≤l.length∧∀ j (hj:j < l.length),j < k→decide (v=l[j])=false) (fun k=>l.length - k) 0 (by simp)
    ⟨[],rfl,by decide,rfl,⟨⟨rfl,rfl⟩,⟨rfl,rfl⟩,⟨rfl,rfl⟩,⟨rfl,rfl⟩,trivial⟩,trivial⟩ ?_
  intro k hk
  repeat' ((first|(apply AWP.go ok;rfl)|(apply And.intro;first|omega|(unfold inI;omega))|(((with_reducible apply z11;omega));intro _)|((apply z7)<;>intro _))<;>conv=>whnf)
  · rename_i h h1
    exact z54 rfl rfl (by rw [z182 (p:=fun x=>decide (v=x)) (by omega) (decide_eq_true h1) hk.2];rfl)
  · rename_i h h1
    refine z78 (k+1) [] ⟨by omega,fun j hj hjk=>?_⟩ (by omega) ⟨rfl,by decide,rfl,⟨⟨rfl,rfl⟩,⟨rfl,rfl⟩,⟨rfl,rfl⟩,⟨rfl,rfl⟩,trivial⟩,trivial⟩
    rcases Nat.lt_or_ge j k with h2|h2
    · exact hk.2 j hj h2
    · obtain rfl:j=k:=by omega
      exact decide_eq_false h1
  · exact z54 rfl rfl (by rw [z183 (p:=fun x=>decide (v=x)) fun j hj=>hk.2 j hj (by omega)];rfl)
theorem z157 (l:List Int) (hl:l.length≤maxLen) (v:Int):CallsA Tryz.prog 98 [ints l,.int v] [] (.bool (decide (v∈l))) []:=by
  refine z17 z18 Tryz.func98 rfl rfl 9 Tryz.ntmps98 (by simp) ?_
  repeat' ((first|(apply AWP.go ok;rfl)|(apply z9 (z793 l hl v);rfl;rfl))<;>conv=>whnf)
  have e:decide (v∈l)=l.any (fun x=>decide (v=x)):=by
    rw [Bool.eq_iff_iff];simp
  exact z27 rfl (by rw [e,← z234])
theorem z280 {α:Type} (w:Nat) (e:α→List AC) (l:List α) (k:Nat) (hk:k≤l.length):AC.list w ((k:Int).toNat - (0:Int).toNat) (((l.map e).drop (0:Int).toNat).take ((k:Int).toNat - (0:Int).toNat))=lst w e (l.take k):=by
  unfold lst
  rw [List.length_take,List.map_take]
  simp only [Int.toNat_natCast,Int.toNat_zero,Nat.sub_zero,List.drop_zero]
  rw [Nat.min_eq_left hk]
def Distinct (l:List Int) (n:Int) (k:Nat):Prop:=∀ i (h:i < l.length),i < k→(0≤l[i]∧l[i]≤n - 1)∧l[i] ∉ l.take i
noncomputable instance {l:List Int} {n:Int} {k:Nat} : Decidable (Distinct l n k):=Classical.propDecidable _
theorem z800 (l:List Int) (hl:l.length≤maxLen) (n:Int) (h0:0≤n) (h1:n≤maxLen):CallsA Tryz.prog 157 [ints l,.int n] [] (.bool (decide (Distinct l n l.length))) []:=by
  have hl':=hl
  unfold maxLen at hl' h1
  refine z17 z18 Tryz.func157 rfl rfl 27 Tryz.ntmps157 (by simp) ?_
  repeat' (((apply AWP.go ok;rfl))<;>conv=>whnf)
  refine z90 (fun k:Nat=>([(0,ints l),(1,.int n),(7,ints l),(8,.int l.length),(9,.int k)],[])) (fun k=>k≤l.length∧Distinct l n k) (fun k=>l.length - k) 0 ⟨by omega,fun i h hi=>by omega⟩
    ⟨[],rfl,by decide,rfl,⟨⟨rfl,rfl⟩,⟨rfl,rfl⟩,⟨rfl,rfl⟩,⟨rfl,rfl⟩,⟨rfl,rfl⟩,trivial⟩,trivial⟩ ?_
  intro k hk
  repeat' ((first|(apply AWP.go ok;rfl)|(apply And.intro;first|omega|(unfold inI;omega))|(((with_reducible apply z11;omega));intro _)|((first|apply z7|apply z82)<;>intro _)|(apply z9 (z389 l[k] 0 (n - 1));rfl;rfl))<;>conv=>whnf)
  · rename_i hb
    refine z27 rfl (decide_eq_false fun hd=>?_)
    have:=(hd k ‹_› ‹_›).1
    rw [z362] at hb
    exact hb this
  · rename_i hb
    apply z9 (z157 (l.take k) (by rw [List.length_take];omega) l[k])
    · show _=[AC.list 1 _ _,_]
      rw [show AC.list 1 (l.take k).length ((l.take k).map enI)=_ from (z280 1 enI l k hk.1).symm]
      rfl
    · rfl
    conv=>whnf
    repeat' ((first|(apply AWP.go ok;rfl)|(apply And.intro;(unfold inI;omega))|((apply z7)<;>intro _))<;>conv=>whnf)
    · rename_i h2
      exact z27 rfl (decide_eq_false fun hd=>(hd k ‹_› ‹_›).2 h2)
    · rename_i h2
      refine z78 (k+1) [] ⟨by omega,fun i hi hik=>?_⟩ (by omega) ⟨rfl,by decide,rfl,⟨⟨rfl,rfl⟩,⟨rfl,rfl⟩,⟨rfl,rfl⟩,⟨rfl,rfl⟩,⟨rfl,rfl⟩,trivial⟩,trivial⟩
      rcases Nat.lt_or_ge i k with h3|h3
      · exact hk.2 i hi h3
      · obtain rfl:i=k:=by omega
        exact ⟨z144.1 hb,h2⟩
  · exact z27 rfl (decide_eq_true fun i h hi=>hk.2 i h (by omega))
end Go.Proofs.YtknlmbniicacmaaGreat

namespace Go.Proofs.YtknlmbniicacmaaGreat
open Go.Gl
attribute [local irreducible] z31 AWP z48 z52 z50
theorem z537 (s:State) (hs:s.mx):CallsA Tryz.prog 153 [z51 State.cs s] [] (.bool (!z371 s.b)) []:=by
  refine z17 z18 Tryz.func153 rfl rfl 7 Tryz.ntmps153 (by simp) ?_
  repeat' (first|(apply AWP.go ok;rfl;conv=>whnf)|(apply z9 (z959 s.b hs.2);rfl;rfl;conv=>whnf))
  exact z27 rfl rfl
noncomputable def z750 (n:Int) (l:List Int):Bool:=!decide ((l.length:Int)=0) && decide (Distinct l n l.length)
theorem z536 (c:Int) (h0:0≤c) (h1:c≤maxLen) (l:List Int) (hl:l.length≤maxLen):CallsA Tryz.prog 156 [ints l,.pt [.int c]] [] (.bool (!z750 c l)) []:=by
  have hl':=hl
  unfold maxLen at hl'
  refine z17 z18 Tryz.func156 rfl rfl 13 Tryz.ntmps156 (by simp) ?_
  repeat' (first|(apply AWP.go ok;rfl;conv=>whnf)|(apply z7<;>intro _<;>conv=>whnf)|(apply z9 (z800 l hl c h0 h1);rfl;rfl;conv=>whnf))
  all_goals (refine z27 rfl ?_;first|(unfold z750;simp [*];done)|(unfold z750;simp_all;done))
end Go.Proofs.YtknlmbniicacmaaGreat

namespace Go.Proofs.YtknlmbniicacmaaGreat
open Go.Gl
attribute [local irreducible] z31 AWP z48 z52 z50
def Graph.mx (g:Graph):Prop:=State.mxs g.st∧g.nx.length≤maxLen∧∀ l∈g.nx,l.length≤maxLen
noncomputable def z411 (g:Graph):Bool:=btw g.st.length 1 60 && (decide ((g.nx.length:Int)=g.st.length) && (!(g.st.any fun s=>!z371 s.b) && !(g.nx.any fun l=>!z750 g.st.length l)))
theorem z618 (g:Graph) (hg:g.mx):CallsA Tryz.prog 66 [.agg g.cs] [] (.bool (z411 g)) []:=by
  obtain ⟨hs,hn,hm⟩:=hg
  have hl1:=hs.1
  unfold maxLen at hl1
  have k1:=z357 g.st hs.1 (fun s=>!z371 s.b) 153 (fun s hx=>z537 s (hs.2 s hx))
  have k2:=z358 (g.st.length:Int) g.nx hn (fun l=>!z750 g.st.length l) 156 (fun l hx=>z536 _ (by omega) (by unfold maxLen;omega) l (hm l hx))
  refine z17 z18 Tryz.func66 rfl rfl 29 Tryz.ntmps66 (by simp) ?_
  repeat' (first|(apply AWP.go ok;rfl;conv=>whnf)|(apply z7<;>intro _<;>conv=>whnf)|(apply z82<;>intro _<;>conv=>whnf)|(apply z92<;>intro _<;>conv=>whnf)|(apply z9 (z389 (g.st.length:Int) 1 60);rfl;rfl;conv=>whnf)|(apply z9 (k1);rfl;rfl;conv=>whnf)|(apply z862 [1] (k2);rfl;rfl;rfl;rfl;conv=>whnf))
  all_goals (refine z27 rfl ?_;(unfold z411;simp [*];done))
end Go.Proofs.YtknlmbniicacmaaGreat

namespace Go.Proofs.YtknlmbniicacmaaGreat
open Go.Gl
attribute [local irreducible] z31 AWP z48 z52 z50
theorem z356 {d : Int} (l : List Tree) (hl : l.length ≤ maxLen) (p : Tree → Int → Bool) (nx : Tree → Int → Int) (okS : Int → Prop) (hok : ∀ x s, okS s → p x s = false → okS (nx x s)) (f : FuncId) (s : Int) (h0 : okS s)
    (hf:∀ x∈l,∀ s,okS s→CallsA Tryz.prog f [z51 Tree.cs' x,.pt [.int d],.ptr 1 none 0] [.cells 1 [[.int s]],.cells 1 [[.ptr 0 none 0]]] (.bool (p x s)) [.cells 1 [[.int (nx x s)]],.cells 1 [[.ptr 0 none 0]]]) :
    CallsA Tryz.prog 228 [lst 3 Tree.cs' l,.fn (.func f) [] [.pt [.int d],.ptr 1 none 0]] [.cells 1 [[.int s]],.cells 1 [[.ptr 0 none 0]]] (.int (idxS p nx l s 0).1) [.cells 1 [[.int (idxS p nx l s 0).2]],.cells 1 [[.ptr 0 none 0]]]:=by
  unfold maxLen at hl
  refine z17 z18 Tryz.func228 rfl rfl 19 Tryz.ntmps228 (by simp) ?_
  repeat' (((apply AWP.go ok;rfl))<;>conv=>whnf)
  refine z90 (fun x:Nat×Int=>([(0,lst 3 Tree.cs' l),(1,.fn (.func f) [] [.pt [.int d],.ptr 1 none 0]),(7,.int l.length),(8,.int x.1)],[.cells 1 [[.int x.2]],.cells 1 [[.ptr 0 none 0]]])) (fun x=>x.1≤l.length∧okS x.2∧idxS p nx l s 0=idxS p nx (l.drop x.1) x.2 x.1) (fun x=>l.length - x.1) (0,s) ⟨by omega,h0,rfl⟩
    ⟨[0,1],rfl,by decide,rfl,⟨⟨rfl,rfl⟩,⟨rfl,rfl⟩,⟨rfl,rfl⟩,⟨rfl,rfl⟩,trivial⟩,⟨z24 rfl rfl,z24 rfl rfl,trivial⟩⟩ ?_
  rintro ⟨k,t⟩ ⟨hk1,hk2,hk3⟩
  dsimp only at hk1 hk2 hk3
  repeat' ((first|(apply AWP.go ok;rfl)|(apply And.intro;first|omega|(unfold inI;omega))|(((with_reducible apply z11;omega));intro _)|((first|apply z7|apply z92)<;>intro _)|(((apply z8 [0,1] [] [] (hf l[k] (List.getElem_mem _) t hk2);rfl;(focus ((repeat' first|exact z4|apply z5)<;>rfl))));rfl;rfl;rfl;rfl;rfl;(focus ((repeat' first|exact z15|apply z14)<;>exact z20 rfl rfl));(exact .inl rfl)))<;>conv=>whnf)
  · rename_i h hkl h1
    rw [List.drop_eq_getElem_cons hkl,idxS,if_pos h1] at hk3
    rw [hk3]
    exact z105 [0,1] (by decide) rfl rfl rfl ⟨z24 rfl rfl,z24 rfl rfl,trivial⟩
  · rename_i h hkl h1
    rw [List.drop_eq_getElem_cons hkl,idxS,if_neg (by rw [h1];simp)] at hk3
    exact z78 (k+1,nx l[k] t) [0,1] ⟨by dsimp only;omega,hok _ _ hk2 h1,hk3⟩ (by dsimp only;omega) ⟨rfl,by decide,rfl,⟨⟨rfl,rfl⟩,⟨rfl,rfl⟩,⟨rfl,rfl⟩,⟨rfl,rfl⟩,trivial⟩,⟨z24 rfl rfl,z24 rfl rfl,trivial⟩⟩
  · rw [List.drop_eq_nil_of_le (by omega),idxS] at hk3
    rw [hk3]
    exact z105 [0,1] (by decide) rfl rfl rfl ⟨z24 rfl rfl,z24 rfl rfl,trivial⟩
theorem z540 {d : Int} (l : List Tree) (hl : l.length ≤ maxLen) (p : Tree → Int → Bool) (nx : Tree → Int → Int) (okS : Int → Prop) (hok : ∀ x s, okS s → p x s = false → okS (nx x s)) (f : FuncId) (s : Int) (h0 : okS s)
    (hf:∀ x∈l,∀ s,okS s→CallsA Tryz.prog f [z51 Tree.cs' x,.pt [.int d],.ptr 1 none 0] [.cells 1 [[.int s]],.cells 1 [[.ptr 0 none 0]]] (.bool (p x s)) [.cells 1 [[.int (nx x s)]],.cells 1 [[.ptr 0 none 0]]]) :
    CallsA Tryz.prog 177 [lst 3 Tree.cs' l,.fn (.func f) [] [.pt [.int d],.ptr 1 none 0]] [.cells 1 [[.int s]],.cells 1 [[.ptr 0 none 0]]] (.bool (decide (0≤(idxS p nx l s 0).1))) [.cells 1 [[.int (idxS p nx l s 0).2]],.cells 1 [[.ptr 0 none 0]]]:=by
  refine z17 z18 Tryz.func177 rfl rfl 9 Tryz.ntmps177 (by simp) ?_
  repeat' ((first|(apply AWP.go ok;rfl)|(((apply z8 [0,1] [] [] (z356 (d:=d) l hl p nx okS hok f s h0 hf);rfl;(focus ((repeat' first|exact z4|apply z5)<;>rfl))));rfl;rfl;rfl;rfl;rfl;(focus ((repeat' first|exact z15|apply z14)<;>exact z20 rfl rfl));(exact .inl rfl)))<;>conv=>whnf)
  exact z105 [0,1] (by decide) rfl rfl rfl ⟨z24 rfl rfl,z24 rfl rfl,trivial⟩
theorem walk_ok (t:Tree):t.mx→∀ d n:Int,0≤d→d≤100→0≤n→n≤15→CallsA Tryz.prog 273 [z51 Tree.cs' t,.int d,.ptr 0 none 0] [.cells 1 [[.int n]]] (.bool (t.walkE d n).2) [.cells 1 [[.int (t.walkE d n).1]]]:=by
  induction t using Tree.ind with|h t ih=>?_
  intro hm d n hd0 hd1 h0 h1
  rw [Tree.mx_iff] at hm
  have hs:=Tree.walkE_spec.1
  have hk:d≤6→n+1≤15→CallsA Tryz.prog 177 [lst 3 Tree.cs' t.kids,.fn (.func 303) [] [.pt [.int d],.ptr 1 none 0]] [.cells 1 [[.int (n+1)]],.cells 1 [[.ptr 0 none 0]]] (.bool (!(Tree.walkEs t.kids (d+1) (n+1)).2)) [.cells 1 [[.int (Tree.walkEs t.kids (d+1) (n+1)).1]],.cells 1 [[.ptr 0 none 0]]]:=by
    intro hd hn
    have h:=z540 (d:=d) t.kids hm.1 (fun x s=>!(x.walkE (d+1) s).2) (fun x s=>(x.walkE (d+1) s).1) (fun s=>0≤s∧s≤15) (fun x s h1 h2=>by
      obtain ⟨a1,a2,a3,a4⟩:=hs x (d+1) s h1.1 h1.2
      have h3:(x.walkE (d+1) s).2=true:=by simpa using h2
      have:=(a1.1 h3).2
      rw [← a2 h3] at this
      exact ⟨by omega,this⟩) 303 (n+1) ⟨by omega,by omega⟩ (fun x hx s h=>by
        have hc:=ih x hx (hm.2 x hx) (d+1) s (by omega) (by omega) h.1 h.2
        refine z17 z18 Tryz.func303 rfl rfl 11 Tryz.ntmps303 (by simp) ?_
        repeat' ((first|(apply AWP.go ok;rfl)|(apply And.intro;(unfold inI;omega))|(((apply z8 [0] [] [] (hc);rfl;(focus ((repeat' first|exact z4|apply z5)<;>rfl))));rfl;rfl;rfl;rfl;rfl;(focus ((repeat' first|exact z15|apply z14)<;>exact z20 rfl rfl));(exact .inl rfl)))<;>conv=>whnf)
        exact z105 [0,1] (by decide) rfl rfl rfl ⟨z24 rfl rfl,z24 rfl rfl,trivial⟩)
    rw [Tree.walkEs_idx (d+1) t.kids (n+1) 0,Bool.not_not]
    exact h
  have hk2:=fun h1 h2=>by
    have:=hk h1 h2
    unfold lst at this
    rw [← Tree.cs_eq] at this
    exact this
  refine z17 z18 Tryz.func273 rfl rfl 55 Tryz.ntmps273 (by simp) ?_
  repeat' ((first|(apply AWP.go ok;rfl)|(apply And.intro;(unfold inI;omega))|((first|apply z7|apply z38|apply z82)<;>intro _)|(apply z9 (z389 _ 1 9);rfl;rfl)|(apply z9 (z389 _ 0 3);rfl;rfl)|(apply z9 (z389 _ 0 2);rfl;rfl)|(apply z9 (z389 _ 0 0);rfl;rfl)|(((apply z8 [0,3] [2] [] (hk2 (by omega) (by omega));rfl;(focus ((repeat' first|exact z4|apply z5)<;>rfl))));rfl;rfl;rfl;rfl;rfl;(focus ((repeat' first|exact z15|apply z14)<;>exact z20 rfl rfl));((refine .inr ⟨rfl,?_⟩;repeat' first|exact True.intro|apply And.intro|exact rfl))))<;>conv=>whnf)
  all_goals first
    | (have e : t.walkE d n = (n + 1, false) := by
        rw [Tree.walkE_eq,if_neg]
        clear hk hk2 hs ih
        rintro ⟨c1,c2,c3,c4,c5⟩
        try simp only [z362,z144] at *
        unfold z385 at c4
        unfold z300 at c5
        grind
       rw [e]
       exact z105 [0] (by decide) rfl rfl rfl ⟨z24 rfl rfl,trivial⟩)
    | (have e : t.walkE d n = Tree.walkEs t.kids (d + 1) (n + 1) := by
        rw [Tree.walkE_eq,if_pos]
        clear hk hk2 hs ih
        try simp only [z362,z144] at *
        unfold z385 z300
        grind
       rw [e]
       refine z105 [0] (by decide) rfl rfl ?_ ⟨z24 rfl rfl,trivial⟩
       show AC.raw (.bool (!!_))=_
       rw [Bool.not_not];rfl)
end Go.Proofs.YtknlmbniicacmaaGreat

namespace Go.Proofs.YtknlmbniicacmaaGreat
open Go.Gl
attribute [local irreducible] z31 AWP z48 z52 z50
theorem Tree.arg_eq (t:Tree):z51 Tree.cs' t=.agg [.int t.kind,.int t.val,lst 3 Tree.cs' t.kids]:=by
  simp only [z51,Tree.cs',lst,Tree.lst_eq]
theorem z710 (t:Tree) (hm:t.mx):CallsA Tryz.prog 229 [z51 Tree.cs' t] [] (.int (if t.exprB then t.count 6 else 0)) []:=by
  have hk:=walk_ok t hm 1 0 (by omega) (by omega) (by omega) (by omega)
  obtain ⟨_,h2,_,_⟩:=Tree.walkE_spec.1 t 1 0 (by omega) (by omega)
  refine z17 z18 Tryz.func229 rfl rfl 8 Tryz.ntmps229 (by simp) ?_
  repeat' ((first|(apply AWP.go ok;rfl)|((apply z82)<;>intro _)|(((apply z8 [1] [] [] (hk);rfl;(focus ((repeat' first|exact z4|apply z5)<;>rfl))));rfl;rfl;rfl;rfl;rfl;(focus ((repeat' first|exact z15|apply z14)<;>exact z20 rfl rfl));(exact .inl rfl)))<;>conv=>whnf)
  · rename_i h
    exact z54 rfl rfl (by rw [if_neg (by unfold Tree.exprB;rw [h];simp)];rfl)
  · rename_i h
    have e:=h2 h
    rw [Int.zero_add] at e
    exact z54 rfl rfl (by rw [if_pos (show t.exprB=true from h),show t.count 6=(t.walkE 1 0).1 from e.symm];rfl)
theorem z709 (t:Tree) (hm:t.mx):CallsA Tryz.prog 179 [z51 Tree.cs' t] [] (.bool t.exprB) []:=by
  refine z17 z18 Tryz.func179 rfl rfl 6 Tryz.ntmps179 (by simp) ?_
  repeat' ((first|(apply AWP.go ok;rfl)|(apply z9 (z710 t hm);rfl;rfl))<;>conv=>whnf)
  refine z27 rfl ?_
  have:=Tree.count_pos.1 t 6
  cases t.exprB
  · simp
  · simp;omega
theorem z484 (t:Tree) (hm:t.mx):CallsA Tryz.prog 178 [z51 Tree.cs' t] [] (.bool (!t.exprB)) []:=by
  refine z17 z18 Tryz.func178 rfl rfl 6 Tryz.ntmps178 (by simp) ?_
  repeat' ((first|(apply AWP.go ok;rfl)|(apply z9 (z709 t hm);rfl;rfl))<;>conv=>whnf)
  exact z27 rfl rfl
def z232 (l:List Tree):Bool:=decide ((l.length:Int)=3) && l.all Tree.exprB
theorem z533 (l:List Tree) (hl:l.length≤maxLen) (hm:∀ t∈l,t.mx):CallsA Tryz.prog 95 [lst 3 Tree.cs' l] [] (.bool (z232 l)) []:=by
  have hk:=z395 l hl (fun t=>!t.exprB) 178 (fun t ht=>z484 t (hm t ht))
  refine z17 z18 Tryz.func95 rfl rfl 11 Tryz.ntmps95 (by simp) ?_
  repeat' ((first|(apply AWP.go ok;rfl)|((apply z7)<;>intro _)|(apply z9 (hk);rfl;rfl))<;>conv=>whnf)
  · refine z27 rfl ?_
    rename_i h
    unfold z232
    rw [decide_eq_true h,List.all_eq_not_any_not];rfl
  · refine z27 rfl ?_
    rename_i h
    unfold z232
    rw [decide_eq_false h];rfl
theorem z555 (k:Int):CallsA Tryz.prog 298 [.int k] [] (.int (z300 k)) []:=by
  refine z17 z18 Tryz.func298 rfl rfl 15 Tryz.ntmps298 (by simp) ?_
  repeat' ((first|(apply AWP.go ok;rfl)|((apply z7)<;>intro _))<;>conv=>whnf)
  all_goals (refine z54 rfl rfl ?_;unfold z300;first|(rw [if_pos (by omega)];rfl)|(rw [if_neg (by omega),if_pos (by omega)];rfl)|(rw [if_neg (by omega),if_neg (by omega),if_pos (by omega)];rfl)|(rw [if_neg (by omega),if_neg (by omega),if_neg (by omega)];rfl))
theorem z887 (l:List Tree) (d:Int):Tree.shapes l d=l.all (fun t=>t.shape d):=by
  induction l with
  | nil=>rfl
  | cons t l ih=>simp [Tree.shapes,ih]
theorem z423 (t:Tree) (d:Int):t.shape d=(decide (1≤d∧(t.kids.length:Int)=z300 t.kind∧0≤t.val∧t.val≤z385 t.kind) && t.kids.all fun t=>t.shape (d - 1)):=by
  cases t;simp only [Tree.shape,Tree.kids,Tree.kind,Tree.val,z887];rfl
theorem z913 (t:Tree):t.mx→∀ d:Int,-100≤d→d≤100→CallsA Tryz.prog 263 [z51 Tree.cs' t,.int d] [] (.bool (t.shape d)) []:=by
  induction t using Tree.ind with|h t ih=>?_
  intro hm d h0 h1
  rw [Tree.mx_iff] at hm
  have hl:=hm.1
  unfold maxLen at hl
  rw [Tree.arg_eq,z423]
  refine z17 z18 Tryz.func263 rfl rfl 49 Tryz.ntmps263 (by simp) ?_
  repeat' ((first|(apply AWP.go ok;rfl)|(apply z34;kernel_rfl)|((first|apply z7|apply z38)<;>intro _)|(apply z9 (z555 _);rfl;rfl))<;>conv=>whnf)
  all_goals first
    | (refine z27 rfl ?_
       rw [decide_eq_false]
       · rfl
       · clear ih
         rintro ⟨c1,c2,c3,c4⟩
         unfold z385 at c4
         grind)
    | (have hg : decide (1 ≤ d ∧ (t.kids.length : Int) = z300 t.kind ∧ 0 ≤ t.val ∧ t.val ≤ z385 t.kind) = true := by
         clear ih
         refine decide_eq_true ?_
         unfold z385
         grind
       rw [hg,Bool.true_and]
       refine z90 (fun k:Nat=>([(1,.int d),(2,.ptr 0 none 0),(6,.int k)],[.cells 3 [[.int t.kind,.int t.val,lst 3 Tree.cs' t.kids]]])) (fun k=>k≤t.kids.length∧(t.kids.all fun t=>t.shape (d - 1))=(t.kids.drop k).all fun t=>t.shape (d - 1)) (fun k=>t.kids.length - k) 0 ⟨by omega,rfl⟩ ⟨[0],rfl,by decide,rfl,by repeat' (first|exact True.intro|exact ⟨rfl,rfl⟩|apply And.intro),by repeat' (first|exact True.intro|exact z24 rfl rfl|apply And.intro)⟩ ?_
       intro k hk
       repeat' ((first|(apply AWP.go ok;rfl)|(apply And.intro;first|omega|(unfold inI;omega))|(((with_reducible apply z11;omega));intro _)|((first|apply z7|apply z82)<;>intro _)|(apply z9 (ih t.kids[k] (List.getElem_mem _) (hm.2 _ (List.getElem_mem _)) (d - 1) (by omega) (by omega));rfl;rfl))<;>conv=>whnf)
       · rename_i h1
         exact z27 rfl (by rw [hk.2,z142 _ _ _ (by assumption)];simp [h1])
       · rename_i h1
         exact z78 (k+1) [0] ⟨by omega,by rw [hk.2,z142 _ _ _ (by assumption)];simp [h1]⟩ (by omega) ⟨rfl,by decide,rfl,by repeat' (first|exact True.intro|exact ⟨rfl,rfl⟩|apply And.intro),by repeat' (first|exact True.intro|exact z24 rfl rfl|apply And.intro)⟩
       · exact z27 rfl (by rw [hk.2,z137 _ _ _ (by omega)]))
theorem z438 (t:Tree) (d:Int):t.count d=if 0 < d then 1+(t.kids.map fun t=>t.count (d - 1)).sum else 1:=by
  have:∀ (l:List Tree) d,Tree.counts l d=(l.map fun t=>t.count d).sum:=by
    intro l d
    induction l with
    | nil=>rfl
    | cons t l ih=>simp [Tree.counts,ih]
  cases t;simp only [Tree.count,Tree.kids,this]
theorem count_le (t:Tree):∀ d n:Nat,t.shape d=true→t.count n≤2 ^ d - 1:=by
  induction t using Tree.ind with|h t ih=>?_
  intro d n h
  rw [z423,Bool.and_eq_true,decide_eq_true_eq] at h
  obtain ⟨⟨h1,h2,_,_⟩,h3⟩:=h
  rw [List.all_eq_true] at h3
  obtain ⟨d,rfl⟩:∃ e,d=e+1:=⟨d - 1,by omega⟩
  have e:((d+1:Nat):Int) - 1=(d:Nat):=by omega
  rw [e] at h3
  rw [z438]
  have hp:(1:Int)≤2 ^ d:=by exact_mod_cast Nat.one_le_two_pow
  have hq:((2:Int) ^ (d+1))=2 * 2 ^ d:=by rw [Int.pow_succ];omega
  split
  · rename_i hn
    obtain ⟨n,rfl⟩:∃ e,n=e+1:=⟨n - 1,by omega⟩
    have e:((n+1:Nat):Int) - 1=(n:Nat):=by omega
    rw [e]
    have hl:(t.kids.length:Int)≤2:=by rw [h2];unfold z300;grind
    have hk:∀ u∈t.kids,u.count n≤2 ^ d - 1:=fun u hu=>ih u hu d n (h3 u hu)
    match hkk:t.kids with
    | []=>simp only [List.map_nil,List.sum_nil];omega
    | [a] =>
      have:=hk a (by simp [hkk])
      simp only [List.map_cons,List.map_nil,List.sum_cons,List.sum_nil];omega
    | [a,b] =>
      have:=hk a (by simp [hkk])
      have:=hk b (by simp [hkk])
      simp only [List.map_cons,List.map_nil,List.sum_cons,List.sum_nil];omega
    | a::b::c::r=>rw [hkk] at hl;simp only [List.length_cons] at hl;omega
  · omega
theorem z422 (f:Tree→Int) (l:List Tree) (k:Nat) (hk:k < l.length):((l.take (k+1)).map f).sum=((l.take k).map f).sum+f l[k]:=by
  rw [List.take_succ_eq_append_getElem hk,List.map_append,List.sum_append];simp
theorem z801 (t:Tree) (e d:Int) (he:e≤50) (hd:0≤d) (h:t.shape e=true):t.count d≤2 ^ 50:=by
  have h1:1≤e:=by
    rw [z423,Bool.and_eq_true,decide_eq_true_eq] at h;exact h.1.1
  obtain ⟨n,rfl⟩:=Int.eq_ofNat_of_zero_le (show 0≤e by omega)
  obtain ⟨m,rfl⟩:=Int.eq_ofNat_of_zero_le hd
  have h2:=count_le t n m h
  have h4:(2:Int) ^ n≤2 ^ 50:=by exact_mod_cast Nat.pow_le_pow_right (by omega) (by omega)
  omega
theorem z914 (t:Tree):t.mx→∀ e d:Int,e≤50→0≤d→d≤50→t.shape e=true→CallsA Tryz.prog 264 [z51 Tree.cs' t,.int d] [] (.int (t.count d)) []:=by
  induction t using Tree.ind with|h t ih=>?_
  intro hm e d h0 h1 h2 hs
  rw [Tree.mx_iff] at hm
  rw [z423,Bool.and_eq_true,decide_eq_true_eq,List.all_eq_true] at hs
  obtain ⟨⟨hs1,hs2,_,_⟩,hs3⟩:=hs
  have hl:(t.kids.length:Int)≤2:=by rw [hs2];unfold z300;grind
  rw [Tree.arg_eq,z438]
  have hb:0 < d→∀ k,k≤t.kids.length→0≤((t.kids.take k).map fun t=>t.count (d - 1)).sum∧((t.kids.take k).map fun t=>t.count (d - 1)).sum≤k * 2 ^ 50:=by
    intro hd k
    induction k with
    | zero=>intro _;simp
    | succ k ihk =>
      intro hk
      have h1:=ihk (by omega)
      rw [z422 _ _ _ (by omega)]
      have h2:=z801 t.kids[k] (e - 1) (d - 1) (by omega) (by omega) (hs3 _ (List.getElem_mem _))
      have h3:=Tree.count_pos.1 t.kids[k] (d - 1)
      omega
  refine z17 z18 Tryz.func264 rfl rfl 29 Tryz.ntmps264 (by simp) ?_
  repeat' (((apply AWP.go ok;rfl))<;>conv=>whnf)
  by_cases hd:0 < d
  · rw [if_pos hd]
    refine z90 (fun k:Nat=>([(1,.int d),(2,.ptr 0 none 0),(5,.int (1+((t.kids.take k).map fun t=>t.count (d - 1)).sum)),(6,.int k)],[.cells 3 [[.int t.kind,.int t.val,lst 3 Tree.cs' t.kids]]])) (fun k=>k≤t.kids.length) (fun k=>t.kids.length - k) 0 (by omega) ⟨[0],rfl,by decide,rfl,by repeat' (first|exact True.intro|exact ⟨rfl,rfl⟩|apply And.intro),by repeat' (first|exact True.intro|exact z24 rfl rfl|apply And.intro)⟩ ?_
    intro k hk
    have hbk:=hb hd k hk
    have hbk1:=fun h=>hb hd (k+1) h
    have hss:=fun h=>z422 (fun t=>t.count (d - 1)) t.kids k h
    repeat' ((first|(apply AWP.go ok;rfl)|(apply And.intro;first|omega|(unfold inI;omega))|(((with_reducible apply z11;omega));intro _)|((apply z7)<;>intro _)|(apply z9 (ih t.kids[k] (List.getElem_mem _) (hm.2 _ (List.getElem_mem _)) (e - 1) (d - 1) (by omega) (by omega) (by omega) (hs3 _ (List.getElem_mem _)));rfl;rfl))<;>conv=>whnf)
    · have e1:=hss ‹_›
      have e2:=hbk1 (by omega)
      refine And.intro (by unfold inI;omega) ?_
      conv=>whnf
      repeat' ((first|(apply AWP.go ok;rfl)|(apply And.intro;(unfold inI;omega)))<;>conv=>whnf)
      exact z78 (k+1) [0] (by omega) (by omega) ⟨rfl,by decide,rfl,⟨⟨rfl,rfl⟩,⟨rfl,rfl⟩,⟨rfl,by rw [e1,← Int.add_assoc];rfl⟩,⟨rfl,rfl⟩,trivial⟩,⟨z24 rfl rfl,trivial⟩⟩
    · omega
    · obtain rfl:k=t.kids.length:=by omega
      exact z54 rfl rfl (by rw [List.take_length];rfl)
  · rw [if_neg hd]
    refine z90 (fun k:Nat=>([(1,.int d),(2,.ptr 0 none 0),(5,.int 1),(6,.int k)],[.cells 3 [[.int t.kind,.int t.val,lst 3 Tree.cs' t.kids]]])) (fun k=>k≤t.kids.length) (fun k=>t.kids.length - k) 0 (by omega) ⟨[0],rfl,by decide,rfl,by repeat' (first|exact True.intro|exact ⟨rfl,rfl⟩|apply And.intro),by repeat' (first|exact True.intro|exact z24 rfl rfl|apply And.intro)⟩ ?_
    intro k hk
    repeat' ((first|(apply AWP.go ok;rfl)|(apply And.intro;omega)|(((with_reducible apply z11;omega));intro _)|((apply z7)<;>intro _))<;>conv=>whnf)
    · omega
    · exact z54 rfl rfl rfl
    · exact z54 rfl rfl rfl
theorem z129 (t:Tree) (hm:t.mx):CallsA Tryz.prog 217 [z51 Tree.cs' t] [] (.bool t.exprB) []:=by
  rw [Tree.exprB_eq]
  refine z17 z18 Tryz.func217 rfl rfl 10 Tryz.ntmps217 (by simp) ?_
  repeat' ((first|(apply AWP.go ok;rfl)|((apply z92)<;>intro _)|(apply z9 (z913 t hm 6 (by omega) (by omega));rfl;rfl)|(apply z9 (z914 t hm 6 6 (by omega) (by omega) (by omega) (by assumption));rfl;rfl))<;>conv=>whnf)
  all_goals (refine z27 rfl ?_;(simp [*];done))
theorem z337 (l:List Tree) (hl:l.length≤maxLen) (hm:∀ t∈l,t.mx):CallsA Tryz.prog 163 [lst 3 Tree.cs' l] [] (.bool (z232 l)) []:=by
  unfold maxLen at hl
  unfold z232
  refine z17 z18 Tryz.func163 rfl rfl 19 Tryz.ntmps163 (by simp) ?_
  repeat' (((apply AWP.go ok;rfl))<;>conv=>whnf)
  refine z90 (fun k:Nat=>([(0,lst 3 Tree.cs' l),(3,.int k)],[])) (fun k=>k≤l.length∧l.all Tree.exprB=(l.drop k).all Tree.exprB) (fun k=>l.length - k) 0 ⟨by omega,rfl⟩ ⟨[],rfl,by decide,rfl,by repeat' (first|exact True.intro|exact ⟨rfl,rfl⟩|apply And.intro),by repeat' (exact True.intro)⟩ ?_
  intro k hk
  repeat' ((first|(apply AWP.go ok;rfl)|(apply And.intro;first|omega|(unfold inI;omega))|(((with_reducible apply z11;omega));intro _)|((first|apply z7|apply z82)<;>intro _)|(apply z9 (z129 l[k] (hm _ (List.getElem_mem _)));rfl;rfl))<;>conv=>whnf)
  · rename_i h1
    exact z27 rfl (by rw [hk.2,z142 _ _ _ (by assumption)];simp [h1])
  · rename_i h1
    exact z78 (k+1) [] ⟨by omega,by rw [hk.2,z142 _ _ _ (by assumption)];simp [h1]⟩ (by omega) ⟨rfl,by decide,rfl,by repeat' (first|exact True.intro|exact ⟨rfl,rfl⟩|apply And.intro),by repeat' (exact True.intro)⟩
  · exact z27 rfl (by rw [hk.2,z137 _ _ _ (by omega),Bool.and_true])
theorem z823 (b:Bool):CallsA Tryz.prog 276 [.bool b] [] (.int (b2i b)) []:=by
  refine z17 z18 Tryz.func276 rfl rfl 4 Tryz.ntmps276 (by simp) ?_
  repeat' ((first|(apply AWP.go ok;rfl)|((apply z92)<;>intro _))<;>conv=>whnf)
  all_goals (refine z54 rfl rfl ?_;simp only [*];rfl)
theorem z700 (b:Bool):CallsA Tryz.prog 299 [.bool b] [] (.int (b2i b)) []:=by
  refine z17 z18 Tryz.func299 rfl rfl 4 Tryz.ntmps299 (by simp) ?_
  repeat' ((first|(apply AWP.go ok;rfl)|((apply z92)<;>intro _))<;>conv=>whnf)
  all_goals (refine z54 rfl rfl ?_;simp only [*];rfl)
theorem z558 {t:Tree} (hg:t.good):(∃ x,t=.mk 1 x []∧0≤x∧x≤3)∨(∃ x,t=.mk 2 x []∧0≤x∧x≤2)∨(∃ x a,t=.mk 3 x [a]∧a.good)∨(∃ k x a b,t=.mk k x [a,b]∧4≤k∧k≤9∧a.good∧b.good):=by
  obtain ⟨g1,g2,g3,g4⟩:=Tree.good_iff hg
  obtain ⟨k,x,l⟩:=t
  simp only [Tree.kind,Tree.val,Tree.kids] at *
  unfold z300 at g1
  unfold z385 at g3
  match l,g1,g4 with
  | [],g1,_ =>
    simp only [List.length_nil] at g1
    have:k=1∨k=2:=by grind
    rcases this with rfl|rfl
    · exact .inl ⟨x,rfl,g2,by grind⟩
    · exact .inr (.inl ⟨x,rfl,g2,by grind⟩)
  | [a],g1,g4 =>
    simp only [List.length_cons,List.length_nil] at g1
    have:k=3:=by grind
    subst this
    exact .inr (.inr (.inl ⟨x,a,rfl,g4 a (by simp)⟩))
  | [a,b],g1,g4 =>
    simp only [List.length_cons,List.length_nil] at g1
    exact .inr (.inr (.inr ⟨k,x,a,b,rfl,by grind,by grind,g4 a (by simp),g4 b (by simp)⟩))
  | a::b::c::r,g1,_=>simp only [List.length_cons] at g1;grind
theorem eval_ok (v:List Int) (hv:ValsOk v) (t:Tree):t.good→CallsA Tryz.prog 235 [z51 Tree.cs' t,ints v] [] (.int (t.ev v)) []:=by
  induction t using Tree.ind with|h t ih=>?_
  intro hg
  have hl:=hv.1
  rw [Tree.arg_eq]
  rcases z558 hg with ⟨x,rfl,h1,h2⟩|⟨x,rfl,h1,h2⟩|⟨x,a,rfl,h1⟩|⟨k,x,a,b,rfl,h1,h2,h3,h4⟩<;>simp only [Tree.kind,Tree.val,Tree.kids] at *
  · refine z17 z18 Tryz.func235 rfl rfl 82 Tryz.ntmps235 (by simp) ?_
    repeat' (((apply AWP.go ok;rfl))<;>conv=>whnf)
    all_goals (exact z54 rfl rfl (by rw [Tree.ev,if_pos rfl];rfl))
  · refine z17 z18 Tryz.func235 rfl rfl 82 Tryz.ntmps235 (by simp) ?_
    repeat' ((first|(apply AWP.go ok;rfl)|(apply And.intro;omega)|(apply z795;omega;intro _))<;>conv=>whnf)
    all_goals skip
    refine z54 rfl rfl ?_
    rw [Tree.ev,if_neg (by omega),if_pos rfl,List.getD_eq_getElem?_getD,List.getElem?_eq_getElem (by omega)];rfl
  · have ha:=Tree.ev_range hv a h1
    refine z17 z18 Tryz.func235 rfl rfl 82 Tryz.ntmps235 (by simp) ?_
    repeat' ((first|(apply AWP.go ok;rfl)|(apply And.intro;omega)|apply z127|(apply z9 (ih a (by simp) h1);rfl;rfl)|(apply z9 (z823 _);rfl;rfl))<;>conv=>whnf)
    all_goals skip
    all_goals (refine z54 rfl rfl ?_;rw [Tree.ev,if_neg (by omega),if_neg (by omega)];simp only [Tree.evs];rfl)
  · have ha:=Tree.ev_range hv a h3
    have hb:=Tree.ev_range hv b h4
    refine z17 z18 Tryz.func235 rfl rfl 82 Tryz.ntmps235 (by simp) ?_
    repeat' ((first|(apply AWP.go ok;rfl)|(apply And.intro;first|omega|(unfold inI;omega))|(((apply z11;omega));intro _)|apply z127|((first|apply z7|apply z38)<;>intro _)|(apply z9 (ih a (by simp) h3);rfl;rfl)|(apply z9 (ih b (by simp) h4);rfl;rfl)|(apply z9 (z823 _);rfl;rfl))<;>conv=>whnf)
    all_goals first|(exfalso;omega)|skip
    all_goals (refine z592 rfl ?_;clear ih;simp only [Tree.ev,Tree.evs,b2i];grind)
theorem z490 (v:List Int) (hv:ValsOk v) (t:Tree):t.good→CallsA Tryz.prog 265 [z51 Tree.cs' t,ints v] [] (.int (t.ev v)) []:=by
  induction t using Tree.ind with|h t ih=>?_
  intro hg
  have hl:=hv.1
  rw [Tree.arg_eq]
  rcases z558 hg with ⟨x,rfl,h1,h2⟩|⟨x,rfl,h1,h2⟩|⟨x,a,rfl,h1⟩|⟨k,x,a,b,rfl,h1,h2,h3,h4⟩<;>simp only [Tree.kind,Tree.val,Tree.kids] at *
  · refine z17 z18 Tryz.func265 rfl rfl 86 Tryz.ntmps265 (by simp) ?_
    repeat' (((apply AWP.go ok;rfl))<;>conv=>whnf)
    all_goals (exact z54 rfl rfl (by rw [Tree.ev,if_pos rfl];rfl))
  · refine z17 z18 Tryz.func265 rfl rfl 86 Tryz.ntmps265 (by simp) ?_
    repeat' ((first|(apply AWP.go ok;rfl)|(apply And.intro;omega)|(apply z795;omega;intro _))<;>conv=>whnf)
    all_goals skip
    refine z54 rfl rfl ?_
    rw [Tree.ev,if_neg (by omega),if_pos rfl,List.getD_eq_getElem?_getD,List.getElem?_eq_getElem (by omega)];rfl
  · have ha:=Tree.ev_range hv a h1
    refine z17 z18 Tryz.func265 rfl rfl 86 Tryz.ntmps265 (by simp) ?_
    repeat' ((first|(apply AWP.go ok;rfl)|(apply And.intro;omega)|apply z127|(apply z9 (ih a (by simp) h1);rfl;rfl)|(apply z9 (z700 _);rfl;rfl))<;>conv=>whnf)
    all_goals skip
    all_goals (refine z54 rfl rfl ?_;rw [Tree.ev,if_neg (by omega),if_neg (by omega)];simp only [Tree.evs];rfl)
  · have ha:=Tree.ev_range hv a h3
    have hb:=Tree.ev_range hv b h4
    refine z17 z18 Tryz.func265 rfl rfl 86 Tryz.ntmps265 (by simp) ?_
    repeat' ((first|(apply AWP.go ok;rfl)|(apply And.intro;first|omega|(unfold inI;omega))|(((apply z11;omega));intro _)|apply z127|((first|apply z7|apply z38)<;>intro _)|(apply z9 (ih a (by simp) h3);rfl;rfl)|(apply z9 (ih b (by simp) h4);rfl;rfl)|(apply z9 (z700 _);rfl;rfl))<;>conv=>whnf)
    all_goals first|(exfalso;omega)|skip
    all_goals (refine z592 rfl ?_;clear ih;simp only [Tree.ev,Tree.evs,b2i];grind)
end Go.Proofs.YtknlmbniicacmaaGreat

namespace Go.Proofs.YtknlmbniicacmaaGreat
open Go.Gl
attribute [local irreducible] z31 AWP z48 z52 z50
def ltr (v:List Int) (l:List Tree) (k n:Nat):Nat:=match l with
  | []=>n
  | t::r=>ltr v r (k+1) (if t.ev v=0 then n else n ||| 2 ^ k)
theorem z429 (v:List Int) (l:List Tree) (k n:Nat) (h:k < l.length):ltr v (l.drop k) k n=ltr v (l.drop (k+1)) (k+1) (if l[k].ev v=0 then n else n ||| 2 ^ k):=by
  rw [List.drop_eq_getElem_cons h,ltr]
theorem z1012 (v:List Int) (l:List Tree) (k n:Nat) (h:l.length≤k):ltr v (l.drop k) k n=n:=by
  rw [List.drop_eq_nil_of_le h,ltr]
def z32 (labels:List Tree) (s:State):Int:=ltr s.b labels 0 0
theorem or_lt {n k:Nat} (h:n < 2 ^ k):n ||| 2 ^ k < 2 ^ (k+1) :=
  Nat.or_lt_two_pow (by rw [Nat.pow_succ];omega) (by rw [Nat.pow_succ];have:=Nat.two_pow_pos k;omega)
def LabelsOk (l:List Tree):Prop:=l.length=3∧∀ t∈l,t.good
theorem LabelsOk.of {l:List Tree} (h:z232 l=true):LabelsOk l:=by
  simp only [z232,Bool.and_eq_true,decide_eq_true_eq,List.all_eq_true] at h
  exact ⟨by omega,fun t ht=>Tree.good_of (h.2 t ht)⟩
theorem z980 (k:Nat) (hk:k < 3):(1:Int) * 2 ^ ((k:Int).toNat)=((2 ^ k:Nat):Int):=by simp
theorem z476 {k:Nat} (hk:k < 3):2 ^ k≤8∧2 ^ (k+1)≤8∧0 < 2 ^ k:=by
  have:k=0∨k=1∨k=2:=by omega
  rcases this with rfl|rfl|rfl<;>simp
theorem z1014 (s:State) (hv:ValsOk s.b) (l:List Tree) (hl:LabelsOk l):CallsA Tryz.prog 182 [ints s.b,lst 3 Tree.cs' l] [] (.int (z32 l s)) []:=by
  have h3:=hl.1
  refine z17 z18 Tryz.func182 rfl rfl 25 Tryz.ntmps182 (by simp) ?_
  repeat' (((apply AWP.go ok;rfl))<;>conv=>whnf)
  refine z90 (fun x:Nat×Nat=>([(0,ints s.b),(5,.int x.2),(8,lst 3 Tree.cs' l),(9,.int l.length),(10,.int x.1)],[])) (fun x=>x.1≤l.length∧x.2 < 2 ^ x.1∧ltr s.b l 0 0=ltr s.b (l.drop x.1) x.1 x.2) (fun x=>l.length - x.1) (0,0) ⟨by omega,by decide,rfl⟩ ⟨[],rfl,by decide,rfl,by repeat' (first|exact True.intro|exact ⟨rfl,rfl⟩|apply And.intro),by repeat' (exact True.intro)⟩ ?_
  rintro ⟨k,n⟩ ⟨hk1,hk2,hk3⟩
  dsimp only at hk1 hk2 hk3
  repeat' ((first|(apply AWP.go ok;rfl)|(apply And.intro;first|omega|(unfold inI;omega))|(((with_reducible apply z11;omega));intro _)|((first|apply z7|apply z38)<;>intro _)|(apply z9 (eval_ok s.b hv l[k] (hl.2 _ (List.getElem_mem _)));rfl;rfl))<;>conv=>whnf)
  · rename_i hkl h
    have hp:=z476 (show k < 3 by omega)
    have e:=z980 k (by omega)
    refine And.intro ⟨by omega,by omega,by rw [e];unfold inI;omega⟩ ?_
    conv=>whnf
    refine And.intro (by rw [e];unfold z148;omega) ?_
    conv=>whnf
    repeat' ((first|(apply AWP.go ok;rfl)|(apply And.intro;(unfold inI;omega)))<;>conv=>whnf)
    rw [z429 _ _ _ _ hkl,if_neg h] at hk3
    refine z78 (k+1,n ||| 2 ^ k) [] ⟨by dsimp only;omega,or_lt hk2,hk3⟩ (by dsimp only;omega) ⟨rfl,by decide,rfl,⟨⟨rfl,rfl⟩,⟨rfl,?_⟩,⟨rfl,rfl⟩,⟨rfl,rfl⟩,⟨rfl,rfl⟩,trivial⟩,trivial⟩
    show AC.raw (.int .i64 (((n:Int).toNat ||| ((1:Int) * 2 ^ ((k:Int).toNat)).toNat:Nat):Int))=_
    rw [e];rfl
  · rename_i hkl h
    rw [z429 _ _ _ _ hkl,if_pos h] at hk3
    have:2 ^ k≤2 ^ (k+1):=by rw [Nat.pow_succ];omega
    exact z78 (k+1,n) [] ⟨by dsimp only;omega,by dsimp only;omega,hk3⟩ (by dsimp only;omega) ⟨rfl,by decide,rfl,by repeat' (first|exact True.intro|exact ⟨rfl,rfl⟩|apply And.intro),by repeat' (exact True.intro)⟩
  · rw [z1012 _ _ _ _ (by omega)] at hk3
    exact z54 rfl rfl (by unfold z32;rw [hk3];rfl)
theorem z782 (s:State) (hv:ValsOk s.b) (l:List Tree) (hl:LabelsOk l):CallsA Tryz.prog 218 [z51 State.cs s,lst 3 Tree.cs' l] [] (.int (z32 l s)) []:=by
  have h3:=hl.1
  refine z17 z18 Tryz.func218 rfl rfl 27 Tryz.ntmps218 (by simp) ?_
  repeat' (((apply AWP.go ok;rfl))<;>conv=>whnf)
  refine z90 (fun x:Nat×Nat=>([(1,lst 3 Tree.cs' l),(2,.ptr 0 none 0),(5,.int x.2),(6,.int x.1)],[.cells 2 [[ints s.a,ints s.b]]])) (fun x=>x.1≤l.length∧x.2 < 2 ^ x.1∧ltr s.b l 0 0=ltr s.b (l.drop x.1) x.1 x.2) (fun x=>l.length - x.1) (0,0) ⟨by omega,by decide,rfl⟩ ⟨[0],rfl,by decide,rfl,by repeat' (first|exact True.intro|exact ⟨rfl,rfl⟩|apply And.intro),by repeat' (first|exact True.intro|exact z24 rfl rfl|apply And.intro)⟩ ?_
  rintro ⟨k,n⟩ ⟨hk1,hk2,hk3⟩
  dsimp only at hk1 hk2 hk3
  repeat' ((first|(apply AWP.go ok;rfl)|(apply z34;kernel_rfl)|(apply And.intro;first|omega|(unfold inI;omega))|(((with_reducible apply z11;omega));intro _)|((first|apply z7|apply z38)<;>intro _)|(apply z9 (z490 s.b hv l[k] (hl.2 _ (List.getElem_mem _)));rfl;rfl))<;>conv=>whnf)
  · rename_i hkl h
    have hp:=z476 (show k < 3 by omega)
    have e:=z980 k (by omega)
    refine And.intro ?_ ?_
    · show IntKind.u64.wrap k=k
      have:k=0∨k=1∨k=2:=by dsimp only at hkl;omega
      rcases this with rfl|rfl|rfl<;>rfl
    conv=>whnf
    refine And.intro ⟨by omega,by omega,by rw [e];unfold inI;omega⟩ ?_
    conv=>whnf
    refine And.intro (by rw [e];unfold z148;omega) ?_
    conv=>whnf
    repeat' ((first|(apply AWP.go ok;rfl)|(apply And.intro;(unfold inI;omega)))<;>conv=>whnf)
    rw [z429 _ _ _ _ hkl,if_neg h] at hk3
    refine z78 (k+1,n ||| 2 ^ k) [0] ⟨by dsimp only;omega,or_lt hk2,hk3⟩ (by dsimp only;omega) ⟨rfl,by decide,rfl,⟨⟨rfl,rfl⟩,⟨rfl,rfl⟩,⟨rfl,?_⟩,⟨rfl,rfl⟩,trivial⟩,⟨z24 rfl rfl,trivial⟩⟩
    show AC.raw (.int .i64 (((n:Int).toNat ||| ((1:Int) * 2 ^ ((k:Int).toNat)).toNat:Nat):Int))=_
    rw [e];rfl
  · rename_i hkl h
    rw [z429 _ _ _ _ hkl,if_pos h] at hk3
    have:2 ^ k≤2 ^ (k+1):=by rw [Nat.pow_succ];omega
    exact z78 (k+1,n) [0] ⟨by dsimp only;omega,by dsimp only;omega,hk3⟩ (by dsimp only;omega) ⟨rfl,by decide,rfl,by repeat' (first|exact True.intro|exact ⟨rfl,rfl⟩|apply And.intro),by repeat' (first|exact True.intro|exact z24 rfl rfl|apply And.intro)⟩
  · rw [z1012 _ _ _ _ (by omega)] at hk3
    exact z54 rfl rfl (by unfold z32;rw [hk3];rfl)
theorem z1019 (g:Graph) (hg:∀ s∈g.st,ValsOk s.b) (hn:g.st.length≤60) (l:List Tree) (hl:LabelsOk l):CallsA Tryz.prog 103 [.agg g.cs,lst 3 Tree.cs' l] [] (.sref 0 0 g.st.length) [.cells 1 (g.st.map fun s=>enI (z32 l s))]:=by
  refine z17 z18 Tryz.func103 rfl rfl 29 Tryz.ntmps103 (by simp) ?_
  repeat' ((first|(apply AWP.go ok;rfl)|(apply And.intro;(dsimp only;omega)))<;>conv=>whnf)
  refine z90 (fun k:Nat=>([(1,lst 3 Tree.cs' l),(5,.sref 0 0 g.st.length),(13,lst 2 State.cs g.st),(14,.int g.st.length),(15,.int k)],[.cells 1 ((g.st.take k).map (fun s=>enI (z32 l s))++List.replicate (g.st.length - k) (enI 0))])) (fun k=>k≤g.st.length) (fun k=>g.st.length - k) 0 (by omega) ⟨[1],rfl,by decide,rfl,by repeat' (first|exact True.intro|exact ⟨rfl,rfl⟩|apply And.intro),by repeat' (first|exact True.intro|exact z40 (by rfl) (by (first|exact z37|exact z65 rfl))|apply And.intro)⟩ ?_
  intro k hk
  repeat' ((first|(apply AWP.go ok;rfl)|(apply And.intro;first|omega|(unfold inI;omega))|(((with_reducible apply z11;omega));intro _)|(apply get_fill;omega)|((apply z7)<;>intro _)|(apply z9 (z1014 g.st[k] (hg _ (List.getElem_mem _)) l hl);rfl;rfl))<;>conv=>whnf)
  · rename_i h hkl
    exact z78 (k+1) [0] (by omega) (by omega) ⟨rfl,by decide,rfl,⟨⟨rfl,rfl⟩,⟨rfl,rfl⟩,⟨rfl,rfl⟩,⟨rfl,rfl⟩,⟨rfl,rfl⟩,trivial⟩,⟨obj_fill hkl rfl rfl rfl (fun _=>rfl) rfl,trivial⟩⟩
  · exact z470 rfl (z6 fun _=>rfl) rfl (fill_end _ _ _ _ (by omega))
theorem label_ok (g:Graph) (hg:∀ s∈g.st,ValsOk s.b) (hn:g.st.length≤60) (l:List Tree) (hl:LabelsOk l):CallsA Tryz.prog 103 [.agg g.cs,lst 3 Tree.cs' l] [] (ints (g.st.map (z32 l))) []:=by
  have h:=(z1019 g hg hn l hl).keep (z154 _ _) (by simp)
  unfold ints
  rw [List.length_map,List.map_map]
  exact h
theorem z609 (g:Graph) (hg:∀ s∈g.st,ValsOk s.b) (hn:g.st.length≤60) (l:List Tree) (hl:LabelsOk l):CallsA Tryz.prog 164 [.agg g.cs,lst 3 Tree.cs' l] [] (.sref 0 0 g.st.length) [.cells 1 (g.st.map fun s=>enI (z32 l s))]:=by
  refine z17 z18 Tryz.func164 rfl rfl 26 Tryz.ntmps164 (by simp) ?_
  repeat' (((apply AWP.go ok;rfl))<;>conv=>whnf)
  refine z90 (fun k:Nat=>([(1,lst 3 Tree.cs' l),(2,.ptr 0 none 0),(5,.sref 1 0 k),(6,.int k)],[.cells 2 [[lst 2 State.cs g.st,lst 1 encL g.nx]],.cells 1 ((g.st.take k).map fun s=>enI (z32 l s))])) (fun k=>k≤g.st.length) (fun k=>g.st.length - k) 0 (by omega) ⟨[0,1],rfl,by decide,rfl,by repeat' (first|exact True.intro|exact ⟨rfl,rfl⟩|apply And.intro),by repeat' (first|exact True.intro|exact z24 rfl rfl|exact z40 (by rfl) (by (exact z37))|apply And.intro)⟩ ?_
  intro k hk
  repeat' ((first|(apply AWP.go ok;rfl)|(apply And.intro;first|omega|(unfold inI;omega)|((try dsimp only);simp only [List.length_map,List.length_take,List.length_append,List.length_replicate,List.length_cons,List.length_nil];omega)|exact ⟨rfl,z21 rfl z30⟩)|(((with_reducible apply z11;omega));intro _)|((apply z7)<;>intro _)|(apply z9 (z782 g.st[k] (hg _ (List.getElem_mem _)) l hl);rfl;rfl))<;>conv=>whnf)
  · rename_i h hkl
    exact z78 (k+1) [0,3] (by omega) (by omega) ⟨rfl,by decide,rfl,⟨⟨rfl,rfl⟩,⟨rfl,rfl⟩,⟨rfl,rfl⟩,⟨rfl,rfl⟩,trivial⟩,⟨z24 rfl rfl,obj_app hkl _ rfl rfl rfl (fun _=>rfl),trivial⟩⟩
  · obtain rfl:k=g.st.length:=by omega
    exact z470 rfl (z6 fun _=>rfl) rfl (by rw [List.take_length])
theorem z689 (g:Graph) (hg:∀ s∈g.st,ValsOk s.b) (hn:g.st.length≤60) (l:List Tree) (hl:LabelsOk l):CallsA Tryz.prog 164 [.agg g.cs,lst 3 Tree.cs' l] [] (ints (g.st.map (z32 l))) []:=by
  have h:=(z609 g hg hn l hl).keep (z154 _ _) (by simp)
  unfold ints
  rw [List.length_map,List.map_map]
  exact h
end Go.Proofs.YtknlmbniicacmaaGreat

