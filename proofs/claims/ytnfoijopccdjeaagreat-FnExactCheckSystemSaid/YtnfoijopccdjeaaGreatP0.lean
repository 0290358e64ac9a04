/- A part of the proofs over this program: Tab, T3, T4, T5, T6, T7, T8, T9, T10, T11, T12, T13, T15, T16, T17, T18, T19, T20. -/
import Derived.Test.YtnfoijopccdjeaaGreatG0
import Derived.Test.YtnfoijopccdjeaaGreatG1
import Derived.Test.YtnfoijopccdjeaaGreatG2
import Derived.Test.YtnfoijopccdjeaaGreatG3
import Derived.Test.YtnfoijopccdjeaaGreatProg
import Derived.KernelRfl
set_option linter.all false
namespace Go.Proofs.YtnfoijopccdjeaaGreat
open Go.Gl
def tabL:List (Nat×TyI):=[
 (3,⟨.int .i64,1,8,.int .i64 0⟩),
 (23,⟨.slice 3,1,24,.slice none 0 0⟩),
 (30, ⟨.struct #[{ name := "Kind", type := 3, offset := 0, embedded := false, tag := "", pkgPath := "", byteOffset := 0 }, { name := "Atom", type := 3, offset := 1, embedded := false, tag := "", pkgPath := "", byteOffset := 8 }, { name := "Kids", type := 28, offset := 2, embedded := false, tag := "", pkgPath := "", byteOffset := 16 }], 3, 40, .agg #[.int .i64 0, .int .i64 0, .slice none 0 0]⟩),
 (74, ⟨.struct #[{ name := "Kind", type := 3, offset := 0, embedded := false, tag := "", pkgPath := "", byteOffset := 0 }, { name := "Value", type := 3, offset := 1, embedded := false, tag := "", pkgPath := "", byteOffset := 8 }, { name := "Kids", type := 27, offset := 2, embedded := false, tag := "", pkgPath := "", byteOffset := 16 }], 3, 40, .agg #[.int .i64 0, .int .i64 0, .slice none 0 0]⟩),
 (28,⟨.slice 30,1,24,.slice none 0 0⟩),
 (26, ⟨.struct #[{ name := "Init", type := 23, offset := 0, embedded := false, tag := "", pkgPath := "", byteOffset := 0 }, { name := "Processes", type := 24, offset := 1, embedded := false, tag := "", pkgPath := "", byteOffset := 24 }], 2, 48, .agg #[.slice none 0 0, .slice none 0 0]⟩),
 (133, ⟨.struct #[{ name := "From", type := 3, offset := 0, embedded := false, tag := "", pkgPath := "", byteOffset := 0 }, { name := "To", type := 3, offset := 1, embedded := false, tag := "", pkgPath := "", byteOffset := 8 }, { name := "Guard", type := 74, offset := 2, embedded := false, tag := "", pkgPath := "", byteOffset := 16 }, { name := "Var", type := 3, offset := 5, embedded := false, tag := "", pkgPath := "", byteOffset := 56 }, { name := "Value", type := 74, offset := 6, embedded := false, tag := "", pkgPath := "", byteOffset := 64 }, { name := "Sync", type := 3, offset := 9, embedded := false, tag := "", pkgPath := "", byteOffset := 104 }], 10, 112, .agg #[.int .i64 0, .int .i64 0, .int .i64 0, .int .i64 0, .slice none 0 0, .int .i64 0, .int .i64 0, .int .i64 0, .slice none 0 0, .int .i64 0]⟩),
 (38, ⟨.struct #[{ name := "States", type := 33, offset := 0, embedded := false, tag := "", pkgPath := "", byteOffset := 0 }, { name := "Next", type := 36, offset := 1, embedded := false, tag := "", pkgPath := "", byteOffset := 24 }], 2, 48, .agg #[.slice none 0 0, .slice none 0 0]⟩),
 (24,⟨.slice 131,1,24,.slice none 0 0⟩),
 (33,⟨.slice 47,1,24,.slice none 0 0⟩),
 (129,⟨.slice 133,1,24,.slice none 0 0⟩),
 (47, ⟨.struct #[{ name := "Locs", type := 23, offset := 0, embedded := false, tag := "", pkgPath := "", byteOffset := 0 }, { name := "Vals", type := 23, offset := 1, embedded := false, tag := "", pkgPath := "", byteOffset := 24 }], 2, 48, .agg #[.slice none 0 0, .slice none 0 0]⟩),
 (27,⟨.slice 74,1,24,.slice none 0 0⟩),
 (131, ⟨.struct #[{ name := "Locations", type := 3, offset := 0, embedded := false, tag := "", pkgPath := "", byteOffset := 0 }, { name := "Edges", type := 129, offset := 1, embedded := false, tag := "", pkgPath := "", byteOffset := 8 }], 2, 32, .agg #[.int .i64 0, .slice none 0 0]⟩),
 (36,⟨.slice 23,1,24,.slice none 0 0⟩),
 (99, ⟨.struct #[{ name := "Initial", type := 23, offset := 0, embedded := false, tag := "", pkgPath := "", byteOffset := 0 }, { name := "Accepting", type := 96, offset := 1, embedded := false, tag := "", pkgPath := "", byteOffset := 24 }, { name := "Edges", type := 97, offset := 2, embedded := false, tag := "", pkgPath := "", byteOffset := 48 }], 3, 72, .agg #[.slice none 0 0, .slice none 0 0, .slice none 0 0]⟩),
 (96,⟨.slice 4,1,24,.slice none 0 0⟩),
 (42, ⟨.struct #[{ name := "Stem", type := 23, offset := 0, embedded := false, tag := "", pkgPath := "", byteOffset := 0 }, { name := "Loop", type := 23, offset := 1, embedded := false, tag := "", pkgPath := "", byteOffset := 24 }], 2, 48, .agg #[.slice none 0 0, .slice none 0 0]⟩),
 (97,⟨.slice 238,1,24,.slice none 0 0⟩),
 (4,⟨.bool,1,1,.bool false⟩),
 (238, ⟨.struct #[{ name := "From", type := 3, offset := 0, embedded := false, tag := "", pkgPath := "", byteOffset := 0 }, { name := "Care", type := 3, offset := 1, embedded := false, tag := "", pkgPath := "", byteOffset := 8 }, { name := "Value", type := 3, offset := 2, embedded := false, tag := "", pkgPath := "", byteOffset := 16 }, { name := "To", type := 3, offset := 3, embedded := false, tag := "", pkgPath := "", byteOffset := 24 }], 4, 32, .agg #[.int .i64 0, .int .i64 0, .int .i64 0, .int .i64 0]⟩),
 (156,⟨.slice 159,1,24,.slice none 0 0⟩),
 (159, ⟨.struct #[{ name := "Process", type := 3, offset := 0, embedded := false, tag := "", pkgPath := "", byteOffset := 0 }, { name := "Edge", type := 3, offset := 1, embedded := false, tag := "", pkgPath := "", byteOffset := 8 }, { name := "Partner", type := 3, offset := 2, embedded := false, tag := "", pkgPath := "", byteOffset := 16 }, { name := "PartnerEdge", type := 3, offset := 3, embedded := false, tag := "", pkgPath := "", byteOffset := 24 }], 4, 32, .agg #[.int .i64 0, .int .i64 0, .int .i64 0, .int .i64 0]⟩),
 (22,⟨.slice 5,1,24,.slice none 0 0⟩),
 (228,⟨.slice 230,1,24,.slice none 0 0⟩),
 (230, ⟨.struct #[{ name := "set", type := 3, offset := 0, embedded := false, tag := "", pkgPath := "loop.example/ltlcheck/impl", byteOffset := 0 }, { name := "phase", type := 3, offset := 1, embedded := false, tag := "", pkgPath := "loop.example/ltlcheck/impl", byteOffset := 8 }], 2, 16, .agg #[.int .i64 0, .int .i64 0]⟩),
 (141, ⟨.struct #[{ name := "b", type := 22, offset := 0, embedded := false, tag := "", pkgPath := "loop.example/ltlcheck/spec", byteOffset := 0 }, { name := "p", type := 3, offset := 1, embedded := false, tag := "", pkgPath := "loop.example/ltlcheck/spec", byteOffset := 24 }], 2, 32, .agg #[.slice none 0 0, .int .i64 0]⟩),
 (55, ⟨.struct #[{ name := "Kind", type := 3, offset := 0, embedded := false, tag := "", pkgPath := "", byteOffset := 0 }, { name := "Atom", type := 3, offset := 1, embedded := false, tag := "", pkgPath := "", byteOffset := 8 }, { name := "Kids", type := 53, offset := 2, embedded := false, tag := "", pkgPath := "", byteOffset := 16 }], 3, 40, .agg #[.int .i64 0, .int .i64 0, .slice none 0 0]⟩),
 (227, ⟨.struct #[{ name := "basics", type := 28, offset := 0, embedded := false, tag := "", pkgPath := "loop.example/ltlcheck/impl", byteOffset := 0 }, { name := "untils", type := 23, offset := 1, embedded := false, tag := "", pkgPath := "loop.example/ltlcheck/impl", byteOffset := 24 }], 2, 48, .agg #[.slice none 0 0, .slice none 0 0]⟩),
 (109, ⟨.struct #[{ name := "Kind", type := 3, offset := 0, embedded := false, tag := "", pkgPath := "", byteOffset := 0 }, { name := "Value", type := 3, offset := 1, embedded := false, tag := "", pkgPath := "", byteOffset := 8 }, { name := "Kids", type := 52, offset := 2, embedded := false, tag := "", pkgPath := "", byteOffset := 16 }], 3, 40, .agg #[.int .i64 0, .int .i64 0, .slice none 0 0]⟩),
 (283, ⟨.struct #[{ name := "From", type := 3, offset := 0, embedded := false, tag := "", pkgPath := "", byteOffset := 0 }, { name := "To", type := 3, offset := 1, embedded := false, tag := "", pkgPath := "", byteOffset := 8 }, { name := "Guard", type := 109, offset := 2, embedded := false, tag := "", pkgPath := "", byteOffset := 16 }, { name := "Var", type := 3, offset := 5, embedded := false, tag := "", pkgPath := "", byteOffset := 56 }, { name := "Value", type := 109, offset := 6, embedded := false, tag := "", pkgPath := "", byteOffset := 64 }, { name := "Sync", type := 3, offset := 9, embedded := false, tag := "", pkgPath := "", byteOffset := 104 }], 10, 112, .agg #[.int .i64 0, .int .i64 0, .int .i64 0, .int .i64 0, .slice none 0 0, .int .i64 0, .int .i64 0, .int .i64 0, .slice none 0 0, .int .i64 0]⟩),
 (51, ⟨.struct #[{ name := "Init", type := 23, offset := 0, embedded := false, tag := "", pkgPath := "", byteOffset := 0 }, { name := "Processes", type := 49, offset := 1, embedded := false, tag := "", pkgPath := "", byteOffset := 24 }], 2, 48, .agg #[.slice none 0 0, .slice none 0 0]⟩),
 (49,⟨.slice 188,1,24,.slice none 0 0⟩),
 (52,⟨.slice 109,1,24,.slice none 0 0⟩),
 (53,⟨.slice 55,1,24,.slice none 0 0⟩),
 (225,⟨.pointer 227,1,8,.pointer none⟩),
 (186,⟨.slice 283,1,24,.slice none 0 0⟩),
 (269,⟨.map 230 3,1,8,.map none⟩),
 (273, ⟨.struct #[{ name := "care", type := 3, offset := 0, embedded := false, tag := "", pkgPath := "loop.example/ltlcheck/impl", byteOffset := 0 }, { name := "value", type := 3, offset := 1, embedded := false, tag := "", pkgPath := "loop.example/ltlcheck/impl", byteOffset := 8 }, { name := "to", type := 230, offset := 2, embedded := false, tag := "", pkgPath := "loop.example/ltlcheck/impl", byteOffset := 16 }], 4, 32, .agg #[.int .i64 0, .int .i64 0, .int .i64 0, .int .i64 0]⟩),
 (5,⟨.int .u8,1,1,.int .u8 0⟩),
 (206,⟨.pointer 3,1,8,.pointer none⟩),
 (188, ⟨.struct #[{ name := "Locations", type := 3, offset := 0, embedded := false, tag := "", pkgPath := "", byteOffset := 0 }, { name := "Edges", type := 186, offset := 1, embedded := false, tag := "", pkgPath := "", byteOffset := 8 }], 2, 32, .agg #[.int .i64 0, .slice none 0 0]⟩),
 (254,⟨.int .u64,1,8,.int .u64 0⟩),
 (271,⟨.slice 273,1,24,.slice none 0 0⟩),
 (295,⟨.map 3 3,1,8,.map none⟩),
 (236,⟨.slice 97,1,24,.slice none 0 0⟩),
 (279,⟨.func #[3] #[] false,1,8,.nilFunc⟩),
 (296,⟨.func #[30] #[] false,1,8,.nilFunc⟩)]
def tab:Tab:=z739 tabL
theorem inf3:(Tryz.prog.info? 3).map (fun j=>(j.zero,j.size,j.bytes))=some (some (.int .i64 0),1,8):=by kernel_rfl
theorem inf23:(Tryz.prog.info? 23).map (fun j=>(j.zero,j.size,j.bytes))=some (some (.slice none 0 0),1,24):=by kernel_rfl
theorem inf30:(Tryz.prog.info? 30).map (fun j=>(j.zero,j.size,j.bytes))=some (some (.agg #[.int .i64 0,.int .i64 0,.slice none 0 0]),3,40):=by kernel_rfl
theorem inf74:(Tryz.prog.info? 74).map (fun j=>(j.zero,j.size,j.bytes))=some (some (.agg #[.int .i64 0,.int .i64 0,.slice none 0 0]),3,40):=by kernel_rfl
theorem inf28:(Tryz.prog.info? 28).map (fun j=>(j.zero,j.size,j.bytes))=some (some (.slice none 0 0),1,24):=by kernel_rfl
theorem inf26:(Tryz.prog.info? 26).map (fun j=>(j.zero,j.size,j.bytes))=some (some (.agg #[.slice none 0 0,.slice none 0 0]),2,48):=by kernel_rfl
theorem inf133:(Tryz.prog.info? 133).map (fun j=>(j.zero,j.size,j.bytes))=some (some (.agg #[.int .i64 0,.int .i64 0,.int .i64 0,.int .i64 0,.slice none 0 0,.int .i64 0,.int .i64 0,.int .i64 0,.slice none 0 0,.int .i64 0]),10,112):=by kernel_rfl
theorem inf38:(Tryz.prog.info? 38).map (fun j=>(j.zero,j.size,j.bytes))=some (some (.agg #[.slice none 0 0,.slice none 0 0]),2,48):=by kernel_rfl
theorem inf24:(Tryz.prog.info? 24).map (fun j=>(j.zero,j.size,j.bytes))=some (some (.slice none 0 0),1,24):=by kernel_rfl
theorem inf33:(Tryz.prog.info? 33).map (fun j=>(j.zero,j.size,j.bytes))=some (some (.slice none 0 0),1,24):=by kernel_rfl
theorem inf129:(Tryz.prog.info? 129).map (fun j=>(j.zero,j.size,j.bytes))=some (some (.slice none 0 0),1,24):=by kernel_rfl
theorem inf47:(Tryz.prog.info? 47).map (fun j=>(j.zero,j.size,j.bytes))=some (some (.agg #[.slice none 0 0,.slice none 0 0]),2,48):=by kernel_rfl
theorem inf27:(Tryz.prog.info? 27).map (fun j=>(j.zero,j.size,j.bytes))=some (some (.slice none 0 0),1,24):=by kernel_rfl
theorem inf131:(Tryz.prog.info? 131).map (fun j=>(j.zero,j.size,j.bytes))=some (some (.agg #[.int .i64 0,.slice none 0 0]),2,32):=by kernel_rfl
theorem inf36:(Tryz.prog.info? 36).map (fun j=>(j.zero,j.size,j.bytes))=some (some (.slice none 0 0),1,24):=by kernel_rfl
theorem inf99:(Tryz.prog.info? 99).map (fun j=>(j.zero,j.size,j.bytes))=some (some (.agg #[.slice none 0 0,.slice none 0 0,.slice none 0 0]),3,72):=by kernel_rfl
theorem inf96:(Tryz.prog.info? 96).map (fun j=>(j.zero,j.size,j.bytes))=some (some (.slice none 0 0),1,24):=by kernel_rfl
theorem inf42:(Tryz.prog.info? 42).map (fun j=>(j.zero,j.size,j.bytes))=some (some (.agg #[.slice none 0 0,.slice none 0 0]),2,48):=by kernel_rfl
theorem inf97:(Tryz.prog.info? 97).map (fun j=>(j.zero,j.size,j.bytes))=some (some (.slice none 0 0),1,24):=by kernel_rfl
theorem inf4:(Tryz.prog.info? 4).map (fun j=>(j.zero,j.size,j.bytes))=some (some (.bool false),1,1):=by kernel_rfl
theorem inf238:(Tryz.prog.info? 238).map (fun j=>(j.zero,j.size,j.bytes))=some (some (.agg #[.int .i64 0,.int .i64 0,.int .i64 0,.int .i64 0]),4,32):=by kernel_rfl
theorem inf156:(Tryz.prog.info? 156).map (fun j=>(j.zero,j.size,j.bytes))=some (some (.slice none 0 0),1,24):=by kernel_rfl
theorem inf159:(Tryz.prog.info? 159).map (fun j=>(j.zero,j.size,j.bytes))=some (some (.agg #[.int .i64 0,.int .i64 0,.int .i64 0,.int .i64 0]),4,32):=by kernel_rfl
theorem inf22:(Tryz.prog.info? 22).map (fun j=>(j.zero,j.size,j.bytes))=some (some (.slice none 0 0),1,24):=by kernel_rfl
theorem inf228:(Tryz.prog.info? 228).map (fun j=>(j.zero,j.size,j.bytes))=some (some (.slice none 0 0),1,24):=by kernel_rfl
theorem inf230:(Tryz.prog.info? 230).map (fun j=>(j.zero,j.size,j.bytes))=some (some (.agg #[.int .i64 0,.int .i64 0]),2,16):=by kernel_rfl
theorem inf141:(Tryz.prog.info? 141).map (fun j=>(j.zero,j.size,j.bytes))=some (some (.agg #[.slice none 0 0,.int .i64 0]),2,32):=by kernel_rfl
theorem inf55:(Tryz.prog.info? 55).map (fun j=>(j.zero,j.size,j.bytes))=some (some (.agg #[.int .i64 0,.int .i64 0,.slice none 0 0]),3,40):=by kernel_rfl
theorem inf227:(Tryz.prog.info? 227).map (fun j=>(j.zero,j.size,j.bytes))=some (some (.agg #[.slice none 0 0,.slice none 0 0]),2,48):=by kernel_rfl
theorem inf109:(Tryz.prog.info? 109).map (fun j=>(j.zero,j.size,j.bytes))=some (some (.agg #[.int .i64 0,.int .i64 0,.slice none 0 0]),3,40):=by kernel_rfl
theorem inf283:(Tryz.prog.info? 283).map (fun j=>(j.zero,j.size,j.bytes))=some (some (.agg #[.int .i64 0,.int .i64 0,.int .i64 0,.int .i64 0,.slice none 0 0,.int .i64 0,.int .i64 0,.int .i64 0,.slice none 0 0,.int .i64 0]),10,112):=by kernel_rfl
theorem inf51:(Tryz.prog.info? 51).map (fun j=>(j.zero,j.size,j.bytes))=some (some (.agg #[.slice none 0 0,.slice none 0 0]),2,48):=by kernel_rfl
theorem inf49:(Tryz.prog.info? 49).map (fun j=>(j.zero,j.size,j.bytes))=some (some (.slice none 0 0),1,24):=by kernel_rfl
theorem inf52:(Tryz.prog.info? 52).map (fun j=>(j.zero,j.size,j.bytes))=some (some (.slice none 0 0),1,24):=by kernel_rfl
theorem inf53:(Tryz.prog.info? 53).map (fun j=>(j.zero,j.size,j.bytes))=some (some (.slice none 0 0),1,24):=by kernel_rfl
theorem inf225:(Tryz.prog.info? 225).map (fun j=>(j.zero,j.size,j.bytes))=some (some (.pointer none),1,8):=by kernel_rfl
theorem inf186:(Tryz.prog.info? 186).map (fun j=>(j.zero,j.size,j.bytes))=some (some (.slice none 0 0),1,24):=by kernel_rfl
theorem inf269:(Tryz.prog.info? 269).map (fun j=>(j.zero,j.size,j.bytes))=some (some (.map none),1,8):=by kernel_rfl
theorem inf273:(Tryz.prog.info? 273).map (fun j=>(j.zero,j.size,j.bytes))=some (some (.agg #[.int .i64 0,.int .i64 0,.int .i64 0,.int .i64 0]),4,32):=by kernel_rfl
theorem inf5:(Tryz.prog.info? 5).map (fun j=>(j.zero,j.size,j.bytes))=some (some (.int .u8 0),1,1):=by kernel_rfl
theorem inf206:(Tryz.prog.info? 206).map (fun j=>(j.zero,j.size,j.bytes))=some (some (.pointer none),1,8):=by kernel_rfl
theorem inf188:(Tryz.prog.info? 188).map (fun j=>(j.zero,j.size,j.bytes))=some (some (.agg #[.int .i64 0,.slice none 0 0]),2,32):=by kernel_rfl
theorem inf254:(Tryz.prog.info? 254).map (fun j=>(j.zero,j.size,j.bytes))=some (some (.int .u64 0),1,8):=by kernel_rfl
theorem inf271:(Tryz.prog.info? 271).map (fun j=>(j.zero,j.size,j.bytes))=some (some (.slice none 0 0),1,24):=by kernel_rfl
theorem inf295:(Tryz.prog.info? 295).map (fun j=>(j.zero,j.size,j.bytes))=some (some (.map none),1,8):=by kernel_rfl
theorem inf236:(Tryz.prog.info? 236).map (fun j=>(j.zero,j.size,j.bytes))=some (some (.slice none 0 0),1,24):=by kernel_rfl
theorem inf279:(Tryz.prog.info? 279).map (fun j=>(j.zero,j.size,j.bytes))=some (some (.nilFunc),1,8):=by kernel_rfl
theorem inf296:(Tryz.prog.info? 296).map (fun j=>(j.zero,j.size,j.bytes))=some (some (.nilFunc),1,8):=by kernel_rfl
theorem z9:z120 Tryz.prog tab:=tabOk_of (⟨z58 Tryz.underlying3 inf3,⟨z58 Tryz.underlying23 inf23,⟨z58 Tryz.underlying30 inf30,⟨z58 Tryz.underlying74 inf74,⟨z58 Tryz.underlying28 inf28,⟨z58 Tryz.underlying26 inf26,⟨z58 Tryz.underlying133 inf133,⟨z58 Tryz.underlying38 inf38,⟨z58 Tryz.underlying24 inf24,⟨z58 Tryz.underlying33 inf33,⟨z58 Tryz.underlying129 inf129,⟨z58 Tryz.underlying47 inf47,⟨z58 Tryz.underlying27 inf27,⟨z58 Tryz.underlying131 inf131,⟨z58 Tryz.underlying36 inf36,⟨z58 Tryz.underlying99 inf99,⟨z58 Tryz.underlying96 inf96,⟨z58 Tryz.underlying42 inf42,⟨z58 Tryz.underlying97 inf97,⟨z58 Tryz.underlying4 inf4,⟨z58 Tryz.underlying238 inf238,⟨z58 Tryz.underlying156 inf156,⟨z58 Tryz.underlying159 inf159,⟨z58 Tryz.underlying22 inf22,⟨z58 Tryz.underlying228 inf228,⟨z58 Tryz.underlying230 inf230,⟨z58 Tryz.underlying141 inf141,⟨z58 Tryz.underlying55 inf55,⟨z58 Tryz.underlying227 inf227,⟨z58 Tryz.underlying109 inf109,⟨z58 Tryz.underlying283 inf283,⟨z58 Tryz.underlying51 inf51,⟨z58 Tryz.underlying49 inf49,⟨z58 Tryz.underlying52 inf52,⟨z58 Tryz.underlying53 inf53,⟨z58 Tryz.underlying225 inf225,⟨z58 Tryz.underlying186 inf186,⟨z58 Tryz.underlying269 inf269,⟨z58 Tryz.underlying273 inf273,⟨z58 Tryz.underlying5 inf5,⟨z58 Tryz.underlying206 inf206,⟨z58 Tryz.underlying188 inf188,⟨z58 Tryz.underlying254 inf254,⟨z58 Tryz.underlying271 inf271,⟨z58 Tryz.underlying295 inf295,⟨z58 Tryz.underlying236 inf236,⟨z58 Tryz.underlying279 inf279,⟨z58 Tryz.underlying296 inf296,trivial⟩⟩⟩⟩⟩⟩⟩⟩⟩⟩⟩⟩⟩⟩⟩⟩⟩⟩⟩⟩⟩⟩⟩⟩⟩⟩⟩⟩⟩⟩⟩⟩⟩⟩⟩⟩⟩⟩⟩⟩⟩⟩⟩⟩⟩⟩⟩⟩)
end Go.Proofs.YtnfoijopccdjeaaGreat
namespace Go.Proofs.YtnfoijopccdjeaaGreat
open Go.Gl
attribute [local irreducible] z16
def enI (n:Int):List AC:=[.int n]
def ints (l:List Int):AC:=.list 1 l.length (l.map enI)
def bud (n:Int) (s:Nat):Int:=if n - s < 0 then -1 else n - s
theorem ok:Ok Tryz.prog tab:=⟨z9,by kernel_rfl⟩
structure State where
 a:List Int
 b:List Int
 deriving DecidableEq
def State.cs (s:State):List AC:=[ints s.a,ints s.b]
def State.mx (s:State):Prop:=s.a.length≤maxLen∧s.b.length≤maxLen
def State.sz (s:State):Nat:=s.a.length+s.b.length
theorem z1100 (l:List Int) (n:Int) (hl:l.length≤maxLen) (h0:0≤n) (h1:n≤1048576):CallsA Tryz.prog 55 [ints l,.int n] [] (.int (bud n l.length)) []:=by
 unfold maxLen at hl
 refine z7 z9 Tryz.func55 rfl rfl 12 Tryz.ntmps55 (by simp) ?_
 repeat (first|refine y4 ok _ _ _ _ _ rfl ?_|refine z17 (by kernel_rfl) ?_|refine y50 (by first|omega|(unfold inI;omega)|(dsimp only;omega)) ?_)
 refine z5 (fun h=>?_) (fun h=>?_)
 ·repeat (first|refine y4 ok _ _ _ _ _ rfl ?_|refine z17 (by kernel_rfl) ?_|refine y50 (by first|omega|(unfold inI;omega)|(dsimp only;omega)) ?_)
  have:bud n l.length=-1:=by unfold bud;rw [if_pos h]
  rw [this]
  exact ⟨[],by decide,rfl,rfl,y3 rfl,trivial⟩
 ·repeat (first|refine y4 ok _ _ _ _ _ rfl ?_|refine z17 (by kernel_rfl) ?_|refine y50 (by first|omega|(unfold inI;omega)|(dsimp only;omega)) ?_)
  have:bud n l.length=n - l.length:=by unfold bud;rw [if_neg h]
  rw [this]
  exact ⟨[],by decide,rfl,rfl,y3 rfl,trivial⟩
def lst {α:Type} (w:Nat) (e:α→List AC) (l:List α):AC:=.list w l.length (l.map e)
def tot {α:Type} (f:α→Nat) (l:List α):Nat:=l.length+(l.map f).sum
theorem z172 {α:Type} (f:α→Nat) (l:List α) (k:Nat) (hk:k < l.length):((l.take (k+1)).map f).sum=((l.take k).map f).sum+f l[k]:=by
 rw [y57 hk,y70,List.sum_append];simp only [List.map_cons,List.map_nil,List.sum_cons,List.sum_nil,Nat.add_zero]
theorem z87 {α:Type} (f:α→Nat) (l:List α) (k:Nat):((l.take k).map f).sum≤(l.map f).sum:=by
 conv=>rhs;rw [← List.take_append_drop k l,y70,List.sum_append]
 omega
def State.mxs (l:List State):Prop:=l.length≤maxLen∧∀ s∈l,s.mx
theorem z1097 (l:List Int) (hl:l.length≤1048576):CallsA Tryz.prog 59 [ints l] [] (ints l) []:=by
 refine z7 z9 Tryz.func59 rfl rfl 22 Tryz.ntmps59 (by simp) ?_
 repeat (first|refine y4 ok _ _ _ _ _ rfl ?_|refine z17 (by kernel_rfl) ?_|refine y50 (by first|omega|(unfold inI;omega)|(dsimp only;omega)) ?_)
 refine z110 (fun k:Nat=>([(0,ints l),(3,.sref 0 0 l.length),(4,.int k)],[.cells 1 ((l.take k).map enI++List.replicate (l.length - k) (enI 0))])) (fun k=>k≤l.length) (fun k=>l.length - k) 0 (by omega)
  ⟨[0],rfl,by decide,rfl,⟨⟨rfl,rfl⟩,⟨rfl,rfl⟩,⟨rfl,rfl⟩,trivial⟩,⟨z25 (by rfl) (z52 (z4 fun _=>rfl) (z19 rfl)),trivial⟩⟩ ?_
 ·intro k hk
  repeat (first|refine y4 ok _ _ _ _ _ rfl ?_|refine z17 (by kernel_rfl) ?_|refine y50 (by first|omega|(unfold inI;omega)|(dsimp only;omega)) ?_)
  refine z5 (fun h=>?_) (fun h=>?_)
  ·repeat (first|refine y4 ok _ _ _ _ _ rfl ?_|refine z17 (by kernel_rfl) ?_|refine y50 (by first|omega|(unfold inI;omega)|(dsimp only;omega)) ?_)
   refine ⟨_,z94 _ _ _ (by omega),?_⟩
   repeat (first|refine y4 ok _ _ _ _ _ rfl ?_|refine z17 (by kernel_rfl) ?_|refine y50 (by first|omega|(unfold inI;omega)|(dsimp only;omega)) ?_)
   refine ⟨enI 0,z262 _ _ _ _ (by omega),?_⟩
   repeat (first|refine y4 ok _ _ _ _ _ rfl ?_|refine z17 (by kernel_rfl) ?_|refine y50 (by first|omega|(unfold inI;omega)|(dsimp only;omega)) ?_)
   exact ⟨k+1,[0],by omega,by omega,rfl,by decide,rfl,⟨⟨rfl,rfl⟩,⟨rfl,rfl⟩,⟨rfl,rfl⟩,trivial⟩,⟨z25 (z39 (z261 _ _ _ _ (by omega))) (z52 (z4 fun _=>rfl) (z19 rfl)),trivial⟩⟩
  ·refine y4 ok _ _ _ _ _ rfl ?_
   obtain rfl:k=l.length:=by omega
   refine y92 (SealL.reach (π:=[]) (Bn:=[0]) (env:=[(3,ints l)]) (objs:=[]) ⟨rfl,rfl,by simp,rfl,by simp,⟨?_,trivial⟩,rfl⟩) ?_
   ·exact z329 rfl rfl rfl (by simp) (z125 (fun a x hx=>by cases hx with|head=>rfl|tail _ h=>cases h) l) (by simp)
   repeat (first|refine y4 ok _ _ _ _ _ rfl ?_|refine z17 (by kernel_rfl) ?_|refine y50 (by first|omega|(unfold inI;omega)|(dsimp only;omega)) ?_)
   exact ⟨[],by decide,rfl,rfl,y3 rfl,trivial⟩
def State.small (s:State):Prop:=s.a.length≤1048576∧s.b.length≤1048576
theorem State.unown (s:State):∀ x∈s.cs,x.unown=x:=fun x hx=>by
 simp only [State.cs,List.mem_cons,List.not_mem_nil,or_false] at hx
 rcases hx with rfl|rfl<;>rfl
theorem z562 (a b:List Int) (ha:a.length≤maxLen) (hb:b.length≤maxLen):CallsA Tryz.prog 64 [ints a,ints b] [] (.bool (decide (a=b))) []:=by
 unfold maxLen at ha hb
 refine z7 z9 Tryz.func64 rfl rfl 26 Tryz.ntmps64 (by simp) ?_
 repeat (first|refine y4 ok _ _ _ _ _ rfl ?_|refine z17 (by kernel_rfl) ?_|refine y50 (by first|omega|(unfold inI;omega)|(dsimp only;omega)) ?_)
 refine z28 (fun h=>?_) (fun h=>?_)
 ·repeat (first|refine y4 ok _ _ _ _ _ rfl ?_|refine z17 (by kernel_rfl) ?_|refine y50 (by first|omega|(unfold inI;omega)|(dsimp only;omega)) ?_)
  have hne:a≠b:=by rintro rfl;exact h rfl
  rw [y90 hne]
  exact ⟨[],by decide,rfl,rfl,y3 rfl,trivial⟩
 ·have hl:a.length=b.length:=by omega
  repeat (first|refine y4 ok _ _ _ _ _ rfl ?_|refine z17 (by kernel_rfl) ?_|refine y50 (by first|omega|(unfold inI;omega)|(dsimp only;omega)) ?_)
  refine z110 (fun k:Nat=>([(0,ints a),(1,ints b),(5,.int k)],[])) (fun k=>k≤a.length∧a.take k=b.take k) (fun k=>a.length - k) 0 (by simp)
   ⟨[],rfl,by decide,rfl,⟨⟨rfl,rfl⟩,⟨rfl,rfl⟩,⟨rfl,rfl⟩,trivial⟩,trivial⟩ ?_
  intro k hk
  repeat (first|refine y4 ok _ _ _ _ _ rfl ?_|refine z17 (by kernel_rfl) ?_|refine y50 (by first|omega|(unfold inI;omega)|(dsimp only;omega)) ?_)
  refine z5 (fun h=>?_) (fun h=>?_)
  ·have hka:k < a.length:=by omega
   repeat (first|refine y4 ok _ _ _ _ _ rfl ?_|refine z17 (by kernel_rfl) ?_|refine y50 (by first|omega|(unfold inI;omega)|(dsimp only;omega)) ?_)
   refine ⟨_,z94 _ _ _ (by omega),?_⟩
   repeat (first|refine y4 ok _ _ _ _ _ rfl ?_|refine z17 (by kernel_rfl) ?_|refine y50 (by first|omega|(unfold inI;omega)|(dsimp only;omega)) ?_)
   refine ⟨_,z94 _ _ _ (by omega),?_⟩
   repeat (first|refine y4 ok _ _ _ _ _ rfl ?_|refine z17 (by kernel_rfl) ?_|refine y50 (by first|omega|(unfold inI;omega)|(dsimp only;omega)) ?_)
   refine z28 (fun h=>?_) (fun h=>?_)
   ·repeat (first|refine y4 ok _ _ _ _ _ rfl ?_|refine z17 (by kernel_rfl) ?_|refine y50 (by first|omega|(unfold inI;omega)|(dsimp only;omega)) ?_)
    have hne:a≠b:=by rintro rfl;exact h rfl
    rw [y90 hne]
    exact ⟨[],by decide,rfl,rfl,y3 rfl,trivial⟩
   ·repeat (first|refine y4 ok _ _ _ _ _ rfl ?_|refine z17 (by kernel_rfl) ?_|refine y50 (by first|omega|(unfold inI;omega)|(dsimp only;omega)) ?_)
    refine ⟨k+1,[],⟨by omega,?_⟩,by omega,rfl,by decide,rfl,⟨⟨rfl,rfl⟩,⟨rfl,rfl⟩,⟨rfl,rfl⟩,trivial⟩,trivial⟩
    have h' : a[k]=b[k]:=h
    rw [y57 hka,y57 (by omega),hk.2,h']
  ·repeat (first|refine y4 ok _ _ _ _ _ rfl ?_|refine z17 (by kernel_rfl) ?_|refine y50 (by first|omega|(unfold inI;omega)|(dsimp only;omega)) ?_)
   have he:a=b:=by
    have:=hk.2
    rwa [y63 (by omega),y63 (by omega)] at this
   rw [y89 he]
   exact ⟨[],by decide,rfl,rfl,y3 rfl,trivial⟩
theorem z1042 (s t:State) (hs:s.mx) (ht:t.mx):CallsA Tryz.prog 63 [.agg s.cs,.agg t.cs] [] (.bool (decide (s=t))) []:=by
 refine z7 z9 Tryz.func63 rfl rfl 17 Tryz.ntmps63 (by simp) ?_
 repeat (first|refine y4 ok _ _ _ _ _ rfl ?_|refine z17 (by kernel_rfl) ?_|refine y50 (by first|omega|(unfold inI;omega)|(dsimp only;omega)) ?_)
 refine z0 (z562 s.a t.a hs.1 ht.1) ?_ ?_ ?_
 ·rfl
 ·rfl
 repeat (first|refine y4 ok _ _ _ _ _ rfl ?_|refine z17 (by kernel_rfl) ?_|refine y50 (by first|omega|(unfold inI;omega)|(dsimp only;omega)) ?_)
 refine z28 (fun h=>?_) (fun h=>?_)
 ·repeat (first|refine y4 ok _ _ _ _ _ rfl ?_|refine z17 (by kernel_rfl) ?_|refine y50 (by first|omega|(unfold inI;omega)|(dsimp only;omega)) ?_)
  have:s≠t:=by rintro rfl;exact h rfl
  rw [y90 this]
  exact ⟨[],by decide,rfl,rfl,y3 rfl,trivial⟩
 ·repeat (first|refine y4 ok _ _ _ _ _ rfl ?_|refine z17 (by kernel_rfl) ?_|refine y50 (by first|omega|(unfold inI;omega)|(dsimp only;omega)) ?_)
  refine z0 (z562 s.b t.b hs.2 ht.2) ?_ ?_ ?_
  ·rfl
  ·rfl
  repeat (first|refine y4 ok _ _ _ _ _ rfl ?_|refine z17 (by kernel_rfl) ?_|refine y50 (by first|omega|(unfold inI;omega)|(dsimp only;omega)) ?_)
  refine z28 (fun h2=>?_) (fun h2=>?_)
  ·repeat (first|refine y4 ok _ _ _ _ _ rfl ?_|refine z17 (by kernel_rfl) ?_|refine y50 (by first|omega|(unfold inI;omega)|(dsimp only;omega)) ?_)
   have:s≠t:=by rintro rfl;exact h2 rfl
   rw [y90 this]
   exact ⟨[],by decide,rfl,rfl,y3 rfl,trivial⟩
  ·repeat (first|refine y4 ok _ _ _ _ _ rfl ?_|refine z17 (by kernel_rfl) ?_|refine y50 (by first|omega|(unfold inI;omega)|(dsimp only;omega)) ?_)
   have:s=t:=by cases s;cases t;simp_all
   rw [y89 this]
   exact ⟨[],by decide,rfl,rfl,y3 rfl,trivial⟩
theorem z899 (a b:List State) (ha:State.mxs a) (hb:State.mxs b):CallsA Tryz.prog 19 [lst 2 State.cs a,lst 2 State.cs b] [] (.bool (decide (a=b))) []:=by
 obtain ⟨ha,hma⟩:=ha
 obtain ⟨hb,hmb⟩:=hb
 unfold maxLen at ha hb
 refine z7 z9 Tryz.func19 rfl rfl 27 Tryz.ntmps19 (by simp) ?_
 repeat (first|refine y4 ok _ _ _ _ _ rfl ?_|refine z17 (by kernel_rfl) ?_|refine y50 (by first|omega|(unfold inI;omega)|(dsimp only;omega)) ?_)
 refine z28 (fun h=>?_) (fun h=>?_)
 ·repeat (first|refine y4 ok _ _ _ _ _ rfl ?_|refine z17 (by kernel_rfl) ?_|refine y50 (by first|omega|(unfold inI;omega)|(dsimp only;omega)) ?_)
  have hne:a≠b:=by rintro rfl;exact h rfl
  rw [y90 hne]
  exact ⟨[],by decide,rfl,rfl,y3 rfl,trivial⟩
 ·have hl:a.length=b.length:=by omega
  repeat (first|refine y4 ok _ _ _ _ _ rfl ?_|refine z17 (by kernel_rfl) ?_|refine y50 (by first|omega|(unfold inI;omega)|(dsimp only;omega)) ?_)
  refine z110 (fun k:Nat=>([(0,lst 2 State.cs a),(1,lst 2 State.cs b),(5,.int k)],[])) (fun k=>k≤a.length∧a.take k=b.take k) (fun k=>a.length - k) 0 (by simp)
   ⟨[],rfl,by decide,rfl,⟨⟨rfl,rfl⟩,⟨rfl,rfl⟩,⟨rfl,rfl⟩,trivial⟩,trivial⟩ ?_
  intro k hk
  repeat (first|refine y4 ok _ _ _ _ _ rfl ?_|refine z17 (by kernel_rfl) ?_|refine y50 (by first|omega|(unfold inI;omega)|(dsimp only;omega)) ?_)
  refine z5 (fun h=>?_) (fun h=>?_)
  ·have hka:k < a.length:=by omega
   repeat (first|refine y4 ok _ _ _ _ _ rfl ?_|refine z17 (by kernel_rfl) ?_|refine y50 (by first|omega|(unfold inI;omega)|(dsimp only;omega)) ?_)
   refine ⟨_,z94 _ _ _ (by omega),?_⟩
   repeat (first|refine y4 ok _ _ _ _ _ rfl ?_|refine z17 (by kernel_rfl) ?_|refine y50 (by first|omega|(unfold inI;omega)|(dsimp only;omega)) ?_)
   refine ⟨_,z94 _ _ _ (by omega),?_⟩
   repeat (first|refine y4 ok _ _ _ _ _ rfl ?_|refine z17 (by kernel_rfl) ?_|refine y50 (by first|omega|(unfold inI;omega)|(dsimp only;omega)) ?_)
   refine z0 (z1042 a[k] b[k] (hma _ (y51 _)) (hmb _ (y51 _))) ?_ ?_ ?_
   ·rfl
   ·rfl
   repeat (first|refine y4 ok _ _ _ _ _ rfl ?_|refine z17 (by kernel_rfl) ?_|refine y50 (by first|omega|(unfold inI;omega)|(dsimp only;omega)) ?_)
   refine z28 (fun h=>?_) (fun h=>?_)
   ·repeat (first|refine y4 ok _ _ _ _ _ rfl ?_|refine z17 (by kernel_rfl) ?_|refine y50 (by first|omega|(unfold inI;omega)|(dsimp only;omega)) ?_)
    have hne:a≠b:=by rintro rfl;exact h rfl
    rw [y90 hne]
    exact ⟨[],by decide,rfl,rfl,y3 rfl,trivial⟩
   ·repeat (first|refine y4 ok _ _ _ _ _ rfl ?_|refine z17 (by kernel_rfl) ?_|refine y50 (by first|omega|(unfold inI;omega)|(dsimp only;omega)) ?_)
    refine ⟨k+1,[],⟨by omega,?_⟩,by omega,rfl,by decide,rfl,⟨⟨rfl,rfl⟩,⟨rfl,rfl⟩,⟨rfl,rfl⟩,trivial⟩,trivial⟩
    have h' : a[k]=b[k]:=h
    rw [y57 hka,y57 (by omega),hk.2,h']
  ·repeat (first|refine y4 ok _ _ _ _ _ rfl ?_|refine z17 (by kernel_rfl) ?_|refine y50 (by first|omega|(unfold inI;omega)|(dsimp only;omega)) ?_)
   have he:a=b:=by
    have:=hk.2
    rwa [y63 (by omega),y63 (by omega)] at this
   rw [y89 he]
   exact ⟨[],by decide,rfl,rfl,y3 rfl,trivial⟩
def z20 {α:Type} (e:α→List AC) (a:α):AC:=.agg (e a)
theorem z611 (l:List Tree) (n:Int) (hl:l.length≤maxLen) (hel:∀ s∈l,∀ n:Int,0≤n→n≤1048576→CallsA Tryz.prog 57 [z20 Tree.cs' s,.int n] [] (.int (bud n (Tree.sz s))) []) (h0:0≤n) (h1:n≤1048576):CallsA Tryz.prog 14 [lst 3 Tree.cs' l,.int n] [] (.int (bud n (tot Tree.sz l))) []:=by
 unfold maxLen at hl
 refine z7 z9 Tryz.func14 rfl rfl 27 Tryz.ntmps14 (by simp) ?_
 repeat (first|refine y4 ok _ _ _ _ _ rfl ?_|refine z17 (by kernel_rfl) ?_|refine y50 (by first|omega|(unfold inI;omega)|(dsimp only;omega)) ?_)
 refine z5 (fun h=>?_) (fun h=>?_)
 ·repeat (first|refine y4 ok _ _ _ _ _ rfl ?_|refine z17 (by kernel_rfl) ?_|refine y50 (by first|omega|(unfold inI;omega)|(dsimp only;omega)) ?_)
  have:bud n (tot Tree.sz l)=-1:=by unfold bud tot;rw [if_pos (by omega)]
  rw [this]
  exact ⟨[],by decide,rfl,rfl,y3 rfl,trivial⟩
 ·repeat (first|refine y4 ok _ _ _ _ _ rfl ?_|refine z17 (by kernel_rfl) ?_|refine y50 (by first|omega|(unfold inI;omega)|(dsimp only;omega)) ?_)
  refine z110 (fun k:Nat=>([(0,lst 3 Tree.cs' l),(1,.int (n - l.length - ((l.take k).map Tree.sz).sum)),(5,.int k)],[])) (fun k=>k≤l.length∧0≤n - l.length - ((l.take k).map Tree.sz).sum) (fun k=>l.length - k) 0 ⟨by omega,by simp;omega⟩
   ⟨[],rfl,by decide,rfl,⟨⟨rfl,rfl⟩,⟨rfl,by simp;rfl⟩,⟨rfl,rfl⟩,trivial⟩,trivial⟩ ?_
  intro k hk
  obtain ⟨hk1,hk2⟩:=hk
  repeat (first|refine y4 ok _ _ _ _ _ rfl ?_|refine z17 (by kernel_rfl) ?_|refine y50 (by first|omega|(unfold inI;omega)|(dsimp only;omega)) ?_)
  refine z5 (fun h=>?_) (fun h=>?_)
  ·have hkl:k < l.length:=by omega
   repeat (first|refine y4 ok _ _ _ _ _ rfl ?_|refine z17 (by kernel_rfl) ?_|refine y50 (by first|omega|(unfold inI;omega)|(dsimp only;omega)) ?_)
   refine ⟨_,z94 _ _ _ hkl,?_⟩
   repeat (first|refine y4 ok _ _ _ _ _ rfl ?_|refine z17 (by kernel_rfl) ?_|refine y50 (by first|omega|(unfold inI;omega)|(dsimp only;omega)) ?_)
   refine z0 (hel l[k] (y51 _) _ hk2 (by omega)) ?_ ?_ ?_
   ·rfl
   ·rfl
   repeat (first|refine y4 ok _ _ _ _ _ rfl ?_|refine z17 (by kernel_rfl) ?_|refine y50 (by first|omega|(unfold inI;omega)|(dsimp only;omega)) ?_)
   have e:=z172 Tree.sz l k hkl
   have e2:=z87 Tree.sz l (k+1)
   refine z5 (fun h=>?_) (fun h=>?_)
   ·repeat (first|refine y4 ok _ _ _ _ _ rfl ?_|refine z17 (by kernel_rfl) ?_|refine y50 (by first|omega|(unfold inI;omega)|(dsimp only;omega)) ?_)
    have:bud n (tot Tree.sz l)=-1:=by unfold bud at h ⊢;unfold tot;split at h<;>rw [if_pos (by omega)]<;>omega
    rw [this]
    exact ⟨[],by decide,rfl,rfl,y3 rfl,trivial⟩
   ·repeat (first|refine y4 ok _ _ _ _ _ rfl ?_|refine z17 (by kernel_rfl) ?_|refine y50 (by first|omega|(unfold inI;omega)|(dsimp only;omega)) ?_)
    have e3:bud (n - l.length - ((l.take k).map Tree.sz).sum) (Tree.sz l[k])=n - l.length - ((l.take (k+1)).map Tree.sz).sum:=by unfold bud at h ⊢;split at h<;>rename_i hh<;>(first|rw [if_pos hh]|rw [if_neg hh])<;>omega
    refine ⟨k+1,[],⟨by omega,?_⟩,by omega,rfl,by decide,rfl,⟨⟨rfl,rfl⟩,⟨rfl,?_⟩,⟨rfl,rfl⟩,trivial⟩,trivial⟩
    ·rw [← e3];omega
    ·rw [← e3];rfl
  ·repeat (first|refine y4 ok _ _ _ _ _ rfl ?_|refine z17 (by kernel_rfl) ?_|refine y50 (by first|omega|(unfold inI;omega)|(dsimp only;omega)) ?_)
   obtain rfl:k=l.length:=by omega
   rw [y62] at hk2
   have:bud n (tot Tree.sz l)=n - l.length - (l.map Tree.sz).sum:=by unfold bud tot;rw [if_neg (by omega)];omega
   rw [this,y62]
   exact ⟨[],by decide,rfl,rfl,y3 rfl,trivial⟩
theorem z509 (t:Tree):t.mx→∀ n:Int,0≤n→n≤1048576→CallsA Tryz.prog 57 [z20 Tree.cs' t,.int n] [] (.int (bud n t.sz)) []:=by
 induction t using y32 with|h t ih=>?_
 intro hm n h0 h1
 rw [y34] at hm
 have hk:=z611 t.kids n hm.1 (fun s hs=>ih s hs (hm.2 s hs)) h0 h1
 refine z7 z9 Tryz.func57 rfl rfl 12 Tryz.ntmps57 (by simp) ?_
 repeat (first|refine y4 ok _ _ _ _ _ rfl ?_|refine z17 (by kernel_rfl) ?_|refine y50 (by first|omega|(unfold inI;omega)|(dsimp only;omega)) ?_)
 refine z0 hk ?_ ?_ ?_
 ·show [AC.list 3 t.kids.length (t.kids.map Tree.cs),.int n]=_
  rw [y33]
  rfl
 ·rfl
 repeat (first|refine y4 ok _ _ _ _ _ rfl ?_|refine z17 (by kernel_rfl) ?_|refine y50 (by first|omega|(unfold inI;omega)|(dsimp only;omega)) ?_)
 have e:bud n (tot Tree.sz t.kids)=bud n t.sz:=by rw [y44];rfl
 rw [e]
 refine z5 (fun h=>?_) (fun h=>?_)
 ·repeat (first|refine y4 ok _ _ _ _ _ rfl ?_|refine z17 (by kernel_rfl) ?_|refine y50 (by first|omega|(unfold inI;omega)|(dsimp only;omega)) ?_)
  have:bud n t.sz=-1:=by unfold bud at h ⊢;split at h<;>rename_i hh<;>(first|rw [if_pos hh]|rw [if_neg hh])<;>omega
  rw [this]
  exact ⟨[],by decide,rfl,rfl,y3 rfl,trivial⟩
 ·repeat (first|refine y4 ok _ _ _ _ _ rfl ?_|refine z17 (by kernel_rfl) ?_|refine y50 (by first|omega|(unfold inI;omega)|(dsimp only;omega)) ?_)
  exact ⟨[],by decide,rfl,rfl,y3 rfl,trivial⟩
theorem z986 (l:List Tree) (n:Int) (hl:l.length≤maxLen) (hm:∀ t∈l,t.mx) (h0:0≤n) (h1:n≤1048576):CallsA Tryz.prog 14 [lst 3 Tree.cs' l,.int n] [] (.int (bud n (tot Tree.sz l))) [] :=
 z611 l n hl (fun s hs=>z509 s (hm s hs)) h0 h1
theorem Tree.unown (t:Tree):∀ x∈Tree.cs' t,x.unown=x:=fun x hx=>by
 simp only [Tree.cs',List.mem_cons,List.not_mem_nil,or_false] at hx
 rcases hx with rfl|rfl|rfl<;>rfl
theorem z610 (l:List Tree) (hl:l.length≤1048576) (hel:∀ s∈l,CallsA Tryz.prog 61 [z20 Tree.cs' s] [] (z20 Tree.cs' s) []):CallsA Tryz.prog 17 [lst 3 Tree.cs' l] [] (lst 3 Tree.cs' l) []:=by
 refine z7 z9 Tryz.func17 rfl rfl 23 Tryz.ntmps17 (by simp) ?_
 repeat (first|refine y4 ok _ _ _ _ _ rfl ?_|refine z17 (by kernel_rfl) ?_|refine y50 (by first|omega|(unfold inI;omega)|(dsimp only;omega)) ?_)
 refine z110 (fun k:Nat=>([(0,lst 3 Tree.cs' l),(3,.sref 0 0 l.length),(4,.int k)],[.cells 3 ((l.take k).map Tree.cs'++List.replicate (l.length - k) [.int 0,.int 0,.nils])])) (fun k=>k≤l.length) (fun k=>l.length - k) 0 (by omega)
  ⟨[0],rfl,by decide,rfl,⟨⟨rfl,rfl⟩,⟨rfl,rfl⟩,⟨rfl,rfl⟩,trivial⟩,⟨z25 (by rfl) (z52 (z4 fun _=>rfl) (z19 rfl)),trivial⟩⟩ ?_
 ·intro k hk
  repeat (first|refine y4 ok _ _ _ _ _ rfl ?_|refine z17 (by kernel_rfl) ?_|refine y50 (by first|omega|(unfold inI;omega)|(dsimp only;omega)) ?_)
  refine z5 (fun h=>?_) (fun h=>?_)
  ·repeat (first|refine y4 ok _ _ _ _ _ rfl ?_|refine z17 (by kernel_rfl) ?_|refine y50 (by first|omega|(unfold inI;omega)|(dsimp only;omega)) ?_)
   refine ⟨_,z94 _ _ _ (by omega),?_⟩
   repeat (first|refine y4 ok _ _ _ _ _ rfl ?_|refine z17 (by kernel_rfl) ?_|refine y50 (by first|omega|(unfold inI;omega)|(dsimp only;omega)) ?_)
   refine z0 (hel l[k] (y51 _)) ?_ ?_ ?_
   ·rfl
   ·rfl
   repeat (first|refine y4 ok _ _ _ _ _ rfl ?_|refine z17 (by kernel_rfl) ?_|refine y50 (by first|omega|(unfold inI;omega)|(dsimp only;omega)) ?_)
   refine ⟨[.int 0,.int 0,.nils],z262 _ _ _ _ (by omega),?_⟩
   repeat (first|refine y4 ok _ _ _ _ _ rfl ?_|refine z17 (by kernel_rfl) ?_|refine y50 (by first|omega|(unfold inI;omega)|(dsimp only;omega)) ?_)
   exact ⟨k+1,[0],by omega,by omega,rfl,by decide,rfl,⟨⟨rfl,rfl⟩,⟨rfl,rfl⟩,⟨rfl,rfl⟩,trivial⟩,⟨z25 (z39 (z261 _ _ _ _ (by omega))) (z52 (z4 fun _=>rfl) (z19 rfl)),trivial⟩⟩
  ·refine y4 ok _ _ _ _ _ rfl ?_
   obtain rfl:k=l.length:=by omega
   refine y92 (SealL.reach (π:=[]) (Bn:=[0]) (env:=[(3,lst 3 Tree.cs' l)]) (objs:=[]) ⟨rfl,rfl,by simp,rfl,by simp,⟨?_,trivial⟩,rfl⟩) ?_
   ·exact z329 rfl rfl rfl (by simp) (z125 Tree.unown l) (by simp)
   repeat (first|refine y4 ok _ _ _ _ _ rfl ?_|refine z17 (by kernel_rfl) ?_|refine y50 (by first|omega|(unfold inI;omega)|(dsimp only;omega)) ?_)
   exact ⟨[],by decide,rfl,rfl,y3 rfl,trivial⟩
theorem z505 (t:Tree):t.sz≤1048576→CallsA Tryz.prog 61 [z20 Tree.cs' t] [] (z20 Tree.cs' t) []:=by
 induction t using y32 with|h t ih=>?_
 intro hm
 rw [y44] at hm
 have hk:=z610 t.kids (by omega) (fun s hs=>ih s hs (by
  have:=z180 Tree.sz hs
  omega))
 refine z7 z9 Tryz.func61 rfl rfl 15 Tryz.ntmps61 (by simp) ?_
 repeat (first|refine y4 ok _ _ _ _ _ rfl ?_|refine z17 (by kernel_rfl) ?_|refine y50 (by first|omega|(unfold inI;omega)|(dsimp only;omega)) ?_)
 refine z0 hk ?_ ?_ ?_
 ·show [AC.list 3 t.kids.length (t.kids.map Tree.cs)]=_
  rw [y33]
  rfl
 ·rfl
 repeat (first|refine y4 ok _ _ _ _ _ rfl ?_|refine z17 (by kernel_rfl) ?_|refine y50 (by first|omega|(unfold inI;omega)|(dsimp only;omega)) ?_)
 refine ⟨[],by decide,rfl,rfl,y3 ?_,trivial⟩
 show AC.agg [.int t.kind,.int t.val,.list 3 t.kids.length (t.kids.map Tree.cs')]=AC.agg [.int t.kind,.int t.val,.list 3 t.kids.length (t.kids.map Tree.cs)]
 rw [y33]
theorem z636 (a b:List Tree) (ha:a.length≤maxLen) (hb:b.length≤maxLen) (hel:∀ s∈a,∀ t∈b,CallsA Tryz.prog 66 [z20 Tree.cs' s,z20 Tree.cs' t] [] (.bool (decide (s=t))) []):CallsA Tryz.prog 21 [lst 3 Tree.cs' a,lst 3 Tree.cs' b] [] (.bool (decide (a=b))) []:=by
 unfold maxLen at ha hb
 refine z7 z9 Tryz.func21 rfl rfl 27 Tryz.ntmps21 (by simp) ?_
 repeat (first|refine y4 ok _ _ _ _ _ rfl ?_|refine z17 (by kernel_rfl) ?_|refine y50 (by first|omega|(unfold inI;omega)|(dsimp only;omega)) ?_)
 refine z28 (fun h=>?_) (fun h=>?_)
 ·repeat (first|refine y4 ok _ _ _ _ _ rfl ?_|refine z17 (by kernel_rfl) ?_|refine y50 (by first|omega|(unfold inI;omega)|(dsimp only;omega)) ?_)
  have hne:a≠b:=by rintro rfl;exact h rfl
  rw [y90 hne]
  exact ⟨[],by decide,rfl,rfl,y3 rfl,trivial⟩
 ·have hl:a.length=b.length:=by omega
  repeat (first|refine y4 ok _ _ _ _ _ rfl ?_|refine z17 (by kernel_rfl) ?_|refine y50 (by first|omega|(unfold inI;omega)|(dsimp only;omega)) ?_)
  refine z110 (fun k:Nat=>([(0,lst 3 Tree.cs' a),(1,lst 3 Tree.cs' b),(5,.int k)],[])) (fun k=>k≤a.length∧a.take k=b.take k) (fun k=>a.length - k) 0 (by simp)
   ⟨[],rfl,by decide,rfl,⟨⟨rfl,rfl⟩,⟨rfl,rfl⟩,⟨rfl,rfl⟩,trivial⟩,trivial⟩ ?_
  intro k hk
  repeat (first|refine y4 ok _ _ _ _ _ rfl ?_|refine z17 (by kernel_rfl) ?_|refine y50 (by first|omega|(unfold inI;omega)|(dsimp only;omega)) ?_)
  refine z5 (fun h=>?_) (fun h=>?_)
  ·have hka:k < a.length:=by omega
   repeat (first|refine y4 ok _ _ _ _ _ rfl ?_|refine z17 (by kernel_rfl) ?_|refine y50 (by first|omega|(unfold inI;omega)|(dsimp only;omega)) ?_)
   refine ⟨_,z94 _ _ _ (by omega),?_⟩
   repeat (first|refine y4 ok _ _ _ _ _ rfl ?_|refine z17 (by kernel_rfl) ?_|refine y50 (by first|omega|(unfold inI;omega)|(dsimp only;omega)) ?_)
   refine ⟨_,z94 _ _ _ (by omega),?_⟩
   repeat (first|refine y4 ok _ _ _ _ _ rfl ?_|refine z17 (by kernel_rfl) ?_|refine y50 (by first|omega|(unfold inI;omega)|(dsimp only;omega)) ?_)
   refine z0 (hel a[k] (y51 _) b[k] (y51 _)) ?_ ?_ ?_
   ·rfl
   ·rfl
   repeat (first|refine y4 ok _ _ _ _ _ rfl ?_|refine z17 (by kernel_rfl) ?_|refine y50 (by first|omega|(unfold inI;omega)|(dsimp only;omega)) ?_)
   refine z28 (fun h=>?_) (fun h=>?_)
   ·repeat (first|refine y4 ok _ _ _ _ _ rfl ?_|refine z17 (by kernel_rfl) ?_|refine y50 (by first|omega|(unfold inI;omega)|(dsimp only;omega)) ?_)
    have hne:a≠b:=by rintro rfl;exact h rfl
    rw [y90 hne]
    exact ⟨[],by decide,rfl,rfl,y3 rfl,trivial⟩
   ·repeat (first|refine y4 ok _ _ _ _ _ rfl ?_|refine z17 (by kernel_rfl) ?_|refine y50 (by first|omega|(unfold inI;omega)|(dsimp only;omega)) ?_)
    refine ⟨k+1,[],⟨by omega,?_⟩,by omega,rfl,by decide,rfl,⟨⟨rfl,rfl⟩,⟨rfl,rfl⟩,⟨rfl,rfl⟩,trivial⟩,trivial⟩
    have h' : a[k]=b[k]:=h
    rw [y57 hka,y57 (by omega),hk.2,h']
  ·repeat (first|refine y4 ok _ _ _ _ _ rfl ?_|refine z17 (by kernel_rfl) ?_|refine y50 (by first|omega|(unfold inI;omega)|(dsimp only;omega)) ?_)
   have he:a=b:=by
    have:=hk.2
    rwa [y63 (by omega),y63 (by omega)] at this
   rw [y89 he]
   exact ⟨[],by decide,rfl,rfl,y3 rfl,trivial⟩
theorem z563 (a:Tree):a.mx→∀ b:Tree,b.mx→CallsA Tryz.prog 66 [z20 Tree.cs' a,z20 Tree.cs' b] [] (.bool (decide (a=b))) []:=by
 induction a using y32 with|h a ih=>?_
 intro ha b hb
 rw [y34] at ha hb
 have hk:=z636 a.kids b.kids ha.1 hb.1 (fun s hs t ht=>ih s hs (ha.2 s hs) t (hb.2 t ht))
 refine z7 z9 Tryz.func66 rfl rfl 21 Tryz.ntmps66 (by simp) ?_
 repeat (first|refine y4 ok _ _ _ _ _ rfl ?_|refine z17 (by kernel_rfl) ?_|refine y50 (by first|omega|(unfold inI;omega)|(dsimp only;omega)) ?_)
 refine z28 (fun h=>?_) (fun h1=>?_)
 ·repeat (first|refine y4 ok _ _ _ _ _ rfl ?_|refine z17 (by kernel_rfl) ?_|refine y50 (by first|omega|(unfold inI;omega)|(dsimp only;omega)) ?_)
  have hne:a≠b:=by rintro rfl;exact h rfl
  rw [y90 hne]
  exact ⟨[],by decide,rfl,rfl,y3 rfl,trivial⟩
 repeat (first|refine y4 ok _ _ _ _ _ rfl ?_|refine z17 (by kernel_rfl) ?_|refine y50 (by first|omega|(unfold inI;omega)|(dsimp only;omega)) ?_)
 refine z28 (fun h=>?_) (fun h2=>?_)
 ·repeat (first|refine y4 ok _ _ _ _ _ rfl ?_|refine z17 (by kernel_rfl) ?_|refine y50 (by first|omega|(unfold inI;omega)|(dsimp only;omega)) ?_)
  have hne:a≠b:=by rintro rfl;exact h rfl
  rw [y90 hne]
  exact ⟨[],by decide,rfl,rfl,y3 rfl,trivial⟩
 repeat (first|refine y4 ok _ _ _ _ _ rfl ?_|refine z17 (by kernel_rfl) ?_|refine y50 (by first|omega|(unfold inI;omega)|(dsimp only;omega)) ?_)
 refine z0 hk ?_ ?_ ?_
 ·show [AC.list 3 a.kids.length (a.kids.map Tree.cs),AC.list 3 b.kids.length (b.kids.map Tree.cs)]=_
  rw [y33,y33]
  rfl
 ·rfl
 repeat (first|refine y4 ok _ _ _ _ _ rfl ?_|refine z17 (by kernel_rfl) ?_|refine y50 (by first|omega|(unfold inI;omega)|(dsimp only;omega)) ?_)
 refine z28 (fun h=>?_) (fun h3=>?_)
 ·repeat (first|refine y4 ok _ _ _ _ _ rfl ?_|refine z17 (by kernel_rfl) ?_|refine y50 (by first|omega|(unfold inI;omega)|(dsimp only;omega)) ?_)
  have hne:a≠b:=by rintro rfl;exact h rfl
  rw [y90 hne]
  exact ⟨[],by decide,rfl,rfl,y3 rfl,trivial⟩
 ·repeat (first|refine y4 ok _ _ _ _ _ rfl ?_|refine z17 (by kernel_rfl) ?_|refine y50 (by first|omega|(unfold inI;omega)|(dsimp only;omega)) ?_)
  have he:a=b:=Tree.ext h1 h2 h3
  rw [y89 he]
  exact ⟨[],by decide,rfl,rfl,y3 rfl,trivial⟩
def encL (l:List Int):List AC:=[ints l]
structure Graph where
 st:List State
 nx:List (List Int)
 deriving DecidableEq
def Graph.a1 (g:Graph):AC:=lst 2 State.cs g.st
def Graph.a2 (g:Graph):AC:=lst 1 encL g.nx
def Graph.cs (g:Graph):List AC:=[lst 2 State.cs g.st,lst 1 encL g.nx]
def Graph.s1 (g:Graph):Nat:=tot State.sz g.st
def Graph.s2 (g:Graph):Nat:=tot List.length g.nx
def enB (b:Bool):List AC:=[.bool b]
structure Trans where
 src:Int
 care:Int
 val:Int
 dst:Int
 deriving DecidableEq
def Trans.cs (t:Trans):List AC:=[.int t.src,.int t.care,.int t.val,.int t.dst]
theorem Trans.unown (t:Trans):∀ x∈t.cs,x.unown=x:=fun x hx=>by
 simp only [Trans.cs,List.mem_cons,List.not_mem_nil,or_false] at hx
 rcases hx with rfl|rfl|rfl|rfl<;>rfl
structure Aut where
 ini:List Int
 acc:List Bool
 ed:List Trans
 deriving DecidableEq
def Aut.a1 (a:Aut):AC:=lst 1 enI a.ini
def Aut.a2 (a:Aut):AC:=lst 1 enB a.acc
def Aut.a3 (a:Aut):AC:=lst 4 Trans.cs a.ed
def Aut.cs (a:Aut):List AC:=[lst 1 enI a.ini,lst 1 enB a.acc,lst 4 Trans.cs a.ed]
def Aut.s1 (a:Aut):Nat:=a.ini.length
def Aut.s2 (a:Aut):Nat:=a.acc.length
def Aut.s3 (a:Aut):Nat:=a.ed.length
structure Cert where
 ranks:List Int
 deriving DecidableEq
def Cert.a1 (a:Cert):AC:=lst 1 enI a.ranks
def Cert.cs (a:Cert):List AC:=[lst 1 enI a.ranks]
def Cert.s1 (a:Cert):Nat:=a.ranks.length
end Go.Proofs.YtnfoijopccdjeaaGreat
namespace Go.Proofs.YtnfoijopccdjeaaGreat
open Go.Gl
attribute [local irreducible] z16 AWP z29 z32 z30
def btw (n lo hi:Int):Bool:=decide (lo≤n) && decide (n≤hi)
theorem z119 {n lo hi:Int} : btw n lo hi=true↔lo≤n∧n≤hi:=by simp [btw]
theorem z308 {n lo hi:Int} : btw n lo hi=false↔¬(lo≤n∧n≤hi):=by rw [← z119];simp
theorem z223 (n lo hi:Int):CallsA Tryz.prog 97 [.int n,.int lo,.int hi] [] (.bool (btw n lo hi)) []:=by
 refine z7 z9 Tryz.func97 rfl rfl 15 Tryz.ntmps97 (by simp) ?_
 repeat' (first|(apply y4 ok;rfl;conv=>whnf)|(apply z5<;>intro _<;>conv=>whnf))
 all_goals (refine z21 rfl ?_;(unfold btw;simp [*];done))
def idxF {α:Type} (p:α→Bool) (l:List α):Int:=match l.findIdx? p with
 |some i=>i
 |none=>-1
theorem z140 {α:Type} {p:α→Bool} {l:List α} {i:Nat} (hi:i < l.length) (h:p l[i]=true) (hn:∀ j (hj:j < l.length),j < i→p l[j]=false):idxF p l=i:=by
 have:l.findIdx? p=some i:=List.findIdx?_eq_some_iff_getElem.2 ⟨hi,h,fun j hj=>by simp [hn j (by omega) hj]⟩
 simp [idxF,this]
theorem z129 {α:Type} {p:α→Bool} {l:List α} (hn:∀ j (hj:j < l.length),p l[j]=false):idxF p l=-1:=by
 have:l.findIdx? p=none:=List.findIdx?_eq_none_iff.2 fun x hx=>by
  obtain ⟨i,hi,rfl⟩:=List.mem_iff_getElem.1 hx
  exact hn i hi
 simp [idxF,this]
theorem z191 {α:Type} (p:α→Bool) (l:List α):decide (0≤idxF p l)=l.any p:=by
 unfold idxF
 split
 ·rename_i i e
  obtain ⟨h,hp,_⟩:=List.findIdx?_eq_some_iff_getElem.1 e
  have:l.any p=true:=List.any_eq_true.2 ⟨_,y51 h,hp⟩
  rw [this]
  simp
 ·rename_i e
  have:=List.findIdx?_eq_none_iff.1 e
  have:l.any p=false:=List.any_eq_false.2 fun x hx=>by simp [this x hx]
  rw [this]
  simp
theorem z697 (l:List Int) (hl:l.length≤maxLen) (p:Int→Bool) (f:FuncId) (hf:∀ x∈l,CallsA Tryz.prog f [.int x] [] (.bool (p x)) []):CallsA Tryz.prog 216 [lst 1 enI l,.fn (.func f) [] []] [] (.int (idxF p l)) []:=by
 unfold maxLen at hl
 refine z7 z9 Tryz.func216 rfl rfl 19 Tryz.ntmps216 (by simp) ?_
 repeat' ((apply y4 ok;rfl;conv=>whnf))
 refine z85 (fun k:Nat=>([(0,lst 1 enI l),(1,.fn (.func f) [] []),(7,.int l.length),(8,.int k)],[])) (fun k=>k≤l.length∧∀ j (hj:j < l.length),j < k→p l[j]=false) (fun k=>l.length - k) 0 (by simp)
  ⟨[],rfl,by decide,rfl,⟨⟨rfl,rfl⟩,⟨rfl,rfl⟩,⟨rfl,rfl⟩,⟨rfl,rfl⟩,trivial⟩,trivial⟩ ?_
 intro k hk
 repeat' (first|(apply y4 ok;rfl;conv=>whnf)|(apply y50;(first|omega|(unfold inI;omega));conv=>whnf)|(with_reducible apply z8;omega;intro _;conv=>whnf)|(apply z5<;>intro _<;>conv=>whnf)|(apply z93<;>intro _<;>conv=>whnf)|(apply z0 (hf l[k] (y51 _));rfl;rfl;conv=>whnf))
 ·rename_i h h1
  exact z42 rfl rfl (by rw [z140 (by omega) h1 hk.2];rfl)
 ·rename_i h h1
  refine z78 (k+1) [] ⟨by omega,fun j hj hjk=>?_⟩ (by omega) ⟨rfl,by decide,rfl,⟨⟨rfl,rfl⟩,⟨rfl,rfl⟩,⟨rfl,rfl⟩,⟨rfl,rfl⟩,trivial⟩,trivial⟩
  rcases y76 j k with h2|h2
  ·exact hk.2 j hj h2
  ·obtain rfl:j=k:=by omega
   exact h1
 ·exact z42 rfl rfl (by rw [z129 fun j hj=>hk.2 j hj (by omega)];rfl)
theorem z468 (l:List Int) (hl:l.length≤maxLen) (p:Int→Bool) (f:FuncId) (hf:∀ x∈l,CallsA Tryz.prog f [.int x] [] (.bool (p x)) []):CallsA Tryz.prog 159 [lst 1 enI l,.fn (.func f) [] []] [] (.bool (l.any p)) []:=by
 refine z7 z9 Tryz.func159 rfl rfl 9 Tryz.ntmps159 (by simp) ?_
 repeat' (first|(apply y4 ok;rfl;conv=>whnf)|(apply z0 (z697 l hl p f hf);rfl;rfl;conv=>whnf))
 exact z21 rfl (by rw [← z191])
theorem z980 (n:Int):CallsA Tryz.prog 160 [.int n] [] (.bool (!btw n 0 3)) []:=by
 refine z7 z9 Tryz.func160 rfl rfl 6 Tryz.ntmps160 (by simp) ?_
 repeat' (first|(apply y4 ok;rfl;conv=>whnf)|(apply z0 (z223 n 0 3);rfl;rfl;conv=>whnf))
 exact z21 rfl rfl
def z276 (l:List Int):Bool:=decide ((l.length:Int)=3) && !(l.any fun n=>!btw n 0 3)
theorem z732 (l:List Int) (hl:l.length≤maxLen):CallsA Tryz.prog 96 [ints l] [] (.bool (z276 l)) []:=by
 have hl':=hl
 unfold maxLen at hl'
 have hk:=z468 l hl (fun n=>!btw n 0 3) 160 (fun x _=>z980 x)
 refine z7 z9 Tryz.func96 rfl rfl 11 Tryz.ntmps96 (by simp) ?_
 repeat' (first|(apply y4 ok;rfl;conv=>whnf)|(apply z5<;>intro _<;>conv=>whnf)|(apply z0 (hk);rfl;rfl;conv=>whnf))
 all_goals (refine z21 rfl ?_;(unfold z276;simp [*];done))
end Go.Proofs.YtnfoijopccdjeaaGreat
namespace Go.Proofs.YtnfoijopccdjeaaGreat
open Go.Gl
attribute [local irreducible] z16 z931 z502
theorem z550 (l:List State) (hl:l.length≤maxLen) (p:State→Bool) (f:FuncId) (hf:∀ x∈l,CallsA Tryz.prog f [z20 State.cs x] [] (.bool (p x)) []):CallsA Tryz.prog 107 [lst 2 State.cs l,.fn (.func f) [] []] [] (.int (idxF p l)) []:=by
 unfold maxLen at hl
 refine z7 z9 Tryz.func107 rfl rfl 19 Tryz.ntmps107 (by simp) ?_
 repeat' (((apply y4 ok;rfl))<;>conv=>whnf)
 refine z85 (fun k:Nat=>([(0,lst 2 State.cs l),(1,.fn (.func f) [] []),(7,.int l.length),(8,.int k)],[])) (fun k=>k≤l.length∧∀ j (hj:j < l.length),j < k→p l[j]=false) (fun k=>l.length - k) 0 (by simp)
  ⟨[],rfl,by decide,rfl,⟨⟨rfl,rfl⟩,⟨rfl,rfl⟩,⟨rfl,rfl⟩,⟨rfl,rfl⟩,trivial⟩,trivial⟩ ?_
 intro k hk
 repeat' ((first|(apply y4 ok;rfl)|(apply y50;first|omega|(unfold inI;omega))|(((with_reducible apply z8;omega));intro _)|((first|apply z5|apply z93)<;>intro _)|(apply z0 (hf l[k] (y51 _));rfl;rfl))<;>conv=>whnf)
 ·rename_i h h1
  exact z42 rfl rfl (by rw [z140 (by omega) h1 hk.2];rfl)
 ·rename_i h h1
  refine z78 (k+1) [] ⟨by omega,fun j hj hjk=>?_⟩ (by omega) ⟨rfl,by decide,rfl,⟨⟨rfl,rfl⟩,⟨rfl,rfl⟩,⟨rfl,rfl⟩,⟨rfl,rfl⟩,trivial⟩,trivial⟩
  rcases y76 j k with h2|h2
  ·exact hk.2 j hj h2
  ·obtain rfl:j=k:=by omega
   exact h1
 ·exact z42 rfl rfl (by rw [z129 fun j hj=>hk.2 j hj (by omega)];rfl)
theorem z405 (l:List State) (hl:l.length≤maxLen) (p:State→Bool) (f:FuncId) (hf:∀ x∈l,CallsA Tryz.prog f [z20 State.cs x] [] (.bool (p x)) []):CallsA Tryz.prog 127 [lst 2 State.cs l,.fn (.func f) [] []] [] (.bool (l.any p)) []:=by
 refine z7 z9 Tryz.func127 rfl rfl 9 Tryz.ntmps127 (by simp) ?_
 repeat' ((first|(apply y4 ok;rfl)|(apply z0 (z550 l hl p f hf);rfl;rfl))<;>conv=>whnf)
 exact z21 rfl (by rw [← z191])
theorem z594 (l:List Tree) (hl:l.length≤maxLen) (p:Tree→Bool) (f:FuncId) (hf:∀ x∈l,CallsA Tryz.prog f [z20 Tree.cs' x] [] (.bool (p x)) []):CallsA Tryz.prog 162 [lst 3 Tree.cs' l,.fn (.func f) [] []] [] (.int (idxF p l)) []:=by
 unfold maxLen at hl
 refine z7 z9 Tryz.func162 rfl rfl 19 Tryz.ntmps162 (by simp) ?_
 repeat' (((apply y4 ok;rfl))<;>conv=>whnf)
 refine z85 (fun k:Nat=>([(0,lst 3 Tree.cs' l),(1,.fn (.func f) [] []),(7,.int l.length),(8,.int k)],[])) (fun k=>k≤l.length∧∀ j (hj:j < l.length),j < k→p l[j]=false) (fun k=>l.length - k) 0 (by simp)
  ⟨[],rfl,by decide,rfl,⟨⟨rfl,rfl⟩,⟨rfl,rfl⟩,⟨rfl,rfl⟩,⟨rfl,rfl⟩,trivial⟩,trivial⟩ ?_
 intro k hk
 repeat' ((first|(apply y4 ok;rfl)|(apply y50;first|omega|(unfold inI;omega))|(((with_reducible apply z8;omega));intro _)|((first|apply z5|apply z93)<;>intro _)|(apply z0 (hf l[k] (y51 _));rfl;rfl))<;>conv=>whnf)
 ·rename_i h h1
  exact z42 rfl rfl (by rw [z140 (by omega) h1 hk.2];rfl)
 ·rename_i h h1
  refine z78 (k+1) [] ⟨by omega,fun j hj hjk=>?_⟩ (by omega) ⟨rfl,by decide,rfl,⟨⟨rfl,rfl⟩,⟨rfl,rfl⟩,⟨rfl,rfl⟩,⟨rfl,rfl⟩,trivial⟩,trivial⟩
  rcases y76 j k with h2|h2
  ·exact hk.2 j hj h2
  ·obtain rfl:j=k:=by omega
   exact h1
 ·exact z42 rfl rfl (by rw [z129 fun j hj=>hk.2 j hj (by omega)];rfl)
theorem z438 (l:List Tree) (hl:l.length≤maxLen) (p:Tree→Bool) (f:FuncId) (hf:∀ x∈l,CallsA Tryz.prog f [z20 Tree.cs' x] [] (.bool (p x)) []):CallsA Tryz.prog 101 [lst 3 Tree.cs' l,.fn (.func f) [] []] [] (.bool (l.any p)) []:=by
 refine z7 z9 Tryz.func101 rfl rfl 9 Tryz.ntmps101 (by simp) ?_
 repeat' ((first|(apply y4 ok;rfl)|(apply z0 (z594 l hl p f hf);rfl;rfl))<;>conv=>whnf)
 exact z21 rfl (by rw [← z191])
theorem z551 (c:Int) (l:List (List Int)) (hl:l.length≤maxLen) (p:(List Int)→Bool) (f:FuncId) (hf:∀ x∈l,CallsA Tryz.prog f [ints x,.pt [.int c]] [] (.bool (p x)) []):CallsA Tryz.prog 184 [lst 1 encL l,.fn (.func f) [] [.pt [.int c]]] [] (.int (idxF p l)) []:=by
 unfold maxLen at hl
 refine z7 z9 Tryz.func184 rfl rfl 19 Tryz.ntmps184 (by simp) ?_
 repeat' (((apply y4 ok;rfl))<;>conv=>whnf)
 refine z85 (fun k:Nat=>([(0,lst 1 encL l),(1,.fn (.func f) [] [.pt [.int c]]),(7,.int l.length),(8,.int k)],[])) (fun k=>k≤l.length∧∀ j (hj:j < l.length),j < k→p l[j]=false) (fun k=>l.length - k) 0 (by simp)
  ⟨[],rfl,by decide,rfl,⟨⟨rfl,rfl⟩,⟨rfl,rfl⟩,⟨rfl,rfl⟩,⟨rfl,rfl⟩,trivial⟩,trivial⟩ ?_
 intro k hk
 repeat' ((first|(apply y4 ok;rfl)|(apply y50;first|omega|(unfold inI;omega))|(((with_reducible apply z8;omega));intro _)|((first|apply z5|apply z93)<;>intro _)|(apply z0 (hf l[k] (y51 _));rfl;rfl))<;>conv=>whnf)
 ·rename_i h h1
  exact z42 rfl rfl (by rw [z140 (by omega) h1 hk.2];rfl)
 ·rename_i h h1
  refine z78 (k+1) [] ⟨by omega,fun j hj hjk=>?_⟩ (by omega) ⟨rfl,by decide,rfl,⟨⟨rfl,rfl⟩,⟨rfl,rfl⟩,⟨rfl,rfl⟩,⟨rfl,rfl⟩,trivial⟩,trivial⟩
  rcases y76 j k with h2|h2
  ·exact hk.2 j hj h2
  ·obtain rfl:j=k:=by omega
   exact h1
 ·exact z42 rfl rfl (by rw [z129 fun j hj=>hk.2 j hj (by omega)];rfl)
theorem z406 (c:Int) (l:List (List Int)) (hl:l.length≤maxLen) (p:(List Int)→Bool) (f:FuncId) (hf:∀ x∈l,CallsA Tryz.prog f [ints x,.pt [.int c]] [] (.bool (p x)) []):CallsA Tryz.prog 129 [lst 1 encL l,.fn (.func f) [] [.pt [.int c]]] [] (.bool (l.any p)) []:=by
 refine z7 z9 Tryz.func129 rfl rfl 9 Tryz.ntmps129 (by simp) ?_
 repeat' ((first|(apply y4 ok;rfl)|(apply z0 (z551 c l hl p f hf);rfl;rfl))<;>conv=>whnf)
 exact z21 rfl (by rw [← z191])
end Go.Proofs.YtnfoijopccdjeaaGreat
namespace Go.Proofs.YtnfoijopccdjeaaGreat
open Go.Gl
attribute [local irreducible] z16 AWP z29 z32 z30
theorem z888 (l:List Int) (hl:l.length≤maxLen) (v:Int):CallsA Tryz.prog 167 [ints l,.int v] [] (.int (idxF (fun x=>decide (v=x)) l)) []:=by
 unfold maxLen at hl
 refine z7 z9 Tryz.func167 rfl rfl 19 Tryz.ntmps167 (by simp) ?_
 repeat' (((apply y4 ok;rfl))<;>conv=>whnf)
 refine z85 (fun k:Nat=>([(0,ints l),(1,.int v),(7,.int l.length),(8,.int k)],[])) (fun k=>k≤l.length∧∀ j (hj:j < l.length),j < k→decide (v=l[j])=false) (fun k=>l.length - k) 0 (by simp)
  ⟨[],rfl,by decide,rfl,⟨⟨rfl,rfl⟩,⟨rfl,rfl⟩,⟨rfl,rfl⟩,⟨rfl,rfl⟩,trivial⟩,trivial⟩ ?_
 intro k hk
 repeat' ((first|(apply y4 ok;rfl)|(apply y50;first|omega|(unfold inI;omega))|(((with_reducible apply z8;omega));intro _)|((apply z5)<;>intro _))<;>conv=>whnf)
 ·rename_i h h1
  exact z42 rfl rfl (by rw [z140 (p:=fun x=>decide (v=x)) (by omega) (y89 h1) hk.2];rfl)
 ·rename_i h h1
  refine z78 (k+1) [] ⟨by omega,fun j hj hjk=>?_⟩ (by omega) ⟨rfl,by decide,rfl,⟨⟨rfl,rfl⟩,⟨rfl,rfl⟩,⟨rfl,rfl⟩,⟨rfl,rfl⟩,trivial⟩,trivial⟩
  rcases y76 j k with h2|h2
  ·exact hk.2 j hj h2
  ·obtain rfl:j=k:=by omega
   exact y90 h1
 ·exact z42 rfl rfl (by rw [z129 (p:=fun x=>decide (v=x)) fun j hj=>hk.2 j hj (by omega)];rfl)
theorem z141 (l:List Int) (hl:l.length≤maxLen) (v:Int):CallsA Tryz.prog 109 [ints l,.int v] [] (.bool (decide (v∈l))) []:=by
 refine z7 z9 Tryz.func109 rfl rfl 9 Tryz.ntmps109 (by simp) ?_
 repeat' ((first|(apply y4 ok;rfl)|(apply z0 (z888 l hl v);rfl;rfl))<;>conv=>whnf)
 have e:decide (v∈l)=l.any (fun x=>decide (v=x)):=by
  rw [Bool.eq_iff_iff];simp
 exact z21 rfl (by rw [e,← z191])
theorem z421 {α:Type} (w:Nat) (e:α→List AC) (l:List α) (k:Nat) (hk:k≤l.length):AC.list w ((k:Int).toNat - (0:Int).toNat) (((l.map e).drop (0:Int).toNat).take ((k:Int).toNat - (0:Int).toNat))=lst w e (l.take k):=by
 unfold lst
 rw [y55,List.map_take]
 simp only [y83,Int.toNat_zero,Nat.sub_zero,List.drop_zero]
 rw [Nat.min_eq_left hk]
def Distinct (l:List Int) (n:Int) (k:Nat):Prop:=∀ i (h:i < l.length),i < k→(0≤l[i]∧l[i]≤n - 1)∧l[i] ∉ l.take i
noncomputable instance {l:List Int} {n:Int} {k:Nat} : Decidable (Distinct l n k):=Classical.propDecidable _
theorem z902 (l:List Int) (hl:l.length≤maxLen) (n:Int) (h0:0≤n) (h1:n≤maxLen):CallsA Tryz.prog 131 [ints l,.int n] [] (.bool (decide (Distinct l n l.length))) []:=by
 have hl':=hl
 unfold maxLen at hl' h1
 refine z7 z9 Tryz.func131 rfl rfl 27 Tryz.ntmps131 (by simp) ?_
 repeat' (((apply y4 ok;rfl))<;>conv=>whnf)
 refine z85 (fun k:Nat=>([(0,ints l),(1,.int n),(7,ints l),(8,.int l.length),(9,.int k)],[])) (fun k=>k≤l.length∧Distinct l n k) (fun k=>l.length - k) 0 ⟨by omega,fun i h hi=>by omega⟩
  ⟨[],rfl,by decide,rfl,⟨⟨rfl,rfl⟩,⟨rfl,rfl⟩,⟨rfl,rfl⟩,⟨rfl,rfl⟩,⟨rfl,rfl⟩,trivial⟩,trivial⟩ ?_
 intro k hk
 repeat' ((first|(apply y4 ok;rfl)|(apply y50;first|omega|(unfold inI;omega))|(((with_reducible apply z8;omega));intro _)|((first|apply z5|apply z96)<;>intro _)|(apply z0 (z223 l[k] 0 (n - 1));rfl;rfl))<;>conv=>whnf)
 ·rename_i hb
  refine z21 rfl (y90 fun hd=>?_)
  have:=(hd k ‹_› ‹_›).1
  rw [z308] at hb
  exact hb this
 ·rename_i hb
  apply z0 (z141 (l.take k) (by rw [y55];omega) l[k])
  ·show _=[AC.list 1 _ _,_]
   rw [show AC.list 1 (l.take k).length ((l.take k).map enI)=_ from (z421 1 enI l k hk.1).symm]
   rfl
  ·rfl
  conv=>whnf
  repeat' ((first|(apply y4 ok;rfl)|(apply y50;(unfold inI;omega))|((apply z5)<;>intro _))<;>conv=>whnf)
  ·rename_i h2
   exact z21 rfl (y90 fun hd=>(hd k ‹_› ‹_›).2 h2)
  ·rename_i h2
   refine z78 (k+1) [] ⟨by omega,fun i hi hik=>?_⟩ (by omega) ⟨rfl,by decide,rfl,⟨⟨rfl,rfl⟩,⟨rfl,rfl⟩,⟨rfl,rfl⟩,⟨rfl,rfl⟩,⟨rfl,rfl⟩,trivial⟩,trivial⟩
   rcases y76 i k with h3|h3
   ·exact hk.2 i hi h3
   ·obtain rfl:i=k:=by omega
    exact ⟨z119.1 hb,h2⟩
 ·exact z21 rfl (y89 fun i h hi=>hk.2 i h (by omega))
theorem z601 (s:State) (hs:s.mx):CallsA Tryz.prog 128 [z20 State.cs s] [] (.bool (!z276 s.b)) []:=by
 refine z7 z9 Tryz.func128 rfl rfl 7 Tryz.ntmps128 (by simp) ?_
 repeat' (first|(apply y4 ok;rfl;conv=>whnf)|(apply z0 (z732 s.b hs.2);rfl;rfl;conv=>whnf))
 exact z21 rfl rfl
noncomputable def z848 (n:Int) (l:List Int):Bool:=!decide ((l.length:Int)=0) && decide (Distinct l n l.length)
theorem z600 (c:Int) (h0:0≤c) (h1:c≤maxLen) (l:List Int) (hl:l.length≤maxLen):CallsA Tryz.prog 130 [ints l,.pt [.int c]] [] (.bool (!z848 c l)) []:=by
 have hl':=hl
 unfold maxLen at hl'
 refine z7 z9 Tryz.func130 rfl rfl 13 Tryz.ntmps130 (by simp) ?_
 repeat' (first|(apply y4 ok;rfl;conv=>whnf)|(apply z5<;>intro _<;>conv=>whnf)|(apply z0 (z902 l hl c h0 h1);rfl;rfl;conv=>whnf))
 all_goals (refine z21 rfl ?_;first|(unfold z848;simp [*];done)|(unfold z848;simp_all;done))
def Graph.mx (g:Graph):Prop:=State.mxs g.st∧g.nx.length≤maxLen∧∀ l∈g.nx,l.length≤maxLen
noncomputable def z299 (g:Graph):Bool:=btw g.st.length 1 60 && (decide ((g.nx.length:Int)=g.st.length) && (!(g.st.any fun s=>!z276 s.b) && !(g.nx.any fun l=>!z848 g.st.length l)))
theorem z394 (g:Graph) (hg:g.mx):CallsA Tryz.prog 51 [.agg g.cs] [] (.bool (z299 g)) []:=by
 obtain ⟨hs,hn,hm⟩:=hg
 have hl1:=hs.1
 unfold maxLen at hl1
 have k1:=z405 g.st hs.1 (fun s=>!z276 s.b) 128 (fun s hx=>z601 s (hs.2 s hx))
 have k2:=z406 (g.st.length:Int) g.nx hn (fun l=>!z848 g.st.length l) 130 (fun l hx=>z600 _ (by omega) (by unfold maxLen;omega) l (hm l hx))
 refine z7 z9 Tryz.func51 rfl rfl 29 Tryz.ntmps51 (by simp) ?_
 repeat' (first|(apply y4 ok;rfl;conv=>whnf)|(apply z5<;>intro _<;>conv=>whnf)|(apply z96<;>intro _<;>conv=>whnf)|(apply z93<;>intro _<;>conv=>whnf)|(apply z0 (z223 (g.st.length:Int) 1 60);rfl;rfl;conv=>whnf)|(apply z0 (k1);rfl;rfl;conv=>whnf)|(apply z491 [1] (k2);rfl;rfl;rfl;rfl;conv=>whnf))
 all_goals (refine z21 rfl ?_;(unfold z299;simp [*];done))
theorem z404 {d : Int} (l : List Tree) (hl : l.length ≤ maxLen) (p : Tree → Int → Bool) (nx : Tree → Int → Int) (okS : Int → Prop) (hok : ∀ x s, okS s → p x s = false → okS (nx x s)) (f : FuncId) (s : Int) (h0 : okS s)
    (hf:∀ x∈l,∀ s,okS s→CallsA Tryz.prog f [z20 Tree.cs' x,.pt [.int d],.ptr 1 none 0] [.cells 1 [[.int s]],.cells 1 [[.ptr 0 none 0]]] (.bool (p x s)) [.cells 1 [[.int (nx x s)]],.cells 1 [[.ptr 0 none 0]]]) :
    CallsA Tryz.prog 162 [lst 3 Tree.cs' l,.fn (.func f) [] [.pt [.int d],.ptr 1 none 0]] [.cells 1 [[.int s]],.cells 1 [[.ptr 0 none 0]]] (.int (idxS p nx l s 0).1) [.cells 1 [[.int (idxS p nx l s 0).2]],.cells 1 [[.ptr 0 none 0]]]:=by
  unfold maxLen at hl
  refine z7 z9 Tryz.func162 rfl rfl 19 Tryz.ntmps162 (by simp) ?_
  repeat' (((apply y4 ok;rfl))<;>conv=>whnf)
  refine z85 (fun x:Nat×Int=>([(0,lst 3 Tree.cs' l),(1,.fn (.func f) [] [.pt [.int d],.ptr 1 none 0]),(7,.int l.length),(8,.int x.1)],[.cells 1 [[.int x.2]],.cells 1 [[.ptr 0 none 0]]])) (fun x=>x.1≤l.length∧okS x.2∧idxS p nx l s 0=idxS p nx (l.drop x.1) x.2 x.1) (fun x=>l.length - x.1) (0,s) ⟨by omega,h0,rfl⟩
    ⟨[0,1],rfl,by decide,rfl,⟨⟨rfl,rfl⟩,⟨rfl,rfl⟩,⟨rfl,rfl⟩,⟨rfl,rfl⟩,trivial⟩,⟨z24 rfl rfl,z24 rfl rfl,trivial⟩⟩ ?_
  rintro ⟨k,t⟩ ⟨hk1,hk2,hk3⟩
  dsimp only at hk1 hk2 hk3
  repeat' ((first|(apply y4 ok;rfl)|(apply y50;first|omega|(unfold inI;omega))|(((with_reducible apply z8;omega));intro _)|((first|apply z5|apply z93)<;>intro _)|(apply z266 [0,1] [] (hf l[k] (y51 _) t hk2);rfl;rfl;rfl))<;>conv=>whnf)
  · rename_i h hkl h1
    rw [y86 hkl,idxS,if_pos h1] at hk3
    rw [hk3]
    exact z70 [0,1] (by decide) rfl rfl rfl ⟨z24 rfl rfl,z24 rfl rfl,trivial⟩
  · rename_i h hkl h1
    rw [y86 hkl,idxS,if_neg (by rw [h1];simp)] at hk3
    exact z78 (k+1,nx l[k] t) [0,1] ⟨by dsimp only;omega,hok _ _ hk2 h1,hk3⟩ (by dsimp only;omega) ⟨rfl,by decide,rfl,⟨⟨rfl,rfl⟩,⟨rfl,rfl⟩,⟨rfl,rfl⟩,⟨rfl,rfl⟩,trivial⟩,⟨z24 rfl rfl,z24 rfl rfl,trivial⟩⟩
  · rw [y91 (by omega),idxS] at hk3
    rw [hk3]
    exact z70 [0,1] (by decide) rfl rfl rfl ⟨z24 rfl rfl,z24 rfl rfl,trivial⟩
theorem z604 {d : Int} (l : List Tree) (hl : l.length ≤ maxLen) (p : Tree → Int → Bool) (nx : Tree → Int → Int) (okS : Int → Prop) (hok : ∀ x s, okS s → p x s = false → okS (nx x s)) (f : FuncId) (s : Int) (h0 : okS s)
    (hf:∀ x∈l,∀ s,okS s→CallsA Tryz.prog f [z20 Tree.cs' x,.pt [.int d],.ptr 1 none 0] [.cells 1 [[.int s]],.cells 1 [[.ptr 0 none 0]]] (.bool (p x s)) [.cells 1 [[.int (nx x s)]],.cells 1 [[.ptr 0 none 0]]]) :
    CallsA Tryz.prog 101 [lst 3 Tree.cs' l,.fn (.func f) [] [.pt [.int d],.ptr 1 none 0]] [.cells 1 [[.int s]],.cells 1 [[.ptr 0 none 0]]] (.bool (decide (0≤(idxS p nx l s 0).1))) [.cells 1 [[.int (idxS p nx l s 0).2]],.cells 1 [[.ptr 0 none 0]]]:=by
  refine z7 z9 Tryz.func101 rfl rfl 9 Tryz.ntmps101 (by simp) ?_
  repeat' ((first|(apply y4 ok;rfl)|(apply z266 [0,1] [] (z404 (d:=d) l hl p nx okS hok f s h0 hf);rfl;rfl;rfl))<;>conv=>whnf)
  exact z70 [0,1] (by decide) rfl rfl rfl ⟨z24 rfl rfl,z24 rfl rfl,trivial⟩
theorem walk_ok (t:Tree):t.mx→∀ d n:Int,0≤d→d≤100→0≤n→n≤15→CallsA Tryz.prog 205 [z20 Tree.cs' t,.int d,.ptr 0 none 0] [.cells 1 [[.int n]]] (.bool (t.walkE d n).2) [.cells 1 [[.int (t.walkE d n).1]]]:=by
  induction t using y32 with|h t ih=>?_
  intro hm d n hd0 hd1 h0 h1
  rw [y34] at hm
  have hs:=Tree.walkE_spec.1
  have hk:d≤6→n+1≤15→CallsA Tryz.prog 101 [lst 3 Tree.cs' t.kids,.fn (.func 253) [] [.pt [.int d],.ptr 1 none 0]] [.cells 1 [[.int (n+1)]],.cells 1 [[.ptr 0 none 0]]] (.bool (!(Tree.walkEs t.kids (d+1) (n+1)).2)) [.cells 1 [[.int (Tree.walkEs t.kids (d+1) (n+1)).1]],.cells 1 [[.ptr 0 none 0]]]:=by
    intro hd hn
    have h:=z604 (d:=d) t.kids hm.1 (fun x s=>!(x.walkE (d+1) s).2) (fun x s=>(x.walkE (d+1) s).1) (fun s=>0≤s∧s≤15) (fun x s h1 h2=>by
      obtain ⟨a1,a2,a3,a4⟩:=hs x (d+1) s h1.1 h1.2
      have h3:(x.walkE (d+1) s).2=true:=by simpa using h2
      have:=(a1.1 h3).2
      rw [← a2 h3] at this
      exact ⟨by omega,this⟩) 253 (n+1) ⟨by omega,by omega⟩ (fun x hx s h=>by
        have hc:=ih x hx (hm.2 x hx) (d+1) s (by omega) (by omega) h.1 h.2
        refine z7 z9 Tryz.func253 rfl rfl 11 Tryz.ntmps253 (by simp) ?_
        repeat' ((first|(apply y4 ok;rfl)|(apply y50;(unfold inI;omega))|(apply z266 [0] [] hc;rfl;rfl;rfl))<;>conv=>whnf)
        exact z70 [0,1] (by decide) rfl rfl rfl ⟨z24 rfl rfl,z24 rfl rfl,trivial⟩)
    rw [y47 (d+1) t.kids (n+1) 0,Bool.not_not]
    exact h
  have hk2:=fun h1 h2=>by
    have:=hk h1 h2
    unfold lst at this
    rw [← y22] at this
    exact this
  refine z7 z9 Tryz.func205 rfl rfl 55 Tryz.ntmps205 (by simp) ?_
  repeat' ((first|(apply y4 ok;rfl)|(apply y50;(unfold inI;omega))|((first|apply z5|apply z28|apply z96)<;>intro _)|(apply z0 (z223 _ 1 9);rfl;rfl)|(apply z0 (z223 _ 0 3);rfl;rfl)|(apply z0 (z223 _ 0 2);rfl;rfl)|(apply z0 (z223 _ 0 0);rfl;rfl)|(apply z83 [0,3] [2] [] (hk2 (by omega) (by omega));rfl;rfl;rfl;(focus ((repeat' first|exact z12|apply z15)<;>exact z117 rfl rfl));((refine .inr ⟨rfl,?_⟩;repeat' first|exact True.intro|apply y50|exact rfl))))<;>conv=>whnf)
  all_goals first
    | (have e : t.walkE d n = (n + 1, false) := by
        rw [y46,if_neg]
        clear hk hk2 hs ih
        rintro ⟨c1,c2,c3,c4,c5⟩
        try simp only [z308,z119] at *
        unfold z431 at c4
        unfold z414 at c5
        grind
       rw [e]
       exact z70 [0] (by decide) rfl rfl rfl ⟨z24 rfl rfl,trivial⟩)
    | (have e : t.walkE d n = Tree.walkEs t.kids (d + 1) (n + 1) := by
        rw [y46,if_pos]
        clear hk hk2 hs ih
        try simp only [z308,z119] at *
        unfold z431 z414
        grind
       rw [e]
       refine z70 [0] (by decide) rfl rfl ?_ ⟨z24 rfl rfl,trivial⟩
       show AC.raw (.bool (!!_))=_
       rw [Bool.not_not];rfl)
theorem y17 (t:Tree):z20 Tree.cs' t=.agg [.int t.kind,.int t.val,lst 3 Tree.cs' t.kids]:=by
 simp only [z20,Tree.cs',lst,y33]
theorem z801 (t:Tree) (hm:t.mx):CallsA Tryz.prog 144 [z20 Tree.cs' t] [] (.int (if t.exprB then t.count 6 else 0)) []:=by
 have hk:=walk_ok t hm 1 0 (by omega) (by omega) (by omega) (by omega)
 obtain ⟨_,h2,_,_⟩:=Tree.walkE_spec.1 t 1 0 (by omega) (by omega)
 refine z7 z9 Tryz.func144 rfl rfl 8 Tryz.ntmps144 (by simp) ?_
 repeat' ((first|(apply y4 ok;rfl)|((apply z96)<;>intro _)|(apply z266 [1] [] hk;rfl;rfl;rfl))<;>conv=>whnf)
 ·rename_i h
  exact z42 rfl rfl (by rw [if_neg (by unfold Tree.exprB;rw [h];simp)];rfl)
 ·rename_i h
  have e:=h2 h
  rw [Int.zero_add] at e
  exact z42 rfl rfl (by rw [if_pos (show t.exprB=true from h),show t.count 6=(t.walkE 1 0).1 from e.symm];rfl)
theorem z302 (t:Tree) (hm:t.mx):CallsA Tryz.prog 73 [z20 Tree.cs' t] [] (.bool t.exprB) []:=by
 refine z7 z9 Tryz.func73 rfl rfl 6 Tryz.ntmps73 (by simp) ?_
 repeat' ((first|(apply y4 ok;rfl)|(apply z0 (z801 t hm);rfl;rfl))<;>conv=>whnf)
 refine z21 rfl ?_
 have:=Tree.count_pos.1 t 6
 cases t.exprB
 ·simp
 ·simp;omega
theorem z543 (t:Tree) (hm:t.mx):CallsA Tryz.prog 102 [z20 Tree.cs' t] [] (.bool (!t.exprB)) []:=by
 refine z7 z9 Tryz.func102 rfl rfl 6 Tryz.ntmps102 (by simp) ?_
 repeat' ((first|(apply y4 ok;rfl)|(apply z0 (z302 t hm);rfl;rfl))<;>conv=>whnf)
 exact z21 rfl rfl
def z118 (l:List Tree):Bool:=decide ((l.length:Int)=3) && l.all Tree.exprB
theorem z222 (l:List Tree) (hl:l.length≤maxLen) (hm:∀ t∈l,t.mx):CallsA Tryz.prog 41 [lst 3 Tree.cs' l] [] (.bool (z118 l)) []:=by
 have hk:=z438 l hl (fun t=>!t.exprB) 102 (fun t ht=>z543 t (hm t ht))
 refine z7 z9 Tryz.func41 rfl rfl 11 Tryz.ntmps41 (by simp) ?_
 repeat' ((first|(apply y4 ok;rfl)|((apply z5)<;>intro _)|(apply z0 (hk);rfl;rfl))<;>conv=>whnf)
 ·refine z21 rfl ?_
  rename_i h
  unfold z118
  rw [y89 h,List.all_eq_not_any_not];rfl
 ·refine z21 rfl ?_
  rename_i h
  unfold z118
  rw [y90 h];rfl
theorem z1030 (k:Int):CallsA Tryz.prog 215 [.int k] [] (.int (z414 k)) []:=by
 refine z7 z9 Tryz.func215 rfl rfl 15 Tryz.ntmps215 (by simp) ?_
 repeat' ((first|(apply y4 ok;rfl)|((apply z5)<;>intro _))<;>conv=>whnf)
 all_goals (refine z42 rfl rfl ?_;unfold z414;first|(rw [if_pos (by omega)];rfl)|(rw [if_neg (by omega),if_pos (by omega)];rfl)|(rw [if_neg (by omega),if_neg (by omega),if_pos (by omega)];rfl)|(rw [if_neg (by omega),if_neg (by omega),if_neg (by omega)];rfl))
theorem z998 (l:List Tree) (d:Int):Tree.shapes l d=l.all (fun t=>t.shape d):=by
 induction l with
 |nil=>rfl
 |cons t l ih=>simp [Tree.shapes,ih]
theorem z473 (t:Tree) (d:Int):t.shape d=(decide (1≤d∧(t.kids.length:Int)=z414 t.kind∧0≤t.val∧t.val≤z431 t.kind) && t.kids.all fun t=>t.shape (d - 1)):=by
 cases t;simp only [Tree.shape,Tree.kids,Tree.kind,Tree.val,z998];rfl
theorem z1028 (t:Tree):t.mx→∀ d:Int,-100≤d→d≤100→CallsA Tryz.prog 169 [z20 Tree.cs' t,.int d] [] (.bool (t.shape d)) []:=by
  induction t using y32 with|h t ih=>?_
  intro hm d h0 h1
  rw [y34] at hm
  have hl:=hm.1
  unfold maxLen at hl
  rw [y17,z473]
  refine z7 z9 Tryz.func169 rfl rfl 49 Tryz.ntmps169 (by simp) ?_
  repeat' ((first|(apply y4 ok;rfl)|(apply z17;kernel_rfl)|((first|apply z5|apply z28)<;>intro _)|(apply z0 (z1030 _);rfl;rfl))<;>conv=>whnf)
  all_goals first
    | (refine z21 rfl ?_
       rw [y90]
       · rfl
       · clear ih
         rintro ⟨c1,c2,c3,c4⟩
         unfold z431 at c4
         grind)
    | (have hg : decide (1 ≤ d ∧ (t.kids.length : Int) = z414 t.kind ∧ 0 ≤ t.val ∧ t.val ≤ z431 t.kind) = true := by
         clear ih
         refine y89 ?_
         unfold z431
         grind
       rw [hg,Bool.true_and]
       refine z85 (fun k:Nat=>([(1,.int d),(2,.ptr 0 none 0),(6,.int k)],[.cells 3 [[.int t.kind,.int t.val,lst 3 Tree.cs' t.kids]]])) (fun k=>k≤t.kids.length∧(t.kids.all fun t=>t.shape (d - 1))=(t.kids.drop k).all fun t=>t.shape (d - 1)) (fun k=>t.kids.length - k) 0 ⟨by omega,rfl⟩ ⟨[0],rfl,by decide,rfl,by repeat' (first|exact True.intro|exact ⟨rfl,rfl⟩|apply y50),by repeat' (first|exact True.intro|exact z24 rfl rfl|apply y50)⟩ ?_
       intro k hk
       repeat' ((first|(apply y4 ok;rfl)|(apply y50;first|omega|(unfold inI;omega))|(((with_reducible apply z8;omega));intro _)|((first|apply z5|apply z96)<;>intro _)|(apply z0 (ih t.kids[k] (y51 _) (hm.2 _ (y51 _)) (d - 1) (by omega) (by omega));rfl;rfl))<;>conv=>whnf)
       · rename_i h1
         exact z21 rfl (by rw [hk.2,z123 _ _ _ (by assumption)];simp [h1])
       · rename_i h1
         exact z78 (k+1) [0] ⟨by omega,by rw [hk.2,z123 _ _ _ (by assumption)];simp [h1]⟩ (by omega) ⟨rfl,by decide,rfl,by repeat' (first|exact True.intro|exact ⟨rfl,rfl⟩|apply y50),by repeat' (first|exact True.intro|exact z24 rfl rfl|apply y50)⟩
       · exact z21 rfl (by rw [hk.2,z99 _ _ _ (by omega)]))
theorem z490 (t:Tree) (d:Int):t.count d=if 0 < d then 1+(t.kids.map fun t=>t.count (d - 1)).sum else 1:=by
 have:∀ (l:List Tree) d,Tree.counts l d=(l.map fun t=>t.count d).sum:=by
  intro l d
  induction l with
  |nil=>rfl
  |cons t l ih=>simp [Tree.counts,ih]
 cases t;simp only [Tree.count,Tree.kids,this]
theorem count_le (t:Tree):∀ d n:Nat,t.shape d=true→t.count n≤2 ^ d - 1:=by
 induction t using y32 with|h t ih=>?_
 intro d n h
 rw [z473,y77,decide_eq_true_eq] at h
 obtain ⟨⟨h1,h2,_,_⟩,h3⟩:=h
 rw [y85] at h3
 obtain ⟨d,rfl⟩:∃ e,d=e+1:=⟨d - 1,by omega⟩
 have e:((d+1:Nat):Int) - 1=(d:Nat):=by omega
 rw [e] at h3
 rw [z490]
 have hp:(1:Int)≤2 ^ d:=by exact_mod_cast Nat.one_le_two_pow
 have hq:((2:Int) ^ (d+1))=2 * 2 ^ d:=by rw [Int.pow_succ];omega
 split
 ·rename_i hn
  obtain ⟨n,rfl⟩:∃ e,n=e+1:=⟨n - 1,by omega⟩
  have e:((n+1:Nat):Int) - 1=(n:Nat):=by omega
  rw [e]
  have hl:(t.kids.length:Int)≤2:=by rw [h2];unfold z414;grind
  have hk:∀ u∈t.kids,u.count n≤2 ^ d - 1:=fun u hu=>ih u hu d n (h3 u hu)
  match hkk:t.kids with
  |[]=>simp only [List.map_nil,List.sum_nil];omega
  |[a] =>
   have:=hk a (by simp [hkk])
   simp only [List.map_cons,List.map_nil,List.sum_cons,List.sum_nil];omega
  |[a,b] =>
   have:=hk a (by simp [hkk])
   have:=hk b (by simp [hkk])
   simp only [List.map_cons,List.map_nil,List.sum_cons,List.sum_nil];omega
  |a::b::c::r=>rw [hkk] at hl;simp only [y64] at hl;omega
 ·omega
theorem z471 (f:Tree→Int) (l:List Tree) (k:Nat) (hk:k < l.length):((l.take (k+1)).map f).sum=((l.take k).map f).sum+f l[k]:=by
 rw [y57 hk,y70,List.sum_append];simp
theorem z904 (t:Tree) (e d:Int) (he:e≤50) (hd:0≤d) (h:t.shape e=true):t.count d≤2 ^ 50:=by
 have h1:1≤e:=by
  rw [z473,y77,decide_eq_true_eq] at h;exact h.1.1
 obtain ⟨n,rfl⟩:=Int.eq_ofNat_of_zero_le (show 0≤e by omega)
 obtain ⟨m,rfl⟩:=Int.eq_ofNat_of_zero_le hd
 have h2:=count_le t n m h
 have h4:(2:Int) ^ n≤2 ^ 50:=by exact_mod_cast Nat.pow_le_pow_right (by omega) (by omega)
 omega
theorem z1029 (t:Tree):t.mx→∀ e d:Int,e≤50→0≤d→d≤50→t.shape e=true→CallsA Tryz.prog 170 [z20 Tree.cs' t,.int d] [] (.int (t.count d)) []:=by
 induction t using y32 with|h t ih=>?_
 intro hm e d h0 h1 h2 hs
 rw [y34] at hm
 rw [z473,y77,decide_eq_true_eq,y85] at hs
 obtain ⟨⟨hs1,hs2,_,_⟩,hs3⟩:=hs
 have hl:(t.kids.length:Int)≤2:=by rw [hs2];unfold z414;grind
 rw [y17,z490]
 have hb:0 < d→∀ k,k≤t.kids.length→0≤((t.kids.take k).map fun t=>t.count (d - 1)).sum∧((t.kids.take k).map fun t=>t.count (d - 1)).sum≤k * 2 ^ 50:=by
  intro hd k
  induction k with
  |zero=>intro _;simp
  |succ k ihk =>
   intro hk
   have h1:=ihk (by omega)
   rw [z471 _ _ _ (by omega)]
   have h2:=z904 t.kids[k] (e - 1) (d - 1) (by omega) (by omega) (hs3 _ (y51 _))
   have h3:=Tree.count_pos.1 t.kids[k] (d - 1)
   omega
 refine z7 z9 Tryz.func170 rfl rfl 29 Tryz.ntmps170 (by simp) ?_
 repeat' (((apply y4 ok;rfl))<;>conv=>whnf)
 by_cases hd:0 < d
 ·rw [if_pos hd]
  refine z85 (fun k:Nat=>([(1,.int d),(2,.ptr 0 none 0),(5,.int (1+((t.kids.take k).map fun t=>t.count (d - 1)).sum)),(6,.int k)],[.cells 3 [[.int t.kind,.int t.val,lst 3 Tree.cs' t.kids]]])) (fun k=>k≤t.kids.length) (fun k=>t.kids.length - k) 0 (by omega) ⟨[0],rfl,by decide,rfl,by repeat' (first|exact True.intro|exact ⟨rfl,rfl⟩|apply y50),by repeat' (first|exact True.intro|exact z24 rfl rfl|apply y50)⟩ ?_
  intro k hk
  have hbk:=hb hd k hk
  have hbk1:=fun h=>hb hd (k+1) h
  have hss:=fun h=>z471 (fun t=>t.count (d - 1)) t.kids k h
  repeat' ((first|(apply y4 ok;rfl)|(apply y50;first|omega|(unfold inI;omega))|(((with_reducible apply z8;omega));intro _)|((apply z5)<;>intro _)|(apply z0 (ih t.kids[k] (y51 _) (hm.2 _ (y51 _)) (e - 1) (d - 1) (by omega) (by omega) (by omega) (hs3 _ (y51 _)));rfl;rfl))<;>conv=>whnf)
  ·have e1:=hss ‹_›
   have e2:=hbk1 (by omega)
   refine y50 (by unfold inI;omega) ?_
   conv=>whnf
   repeat' ((first|(apply y4 ok;rfl)|(apply y50;(unfold inI;omega)))<;>conv=>whnf)
   exact z78 (k+1) [0] (by omega) (by omega) ⟨rfl,by decide,rfl,⟨⟨rfl,rfl⟩,⟨rfl,rfl⟩,⟨rfl,by rw [e1,← Int.add_assoc];rfl⟩,⟨rfl,rfl⟩,trivial⟩,⟨z24 rfl rfl,trivial⟩⟩
  ·omega
  ·obtain rfl:k=t.kids.length:=by omega
   exact z42 rfl rfl (by rw [y62];rfl)
 ·rw [if_neg hd]
  refine z85 (fun k:Nat=>([(1,.int d),(2,.ptr 0 none 0),(5,.int 1),(6,.int k)],[.cells 3 [[.int t.kind,.int t.val,lst 3 Tree.cs' t.kids]]])) (fun k=>k≤t.kids.length) (fun k=>t.kids.length - k) 0 (by omega) ⟨[0],rfl,by decide,rfl,by repeat' (first|exact True.intro|exact ⟨rfl,rfl⟩|apply y50),by repeat' (first|exact True.intro|exact z24 rfl rfl|apply y50)⟩ ?_
  intro k hk
  repeat' ((first|(apply y4 ok;rfl)|(apply y50;omega)|(((with_reducible apply z8;omega));intro _)|((apply z5)<;>intro _))<;>conv=>whnf)
  ·omega
  ·exact z42 rfl rfl rfl
  ·exact z42 rfl rfl rfl
theorem z111 (t:Tree) (hm:t.mx):CallsA Tryz.prog 116 [z20 Tree.cs' t] [] (.bool t.exprB) []:=by
 rw [y24]
 refine z7 z9 Tryz.func116 rfl rfl 10 Tryz.ntmps116 (by simp) ?_
 repeat' ((first|(apply y4 ok;rfl)|((apply z93)<;>intro _)|(apply z0 (z1028 t hm 6 (by omega) (by omega));rfl;rfl)|(apply z0 (z1029 t hm 6 6 (by omega) (by omega) (by omega) (by assumption));rfl;rfl))<;>conv=>whnf)
 all_goals (refine z21 rfl ?_;(simp [*];done))
theorem z152 (l:List Tree) (hl:l.length≤maxLen) (hm:∀ t∈l,t.mx):CallsA Tryz.prog 46 [lst 3 Tree.cs' l] [] (.bool (z118 l)) []:=by
 unfold maxLen at hl
 unfold z118
 refine z7 z9 Tryz.func46 rfl rfl 19 Tryz.ntmps46 (by simp) ?_
 repeat' (((apply y4 ok;rfl))<;>conv=>whnf)
 refine z85 (fun k:Nat=>([(0,lst 3 Tree.cs' l),(3,.int k)],[])) (fun k=>k≤l.length∧l.all Tree.exprB=(l.drop k).all Tree.exprB) (fun k=>l.length - k) 0 ⟨by omega,rfl⟩ ⟨[],rfl,by decide,rfl,by repeat' (first|exact True.intro|exact ⟨rfl,rfl⟩|apply y50),by repeat' (exact True.intro)⟩ ?_
 intro k hk
 repeat' ((first|(apply y4 ok;rfl)|(apply y50;first|omega|(unfold inI;omega))|(((with_reducible apply z8;omega));intro _)|((first|apply z5|apply z96)<;>intro _)|(apply z0 (z111 l[k] (hm _ (y51 _)));rfl;rfl))<;>conv=>whnf)
 ·rename_i h1
  exact z21 rfl (by rw [hk.2,z123 _ _ _ (by assumption)];simp [h1])
 ·rename_i h1
  exact z78 (k+1) [] ⟨by omega,by rw [hk.2,z123 _ _ _ (by assumption)];simp [h1]⟩ (by omega) ⟨rfl,by decide,rfl,by repeat' (first|exact True.intro|exact ⟨rfl,rfl⟩|apply y50),by repeat' (exact True.intro)⟩
 ·exact z21 rfl (by rw [hk.2,z99 _ _ _ (by omega),Bool.and_true])
theorem z934 (b:Bool):CallsA Tryz.prog 145 [.bool b] [] (.int (b2i b)) []:=by
 refine z7 z9 Tryz.func145 rfl rfl 4 Tryz.ntmps145 (by simp) ?_
 repeat' ((first|(apply y4 ok;rfl)|((apply z93)<;>intro _))<;>conv=>whnf)
 all_goals (refine z42 rfl rfl ?_;simp only [*];rfl)
theorem z788 (b:Bool):CallsA Tryz.prog 257 [.bool b] [] (.int (b2i b)) []:=by
 refine z7 z9 Tryz.func257 rfl rfl 4 Tryz.ntmps257 (by simp) ?_
 repeat' ((first|(apply y4 ok;rfl)|((apply z93)<;>intro _))<;>conv=>whnf)
 all_goals (refine z42 rfl rfl ?_;simp only [*];rfl)
theorem z631 {t:Tree} (hg:t.good):(∃ x,t=.mk 1 x []∧0≤x∧x≤3)∨(∃ x,t=.mk 2 x []∧0≤x∧x≤2)∨(∃ x a,t=.mk 3 x [a]∧a.good)∨(∃ k x a b,t=.mk k x [a,b]∧4≤k∧k≤9∧a.good∧b.good):=by
 obtain ⟨g1,g2,g3,g4⟩:=y30 hg
 obtain ⟨k,x,l⟩:=t
 simp only [Tree.kind,Tree.val,Tree.kids] at *
 unfold z414 at g1
 unfold z431 at g3
 match l,g1,g4 with
 |[],g1,_ =>
  simp only [y65] at g1
  have:k=1∨k=2:=by grind
  rcases this with rfl|rfl
  ·exact .inl ⟨x,rfl,g2,by grind⟩
  ·exact .inr (.inl ⟨x,rfl,g2,by grind⟩)
 |[a],g1,g4 =>
  simp only [y64,y65] at g1
  have:k=3:=by grind
  subst this
  exact .inr (.inr (.inl ⟨x,a,rfl,g4 a (by simp)⟩))
 |[a,b],g1,g4 =>
  simp only [y64,y65] at g1
  exact .inr (.inr (.inr ⟨k,x,a,b,rfl,by grind,by grind,g4 a (by simp),g4 b (by simp)⟩))
 |a::b::c::r,g1,_=>simp only [y64] at g1;grind
theorem z898 (v:List Int) (hv:ValsOk v) (t:Tree):t.good→CallsA Tryz.prog 75 [z20 Tree.cs' t,ints v] [] (.int (t.ev v)) []:=by
 induction t using y32 with|h t ih=>?_
 intro hg
 have hl:=hv.1
 rw [y17]
 rcases z631 hg with ⟨x,rfl,h1,h2⟩|⟨x,rfl,h1,h2⟩|⟨x,a,rfl,h1⟩|⟨k,x,a,b,rfl,h1,h2,h3,h4⟩<;>simp only [Tree.kind,Tree.val,Tree.kids] at *
 ·refine z7 z9 Tryz.func75 rfl rfl 82 Tryz.ntmps75 (by simp) ?_
  repeat' (((apply y4 ok;rfl))<;>conv=>whnf)
  all_goals (exact z42 rfl rfl (by rw [Tree.ev,if_pos rfl];rfl))
 ·refine z7 z9 Tryz.func75 rfl rfl 82 Tryz.ntmps75 (by simp) ?_
  repeat' ((first|(apply y4 ok;rfl)|(apply y50;omega)|(apply z1180;omega;intro _))<;>conv=>whnf)
  refine z42 rfl rfl ?_
  rw [Tree.ev,if_neg (by omega),if_pos rfl,y74,y52 (by omega)];rfl
 ·have ha:=y23 hv a h1
  refine z7 z9 Tryz.func75 rfl rfl 82 Tryz.ntmps75 (by simp) ?_
  repeat' ((first|(apply y4 ok;rfl)|(apply y50;omega)|apply z436|(apply z0 (ih a (by simp) h1);rfl;rfl)|(apply z0 (z934 _);rfl;rfl))<;>conv=>whnf)
  all_goals (refine z42 rfl rfl ?_;rw [Tree.ev,if_neg (by omega),if_neg (by omega)];simp only [Tree.evs];rfl)
 ·have ha:=y23 hv a h3
  have hb:=y23 hv b h4
  refine z7 z9 Tryz.func75 rfl rfl 82 Tryz.ntmps75 (by simp) ?_
  repeat' ((first|(apply y4 ok;rfl)|(apply y50;first|omega|(unfold inI;omega))|(((apply z8;omega));intro _)|apply z436|((first|apply z5|apply z28)<;>intro _)|(apply z0 (ih a (by simp) h3);rfl;rfl)|(apply z0 (ih b (by simp) h4);rfl;rfl)|(apply z0 (z934 _);rfl;rfl))<;>conv=>whnf)
  all_goals try (exfalso;omega)
  all_goals (refine z522 rfl ?_;clear ih;simp only [Tree.ev,Tree.evs,b2i];grind)
theorem z548 (v:List Int) (hv:ValsOk v) (t:Tree):t.good→CallsA Tryz.prog 221 [z20 Tree.cs' t,ints v] [] (.int (t.ev v)) []:=by
 induction t using y32 with|h t ih=>?_
 intro hg
 have hl:=hv.1
 rw [y17]
 rcases z631 hg with ⟨x,rfl,h1,h2⟩|⟨x,rfl,h1,h2⟩|⟨x,a,rfl,h1⟩|⟨k,x,a,b,rfl,h1,h2,h3,h4⟩<;>simp only [Tree.kind,Tree.val,Tree.kids] at *
 ·refine z7 z9 Tryz.func221 rfl rfl 86 Tryz.ntmps221 (by simp) ?_
  repeat' (((apply y4 ok;rfl))<;>conv=>whnf)
  all_goals (exact z42 rfl rfl (by rw [Tree.ev,if_pos rfl];rfl))
 ·refine z7 z9 Tryz.func221 rfl rfl 86 Tryz.ntmps221 (by simp) ?_
  repeat' ((first|(apply y4 ok;rfl)|(apply y50;omega)|(apply z1180;omega;intro _))<;>conv=>whnf)
  refine z42 rfl rfl ?_
  rw [Tree.ev,if_neg (by omega),if_pos rfl,y74,y52 (by omega)];rfl
 ·have ha:=y23 hv a h1
  refine z7 z9 Tryz.func221 rfl rfl 86 Tryz.ntmps221 (by simp) ?_
  repeat' ((first|(apply y4 ok;rfl)|(apply y50;omega)|apply z436|(apply z0 (ih a (by simp) h1);rfl;rfl)|(apply z0 (z788 _);rfl;rfl))<;>conv=>whnf)
  all_goals (refine z42 rfl rfl ?_;rw [Tree.ev,if_neg (by omega),if_neg (by omega)];simp only [Tree.evs];rfl)
 ·have ha:=y23 hv a h3
  have hb:=y23 hv b h4
  refine z7 z9 Tryz.func221 rfl rfl 86 Tryz.ntmps221 (by simp) ?_
  repeat' ((first|(apply y4 ok;rfl)|(apply y50;first|omega|(unfold inI;omega))|(((apply z8;omega));intro _)|apply z436|((first|apply z5|apply z28)<;>intro _)|(apply z0 (ih a (by simp) h3);rfl;rfl)|(apply z0 (ih b (by simp) h4);rfl;rfl)|(apply z0 (z788 _);rfl;rfl))<;>conv=>whnf)
  all_goals try (exfalso;omega)
  all_goals (refine z522 rfl ?_;clear ih;simp only [Tree.ev,Tree.evs,b2i];grind)
def ltr (v:List Int) (l:List Tree) (k n:Nat):Nat:=match l with
 |[]=>n
 |t::r=>ltr v r (k+1) (if t.ev v=0 then n else n ||| 2 ^ k)
theorem z481 (v:List Int) (l:List Tree) (k n:Nat) (h:k < l.length):ltr v (l.drop k) k n=ltr v (l.drop (k+1)) (k+1) (if l[k].ev v=0 then n else n ||| 2 ^ k):=by
 rw [y86 h,ltr]
theorem z1154 (v:List Int) (l:List Tree) (k n:Nat) (h:l.length≤k):ltr v (l.drop k) k n=n:=by
 rw [y91 h,ltr]
def z49 (labels:List Tree) (s:State):Int:=ltr s.b labels 0 0
theorem or_lt {n k:Nat} (h:n < 2 ^ k):n ||| 2 ^ k < 2 ^ (k+1) :=
 Nat.or_lt_two_pow (by rw [Nat.pow_succ];omega) (by rw [Nat.pow_succ];have:=Nat.two_pow_pos k;omega)
def z165 (l:List Tree):Prop:=l.length=3∧∀ t∈l,t.good
theorem y8 {l:List Tree} (h:z118 l=true):z165 l:=by
 simp only [z118,y77,decide_eq_true_eq,y85] at h
 exact ⟨by omega,fun t ht=>y31 (h.2 t ht)⟩
theorem z941 (k:Nat) (hk:k < 3):(1:Int) * 2 ^ ((k:Int).toNat)=((2 ^ k:Nat):Int):=by simp
theorem z379 {k:Nat} (hk:k < 3):2 ^ k≤8∧2 ^ (k+1)≤8∧0 < 2 ^ k:=by
 have:k=0∨k=1∨k=2:=by omega
 rcases this with rfl|rfl|rfl<;>simp
theorem z1156 (s:State) (hv:ValsOk s.b) (l:List Tree) (hl:z165 l):CallsA Tryz.prog 245 [ints s.b,lst 3 Tree.cs' l] [] (.int (z49 l s)) []:=by
 have h3:=hl.1
 refine z7 z9 Tryz.func245 rfl rfl 25 Tryz.ntmps245 (by simp) ?_
 repeat' (((apply y4 ok;rfl))<;>conv=>whnf)
 refine z85 (fun x:Nat×Nat=>([(0,ints s.b),(5,.int x.2),(8,lst 3 Tree.cs' l),(9,.int l.length),(10,.int x.1)],[])) (fun x=>x.1≤l.length∧x.2 < 2 ^ x.1∧ltr s.b l 0 0=ltr s.b (l.drop x.1) x.1 x.2) (fun x=>l.length - x.1) (0,0) ⟨by omega,by decide,rfl⟩ ⟨[],rfl,by decide,rfl,by repeat' (first|exact True.intro|exact ⟨rfl,rfl⟩|apply y50),by repeat' (exact True.intro)⟩ ?_
 rintro ⟨k,n⟩ ⟨hk1,hk2,hk3⟩
 dsimp only at hk1 hk2 hk3
 repeat' ((first|(apply y4 ok;rfl)|(apply y50;first|omega|(unfold inI;omega))|(((with_reducible apply z8;omega));intro _)|((first|apply z5|apply z28)<;>intro _)|(apply z0 (z898 s.b hv l[k] (hl.2 _ (y51 _)));rfl;rfl))<;>conv=>whnf)
 ·rename_i hkl h
  have hp:=z379 (show k < 3 by omega)
  have e:=z941 k (by omega)
  refine y50 ⟨by omega,by omega,by rw [e];unfold inI;omega⟩ ?_
  conv=>whnf
  refine y50 (by rw [e];unfold z161;omega) ?_
  conv=>whnf
  repeat' ((first|(apply y4 ok;rfl)|(apply y50;(unfold inI;omega)))<;>conv=>whnf)
  rw [z481 _ _ _ _ hkl,if_neg h] at hk3
  refine z78 (k+1,n ||| 2 ^ k) [] ⟨by dsimp only;omega,or_lt hk2,hk3⟩ (by dsimp only;omega) ⟨rfl,by decide,rfl,⟨⟨rfl,rfl⟩,⟨rfl,?_⟩,⟨rfl,rfl⟩,⟨rfl,rfl⟩,⟨rfl,rfl⟩,trivial⟩,trivial⟩
  show AC.raw (.int .i64 (((n:Int).toNat ||| ((1:Int) * 2 ^ ((k:Int).toNat)).toNat:Nat):Int))=_
  rw [e];rfl
 ·rename_i hkl h
  rw [z481 _ _ _ _ hkl,if_pos h] at hk3
  have:2 ^ k≤2 ^ (k+1):=by rw [Nat.pow_succ];omega
  exact z78 (k+1,n) [] ⟨by dsimp only;omega,by dsimp only;omega,hk3⟩ (by dsimp only;omega) ⟨rfl,by decide,rfl,by repeat' (first|exact True.intro|exact ⟨rfl,rfl⟩|apply y50),by repeat' (exact True.intro)⟩
 ·rw [z1154 _ _ _ _ (by omega)] at hk3
  exact z42 rfl rfl (by unfold z49;rw [hk3];rfl)
theorem z883 (s:State) (hv:ValsOk s.b) (l:List Tree) (hl:z165 l):CallsA Tryz.prog 223 [z20 State.cs s,lst 3 Tree.cs' l] [] (.int (z49 l s)) []:=by
 have h3:=hl.1
 refine z7 z9 Tryz.func223 rfl rfl 27 Tryz.ntmps223 (by simp) ?_
 repeat' (((apply y4 ok;rfl))<;>conv=>whnf)
 refine z85 (fun x:Nat×Nat=>([(1,lst 3 Tree.cs' l),(2,.ptr 0 none 0),(5,.int x.2),(6,.int x.1)],[.cells 2 [[ints s.a,ints s.b]]])) (fun x=>x.1≤l.length∧x.2 < 2 ^ x.1∧ltr s.b l 0 0=ltr s.b (l.drop x.1) x.1 x.2) (fun x=>l.length - x.1) (0,0) ⟨by omega,by decide,rfl⟩ ⟨[0],rfl,by decide,rfl,by repeat' (first|exact True.intro|exact ⟨rfl,rfl⟩|apply y50),by repeat' (first|exact True.intro|exact z24 rfl rfl|apply y50)⟩ ?_
 rintro ⟨k,n⟩ ⟨hk1,hk2,hk3⟩
 dsimp only at hk1 hk2 hk3
 repeat' ((first|(apply y4 ok;rfl)|(apply z17;kernel_rfl)|(apply y50;first|omega|(unfold inI;omega))|(((with_reducible apply z8;omega));intro _)|((first|apply z5|apply z28)<;>intro _)|(apply z0 (z548 s.b hv l[k] (hl.2 _ (y51 _)));rfl;rfl))<;>conv=>whnf)
 ·rename_i hkl h
  have hp:=z379 (show k < 3 by omega)
  have e:=z941 k (by omega)
  refine y50 ?_ ?_
  ·show IntKind.u64.wrap k=k
   have:k=0∨k=1∨k=2:=by dsimp only at hkl;omega
   rcases this with rfl|rfl|rfl<;>rfl
  conv=>whnf
  refine y50 ⟨by omega,by omega,by rw [e];unfold inI;omega⟩ ?_
  conv=>whnf
  refine y50 (by rw [e];unfold z161;omega) ?_
  conv=>whnf
  repeat' ((first|(apply y4 ok;rfl)|(apply y50;(unfold inI;omega)))<;>conv=>whnf)
  rw [z481 _ _ _ _ hkl,if_neg h] at hk3
  refine z78 (k+1,n ||| 2 ^ k) [0] ⟨by dsimp only;omega,or_lt hk2,hk3⟩ (by dsimp only;omega) ⟨rfl,by decide,rfl,⟨⟨rfl,rfl⟩,⟨rfl,rfl⟩,⟨rfl,?_⟩,⟨rfl,rfl⟩,trivial⟩,⟨z24 rfl rfl,trivial⟩⟩
  show AC.raw (.int .i64 (((n:Int).toNat ||| ((1:Int) * 2 ^ ((k:Int).toNat)).toNat:Nat):Int))=_
  rw [e];rfl
 ·rename_i hkl h
  rw [z481 _ _ _ _ hkl,if_pos h] at hk3
  have:2 ^ k≤2 ^ (k+1):=by rw [Nat.pow_succ];omega
  exact z78 (k+1,n) [0] ⟨by dsimp only;omega,by dsimp only;omega,hk3⟩ (by dsimp only;omega) ⟨rfl,by decide,rfl,by repeat' (first|exact True.intro|exact ⟨rfl,rfl⟩|apply y50),by repeat' (first|exact True.intro|exact z24 rfl rfl|apply y50)⟩
 ·rw [z1154 _ _ _ _ (by omega)] at hk3
  exact z42 rfl rfl (by unfold z49;rw [hk3];rfl)
theorem z1161 (g:Graph) (hg:∀ s∈g.st,ValsOk s.b) (hn:g.st.length≤60) (l:List Tree) (hl:z165 l):CallsA Tryz.prog 194 [.agg g.cs,lst 3 Tree.cs' l] [] (.sref 0 0 g.st.length) [.cells 1 (g.st.map fun s=>enI (z49 l s))]:=by
 refine z7 z9 Tryz.func194 rfl rfl 29 Tryz.ntmps194 (by simp) ?_
 repeat' ((first|(apply y4 ok;rfl)|(apply y50;(dsimp only;omega)))<;>conv=>whnf)
 refine z85 (fun k:Nat=>([(1,lst 3 Tree.cs' l),(5,.sref 0 0 g.st.length),(13,lst 2 State.cs g.st),(14,.int g.st.length),(15,.int k)],[.cells 1 ((g.st.take k).map (fun s=>enI (z49 l s))++List.replicate (g.st.length - k) (enI 0))])) (fun k=>k≤g.st.length) (fun k=>g.st.length - k) 0 (by omega) ⟨[1],rfl,by decide,rfl,by repeat' (first|exact True.intro|exact ⟨rfl,rfl⟩|apply y50),by repeat' (first|exact True.intro|exact z25 (by rfl) (by (first|exact z33|exact z19 rfl))|apply y50)⟩ ?_
 intro k hk
 repeat' ((first|(apply y4 ok;rfl)|(apply y50;first|omega|(unfold inI;omega))|(((with_reducible apply z8;omega));intro _)|(apply z323;omega)|((apply z5)<;>intro _)|(apply z0 (z1156 g.st[k] (hg _ (y51 _)) l hl);rfl;rfl))<;>conv=>whnf)
 ·rename_i h hkl
  exact z78 (k+1) [0] (by omega) (by omega) ⟨rfl,by decide,rfl,⟨⟨rfl,rfl⟩,⟨rfl,rfl⟩,⟨rfl,rfl⟩,⟨rfl,rfl⟩,⟨rfl,rfl⟩,trivial⟩,⟨z947 hkl rfl rfl rfl (fun _=>rfl) rfl,trivial⟩⟩
 ·exact z252 rfl (z4 fun _=>rfl) rfl (z324 _ _ _ _ (by omega))
theorem label_ok (g:Graph) (hg:∀ s∈g.st,ValsOk s.b) (hn:g.st.length≤60) (l:List Tree) (hl:z165 l):CallsA Tryz.prog 194 [.agg g.cs,lst 3 Tree.cs' l] [] (ints (g.st.map (z49 l))) []:=by
 have h:=(z1161 g hg hn l hl).keep (z170 _ _) (by simp)
 unfold ints
 rw [y56,List.map_map]
 exact h
theorem z690 (g:Graph) (hg:∀ s∈g.st,ValsOk s.b) (hn:g.st.length≤60) (l:List Tree) (hl:z165 l):CallsA Tryz.prog 176 [.agg g.cs,lst 3 Tree.cs' l] [] (.sref 0 0 g.st.length) [.cells 1 (g.st.map fun s=>enI (z49 l s))]:=by
 refine z7 z9 Tryz.func176 rfl rfl 26 Tryz.ntmps176 (by simp) ?_
 repeat' (((apply y4 ok;rfl))<;>conv=>whnf)
 refine z85 (fun k:Nat=>([(1,lst 3 Tree.cs' l),(2,.ptr 0 none 0),(5,.sref 1 0 k),(6,.int k)],[.cells 2 [[lst 2 State.cs g.st,lst 1 encL g.nx]],.cells 1 ((g.st.take k).map fun s=>enI (z49 l s))])) (fun k=>k≤g.st.length) (fun k=>g.st.length - k) 0 (by omega) ⟨[0,1],rfl,by decide,rfl,by repeat' (first|exact True.intro|exact ⟨rfl,rfl⟩|apply y50),by repeat' (first|exact True.intro|exact z24 rfl rfl|exact z25 (by rfl) (by (exact z33))|apply y50)⟩ ?_
 intro k hk
 repeat' ((first|(apply y4 ok;rfl)|(apply y50;first|omega|(unfold inI;omega)|((try dsimp only);simp only [y56,y55,y54,y53,y64,y65];omega)|exact ⟨rfl,z38 rfl z45⟩)|(((with_reducible apply z8;omega));intro _)|((apply z5)<;>intro _)|(apply z0 (z883 g.st[k] (hg _ (y51 _)) l hl);rfl;rfl))<;>conv=>whnf)
 ·rename_i h hkl
  exact z78 (k+1) [0,3] (by omega) (by omega) ⟨rfl,by decide,rfl,⟨⟨rfl,rfl⟩,⟨rfl,rfl⟩,⟨rfl,rfl⟩,⟨rfl,rfl⟩,trivial⟩,⟨z24 rfl rfl,obj_app hkl _ rfl rfl rfl (fun _=>rfl),trivial⟩⟩
 ·obtain rfl:k=g.st.length:=by omega
  exact z252 rfl (z4 fun _=>rfl) rfl (by rw [y62])
theorem z778 (g:Graph) (hg:∀ s∈g.st,ValsOk s.b) (hn:g.st.length≤60) (l:List Tree) (hl:z165 l):CallsA Tryz.prog 176 [.agg g.cs,lst 3 Tree.cs' l] [] (ints (g.st.map (z49 l))) []:=by
 have h:=(z690 g hg hn l hl).keep (z170 _ _) (by simp)
 unfold ints
 rw [y56,List.map_map]
 exact h
end Go.Proofs.YtnfoijopccdjeaaGreat
