/- A part of the proofs over this program: Tab, T3, T4, T5, T6, T7, T8, T9, T10, T11, T12, T13, T15, T16, T17, T18, T19, T20, T21, T22, T23, T23R, T23S, T35A, T70, T71, T72. -/
import Derived.Test.YtnfoijopccdjeaaGreatG0
import Derived.Test.YtnfoijopccdjeaaGreatG1
import Derived.Test.YtnfoijopccdjeaaGreatG2
import Derived.Test.YtnfoijopccdjeaaGreatG3
import Derived.Test.YtnfoijopccdjeaaGreatProg
import Derived.KernelRfl
set_option linter.all false
namespace Go.Proofs.YtnfoijopccdjeaaGreat
open Go.Gl
def tabL:List (Nat×TyI):=[
 (3,⟨.int .i64,1,8,.int .i64 0⟩),
 (23,⟨.slice 3,1,24,.slice none 0 0⟩),
 (30, ⟨.struct #[{ name := "Kind", type := 3, offset := 0, embedded := false, tag := "", pkgPath := "", byteOffset := 0 }, { name := "Atom", type := 3, offset := 1, embedded := false, tag := "", pkgPath := "", byteOffset := 8 }, { name := "Kids", type := 28, offset := 2, embedded := false, tag := "", pkgPath := "", byteOffset := 16 }], 3, 40, .agg #[.int .i64 0, .int .i64 0, .slice none 0 0]⟩),
 (74, ⟨.struct #[{ name := "Kind", type := 3, offset := 0, embedded := false, tag := "", pkgPath := "", byteOffset := 0 }, { name := "Value", type := 3, offset := 1, embedded := false, tag := "", pkgPath := "", byteOffset := 8 }, { name := "Kids", type := 27, offset := 2, embedded := false, tag := "", pkgPath := "", byteOffset := 16 }], 3, 40, .agg #[.int .i64 0, .int .i64 0, .slice none 0 0]⟩),
 (28,⟨.slice 30,1,24,.slice none 0 0⟩),
 (26, ⟨.struct #[{ name := "Init", type := 23, offset := 0, embedded := false, tag := "", pkgPath := "", byteOffset := 0 }, { name := "Processes", type := 24, offset := 1, embedded := false, tag := "", pkgPath := "", byteOffset := 24 }], 2, 48, .agg #[.slice none 0 0, .slice none 0 0]⟩),
 (133, ⟨.struct #[{ name := "From", type := 3, offset := 0, embedded := false, tag := "", pkgPath := "", byteOffset := 0 }, { name := "To", type := 3, offset := 1, embedded := false, tag := "", pkgPath := "", byteOffset := 8 }, { name := "Guard", type := 74, offset := 2, embedded := false, tag := "", pkgPath := "", byteOffset := 16 }, { name := "Var", type := 3, offset := 5, embedded := false, tag := "", pkgPath := "", byteOffset := 56 }, { name := "Value", type := 74, offset := 6, embedded := false, tag := "", pkgPath := "", byteOffset := 64 }, { name := "Sync", type := 3, offset := 9, embedded := false, tag := "", pkgPath := "", byteOffset := 104 }], 10, 112, .agg #[.int .i64 0, .int .i64 0, .int .i64 0, .int .i64 0, .slice none 0 0, .int .i64 0, .int .i64 0, .int .i64 0, .slice none 0 0, .int .i64 0]⟩),
 (38, ⟨.struct #[{ name := "States", type := 33, offset := 0, embedded := false, tag := "", pkgPath := "", byteOffset := 0 }, { name := "Next", type := 36, offset := 1, embedded := false, tag := "", pkgPath := "", byteOffset := 24 }], 2, 48, .agg #[.slice none 0 0, .slice none 0 0]⟩),
 (24,⟨.slice 131,1,24,.slice none 0 0⟩),
 (33,⟨.slice 47,1,24,.slice none 0 0⟩),
 (129,⟨.slice 133,1,24,.slice none 0 0⟩),
 (47, ⟨.struct #[{ name := "Locs", type := 23, offset := 0, embedded := false, tag := "", pkgPath := "", byteOffset := 0 }, { name := "Vals", type := 23, offset := 1, embedded := false, tag := "", pkgPath := "", byteOffset := 24 }], 2, 48, .agg #[.slice none 0 0, .slice none 0 0]⟩),
 (27,⟨.slice 74,1,24,.slice none 0 0⟩),
 (131, ⟨.struct #[{ name := "Locations", type := 3, offset := 0, embedded := false, tag := "", pkgPath := "", byteOffset := 0 }, { name := "Edges", type := 129, offset := 1, embedded := false, tag := "", pkgPath := "", byteOffset := 8 }], 2, 32, .agg #[.int .i64 0, .slice none 0 0]⟩),
 (36,⟨.slice 23,1,24,.slice none 0 0⟩),
 (99, ⟨.struct #[{ name := "Initial", type := 23, offset := 0, embedded := false, tag := "", pkgPath := "", byteOffset := 0 }, { name := "Accepting", type := 96, offset := 1, embedded := false, tag := "", pkgPath := "", byteOffset := 24 }, { name := "Edges", type := 97, offset := 2, embedded := false, tag := "", pkgPath := "", byteOffset := 48 }], 3, 72, .agg #[.slice none 0 0, .slice none 0 0, .slice none 0 0]⟩),
 (96,⟨.slice 4,1,24,.slice none 0 0⟩),
 (42, ⟨.struct #[{ name := "Stem", type := 23, offset := 0, embedded := false, tag := "", pkgPath := "", byteOffset := 0 }, { name := "Loop", type := 23, offset := 1, embedded := false, tag := "", pkgPath := "", byteOffset := 24 }], 2, 48, .agg #[.slice none 0 0, .slice none 0 0]⟩),
 (97,⟨.slice 238,1,24,.slice none 0 0⟩),
 (4,⟨.bool,1,1,.bool false⟩),
 (238, ⟨.struct #[{ name := "From", type := 3, offset := 0, embedded := false, tag := "", pkgPath := "", byteOffset := 0 }, { name := "Care", type := 3, offset := 1, embedded := false, tag := "", pkgPath := "", byteOffset := 8 }, { name := "Value", type := 3, offset := 2, embedded := false, tag := "", pkgPath := "", byteOffset := 16 }, { name := "To", type := 3, offset := 3, embedded := false, tag := "", pkgPath := "", byteOffset := 24 }], 4, 32, .agg #[.int .i64 0, .int .i64 0, .int .i64 0, .int .i64 0]⟩),
 (156,⟨.slice 159,1,24,.slice none 0 0⟩),
 (159, ⟨.struct #[{ name := "Process", type := 3, offset := 0, embedded := false, tag := "", pkgPath := "", byteOffset := 0 }, { name := "Edge", type := 3, offset := 1, embedded := false, tag := "", pkgPath := "", byteOffset := 8 }, { name := "Partner", type := 3, offset := 2, embedded := false, tag := "", pkgPath := "", byteOffset := 16 }, { name := "PartnerEdge", type := 3, offset := 3, embedded := false, tag := "", pkgPath := "", byteOffset := 24 }], 4, 32, .agg #[.int .i64 0, .int .i64 0, .int .i64 0, .int .i64 0]⟩),
 (22,⟨.slice 5,1,24,.slice none 0 0⟩),
 (228,⟨.slice 230,1,24,.slice none 0 0⟩),
 (230, ⟨.struct #[{ name := "set", type := 3, offset := 0, embedded := false, tag := "", pkgPath := "loop.example/ltlcheck/impl", byteOffset := 0 }, { name := "phase", type := 3, offset := 1, embedded := false, tag := "", pkgPath := "loop.example/ltlcheck/impl", byteOffset := 8 }], 2, 16, .agg #[.int .i64 0, .int .i64 0]⟩),
 (141, ⟨.struct #[{ name := "b", type := 22, offset := 0, embedded := false, tag := "", pkgPath := "loop.example/ltlcheck/spec", byteOffset := 0 }, { name := "p", type := 3, offset := 1, embedded := false, tag := "", pkgPath := "loop.example/ltlcheck/spec", byteOffset := 24 }], 2, 32, .agg #[.slice none 0 0, .int .i64 0]⟩),
 (55, ⟨.struct #[{ name := "Kind", type := 3, offset := 0, embedded := false, tag := "", pkgPath := "", byteOffset := 0 }, { name := "Atom", type := 3, offset := 1, embedded := false, tag := "", pkgPath := "", byteOffset := 8 }, { name := "Kids", type := 53, offset := 2, embedded := false, tag := "", pkgPath := "", byteOffset := 16 }], 3, 40, .agg #[.int .i64 0, .int .i64 0, .slice none 0 0]⟩),
 (227, ⟨.struct #[{ name := "basics", type := 28, offset := 0, embedded := false, tag := "", pkgPath := "loop.example/ltlcheck/impl", byteOffset := 0 }, { name := "untils", type := 23, offset := 1, embedded := false, tag := "", pkgPath := "loop.example/ltlcheck/impl", byteOffset := 24 }], 2, 48, .agg #[.slice none 0 0, .slice none 0 0]⟩),
 (109, ⟨.struct #[{ name := "Kind", type := 3, offset := 0, embedded := false, tag := "", pkgPath := "", byteOffset := 0 }, { name := "Value", type := 3, offset := 1, embedded := false, tag := "", pkgPath := "", byteOffset := 8 }, { name := "Kids", type := 52, offset := 2, embedded := false, tag := "", pkgPath := "", byteOffset := 16 }], 3, 40, .agg #[.int .i64 0, .int .i64 0, .slice none 0 0]⟩),
 (283, ⟨.struct #[{ name := "From", type := 3, offset := 0, embedded := false, tag := "", pkgPath := "", byteOffset := 0 }, { name := "To", type := 3, offset := 1, embedded := false, tag := "", pkgPath := "", byteOffset := 8 }, { name := "Guard", type := 109, offset := 2, embedded := false, tag := "", pkgPath := "", byteOffset := 16 }, { name := "Var", type := 3, offset := 5, embedded := false, tag := "", pkgPath := "", byteOffset := 56 }, { name := "Value", type := 109, offset := 6, embedded := false, tag := "", pkgPath := "", byteOffset := 64 }, { name := "Sync", type := 3, offset := 9, embedded := false, tag := "", pkgPath := "", byteOffset := 104 }], 10, 112, .agg #[.int .i64 0, .int .i64 0, .int .i64 0, .int .i64 0, .slice none 0 0, .int .i64 0, .int .i64 0, .int .i64 0, .slice none 0 0, .int .i64 0]⟩),
 (51, ⟨.struct #[{ name := "Init", type := 23, offset := 0, embedded := false, tag := "", pkgPath := "", byteOffset := 0 }, { name := "Processes", type := 49, offset := 1, embedded := false, tag := "", pkgPath := "", byteOffset := 24 }], 2, 48, .agg #[.slice none 0 0, .slice none 0 0]⟩),
 (49,⟨.slice 188,1,24,.slice none 0 0⟩),
 (52,⟨.slice 109,1,24,.slice none 0 0⟩),
 (53,⟨.slice 55,1,24,.slice none 0 0⟩),
 (225,⟨.pointer 227,1,8,.pointer none⟩),
 (186,⟨.slice 283,1,24,.slice none 0 0⟩),
 (269,⟨.map 230 3,1,8,.map none⟩),
 (273, ⟨.struct #[{ name := "care", type := 3, offset := 0, embedded := false, tag := "", pkgPath := "loop.example/ltlcheck/impl", byteOffset := 0 }, { name := "value", type := 3, offset := 1, embedded := false, tag := "", pkgPath := "loop.example/ltlcheck/impl", byteOffset := 8 }, { name := "to", type := 230, offset := 2, embedded := false, tag := "", pkgPath := "loop.example/ltlcheck/impl", byteOffset := 16 }], 4, 32, .agg #[.int .i64 0, .int .i64 0, .int .i64 0, .int .i64 0]⟩),
 (5,⟨.int .u8,1,1,.int .u8 0⟩),
 (206,⟨.pointer 3,1,8,.pointer none⟩),
 (188, ⟨.struct #[{ name := "Locations", type := 3, offset := 0, embedded := false, tag := "", pkgPath := "", byteOffset := 0 }, { name := "Edges", type := 186, offset := 1, embedded := false, tag := "", pkgPath := "", byteOffset := 8 }], 2, 32, .agg #[.int .i64 0, .slice none 0 0]⟩),
 (254,⟨.int .u64,1,8,.int .u64 0⟩),
 (271,⟨.slice 273,1,24,.slice none 0 0⟩),
 (295,⟨.map 3 3,1,8,.map none⟩),
 (236,⟨.slice 97,1,24,.slice none 0 0⟩),
 (279,⟨.func #[3] #[] false,1,8,.nilFunc⟩),
 (296,⟨.func #[30] #[] false,1,8,.nilFunc⟩)]
def tab:Tab:=z705 tabL
theorem inf3:(Tryz.prog.info? 3).map (fun j=>(j.zero,j.size,j.bytes))=some (some (.int .i64 0),1,8):=by kernel_rfl
theorem inf23:(Tryz.prog.info? 23).map (fun j=>(j.zero,j.size,j.bytes))=some (some (.slice none 0 0),1,24):=by kernel_rfl
theorem inf30:(Tryz.prog.info? 30).map (fun j=>(j.zero,j.size,j.bytes))=some (some (.agg #[.int .i64 0,.int .i64 0,.slice none 0 0]),3,40):=by kernel_rfl
theorem inf74:(Tryz.prog.info? 74).map (fun j=>(j.zero,j.size,j.bytes))=some (some (.agg #[.int .i64 0,.int .i64 0,.slice none 0 0]),3,40):=by kernel_rfl
theorem inf28:(Tryz.prog.info? 28).map (fun j=>(j.zero,j.size,j.bytes))=some (some (.slice none 0 0),1,24):=by kernel_rfl
theorem inf26:(Tryz.prog.info? 26).map (fun j=>(j.zero,j.size,j.bytes))=some (some (.agg #[.slice none 0 0,.slice none 0 0]),2,48):=by kernel_rfl
theorem inf133:(Tryz.prog.info? 133).map (fun j=>(j.zero,j.size,j.bytes))=some (some (.agg #[.int .i64 0,.int .i64 0,.int .i64 0,.int .i64 0,.slice none 0 0,.int .i64 0,.int .i64 0,.int .i64 0,.slice none 0 0,.int .i64 0]),10,112):=by kernel_rfl
theorem inf38:(Tryz.prog.info? 38).map (fun j=>(j.zero,j.size,j.bytes))=some (some (.agg #[.slice none 0 0,.slice none 0 0]),2,48):=by kernel_rfl
theorem inf24:(Tryz.prog.info? 24).map (fun j=>(j.zero,j.size,j.bytes))=some (some (.slice none 0 0),1,24):=by kernel_rfl
theorem inf33:(Tryz.prog.info? 33).map (fun j=>(j.zero,j.size,j.bytes))=some (some (.slice none 0 0),1,24):=by kernel_rfl
theorem inf129:(Tryz.prog.info? 129).map (fun j=>(j.zero,j.size,j.bytes))=some (some (.slice none 0 0),1,24):=by kernel_rfl
theorem inf47:(Tryz.prog.info? 47).map (fun j=>(j.zero,j.size,j.bytes))=some (some (.agg #[.slice none 0 0,.slice none 0 0]),2,48):=by kernel_rfl
theorem inf27:(Tryz.prog.info? 27).map (fun j=>(j.zero,j.size,j.bytes))=some (some (.slice none 0 0),1,24):=by kernel_rfl
theorem inf131:(Tryz.prog.info? 131).map (fun j=>(j.zero,j.size,j.bytes))=some (some (.agg #[.int .i64 0,.slice none 0 0]),2,32):=by kernel_rfl
theorem inf36:(Tryz.prog.info? 36).map (fun j=>(j.zero,j.size,j.bytes))=some (some (.slice none 0 0),1,24):=by kernel_rfl
theorem inf99:(Tryz.prog.info? 99).map (fun j=>(j.zero,j.size,j.bytes))=some (some (.agg #[.slice none 0 0,.slice none 0 0,.slice none 0 0]),3,72):=by kernel_rfl
theorem inf96:(Tryz.prog.info? 96).map (fun j=>(j.zero,j.size,j.bytes))=some (some (.slice none 0 0),1,24):=by kernel_rfl
theorem inf42:(Tryz.prog.info? 42).map (fun j=>(j.zero,j.size,j.bytes))=some (some (.agg #[.slice none 0 0,.slice none 0 0]),2,48):=by kernel_rfl
theorem inf97:(Tryz.prog.info? 97).map (fun j=>(j.zero,j.size,j.bytes))=some (some (.slice none 0 0),1,24):=by kernel_rfl
theorem inf4:(Tryz.prog.info? 4).map (fun j=>(j.zero,j.size,j.bytes))=some (some (.bool false),1,1):=by kernel_rfl
theorem inf238:(Tryz.prog.info? 238).map (fun j=>(j.zero,j.size,j.bytes))=some (some (.agg #[.int .i64 0,.int .i64 0,.int .i64 0,.int .i64 0]),4,32):=by kernel_rfl
theorem inf156:(Tryz.prog.info? 156).map (fun j=>(j.zero,j.size,j.bytes))=some (some (.slice none 0 0),1,24):=by kernel_rfl
theorem inf159:(Tryz.prog.info? 159).map (fun j=>(j.zero,j.size,j.bytes))=some (some (.agg #[.int .i64 0,.int .i64 0,.int .i64 0,.int .i64 0]),4,32):=by kernel_rfl
theorem inf22:(Tryz.prog.info? 22).map (fun j=>(j.zero,j.size,j.bytes))=some (some (.slice none 0 0),1,24):=by kernel_rfl
theorem inf228:(Tryz.prog.info? 228).map (fun j=>(j.zero,j.size,j.bytes))=some (some (.slice none 0 0),1,24):=by kernel_rfl
theorem inf230:(Tryz.prog.info? 230).map (fun j=>(j.zero,j.size,j.bytes))=some (some (.agg #[.int .i64 0,.int .i64 0]),2,16):=by kernel_rfl
theorem inf141:(Tryz.prog.info? 141).map (fun j=>(j.zero,j.size,j.bytes))=some (some (.agg #[.slice none 0 0,.int .i64 0]),2,32):=by kernel_rfl
theorem inf55:(Tryz.prog.info? 55).map (fun j=>(j.zero,j.size,j.bytes))=some (some (.agg #[.int .i64 0,.int .i64 0,.slice none 0 0]),3,40):=by kernel_rfl
theorem inf227:(Tryz.prog.info? 227).map (fun j=>(j.zero,j.size,j.bytes))=some (some (.agg #[.slice none 0 0,.slice none 0 0]),2,48):=by kernel_rfl
theorem inf109:(Tryz.prog.info? 109).map (fun j=>(j.zero,j.size,j.bytes))=some (some (.agg #[.int .i64 0,.int .i64 0,.slice none 0 0]),3,40):=by kernel_rfl
theorem inf283:(Tryz.prog.info? 283).map (fun j=>(j.zero,j.size,j.bytes))=some (some (.agg #[.int .i64 0,.int .i64 0,.int .i64 0,.int .i64 0,.slice none 0 0,.int .i64 0,.int .i64 0,.int .i64 0,.slice none 0 0,.int .i64 0]),10,112):=by kernel_rfl
theorem inf51:(Tryz.prog.info? 51).map (fun j=>(j.zero,j.size,j.bytes))=some (some (.agg #[.slice none 0 0,.slice none 0 0]),2,48):=by kernel_rfl
theorem inf49:(Tryz.prog.info? 49).map (fun j=>(j.zero,j.size,j.bytes))=some (some (.slice none 0 0),1,24):=by kernel_rfl
theorem inf52:(Tryz.prog.info? 52).map (fun j=>(j.zero,j.size,j.bytes))=some (some (.slice none 0 0),1,24):=by kernel_rfl
theorem inf53:(Tryz.prog.info? 53).map (fun j=>(j.zero,j.size,j.bytes))=some (some (.slice none 0 0),1,24):=by kernel_rfl
theorem inf225:(Tryz.prog.info? 225).map (fun j=>(j.zero,j.size,j.bytes))=some (some (.pointer none),1,8):=by kernel_rfl
theorem inf186:(Tryz.prog.info? 186).map (fun j=>(j.zero,j.size,j.bytes))=some (some (.slice none 0 0),1,24):=by kernel_rfl
theorem inf269:(Tryz.prog.info? 269).map (fun j=>(j.zero,j.size,j.bytes))=some (some (.map none),1,8):=by kernel_rfl
theorem inf273:(Tryz.prog.info? 273).map (fun j=>(j.zero,j.size,j.bytes))=some (some (.agg #[.int .i64 0,.int .i64 0,.int .i64 0,.int .i64 0]),4,32):=by kernel_rfl
theorem inf5:(Tryz.prog.info? 5).map (fun j=>(j.zero,j.size,j.bytes))=some (some (.int .u8 0),1,1):=by kernel_rfl
theorem inf206:(Tryz.prog.info? 206).map (fun j=>(j.zero,j.size,j.bytes))=some (some (.pointer none),1,8):=by kernel_rfl
theorem inf188:(Tryz.prog.info? 188).map (fun j=>(j.zero,j.size,j.bytes))=some (some (.agg #[.int .i64 0,.slice none 0 0]),2,32):=by kernel_rfl
theorem inf254:(Tryz.prog.info? 254).map (fun j=>(j.zero,j.size,j.bytes))=some (some (.int .u64 0),1,8):=by kernel_rfl
theorem inf271:(Tryz.prog.info? 271).map (fun j=>(j.zero,j.size,j.bytes))=some (some (.slice none 0 0),1,24):=by kernel_rfl
theorem inf295:(Tryz.prog.info? 295).map (fun j=>(j.zero,j.size,j.bytes))=some (some (.map none),1,8):=by kernel_rfl
theorem inf236:(Tryz.prog.info? 236).map (fun j=>(j.zero,j.size,j.bytes))=some (some (.slice none 0 0),1,24):=by kernel_rfl
theorem inf279:(Tryz.prog.info? 279).map (fun j=>(j.zero,j.size,j.bytes))=some (some (.nilFunc),1,8):=by kernel_rfl
theorem inf296:(Tryz.prog.info? 296).map (fun j=>(j.zero,j.size,j.bytes))=some (some (.nilFunc),1,8):=by kernel_rfl
theorem z16:z118 Tryz.prog tab:=tabOk_of (⟨z57 Tryz.underlying3 inf3,⟨z57 Tryz.underlying23 inf23,⟨z57 Tryz.underlying30 inf30,⟨z57 Tryz.underlying74 inf74,⟨z57 Tryz.underlying28 inf28,⟨z57 Tryz.underlying26 inf26,⟨z57 Tryz.underlying133 inf133,⟨z57 Tryz.underlying38 inf38,⟨z57 Tryz.underlying24 inf24,⟨z57 Tryz.underlying33 inf33,⟨z57 Tryz.underlying129 inf129,⟨z57 Tryz.underlying47 inf47,⟨z57 Tryz.underlying27 inf27,⟨z57 Tryz.underlying131 inf131,⟨z57 Tryz.underlying36 inf36,⟨z57 Tryz.underlying99 inf99,⟨z57 Tryz.underlying96 inf96,⟨z57 Tryz.underlying42 inf42,⟨z57 Tryz.underlying97 inf97,⟨z57 Tryz.underlying4 inf4,⟨z57 Tryz.underlying238 inf238,⟨z57 Tryz.underlying156 inf156,⟨z57 Tryz.underlying159 inf159,⟨z57 Tryz.underlying22 inf22,⟨z57 Tryz.underlying228 inf228,⟨z57 Tryz.underlying230 inf230,⟨z57 Tryz.underlying141 inf141,⟨z57 Tryz.underlying55 inf55,⟨z57 Tryz.underlying227 inf227,⟨z57 Tryz.underlying109 inf109,⟨z57 Tryz.underlying283 inf283,⟨z57 Tryz.underlying51 inf51,⟨z57 Tryz.underlying49 inf49,⟨z57 Tryz.underlying52 inf52,⟨z57 Tryz.underlying53 inf53,⟨z57 Tryz.underlying225 inf225,⟨z57 Tryz.underlying186 inf186,⟨z57 Tryz.underlying269 inf269,⟨z57 Tryz.underlying273 inf273,⟨z57 Tryz.underlying5 inf5,⟨z57 Tryz.underlying206 inf206,⟨z57 Tryz.underlying188 inf188,⟨z57 Tryz.underlying254 inf254,⟨z57 Tryz.underlying271 inf271,⟨z57 Tryz.underlying295 inf295,⟨z57 Tryz.underlying236 inf236,⟨z57 Tryz.underlying279 inf279,⟨z57 Tryz.underlying296 inf296,trivial⟩⟩⟩⟩⟩⟩⟩⟩⟩⟩⟩⟩⟩⟩⟩⟩⟩⟩⟩⟩⟩⟩⟩⟩⟩⟩⟩⟩⟩⟩⟩⟩⟩⟩⟩⟩⟩⟩⟩⟩⟩⟩⟩⟩⟩⟩⟩⟩)
end Go.Proofs.YtnfoijopccdjeaaGreat
namespace Go.Proofs.YtnfoijopccdjeaaGreat
open Go.Gl
attribute [local irreducible] z18
def enI (n:Int):List AC:=[.int n]
def ints (l:List Int):AC:=.list 1 l.length (l.map enI)
theorem ok:Ok Tryz.prog tab:=⟨z16,by kernel_rfl⟩
structure State where
 a:List Int
 b:List Int
 deriving DecidableEq
def State.cs (s:State):List AC:=[ints s.a,ints s.b]
def State.mx (s:State):Prop:=s.a.length≤maxLen∧s.b.length≤maxLen
def State.sz (s:State):Nat:=s.a.length+s.b.length
def lst {α:Type} (w:Nat) (e:α→List AC) (l:List α):AC:=.list w l.length (l.map e)
def tot {α:Type} (f:α→Nat) (l:List α):Nat:=l.length+(l.map f).sum
theorem z816 {α:Type} (f:α→Nat) (l:List α) (k:Nat):((l.take k).map f).sum≤(l.map f).sum:=by
 conv=>rhs;rw [← List.take_append_drop k l,y63,List.sum_append]
 omega
def State.mxs (l:List State):Prop:=l.length≤maxLen∧∀ s∈l,s.mx
def State.small (s:State):Prop:=s.a.length≤1048576∧s.b.length≤1048576
theorem State.unown (s:State):∀ x∈s.cs,x.unown=x:=fun x hx=>by
 simp only [State.cs,List.mem_cons,List.not_mem_nil,or_false] at hx
 rcases hx with rfl|rfl<;>rfl
def z24 {α:Type} (e:α→List AC) (a:α):AC:=.agg (e a)
theorem Tree.unown (t:Tree):∀ x∈Tree.cs' t,x.unown=x:=fun x hx=>by
 simp only [Tree.cs',List.mem_cons,List.not_mem_nil,or_false] at hx
 rcases hx with rfl|rfl|rfl<;>rfl
def encL (l:List Int):List AC:=[ints l]
structure Graph where
 st:List State
 nx:List (List Int)
 deriving DecidableEq
def Graph.a1 (g:Graph):AC:=lst 2 State.cs g.st
def Graph.a2 (g:Graph):AC:=lst 1 encL g.nx
def Graph.cs (g:Graph):List AC:=[lst 2 State.cs g.st,lst 1 encL g.nx]
def Graph.s1 (g:Graph):Nat:=tot State.sz g.st
def Graph.s2 (g:Graph):Nat:=tot List.length g.nx
def enB (b:Bool):List AC:=[.bool b]
structure Trans where
 src:Int
 care:Int
 val:Int
 dst:Int
 deriving DecidableEq
def Trans.cs (t:Trans):List AC:=[.int t.src,.int t.care,.int t.val,.int t.dst]
theorem Trans.unown (t:Trans):∀ x∈t.cs,x.unown=x:=fun x hx=>by
 simp only [Trans.cs,List.mem_cons,List.not_mem_nil,or_false] at hx
 rcases hx with rfl|rfl|rfl|rfl<;>rfl
structure Aut where
 ini:List Int
 acc:List Bool
 ed:List Trans
 deriving DecidableEq
def Aut.a1 (a:Aut):AC:=lst 1 enI a.ini
def Aut.a2 (a:Aut):AC:=lst 1 enB a.acc
def Aut.a3 (a:Aut):AC:=lst 4 Trans.cs a.ed
def Aut.cs (a:Aut):List AC:=[lst 1 enI a.ini,lst 1 enB a.acc,lst 4 Trans.cs a.ed]
def Aut.s1 (a:Aut):Nat:=a.ini.length
def Aut.s2 (a:Aut):Nat:=a.acc.length
def Aut.s3 (a:Aut):Nat:=a.ed.length
structure Cert where
 ranks:List Int
 deriving DecidableEq
def Cert.a1 (a:Cert):AC:=lst 1 enI a.ranks
def Cert.cs (a:Cert):List AC:=[lst 1 enI a.ranks]
def Cert.s1 (a:Cert):Nat:=a.ranks.length
end Go.Proofs.YtnfoijopccdjeaaGreat
namespace Go.Proofs.YtnfoijopccdjeaaGreat
open Go.Gl
attribute [local irreducible] z18 AWP z30 z36 z32
def btw (n lo hi:Int):Bool:=decide (lo≤n) && decide (n≤hi)
theorem z116 {n lo hi:Int} : btw n lo hi=true↔lo≤n∧n≤hi:=by simp [btw]
theorem z304 {n lo hi:Int} : btw n lo hi=false↔¬(lo≤n∧n≤hi):=by rw [← z116];simp
theorem z232 (n lo hi:Int):CallsA Tryz.prog 97 [.int n,.int lo,.int hi] [] (.bool (btw n lo hi)) []:=by
 refine z14 z16 Tryz.func97 rfl rfl 15 Tryz.ntmps97 (by simp) ?_
 repeat' (first|(apply y4 ok;rfl;conv=>whnf)|(apply z5<;>intro _<;>conv=>whnf))
 all_goals (refine z44 rfl ?_;(unfold btw;simp [*];done))
def idxF {α:Type} (p:α→Bool) (l:List α):Int:=match l.findIdx? p with
 |some i=>i
 |none=>-1
theorem z155 {α:Type} {p:α→Bool} {l:List α} {i:Nat} (hi:i < l.length) (h:p l[i]=true) (hn:∀ j (hj:j < l.length),j < i→p l[j]=false):idxF p l=i:=by
 have:l.findIdx? p=some i:=List.findIdx?_eq_some_iff_getElem.2 ⟨hi,h,fun j hj=>by simp [hn j (by omega) hj]⟩
 simp [idxF,this]
theorem z139 {α:Type} {p:α→Bool} {l:List α} (hn:∀ j (hj:j < l.length),p l[j]=false):idxF p l=-1:=by
 have:l.findIdx? p=none:=List.findIdx?_eq_none_iff.2 fun x hx=>by
  obtain ⟨i,hi,rfl⟩:=List.mem_iff_getElem.1 hx
  exact hn i hi
 simp [idxF,this]
theorem z220 {α:Type} (p:α→Bool) (l:List α):decide (0≤idxF p l)=l.any p:=by
 unfold idxF
 split
 ·rename_i i e
  obtain ⟨h,hp,_⟩:=List.findIdx?_eq_some_iff_getElem.1 e
  have:l.any p=true:=List.any_eq_true.2 ⟨_,y44 h,hp⟩
  rw [this]
  simp
 ·rename_i e
  have:=List.findIdx?_eq_none_iff.1 e
  have:l.any p=false:=List.any_eq_false.2 fun x hx=>by simp [this x hx]
  rw [this]
  simp
theorem z662 (l:List Int) (hl:l.length≤maxLen) (p:Int→Bool) (f:FuncId) (hf:∀ x∈l,CallsA Tryz.prog f [.int x] [] (.bool (p x)) []):CallsA Tryz.prog 216 [lst 1 enI l,.fn (.func f) [] []] [] (.int (idxF p l)) []:=by
 unfold maxLen at hl
 refine z14 z16 Tryz.func216 rfl rfl 19 Tryz.ntmps216 (by simp) ?_
 repeat' ((apply y4 ok;rfl;conv=>whnf))
 refine z134 (fun k:Nat=>([(0,lst 1 enI l),(1,.fn (.func f) [] []),(7,.int l.length),(8,.int k)],[])) (fun k=>k≤l.length∧∀ j (hj:j < l.length),j < k→p l[j]=false) (fun k=>l.length - k) 0 (by simp)
  ⟨[],rfl,by decide,rfl,⟨⟨rfl,rfl⟩,⟨rfl,rfl⟩,⟨rfl,rfl⟩,⟨rfl,rfl⟩,trivial⟩,trivial⟩ ?_
 intro k hk
 repeat' (first|(apply y4 ok;rfl;conv=>whnf)|(apply y43;(first|omega|(unfold inI;omega));conv=>whnf)|(with_reducible apply z13;omega;intro _;conv=>whnf)|(apply z5<;>intro _<;>conv=>whnf)|(apply z91<;>intro _<;>conv=>whnf)|(apply z6 (hf l[k] (y44 _));rfl;rfl;conv=>whnf))
 ·rename_i h h1
  exact z49 rfl rfl (by rw [z155 (by omega) h1 hk.2];rfl)
 ·rename_i h h1
  refine z117 (k+1) [] ⟨by omega,fun j hj hjk=>?_⟩ (by omega) ⟨rfl,by decide,rfl,⟨⟨rfl,rfl⟩,⟨rfl,rfl⟩,⟨rfl,rfl⟩,⟨rfl,rfl⟩,trivial⟩,trivial⟩
  rcases y69 j k with h2|h2
  ·exact hk.2 j hj h2
  ·obtain rfl:j=k:=by omega
   exact h1
 ·exact z49 rfl rfl (by rw [z139 fun j hj=>hk.2 j hj (by omega)];rfl)
theorem z458 (l:List Int) (hl:l.length≤maxLen) (p:Int→Bool) (f:FuncId) (hf:∀ x∈l,CallsA Tryz.prog f [.int x] [] (.bool (p x)) []):CallsA Tryz.prog 159 [lst 1 enI l,.fn (.func f) [] []] [] (.bool (l.any p)) []:=by
 refine z14 z16 Tryz.func159 rfl rfl 9 Tryz.ntmps159 (by simp) ?_
 repeat' (first|(apply y4 ok;rfl;conv=>whnf)|(apply z6 (z662 l hl p f hf);rfl;rfl;conv=>whnf))
 exact z44 rfl (by rw [← z220])
theorem z960 (n:Int):CallsA Tryz.prog 160 [.int n] [] (.bool (!btw n 0 3)) []:=by
 refine z14 z16 Tryz.func160 rfl rfl 6 Tryz.ntmps160 (by simp) ?_
 repeat' (first|(apply y4 ok;rfl;conv=>whnf)|(apply z6 (z232 n 0 3);rfl;rfl;conv=>whnf))
 exact z44 rfl rfl
def z280 (l:List Int):Bool:=decide ((l.length:Int)=3) && !(l.any fun n=>!btw n 0 3)
theorem z699 (l:List Int) (hl:l.length≤maxLen):CallsA Tryz.prog 96 [ints l] [] (.bool (z280 l)) []:=by
 have hl':=hl
 unfold maxLen at hl'
 have hk:=z458 l hl (fun n=>!btw n 0 3) 160 (fun x _=>z960 x)
 refine z14 z16 Tryz.func96 rfl rfl 11 Tryz.ntmps96 (by simp) ?_
 repeat' (first|(apply y4 ok;rfl;conv=>whnf)|(apply z5<;>intro _<;>conv=>whnf)|(apply z6 (hk);rfl;rfl;conv=>whnf))
 all_goals (refine z44 rfl ?_;(unfold z280;simp [*];done))
end Go.Proofs.YtnfoijopccdjeaaGreat
namespace Go.Proofs.YtnfoijopccdjeaaGreat
open Go.Gl
attribute [local irreducible] z18 z901 z492
theorem z531 (l:List State) (hl:l.length≤maxLen) (p:State→Bool) (f:FuncId) (hf:∀ x∈l,CallsA Tryz.prog f [z24 State.cs x] [] (.bool (p x)) []):CallsA Tryz.prog 107 [lst 2 State.cs l,.fn (.func f) [] []] [] (.int (idxF p l)) []:=by
 unfold maxLen at hl
 refine z14 z16 Tryz.func107 rfl rfl 19 Tryz.ntmps107 (by simp) ?_
 repeat' (((apply y4 ok;rfl))<;>conv=>whnf)
 refine z134 (fun k:Nat=>([(0,lst 2 State.cs l),(1,.fn (.func f) [] []),(7,.int l.length),(8,.int k)],[])) (fun k=>k≤l.length∧∀ j (hj:j < l.length),j < k→p l[j]=false) (fun k=>l.length - k) 0 (by simp)
  ⟨[],rfl,by decide,rfl,⟨⟨rfl,rfl⟩,⟨rfl,rfl⟩,⟨rfl,rfl⟩,⟨rfl,rfl⟩,trivial⟩,trivial⟩ ?_
 intro k hk
 repeat' ((first|(apply y4 ok;rfl)|(apply y43;first|omega|(unfold inI;omega))|(((with_reducible apply z13;omega));intro _)|((first|apply z5|apply z91)<;>intro _)|(apply z6 (hf l[k] (y44 _));rfl;rfl))<;>conv=>whnf)
 ·rename_i h h1
  exact z49 rfl rfl (by rw [z155 (by omega) h1 hk.2];rfl)
 ·rename_i h h1
  refine z117 (k+1) [] ⟨by omega,fun j hj hjk=>?_⟩ (by omega) ⟨rfl,by decide,rfl,⟨⟨rfl,rfl⟩,⟨rfl,rfl⟩,⟨rfl,rfl⟩,⟨rfl,rfl⟩,trivial⟩,trivial⟩
  rcases y69 j k with h2|h2
  ·exact hk.2 j hj h2
  ·obtain rfl:j=k:=by omega
   exact h1
 ·exact z49 rfl rfl (by rw [z139 fun j hj=>hk.2 j hj (by omega)];rfl)
theorem z398 (l:List State) (hl:l.length≤maxLen) (p:State→Bool) (f:FuncId) (hf:∀ x∈l,CallsA Tryz.prog f [z24 State.cs x] [] (.bool (p x)) []):CallsA Tryz.prog 127 [lst 2 State.cs l,.fn (.func f) [] []] [] (.bool (l.any p)) []:=by
 refine z14 z16 Tryz.func127 rfl rfl 9 Tryz.ntmps127 (by simp) ?_
 repeat' ((first|(apply y4 ok;rfl)|(apply z6 (z531 l hl p f hf);rfl;rfl))<;>conv=>whnf)
 exact z44 rfl (by rw [← z220])
theorem z571 (l:List Tree) (hl:l.length≤maxLen) (p:Tree→Bool) (f:FuncId) (hf:∀ x∈l,CallsA Tryz.prog f [z24 Tree.cs' x] [] (.bool (p x)) []):CallsA Tryz.prog 162 [lst 3 Tree.cs' l,.fn (.func f) [] []] [] (.int (idxF p l)) []:=by
 unfold maxLen at hl
 refine z14 z16 Tryz.func162 rfl rfl 19 Tryz.ntmps162 (by simp) ?_
 repeat' (((apply y4 ok;rfl))<;>conv=>whnf)
 refine z134 (fun k:Nat=>([(0,lst 3 Tree.cs' l),(1,.fn (.func f) [] []),(7,.int l.length),(8,.int k)],[])) (fun k=>k≤l.length∧∀ j (hj:j < l.length),j < k→p l[j]=false) (fun k=>l.length - k) 0 (by simp)
  ⟨[],rfl,by decide,rfl,⟨⟨rfl,rfl⟩,⟨rfl,rfl⟩,⟨rfl,rfl⟩,⟨rfl,rfl⟩,trivial⟩,trivial⟩ ?_
 intro k hk
 repeat' ((first|(apply y4 ok;rfl)|(apply y43;first|omega|(unfold inI;omega))|(((with_reducible apply z13;omega));intro _)|((first|apply z5|apply z91)<;>intro _)|(apply z6 (hf l[k] (y44 _));rfl;rfl))<;>conv=>whnf)
 ·rename_i h h1
  exact z49 rfl rfl (by rw [z155 (by omega) h1 hk.2];rfl)
 ·rename_i h h1
  refine z117 (k+1) [] ⟨by omega,fun j hj hjk=>?_⟩ (by omega) ⟨rfl,by decide,rfl,⟨⟨rfl,rfl⟩,⟨rfl,rfl⟩,⟨rfl,rfl⟩,⟨rfl,rfl⟩,trivial⟩,trivial⟩
  rcases y69 j k with h2|h2
  ·exact hk.2 j hj h2
  ·obtain rfl:j=k:=by omega
   exact h1
 ·exact z49 rfl rfl (by rw [z139 fun j hj=>hk.2 j hj (by omega)];rfl)
theorem z428 (l:List Tree) (hl:l.length≤maxLen) (p:Tree→Bool) (f:FuncId) (hf:∀ x∈l,CallsA Tryz.prog f [z24 Tree.cs' x] [] (.bool (p x)) []):CallsA Tryz.prog 101 [lst 3 Tree.cs' l,.fn (.func f) [] []] [] (.bool (l.any p)) []:=by
 refine z14 z16 Tryz.func101 rfl rfl 9 Tryz.ntmps101 (by simp) ?_
 repeat' ((first|(apply y4 ok;rfl)|(apply z6 (z571 l hl p f hf);rfl;rfl))<;>conv=>whnf)
 exact z44 rfl (by rw [← z220])
theorem z532 (c:Int) (l:List (List Int)) (hl:l.length≤maxLen) (p:(List Int)→Bool) (f:FuncId) (hf:∀ x∈l,CallsA Tryz.prog f [ints x,.pt [.int c]] [] (.bool (p x)) []):CallsA Tryz.prog 184 [lst 1 encL l,.fn (.func f) [] [.pt [.int c]]] [] (.int (idxF p l)) []:=by
 unfold maxLen at hl
 refine z14 z16 Tryz.func184 rfl rfl 19 Tryz.ntmps184 (by simp) ?_
 repeat' (((apply y4 ok;rfl))<;>conv=>whnf)
 refine z134 (fun k:Nat=>([(0,lst 1 encL l),(1,.fn (.func f) [] [.pt [.int c]]),(7,.int l.length),(8,.int k)],[])) (fun k=>k≤l.length∧∀ j (hj:j < l.length),j < k→p l[j]=false) (fun k=>l.length - k) 0 (by simp)
  ⟨[],rfl,by decide,rfl,⟨⟨rfl,rfl⟩,⟨rfl,rfl⟩,⟨rfl,rfl⟩,⟨rfl,rfl⟩,trivial⟩,trivial⟩ ?_
 intro k hk
 repeat' ((first|(apply y4 ok;rfl)|(apply y43;first|omega|(unfold inI;omega))|(((with_reducible apply z13;omega));intro _)|((first|apply z5|apply z91)<;>intro _)|(apply z6 (hf l[k] (y44 _));rfl;rfl))<;>conv=>whnf)
 ·rename_i h h1
  exact z49 rfl rfl (by rw [z155 (by omega) h1 hk.2];rfl)
 ·rename_i h h1
  refine z117 (k+1) [] ⟨by omega,fun j hj hjk=>?_⟩ (by omega) ⟨rfl,by decide,rfl,⟨⟨rfl,rfl⟩,⟨rfl,rfl⟩,⟨rfl,rfl⟩,⟨rfl,rfl⟩,trivial⟩,trivial⟩
  rcases y69 j k with h2|h2
  ·exact hk.2 j hj h2
  ·obtain rfl:j=k:=by omega
   exact h1
 ·exact z49 rfl rfl (by rw [z139 fun j hj=>hk.2 j hj (by omega)];rfl)
theorem z399 (c:Int) (l:List (List Int)) (hl:l.length≤maxLen) (p:(List Int)→Bool) (f:FuncId) (hf:∀ x∈l,CallsA Tryz.prog f [ints x,.pt [.int c]] [] (.bool (p x)) []):CallsA Tryz.prog 129 [lst 1 encL l,.fn (.func f) [] [.pt [.int c]]] [] (.bool (l.any p)) []:=by
 refine z14 z16 Tryz.func129 rfl rfl 9 Tryz.ntmps129 (by simp) ?_
 repeat' ((first|(apply y4 ok;rfl)|(apply z6 (z532 c l hl p f hf);rfl;rfl))<;>conv=>whnf)
 exact z44 rfl (by rw [← z220])
end Go.Proofs.YtnfoijopccdjeaaGreat
namespace Go.Proofs.YtnfoijopccdjeaaGreat
open Go.Gl
attribute [local irreducible] z18 AWP z30 z36 z32
theorem z862 (l:List Int) (hl:l.length≤maxLen) (v:Int):CallsA Tryz.prog 167 [ints l,.int v] [] (.int (idxF (fun x=>decide (v=x)) l)) []:=by
 unfold maxLen at hl
 refine z14 z16 Tryz.func167 rfl rfl 19 Tryz.ntmps167 (by simp) ?_
 repeat' (((apply y4 ok;rfl))<;>conv=>whnf)
 refine z134 (fun k:Nat=>([(0,ints l),(1,.int v),(7,.int l.length),(8,.int k)],[])) (fun k=>k≤l.length∧∀ j (hj:j < l.length),j < k→decide (v=l[j])=false) (fun k=>l.length - k) 0 (by simp)
  ⟨[],rfl,by decide,rfl,⟨⟨rfl,rfl⟩,⟨rfl,rfl⟩,⟨rfl,rfl⟩,⟨rfl,rfl⟩,trivial⟩,trivial⟩ ?_
 intro k hk
 repeat' ((first|(apply y4 ok;rfl)|(apply y43;first|omega|(unfold inI;omega))|(((with_reducible apply z13;omega));intro _)|((apply z5)<;>intro _))<;>conv=>whnf)
 ·rename_i h h1
  exact z49 rfl rfl (by rw [z155 (p:=fun x=>decide (v=x)) (by omega) (y81 h1) hk.2];rfl)
 ·rename_i h h1
  refine z117 (k+1) [] ⟨by omega,fun j hj hjk=>?_⟩ (by omega) ⟨rfl,by decide,rfl,⟨⟨rfl,rfl⟩,⟨rfl,rfl⟩,⟨rfl,rfl⟩,⟨rfl,rfl⟩,trivial⟩,trivial⟩
  rcases y69 j k with h2|h2
  ·exact hk.2 j hj h2
  ·obtain rfl:j=k:=by omega
   exact y82 h1
 ·exact z49 rfl rfl (by rw [z139 (p:=fun x=>decide (v=x)) fun j hj=>hk.2 j hj (by omega)];rfl)
theorem z140 (l:List Int) (hl:l.length≤maxLen) (v:Int):CallsA Tryz.prog 109 [ints l,.int v] [] (.bool (decide (v∈l))) []:=by
 refine z14 z16 Tryz.func109 rfl rfl 9 Tryz.ntmps109 (by simp) ?_
 repeat' ((first|(apply y4 ok;rfl)|(apply z6 (z862 l hl v);rfl;rfl))<;>conv=>whnf)
 have e:decide (v∈l)=l.any (fun x=>decide (v=x)):=by
  rw [Bool.eq_iff_iff];simp
 exact z44 rfl (by rw [e,← z220])
theorem z412 {α:Type} (w:Nat) (e:α→List AC) (l:List α) (k:Nat) (hk:k≤l.length):AC.list w ((k:Int).toNat - (0:Int).toNat) (((l.map e).drop (0:Int).toNat).take ((k:Int).toNat - (0:Int).toNat))=lst w e (l.take k):=by
 unfold lst
 rw [y48,List.map_take]
 simp only [y76,Int.toNat_zero,Nat.sub_zero,List.drop_zero]
 rw [Nat.min_eq_left hk]
def Distinct (l:List Int) (n:Int) (k:Nat):Prop:=∀ i (h:i < l.length),i < k→(0≤l[i]∧l[i]≤n - 1)∧l[i] ∉ l.take i
noncomputable instance {l:List Int} {n:Int} {k:Nat} : Decidable (Distinct l n k):=Classical.propDecidable _
theorem z872 (l:List Int) (hl:l.length≤maxLen) (n:Int) (h0:0≤n) (h1:n≤maxLen):CallsA Tryz.prog 131 [ints l,.int n] [] (.bool (decide (Distinct l n l.length))) []:=by
 have hl':=hl
 unfold maxLen at hl' h1
 refine z14 z16 Tryz.func131 rfl rfl 27 Tryz.ntmps131 (by simp) ?_
 repeat' (((apply y4 ok;rfl))<;>conv=>whnf)
 refine z134 (fun k:Nat=>([(0,ints l),(1,.int n),(7,ints l),(8,.int l.length),(9,.int k)],[])) (fun k=>k≤l.length∧Distinct l n k) (fun k=>l.length - k) 0 ⟨by omega,fun i h hi=>by omega⟩
  ⟨[],rfl,by decide,rfl,⟨⟨rfl,rfl⟩,⟨rfl,rfl⟩,⟨rfl,rfl⟩,⟨rfl,rfl⟩,⟨rfl,rfl⟩,trivial⟩,trivial⟩ ?_
 intro k hk
 repeat' ((first|(apply y4 ok;rfl)|(apply y43;first|omega|(unfold inI;omega))|(((with_reducible apply z13;omega));intro _)|((first|apply z5|apply z100)<;>intro _)|(apply z6 (z232 l[k] 0 (n - 1));rfl;rfl))<;>conv=>whnf)
 ·rename_i hb
  refine z44 rfl (y82 fun hd=>?_)
  have:=(hd k ‹_› ‹_›).1
  rw [z304] at hb
  exact hb this
 ·rename_i hb
  apply z6 (z140 (l.take k) (by rw [y48];omega) l[k])
  ·show _=[AC.list 1 _ _,_]
   rw [show AC.list 1 (l.take k).length ((l.take k).map enI)=_ from (z412 1 enI l k hk.1).symm]
   rfl
  ·rfl
  conv=>whnf
  repeat' ((first|(apply y4 ok;rfl)|(apply y43;(unfold inI;omega))|((apply z5)<;>intro _))<;>conv=>whnf)
  ·rename_i h2
   exact z44 rfl (y82 fun hd=>(hd k ‹_› ‹_›).2 h2)
  ·rename_i h2
   refine z117 (k+1) [] ⟨by omega,fun i hi hik=>?_⟩ (by omega) ⟨rfl,by decide,rfl,⟨⟨rfl,rfl⟩,⟨rfl,rfl⟩,⟨rfl,rfl⟩,⟨rfl,rfl⟩,⟨rfl,rfl⟩,trivial⟩,trivial⟩
   rcases y69 i k with h3|h3
   ·exact hk.2 i hi h3
   ·obtain rfl:i=k:=by omega
    exact ⟨z116.1 hb,h2⟩
 ·exact z44 rfl (y81 fun i h hi=>hk.2 i h (by omega))
theorem z579 (s:State) (hs:s.mx):CallsA Tryz.prog 128 [z24 State.cs s] [] (.bool (!z280 s.b)) []:=by
 refine z14 z16 Tryz.func128 rfl rfl 7 Tryz.ntmps128 (by simp) ?_
 repeat' (first|(apply y4 ok;rfl;conv=>whnf)|(apply z6 (z699 s.b hs.2);rfl;rfl;conv=>whnf))
 exact z44 rfl rfl
noncomputable def z817 (n:Int) (l:List Int):Bool:=!decide ((l.length:Int)=0) && decide (Distinct l n l.length)
theorem z578 (c:Int) (h0:0≤c) (h1:c≤maxLen) (l:List Int) (hl:l.length≤maxLen):CallsA Tryz.prog 130 [ints l,.pt [.int c]] [] (.bool (!z817 c l)) []:=by
 have hl':=hl
 unfold maxLen at hl'
 refine z14 z16 Tryz.func130 rfl rfl 13 Tryz.ntmps130 (by simp) ?_
 repeat' (first|(apply y4 ok;rfl;conv=>whnf)|(apply z5<;>intro _<;>conv=>whnf)|(apply z6 (z872 l hl c h0 h1);rfl;rfl;conv=>whnf))
 all_goals (refine z44 rfl ?_;first|(unfold z817;simp [*];done)|(unfold z817;simp_all;done))
def Graph.mx (g:Graph):Prop:=State.mxs g.st∧g.nx.length≤maxLen∧∀ l∈g.nx,l.length≤maxLen
noncomputable def z443 (g:Graph):Bool:=btw g.st.length 1 60 && (decide ((g.nx.length:Int)=g.st.length) && (!(g.st.any fun s=>!z280 s.b) && !(g.nx.any fun l=>!z817 g.st.length l)))
theorem z390 (g:Graph) (hg:g.mx):CallsA Tryz.prog 51 [.agg g.cs] [] (.bool (z443 g)) []:=by
 obtain ⟨hs,hn,hm⟩:=hg
 have hl1:=hs.1
 unfold maxLen at hl1
 have k1:=z398 g.st hs.1 (fun s=>!z280 s.b) 128 (fun s hx=>z579 s (hs.2 s hx))
 have k2:=z399 (g.st.length:Int) g.nx hn (fun l=>!z817 g.st.length l) 130 (fun l hx=>z578 _ (by omega) (by unfold maxLen;omega) l (hm l hx))
 refine z14 z16 Tryz.func51 rfl rfl 29 Tryz.ntmps51 (by simp) ?_
 repeat' (first|(apply y4 ok;rfl;conv=>whnf)|(apply z5<;>intro _<;>conv=>whnf)|(apply z100<;>intro _<;>conv=>whnf)|(apply z91<;>intro _<;>conv=>whnf)|(apply z6 (z232 (g.st.length:Int) 1 60);rfl;rfl;conv=>whnf)|(apply z6 (k1);rfl;rfl;conv=>whnf)|(apply z482 [1] (k2);rfl;rfl;rfl;rfl;conv=>whnf))
 all_goals (refine z44 rfl ?_;(unfold z443;simp [*];done))
theorem z397 {d : Int} (l : List Tree) (hl : l.length ≤ maxLen) (p : Tree → Int → Bool) (nx : Tree → Int → Int) (okS : Int → Prop) (hok : ∀ x s, okS s → p x s = false → okS (nx x s)) (f : FuncId) (s : Int) (h0 : okS s)
    (hf:∀ x∈l,∀ s,okS s→CallsA Tryz.prog f [z24 Tree.cs' x,.pt [.int d],.ptr 1 none 0] [.cells 1 [[.int s]],.cells 1 [[.ptr 0 none 0]]] (.bool (p x s)) [.cells 1 [[.int (nx x s)]],.cells 1 [[.ptr 0 none 0]]]) :
    CallsA Tryz.prog 162 [lst 3 Tree.cs' l,.fn (.func f) [] [.pt [.int d],.ptr 1 none 0]] [.cells 1 [[.int s]],.cells 1 [[.ptr 0 none 0]]] (.int (idxS p nx l s 0).1) [.cells 1 [[.int (idxS p nx l s 0).2]],.cells 1 [[.ptr 0 none 0]]]:=by
  unfold maxLen at hl
  refine z14 z16 Tryz.func162 rfl rfl 19 Tryz.ntmps162 (by simp) ?_
  repeat' (((apply y4 ok;rfl))<;>conv=>whnf)
  refine z134 (fun x:Nat×Int=>([(0,lst 3 Tree.cs' l),(1,.fn (.func f) [] [.pt [.int d],.ptr 1 none 0]),(7,.int l.length),(8,.int x.1)],[.cells 1 [[.int x.2]],.cells 1 [[.ptr 0 none 0]]])) (fun x=>x.1≤l.length∧okS x.2∧idxS p nx l s 0=idxS p nx (l.drop x.1) x.2 x.1) (fun x=>l.length - x.1) (0,s) ⟨by omega,h0,rfl⟩
    ⟨[0,1],rfl,by decide,rfl,⟨⟨rfl,rfl⟩,⟨rfl,rfl⟩,⟨rfl,rfl⟩,⟨rfl,rfl⟩,trivial⟩,⟨z42 rfl rfl,z42 rfl rfl,trivial⟩⟩ ?_
  rintro ⟨k,t⟩ ⟨hk1,hk2,hk3⟩
  dsimp only at hk1 hk2 hk3
  repeat' ((first|(apply y4 ok;rfl)|(apply y43;first|omega|(unfold inI;omega))|(((with_reducible apply z13;omega));intro _)|((first|apply z5|apply z91)<;>intro _)|(apply z25 [0,1] [] (hf l[k] (y44 _) t hk2);rfl;rfl;rfl))<;>conv=>whnf)
  · rename_i h hkl h1
    rw [y79 hkl,idxS,if_pos h1] at hk3
    rw [hk3]
    exact z88 [0,1] (by decide) rfl rfl rfl ⟨z42 rfl rfl,z42 rfl rfl,trivial⟩
  · rename_i h hkl h1
    rw [y79 hkl,idxS,if_neg (by rw [h1];simp)] at hk3
    exact z117 (k+1,nx l[k] t) [0,1] ⟨by dsimp only;omega,hok _ _ hk2 h1,hk3⟩ (by dsimp only;omega) ⟨rfl,by decide,rfl,⟨⟨rfl,rfl⟩,⟨rfl,rfl⟩,⟨rfl,rfl⟩,⟨rfl,rfl⟩,trivial⟩,⟨z42 rfl rfl,z42 rfl rfl,trivial⟩⟩
  · rw [y83 (by omega),idxS] at hk3
    rw [hk3]
    exact z88 [0,1] (by decide) rfl rfl rfl ⟨z42 rfl rfl,z42 rfl rfl,trivial⟩
theorem z581 {d : Int} (l : List Tree) (hl : l.length ≤ maxLen) (p : Tree → Int → Bool) (nx : Tree → Int → Int) (okS : Int → Prop) (hok : ∀ x s, okS s → p x s = false → okS (nx x s)) (f : FuncId) (s : Int) (h0 : okS s)
    (hf:∀ x∈l,∀ s,okS s→CallsA Tryz.prog f [z24 Tree.cs' x,.pt [.int d],.ptr 1 none 0] [.cells 1 [[.int s]],.cells 1 [[.ptr 0 none 0]]] (.bool (p x s)) [.cells 1 [[.int (nx x s)]],.cells 1 [[.ptr 0 none 0]]]) :
    CallsA Tryz.prog 101 [lst 3 Tree.cs' l,.fn (.func f) [] [.pt [.int d],.ptr 1 none 0]] [.cells 1 [[.int s]],.cells 1 [[.ptr 0 none 0]]] (.bool (decide (0≤(idxS p nx l s 0).1))) [.cells 1 [[.int (idxS p nx l s 0).2]],.cells 1 [[.ptr 0 none 0]]]:=by
  refine z14 z16 Tryz.func101 rfl rfl 9 Tryz.ntmps101 (by simp) ?_
  repeat' ((first|(apply y4 ok;rfl)|(apply z25 [0,1] [] (z397 (d:=d) l hl p nx okS hok f s h0 hf);rfl;rfl;rfl))<;>conv=>whnf)
  exact z88 [0,1] (by decide) rfl rfl rfl ⟨z42 rfl rfl,z42 rfl rfl,trivial⟩
theorem walk_ok (t:Tree):t.mx→∀ d n:Int,0≤d→d≤100→0≤n→n≤15→CallsA Tryz.prog 205 [z24 Tree.cs' t,.int d,.ptr 0 none 0] [.cells 1 [[.int n]]] (.bool (t.walkE d n).2) [.cells 1 [[.int (t.walkE d n).1]]]:=by
  induction t using y26 with|h t ih=>?_
  intro hm d n hd0 hd1 h0 h1
  rw [y30] at hm
  have hs:=Tree.walkE_spec.1
  have hk:d≤6→n+1≤15→CallsA Tryz.prog 101 [lst 3 Tree.cs' t.kids,.fn (.func 253) [] [.pt [.int d],.ptr 1 none 0]] [.cells 1 [[.int (n+1)]],.cells 1 [[.ptr 0 none 0]]] (.bool (!(Tree.walkEs t.kids (d+1) (n+1)).2)) [.cells 1 [[.int (Tree.walkEs t.kids (d+1) (n+1)).1]],.cells 1 [[.ptr 0 none 0]]]:=by
    intro hd hn
    have h:=z581 (d:=d) t.kids hm.1 (fun x s=>!(x.walkE (d+1) s).2) (fun x s=>(x.walkE (d+1) s).1) (fun s=>0≤s∧s≤15) (fun x s h1 h2=>by
      obtain ⟨a1,a2,a3,a4⟩:=hs x (d+1) s h1.1 h1.2
      have h3:(x.walkE (d+1) s).2=true:=by simpa using h2
      have:=(a1.1 h3).2
      rw [← a2 h3] at this
      exact ⟨by omega,this⟩) 253 (n+1) ⟨by omega,by omega⟩ (fun x hx s h=>by
        have hc:=ih x hx (hm.2 x hx) (d+1) s (by omega) (by omega) h.1 h.2
        refine z14 z16 Tryz.func253 rfl rfl 11 Tryz.ntmps253 (by simp) ?_
        repeat' ((first|(apply y4 ok;rfl)|(apply y43;(unfold inI;omega))|(apply z25 [0] [] hc;rfl;rfl;rfl))<;>conv=>whnf)
        exact z88 [0,1] (by decide) rfl rfl rfl ⟨z42 rfl rfl,z42 rfl rfl,trivial⟩)
    rw [y40 (d+1) t.kids (n+1) 0,Bool.not_not]
    exact h
  have hk2:=fun h1 h2=>by
    have:=hk h1 h2
    unfold lst at this
    rw [← y17] at this
    exact this
  refine z14 z16 Tryz.func205 rfl rfl 55 Tryz.ntmps205 (by simp) ?_
  repeat' ((first|(apply y4 ok;rfl)|(apply y43;(unfold inI;omega))|((first|apply z5|apply z52|apply z100)<;>intro _)|(apply z6 (z232 _ 1 9);rfl;rfl)|(apply z6 (z232 _ 0 3);rfl;rfl)|(apply z6 (z232 _ 0 2);rfl;rfl)|(apply z6 (z232 _ 0 0);rfl;rfl)|(apply z89 [0,3] [2] [] (hk2 (by omega) (by omega));rfl;rfl;rfl;(focus ((repeat' first|exact z12|apply z11)<;>exact z33 rfl rfl));((refine .inr ⟨rfl,?_⟩;repeat' first|exact True.intro|apply y43|exact rfl))))<;>conv=>whnf)
  all_goals first
    | (have e : t.walkE d n = (n + 1, false) := by
        rw [y39,if_neg]
        clear hk hk2 hs ih
        rintro ⟨c1,c2,c3,c4,c5⟩
        try simp only [z304,z116] at *
        unfold z290 at c4
        unfold z330 at c5
        grind
       rw [e]
       exact z88 [0] (by decide) rfl rfl rfl ⟨z42 rfl rfl,trivial⟩)
    | (have e : t.walkE d n = Tree.walkEs t.kids (d + 1) (n + 1) := by
        rw [y39,if_pos]
        clear hk hk2 hs ih
        try simp only [z304,z116] at *
        unfold z290 z330
        grind
       rw [e]
       refine z88 [0] (by decide) rfl rfl ?_ ⟨z42 rfl rfl,trivial⟩
       show AC.raw (.bool (!!_))=_
       rw [Bool.not_not];rfl)
theorem y16 (t:Tree):z24 Tree.cs' t=.agg [.int t.kind,.int t.val,lst 3 Tree.cs' t.kids]:=by
 simp only [z24,Tree.cs',lst,Tree.lst_eq]
theorem z771 (t:Tree) (hm:t.mx):CallsA Tryz.prog 144 [z24 Tree.cs' t] [] (.int (if t.exprB then t.count 6 else 0)) []:=by
 have hk:=walk_ok t hm 1 0 (by omega) (by omega) (by omega) (by omega)
 obtain ⟨_,h2,_,_⟩:=Tree.walkE_spec.1 t 1 0 (by omega) (by omega)
 refine z14 z16 Tryz.func144 rfl rfl 8 Tryz.ntmps144 (by simp) ?_
 repeat' ((first|(apply y4 ok;rfl)|((apply z100)<;>intro _)|(apply z25 [1] [] hk;rfl;rfl;rfl))<;>conv=>whnf)
 ·rename_i h
  exact z49 rfl rfl (by rw [if_neg (by unfold Tree.exprB;rw [h];simp)];rfl)
 ·rename_i h
  have e:=h2 h
  rw [Int.zero_add] at e
  exact z49 rfl rfl (by rw [if_pos (show t.exprB=true from h),show t.count 6=(t.walkE 1 0).1 from e.symm];rfl)
theorem z299 (t:Tree) (hm:t.mx):CallsA Tryz.prog 73 [z24 Tree.cs' t] [] (.bool t.exprB) []:=by
 refine z14 z16 Tryz.func73 rfl rfl 6 Tryz.ntmps73 (by simp) ?_
 repeat' ((first|(apply y4 ok;rfl)|(apply z6 (z771 t hm);rfl;rfl))<;>conv=>whnf)
 refine z44 rfl ?_
 have:=Tree.count_pos.1 t 6
 cases t.exprB
 ·simp
 ·simp;omega
theorem z525 (t:Tree) (hm:t.mx):CallsA Tryz.prog 102 [z24 Tree.cs' t] [] (.bool (!t.exprB)) []:=by
 refine z14 z16 Tryz.func102 rfl rfl 6 Tryz.ntmps102 (by simp) ?_
 repeat' ((first|(apply y4 ok;rfl)|(apply z6 (z299 t hm);rfl;rfl))<;>conv=>whnf)
 exact z44 rfl rfl
def z85 (l:List Tree):Bool:=decide ((l.length:Int)=3) && l.all Tree.exprB
theorem z138 (l:List Tree) (hl:l.length≤maxLen) (hm:∀ t∈l,t.mx):CallsA Tryz.prog 41 [lst 3 Tree.cs' l] [] (.bool (z85 l)) []:=by
 have hk:=z428 l hl (fun t=>!t.exprB) 102 (fun t ht=>z525 t (hm t ht))
 refine z14 z16 Tryz.func41 rfl rfl 11 Tryz.ntmps41 (by simp) ?_
 repeat' ((first|(apply y4 ok;rfl)|((apply z5)<;>intro _)|(apply z6 (hk);rfl;rfl))<;>conv=>whnf)
 ·refine z44 rfl ?_
  rename_i h
  unfold z85
  rw [y81 h,List.all_eq_not_any_not];rfl
 ·refine z44 rfl ?_
  rename_i h
  unfold z85
  rw [y82 h];rfl
theorem z602 (k:Int):CallsA Tryz.prog 215 [.int k] [] (.int (z330 k)) []:=by
 refine z14 z16 Tryz.func215 rfl rfl 15 Tryz.ntmps215 (by simp) ?_
 repeat' ((first|(apply y4 ok;rfl)|((apply z5)<;>intro _))<;>conv=>whnf)
 all_goals (refine z49 rfl rfl ?_;unfold z330;first|(rw [if_pos (by omega)];rfl)|(rw [if_neg (by omega),if_pos (by omega)];rfl)|(rw [if_neg (by omega),if_neg (by omega),if_pos (by omega)];rfl)|(rw [if_neg (by omega),if_neg (by omega),if_neg (by omega)];rfl))
theorem z975 (l:List Tree) (d:Int):Tree.shapes l d=l.all (fun t=>t.shape d):=by
 induction l with
 |nil=>rfl
 |cons t l ih=>simp [Tree.shapes,ih]
theorem z463 (t:Tree) (d:Int):t.shape d=(decide (1≤d∧(t.kids.length:Int)=z330 t.kind∧0≤t.val∧t.val≤z290 t.kind) && t.kids.all fun t=>t.shape (d - 1)):=by
 cases t;simp only [Tree.shape,Tree.kids,Tree.kind,Tree.val,z975];rfl
theorem z1002 (t:Tree):t.mx→∀ d:Int,-100≤d→d≤100→CallsA Tryz.prog 169 [z24 Tree.cs' t,.int d] [] (.bool (t.shape d)) []:=by
  induction t using y26 with|h t ih=>?_
  intro hm d h0 h1
  rw [y30] at hm
  have hl:=hm.1
  unfold maxLen at hl
  rw [y16,z463]
  refine z14 z16 Tryz.func169 rfl rfl 49 Tryz.ntmps169 (by simp) ?_
  repeat' ((first|(apply y4 ok;rfl)|(apply z26;kernel_rfl)|((first|apply z5|apply z52)<;>intro _)|(apply z6 (z602 _);rfl;rfl))<;>conv=>whnf)
  all_goals first
    | (refine z44 rfl ?_
       rw [y82]
       · rfl
       · clear ih
         rintro ⟨c1,c2,c3,c4⟩
         unfold z290 at c4
         grind)
    | (have hg : decide (1 ≤ d ∧ (t.kids.length : Int) = z330 t.kind ∧ 0 ≤ t.val ∧ t.val ≤ z290 t.kind) = true := by
         clear ih
         refine y81 ?_
         unfold z290
         grind
       rw [hg,Bool.true_and]
       refine z134 (fun k:Nat=>([(1,.int d),(2,.ptr 0 none 0),(6,.int k)],[.cells 3 [[.int t.kind,.int t.val,lst 3 Tree.cs' t.kids]]])) (fun k=>k≤t.kids.length∧(t.kids.all fun t=>t.shape (d - 1))=(t.kids.drop k).all fun t=>t.shape (d - 1)) (fun k=>t.kids.length - k) 0 ⟨by omega,rfl⟩ ⟨[0],rfl,by decide,rfl,by repeat' (first|exact True.intro|exact ⟨rfl,rfl⟩|apply y43),by repeat' (first|exact True.intro|exact z42 rfl rfl|apply y43)⟩ ?_
       intro k hk
       repeat' ((first|(apply y4 ok;rfl)|(apply y43;first|omega|(unfold inI;omega))|(((with_reducible apply z13;omega));intro _)|((first|apply z5|apply z100)<;>intro _)|(apply z6 (ih t.kids[k] (y44 _) (hm.2 _ (y44 _)) (d - 1) (by omega) (by omega));rfl;rfl))<;>conv=>whnf)
       · rename_i h1
         exact z44 rfl (by rw [hk.2,z145 _ _ _ (by assumption)];simp [h1])
       · rename_i h1
         exact z117 (k+1) [0] ⟨by omega,by rw [hk.2,z145 _ _ _ (by assumption)];simp [h1]⟩ (by omega) ⟨rfl,by decide,rfl,by repeat' (first|exact True.intro|exact ⟨rfl,rfl⟩|apply y43),by repeat' (first|exact True.intro|exact z42 rfl rfl|apply y43)⟩
       · exact z44 rfl (by rw [hk.2,z126 _ _ _ (by omega)]))
theorem z481 (t:Tree) (d:Int):t.count d=if 0 < d then 1+(t.kids.map fun t=>t.count (d - 1)).sum else 1:=by
 have:∀ (l:List Tree) d,Tree.counts l d=(l.map fun t=>t.count d).sum:=by
  intro l d
  induction l with
  |nil=>rfl
  |cons t l ih=>simp [Tree.counts,ih]
 cases t;simp only [Tree.count,Tree.kids,this]
theorem count_le (t:Tree):∀ d n:Nat,t.shape d=true→t.count n≤2 ^ d - 1:=by
 induction t using y26 with|h t ih=>?_
 intro d n h
 rw [z463,y70,decide_eq_true_eq] at h
 obtain ⟨⟨h1,h2,_,_⟩,h3⟩:=h
 rw [y78] at h3
 obtain ⟨d,rfl⟩:∃ e,d=e+1:=⟨d - 1,by omega⟩
 have e:((d+1:Nat):Int) - 1=(d:Nat):=by omega
 rw [e] at h3
 rw [z481]
 have hp:(1:Int)≤2 ^ d:=by exact_mod_cast Nat.one_le_two_pow
 have hq:((2:Int) ^ (d+1))=2 * 2 ^ d:=by rw [Int.pow_succ];omega
 split
 ·rename_i hn
  obtain ⟨n,rfl⟩:∃ e,n=e+1:=⟨n - 1,by omega⟩
  have e:((n+1:Nat):Int) - 1=(n:Nat):=by omega
  rw [e]
  have hl:(t.kids.length:Int)≤2:=by rw [h2];unfold z330;grind
  have hk:∀ u∈t.kids,u.count n≤2 ^ d - 1:=fun u hu=>ih u hu d n (h3 u hu)
  match hkk:t.kids with
  |[]=>simp only [List.map_nil,List.sum_nil];omega
  |[a] =>
   have:=hk a (by simp [hkk])
   simp only [List.map_cons,List.map_nil,List.sum_cons,List.sum_nil];omega
  |[a,b] =>
   have:=hk a (by simp [hkk])
   have:=hk b (by simp [hkk])
   simp only [List.map_cons,List.map_nil,List.sum_cons,List.sum_nil];omega
  |a::b::c::r=>rw [hkk] at hl;simp only [y57] at hl;omega
 ·omega
theorem z461 (f:Tree→Int) (l:List Tree) (k:Nat) (hk:k < l.length):((l.take (k+1)).map f).sum=((l.take k).map f).sum+f l[k]:=by
 rw [y50 hk,y63,List.sum_append];simp
theorem z874 (t:Tree) (e d:Int) (he:e≤50) (hd:0≤d) (h:t.shape e=true):t.count d≤2 ^ 50:=by
 have h1:1≤e:=by
  rw [z463,y70,decide_eq_true_eq] at h;exact h.1.1
 obtain ⟨n,rfl⟩:=Int.eq_ofNat_of_zero_le (show 0≤e by omega)
 obtain ⟨m,rfl⟩:=Int.eq_ofNat_of_zero_le hd
 have h2:=count_le t n m h
 have h4:(2:Int) ^ n≤2 ^ 50:=by exact_mod_cast Nat.pow_le_pow_right (by omega) (by omega)
 omega
theorem z1003 (t:Tree):t.mx→∀ e d:Int,e≤50→0≤d→d≤50→t.shape e=true→CallsA Tryz.prog 170 [z24 Tree.cs' t,.int d] [] (.int (t.count d)) []:=by
 induction t using y26 with|h t ih=>?_
 intro hm e d h0 h1 h2 hs
 rw [y30] at hm
 rw [z463,y70,decide_eq_true_eq,y78] at hs
 obtain ⟨⟨hs1,hs2,_,_⟩,hs3⟩:=hs
 have hl:(t.kids.length:Int)≤2:=by rw [hs2];unfold z330;grind
 rw [y16,z481]
 have hb:0 < d→∀ k,k≤t.kids.length→0≤((t.kids.take k).map fun t=>t.count (d - 1)).sum∧((t.kids.take k).map fun t=>t.count (d - 1)).sum≤k * 2 ^ 50:=by
  intro hd k
  induction k with
  |zero=>intro _;simp
  |succ k ihk =>
   intro hk
   have h1:=ihk (by omega)
   rw [z461 _ _ _ (by omega)]
   have h2:=z874 t.kids[k] (e - 1) (d - 1) (by omega) (by omega) (hs3 _ (y44 _))
   have h3:=Tree.count_pos.1 t.kids[k] (d - 1)
   omega
 refine z14 z16 Tryz.func170 rfl rfl 29 Tryz.ntmps170 (by simp) ?_
 repeat' (((apply y4 ok;rfl))<;>conv=>whnf)
 by_cases hd:0 < d
 ·rw [if_pos hd]
  refine z134 (fun k:Nat=>([(1,.int d),(2,.ptr 0 none 0),(5,.int (1+((t.kids.take k).map fun t=>t.count (d - 1)).sum)),(6,.int k)],[.cells 3 [[.int t.kind,.int t.val,lst 3 Tree.cs' t.kids]]])) (fun k=>k≤t.kids.length) (fun k=>t.kids.length - k) 0 (by omega) ⟨[0],rfl,by decide,rfl,by repeat' (first|exact True.intro|exact ⟨rfl,rfl⟩|apply y43),by repeat' (first|exact True.intro|exact z42 rfl rfl|apply y43)⟩ ?_
  intro k hk
  have hbk:=hb hd k hk
  have hbk1:=fun h=>hb hd (k+1) h
  have hss:=fun h=>z461 (fun t=>t.count (d - 1)) t.kids k h
  repeat' ((first|(apply y4 ok;rfl)|(apply y43;first|omega|(unfold inI;omega))|(((with_reducible apply z13;omega));intro _)|((apply z5)<;>intro _)|(apply z6 (ih t.kids[k] (y44 _) (hm.2 _ (y44 _)) (e - 1) (d - 1) (by omega) (by omega) (by omega) (hs3 _ (y44 _)));rfl;rfl))<;>conv=>whnf)
  ·have e1:=hss ‹_›
   have e2:=hbk1 (by omega)
   refine y43 (by unfold inI;omega) ?_
   conv=>whnf
   repeat' ((first|(apply y4 ok;rfl)|(apply y43;(unfold inI;omega)))<;>conv=>whnf)
   exact z117 (k+1) [0] (by omega) (by omega) ⟨rfl,by decide,rfl,⟨⟨rfl,rfl⟩,⟨rfl,rfl⟩,⟨rfl,by rw [e1,← Int.add_assoc];rfl⟩,⟨rfl,rfl⟩,trivial⟩,⟨z42 rfl rfl,trivial⟩⟩
  ·omega
  ·obtain rfl:k=t.kids.length:=by omega
   exact z49 rfl rfl (by rw [y55];rfl)
 ·rw [if_neg hd]
  refine z134 (fun k:Nat=>([(1,.int d),(2,.ptr 0 none 0),(5,.int 1),(6,.int k)],[.cells 3 [[.int t.kind,.int t.val,lst 3 Tree.cs' t.kids]]])) (fun k=>k≤t.kids.length) (fun k=>t.kids.length - k) 0 (by omega) ⟨[0],rfl,by decide,rfl,by repeat' (first|exact True.intro|exact ⟨rfl,rfl⟩|apply y43),by repeat' (first|exact True.intro|exact z42 rfl rfl|apply y43)⟩ ?_
  intro k hk
  repeat' ((first|(apply y4 ok;rfl)|(apply y43;omega)|(((with_reducible apply z13;omega));intro _)|((apply z5)<;>intro _))<;>conv=>whnf)
  ·omega
  ·exact z49 rfl rfl rfl
  ·exact z49 rfl rfl rfl
theorem z143 (t:Tree) (hm:t.mx):CallsA Tryz.prog 116 [z24 Tree.cs' t] [] (.bool t.exprB) []:=by
 rw [y19]
 refine z14 z16 Tryz.func116 rfl rfl 10 Tryz.ntmps116 (by simp) ?_
 repeat' ((first|(apply y4 ok;rfl)|((apply z91)<;>intro _)|(apply z6 (z1002 t hm 6 (by omega) (by omega));rfl;rfl)|(apply z6 (z1003 t hm 6 6 (by omega) (by omega) (by omega) (by assumption));rfl;rfl))<;>conv=>whnf)
 all_goals (refine z44 rfl ?_;(simp [*];done))
theorem z214 (l:List Tree) (hl:l.length≤maxLen) (hm:∀ t∈l,t.mx):CallsA Tryz.prog 46 [lst 3 Tree.cs' l] [] (.bool (z85 l)) []:=by
 unfold maxLen at hl
 unfold z85
 refine z14 z16 Tryz.func46 rfl rfl 19 Tryz.ntmps46 (by simp) ?_
 repeat' (((apply y4 ok;rfl))<;>conv=>whnf)
 refine z134 (fun k:Nat=>([(0,lst 3 Tree.cs' l),(3,.int k)],[])) (fun k=>k≤l.length∧l.all Tree.exprB=(l.drop k).all Tree.exprB) (fun k=>l.length - k) 0 ⟨by omega,rfl⟩ ⟨[],rfl,by decide,rfl,by repeat' (first|exact True.intro|exact ⟨rfl,rfl⟩|apply y43),by repeat' (exact True.intro)⟩ ?_
 intro k hk
 repeat' ((first|(apply y4 ok;rfl)|(apply y43;first|omega|(unfold inI;omega))|(((with_reducible apply z13;omega));intro _)|((first|apply z5|apply z100)<;>intro _)|(apply z6 (z143 l[k] (hm _ (y44 _)));rfl;rfl))<;>conv=>whnf)
 ·rename_i h1
  exact z44 rfl (by rw [hk.2,z145 _ _ _ (by assumption)];simp [h1])
 ·rename_i h1
  exact z117 (k+1) [] ⟨by omega,by rw [hk.2,z145 _ _ _ (by assumption)];simp [h1]⟩ (by omega) ⟨rfl,by decide,rfl,by repeat' (first|exact True.intro|exact ⟨rfl,rfl⟩|apply y43),by repeat' (exact True.intro)⟩
 ·exact z44 rfl (by rw [hk.2,z126 _ _ _ (by omega),Bool.and_true])
theorem z905 (b:Bool):CallsA Tryz.prog 145 [.bool b] [] (.int (b2i b)) []:=by
 refine z14 z16 Tryz.func145 rfl rfl 4 Tryz.ntmps145 (by simp) ?_
 repeat' ((first|(apply y4 ok;rfl)|((apply z91)<;>intro _))<;>conv=>whnf)
 all_goals (refine z49 rfl rfl ?_;simp only [*];rfl)
theorem z756 (b:Bool):CallsA Tryz.prog 257 [.bool b] [] (.int (b2i b)) []:=by
 refine z14 z16 Tryz.func257 rfl rfl 4 Tryz.ntmps257 (by simp) ?_
 repeat' ((first|(apply y4 ok;rfl)|((apply z91)<;>intro _))<;>conv=>whnf)
 all_goals (refine z49 rfl rfl ?_;simp only [*];rfl)
theorem z607 {t:Tree} (hg:t.good):(∃ x,t=.mk 1 x []∧0≤x∧x≤3)∨(∃ x,t=.mk 2 x []∧0≤x∧x≤2)∨(∃ x a,t=.mk 3 x [a]∧a.good)∨(∃ k x a b,t=.mk k x [a,b]∧4≤k∧k≤9∧a.good∧b.good):=by
 obtain ⟨g1,g2,g3,g4⟩:=y24 hg
 obtain ⟨k,x,l⟩:=t
 simp only [Tree.kind,Tree.val,Tree.kids] at *
 unfold z330 at g1
 unfold z290 at g3
 match l,g1,g4 with
 |[],g1,_ =>
  simp only [y58] at g1
  have:k=1∨k=2:=by grind
  rcases this with rfl|rfl
  ·exact .inl ⟨x,rfl,g2,by grind⟩
  ·exact .inr (.inl ⟨x,rfl,g2,by grind⟩)
 |[a],g1,g4 =>
  simp only [y57,y58] at g1
  have:k=3:=by grind
  subst this
  exact .inr (.inr (.inl ⟨x,a,rfl,g4 a (by simp)⟩))
 |[a,b],g1,g4 =>
  simp only [y57,y58] at g1
  exact .inr (.inr (.inr ⟨k,x,a,b,rfl,by grind,by grind,g4 a (by simp),g4 b (by simp)⟩))
 |a::b::c::r,g1,_=>simp only [y57] at g1;grind
theorem z869 (v:List Int) (hv:ValsOk v) (t:Tree):t.good→CallsA Tryz.prog 75 [z24 Tree.cs' t,ints v] [] (.int (t.ev v)) []:=by
 induction t using y26 with|h t ih=>?_
 intro hg
 have hl:=hv.1
 rw [y16]
 rcases z607 hg with ⟨x,rfl,h1,h2⟩|⟨x,rfl,h1,h2⟩|⟨x,a,rfl,h1⟩|⟨k,x,a,b,rfl,h1,h2,h3,h4⟩<;>simp only [Tree.kind,Tree.val,Tree.kids] at *
 ·refine z14 z16 Tryz.func75 rfl rfl 82 Tryz.ntmps75 (by simp) ?_
  repeat' (((apply y4 ok;rfl))<;>conv=>whnf)
  all_goals (exact z49 rfl rfl (by rw [Tree.ev,if_pos rfl];rfl))
 ·refine z14 z16 Tryz.func75 rfl rfl 82 Tryz.ntmps75 (by simp) ?_
  repeat' ((first|(apply y4 ok;rfl)|(apply y43;omega)|(apply z1162;omega;intro _))<;>conv=>whnf)
  refine z49 rfl rfl ?_
  rw [Tree.ev,if_neg (by omega),if_pos rfl,y67,y45 (by omega)];rfl
 ·have ha:=y18 hv a h1
  refine z14 z16 Tryz.func75 rfl rfl 82 Tryz.ntmps75 (by simp) ?_
  repeat' ((first|(apply y4 ok;rfl)|(apply y43;omega)|apply z159|(apply z6 (ih a (by simp) h1);rfl;rfl)|(apply z6 (z905 _);rfl;rfl))<;>conv=>whnf)
  all_goals (refine z49 rfl rfl ?_;rw [Tree.ev,if_neg (by omega),if_neg (by omega)];simp only [Tree.evs];rfl)
 ·have ha:=y18 hv a h3
  have hb:=y18 hv b h4
  refine z14 z16 Tryz.func75 rfl rfl 82 Tryz.ntmps75 (by simp) ?_
  repeat' ((first|(apply y4 ok;rfl)|(apply y43;first|omega|(unfold inI;omega))|(((apply z13;omega));intro _)|apply z159|((first|apply z5|apply z52)<;>intro _)|(apply z6 (ih a (by simp) h3);rfl;rfl)|(apply z6 (ih b (by simp) h4);rfl;rfl)|(apply z6 (z905 _);rfl;rfl))<;>conv=>whnf)
  all_goals try (exfalso;omega)
  all_goals (refine z511 rfl ?_;clear ih;simp only [Tree.ev,Tree.evs,b2i];grind)
theorem z755 (v:List Int) (hv:ValsOk v) (t:Tree):t.good→CallsA Tryz.prog 221 [z24 Tree.cs' t,ints v] [] (.int (t.ev v)) []:=by
 induction t using y26 with|h t ih=>?_
 intro hg
 have hl:=hv.1
 rw [y16]
 rcases z607 hg with ⟨x,rfl,h1,h2⟩|⟨x,rfl,h1,h2⟩|⟨x,a,rfl,h1⟩|⟨k,x,a,b,rfl,h1,h2,h3,h4⟩<;>simp only [Tree.kind,Tree.val,Tree.kids] at *
 ·refine z14 z16 Tryz.func221 rfl rfl 86 Tryz.ntmps221 (by simp) ?_
  repeat' (((apply y4 ok;rfl))<;>conv=>whnf)
  all_goals (exact z49 rfl rfl (by rw [Tree.ev,if_pos rfl];rfl))
 ·refine z14 z16 Tryz.func221 rfl rfl 86 Tryz.ntmps221 (by simp) ?_
  repeat' ((first|(apply y4 ok;rfl)|(apply y43;omega)|(apply z1162;omega;intro _))<;>conv=>whnf)
  refine z49 rfl rfl ?_
  rw [Tree.ev,if_neg (by omega),if_pos rfl,y67,y45 (by omega)];rfl
 ·have ha:=y18 hv a h1
  refine z14 z16 Tryz.func221 rfl rfl 86 Tryz.ntmps221 (by simp) ?_
  repeat' ((first|(apply y4 ok;rfl)|(apply y43;omega)|apply z159|(apply z6 (ih a (by simp) h1);rfl;rfl)|(apply z6 (z756 _);rfl;rfl))<;>conv=>whnf)
  all_goals (refine z49 rfl rfl ?_;rw [Tree.ev,if_neg (by omega),if_neg (by omega)];simp only [Tree.evs];rfl)
 ·have ha:=y18 hv a h3
  have hb:=y18 hv b h4
  refine z14 z16 Tryz.func221 rfl rfl 86 Tryz.ntmps221 (by simp) ?_
  repeat' ((first|(apply y4 ok;rfl)|(apply y43;first|omega|(unfold inI;omega))|(((apply z13;omega));intro _)|apply z159|((first|apply z5|apply z52)<;>intro _)|(apply z6 (ih a (by simp) h3);rfl;rfl)|(apply z6 (ih b (by simp) h4);rfl;rfl)|(apply z6 (z756 _);rfl;rfl))<;>conv=>whnf)
  all_goals try (exfalso;omega)
  all_goals (refine z511 rfl ?_;clear ih;simp only [Tree.ev,Tree.evs,b2i];grind)
def ltr (v:List Int) (l:List Tree) (k n:Nat):Nat:=match l with
 |[]=>n
 |t::r=>ltr v r (k+1) (if t.ev v=0 then n else n ||| 2 ^ k)
theorem z929 (v:List Int) (l:List Tree) (k n:Nat) (h:k < l.length):ltr v (l.drop k) k n=ltr v (l.drop (k+1)) (k+1) (if l[k].ev v=0 then n else n ||| 2 ^ k):=by
 rw [y79 h,ltr]
theorem ltr_end (v:List Int) (l:List Tree) (k n:Nat) (h:l.length≤k):ltr v (l.drop k) k n=n:=by
 rw [y83 h,ltr]
def z59 (labels:List Tree) (s:State):Int:=ltr s.b labels 0 0
theorem or_lt {n k:Nat} (h:n < 2 ^ k):n ||| 2 ^ k < 2 ^ (k+1) :=
 Nat.or_lt_two_pow (by rw [Nat.pow_succ];omega) (by rw [Nat.pow_succ];have:=Nat.two_pow_pos k;omega)
def z172 (l:List Tree):Prop:=l.length=3∧∀ t∈l,t.good
theorem y8 {l:List Tree} (h:z85 l=true):z172 l:=by
 simp only [z85,y70,decide_eq_true_eq,y78] at h
 exact ⟨by omega,fun t ht=>y25 (h.2 t ht)⟩
theorem shl_eq (k:Nat) (hk:k < 3):(1:Int) * 2 ^ ((k:Int).toNat)=((2 ^ k:Nat):Int):=by simp
theorem z734 {k:Nat} (hk:k < 3):2 ^ k≤8∧2 ^ (k+1)≤8∧0 < 2 ^ k:=by
 have:k=0∨k=1∨k=2:=by omega
 rcases this with rfl|rfl|rfl<;>simp
theorem z1140 (s:State) (hv:ValsOk s.b) (l:List Tree) (hl:z172 l):CallsA Tryz.prog 245 [ints s.b,lst 3 Tree.cs' l] [] (.int (z59 l s)) []:=by
 have h3:=hl.1
 refine z14 z16 Tryz.func245 rfl rfl 25 Tryz.ntmps245 (by simp) ?_
 repeat' (((apply y4 ok;rfl))<;>conv=>whnf)
 refine z134 (fun x:Nat×Nat=>([(0,ints s.b),(5,.int x.2),(8,lst 3 Tree.cs' l),(9,.int l.length),(10,.int x.1)],[])) (fun x=>x.1≤l.length∧x.2 < 2 ^ x.1∧ltr s.b l 0 0=ltr s.b (l.drop x.1) x.1 x.2) (fun x=>l.length - x.1) (0,0) ⟨by omega,by decide,rfl⟩ ⟨[],rfl,by decide,rfl,by repeat' (first|exact True.intro|exact ⟨rfl,rfl⟩|apply y43),by repeat' (exact True.intro)⟩ ?_
 rintro ⟨k,n⟩ ⟨hk1,hk2,hk3⟩
 dsimp only at hk1 hk2 hk3
 repeat' ((first|(apply y4 ok;rfl)|(apply y43;first|omega|(unfold inI;omega))|(((with_reducible apply z13;omega));intro _)|((first|apply z5|apply z52)<;>intro _)|(apply z6 (z869 s.b hv l[k] (hl.2 _ (y44 _)));rfl;rfl))<;>conv=>whnf)
 ·rename_i hkl h
  have hp:=z734 (show k < 3 by omega)
  have e:=shl_eq k (by omega)
  refine y43 ⟨by omega,by omega,by rw [e];unfold inI;omega⟩ ?_
  conv=>whnf
  refine y43 (by rw [e];unfold z225;omega) ?_
  conv=>whnf
  repeat' ((first|(apply y4 ok;rfl)|(apply y43;(unfold inI;omega)))<;>conv=>whnf)
  rw [z929 _ _ _ _ hkl,if_neg h] at hk3
  refine z117 (k+1,n ||| 2 ^ k) [] ⟨by dsimp only;omega,or_lt hk2,hk3⟩ (by dsimp only;omega) ⟨rfl,by decide,rfl,⟨⟨rfl,rfl⟩,⟨rfl,?_⟩,⟨rfl,rfl⟩,⟨rfl,rfl⟩,⟨rfl,rfl⟩,trivial⟩,trivial⟩
  show AC.raw (.int .i64 (((n:Int).toNat ||| ((1:Int) * 2 ^ ((k:Int).toNat)).toNat:Nat):Int))=_
  rw [e];rfl
 ·rename_i hkl h
  rw [z929 _ _ _ _ hkl,if_pos h] at hk3
  have:2 ^ k≤2 ^ (k+1):=by rw [Nat.pow_succ];omega
  exact z117 (k+1,n) [] ⟨by dsimp only;omega,by dsimp only;omega,hk3⟩ (by dsimp only;omega) ⟨rfl,by decide,rfl,by repeat' (first|exact True.intro|exact ⟨rfl,rfl⟩|apply y43),by repeat' (exact True.intro)⟩
 ·rw [ltr_end _ _ _ _ (by omega)] at hk3
  exact z49 rfl rfl (by unfold z59;rw [hk3];rfl)
theorem z1145 (g:Graph) (hg:∀ s∈g.st,ValsOk s.b) (hn:g.st.length≤60) (l:List Tree) (hl:z172 l):CallsA Tryz.prog 194 [.agg g.cs,lst 3 Tree.cs' l] [] (.sref 0 0 g.st.length) [.cells 1 (g.st.map fun s=>enI (z59 l s))]:=by
 refine z14 z16 Tryz.func194 rfl rfl 29 Tryz.ntmps194 (by simp) ?_
 repeat' ((first|(apply y4 ok;rfl)|(apply y43;(dsimp only;omega)))<;>conv=>whnf)
 refine z134 (fun k:Nat=>([(1,lst 3 Tree.cs' l),(5,.sref 0 0 g.st.length),(13,lst 2 State.cs g.st),(14,.int g.st.length),(15,.int k)],[.cells 1 ((g.st.take k).map (fun s=>enI (z59 l s))++List.replicate (g.st.length - k) (enI 0))])) (fun k=>k≤g.st.length) (fun k=>g.st.length - k) 0 (by omega) ⟨[1],rfl,by decide,rfl,by repeat' (first|exact True.intro|exact ⟨rfl,rfl⟩|apply y43),by repeat' (first|exact True.intro|exact z94 (by rfl) (by (first|exact z31|exact z69 rfl))|apply y43)⟩ ?_
 intro k hk
 repeat' ((first|(apply y4 ok;rfl)|(apply y43;first|omega|(unfold inI;omega))|(((with_reducible apply z13;omega));intro _)|(apply get_fill;omega)|((apply z5)<;>intro _)|(apply z6 (z1140 g.st[k] (hg _ (y44 _)) l hl);rfl;rfl))<;>conv=>whnf)
 ·rename_i h hkl
  exact z117 (k+1) [0] (by omega) (by omega) ⟨rfl,by decide,rfl,⟨⟨rfl,rfl⟩,⟨rfl,rfl⟩,⟨rfl,rfl⟩,⟨rfl,rfl⟩,⟨rfl,rfl⟩,trivial⟩,⟨obj_fill hkl rfl rfl rfl (fun _=>rfl) rfl,trivial⟩⟩
 ·exact z1098 rfl (z4 fun _=>rfl) rfl (fill_end _ _ _ _ (by omega))
theorem label_ok (g:Graph) (hg:∀ s∈g.st,ValsOk s.b) (hn:g.st.length≤60) (l:List Tree) (hl:z172 l):CallsA Tryz.prog 194 [.agg g.cs,lst 3 Tree.cs' l] [] (ints (g.st.map (z59 l))) []:=by
 have h:=(z1145 g hg hn l hl).keep (z248 _ _) (by simp)
 unfold ints
 rw [y49,List.map_map]
 exact h
theorem z1148 (l:List Int) (hl:l.length≤maxLen):CallsA Tryz.prog 115 [ints l] [] (.bool (z280 l)) []:=by
 unfold maxLen at hl
 have e:z280 l=(l.all (fun n=>btw n 0 3) && decide ((l.length:Int)=3)):=by
  unfold z280;rw [Bool.and_comm,List.all_eq_not_any_not]
 rw [e]
 refine z14 z16 Tryz.func115 rfl rfl 25 Tryz.ntmps115 (by simp) ?_
 repeat' (((apply y4 ok;rfl))<;>conv=>whnf)
 refine z134 (fun k:Nat=>([(0,ints l),(3,.int k)],[])) (fun k=>k≤l.length∧l.all (fun n=>btw n 0 3)=(l.drop k).all (fun n=>btw n 0 3)) (fun k=>l.length - k) 0 ⟨by omega,rfl⟩ ⟨[],rfl,by decide,rfl,by repeat' (first|exact True.intro|exact ⟨rfl,rfl⟩|apply y43),by repeat' (exact True.intro)⟩ ?_
 intro k hk
 repeat' ((first|(apply y4 ok;rfl)|(apply y43;first|omega|(unfold inI;omega))|(((with_reducible apply z13;omega));intro _)|((apply z5)<;>intro _))<;>conv=>whnf)
 ·refine z44 rfl ?_
  have:btw l[k] 0 3=false:=z304.2 (by omega)
  rw [hk.2,z145 _ _ _ (by assumption),this];rfl
 ·refine z44 rfl ?_
  have:btw l[k] 0 3=false:=z304.2 (by omega)
  rw [hk.2,z145 _ _ _ (by assumption),this];rfl
 ·have:btw l[k] 0 3=true:=z116.2 (by omega)
  exact z117 (k+1) [] ⟨by omega,by rw [hk.2,z145 _ _ _ (by assumption),this];rfl⟩ (by omega) ⟨rfl,by decide,rfl,by repeat' (first|exact True.intro|exact ⟨rfl,rfl⟩|apply y43),by repeat' (exact True.intro)⟩
 ·exact z44 rfl (by rw [hk.2,z126 _ _ _ (by omega),Bool.true_and])
theorem l4In_ok (l:List Int) (hl:l.length≤maxLen) (v:Int):CallsA Tryz.prog 123 [ints l,.int v] [] (.bool (decide (v∈l))) []:=by
 unfold maxLen at hl
 have e:decide (v∈l)=l.any (fun x=>decide (x=v)):=by
  rw [Bool.eq_iff_iff];simp
 rw [e]
 refine z14 z16 Tryz.func123 rfl rfl 18 Tryz.ntmps123 (by simp) ?_
 repeat' (((apply y4 ok;rfl))<;>conv=>whnf)
 refine z134 (fun k:Nat=>([(0,ints l),(1,.int v),(5,.int k)],[])) (fun k=>k≤l.length∧l.any (fun x=>decide (x=v))=(l.drop k).any (fun x=>decide (x=v))) (fun k=>l.length - k) 0 ⟨by omega,rfl⟩ ⟨[],rfl,by decide,rfl,by repeat' (first|exact True.intro|exact ⟨rfl,rfl⟩|apply y43),by repeat' (exact True.intro)⟩ ?_
 intro k hk
 repeat' ((first|(apply y4 ok;rfl)|(apply y43;first|omega|(unfold inI;omega))|(((with_reducible apply z13;omega));intro _)|((apply z5)<;>intro _))<;>conv=>whnf)
 ·rename_i h
  exact z44 rfl (by rw [hk.2,z948 _ _ _ (by assumption),y81 h];rfl)
 ·rename_i h
  exact z117 (k+1) [] ⟨by omega,by rw [hk.2,z948 _ _ _ (by assumption),y82 h];rfl⟩ (by omega) ⟨rfl,by decide,rfl,by repeat' (first|exact True.intro|exact ⟨rfl,rfl⟩|apply y43),by repeat' (exact True.intro)⟩
 ·exact z44 rfl (by rw [hk.2,z778 _ _ _ (by omega)])
theorem Distinct.le {l:List Int} {n:Int} (h:Distinct l n l.length) (h0:0≤n):(l.length:Int)≤n:=by
 have hnd:(l.map Int.toNat).Nodup:=by
  rw [List.nodup_iff_pairwise_ne,List.pairwise_map,List.pairwise_iff_getElem]
  intro i j hi hj hij he
  have h1:=h i hi hi
  have h2:=h j hj hj
  refine h2.2 ?_
  have:l[j]=l[i]:=by omega
  rw [this,List.mem_take_iff_getElem]
  exact ⟨i,by omega,rfl⟩
 have hsub:(l.map Int.toNat) ⊆ List.range n.toNat:=by
  intro x hx
  obtain ⟨y,hy,rfl⟩:=List.mem_map.1 hx
  obtain ⟨i,hi,rfl⟩:=List.mem_iff_getElem.1 hy
  have:=(h i hi hi).1
  rw [y60];omega
 have:=hnd.length_le_of_subset hsub
 simp at this
 omega
def RowOk (g:Graph) (i:Nat):Prop:=∀ (h:i < g.nx.length) (h' : i < g.st.length),1≤g.nx[i].length∧g.nx[i].length≤g.st.length∧z280 g.st[i].b=true∧Distinct g.nx[i] g.st.length g.nx[i].length
def GB (g:Graph):Prop:=(1≤g.st.length∧g.st.length≤60)∧g.nx.length=g.st.length∧∀ i,i < g.nx.length→RowOk g i
theorem z707 {n:Int} {l:List Int} : z817 n l=true↔1≤l.length∧Distinct l n l.length:=by
 unfold z817
 rw [y70,decide_eq_true_eq,Bool.not_eq_true',decide_eq_false_iff_not]
 exact and_congr (by omega) Iff.rfl
theorem z150 (g:Graph):z443 g=true↔GB g:=by
 unfold z443 GB
 simp only [y70,z116,decide_eq_true_eq,Bool.not_eq_true',List.any_eq_false]
 constructor
 ·rintro ⟨h1,h2,h3,h4⟩
  refine ⟨by omega,by omega,fun i hi h h'=>?_⟩
  have h5:=z707.1 (by simpa using h4 _ (y44 h))
  have h6:=h5.2.le (by omega)
  exact ⟨h5.1,by omega,by simpa using h3 _ (y44 h'),h5.2⟩
 ·rintro ⟨h1,h2,h3⟩
  refine ⟨by omega,by omega,fun s hs=>?_,fun l hl=>?_⟩
  ·obtain ⟨i,hi,rfl⟩:=List.mem_iff_getElem.1 hs
   simpa using (h3 i (by omega) (by omega) hi).2.2.1
  ·obtain ⟨i,hi,rfl⟩:=List.mem_iff_getElem.1 hl
   have:=h3 i hi hi (by omega)
   simpa using z707.2 ⟨this.1,this.2.2.2⟩
def Trans.mx (t:Trans):Prop:=inI t.val
def z426 (n:Int) (t:Trans):Prop:=(0≤t.src∧t.src≤n - 1)∧(0≤t.dst∧t.dst≤n - 1)∧(0≤t.care∧t.care≤7)∧0≤t.val∧t.val.toNat &&& t.care.toNat=t.val.toNat
instance {n:Int} {t:Trans} : Decidable (z426 n t):=by unfold z426;infer_instance
def z1179 (n:Int) (t:Trans):Bool:=decide (z426 n t)
theorem z395 {n:Int} {t:Trans} : z1179 n t=true↔z426 n t:=by unfold z1179;exact decide_eq_true_iff
theorem edgeB_no {n:Int} {t:Trans} : z1179 n t=false↔¬ z426 n t:=by rw [← z395,y71]
def IniP (l:List Int) (n:Int) (k:Nat):Prop:=∀ i (h:i < l.length),i < k→(0≤l[i]∧l[i]≤n - 1)∧∀ j (hj:j+1=i),l[j]'(by omega) < l[i]
def AutP (a:Aut):Prop:=(1≤a.acc.length∧a.acc.length≤64)∧a.ed.length≤2048∧IniP a.ini a.acc.length a.ini.length∧∀ e∈a.ed,z426 a.acc.length e
noncomputable instance {a:Aut} : Decidable (AutP a):=Classical.propDecidable _
noncomputable def autB (a:Aut):Bool:=decide (AutP a)
theorem z170 {a:Aut} : autB a=true↔AutP a:=by unfold autB;exact decide_eq_true_iff
theorem z890 {a:Aut} : autB a=false↔¬ AutP a:=by rw [← z170,y71]
theorem IniP.ge {l:List Int} {n:Int} (h:IniP l n l.length):∀ i (hi:i < l.length),(i:Int)≤l[i]:=by
 intro i
 induction i with
 |zero=>intro hi;exact (h 0 hi hi).1.1
 |succ i ih =>
  intro hi
  have h1:=ih (by omega)
  have h2:=(h (i+1) hi hi).2 i rfl
  omega
theorem IniP.le {l:List Int} {n:Int} (h:IniP l n l.length) (h0:0≤n):(l.length:Int)≤n:=by
 rcases Nat.eq_zero_or_pos l.length with e|e
 ·omega
 ·have h1:=h.ge (l.length - 1) (by omega)
  have h2:=(h (l.length - 1) (by omega) (by omega)).1.2
  omega
theorem z1037 {v c:Int} (h0:0≤v) (h1:v≤9223372036854775807) (h2:0≤c) (h3:c≤7):(((BitVec.ofNat 64 v.toNat &&& ~~~BitVec.ofNat 64 c.toNat).toNat:Nat):Int)=0↔v.toNat &&& c.toNat=v.toNat:=by
 obtain ⟨v,rfl⟩:=Int.eq_ofNat_of_zero_le h0
 obtain ⟨c,rfl⟩:=Int.eq_ofNat_of_zero_le h2
 simp only [y76]
 have hv:v < 2 ^ 64:=by omega
 have hc:c < 2 ^ 64:=by omega
 have e:∀ x y:BitVec 64,(x &&& ~~~y)=0#64↔x &&& y=x:=by
  intro x y
  constructor
  ·intro h
   apply BitVec.eq_of_getElem_eq
   intro i hi
   have:=congrArg (fun z=>z[i]) h
   simp at this ⊢
   cases hx:x[i]<;>simp_all
  ·intro h
   apply BitVec.eq_of_getElem_eq
   intro i hi
   have:=congrArg (fun z=>z[i]) h
   simp at this ⊢
   cases hx:x[i]<;>simp_all
 have e2:=e (BitVec.ofNat 64 v) (BitVec.ofNat 64 c)
 constructor
 ·intro h
  have h4:(BitVec.ofNat 64 v &&& ~~~BitVec.ofNat 64 c)=0#64:=BitVec.eq_of_toNat_eq (by simpa using h)
  have h5:=congrArg BitVec.toNat (e2.1 h4)
  simpa [BitVec.toNat_and,Nat.mod_eq_of_lt hv,Nat.mod_eq_of_lt hc] using h5
 ·intro h
  have h4:BitVec.ofNat 64 v &&& BitVec.ofNat 64 c=BitVec.ofNat 64 v:=BitVec.eq_of_toNat_eq (by
   simpa [BitVec.toNat_and,Nat.mod_eq_of_lt hv,Nat.mod_eq_of_lt hc] using h)
  have h5:=congrArg BitVec.toNat (e2.2 h4)
  simpa using h5
theorem z1033 (n:Int) (h0:0≤n) (h1:n≤maxLen) (t:Trans) (ht:t.mx):CallsA Tryz.prog 244 [z24 Trans.cs t,.pt [.int n]] [] (.bool (!z1179 n t)) []:=by
 unfold Trans.mx inI at ht
 unfold maxLen at h1
 refine z14 z16 Tryz.func244 rfl rfl 37 Tryz.ntmps244 (by simp) ?_
 repeat' (first|(apply y4 ok;rfl;conv=>whnf)|(apply y43;(first|(unfold inI;omega)|(simp only [z116] at *;(unfold z225;omega)));conv=>whnf)|(apply z5<;>intro _<;>conv=>whnf)|(apply z100<;>intro _<;>conv=>whnf)|(apply z6 (z232 _ 0 (n - 1));rfl;rfl;conv=>whnf)|(apply z6 (z232 _ 0 7);rfl;rfl;conv=>whnf))
 all_goals (refine z44 rfl ?_;rw [Bool.eq_iff_iff];simp only [z116,z304,z395,edgeB_no,Bool.not_eq_true',decide_eq_false_iff_not,decide_eq_true_eq,Bool.false_eq_true,iff_false,iff_true] at *;unfold z426)
 all_goals try omega
 all_goals (rw [z1037 (by omega) (by omega) (by omega) (by omega)];omega)
theorem takes_ok (t:Trans) (n:Int) (h0:0≤n) (h1:n≤7) (ht:0≤t.care∧t.care≤7):CallsA Tryz.prog 195 [z24 Trans.cs t,.int n] [] (.bool (decide (((n.toNat &&& t.care.toNat:Nat):Int)=t.val))) []:=by
 refine z14 z16 Tryz.func195 rfl rfl 12 Tryz.ntmps195 (by simp) ?_
 repeat' (first|(apply y4 ok;rfl;conv=>whnf)|(apply y43;((unfold z225;omega));conv=>whnf))
 exact z44 rfl rfl
def Aut.mx (a:Aut):Prop:=a.ini.length≤maxLen∧a.acc.length≤maxLen∧a.ed.length≤maxLen∧∀ t∈a.ed,t.mx
theorem z454 (c:Int) (l:List Trans) (hl:l.length≤maxLen) (p:Trans→Bool) (f:FuncId) (hf:∀ x∈l,CallsA Tryz.prog f [z24 Trans.cs x,.pt [.int c]] [] (.bool (p x)) []):CallsA Tryz.prog 273 [lst 4 Trans.cs l,.fn (.func f) [] [.pt [.int c]]] [] (.int (idxF p l)) []:=by
 unfold maxLen at hl
 refine z14 z16 Tryz.func273 rfl rfl 19 Tryz.ntmps273 (by simp) ?_
 repeat' ((apply y4 ok;rfl;conv=>whnf))
 refine z134 (fun k:Nat=>([(0,lst 4 Trans.cs l),(1,.fn (.func f) [] [.pt [.int c]]),(7,.int l.length),(8,.int k)],[])) (fun k=>k≤l.length∧∀ j (hj:j < l.length),j < k→p l[j]=false) (fun k=>l.length - k) 0 (by simp)
  ⟨[],rfl,by decide,rfl,⟨⟨rfl,rfl⟩,⟨rfl,rfl⟩,⟨rfl,rfl⟩,⟨rfl,rfl⟩,trivial⟩,trivial⟩ ?_
 intro k hk
 repeat' (first|(apply y4 ok;rfl;conv=>whnf)|(apply y43;(first|omega|(unfold inI;omega));conv=>whnf)|(with_reducible apply z13;omega;intro _;conv=>whnf)|(apply z5<;>intro _<;>conv=>whnf)|(apply z91<;>intro _<;>conv=>whnf)|(apply z6 (hf l[k] (y44 _));rfl;rfl;conv=>whnf))
 ·rename_i h h1
  exact z49 rfl rfl (by rw [z155 (by omega) h1 hk.2];rfl)
 ·rename_i h h1
  refine z117 (k+1) [] ⟨by omega,fun j hj hjk=>?_⟩ (by omega) ⟨rfl,by decide,rfl,⟨⟨rfl,rfl⟩,⟨rfl,rfl⟩,⟨rfl,rfl⟩,⟨rfl,rfl⟩,trivial⟩,trivial⟩
  rcases y69 j k with h2|h2
  ·exact hk.2 j hj h2
  ·obtain rfl:j=k:=by omega
   exact h1
 ·exact z49 rfl rfl (by rw [z139 fun j hj=>hk.2 j hj (by omega)];rfl)
theorem z352 (c:Int) (l:List Trans) (hl:l.length≤maxLen) (p:Trans→Bool) (f:FuncId) (hf:∀ x∈l,CallsA Tryz.prog f [z24 Trans.cs x,.pt [.int c]] [] (.bool (p x)) []):CallsA Tryz.prog 243 [lst 4 Trans.cs l,.fn (.func f) [] [.pt [.int c]]] [] (.bool (l.any p)) []:=by
 refine z14 z16 Tryz.func243 rfl rfl 9 Tryz.ntmps243 (by simp) ?_
 repeat' (first|(apply y4 ok;rfl;conv=>whnf)|(apply z6 (z454 c l hl p f hf);rfl;rfl;conv=>whnf))
 exact z44 rfl (by rw [← z220])
theorem IniP.step {l:List Int} {n:Int} {k:Nat} (h:IniP l n k) (hk:k < l.length) (h1:0≤l[k]∧l[k]≤n - 1) (h2:∀ j (hj:j+1=k),l[j]'(by omega) < l[k]):IniP l n (k+1):=by
 intro i hi hik
 rcases y69 i k with h3|h3
 ·exact h i hi h3
 ·obtain rfl:i=k:=by omega
  exact ⟨h1,h2⟩
def z388 (l:List Int) (k:Nat):Int:=if h:0 < k∧k≤l.length then l[k - 1]'(by omega) else -1
theorem z250 (a:Aut) (ha:a.mx):CallsA Tryz.prog 193 [.agg a.cs] [] (.bool (autB a)) []:=by
 obtain ⟨hi,hc,he,hm⟩:=ha
 have hk:=z352 (a.acc.length:Int) a.ed he (fun t=>!z1179 a.acc.length t) 244 (fun t ht=>z1033 _ (by omega) (by omega) t (hm t ht))
 unfold maxLen at hi hc he
 refine z14 z16 Tryz.func193 rfl rfl 41 Tryz.ntmps193 (by simp) ?_
 repeat' ((apply y4 ok;rfl;conv=>whnf))
 refine z134 (fun k:Nat=>([(1,.ptr 0 none 0),(3,.ptr 1 none 0),(4,.int (z388 a.ini k)),(11,lst 1 enI a.ini),(12,.int a.ini.length),(13,.int k)],[.cells 3 [[lst 1 enI a.ini,lst 1 enB a.acc,lst 4 Trans.cs a.ed]],.cells 1 [[.int a.acc.length]]])) (fun k=>k≤a.ini.length∧IniP a.ini a.acc.length k) (fun k=>a.ini.length - k) 0 ⟨by omega,fun i h hi=>by omega⟩ ⟨[0,1],rfl,by decide,rfl,by repeat' (first|exact True.intro|exact ⟨rfl,rfl⟩|apply y43),by repeat' (first|exact True.intro|exact z42 rfl rfl|apply y43)⟩ ?_
 rintro k ⟨hk1,hk2⟩
 have hlast : -1≤z388 a.ini k∧z388 a.ini k≤a.acc.length - 1:=by
  unfold z388
  split
  ·rename_i h
   have:=(hk2 (k - 1) (by omega) (by omega)).1;omega
  ·omega
 repeat' (first|(apply y4 ok;rfl;conv=>whnf)|(apply y43;(first|omega|(unfold inI;omega));conv=>whnf)|(with_reducible apply z13;omega;intro _;conv=>whnf)|(apply z5<;>intro _<;>conv=>whnf)|(apply z100<;>intro _<;>conv=>whnf)|(apply z91<;>intro _<;>conv=>whnf)|(apply z6 (z232 _ (z388 a.ini k+1) _);rfl;rfl;conv=>whnf)|(apply z6 (z232 _ 1 64);rfl;rfl;conv=>whnf)|(apply z482 [1] (hk);rfl;rfl;rfl;rfl;conv=>whnf))
 ·rename_i hkl hb
  refine z44 rfl (z890.2 fun ⟨_,_,h,_⟩=>?_)
  have h1:=h k hkl hkl
  rw [z304] at hb
  refine hb ⟨?_,h1.1.2⟩
  unfold z388
  split
  ·rename_i hp
   have:=h1.2 (k - 1) (by omega);omega
  ·omega
 ·rename_i hkl hb
  rw [z116] at hb
  refine z117 (k+1) [0,1] ⟨by omega,hk2.step hkl (by omega) fun j hj=>?_⟩ (by omega) ⟨rfl,by decide,rfl,⟨⟨rfl,rfl⟩,⟨rfl,rfl⟩,⟨rfl,?_⟩,⟨rfl,rfl⟩,⟨rfl,rfl⟩,⟨rfl,rfl⟩,trivial⟩,⟨z42 rfl rfl,z42 rfl rfl,trivial⟩⟩
  ·subst hj
   have:=hb.1
   unfold z388 at this
   rw [dif_pos (by omega)] at this
   simp only [Nat.add_sub_cancel] at this
   omega
  ·have:z388 a.ini (k+1)=a.ini[k]:=by unfold z388;rw [dif_pos (by omega)];rfl
   rw [this];rfl
 all_goals (have hfull:IniP a.ini a.acc.length a.ini.length:=by (have:k=a.ini.length:=by omega);rw [← this];exact hk2)
 ·rename_i hb hl
  refine z44 rfl ?_
  rw [z116] at hb
  rw [Bool.eq_iff_iff,z170,Bool.not_eq_true',List.any_eq_false]
  constructor
  ·rintro ⟨_,_,_,h⟩ x hx
   simpa using z395.2 (h x hx)
  ·intro h
   exact ⟨by omega,by omega,hfull,fun e he=>z395.1 (by simpa using h e he)⟩
 ·refine z44 rfl (z890.2 fun hh=>?_)
  have:=hh.2.1;omega
 ·rename_i hb
  refine z44 rfl (z890.2 fun hh=>?_)
  have:=hh.1
  rw [z304] at hb;omega
theorem z127 {P:Program} {f:FuncId} {w:Nat} {res:AC} {objs' : List AObj} (hf:z957 P f) (h:∀ a cap,CallsA P f [.raw (.slice a 0 cap)] [] res objs'):CallsA P f [.list w 0 []] [] res objs':=by
 refine ⟨hf,fun G W vs hW hs hv=>?_⟩
 simp only [VL] at hv
 obtain ⟨⟨v,hv1,hv2⟩,_⟩:=hv
 simp only [V] at hv2
 obtain ⟨a,cap,rfl,_⟩:=hv2
 exact (h a cap).2 G W vs hW hs (by simp only [VL];exact ⟨⟨_,hv1,by simp [V]⟩,trivial⟩)
theorem nils_le {w:Nat} : ACle .nils (.list w 0 []):=fun G h v hv=>by
 simp only [V] at hv ⊢
 exact ⟨none,0,hv,y52 _,rfl,.inl trivial⟩
theorem sref_le {o off w:Nat} : ACle (.sref o off 0) (.list w 0 []):=fun G h v hv=>by
 simp only [V] at hv ⊢
 obtain ⟨cap,_,⟨rfl,a,rfl⟩|⟨b,size,w',_,_,rfl⟩⟩:=hv
 ·exact ⟨_,_,rfl,y52 _,rfl,.inl trivial⟩
 ·exact ⟨_,_,rfl,y53 _,rfl,.inl trivial⟩
theorem z178 {P : Program} {f : FuncId} {fn : Func} {c : Code} (hf : P.funcs[f]? = some fn) (hb : fn.body = some c) (hn : (fn.name == "runtime.NumGoroutine") = false) : z957 P f := ⟨fn, c, hf, hn, hb⟩
theorem z611 (l:List Int) (hl:l.length≤1048576) (hp:0 < l.length):CallsA Tryz.prog 208 [ints l] [] (.sref 0 0 l.length) [.cells 1 (l.map enI)]:=by
 refine z14 z16 Tryz.func208 rfl rfl 8 Tryz.ntmps208 (by simp) ?_
 repeat' (first|(apply y4 ok;rfl;conv=>whnf)|(apply y43;(first|omega|(dsimp only;omega)|exact z120 (fun _=>rfl));conv=>whnf))
 exact z71 rfl (z4 fun _=>rfl) (Nat.zero_add _) rfl rfl
theorem z877 (l:List Int) (hl:l.length≤1048576):CallsA Tryz.prog 208 [ints l] [] (ints l) []:=by
 by_cases hp:0 < l.length
 ·have h:=(z611 l hl hp).keep (z248 _ _) (by simp)
  exact h
 ·obtain rfl:l=[]:=y73 (by omega)
  refine z127 (z178 Tryz.func208 rfl (by rfl)) fun ad cap=>?_
  refine z14 z16 Tryz.func208 rfl rfl 8 Tryz.ntmps208 (by simp) ?_
  repeat' (first|(apply y4 ok;rfl;conv=>whnf)|(apply y43;(omega);conv=>whnf)|(apply z91<;>intro _<;>conv=>whnf))
  ·exact ret_le rfl rfl nils_le
  ·exact ret_le rfl rfl sref_le
theorem z1023 (l:List Int) (hl:l.length≤1048576):CallsA Tryz.prog 110 [ints l] [] (ints l) []:=by
 refine z14 z16 Tryz.func110 rfl rfl 9 Tryz.ntmps110 (by simp) ?_
 repeat' (first|(apply y4 ok;rfl;conv=>whnf)|(apply y43;(omega);conv=>whnf))
 refine z49 rfl rfl ?_
 show AC.list 1 _ _=ints l
 rw [show AC.list 1 ((l.length:Int).toNat - (0:Int).toNat) (((l.map enI).drop (0:Int).toNat).take ((l.length:Int).toNat - (0:Int).toNat))=_ from z412 1 enI l l.length (y52 _),y55]
 rfl
theorem z219 (l:List Int) (hl:l.length≤1048576):CallsA Tryz.prog 150 [ints l] [] (ints l) []:=by
 refine z14 z16 Tryz.func150 rfl rfl 6 Tryz.ntmps150 (by simp) ?_
 repeat' (first|(apply y4 ok;rfl;conv=>whnf)|(apply z6 (z877 l hl);rfl;rfl;conv=>whnf)|(apply z6 (z1023 l hl);rfl;rfl;conv=>whnf))
 exact z49 rfl rfl rfl
noncomputable def glB (g:Graph) (l:List Tree):Bool:=z443 g && z85 l
theorem z700 {l:List Int} (h:z280 l=true):ValsOk l:=by
 unfold z280 at h
 rw [y70,decide_eq_true_eq,Bool.not_eq_true',List.any_eq_false] at h
 exact ⟨by omega,fun x hx=>by simpa [z116] using h.2 x hx⟩
theorem GB.vals {g:Graph} (h:GB g):∀ s∈g.st,ValsOk s.b:=fun s hs=>by
 obtain ⟨i,hi,rfl⟩:=List.mem_iff_getElem.1 hs
 exact z700 (h.2.2 i (by have:=h.2.1;omega) (by have:=h.2.1;omega) hi).2.2.1
def Lmx (l:List Tree):Prop:=l.length≤maxLen∧∀ t∈l,t.mx
theorem z1024 (g:Graph) (hg:g.mx) (l:List Tree) (hl:Lmx l) (a:Aut) (ha:a.mx):CallsA Tryz.prog 134 [.agg g.cs,lst 3 Tree.cs' l,.agg a.cs] [] (.bool (glB g l && autB a)) []:=by
 refine z14 z16 Tryz.func134 rfl rfl 17 Tryz.ntmps134 (by simp) ?_
 repeat' (first|(apply y4 ok;rfl;conv=>whnf)|(apply z91<;>intro _<;>conv=>whnf)|(apply z6 (z390 g hg);rfl;rfl;conv=>whnf)|(apply z6 (z138 l hl.1 hl.2);rfl;rfl;conv=>whnf)|(apply z6 (z250 a ha);rfl;rfl;conv=>whnf))
 all_goals (refine z44 rfl ?_;(unfold glB;simp [*];done))
theorem z195 (l:List (List Int)):z65 (l.map z99)=l.map encL:=by
 rw [z164,List.map_map]
 refine List.map_congr_left fun r _=>?_
 show [AC.list 1 _ (z65 _)]=_
 rw [z248]
 simp [encL,ints,enI]
theorem z1016 (l:List Bool):z65 (l.map enB)=l.map enB:=z248 (fun b=>Value.bool b) l
theorem z1030 {objs:Nat→AObj} {π Bn:List Nat} {o n:Nat} {l:List Bool} (ho:objs o=.cells 1 (l.map enB)) (h1:idx π o=none) (h2:inB Bn o=true) (hl:l.length=n):bor objs π Bn (.sref o 0 n)=lst 1 enB l:=by
 subst hl;exact z270 ho h1 h2 (by simp) (z1016 _)
theorem z1200 {objs:Nat→AObj} {π Bn:List Nat} {o:Nat} {l:List Bool} (ho:objs o=.cells 1 (l.map enB)) (h1:idx π o=none) (h2:inB Bn o=true):bor objs π Bn (.sref o 0 l.length)=lst 1 enB l :=
 z1030 ho h1 h2 rfl
structure Graph.ok (g:Graph):Prop where
 mx:g.mx
 st:g.st.length≤1048576
 nx:g.nx.length≤1048576
 states:∀ s∈g.st,s.small
 rows:∀ r∈g.nx,r.length≤1048576
 sumS:(g.st.map State.sz).sum≤1048576
 sumN:(g.nx.map List.length).sum≤1048576
theorem Graph.ok_of {g:Graph} (hg:g.mx) (h1:g.s1≤1048576) (h2:g.s2≤1048576):g.ok:=by
 unfold Graph.s1 tot at h1
 unfold Graph.s2 tot at h2
 refine ⟨hg,by omega,by omega,fun s hs=>?_,fun r hr=>?_,by omega,by omega⟩
 ·have:=z244 State.sz hs
  unfold State.sz at this h1
  exact ⟨by omega,by omega⟩
 ·have:=z244 List.length hr;omega
structure LabOk (l:List Tree):Prop where
 mx:Lmx l
 len:l.length≤1048576
 el:∀ t∈l,t.sz≤1048576
 sum:(l.map Tree.sz).sum≤1048576
theorem LabOk.of {l:List Tree} (hl:Lmx l) (h:tot Tree.sz l≤1048576):LabOk l:=by
 unfold tot at h
 exact ⟨hl,by omega,fun t ht=>by have:=z244 Tree.sz ht;omega,by omega⟩
def enU (n:Int):List AC:=[.raw (.int .u8 n)]
def rdO (bs:List Int) (p:Int):AObj:=.cells 2 [[lst 1 enU bs,.int p]]
structure BytesOk (bs:List Int):Prop where
 len:bs.length≤2000
 el:∀ x∈bs,0≤x∧x≤255
theorem u_at {l:List Int} {i:Nat} (h:i < l.length):(l.map enU)[i]?=some (enU l[i]):=by rw [y51,y45 h];rfl
theorem rem_at {l:List Int} {i:Int} (h:0 < l.length) (h0:0≤i):(i % (l.length:Int)).toNat < l.length:=by
 have:=Int.emod_lt_of_pos i (show (0:Int) < l.length by omega)
 have:=Int.emod_nonneg i (show (l.length:Int)≠0 by omega)
 omega
set_option maxHeartbeats 1600000 in
theorem z63 (bs:List Int) (hb:BytesOk bs) (p n:Int) (h0:0≤p) (h1:p≤1000000000) (hn:n≤1000000000):∃ v:Int,(0≤v∧(1≤n→v < n))∧CallsA Tryz.prog 88 [.ptr 0 none 0,.int n] [rdO bs p] (.int v) [rdO bs (p+1)]:=by
 have hlen:=hb.len
 by_cases hz:n < 1∨bs.length=0
 ·refine ⟨0,⟨by omega,fun _=>by omega⟩,?_⟩
  refine z14 z16 Tryz.func88 rfl rfl 99 Tryz.ntmps88 (by simp) ?_
  repeat' (first|(apply y4 ok;rfl;conv=>whnf)|(apply z26;kernel_rfl;conv=>whnf)|(apply y43;(first|omega|(unfold inI;omega));conv=>whnf)|(with_reducible apply z144;omega;intro _;conv=>whnf)|(apply z5<;>intro _<;>conv=>whnf))
  all_goals first|(exfalso;omega)|exact z88 [0] (by decide) rfl rfl rfl ⟨z42 rfl rfl,trivial⟩
 by_cases hk:p < bs.length
 ·have hp:(p+1 - 1).toNat < bs.length:=by omega
  have g0:=u_at (l:=bs) (i:=(p+1 - 1).toNat) hp
  have hr:=hb.el bs[(p+1 - 1).toNat] (y44 _)
  generalize bs[(p+1 - 1).toNat]=b at *
  have hw:IntKind.i64.wrap b=b:=IntWalk.i64_in _ (by omega)
  refine ⟨b % n,⟨Int.emod_nonneg _ (by omega),fun _=>Int.emod_lt_of_pos _ (by omega)⟩,?_⟩
  refine z14 z16 Tryz.func88 rfl rfl 99 Tryz.ntmps88 (by simp) ?_
  repeat' (first|(apply y4 ok;rfl;conv=>whnf)|(apply z26;kernel_rfl;conv=>whnf)|(refine z15 (i:=(p+1 - 1).toNat) rfl g0 ?_;conv=>whnf)|(apply y43;(first|omega|(unfold inI;omega));conv=>whnf)|(with_reducible apply z144;omega;intro _;conv=>whnf)|(apply z5<;>intro _<;>conv=>whnf))
  all_goals first|(exfalso;omega)|exact z88 [0] (by decide) rfl rfl rfl ⟨z42 rfl rfl,trivial⟩
 have hl0:0 < bs.length:=by omega
 have m1:=rem_at (l:=bs) (i:=p+1 - 1) hl0 (by omega)
 have m2:=rem_at (l:=bs) (i:=(p+1 - 1) * 7+3) hl0 (by omega)
 have g1:=u_at m1
 have g2:=u_at m2
 have r1:=hb.el bs[((p+1 - 1) % (bs.length:Int)).toNat] (y44 _)
 have r2:=hb.el bs[(((p+1 - 1) * 7+3) % (bs.length:Int)).toNat] (y44 _)
 generalize bs[((p+1 - 1) % (bs.length:Int)).toNat]=b1 at *
 generalize bs[(((p+1 - 1) * 7+3) % (bs.length:Int)).toNat]=b2 at *
 have w1:IntKind.i64.wrap b1=b1:=IntWalk.i64_in _ (by omega)
 have w2:IntKind.i64.wrap b2=b2:=IntWalk.i64_in _ (by omega)
 have n1:=Int.emod_nonneg (p+1 - 1) (show (bs.length:Int)≠0 by omega)
 have n2:=Int.emod_nonneg ((p+1 - 1) * 7+3) (show (bs.length:Int)≠0 by omega)
 have l1:=Int.emod_lt_of_pos (p+1 - 1) (show (0:Int) < bs.length by omega)
 have l2:=Int.emod_lt_of_pos ((p+1 - 1) * 7+3) (show (0:Int) < bs.length by omega)
 have q0:0≤(p+1 - 1) / (bs.length:Int):=Int.ediv_nonneg (by omega) (by omega)
 have q1:(p+1 - 1) / (bs.length:Int)≤p+1 - 1:=Int.ediv_le_self _ (by omega)
 have hx0:0≤b1 * 131+b2 * 1117+(p+1 - 1) * 29+(p+1 - 1) / (bs.length:Int) * 53:=by omega
 have hx1:b1 * 131+b2 * 1117+(p+1 - 1) * 29+(p+1 - 1) / (bs.length:Int) * 53≤1000000000000:=by omega
 have hq:0≤(b1 * 131+b2 * 1117+(p+1 - 1) * 29+(p+1 - 1) / (bs.length:Int) * 53) / 64∧(b1 * 131+b2 * 1117+(p+1 - 1) * 29+(p+1 - 1) / (bs.length:Int) * 53) / 64≤1000000000000:=by omega
 refine ⟨(((b1 * 131+b2 * 1117+(p+1 - 1) * 29+(p+1 - 1) / (bs.length:Int) * 53).toNat ^^^ ((b1 * 131+b2 * 1117+(p+1 - 1) * 29+(p+1 - 1) / (bs.length:Int) * 53) / 64).toNat:Nat):Int) % n,⟨Int.emod_nonneg _ (by omega),fun _=>Int.emod_lt_of_pos _ (by omega)⟩,?_⟩
 refine z14 z16 Tryz.func88 rfl rfl 99 Tryz.ntmps88 (by simp) ?_
 repeat' (first|(apply y4 ok;rfl;conv=>whnf)|(apply z26;kernel_rfl;conv=>whnf)|(refine z15 (i:=(((p+1 - 1) * 7+3) % (bs.length:Int)).toNat) rfl g2 ?_;conv=>whnf)|(refine z15 (i:=((p+1 - 1) % (bs.length:Int)).toNat) rfl g1 ?_;conv=>whnf)|(apply y43;(first|omega|(unfold inI;omega)|(unfold z225;omega));conv=>whnf)|(with_reducible apply z144;omega;intro _;conv=>whnf)|(apply z5<;>intro _<;>conv=>whnf))
 all_goals first|(exfalso;omega)|exact z88 [0] (by decide) rfl rfl rfl ⟨z42 rfl rfl,trivial⟩
theorem z603 (bs:List Int) (hl:bs.length≤maxLen):CallsA Tryz.prog 34 [lst 1 enU bs] [] (.ptr 0 none 0) [rdO (bs.take 2000) 0]:=by
 unfold maxLen at hl
 refine z14 z16 Tryz.func34 rfl rfl 11 Tryz.ntmps34 (by simp) ?_
 by_cases h:bs.length≤2000
 ·rw [y56 h]
  repeat' (first|(apply y4 ok;rfl;conv=>whnf)|(apply y43;(omega);conv=>whnf)|(apply z5<;>intro _<;>conv=>whnf))
  all_goals first|(exfalso;omega)|exact z88 [0] (by decide) rfl rfl rfl ⟨z42 rfl rfl,trivial⟩
 ·repeat' (first|(apply y4 ok;rfl;conv=>whnf)|(apply y43;(omega);conv=>whnf)|(apply z5<;>intro _<;>conv=>whnf))
  all_goals try (exfalso;omega)
  all_goals exact z88 [0] (by decide) rfl rfl rfl ⟨z42 rfl (congrArg (fun x=>AObj.cells 2 [[x,AC.int 0]]) (z412 1 enU bs 2000 (by omega))),trivial⟩
theorem z87 (bs:List Int) (hb:BytesOk bs) (p:Int) (h0:0≤p) (h1:p≤1000000000) (l:List Int) (hl:0 < l.length) (hl2:l.length≤1000):∃ v:Int,v∈l∧CallsA Tryz.prog 91 [.ptr 0 none 0,.sref 1 0 l.length] [rdO bs p,.cells 1 (l.map enI)] (.int v) [rdO bs (p+1),.cells 1 (l.map enI)]:=by
 obtain ⟨k,⟨hk0,hk1⟩,hc⟩:=z63 bs hb p l.length h0 h1 (by omega)
 have hk:k.toNat < l.length:=by omega
 have g0:(l.map enI)[k.toNat]?=some (enI l[k.toNat]):=by rw [y51,y45 hk];rfl
 refine ⟨l[k.toNat],y44 _,?_⟩
 generalize l[k.toNat]=v at *
 refine z14 z16 Tryz.func91 rfl rfl 12 Tryz.ntmps91 (by simp) ?_
 repeat' (first|(apply y4 ok;rfl;conv=>whnf)|(refine z15 (i:=k.toNat) rfl g0 ?_;conv=>whnf)|(apply y43;(omega);conv=>whnf)|(apply z97 [0] [] [] (hc);rfl;(focus ((repeat' (first|exact z28|apply z35))<;>(rfl)));rfl;rfl;rfl;rfl;rfl;(focus ((repeat' (first|exact z12|apply z11))<;>(exact z33 rfl rfl)));(exact .inl rfl);conv=>whnf))
 all_goals (exact z88 [0,1] (by decide) rfl rfl rfl ⟨z42 rfl rfl,z94 rfl (z4 fun _=>rfl),trivial⟩)
end Go.Proofs.YtnfoijopccdjeaaGreat
namespace Go.Proofs.YtnfoijopccdjeaaGreat
open Go.Gl
attribute [local irreducible] z18 AWP z30 z36 z32 RetS z38
theorem z109 (t:Tree):t.sz≤maxLen→t.mx:=by
 induction t using y26 with|h t ih=>?_
 intro h
 rw [y30]
 rw [y38] at h
 refine ⟨by omega,fun u hu=>ih u hu ?_⟩
 have:=z244 Tree.sz hu
 omega
abbrev few (p:Int):Prop:=0≤p∧p≤999999000
abbrev few1 (p:Int):Prop:=0≤p∧p≤999990000
abbrev few2 (p:Int):Prop:=0≤p∧p≤999900000
abbrev few3 (p:Int):Prop:=0≤p∧p≤999000000
def leaf (k v:Int):Tree:=.mk k v []
theorem z82 (k v:Int):(leaf k v).sz=0:=rfl
theorem z231 (k v:Int) (l:List Tree):(Tree.mk k v l).sz=l.length+(l.map Tree.sz).sum:=y38 _
set_option maxHeartbeats 1600000 in
theorem z600 (bs:List Int) (hb:BytesOk bs) (p:Int) (hp:few p):∃ (t:Tree) (p' : Int),(t.sz≤3∧p≤p'∧p'≤p+5)∧CallsA Tryz.prog 87 [.ptr 0 none 0] [rdO bs p] (z24 Tree.cs' t) [rdO bs p']:=by
 obtain ⟨v0,⟨l0,u0⟩,c0⟩:=z63 bs hb p 3 (by omega) (by omega) (by omega)
 by_cases h0:v0=0
 ·subst h0
  refine ⟨leaf 1 1,p+1,⟨by rw [z82];omega,by omega,by omega⟩,?_⟩
  refine z7 z16 Tryz.func87 rfl rfl 31 Tryz.ntmps87 (by simp) ?_
  repeat' ((first|(apply y4 ok;rfl)|(apply z25 [0] [] c0;rfl;rfl;rfl))<;>conv=>whnf)
  all_goals (refine rsD [0] [] rfl ?_;(repeat' first|exact y85 _|exact z41|apply y86|apply z46|constructor))
 ·obtain ⟨v1,m1,c1⟩:=z87 bs hb (p+1) (by omega) (by omega) [0,1,0,2] (by decide) (by decide)
  obtain ⟨v2,⟨l2,u2⟩,c2⟩:=z63 bs hb (p+1+1) 3 (by omega) (by omega) (by omega)
  obtain ⟨v3,m3,c3⟩:=z87 bs hb (p+1+1+1) (by omega) (by omega) [6,7,6] (by decide) (by decide)
  obtain ⟨v4,⟨l4,u4⟩,c4⟩:=z63 bs hb (p+1+1+1+1) 5 (by omega) (by omega) (by omega)
  have z0:v0≠0:=h0
  by_cases h4:v4=0
  ·subst h4
   refine ⟨.mk 3 0 [.mk v3 0 [leaf 2 v1,leaf 1 v2]],p+1+1+1+1+1,⟨by simp [z231,z82],by omega,by omega⟩,?_⟩
   refine z7 z16 Tryz.func87 rfl rfl 31 Tryz.ntmps87 (by simp) ?_
   repeat' ((first|(apply y4 ok;rfl)|(apply z26;kernel_rfl)|((apply z5)<;>intro _)|((first|(apply z8 [0] [] c0;rfl;rfl)|(apply z8 [0,2] [] c1;rfl;rfl)|(apply z8 [0] [] c2;rfl;rfl)|(apply z8 [0,5] [] c3;rfl;rfl)|(apply z8 [0] [] c4;rfl;rfl));rfl;(focus ((repeat' first|exact z12|apply z11)<;>first|exact z33 rfl rfl|(refine z17 ?_;((exact z4 fun _=>rfl)))))))<;>conv=>whnf)
   all_goals try (exfalso;omega)
   all_goals (refine rsL [0,8] [6] rfl ?_;refine rsD [0] [1] rfl ?_;(repeat' first|exact y85 _|exact z41|apply y86|((first|apply z37 rfl rfl rfl|apply z80 rfl rfl rfl);(focus ((repeat (rfl));done));(focus ((rfl);done)))|apply z46|(apply z66;rfl)|constructor))
  ·refine ⟨.mk v3 0 [leaf 2 v1,leaf 1 v2],p+1+1+1+1+1,⟨by simp [z231,z82],by omega,by omega⟩,?_⟩
   refine z7 z16 Tryz.func87 rfl rfl 31 Tryz.ntmps87 (by simp) ?_
   repeat' ((first|(apply y4 ok;rfl)|(apply z26;kernel_rfl)|((apply z5)<;>intro _)|((first|(apply z8 [0] [] c0;rfl;rfl)|(apply z8 [0,2] [] c1;rfl;rfl)|(apply z8 [0] [] c2;rfl;rfl)|(apply z8 [0,5] [] c3;rfl;rfl)|(apply z8 [0] [] c4;rfl;rfl));rfl;(focus ((repeat' first|exact z12|apply z11)<;>first|exact z33 rfl rfl|(refine z17 ?_;((exact z4 fun _=>rfl)))))))<;>conv=>whnf)
   all_goals try (exfalso;omega)
   all_goals (refine rsD [0] [6] rfl ?_;(repeat' first|exact y85 _|exact z41|apply y86|refine z37 rfl rfl rfl rfl rfl ?_|apply z46|(apply z66;rfl)|constructor))
end Go.Proofs.YtnfoijopccdjeaaGreat
