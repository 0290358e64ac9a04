/- A part of the proofs over this program: Tab, T3, T4, T5, T6, T7, T8, T9, T10, T11, T12, T13, T15, T16, T17, T18, T19, T20, T21, T22, T23, T23R, T23S. -/
import Derived.Test.YtahhobgjcfionaaGreatG0
import Derived.Test.YtahhobgjcfionaaGreatG1
import Derived.Test.YtahhobgjcfionaaGreatG2
import Derived.Test.YtahhobgjcfionaaGreatG3
import Derived.Test.YtahhobgjcfionaaGreatProg
import Derived.KernelRfl
set_option linter.all false
namespace Go.Proofs.YtahhobgjcfionaaGreat
open Go.Gl
def tabL:List (Nat×TyI):=[
 (3,⟨.int .i64,1,8,.int .i64 0⟩),
 (28,⟨.slice 3,1,24,.slice none 0 0⟩),
 (76, ⟨.struct #[{ name := "Kind", type := 3, offset := 0, embedded := false, tag := "", pkgPath := "", byteOffset := 0 }, { name := "Atom", type := 3, offset := 1, embedded := false, tag := "", pkgPath := "", byteOffset := 8 }, { name := "Kids", type := 74, offset := 2, embedded := false, tag := "", pkgPath := "", byteOffset := 16 }], 3, 40, .agg #[.int .i64 0, .int .i64 0, .slice none 0 0]⟩),
 (32, ⟨.struct #[{ name := "Initial", type := 28, offset := 0, embedded := false, tag := "", pkgPath := "", byteOffset := 0 }, { name := "Accepting", type := 29, offset := 1, embedded := false, tag := "", pkgPath := "", byteOffset := 24 }, { name := "Edges", type := 30, offset := 2, embedded := false, tag := "", pkgPath := "", byteOffset := 48 }], 3, 72, .agg #[.slice none 0 0, .slice none 0 0, .slice none 0 0]⟩),
 (26, ⟨.struct #[{ name := "States", type := 23, offset := 0, embedded := false, tag := "", pkgPath := "", byteOffset := 0 }, { name := "Next", type := 24, offset := 1, embedded := false, tag := "", pkgPath := "", byteOffset := 24 }], 2, 48, .agg #[.slice none 0 0, .slice none 0 0]⟩),
 (74,⟨.slice 76,1,24,.slice none 0 0⟩),
 (158, ⟨.struct #[{ name := "Kind", type := 3, offset := 0, embedded := false, tag := "", pkgPath := "", byteOffset := 0 }, { name := "Value", type := 3, offset := 1, embedded := false, tag := "", pkgPath := "", byteOffset := 8 }, { name := "Kids", type := 27, offset := 2, embedded := false, tag := "", pkgPath := "", byteOffset := 16 }], 3, 40, .agg #[.int .i64 0, .int .i64 0, .slice none 0 0]⟩),
 (24,⟨.slice 28,1,24,.slice none 0 0⟩),
 (50, ⟨.struct #[{ name := "Ranks", type := 28, offset := 0, embedded := false, tag := "", pkgPath := "", byteOffset := 0 }], 1, 24, .agg #[.slice none 0 0]⟩),
 (36, ⟨.struct #[{ name := "Stem", type := 28, offset := 0, embedded := false, tag := "", pkgPath := "", byteOffset := 0 }, { name := "Loop", type := 28, offset := 1, embedded := false, tag := "", pkgPath := "", byteOffset := 24 }], 2, 48, .agg #[.slice none 0 0, .slice none 0 0]⟩),
 (29,⟨.slice 4,1,24,.slice none 0 0⟩),
 (23,⟨.slice 126,1,24,.slice none 0 0⟩),
 (30,⟨.slice 146,1,24,.slice none 0 0⟩),
 (27,⟨.slice 158,1,24,.slice none 0 0⟩),
 (126, ⟨.struct #[{ name := "Locs", type := 28, offset := 0, embedded := false, tag := "", pkgPath := "", byteOffset := 0 }, { name := "Vals", type := 28, offset := 1, embedded := false, tag := "", pkgPath := "", byteOffset := 24 }], 2, 48, .agg #[.slice none 0 0, .slice none 0 0]⟩),
 (4,⟨.bool,1,1,.bool false⟩),
 (146, ⟨.struct #[{ name := "From", type := 3, offset := 0, embedded := false, tag := "", pkgPath := "", byteOffset := 0 }, { name := "Care", type := 3, offset := 1, embedded := false, tag := "", pkgPath := "", byteOffset := 8 }, { name := "Value", type := 3, offset := 2, embedded := false, tag := "", pkgPath := "", byteOffset := 16 }, { name := "To", type := 3, offset := 3, embedded := false, tag := "", pkgPath := "", byteOffset := 24 }], 4, 32, .agg #[.int .i64 0, .int .i64 0, .int .i64 0, .int .i64 0]⟩),
 (242, ⟨.struct #[{ name := "From", type := 3, offset := 0, embedded := false, tag := "", pkgPath := "", byteOffset := 0 }, { name := "To", type := 3, offset := 1, embedded := false, tag := "", pkgPath := "", byteOffset := 8 }, { name := "Guard", type := 158, offset := 2, embedded := false, tag := "", pkgPath := "", byteOffset := 16 }, { name := "Var", type := 3, offset := 5, embedded := false, tag := "", pkgPath := "", byteOffset := 56 }, { name := "Value", type := 158, offset := 6, embedded := false, tag := "", pkgPath := "", byteOffset := 64 }, { name := "Sync", type := 3, offset := 9, embedded := false, tag := "", pkgPath := "", byteOffset := 104 }], 10, 112, .agg #[.int .i64 0, .int .i64 0, .int .i64 0, .int .i64 0, .slice none 0 0, .int .i64 0, .int .i64 0, .int .i64 0, .slice none 0 0, .int .i64 0]⟩),
 (22,⟨.slice 5,1,24,.slice none 0 0⟩),
 (179,⟨.slice 240,1,24,.slice none 0 0⟩),
 (40, ⟨.struct #[{ name := "Stem", type := 28, offset := 0, embedded := false, tag := "", pkgPath := "", byteOffset := 0 }, { name := "Loop", type := 28, offset := 1, embedded := false, tag := "", pkgPath := "", byteOffset := 24 }], 2, 48, .agg #[.slice none 0 0, .slice none 0 0]⟩),
 (181, ⟨.struct #[{ name := "Init", type := 28, offset := 0, embedded := false, tag := "", pkgPath := "", byteOffset := 0 }, { name := "Processes", type := 179, offset := 1, embedded := false, tag := "", pkgPath := "", byteOffset := 24 }], 2, 48, .agg #[.slice none 0 0, .slice none 0 0]⟩),
 (238,⟨.slice 242,1,24,.slice none 0 0⟩),
 (240, ⟨.struct #[{ name := "Locations", type := 3, offset := 0, embedded := false, tag := "", pkgPath := "", byteOffset := 0 }, { name := "Edges", type := 238, offset := 1, embedded := false, tag := "", pkgPath := "", byteOffset := 8 }], 2, 32, .agg #[.int .i64 0, .slice none 0 0]⟩),
 (65, ⟨.struct #[{ name := "Kind", type := 3, offset := 0, embedded := false, tag := "", pkgPath := "", byteOffset := 0 }, { name := "Atom", type := 3, offset := 1, embedded := false, tag := "", pkgPath := "", byteOffset := 8 }, { name := "Kids", type := 63, offset := 2, embedded := false, tag := "", pkgPath := "", byteOffset := 16 }], 3, 40, .agg #[.int .i64 0, .int .i64 0, .slice none 0 0]⟩),
 (254,⟨.slice 256,1,24,.slice none 0 0⟩),
 (61, ⟨.struct #[{ name := "States", type := 59, offset := 0, embedded := false, tag := "", pkgPath := "", byteOffset := 0 }, { name := "Next", type := 24, offset := 1, embedded := false, tag := "", pkgPath := "", byteOffset := 24 }], 2, 48, .agg #[.slice none 0 0, .slice none 0 0]⟩),
 (256, ⟨.struct #[{ name := "set", type := 3, offset := 0, embedded := false, tag := "", pkgPath := "loop.example/ltlcheck/impl", byteOffset := 0 }, { name := "phase", type := 3, offset := 1, embedded := false, tag := "", pkgPath := "loop.example/ltlcheck/impl", byteOffset := 8 }], 2, 16, .agg #[.int .i64 0, .int .i64 0]⟩),
 (232,⟨.slice 236,1,24,.slice none 0 0⟩),
 (172, ⟨.struct #[{ name := "b", type := 22, offset := 0, embedded := false, tag := "", pkgPath := "loop.example/ltlcheck/spec", byteOffset := 0 }, { name := "p", type := 3, offset := 1, embedded := false, tag := "", pkgPath := "loop.example/ltlcheck/spec", byteOffset := 24 }], 2, 32, .agg #[.slice none 0 0, .int .i64 0]⟩),
 (253, ⟨.struct #[{ name := "basics", type := 74, offset := 0, embedded := false, tag := "", pkgPath := "loop.example/ltlcheck/impl", byteOffset := 0 }, { name := "untils", type := 28, offset := 1, embedded := false, tag := "", pkgPath := "loop.example/ltlcheck/impl", byteOffset := 24 }], 2, 48, .agg #[.slice none 0 0, .slice none 0 0]⟩),
 (5,⟨.int .u8,1,1,.int .u8 0⟩),
 (236, ⟨.struct #[{ name := "Process", type := 3, offset := 0, embedded := false, tag := "", pkgPath := "", byteOffset := 0 }, { name := "Edge", type := 3, offset := 1, embedded := false, tag := "", pkgPath := "", byteOffset := 8 }, { name := "Partner", type := 3, offset := 2, embedded := false, tag := "", pkgPath := "", byteOffset := 16 }, { name := "PartnerEdge", type := 3, offset := 3, embedded := false, tag := "", pkgPath := "", byteOffset := 24 }], 4, 32, .agg #[.int .i64 0, .int .i64 0, .int .i64 0, .int .i64 0]⟩),
 (59,⟨.slice 207,1,24,.slice none 0 0⟩),
 (62,⟨.slice 151,1,24,.slice none 0 0⟩),
 (63,⟨.slice 65,1,24,.slice none 0 0⟩),
 (251,⟨.pointer 253,1,8,.pointer none⟩),
 (277,⟨.map 256 3,1,8,.map none⟩),
 (281, ⟨.struct #[{ name := "care", type := 3, offset := 0, embedded := false, tag := "", pkgPath := "loop.example/ltlcheck/impl", byteOffset := 0 }, { name := "value", type := 3, offset := 1, embedded := false, tag := "", pkgPath := "loop.example/ltlcheck/impl", byteOffset := 8 }, { name := "to", type := 256, offset := 2, embedded := false, tag := "", pkgPath := "loop.example/ltlcheck/impl", byteOffset := 16 }], 4, 32, .agg #[.int .i64 0, .int .i64 0, .int .i64 0, .int .i64 0]⟩),
 (66, ⟨.struct #[{ name := "Ranks", type := 28, offset := 0, embedded := false, tag := "", pkgPath := "", byteOffset := 0 }], 1, 24, .agg #[.slice none 0 0]⟩),
 (151, ⟨.struct #[{ name := "Kind", type := 3, offset := 0, embedded := false, tag := "", pkgPath := "", byteOffset := 0 }, { name := "Value", type := 3, offset := 1, embedded := false, tag := "", pkgPath := "", byteOffset := 8 }, { name := "Kids", type := 62, offset := 2, embedded := false, tag := "", pkgPath := "", byteOffset := 16 }], 3, 40, .agg #[.int .i64 0, .int .i64 0, .slice none 0 0]⟩),
 (207, ⟨.struct #[{ name := "Locs", type := 28, offset := 0, embedded := false, tag := "", pkgPath := "", byteOffset := 0 }, { name := "Vals", type := 28, offset := 1, embedded := false, tag := "", pkgPath := "", byteOffset := 24 }], 2, 48, .agg #[.slice none 0 0, .slice none 0 0]⟩),
 (261,⟨.pointer 3,1,8,.pointer none⟩),
 (218,⟨.int .u64,1,8,.int .u64 0⟩),
 (270,⟨.map 3 3,1,8,.map none⟩),
 (279,⟨.slice 281,1,24,.slice none 0 0⟩),
 (183,⟨.slice 30,1,24,.slice none 0 0⟩),
 (201,⟨.func #[3] #[] false,1,8,.nilFunc⟩),
 (290,⟨.func #[76] #[] false,1,8,.nilFunc⟩)]
def tab:Tab:=z666 tabL
theorem inf3:(Tryz.prog.info? 3).map (fun j=>(j.zero,j.size,j.bytes))=some (some (.int .i64 0),1,8):=by kernel_rfl
theorem inf28:(Tryz.prog.info? 28).map (fun j=>(j.zero,j.size,j.bytes))=some (some (.slice none 0 0),1,24):=by kernel_rfl
theorem inf76:(Tryz.prog.info? 76).map (fun j=>(j.zero,j.size,j.bytes))=some (some (.agg #[.int .i64 0,.int .i64 0,.slice none 0 0]),3,40):=by kernel_rfl
theorem inf32:(Tryz.prog.info? 32).map (fun j=>(j.zero,j.size,j.bytes))=some (some (.agg #[.slice none 0 0,.slice none 0 0,.slice none 0 0]),3,72):=by kernel_rfl
theorem inf26:(Tryz.prog.info? 26).map (fun j=>(j.zero,j.size,j.bytes))=some (some (.agg #[.slice none 0 0,.slice none 0 0]),2,48):=by kernel_rfl
theorem inf74:(Tryz.prog.info? 74).map (fun j=>(j.zero,j.size,j.bytes))=some (some (.slice none 0 0),1,24):=by kernel_rfl
theorem inf158:(Tryz.prog.info? 158).map (fun j=>(j.zero,j.size,j.bytes))=some (some (.agg #[.int .i64 0,.int .i64 0,.slice none 0 0]),3,40):=by kernel_rfl
theorem inf24:(Tryz.prog.info? 24).map (fun j=>(j.zero,j.size,j.bytes))=some (some (.slice none 0 0),1,24):=by kernel_rfl
theorem inf50:(Tryz.prog.info? 50).map (fun j=>(j.zero,j.size,j.bytes))=some (some (.agg #[.slice none 0 0]),1,24):=by kernel_rfl
theorem inf36:(Tryz.prog.info? 36).map (fun j=>(j.zero,j.size,j.bytes))=some (some (.agg #[.slice none 0 0,.slice none 0 0]),2,48):=by kernel_rfl
theorem inf29:(Tryz.prog.info? 29).map (fun j=>(j.zero,j.size,j.bytes))=some (some (.slice none 0 0),1,24):=by kernel_rfl
theorem inf23:(Tryz.prog.info? 23).map (fun j=>(j.zero,j.size,j.bytes))=some (some (.slice none 0 0),1,24):=by kernel_rfl
theorem inf30:(Tryz.prog.info? 30).map (fun j=>(j.zero,j.size,j.bytes))=some (some (.slice none 0 0),1,24):=by kernel_rfl
theorem inf27:(Tryz.prog.info? 27).map (fun j=>(j.zero,j.size,j.bytes))=some (some (.slice none 0 0),1,24):=by kernel_rfl
theorem inf126:(Tryz.prog.info? 126).map (fun j=>(j.zero,j.size,j.bytes))=some (some (.agg #[.slice none 0 0,.slice none 0 0]),2,48):=by kernel_rfl
theorem inf4:(Tryz.prog.info? 4).map (fun j=>(j.zero,j.size,j.bytes))=some (some (.bool false),1,1):=by kernel_rfl
theorem inf146:(Tryz.prog.info? 146).map (fun j=>(j.zero,j.size,j.bytes))=some (some (.agg #[.int .i64 0,.int .i64 0,.int .i64 0,.int .i64 0]),4,32):=by kernel_rfl
theorem inf242:(Tryz.prog.info? 242).map (fun j=>(j.zero,j.size,j.bytes))=some (some (.agg #[.int .i64 0,.int .i64 0,.int .i64 0,.int .i64 0,.slice none 0 0,.int .i64 0,.int .i64 0,.int .i64 0,.slice none 0 0,.int .i64 0]),10,112):=by kernel_rfl
theorem inf22:(Tryz.prog.info? 22).map (fun j=>(j.zero,j.size,j.bytes))=some (some (.slice none 0 0),1,24):=by kernel_rfl
theorem inf179:(Tryz.prog.info? 179).map (fun j=>(j.zero,j.size,j.bytes))=some (some (.slice none 0 0),1,24):=by kernel_rfl
theorem inf40:(Tryz.prog.info? 40).map (fun j=>(j.zero,j.size,j.bytes))=some (some (.agg #[.slice none 0 0,.slice none 0 0]),2,48):=by kernel_rfl
theorem inf181:(Tryz.prog.info? 181).map (fun j=>(j.zero,j.size,j.bytes))=some (some (.agg #[.slice none 0 0,.slice none 0 0]),2,48):=by kernel_rfl
theorem inf238:(Tryz.prog.info? 238).map (fun j=>(j.zero,j.size,j.bytes))=some (some (.slice none 0 0),1,24):=by kernel_rfl
theorem inf240:(Tryz.prog.info? 240).map (fun j=>(j.zero,j.size,j.bytes))=some (some (.agg #[.int .i64 0,.slice none 0 0]),2,32):=by kernel_rfl
theorem inf65:(Tryz.prog.info? 65).map (fun j=>(j.zero,j.size,j.bytes))=some (some (.agg #[.int .i64 0,.int .i64 0,.slice none 0 0]),3,40):=by kernel_rfl
theorem inf254:(Tryz.prog.info? 254).map (fun j=>(j.zero,j.size,j.bytes))=some (some (.slice none 0 0),1,24):=by kernel_rfl
theorem inf61:(Tryz.prog.info? 61).map (fun j=>(j.zero,j.size,j.bytes))=some (some (.agg #[.slice none 0 0,.slice none 0 0]),2,48):=by kernel_rfl
theorem inf256:(Tryz.prog.info? 256).map (fun j=>(j.zero,j.size,j.bytes))=some (some (.agg #[.int .i64 0,.int .i64 0]),2,16):=by kernel_rfl
theorem inf232:(Tryz.prog.info? 232).map (fun j=>(j.zero,j.size,j.bytes))=some (some (.slice none 0 0),1,24):=by kernel_rfl
theorem inf172:(Tryz.prog.info? 172).map (fun j=>(j.zero,j.size,j.bytes))=some (some (.agg #[.slice none 0 0,.int .i64 0]),2,32):=by kernel_rfl
theorem inf253:(Tryz.prog.info? 253).map (fun j=>(j.zero,j.size,j.bytes))=some (some (.agg #[.slice none 0 0,.slice none 0 0]),2,48):=by kernel_rfl
theorem inf5:(Tryz.prog.info? 5).map (fun j=>(j.zero,j.size,j.bytes))=some (some (.int .u8 0),1,1):=by kernel_rfl
theorem inf236:(Tryz.prog.info? 236).map (fun j=>(j.zero,j.size,j.bytes))=some (some (.agg #[.int .i64 0,.int .i64 0,.int .i64 0,.int .i64 0]),4,32):=by kernel_rfl
theorem inf59:(Tryz.prog.info? 59).map (fun j=>(j.zero,j.size,j.bytes))=some (some (.slice none 0 0),1,24):=by kernel_rfl
theorem inf62:(Tryz.prog.info? 62).map (fun j=>(j.zero,j.size,j.bytes))=some (some (.slice none 0 0),1,24):=by kernel_rfl
theorem inf63:(Tryz.prog.info? 63).map (fun j=>(j.zero,j.size,j.bytes))=some (some (.slice none 0 0),1,24):=by kernel_rfl
theorem inf251:(Tryz.prog.info? 251).map (fun j=>(j.zero,j.size,j.bytes))=some (some (.pointer none),1,8):=by kernel_rfl
theorem inf277:(Tryz.prog.info? 277).map (fun j=>(j.zero,j.size,j.bytes))=some (some (.map none),1,8):=by kernel_rfl
theorem inf281:(Tryz.prog.info? 281).map (fun j=>(j.zero,j.size,j.bytes))=some (some (.agg #[.int .i64 0,.int .i64 0,.int .i64 0,.int .i64 0]),4,32):=by kernel_rfl
theorem inf66:(Tryz.prog.info? 66).map (fun j=>(j.zero,j.size,j.bytes))=some (some (.agg #[.slice none 0 0]),1,24):=by kernel_rfl
theorem inf151:(Tryz.prog.info? 151).map (fun j=>(j.zero,j.size,j.bytes))=some (some (.agg #[.int .i64 0,.int .i64 0,.slice none 0 0]),3,40):=by kernel_rfl
theorem inf207:(Tryz.prog.info? 207).map (fun j=>(j.zero,j.size,j.bytes))=some (some (.agg #[.slice none 0 0,.slice none 0 0]),2,48):=by kernel_rfl
theorem inf261:(Tryz.prog.info? 261).map (fun j=>(j.zero,j.size,j.bytes))=some (some (.pointer none),1,8):=by kernel_rfl
theorem inf218:(Tryz.prog.info? 218).map (fun j=>(j.zero,j.size,j.bytes))=some (some (.int .u64 0),1,8):=by kernel_rfl
theorem inf270:(Tryz.prog.info? 270).map (fun j=>(j.zero,j.size,j.bytes))=some (some (.map none),1,8):=by kernel_rfl
theorem inf279:(Tryz.prog.info? 279).map (fun j=>(j.zero,j.size,j.bytes))=some (some (.slice none 0 0),1,24):=by kernel_rfl
theorem inf183:(Tryz.prog.info? 183).map (fun j=>(j.zero,j.size,j.bytes))=some (some (.slice none 0 0),1,24):=by kernel_rfl
theorem inf201:(Tryz.prog.info? 201).map (fun j=>(j.zero,j.size,j.bytes))=some (some (.nilFunc),1,8):=by kernel_rfl
theorem inf290:(Tryz.prog.info? 290).map (fun j=>(j.zero,j.size,j.bytes))=some (some (.nilFunc),1,8):=by kernel_rfl
theorem z14:z114 Tryz.prog tab:=tabOk_of (⟨z56 Tryz.underlying3 inf3,⟨z56 Tryz.underlying28 inf28,⟨z56 Tryz.underlying76 inf76,⟨z56 Tryz.underlying32 inf32,⟨z56 Tryz.underlying26 inf26,⟨z56 Tryz.underlying74 inf74,⟨z56 Tryz.underlying158 inf158,⟨z56 Tryz.underlying24 inf24,⟨z56 Tryz.underlying50 inf50,⟨z56 Tryz.underlying36 inf36,⟨z56 Tryz.underlying29 inf29,⟨z56 Tryz.underlying23 inf23,⟨z56 Tryz.underlying30 inf30,⟨z56 Tryz.underlying27 inf27,⟨z56 Tryz.underlying126 inf126,⟨z56 Tryz.underlying4 inf4,⟨z56 Tryz.underlying146 inf146,⟨z56 Tryz.underlying242 inf242,⟨z56 Tryz.underlying22 inf22,⟨z56 Tryz.underlying179 inf179,⟨z56 Tryz.underlying40 inf40,⟨z56 Tryz.underlying181 inf181,⟨z56 Tryz.underlying238 inf238,⟨z56 Tryz.underlying240 inf240,⟨z56 Tryz.underlying65 inf65,⟨z56 Tryz.underlying254 inf254,⟨z56 Tryz.underlying61 inf61,⟨z56 Tryz.underlying256 inf256,⟨z56 Tryz.underlying232 inf232,⟨z56 Tryz.underlying172 inf172,⟨z56 Tryz.underlying253 inf253,⟨z56 Tryz.underlying5 inf5,⟨z56 Tryz.underlying236 inf236,⟨z56 Tryz.underlying59 inf59,⟨z56 Tryz.underlying62 inf62,⟨z56 Tryz.underlying63 inf63,⟨z56 Tryz.underlying251 inf251,⟨z56 Tryz.underlying277 inf277,⟨z56 Tryz.underlying281 inf281,⟨z56 Tryz.underlying66 inf66,⟨z56 Tryz.underlying151 inf151,⟨z56 Tryz.underlying207 inf207,⟨z56 Tryz.underlying261 inf261,⟨z56 Tryz.underlying218 inf218,⟨z56 Tryz.underlying270 inf270,⟨z56 Tryz.underlying279 inf279,⟨z56 Tryz.underlying183 inf183,⟨z56 Tryz.underlying201 inf201,⟨z56 Tryz.underlying290 inf290,trivial⟩⟩⟩⟩⟩⟩⟩⟩⟩⟩⟩⟩⟩⟩⟩⟩⟩⟩⟩⟩⟩⟩⟩⟩⟩⟩⟩⟩⟩⟩⟩⟩⟩⟩⟩⟩⟩⟩⟩⟩⟩⟩⟩⟩⟩⟩⟩⟩⟩)
end Go.Proofs.YtahhobgjcfionaaGreat
namespace Go.Proofs.YtahhobgjcfionaaGreat
open Go.Gl
attribute [local irreducible] z18
def enI (n:Int):List AC:=[.int n]
def ints (l:List Int):AC:=.list 1 l.length (l.map enI)
theorem ok:Ok Tryz.prog tab:=⟨z14,by kernel_rfl⟩
structure State where
 a:List Int
 b:List Int
 deriving DecidableEq
def State.cs (s:State):List AC:=[ints s.a,ints s.b]
def State.mx (s:State):Prop:=s.a.length≤maxLen∧s.b.length≤maxLen
def State.sz (s:State):Nat:=s.a.length+s.b.length
def lst {α:Type} (w:Nat) (e:α→List AC) (l:List α):AC:=.list w l.length (l.map e)
def tot {α:Type} (f:α→Nat) (l:List α):Nat:=l.length+(l.map f).sum
theorem z466 {α:Type} (f:α→Nat) (l:List α) (k:Nat):((l.take k).map f).sum≤(l.map f).sum:=by
 conv=>rhs;rw [← List.take_append_drop k l,y62,List.sum_append]
 omega
def State.mxs (l:List State):Prop:=l.length≤maxLen∧∀ s∈l,s.mx
def State.small (s:State):Prop:=s.a.length≤1048576∧s.b.length≤1048576
theorem State.unown (s:State):∀ x∈s.cs,x.unown=x:=fun x hx=>by
 simp only [State.cs,List.mem_cons,List.not_mem_nil,or_false] at hx
 rcases hx with rfl|rfl<;>rfl
def z23 {α:Type} (e:α→List AC) (a:α):AC:=.agg (e a)
theorem Tree.unown (t:Tree):∀ x∈Tree.cs' t,x.unown=x:=fun x hx=>by
 simp only [Tree.cs',List.mem_cons,List.not_mem_nil,or_false] at hx
 rcases hx with rfl|rfl|rfl<;>rfl
def encL (l:List Int):List AC:=[ints l]
structure Graph where
 st:List State
 nx:List (List Int)
 deriving DecidableEq
def Graph.a1 (g:Graph):AC:=lst 2 State.cs g.st
def Graph.a2 (g:Graph):AC:=lst 1 encL g.nx
def Graph.cs (g:Graph):List AC:=[lst 2 State.cs g.st,lst 1 encL g.nx]
def Graph.s1 (g:Graph):Nat:=tot State.sz g.st
def Graph.s2 (g:Graph):Nat:=tot List.length g.nx
def enB (b:Bool):List AC:=[.bool b]
structure Trans where
 src:Int
 care:Int
 val:Int
 dst:Int
 deriving DecidableEq
def Trans.cs (t:Trans):List AC:=[.int t.src,.int t.care,.int t.val,.int t.dst]
theorem Trans.unown (t:Trans):∀ x∈t.cs,x.unown=x:=fun x hx=>by
 simp only [Trans.cs,List.mem_cons,List.not_mem_nil,or_false] at hx
 rcases hx with rfl|rfl|rfl|rfl<;>rfl
structure Aut where
 ini:List Int
 acc:List Bool
 ed:List Trans
 deriving DecidableEq
def Aut.a1 (a:Aut):AC:=lst 1 enI a.ini
def Aut.a2 (a:Aut):AC:=lst 1 enB a.acc
def Aut.a3 (a:Aut):AC:=lst 4 Trans.cs a.ed
def Aut.cs (a:Aut):List AC:=[lst 1 enI a.ini,lst 1 enB a.acc,lst 4 Trans.cs a.ed]
def Aut.s1 (a:Aut):Nat:=a.ini.length
def Aut.s2 (a:Aut):Nat:=a.acc.length
def Aut.s3 (a:Aut):Nat:=a.ed.length
structure Cert where
 ranks:List Int
 deriving DecidableEq
def Cert.a1 (a:Cert):AC:=lst 1 enI a.ranks
def Cert.cs (a:Cert):List AC:=[lst 1 enI a.ranks]
def Cert.s1 (a:Cert):Nat:=a.ranks.length
end Go.Proofs.YtahhobgjcfionaaGreat
namespace Go.Proofs.YtahhobgjcfionaaGreat
open Go.Gl
attribute [local irreducible] z18 AWP z34 z39 z38
def btw (n lo hi:Int):Bool:=decide (lo≤n) && decide (n≤hi)
theorem z160 {n lo hi:Int} : btw n lo hi=true↔lo≤n∧n≤hi:=by simp [btw]
theorem z321 {n lo hi:Int} : btw n lo hi=false↔¬(lo≤n∧n≤hi):=by rw [← z160];simp
theorem z365 (n lo hi:Int):CallsA Tryz.prog 84 [.int n,.int lo,.int hi] [] (.bool (btw n lo hi)) []:=by
 refine z13 z14 Tryz.func84 rfl rfl 15 Tryz.ntmps84 (by simp) ?_
 repeat' (first|(apply y4 ok;rfl;conv=>whnf)|(apply z6<;>intro _<;>conv=>whnf))
 all_goals (refine z31 rfl ?_;(unfold btw;simp [*];done))
def idxF {α:Type} (p:α→Bool) (l:List α):Int:=match l.findIdx? p with
 |some i=>i
 |none=>-1
theorem z170 {α:Type} {p:α→Bool} {l:List α} {i:Nat} (hi:i < l.length) (h:p l[i]=true) (hn:∀ j (hj:j < l.length),j < i→p l[j]=false):idxF p l=i:=by
 have:l.findIdx? p=some i:=List.findIdx?_eq_some_iff_getElem.2 ⟨hi,h,fun j hj=>by simp [hn j (by omega) hj]⟩
 simp [idxF,this]
theorem z144 {α:Type} {p:α→Bool} {l:List α} (hn:∀ j (hj:j < l.length),p l[j]=false):idxF p l=-1:=by
 have:l.findIdx? p=none:=List.findIdx?_eq_none_iff.2 fun x hx=>by
  obtain ⟨i,hi,rfl⟩:=List.mem_iff_getElem.1 hx
  exact hn i hi
 simp [idxF,this]
theorem z204 {α:Type} (p:α→Bool) (l:List α):decide (0≤idxF p l)=l.any p:=by
 unfold idxF
 split
 ·rename_i i e
  obtain ⟨h,hp,_⟩:=List.findIdx?_eq_some_iff_getElem.1 e
  have:l.any p=true:=List.any_eq_true.2 ⟨_,y43 h,hp⟩
  rw [this]
  simp
 ·rename_i e
  have:=List.findIdx?_eq_none_iff.1 e
  have:l.any p=false:=List.any_eq_false.2 fun x hx=>by simp [this x hx]
  rw [this]
  simp
theorem z628 (l:List Int) (hl:l.length≤maxLen) (p:Int→Bool) (f:FuncId) (hf:∀ x∈l,CallsA Tryz.prog f [.int x] [] (.bool (p x)) []):CallsA Tryz.prog 166 [lst 1 enI l,.fn (.func f) [] []] [] (.int (idxF p l)) []:=by
 unfold maxLen at hl
 refine z13 z14 Tryz.func166 rfl rfl 19 Tryz.ntmps166 (by simp) ?_
 repeat' ((apply y4 ok;rfl;conv=>whnf))
 refine z110 (fun k:Nat=>([(0,lst 1 enI l),(1,.fn (.func f) [] []),(7,.int l.length),(8,.int k)],[])) (fun k=>k≤l.length∧∀ j (hj:j < l.length),j < k→p l[j]=false) (fun k=>l.length - k) 0 (by simp)
  ⟨[],rfl,by decide,rfl,⟨⟨rfl,rfl⟩,⟨rfl,rfl⟩,⟨rfl,rfl⟩,⟨rfl,rfl⟩,trivial⟩,trivial⟩ ?_
 intro k hk
 repeat' (first|(apply y4 ok;rfl;conv=>whnf)|(apply y42;(first|omega|(unfold inI;omega));conv=>whnf)|(with_reducible apply z11;omega;intro _;conv=>whnf)|(apply z6<;>intro _<;>conv=>whnf)|(apply z101<;>intro _<;>conv=>whnf)|(apply z4 (hf l[k] (y43 _));rfl;rfl;conv=>whnf))
 ·rename_i h h1
  exact z52 rfl rfl (by rw [z170 (by omega) h1 hk.2];rfl)
 ·rename_i h h1
  refine z97 (k+1) [] ⟨by omega,fun j hj hjk=>?_⟩ (by omega) ⟨rfl,by decide,rfl,⟨⟨rfl,rfl⟩,⟨rfl,rfl⟩,⟨rfl,rfl⟩,⟨rfl,rfl⟩,trivial⟩,trivial⟩
  rcases y68 j k with h2|h2
  ·exact hk.2 j hj h2
  ·obtain rfl:j=k:=by omega
   exact h1
 ·exact z52 rfl rfl (by rw [z144 fun j hj=>hk.2 j hj (by omega)];rfl)
theorem z432 (l:List Int) (hl:l.length≤maxLen) (p:Int→Bool) (f:FuncId) (hf:∀ x∈l,CallsA Tryz.prog f [.int x] [] (.bool (p x)) []):CallsA Tryz.prog 94 [lst 1 enI l,.fn (.func f) [] []] [] (.bool (l.any p)) []:=by
 refine z13 z14 Tryz.func94 rfl rfl 9 Tryz.ntmps94 (by simp) ?_
 repeat' (first|(apply y4 ok;rfl;conv=>whnf)|(apply z4 (z628 l hl p f hf);rfl;rfl;conv=>whnf))
 exact z31 rfl (by rw [← z204])
theorem z906 (n:Int):CallsA Tryz.prog 164 [.int n] [] (.bool (!btw n 0 3)) []:=by
 refine z13 z14 Tryz.func164 rfl rfl 6 Tryz.ntmps164 (by simp) ?_
 repeat' (first|(apply y4 ok;rfl;conv=>whnf)|(apply z4 (z365 n 0 3);rfl;rfl;conv=>whnf))
 exact z31 rfl rfl
def z387 (l:List Int):Bool:=decide ((l.length:Int)=3) && !(l.any fun n=>!btw n 0 3)
theorem z997 (l:List Int) (hl:l.length≤maxLen):CallsA Tryz.prog 87 [ints l] [] (.bool (z387 l)) []:=by
 have hl':=hl
 unfold maxLen at hl'
 have hk:=z432 l hl (fun n=>!btw n 0 3) 164 (fun x _=>z906 x)
 refine z13 z14 Tryz.func87 rfl rfl 11 Tryz.ntmps87 (by simp) ?_
 repeat' (first|(apply y4 ok;rfl;conv=>whnf)|(apply z6<;>intro _<;>conv=>whnf)|(apply z4 (hk);rfl;rfl;conv=>whnf))
 all_goals (refine z31 rfl ?_;(unfold z387;simp [*];done))
end Go.Proofs.YtahhobgjcfionaaGreat
namespace Go.Proofs.YtahhobgjcfionaaGreat
open Go.Gl
attribute [local irreducible] z18 z843 z461
theorem z503 (l:List State) (hl:l.length≤maxLen) (p:State→Bool) (f:FuncId) (hf:∀ x∈l,CallsA Tryz.prog f [z23 State.cs x] [] (.bool (p x)) []):CallsA Tryz.prog 163 [lst 2 State.cs l,.fn (.func f) [] []] [] (.int (idxF p l)) []:=by
 unfold maxLen at hl
 refine z13 z14 Tryz.func163 rfl rfl 19 Tryz.ntmps163 (by simp) ?_
 repeat' (((apply y4 ok;rfl))<;>conv=>whnf)
 refine z110 (fun k:Nat=>([(0,lst 2 State.cs l),(1,.fn (.func f) [] []),(7,.int l.length),(8,.int k)],[])) (fun k=>k≤l.length∧∀ j (hj:j < l.length),j < k→p l[j]=false) (fun k=>l.length - k) 0 (by simp)
  ⟨[],rfl,by decide,rfl,⟨⟨rfl,rfl⟩,⟨rfl,rfl⟩,⟨rfl,rfl⟩,⟨rfl,rfl⟩,trivial⟩,trivial⟩ ?_
 intro k hk
 repeat' ((first|(apply y4 ok;rfl)|(apply y42;first|omega|(unfold inI;omega))|(((with_reducible apply z11;omega));intro _)|((first|apply z6|apply z101)<;>intro _)|(apply z4 (hf l[k] (y43 _));rfl;rfl))<;>conv=>whnf)
 ·rename_i h h1
  exact z52 rfl rfl (by rw [z170 (by omega) h1 hk.2];rfl)
 ·rename_i h h1
  refine z97 (k+1) [] ⟨by omega,fun j hj hjk=>?_⟩ (by omega) ⟨rfl,by decide,rfl,⟨⟨rfl,rfl⟩,⟨rfl,rfl⟩,⟨rfl,rfl⟩,⟨rfl,rfl⟩,trivial⟩,trivial⟩
  rcases y68 j k with h2|h2
  ·exact hk.2 j hj h2
  ·obtain rfl:j=k:=by omega
   exact h1
 ·exact z52 rfl rfl (by rw [z144 fun j hj=>hk.2 j hj (by omega)];rfl)
theorem z375 (l:List State) (hl:l.length≤maxLen) (p:State→Bool) (f:FuncId) (hf:∀ x∈l,CallsA Tryz.prog f [z23 State.cs x] [] (.bool (p x)) []):CallsA Tryz.prog 85 [lst 2 State.cs l,.fn (.func f) [] []] [] (.bool (l.any p)) []:=by
 refine z13 z14 Tryz.func85 rfl rfl 9 Tryz.ntmps85 (by simp) ?_
 repeat' ((first|(apply y4 ok;rfl)|(apply z4 (z503 l hl p f hf);rfl;rfl))<;>conv=>whnf)
 exact z31 rfl (by rw [← z204])
theorem z539 (l:List Tree) (hl:l.length≤maxLen) (p:Tree→Bool) (f:FuncId) (hf:∀ x∈l,CallsA Tryz.prog f [z23 Tree.cs' x] [] (.bool (p x)) []):CallsA Tryz.prog 212 [lst 3 Tree.cs' l,.fn (.func f) [] []] [] (.int (idxF p l)) []:=by
 unfold maxLen at hl
 refine z13 z14 Tryz.func212 rfl rfl 19 Tryz.ntmps212 (by simp) ?_
 repeat' (((apply y4 ok;rfl))<;>conv=>whnf)
 refine z110 (fun k:Nat=>([(0,lst 3 Tree.cs' l),(1,.fn (.func f) [] []),(7,.int l.length),(8,.int k)],[])) (fun k=>k≤l.length∧∀ j (hj:j < l.length),j < k→p l[j]=false) (fun k=>l.length - k) 0 (by simp)
  ⟨[],rfl,by decide,rfl,⟨⟨rfl,rfl⟩,⟨rfl,rfl⟩,⟨rfl,rfl⟩,⟨rfl,rfl⟩,trivial⟩,trivial⟩ ?_
 intro k hk
 repeat' ((first|(apply y4 ok;rfl)|(apply y42;first|omega|(unfold inI;omega))|(((with_reducible apply z11;omega));intro _)|((first|apply z6|apply z101)<;>intro _)|(apply z4 (hf l[k] (y43 _));rfl;rfl))<;>conv=>whnf)
 ·rename_i h h1
  exact z52 rfl rfl (by rw [z170 (by omega) h1 hk.2];rfl)
 ·rename_i h h1
  refine z97 (k+1) [] ⟨by omega,fun j hj hjk=>?_⟩ (by omega) ⟨rfl,by decide,rfl,⟨⟨rfl,rfl⟩,⟨rfl,rfl⟩,⟨rfl,rfl⟩,⟨rfl,rfl⟩,trivial⟩,trivial⟩
  rcases y68 j k with h2|h2
  ·exact hk.2 j hj h2
  ·obtain rfl:j=k:=by omega
   exact h1
 ·exact z52 rfl rfl (by rw [z144 fun j hj=>hk.2 j hj (by omega)];rfl)
theorem z410 (l:List Tree) (hl:l.length≤maxLen) (p:Tree→Bool) (f:FuncId) (hf:∀ x∈l,CallsA Tryz.prog f [z23 Tree.cs' x] [] (.bool (p x)) []):CallsA Tryz.prog 152 [lst 3 Tree.cs' l,.fn (.func f) [] []] [] (.bool (l.any p)) []:=by
 refine z13 z14 Tryz.func152 rfl rfl 9 Tryz.ntmps152 (by simp) ?_
 repeat' ((first|(apply y4 ok;rfl)|(apply z4 (z539 l hl p f hf);rfl;rfl))<;>conv=>whnf)
 exact z31 rfl (by rw [← z204])
theorem z504 (c:Int) (l:List (List Int)) (hl:l.length≤maxLen) (p:(List Int)→Bool) (f:FuncId) (hf:∀ x∈l,CallsA Tryz.prog f [ints x,.pt [.int c]] [] (.bool (p x)) []):CallsA Tryz.prog 165 [lst 1 encL l,.fn (.func f) [] [.pt [.int c]]] [] (.int (idxF p l)) []:=by
 unfold maxLen at hl
 refine z13 z14 Tryz.func165 rfl rfl 19 Tryz.ntmps165 (by simp) ?_
 repeat' (((apply y4 ok;rfl))<;>conv=>whnf)
 refine z110 (fun k:Nat=>([(0,lst 1 encL l),(1,.fn (.func f) [] [.pt [.int c]]),(7,.int l.length),(8,.int k)],[])) (fun k=>k≤l.length∧∀ j (hj:j < l.length),j < k→p l[j]=false) (fun k=>l.length - k) 0 (by simp)
  ⟨[],rfl,by decide,rfl,⟨⟨rfl,rfl⟩,⟨rfl,rfl⟩,⟨rfl,rfl⟩,⟨rfl,rfl⟩,trivial⟩,trivial⟩ ?_
 intro k hk
 repeat' ((first|(apply y4 ok;rfl)|(apply y42;first|omega|(unfold inI;omega))|(((with_reducible apply z11;omega));intro _)|((first|apply z6|apply z101)<;>intro _)|(apply z4 (hf l[k] (y43 _));rfl;rfl))<;>conv=>whnf)
 ·rename_i h h1
  exact z52 rfl rfl (by rw [z170 (by omega) h1 hk.2];rfl)
 ·rename_i h h1
  refine z97 (k+1) [] ⟨by omega,fun j hj hjk=>?_⟩ (by omega) ⟨rfl,by decide,rfl,⟨⟨rfl,rfl⟩,⟨rfl,rfl⟩,⟨rfl,rfl⟩,⟨rfl,rfl⟩,trivial⟩,trivial⟩
  rcases y68 j k with h2|h2
  ·exact hk.2 j hj h2
  ·obtain rfl:j=k:=by omega
   exact h1
 ·exact z52 rfl rfl (by rw [z144 fun j hj=>hk.2 j hj (by omega)];rfl)
theorem z376 (c:Int) (l:List (List Int)) (hl:l.length≤maxLen) (p:(List Int)→Bool) (f:FuncId) (hf:∀ x∈l,CallsA Tryz.prog f [ints x,.pt [.int c]] [] (.bool (p x)) []):CallsA Tryz.prog 88 [lst 1 encL l,.fn (.func f) [] [.pt [.int c]]] [] (.bool (l.any p)) []:=by
 refine z13 z14 Tryz.func88 rfl rfl 9 Tryz.ntmps88 (by simp) ?_
 repeat' ((first|(apply y4 ok;rfl)|(apply z4 (z504 c l hl p f hf);rfl;rfl))<;>conv=>whnf)
 exact z31 rfl (by rw [← z204])
end Go.Proofs.YtahhobgjcfionaaGreat
namespace Go.Proofs.YtahhobgjcfionaaGreat
open Go.Gl
attribute [local irreducible] z18 AWP z34 z39 z38
theorem z813 (l:List Int) (hl:l.length≤maxLen) (v:Int):CallsA Tryz.prog 162 [ints l,.int v] [] (.int (idxF (fun x=>decide (v=x)) l)) []:=by
 unfold maxLen at hl
 refine z13 z14 Tryz.func162 rfl rfl 19 Tryz.ntmps162 (by simp) ?_
 repeat' (((apply y4 ok;rfl))<;>conv=>whnf)
 refine z110 (fun k:Nat=>([(0,ints l),(1,.int v),(7,.int l.length),(8,.int k)],[])) (fun k=>k≤l.length∧∀ j (hj:j < l.length),j < k→decide (v=l[j])=false) (fun k=>l.length - k) 0 (by simp)
  ⟨[],rfl,by decide,rfl,⟨⟨rfl,rfl⟩,⟨rfl,rfl⟩,⟨rfl,rfl⟩,⟨rfl,rfl⟩,trivial⟩,trivial⟩ ?_
 intro k hk
 repeat' ((first|(apply y4 ok;rfl)|(apply y42;first|omega|(unfold inI;omega))|(((with_reducible apply z11;omega));intro _)|((apply z6)<;>intro _))<;>conv=>whnf)
 ·rename_i h h1
  exact z52 rfl rfl (by rw [z170 (p:=fun x=>decide (v=x)) (by omega) (y80 h1) hk.2];rfl)
 ·rename_i h h1
  refine z97 (k+1) [] ⟨by omega,fun j hj hjk=>?_⟩ (by omega) ⟨rfl,by decide,rfl,⟨⟨rfl,rfl⟩,⟨rfl,rfl⟩,⟨rfl,rfl⟩,⟨rfl,rfl⟩,trivial⟩,trivial⟩
  rcases y68 j k with h2|h2
  ·exact hk.2 j hj h2
  ·obtain rfl:j=k:=by omega
   exact y81 h1
 ·exact z52 rfl rfl (by rw [z144 (p:=fun x=>decide (v=x)) fun j hj=>hk.2 j hj (by omega)];rfl)
theorem z163 (l:List Int) (hl:l.length≤maxLen) (v:Int):CallsA Tryz.prog 83 [ints l,.int v] [] (.bool (decide (v∈l))) []:=by
 refine z13 z14 Tryz.func83 rfl rfl 9 Tryz.ntmps83 (by simp) ?_
 repeat' ((first|(apply y4 ok;rfl)|(apply z4 (z813 l hl v);rfl;rfl))<;>conv=>whnf)
 have e:decide (v∈l)=l.any (fun x=>decide (v=x)):=by
  rw [Bool.eq_iff_iff];simp
 exact z31 rfl (by rw [e,← z204])
theorem z289 {α:Type} (w:Nat) (e:α→List AC) (l:List α) (k:Nat) (hk:k≤l.length):AC.list w ((k:Int).toNat - (0:Int).toNat) (((l.map e).drop (0:Int).toNat).take ((k:Int).toNat - (0:Int).toNat))=lst w e (l.take k):=by
 unfold lst
 rw [y47,List.map_take]
 simp only [y75,Int.toNat_zero,Nat.sub_zero,List.drop_zero]
 rw [Nat.min_eq_left hk]
def Distinct (l:List Int) (n:Int) (k:Nat):Prop:=∀ i (h:i < l.length),i < k→(0≤l[i]∧l[i]≤n - 1)∧l[i] ∉ l.take i
noncomputable instance {l:List Int} {n:Int} {k:Nat} : Decidable (Distinct l n k):=Classical.propDecidable _
theorem z820 (l:List Int) (hl:l.length≤maxLen) (n:Int) (h0:0≤n) (h1:n≤maxLen):CallsA Tryz.prog 90 [ints l,.int n] [] (.bool (decide (Distinct l n l.length))) []:=by
 have hl':=hl
 unfold maxLen at hl' h1
 refine z13 z14 Tryz.func90 rfl rfl 27 Tryz.ntmps90 (by simp) ?_
 repeat' (((apply y4 ok;rfl))<;>conv=>whnf)
 refine z110 (fun k:Nat=>([(0,ints l),(1,.int n),(7,ints l),(8,.int l.length),(9,.int k)],[])) (fun k=>k≤l.length∧Distinct l n k) (fun k=>l.length - k) 0 ⟨by omega,fun i h hi=>by omega⟩
  ⟨[],rfl,by decide,rfl,⟨⟨rfl,rfl⟩,⟨rfl,rfl⟩,⟨rfl,rfl⟩,⟨rfl,rfl⟩,⟨rfl,rfl⟩,trivial⟩,trivial⟩ ?_
 intro k hk
 repeat' ((first|(apply y4 ok;rfl)|(apply y42;first|omega|(unfold inI;omega))|(((with_reducible apply z11;omega));intro _)|((first|apply z6|apply z99)<;>intro _)|(apply z4 (z365 l[k] 0 (n - 1));rfl;rfl))<;>conv=>whnf)
 ·rename_i hb
  refine z31 rfl (y81 fun hd=>?_)
  have:=(hd k ‹_› ‹_›).1
  rw [z321] at hb
  exact hb this
 ·rename_i hb
  apply z4 (z163 (l.take k) (by rw [y47];omega) l[k])
  ·show _=[AC.list 1 _ _,_]
   rw [show AC.list 1 (l.take k).length ((l.take k).map enI)=_ from (z289 1 enI l k hk.1).symm]
   rfl
  ·rfl
  conv=>whnf
  repeat' ((first|(apply y4 ok;rfl)|(apply y42;(unfold inI;omega))|((apply z6)<;>intro _))<;>conv=>whnf)
  ·rename_i h2
   exact z31 rfl (y81 fun hd=>(hd k ‹_› ‹_›).2 h2)
  ·rename_i h2
   refine z97 (k+1) [] ⟨by omega,fun i hi hik=>?_⟩ (by omega) ⟨rfl,by decide,rfl,⟨⟨rfl,rfl⟩,⟨rfl,rfl⟩,⟨rfl,rfl⟩,⟨rfl,rfl⟩,⟨rfl,rfl⟩,trivial⟩,trivial⟩
   rcases y68 i k with h3|h3
   ·exact hk.2 i hi h3
   ·obtain rfl:i=k:=by omega
    exact ⟨z160.1 hb,h2⟩
 ·exact z31 rfl (y80 fun i h hi=>hk.2 i h (by omega))
theorem z544 (s:State) (hs:s.mx):CallsA Tryz.prog 86 [z23 State.cs s] [] (.bool (!z387 s.b)) []:=by
 refine z13 z14 Tryz.func86 rfl rfl 7 Tryz.ntmps86 (by simp) ?_
 repeat' (first|(apply y4 ok;rfl;conv=>whnf)|(apply z4 (z997 s.b hs.2);rfl;rfl;conv=>whnf))
 exact z31 rfl rfl
noncomputable def z768 (n:Int) (l:List Int):Bool:=!decide ((l.length:Int)=0) && decide (Distinct l n l.length)
theorem z543 (c:Int) (h0:0≤c) (h1:c≤maxLen) (l:List Int) (hl:l.length≤maxLen):CallsA Tryz.prog 89 [ints l,.pt [.int c]] [] (.bool (!z768 c l)) []:=by
 have hl':=hl
 unfold maxLen at hl'
 refine z13 z14 Tryz.func89 rfl rfl 13 Tryz.ntmps89 (by simp) ?_
 repeat' (first|(apply y4 ok;rfl;conv=>whnf)|(apply z6<;>intro _<;>conv=>whnf)|(apply z4 (z820 l hl c h0 h1);rfl;rfl;conv=>whnf))
 all_goals (refine z31 rfl ?_;first|(unfold z768;simp [*];done)|(unfold z768;simp_all;done))
def Graph.mx (g:Graph):Prop:=State.mxs g.st∧g.nx.length≤maxLen∧∀ l∈g.nx,l.length≤maxLen
noncomputable def z318 (g:Graph):Bool:=btw g.st.length 1 60 && (decide ((g.nx.length:Int)=g.st.length) && (!(g.st.any fun s=>!z387 s.b) && !(g.nx.any fun l=>!z768 g.st.length l)))
theorem z246 (g:Graph) (hg:g.mx):CallsA Tryz.prog 22 [.agg g.cs] [] (.bool (z318 g)) []:=by
 obtain ⟨hs,hn,hm⟩:=hg
 have hl1:=hs.1
 unfold maxLen at hl1
 have k1:=z375 g.st hs.1 (fun s=>!z387 s.b) 86 (fun s hx=>z544 s (hs.2 s hx))
 have k2:=z376 (g.st.length:Int) g.nx hn (fun l=>!z768 g.st.length l) 89 (fun l hx=>z543 _ (by omega) (by unfold maxLen;omega) l (hm l hx))
 refine z13 z14 Tryz.func22 rfl rfl 29 Tryz.ntmps22 (by simp) ?_
 repeat' (first|(apply y4 ok;rfl;conv=>whnf)|(apply z6<;>intro _<;>conv=>whnf)|(apply z99<;>intro _<;>conv=>whnf)|(apply z101<;>intro _<;>conv=>whnf)|(apply z4 (z365 (g.st.length:Int) 1 60);rfl;rfl;conv=>whnf)|(apply z4 (k1);rfl;rfl;conv=>whnf)|(apply z891 [1] (k2);rfl;rfl;rfl;rfl;conv=>whnf))
 all_goals (refine z31 rfl ?_;(unfold z318;simp [*];done))
theorem z374 {d : Int} (l : List Tree) (hl : l.length ≤ maxLen) (p : Tree → Int → Bool) (nx : Tree → Int → Int) (okS : Int → Prop) (hok : ∀ x s, okS s → p x s = false → okS (nx x s)) (f : FuncId) (s : Int) (h0 : okS s)
    (hf:∀ x∈l,∀ s,okS s→CallsA Tryz.prog f [z23 Tree.cs' x,.pt [.int d],.ptr 1 none 0] [.cells 1 [[.int s]],.cells 1 [[.ptr 0 none 0]]] (.bool (p x s)) [.cells 1 [[.int (nx x s)]],.cells 1 [[.ptr 0 none 0]]]) :
    CallsA Tryz.prog 212 [lst 3 Tree.cs' l,.fn (.func f) [] [.pt [.int d],.ptr 1 none 0]] [.cells 1 [[.int s]],.cells 1 [[.ptr 0 none 0]]] (.int (idxS p nx l s 0).1) [.cells 1 [[.int (idxS p nx l s 0).2]],.cells 1 [[.ptr 0 none 0]]]:=by
  unfold maxLen at hl
  refine z13 z14 Tryz.func212 rfl rfl 19 Tryz.ntmps212 (by simp) ?_
  repeat' (((apply y4 ok;rfl))<;>conv=>whnf)
  refine z110 (fun x:Nat×Int=>([(0,lst 3 Tree.cs' l),(1,.fn (.func f) [] [.pt [.int d],.ptr 1 none 0]),(7,.int l.length),(8,.int x.1)],[.cells 1 [[.int x.2]],.cells 1 [[.ptr 0 none 0]]])) (fun x=>x.1≤l.length∧okS x.2∧idxS p nx l s 0=idxS p nx (l.drop x.1) x.2 x.1) (fun x=>l.length - x.1) (0,s) ⟨by omega,h0,rfl⟩
    ⟨[0,1],rfl,by decide,rfl,⟨⟨rfl,rfl⟩,⟨rfl,rfl⟩,⟨rfl,rfl⟩,⟨rfl,rfl⟩,trivial⟩,⟨z22 rfl rfl,z22 rfl rfl,trivial⟩⟩ ?_
  rintro ⟨k,t⟩ ⟨hk1,hk2,hk3⟩
  dsimp only at hk1 hk2 hk3
  repeat' ((first|(apply y4 ok;rfl)|(apply y42;first|omega|(unfold inI;omega))|(((with_reducible apply z11;omega));intro _)|((first|apply z6|apply z101)<;>intro _)|(apply z36 [0,1] [] (hf l[k] (y43 _) t hk2);rfl;rfl;rfl))<;>conv=>whnf)
  · rename_i h hkl h1
    rw [y78 hkl,idxS,if_pos h1] at hk3
    rw [hk3]
    exact z85 [0,1] (by decide) rfl rfl rfl ⟨z22 rfl rfl,z22 rfl rfl,trivial⟩
  · rename_i h hkl h1
    rw [y78 hkl,idxS,if_neg (by rw [h1];simp)] at hk3
    exact z97 (k+1,nx l[k] t) [0,1] ⟨by dsimp only;omega,hok _ _ hk2 h1,hk3⟩ (by dsimp only;omega) ⟨rfl,by decide,rfl,⟨⟨rfl,rfl⟩,⟨rfl,rfl⟩,⟨rfl,rfl⟩,⟨rfl,rfl⟩,trivial⟩,⟨z22 rfl rfl,z22 rfl rfl,trivial⟩⟩
  · rw [y82 (by omega),idxS] at hk3
    rw [hk3]
    exact z85 [0,1] (by decide) rfl rfl rfl ⟨z22 rfl rfl,z22 rfl rfl,trivial⟩
theorem z547 {d : Int} (l : List Tree) (hl : l.length ≤ maxLen) (p : Tree → Int → Bool) (nx : Tree → Int → Int) (okS : Int → Prop) (hok : ∀ x s, okS s → p x s = false → okS (nx x s)) (f : FuncId) (s : Int) (h0 : okS s)
    (hf:∀ x∈l,∀ s,okS s→CallsA Tryz.prog f [z23 Tree.cs' x,.pt [.int d],.ptr 1 none 0] [.cells 1 [[.int s]],.cells 1 [[.ptr 0 none 0]]] (.bool (p x s)) [.cells 1 [[.int (nx x s)]],.cells 1 [[.ptr 0 none 0]]]) :
    CallsA Tryz.prog 152 [lst 3 Tree.cs' l,.fn (.func f) [] [.pt [.int d],.ptr 1 none 0]] [.cells 1 [[.int s]],.cells 1 [[.ptr 0 none 0]]] (.bool (decide (0≤(idxS p nx l s 0).1))) [.cells 1 [[.int (idxS p nx l s 0).2]],.cells 1 [[.ptr 0 none 0]]]:=by
  refine z13 z14 Tryz.func152 rfl rfl 9 Tryz.ntmps152 (by simp) ?_
  repeat' ((first|(apply y4 ok;rfl)|(apply z36 [0,1] [] (z374 (d:=d) l hl p nx okS hok f s h0 hf);rfl;rfl;rfl))<;>conv=>whnf)
  exact z85 [0,1] (by decide) rfl rfl rfl ⟨z22 rfl rfl,z22 rfl rfl,trivial⟩
theorem walk_ok (t:Tree):t.mx→∀ d n:Int,0≤d→d≤100→0≤n→n≤15→CallsA Tryz.prog 249 [z23 Tree.cs' t,.int d,.ptr 0 none 0] [.cells 1 [[.int n]]] (.bool (t.walkE d n).2) [.cells 1 [[.int (t.walkE d n).1]]]:=by
  induction t using y27 with|h t ih=>?_
  intro hm d n hd0 hd1 h0 h1
  rw [y28] at hm
  have hs:=Tree.walkE_spec.1
  have hk:d≤6→n+1≤15→CallsA Tryz.prog 152 [lst 3 Tree.cs' t.kids,.fn (.func 268) [] [.pt [.int d],.ptr 1 none 0]] [.cells 1 [[.int (n+1)]],.cells 1 [[.ptr 0 none 0]]] (.bool (!(Tree.walkEs t.kids (d+1) (n+1)).2)) [.cells 1 [[.int (Tree.walkEs t.kids (d+1) (n+1)).1]],.cells 1 [[.ptr 0 none 0]]]:=by
    intro hd hn
    have h:=z547 (d:=d) t.kids hm.1 (fun x s=>!(x.walkE (d+1) s).2) (fun x s=>(x.walkE (d+1) s).1) (fun s=>0≤s∧s≤15) (fun x s h1 h2=>by
      obtain ⟨a1,a2,a3,a4⟩:=hs x (d+1) s h1.1 h1.2
      have h3:(x.walkE (d+1) s).2=true:=by simpa using h2
      have:=(a1.1 h3).2
      rw [← a2 h3] at this
      exact ⟨by omega,this⟩) 268 (n+1) ⟨by omega,by omega⟩ (fun x hx s h=>by
        have hc:=ih x hx (hm.2 x hx) (d+1) s (by omega) (by omega) h.1 h.2
        refine z13 z14 Tryz.func268 rfl rfl 11 Tryz.ntmps268 (by simp) ?_
        repeat' ((first|(apply y4 ok;rfl)|(apply y42;(unfold inI;omega))|(apply z36 [0] [] hc;rfl;rfl;rfl))<;>conv=>whnf)
        exact z85 [0,1] (by decide) rfl rfl rfl ⟨z22 rfl rfl,z22 rfl rfl,trivial⟩)
    rw [y39 (d+1) t.kids (n+1) 0,Bool.not_not]
    exact h
  have hk2:=fun h1 h2=>by
    have:=hk h1 h2
    unfold lst at this
    rw [← y18] at this
    exact this
  refine z13 z14 Tryz.func249 rfl rfl 55 Tryz.ntmps249 (by simp) ?_
  repeat' ((first|(apply y4 ok;rfl)|(apply y42;(unfold inI;omega))|((first|apply z6|apply z50|apply z99)<;>intro _)|(apply z4 (z365 _ 1 9);rfl;rfl)|(apply z4 (z365 _ 0 3);rfl;rfl)|(apply z4 (z365 _ 0 2);rfl;rfl)|(apply z4 (z365 _ 0 0);rfl;rfl)|(apply z93 [0,3] [2] [] (hk2 (by omega) (by omega));rfl;rfl;rfl;(focus ((repeat' first|exact z15|apply z12)<;>exact z44 rfl rfl));((refine .inr ⟨rfl,?_⟩;repeat' first|exact True.intro|apply y42|exact rfl))))<;>conv=>whnf)
  all_goals first
    | (have e : t.walkE d n = (n + 1, false) := by
        rw [y38,if_neg]
        clear hk hk2 hs ih
        rintro ⟨c1,c2,c3,c4,c5⟩
        try simp only [z321,z160] at *
        unfold z402 at c4
        unfold z307 at c5
        grind
       rw [e]
       exact z85 [0] (by decide) rfl rfl rfl ⟨z22 rfl rfl,trivial⟩)
    | (have e : t.walkE d n = Tree.walkEs t.kids (d + 1) (n + 1) := by
        rw [y38,if_pos]
        clear hk hk2 hs ih
        try simp only [z321,z160] at *
        unfold z402 z307
        grind
       rw [e]
       refine z85 [0] (by decide) rfl rfl ?_ ⟨z22 rfl rfl,trivial⟩
       show AC.raw (.bool (!!_))=_
       rw [Bool.not_not];rfl)
theorem y15 (t:Tree):z23 Tree.cs' t=.agg [.int t.kind,.int t.val,lst 3 Tree.cs' t.kids]:=by
 simp only [z23,Tree.cs',lst,Tree.lst_eq]
theorem z725 (t:Tree) (hm:t.mx):CallsA Tryz.prog 213 [z23 Tree.cs' t] [] (.int (if t.exprB then t.count 6 else 0)) []:=by
 have hk:=walk_ok t hm 1 0 (by omega) (by omega) (by omega) (by omega)
 obtain ⟨_,h2,_,_⟩:=Tree.walkE_spec.1 t 1 0 (by omega) (by omega)
 refine z13 z14 Tryz.func213 rfl rfl 8 Tryz.ntmps213 (by simp) ?_
 repeat' ((first|(apply y4 ok;rfl)|((apply z99)<;>intro _)|(apply z36 [1] [] hk;rfl;rfl;rfl))<;>conv=>whnf)
 ·rename_i h
  exact z52 rfl rfl (by rw [if_neg (by unfold Tree.exprB;rw [h];simp)];rfl)
 ·rename_i h
  have e:=h2 h
  rw [Int.zero_add] at e
  exact z52 rfl rfl (by rw [if_pos (show t.exprB=true from h),show t.count 6=(t.walkE 1 0).1 from e.symm];rfl)
theorem z724 (t:Tree) (hm:t.mx):CallsA Tryz.prog 154 [z23 Tree.cs' t] [] (.bool t.exprB) []:=by
 refine z13 z14 Tryz.func154 rfl rfl 6 Tryz.ntmps154 (by simp) ?_
 repeat' ((first|(apply y4 ok;rfl)|(apply z4 (z725 t hm);rfl;rfl))<;>conv=>whnf)
 refine z31 rfl ?_
 have:=Tree.count_pos.1 t 6
 cases t.exprB
 ·simp
 ·simp;omega
theorem z496 (t:Tree) (hm:t.mx):CallsA Tryz.prog 153 [z23 Tree.cs' t] [] (.bool (!t.exprB)) []:=by
 refine z13 z14 Tryz.func153 rfl rfl 6 Tryz.ntmps153 (by simp) ?_
 repeat' ((first|(apply y4 ok;rfl)|(apply z4 (z724 t hm);rfl;rfl))<;>conv=>whnf)
 exact z31 rfl rfl
def z194 (l:List Tree):Bool:=decide ((l.length:Int)=3) && l.all Tree.exprB
theorem z213 (l:List Tree) (hl:l.length≤maxLen) (hm:∀ t∈l,t.mx):CallsA Tryz.prog 75 [lst 3 Tree.cs' l] [] (.bool (z194 l)) []:=by
 have hk:=z410 l hl (fun t=>!t.exprB) 153 (fun t ht=>z496 t (hm t ht))
 refine z13 z14 Tryz.func75 rfl rfl 11 Tryz.ntmps75 (by simp) ?_
 repeat' ((first|(apply y4 ok;rfl)|((apply z6)<;>intro _)|(apply z4 (hk);rfl;rfl))<;>conv=>whnf)
 ·refine z31 rfl ?_
  rename_i h
  unfold z194
  rw [y80 h,List.all_eq_not_any_not];rfl
 ·refine z31 rfl ?_
  rename_i h
  unfold z194
  rw [y81 h];rfl
theorem z569 (k:Int):CallsA Tryz.prog 266 [.int k] [] (.int (z307 k)) []:=by
 refine z13 z14 Tryz.func266 rfl rfl 15 Tryz.ntmps266 (by simp) ?_
 repeat' ((first|(apply y4 ok;rfl)|((apply z6)<;>intro _))<;>conv=>whnf)
 all_goals (refine z52 rfl rfl ?_;unfold z307;first|(rw [if_pos (by omega)];rfl)|(rw [if_neg (by omega),if_pos (by omega)];rfl)|(rw [if_neg (by omega),if_neg (by omega),if_pos (by omega)];rfl)|(rw [if_neg (by omega),if_neg (by omega),if_neg (by omega)];rfl))
theorem z918 (l:List Tree) (d:Int):Tree.shapes l d=l.all (fun t=>t.shape d):=by
 induction l with
 |nil=>rfl
 |cons t l ih=>simp [Tree.shapes,ih]
theorem z435 (t:Tree) (d:Int):t.shape d=(decide (1≤d∧(t.kids.length:Int)=z307 t.kind∧0≤t.val∧t.val≤z402 t.kind) && t.kids.all fun t=>t.shape (d - 1)):=by
 cases t;simp only [Tree.shape,Tree.kids,Tree.kind,Tree.val,z918];rfl
theorem z947 (t:Tree):t.mx→∀ d:Int,-100≤d→d≤100→CallsA Tryz.prog 246 [z23 Tree.cs' t,.int d] [] (.bool (t.shape d)) []:=by
  induction t using y27 with|h t ih=>?_
  intro hm d h0 h1
  rw [y28] at hm
  have hl:=hm.1
  unfold maxLen at hl
  rw [y15,z435]
  refine z13 z14 Tryz.func246 rfl rfl 49 Tryz.ntmps246 (by simp) ?_
  repeat' ((first|(apply y4 ok;rfl)|(apply z30;kernel_rfl)|((first|apply z6|apply z50)<;>intro _)|(apply z4 (z569 _);rfl;rfl))<;>conv=>whnf)
  all_goals first
    | (refine z31 rfl ?_
       rw [y81]
       · rfl
       · clear ih
         rintro ⟨c1,c2,c3,c4⟩
         unfold z402 at c4
         grind)
    | (have hg : decide (1 ≤ d ∧ (t.kids.length : Int) = z307 t.kind ∧ 0 ≤ t.val ∧ t.val ≤ z402 t.kind) = true := by
         clear ih
         refine y80 ?_
         unfold z402
         grind
       rw [hg,Bool.true_and]
       refine z110 (fun k:Nat=>([(1,.int d),(2,.ptr 0 none 0),(6,.int k)],[.cells 3 [[.int t.kind,.int t.val,lst 3 Tree.cs' t.kids]]])) (fun k=>k≤t.kids.length∧(t.kids.all fun t=>t.shape (d - 1))=(t.kids.drop k).all fun t=>t.shape (d - 1)) (fun k=>t.kids.length - k) 0 ⟨by omega,rfl⟩ ⟨[0],rfl,by decide,rfl,by repeat' (first|exact True.intro|exact ⟨rfl,rfl⟩|apply y42),by repeat' (first|exact True.intro|exact z22 rfl rfl|apply y42)⟩ ?_
       intro k hk
       repeat' ((first|(apply y4 ok;rfl)|(apply y42;first|omega|(unfold inI;omega))|(((with_reducible apply z11;omega));intro _)|((first|apply z6|apply z99)<;>intro _)|(apply z4 (ih t.kids[k] (y43 _) (hm.2 _ (y43 _)) (d - 1) (by omega) (by omega));rfl;rfl))<;>conv=>whnf)
       · rename_i h1
         exact z31 rfl (by rw [hk.2,z147 _ _ _ (by assumption)];simp [h1])
       · rename_i h1
         exact z97 (k+1) [0] ⟨by omega,by rw [hk.2,z147 _ _ _ (by assumption)];simp [h1]⟩ (by omega) ⟨rfl,by decide,rfl,by repeat' (first|exact True.intro|exact ⟨rfl,rfl⟩|apply y42),by repeat' (first|exact True.intro|exact z22 rfl rfl|apply y42)⟩
       · exact z31 rfl (by rw [hk.2,z137 _ _ _ (by omega)]))
theorem z450 (t:Tree) (d:Int):t.count d=if 0 < d then 1+(t.kids.map fun t=>t.count (d - 1)).sum else 1:=by
 have:∀ (l:List Tree) d,Tree.counts l d=(l.map fun t=>t.count d).sum:=by
  intro l d
  induction l with
  |nil=>rfl
  |cons t l ih=>simp [Tree.counts,ih]
 cases t;simp only [Tree.count,Tree.kids,this]
theorem count_le (t:Tree):∀ d n:Nat,t.shape d=true→t.count n≤2 ^ d - 1:=by
 induction t using y27 with|h t ih=>?_
 intro d n h
 rw [z435,y69,decide_eq_true_eq] at h
 obtain ⟨⟨h1,h2,_,_⟩,h3⟩:=h
 rw [y77] at h3
 obtain ⟨d,rfl⟩:∃ e,d=e+1:=⟨d - 1,by omega⟩
 have e:((d+1:Nat):Int) - 1=(d:Nat):=by omega
 rw [e] at h3
 rw [z450]
 have hp:(1:Int)≤2 ^ d:=by exact_mod_cast Nat.one_le_two_pow
 have hq:((2:Int) ^ (d+1))=2 * 2 ^ d:=by rw [Int.pow_succ];omega
 split
 ·rename_i hn
  obtain ⟨n,rfl⟩:∃ e,n=e+1:=⟨n - 1,by omega⟩
  have e:((n+1:Nat):Int) - 1=(n:Nat):=by omega
  rw [e]
  have hl:(t.kids.length:Int)≤2:=by rw [h2];unfold z307;grind
  have hk:∀ u∈t.kids,u.count n≤2 ^ d - 1:=fun u hu=>ih u hu d n (h3 u hu)
  match hkk:t.kids with
  |[]=>simp only [List.map_nil,List.sum_nil];omega
  |[a] =>
   have:=hk a (by simp [hkk])
   simp only [List.map_cons,List.map_nil,List.sum_cons,List.sum_nil];omega
  |[a,b] =>
   have:=hk a (by simp [hkk])
   have:=hk b (by simp [hkk])
   simp only [List.map_cons,List.map_nil,List.sum_cons,List.sum_nil];omega
  |a::b::c::r=>rw [hkk] at hl;simp only [y56] at hl;omega
 ·omega
theorem z434 (f:Tree→Int) (l:List Tree) (k:Nat) (hk:k < l.length):((l.take (k+1)).map f).sum=((l.take k).map f).sum+f l[k]:=by
 rw [y49 hk,y62,List.sum_append];simp
theorem z821 (t:Tree) (e d:Int) (he:e≤50) (hd:0≤d) (h:t.shape e=true):t.count d≤2 ^ 50:=by
 have h1:1≤e:=by
  rw [z435,y69,decide_eq_true_eq] at h;exact h.1.1
 obtain ⟨n,rfl⟩:=Int.eq_ofNat_of_zero_le (show 0≤e by omega)
 obtain ⟨m,rfl⟩:=Int.eq_ofNat_of_zero_le hd
 have h2:=count_le t n m h
 have h4:(2:Int) ^ n≤2 ^ 50:=by exact_mod_cast Nat.pow_le_pow_right (by omega) (by omega)
 omega
theorem z948 (t:Tree):t.mx→∀ e d:Int,e≤50→0≤d→d≤50→t.shape e=true→CallsA Tryz.prog 247 [z23 Tree.cs' t,.int d] [] (.int (t.count d)) []:=by
 induction t using y27 with|h t ih=>?_
 intro hm e d h0 h1 h2 hs
 rw [y28] at hm
 rw [z435,y69,decide_eq_true_eq,y77] at hs
 obtain ⟨⟨hs1,hs2,_,_⟩,hs3⟩:=hs
 have hl:(t.kids.length:Int)≤2:=by rw [hs2];unfold z307;grind
 rw [y15,z450]
 have hb:0 < d→∀ k,k≤t.kids.length→0≤((t.kids.take k).map fun t=>t.count (d - 1)).sum∧((t.kids.take k).map fun t=>t.count (d - 1)).sum≤k * 2 ^ 50:=by
  intro hd k
  induction k with
  |zero=>intro _;simp
  |succ k ihk =>
   intro hk
   have h1:=ihk (by omega)
   rw [z434 _ _ _ (by omega)]
   have h2:=z821 t.kids[k] (e - 1) (d - 1) (by omega) (by omega) (hs3 _ (y43 _))
   have h3:=Tree.count_pos.1 t.kids[k] (d - 1)
   omega
 refine z13 z14 Tryz.func247 rfl rfl 29 Tryz.ntmps247 (by simp) ?_
 repeat' (((apply y4 ok;rfl))<;>conv=>whnf)
 by_cases hd:0 < d
 ·rw [if_pos hd]
  refine z110 (fun k:Nat=>([(1,.int d),(2,.ptr 0 none 0),(5,.int (1+((t.kids.take k).map fun t=>t.count (d - 1)).sum)),(6,.int k)],[.cells 3 [[.int t.kind,.int t.val,lst 3 Tree.cs' t.kids]]])) (fun k=>k≤t.kids.length) (fun k=>t.kids.length - k) 0 (by omega) ⟨[0],rfl,by decide,rfl,by repeat' (first|exact True.intro|exact ⟨rfl,rfl⟩|apply y42),by repeat' (first|exact True.intro|exact z22 rfl rfl|apply y42)⟩ ?_
  intro k hk
  have hbk:=hb hd k hk
  have hbk1:=fun h=>hb hd (k+1) h
  have hss:=fun h=>z434 (fun t=>t.count (d - 1)) t.kids k h
  repeat' ((first|(apply y4 ok;rfl)|(apply y42;first|omega|(unfold inI;omega))|(((with_reducible apply z11;omega));intro _)|((apply z6)<;>intro _)|(apply z4 (ih t.kids[k] (y43 _) (hm.2 _ (y43 _)) (e - 1) (d - 1) (by omega) (by omega) (by omega) (hs3 _ (y43 _)));rfl;rfl))<;>conv=>whnf)
  ·have e1:=hss ‹_›
   have e2:=hbk1 (by omega)
   refine y42 (by unfold inI;omega) ?_
   conv=>whnf
   repeat' ((first|(apply y4 ok;rfl)|(apply y42;(unfold inI;omega)))<;>conv=>whnf)
   exact z97 (k+1) [0] (by omega) (by omega) ⟨rfl,by decide,rfl,⟨⟨rfl,rfl⟩,⟨rfl,rfl⟩,⟨rfl,by rw [e1,← Int.add_assoc];rfl⟩,⟨rfl,rfl⟩,trivial⟩,⟨z22 rfl rfl,trivial⟩⟩
  ·omega
  ·obtain rfl:k=t.kids.length:=by omega
   exact z52 rfl rfl (by rw [y54];rfl)
 ·rw [if_neg hd]
  refine z110 (fun k:Nat=>([(1,.int d),(2,.ptr 0 none 0),(5,.int 1),(6,.int k)],[.cells 3 [[.int t.kind,.int t.val,lst 3 Tree.cs' t.kids]]])) (fun k=>k≤t.kids.length) (fun k=>t.kids.length - k) 0 (by omega) ⟨[0],rfl,by decide,rfl,by repeat' (first|exact True.intro|exact ⟨rfl,rfl⟩|apply y42),by repeat' (first|exact True.intro|exact z22 rfl rfl|apply y42)⟩ ?_
  intro k hk
  repeat' ((first|(apply y4 ok;rfl)|(apply y42;omega)|(((with_reducible apply z11;omega));intro _)|((apply z6)<;>intro _))<;>conv=>whnf)
  ·omega
  ·exact z52 rfl rfl rfl
  ·exact z52 rfl rfl rfl
theorem z131 (t:Tree) (hm:t.mx):CallsA Tryz.prog 210 [z23 Tree.cs' t] [] (.bool t.exprB) []:=by
 rw [y20]
 refine z13 z14 Tryz.func210 rfl rfl 10 Tryz.ntmps210 (by simp) ?_
 repeat' ((first|(apply y4 ok;rfl)|((apply z101)<;>intro _)|(apply z4 (z947 t hm 6 (by omega) (by omega));rfl;rfl)|(apply z4 (z948 t hm 6 6 (by omega) (by omega) (by omega) (by assumption));rfl;rfl))<;>conv=>whnf)
 all_goals (refine z31 rfl ?_;(simp [*];done))
theorem z344 (l:List Tree) (hl:l.length≤maxLen) (hm:∀ t∈l,t.mx):CallsA Tryz.prog 145 [lst 3 Tree.cs' l] [] (.bool (z194 l)) []:=by
 unfold maxLen at hl
 unfold z194
 refine z13 z14 Tryz.func145 rfl rfl 19 Tryz.ntmps145 (by simp) ?_
 repeat' (((apply y4 ok;rfl))<;>conv=>whnf)
 refine z110 (fun k:Nat=>([(0,lst 3 Tree.cs' l),(3,.int k)],[])) (fun k=>k≤l.length∧l.all Tree.exprB=(l.drop k).all Tree.exprB) (fun k=>l.length - k) 0 ⟨by omega,rfl⟩ ⟨[],rfl,by decide,rfl,by repeat' (first|exact True.intro|exact ⟨rfl,rfl⟩|apply y42),by repeat' (exact True.intro)⟩ ?_
 intro k hk
 repeat' ((first|(apply y4 ok;rfl)|(apply y42;first|omega|(unfold inI;omega))|(((with_reducible apply z11;omega));intro _)|((first|apply z6|apply z99)<;>intro _)|(apply z4 (z131 l[k] (hm _ (y43 _)));rfl;rfl))<;>conv=>whnf)
 ·rename_i h1
  exact z31 rfl (by rw [hk.2,z147 _ _ _ (by assumption)];simp [h1])
 ·rename_i h1
  exact z97 (k+1) [] ⟨by omega,by rw [hk.2,z147 _ _ _ (by assumption)];simp [h1]⟩ (by omega) ⟨rfl,by decide,rfl,by repeat' (first|exact True.intro|exact ⟨rfl,rfl⟩|apply y42),by repeat' (exact True.intro)⟩
 ·exact z31 rfl (by rw [hk.2,z137 _ _ _ (by omega),Bool.and_true])
theorem z847 (b:Bool):CallsA Tryz.prog 250 [.bool b] [] (.int (b2i b)) []:=by
 refine z13 z14 Tryz.func250 rfl rfl 4 Tryz.ntmps250 (by simp) ?_
 repeat' ((first|(apply y4 ok;rfl)|((apply z101)<;>intro _))<;>conv=>whnf)
 all_goals (refine z52 rfl rfl ?_;simp only [*];rfl)
theorem z714 (b:Bool):CallsA Tryz.prog 267 [.bool b] [] (.int (b2i b)) []:=by
 refine z13 z14 Tryz.func267 rfl rfl 4 Tryz.ntmps267 (by simp) ?_
 repeat' ((first|(apply y4 ok;rfl)|((apply z101)<;>intro _))<;>conv=>whnf)
 all_goals (refine z52 rfl rfl ?_;simp only [*];rfl)
theorem z573 {t:Tree} (hg:t.good):(∃ x,t=.mk 1 x []∧0≤x∧x≤3)∨(∃ x,t=.mk 2 x []∧0≤x∧x≤2)∨(∃ x a,t=.mk 3 x [a]∧a.good)∨(∃ k x a b,t=.mk k x [a,b]∧4≤k∧k≤9∧a.good∧b.good):=by
 obtain ⟨g1,g2,g3,g4⟩:=y25 hg
 obtain ⟨k,x,l⟩:=t
 simp only [Tree.kind,Tree.val,Tree.kids] at *
 unfold z307 at g1
 unfold z402 at g3
 match l,g1,g4 with
 |[],g1,_ =>
  simp only [y57] at g1
  have:k=1∨k=2:=by grind
  rcases this with rfl|rfl
  ·exact .inl ⟨x,rfl,g2,by grind⟩
  ·exact .inr (.inl ⟨x,rfl,g2,by grind⟩)
 |[a],g1,g4 =>
  simp only [y56,y57] at g1
  have:k=3:=by grind
  subst this
  exact .inr (.inr (.inl ⟨x,a,rfl,g4 a (by simp)⟩))
 |[a,b],g1,g4 =>
  simp only [y56,y57] at g1
  exact .inr (.inr (.inr ⟨k,x,a,b,rfl,by grind,by grind,g4 a (by simp),g4 b (by simp)⟩))
 |a::b::c::r,g1,_=>simp only [y56] at g1;grind
theorem eval_ok (v:List Int) (hv:ValsOk v) (t:Tree):t.good→CallsA Tryz.prog 214 [z23 Tree.cs' t,ints v] [] (.int (t.ev v)) []:=by
 induction t using y27 with|h t ih=>?_
 intro hg
 have hl:=hv.1
 rw [y15]
 rcases z573 hg with ⟨x,rfl,h1,h2⟩|⟨x,rfl,h1,h2⟩|⟨x,a,rfl,h1⟩|⟨k,x,a,b,rfl,h1,h2,h3,h4⟩<;>simp only [Tree.kind,Tree.val,Tree.kids] at *
 ·refine z13 z14 Tryz.func214 rfl rfl 82 Tryz.ntmps214 (by simp) ?_
  repeat' (((apply y4 ok;rfl))<;>conv=>whnf)
  all_goals (exact z52 rfl rfl (by rw [Tree.ev,if_pos rfl];rfl))
 ·refine z13 z14 Tryz.func214 rfl rfl 82 Tryz.ntmps214 (by simp) ?_
  repeat' ((first|(apply y4 ok;rfl)|(apply y42;omega)|(apply z1086;omega;intro _))<;>conv=>whnf)
  refine z52 rfl rfl ?_
  rw [Tree.ev,if_neg (by omega),if_pos rfl,y66,y44 (by omega)];rfl
 ·have ha:=y19 hv a h1
  refine z13 z14 Tryz.func214 rfl rfl 82 Tryz.ntmps214 (by simp) ?_
  repeat' ((first|(apply y4 ok;rfl)|(apply y42;omega)|apply z106|(apply z4 (ih a (by simp) h1);rfl;rfl)|(apply z4 (z847 _);rfl;rfl))<;>conv=>whnf)
  all_goals (refine z52 rfl rfl ?_;rw [Tree.ev,if_neg (by omega),if_neg (by omega)];simp only [Tree.evs];rfl)
 ·have ha:=y19 hv a h3
  have hb:=y19 hv b h4
  refine z13 z14 Tryz.func214 rfl rfl 82 Tryz.ntmps214 (by simp) ?_
  repeat' ((first|(apply y4 ok;rfl)|(apply y42;first|omega|(unfold inI;omega))|(((apply z11;omega));intro _)|apply z106|((first|apply z6|apply z50)<;>intro _)|(apply z4 (ih a (by simp) h3);rfl;rfl)|(apply z4 (ih b (by simp) h4);rfl;rfl)|(apply z4 (z847 _);rfl;rfl))<;>conv=>whnf)
  all_goals try (exfalso;omega)
  all_goals (refine z480 rfl ?_;clear ih;simp only [Tree.ev,Tree.evs,b2i];grind)
theorem z500 (v:List Int) (hv:ValsOk v) (t:Tree):t.good→CallsA Tryz.prog 248 [z23 Tree.cs' t,ints v] [] (.int (t.ev v)) []:=by
 induction t using y27 with|h t ih=>?_
 intro hg
 have hl:=hv.1
 rw [y15]
 rcases z573 hg with ⟨x,rfl,h1,h2⟩|⟨x,rfl,h1,h2⟩|⟨x,a,rfl,h1⟩|⟨k,x,a,b,rfl,h1,h2,h3,h4⟩<;>simp only [Tree.kind,Tree.val,Tree.kids] at *
 ·refine z13 z14 Tryz.func248 rfl rfl 86 Tryz.ntmps248 (by simp) ?_
  repeat' (((apply y4 ok;rfl))<;>conv=>whnf)
  all_goals (exact z52 rfl rfl (by rw [Tree.ev,if_pos rfl];rfl))
 ·refine z13 z14 Tryz.func248 rfl rfl 86 Tryz.ntmps248 (by simp) ?_
  repeat' ((first|(apply y4 ok;rfl)|(apply y42;omega)|(apply z1086;omega;intro _))<;>conv=>whnf)
  refine z52 rfl rfl ?_
  rw [Tree.ev,if_neg (by omega),if_pos rfl,y66,y44 (by omega)];rfl
 ·have ha:=y19 hv a h1
  refine z13 z14 Tryz.func248 rfl rfl 86 Tryz.ntmps248 (by simp) ?_
  repeat' ((first|(apply y4 ok;rfl)|(apply y42;omega)|apply z106|(apply z4 (ih a (by simp) h1);rfl;rfl)|(apply z4 (z714 _);rfl;rfl))<;>conv=>whnf)
  all_goals (refine z52 rfl rfl ?_;rw [Tree.ev,if_neg (by omega),if_neg (by omega)];simp only [Tree.evs];rfl)
 ·have ha:=y19 hv a h3
  have hb:=y19 hv b h4
  refine z13 z14 Tryz.func248 rfl rfl 86 Tryz.ntmps248 (by simp) ?_
  repeat' ((first|(apply y4 ok;rfl)|(apply y42;first|omega|(unfold inI;omega))|(((apply z11;omega));intro _)|apply z106|((first|apply z6|apply z50)<;>intro _)|(apply z4 (ih a (by simp) h3);rfl;rfl)|(apply z4 (ih b (by simp) h4);rfl;rfl)|(apply z4 (z714 _);rfl;rfl))<;>conv=>whnf)
  all_goals try (exfalso;omega)
  all_goals (refine z480 rfl ?_;clear ih;simp only [Tree.ev,Tree.evs,b2i];grind)
def ltr (v:List Int) (l:List Tree) (k n:Nat):Nat:=match l with
 |[]=>n
 |t::r=>ltr v r (k+1) (if t.ev v=0 then n else n ||| 2 ^ k)
theorem z441 (v:List Int) (l:List Tree) (k n:Nat) (h:k < l.length):ltr v (l.drop k) k n=ltr v (l.drop (k+1)) (k+1) (if l[k].ev v=0 then n else n ||| 2 ^ k):=by
 rw [y78 h,ltr]
theorem z1056 (v:List Int) (l:List Tree) (k n:Nat) (h:l.length≤k):ltr v (l.drop k) k n=n:=by
 rw [y82 h,ltr]
def z51 (labels:List Tree) (s:State):Int:=ltr s.b labels 0 0
theorem or_lt {n k:Nat} (h:n < 2 ^ k):n ||| 2 ^ k < 2 ^ (k+1) :=
 Nat.or_lt_two_pow (by rw [Nat.pow_succ];omega) (by rw [Nat.pow_succ];have:=Nat.two_pow_pos k;omega)
def z151 (l:List Tree):Prop:=l.length=3∧∀ t∈l,t.good
theorem y8 {l:List Tree} (h:z194 l=true):z151 l:=by
 simp only [z194,y69,decide_eq_true_eq,y77] at h
 exact ⟨by omega,fun t ht=>y26 (h.2 t ht)⟩
theorem z857 (k:Nat) (hk:k < 3):(1:Int) * 2 ^ ((k:Int).toNat)=((2 ^ k:Nat):Int):=by simp
theorem z353 {k:Nat} (hk:k < 3):2 ^ k≤8∧2 ^ (k+1)≤8∧0 < 2 ^ k:=by
 have:k=0∨k=1∨k=2:=by omega
 rcases this with rfl|rfl|rfl<;>simp
theorem z1059 (s:State) (hv:ValsOk s.b) (l:List Tree) (hl:z151 l):CallsA Tryz.prog 155 [ints s.b,lst 3 Tree.cs' l] [] (.int (z51 l s)) []:=by
 have h3:=hl.1
 refine z13 z14 Tryz.func155 rfl rfl 25 Tryz.ntmps155 (by simp) ?_
 repeat' (((apply y4 ok;rfl))<;>conv=>whnf)
 refine z110 (fun x:Nat×Nat=>([(0,ints s.b),(5,.int x.2),(8,lst 3 Tree.cs' l),(9,.int l.length),(10,.int x.1)],[])) (fun x=>x.1≤l.length∧x.2 < 2 ^ x.1∧ltr s.b l 0 0=ltr s.b (l.drop x.1) x.1 x.2) (fun x=>l.length - x.1) (0,0) ⟨by omega,by decide,rfl⟩ ⟨[],rfl,by decide,rfl,by repeat' (first|exact True.intro|exact ⟨rfl,rfl⟩|apply y42),by repeat' (exact True.intro)⟩ ?_
 rintro ⟨k,n⟩ ⟨hk1,hk2,hk3⟩
 dsimp only at hk1 hk2 hk3
 repeat' ((first|(apply y4 ok;rfl)|(apply y42;first|omega|(unfold inI;omega))|(((with_reducible apply z11;omega));intro _)|((first|apply z6|apply z50)<;>intro _)|(apply z4 (eval_ok s.b hv l[k] (hl.2 _ (y43 _)));rfl;rfl))<;>conv=>whnf)
 ·rename_i hkl h
  have hp:=z353 (show k < 3 by omega)
  have e:=z857 k (by omega)
  refine y42 ⟨by omega,by omega,by rw [e];unfold inI;omega⟩ ?_
  conv=>whnf
  refine y42 (by rw [e];unfold z138;omega) ?_
  conv=>whnf
  repeat' ((first|(apply y4 ok;rfl)|(apply y42;(unfold inI;omega)))<;>conv=>whnf)
  rw [z441 _ _ _ _ hkl,if_neg h] at hk3
  refine z97 (k+1,n ||| 2 ^ k) [] ⟨by dsimp only;omega,or_lt hk2,hk3⟩ (by dsimp only;omega) ⟨rfl,by decide,rfl,⟨⟨rfl,rfl⟩,⟨rfl,?_⟩,⟨rfl,rfl⟩,⟨rfl,rfl⟩,⟨rfl,rfl⟩,trivial⟩,trivial⟩
  show AC.raw (.int .i64 (((n:Int).toNat ||| ((1:Int) * 2 ^ ((k:Int).toNat)).toNat:Nat):Int))=_
  rw [e];rfl
 ·rename_i hkl h
  rw [z441 _ _ _ _ hkl,if_pos h] at hk3
  have:2 ^ k≤2 ^ (k+1):=by rw [Nat.pow_succ];omega
  exact z97 (k+1,n) [] ⟨by dsimp only;omega,by dsimp only;omega,hk3⟩ (by dsimp only;omega) ⟨rfl,by decide,rfl,by repeat' (first|exact True.intro|exact ⟨rfl,rfl⟩|apply y42),by repeat' (exact True.intro)⟩
 ·rw [z1056 _ _ _ _ (by omega)] at hk3
  exact z52 rfl rfl (by unfold z51;rw [hk3];rfl)
theorem z802 (s:State) (hv:ValsOk s.b) (l:List Tree) (hl:z151 l):CallsA Tryz.prog 211 [z23 State.cs s,lst 3 Tree.cs' l] [] (.int (z51 l s)) []:=by
 have h3:=hl.1
 refine z13 z14 Tryz.func211 rfl rfl 27 Tryz.ntmps211 (by simp) ?_
 repeat' (((apply y4 ok;rfl))<;>conv=>whnf)
 refine z110 (fun x:Nat×Nat=>([(1,lst 3 Tree.cs' l),(2,.ptr 0 none 0),(5,.int x.2),(6,.int x.1)],[.cells 2 [[ints s.a,ints s.b]]])) (fun x=>x.1≤l.length∧x.2 < 2 ^ x.1∧ltr s.b l 0 0=ltr s.b (l.drop x.1) x.1 x.2) (fun x=>l.length - x.1) (0,0) ⟨by omega,by decide,rfl⟩ ⟨[0],rfl,by decide,rfl,by repeat' (first|exact True.intro|exact ⟨rfl,rfl⟩|apply y42),by repeat' (first|exact True.intro|exact z22 rfl rfl|apply y42)⟩ ?_
 rintro ⟨k,n⟩ ⟨hk1,hk2,hk3⟩
 dsimp only at hk1 hk2 hk3
 repeat' ((first|(apply y4 ok;rfl)|(apply z30;kernel_rfl)|(apply y42;first|omega|(unfold inI;omega))|(((with_reducible apply z11;omega));intro _)|((first|apply z6|apply z50)<;>intro _)|(apply z4 (z500 s.b hv l[k] (hl.2 _ (y43 _)));rfl;rfl))<;>conv=>whnf)
 ·rename_i hkl h
  have hp:=z353 (show k < 3 by omega)
  have e:=z857 k (by omega)
  refine y42 ?_ ?_
  ·show IntKind.u64.wrap k=k
   have:k=0∨k=1∨k=2:=by dsimp only at hkl;omega
   rcases this with rfl|rfl|rfl<;>rfl
  conv=>whnf
  refine y42 ⟨by omega,by omega,by rw [e];unfold inI;omega⟩ ?_
  conv=>whnf
  refine y42 (by rw [e];unfold z138;omega) ?_
  conv=>whnf
  repeat' ((first|(apply y4 ok;rfl)|(apply y42;(unfold inI;omega)))<;>conv=>whnf)
  rw [z441 _ _ _ _ hkl,if_neg h] at hk3
  refine z97 (k+1,n ||| 2 ^ k) [0] ⟨by dsimp only;omega,or_lt hk2,hk3⟩ (by dsimp only;omega) ⟨rfl,by decide,rfl,⟨⟨rfl,rfl⟩,⟨rfl,rfl⟩,⟨rfl,?_⟩,⟨rfl,rfl⟩,trivial⟩,⟨z22 rfl rfl,trivial⟩⟩
  show AC.raw (.int .i64 (((n:Int).toNat ||| ((1:Int) * 2 ^ ((k:Int).toNat)).toNat:Nat):Int))=_
  rw [e];rfl
 ·rename_i hkl h
  rw [z441 _ _ _ _ hkl,if_pos h] at hk3
  have:2 ^ k≤2 ^ (k+1):=by rw [Nat.pow_succ];omega
  exact z97 (k+1,n) [0] ⟨by dsimp only;omega,by dsimp only;omega,hk3⟩ (by dsimp only;omega) ⟨rfl,by decide,rfl,by repeat' (first|exact True.intro|exact ⟨rfl,rfl⟩|apply y42),by repeat' (first|exact True.intro|exact z22 rfl rfl|apply y42)⟩
 ·rw [z1056 _ _ _ _ (by omega)] at hk3
  exact z52 rfl rfl (by unfold z51;rw [hk3];rfl)
theorem z1065 (g:Graph) (hg:∀ s∈g.st,ValsOk s.b) (hn:g.st.length≤60) (l:List Tree) (hl:z151 l):CallsA Tryz.prog 76 [.agg g.cs,lst 3 Tree.cs' l] [] (.sref 0 0 g.st.length) [.cells 1 (g.st.map fun s=>enI (z51 l s))]:=by
 refine z13 z14 Tryz.func76 rfl rfl 29 Tryz.ntmps76 (by simp) ?_
 repeat' ((first|(apply y4 ok;rfl)|(apply y42;(dsimp only;omega)))<;>conv=>whnf)
 refine z110 (fun k:Nat=>([(1,lst 3 Tree.cs' l),(5,.sref 0 0 g.st.length),(13,lst 2 State.cs g.st),(14,.int g.st.length),(15,.int k)],[.cells 1 ((g.st.take k).map (fun s=>enI (z51 l s))++List.replicate (g.st.length - k) (enI 0))])) (fun k=>k≤g.st.length) (fun k=>g.st.length - k) 0 (by omega) ⟨[1],rfl,by decide,rfl,by repeat' (first|exact True.intro|exact ⟨rfl,rfl⟩|apply y42),by repeat' (first|exact True.intro|exact z68 (by rfl) (by (first|exact z25|exact z78 rfl))|apply y42)⟩ ?_
 intro k hk
 repeat' ((first|(apply y4 ok;rfl)|(apply y42;first|omega|(unfold inI;omega))|(((with_reducible apply z11;omega));intro _)|(apply get_fill;omega)|((apply z6)<;>intro _)|(apply z4 (z1059 g.st[k] (hg _ (y43 _)) l hl);rfl;rfl))<;>conv=>whnf)
 ·rename_i h hkl
  exact z97 (k+1) [0] (by omega) (by omega) ⟨rfl,by decide,rfl,⟨⟨rfl,rfl⟩,⟨rfl,rfl⟩,⟨rfl,rfl⟩,⟨rfl,rfl⟩,⟨rfl,rfl⟩,trivial⟩,⟨obj_fill hkl rfl rfl rfl (fun _=>rfl) rfl,trivial⟩⟩
 ·exact z610 rfl (z5 fun _=>rfl) rfl (fill_end _ _ _ _ (by omega))
theorem z873 (g:Graph) (hg:∀ s∈g.st,ValsOk s.b) (hn:g.st.length≤60) (l:List Tree) (hl:z151 l):CallsA Tryz.prog 76 [.agg g.cs,lst 3 Tree.cs' l] [] (ints (g.st.map (z51 l))) []:=by
 have h:=(z1065 g hg hn l hl).keep (z186 _ _) (by simp)
 unfold ints
 rw [y48,List.map_map]
 exact h
theorem z621 (g:Graph) (hg:∀ s∈g.st,ValsOk s.b) (hn:g.st.length≤60) (l:List Tree) (hl:z151 l):CallsA Tryz.prog 146 [.agg g.cs,lst 3 Tree.cs' l] [] (.sref 0 0 g.st.length) [.cells 1 (g.st.map fun s=>enI (z51 l s))]:=by
 refine z13 z14 Tryz.func146 rfl rfl 26 Tryz.ntmps146 (by simp) ?_
 repeat' (((apply y4 ok;rfl))<;>conv=>whnf)
 refine z110 (fun k:Nat=>([(1,lst 3 Tree.cs' l),(2,.ptr 0 none 0),(5,.sref 1 0 k),(6,.int k)],[.cells 2 [[lst 2 State.cs g.st,lst 1 encL g.nx]],.cells 1 ((g.st.take k).map fun s=>enI (z51 l s))])) (fun k=>k≤g.st.length) (fun k=>g.st.length - k) 0 (by omega) ⟨[0,1],rfl,by decide,rfl,by repeat' (first|exact True.intro|exact ⟨rfl,rfl⟩|apply y42),by repeat' (first|exact True.intro|exact z22 rfl rfl|exact z68 (by rfl) (by (exact z25))|apply y42)⟩ ?_
 intro k hk
 repeat' ((first|(apply y4 ok;rfl)|(apply y42;first|omega|(unfold inI;omega)|((try dsimp only);simp only [y48,y47,y46,y45,y56,y57];omega)|exact ⟨rfl,z20 rfl z28⟩)|(((with_reducible apply z11;omega));intro _)|((apply z6)<;>intro _)|(apply z4 (z802 g.st[k] (hg _ (y43 _)) l hl);rfl;rfl))<;>conv=>whnf)
 ·rename_i h hkl
  exact z97 (k+1) [0,3] (by omega) (by omega) ⟨rfl,by decide,rfl,⟨⟨rfl,rfl⟩,⟨rfl,rfl⟩,⟨rfl,rfl⟩,⟨rfl,rfl⟩,trivial⟩,⟨z22 rfl rfl,obj_app hkl _ rfl rfl rfl (fun _=>rfl),trivial⟩⟩
 ·obtain rfl:k=g.st.length:=by omega
  exact z610 rfl (z5 fun _=>rfl) rfl (by rw [y54])
theorem z703 (g:Graph) (hg:∀ s∈g.st,ValsOk s.b) (hn:g.st.length≤60) (l:List Tree) (hl:z151 l):CallsA Tryz.prog 146 [.agg g.cs,lst 3 Tree.cs' l] [] (ints (g.st.map (z51 l))) []:=by
 have h:=(z621 g hg hn l hl).keep (z186 _ _) (by simp)
 unfold ints
 rw [y48,List.map_map]
 exact h
theorem z713 (l:List Int) (hl:l.length≤maxLen):CallsA Tryz.prog 209 [ints l] [] (.bool (z387 l)) []:=by
 unfold maxLen at hl
 have e:z387 l=(l.all (fun n=>btw n 0 3) && decide ((l.length:Int)=3)):=by
  unfold z387;rw [Bool.and_comm,List.all_eq_not_any_not]
 rw [e]
 refine z13 z14 Tryz.func209 rfl rfl 25 Tryz.ntmps209 (by simp) ?_
 repeat' (((apply y4 ok;rfl))<;>conv=>whnf)
 refine z110 (fun k:Nat=>([(0,ints l),(3,.int k)],[])) (fun k=>k≤l.length∧l.all (fun n=>btw n 0 3)=(l.drop k).all (fun n=>btw n 0 3)) (fun k=>l.length - k) 0 ⟨by omega,rfl⟩ ⟨[],rfl,by decide,rfl,by repeat' (first|exact True.intro|exact ⟨rfl,rfl⟩|apply y42),by repeat' (exact True.intro)⟩ ?_
 intro k hk
 repeat' ((first|(apply y4 ok;rfl)|(apply y42;first|omega|(unfold inI;omega))|(((with_reducible apply z11;omega));intro _)|((apply z6)<;>intro _))<;>conv=>whnf)
 ·refine z31 rfl ?_
  have:btw l[k] 0 3=false:=z321.2 (by omega)
  rw [hk.2,z147 _ _ _ (by assumption),this];rfl
 ·refine z31 rfl ?_
  have:btw l[k] 0 3=false:=z321.2 (by omega)
  rw [hk.2,z147 _ _ _ (by assumption),this];rfl
 ·have:btw l[k] 0 3=true:=z160.2 (by omega)
  exact z97 (k+1) [] ⟨by omega,by rw [hk.2,z147 _ _ _ (by assumption),this];rfl⟩ (by omega) ⟨rfl,by decide,rfl,by repeat' (first|exact True.intro|exact ⟨rfl,rfl⟩|apply y42),by repeat' (exact True.intro)⟩
 ·exact z31 rfl (by rw [hk.2,z137 _ _ _ (by omega),Bool.true_and])
theorem z622 (l:List Int) (hl:l.length≤maxLen) (v:Int):CallsA Tryz.prog 202 [ints l,.int v] [] (.bool (decide (v∈l))) []:=by
 unfold maxLen at hl
 have e:decide (v∈l)=l.any (fun x=>decide (x=v)):=by
  rw [Bool.eq_iff_iff];simp
 rw [e]
 refine z13 z14 Tryz.func202 rfl rfl 18 Tryz.ntmps202 (by simp) ?_
 repeat' (((apply y4 ok;rfl))<;>conv=>whnf)
 refine z110 (fun k:Nat=>([(0,ints l),(1,.int v),(5,.int k)],[])) (fun k=>k≤l.length∧l.any (fun x=>decide (x=v))=(l.drop k).any (fun x=>decide (x=v))) (fun k=>l.length - k) 0 ⟨by omega,rfl⟩ ⟨[],rfl,by decide,rfl,by repeat' (first|exact True.intro|exact ⟨rfl,rfl⟩|apply y42),by repeat' (exact True.intro)⟩ ?_
 intro k hk
 repeat' ((first|(apply y4 ok;rfl)|(apply y42;first|omega|(unfold inI;omega))|(((with_reducible apply z11;omega));intro _)|((apply z6)<;>intro _))<;>conv=>whnf)
 ·rename_i h
  exact z31 rfl (by rw [hk.2,z887 _ _ _ (by assumption),y80 h];rfl)
 ·rename_i h
  exact z97 (k+1) [] ⟨by omega,by rw [hk.2,z887 _ _ _ (by assumption),y81 h];rfl⟩ (by omega) ⟨rfl,by decide,rfl,by repeat' (first|exact True.intro|exact ⟨rfl,rfl⟩|apply y42),by repeat' (exact True.intro)⟩
 ·exact z31 rfl (by rw [hk.2,z730 _ _ _ (by omega)])
theorem Distinct.le {l:List Int} {n:Int} (h:Distinct l n l.length) (h0:0≤n):(l.length:Int)≤n:=by
 have hnd:(l.map Int.toNat).Nodup:=by
  rw [List.nodup_iff_pairwise_ne,List.pairwise_map,List.pairwise_iff_getElem]
  intro i j hi hj hij he
  have h1:=h i hi hi
  have h2:=h j hj hj
  refine h2.2 ?_
  have:l[j]=l[i]:=by omega
  rw [this,List.mem_take_iff_getElem]
  exact ⟨i,by omega,rfl⟩
 have hsub:(l.map Int.toNat) ⊆ List.range n.toNat:=by
  intro x hx
  obtain ⟨y,hy,rfl⟩:=List.mem_map.1 hx
  obtain ⟨i,hi,rfl⟩:=List.mem_iff_getElem.1 hy
  have:=(h i hi hi).1
  rw [y59];omega
 have:=hnd.length_le_of_subset hsub
 simp at this
 omega
def RowOk (g:Graph) (i:Nat):Prop:=∀ (h:i < g.nx.length) (h' : i < g.st.length),1≤g.nx[i].length∧g.nx[i].length≤g.st.length∧z387 g.st[i].b=true∧Distinct g.nx[i] g.st.length g.nx[i].length
def GB (g:Graph):Prop:=(1≤g.st.length∧g.st.length≤60)∧g.nx.length=g.st.length∧∀ i,i < g.nx.length→RowOk g i
theorem z667 {n:Int} {l:List Int} : z768 n l=true↔1≤l.length∧Distinct l n l.length:=by
 unfold z768
 rw [y69,decide_eq_true_eq,Bool.not_eq_true',decide_eq_false_iff_not]
 exact and_congr (by omega) Iff.rfl
theorem z124 (g:Graph):z318 g=true↔GB g:=by
 unfold z318 GB
 simp only [y69,z160,decide_eq_true_eq,Bool.not_eq_true',List.any_eq_false]
 constructor
 ·rintro ⟨h1,h2,h3,h4⟩
  refine ⟨by omega,by omega,fun i hi h h'=>?_⟩
  have h5:=z667.1 (by simpa using h4 _ (y43 h))
  have h6:=h5.2.le (by omega)
  exact ⟨h5.1,by omega,by simpa using h3 _ (y43 h'),h5.2⟩
 ·rintro ⟨h1,h2,h3⟩
  refine ⟨by omega,by omega,fun s hs=>?_,fun l hl=>?_⟩
  ·obtain ⟨i,hi,rfl⟩:=List.mem_iff_getElem.1 hs
   simpa using (h3 i (by omega) (by omega) hi).2.2.1
  ·obtain ⟨i,hi,rfl⟩:=List.mem_iff_getElem.1 hl
   have:=h3 i hi hi (by omega)
   simpa using z667.2 ⟨this.1,this.2.2.2⟩
set_option maxHeartbeats 800000 in
theorem z390 (g:Graph) (hg:g.mx):CallsA Tryz.prog 144 [.agg g.cs] [] (.bool (z318 g)) []:=by
 obtain ⟨hs,hn,hm⟩:=hg
 have hl1:=hs.1
 unfold maxLen at hl1 hn
 have hiff:=z124 g
 refine z13 z14 Tryz.func144 rfl rfl 111 Tryz.ntmps144 (by simp) ?_
 repeat' ((first|(apply y4 ok;rfl)|((first|apply z6|apply z50)<;>intro _))<;>conv=>whnf)
 ·exact z31 rfl (by rw [← y70,hiff];rintro ⟨h1,h2,_⟩;omega)
 ·exact z31 rfl (by rw [← y70,hiff];rintro ⟨h1,h2,_⟩;omega)
 ·exact z31 rfl (by rw [← y70,hiff];rintro ⟨h1,h2,_⟩;omega)
 rename_i b1 b2 b3
 have hne:g.nx.length=g.st.length:=by omega
 refine z110 (fun k:Nat=>([(1,.ptr 0 none 0),(3,.int k)],[.cells 2 [[lst 2 State.cs g.st,lst 1 encL g.nx]]])) (fun k=>k≤g.nx.length∧∀ i,i < k→RowOk g i) (fun k=>g.nx.length - k) 0 ⟨by omega,fun i h=>by omega⟩ ⟨[0],rfl,by decide,rfl,by repeat' (first|exact True.intro|exact ⟨rfl,rfl⟩|apply y42),by repeat' (first|exact True.intro|exact z22 rfl rfl|apply y42)⟩ ?_
 intro k hk
 have bad:k < g.nx.length→¬ RowOk g k→z318 g=false:=fun h1 h2=>by
  rw [← y70,hiff];rintro ⟨_,_,h3⟩;exact h2 (h3 k h1)
 repeat' ((first|(apply y4 ok;rfl)|(apply z30;kernel_rfl)|(apply y42;omega)|(((with_reducible apply z11;omega));intro _)|((first|apply z6|apply z99)<;>intro _)|(apply z4 (z713 _ (hs.2 _ (y43 _)).2);rfl;rfl))<;>conv=>whnf)
 ·refine z31 rfl (bad (by assumption) fun h=>?_)
  have:=h (by assumption) (by omega);omega
 ·refine z31 rfl (bad (by assumption) fun h=>?_)
  have:=h (by assumption) (by omega);omega
 ·rename_i hv
  refine z31 rfl (bad (by assumption) fun h=>?_)
  have:=h (by assumption) (by omega)
  rw [hv] at this;simp at this
 ·rename_i hv
  have hkn:k < g.nx.length:=by assumption
  have hks:k < g.st.length:=by omega
  refine z110 (fun j:Nat=>([(1,.ptr 0 none 0),(3,.int k),(4,.int j)],[.cells 2 [[lst 2 State.cs g.st,lst 1 encL g.nx]]])) (fun j=>j≤g.nx[k].length∧Distinct g.nx[k] g.st.length j) (fun j=>g.nx[k].length - j) 0 ⟨by omega,fun i h hi=>by omega⟩ ⟨[0],rfl,by decide,rfl,by repeat' (first|exact True.intro|exact ⟨rfl,rfl⟩|apply y42),by repeat' (first|exact True.intro|exact z22 rfl rfl|apply y42)⟩ ?_
  intro j hj
  repeat' ((first|(apply y4 ok;rfl)|(apply z30;kernel_rfl)|(apply y42;first|omega|(unfold inI;omega))|(((with_reducible apply z11;omega));intro _)|((apply z6)<;>intro _))<;>conv=>whnf)
  ·refine z31 rfl (bad hkn fun h=>?_)
   have:=((h hkn hks).2.2.2 j (by assumption) (by assumption)).1;omega
  ·refine z31 rfl (bad hkn fun h=>?_)
   have:=((h hkn hks).2.2.2 j (by assumption) (by assumption)).1;omega
  ·apply z4 (z622 (g.nx[k].take j) (by rw [y47];unfold maxLen;omega) g.nx[k][j])
   ·show _=[AC.list 1 _ _,_]
    rw [show AC.list 1 (g.nx[k].take j).length ((g.nx[k].take j).map enI)=_ from (z289 1 enI g.nx[k] j hj.1).symm]
    rfl
   ·rfl
   conv=>whnf
   repeat' ((first|(apply y4 ok;rfl)|(apply z30;kernel_rfl)|(apply y42;(unfold inI;omega))|((apply z6)<;>intro _))<;>conv=>whnf)
   ·rename_i h2
    exact z31 rfl (bad hkn fun h=>((h hkn hks).2.2.2 j (by assumption) (by assumption)).2 h2)
   ·rename_i h2
    refine z97 (j+1) [0] ⟨by omega,fun i hi hik=>?_⟩ (by omega) ⟨rfl,by decide,rfl,by repeat' (first|exact True.intro|exact ⟨rfl,rfl⟩|apply y42),by repeat' (first|exact True.intro|exact z22 rfl rfl|apply y42)⟩
    rcases y68 i j with h3|h3
    ·exact hj.2 i hi h3
    ·obtain rfl:i=j:=by omega
     exact ⟨by omega,h2⟩
  ·refine z97 (k+1) [0] ⟨by omega,fun i hi=>?_⟩ (by omega) ⟨rfl,by decide,rfl,by repeat' (first|exact True.intro|exact ⟨rfl,rfl⟩|apply y42),by repeat' (first|exact True.intro|exact z22 rfl rfl|apply y42)⟩
   rcases y68 i k with h3|h3
   ·exact hk.2 i h3
   ·obtain rfl:i=k:=by omega
    intro _ _
    obtain rfl:j=g.nx[i].length:=by omega
    exact ⟨by omega,by omega,hv,hj.2⟩
 ·exact z31 rfl (by rw [hiff];exact ⟨by omega,hne,fun i hi=>hk.2 i (by omega)⟩)
def Trans.mx (t:Trans):Prop:=inI t.val
def z371 (n:Int) (t:Trans):Prop:=(0≤t.src∧t.src≤n - 1)∧(0≤t.dst∧t.dst≤n - 1)∧(0≤t.care∧t.care≤7)∧0≤t.val∧t.val.toNat &&& t.care.toNat=t.val.toNat
instance {n:Int} {t:Trans} : Decidable (z371 n t):=by unfold z371;infer_instance
def z1101 (n:Int) (t:Trans):Bool:=decide (z371 n t)
theorem z372 {n:Int} {t:Trans} : z1101 n t=true↔z371 n t:=by unfold z1101;exact decide_eq_true_iff
theorem edgeB_no {n:Int} {t:Trans} : z1101 n t=false↔¬ z371 n t:=by rw [← z372,y70]
def IniP (l:List Int) (n:Int) (k:Nat):Prop:=∀ i (h:i < l.length),i < k→(0≤l[i]∧l[i]≤n - 1)∧∀ j (hj:j+1=i),l[j]'(by omega) < l[i]
def AutP (a:Aut):Prop:=(1≤a.acc.length∧a.acc.length≤64)∧a.ed.length≤2048∧IniP a.ini a.acc.length a.ini.length∧∀ e∈a.ed,z371 a.acc.length e
noncomputable instance {a:Aut} : Decidable (AutP a):=Classical.propDecidable _
noncomputable def autB (a:Aut):Bool:=decide (AutP a)
theorem z208 {a:Aut} : autB a=true↔AutP a:=by unfold autB;exact decide_eq_true_iff
theorem z834 {a:Aut} : autB a=false↔¬ AutP a:=by rw [← z208,y70]
theorem IniP.ge {l:List Int} {n:Int} (h:IniP l n l.length):∀ i (hi:i < l.length),(i:Int)≤l[i]:=by
 intro i
 induction i with
 |zero=>intro hi;exact (h 0 hi hi).1.1
 |succ i ih =>
  intro hi
  have h1:=ih (by omega)
  have h2:=(h (i+1) hi hi).2 i rfl
  omega
theorem IniP.le {l:List Int} {n:Int} (h:IniP l n l.length) (h0:0≤n):(l.length:Int)≤n:=by
 rcases Nat.eq_zero_or_pos l.length with e|e
 ·omega
 ·have h1:=h.ge (l.length - 1) (by omega)
  have h2:=(h (l.length - 1) (by omega) (by omega)).1.2
  omega
theorem z979 {v c:Int} (h0:0≤v) (h1:v≤9223372036854775807) (h2:0≤c) (h3:c≤7):(((BitVec.ofNat 64 v.toNat &&& ~~~BitVec.ofNat 64 c.toNat).toNat:Nat):Int)=0↔v.toNat &&& c.toNat=v.toNat:=by
 obtain ⟨v,rfl⟩:=Int.eq_ofNat_of_zero_le h0
 obtain ⟨c,rfl⟩:=Int.eq_ofNat_of_zero_le h2
 simp only [y75]
 have hv:v < 2 ^ 64:=by omega
 have hc:c < 2 ^ 64:=by omega
 have e:∀ x y:BitVec 64,(x &&& ~~~y)=0#64↔x &&& y=x:=by
  intro x y
  constructor
  ·intro h
   apply BitVec.eq_of_getElem_eq
   intro i hi
   have:=congrArg (fun z=>z[i]) h
   simp at this ⊢
   cases hx:x[i]<;>simp_all
  ·intro h
   apply BitVec.eq_of_getElem_eq
   intro i hi
   have:=congrArg (fun z=>z[i]) h
   simp at this ⊢
   cases hx:x[i]<;>simp_all
 have e2:=e (BitVec.ofNat 64 v) (BitVec.ofNat 64 c)
 constructor
 ·intro h
  have h4:(BitVec.ofNat 64 v &&& ~~~BitVec.ofNat 64 c)=0#64:=BitVec.eq_of_toNat_eq (by simpa using h)
  have h5:=congrArg BitVec.toNat (e2.1 h4)
  simpa [BitVec.toNat_and,Nat.mod_eq_of_lt hv,Nat.mod_eq_of_lt hc] using h5
 ·intro h
  have h4:BitVec.ofNat 64 v &&& BitVec.ofNat 64 c=BitVec.ofNat 64 v:=BitVec.eq_of_toNat_eq (by
   simpa [BitVec.toNat_and,Nat.mod_eq_of_lt hv,Nat.mod_eq_of_lt hc] using h)
  have h5:=congrArg BitVec.toNat (e2.2 h4)
  simpa using h5
theorem z975 (n:Int) (h0:0≤n) (h1:n≤maxLen) (t:Trans) (ht:t.mx):CallsA Tryz.prog 158 [z23 Trans.cs t,.pt [.int n]] [] (.bool (!z1101 n t)) []:=by
 unfold Trans.mx inI at ht
 unfold maxLen at h1
 refine z13 z14 Tryz.func158 rfl rfl 37 Tryz.ntmps158 (by simp) ?_
 repeat' (first|(apply y4 ok;rfl;conv=>whnf)|(apply y42;(first|(unfold inI;omega)|(simp only [z160] at *;(unfold z138;omega)));conv=>whnf)|(apply z6<;>intro _<;>conv=>whnf)|(apply z99<;>intro _<;>conv=>whnf)|(apply z4 (z365 _ 0 (n - 1));rfl;rfl;conv=>whnf)|(apply z4 (z365 _ 0 7);rfl;rfl;conv=>whnf))
 all_goals (refine z31 rfl ?_;rw [Bool.eq_iff_iff];simp only [z160,z321,z372,edgeB_no,Bool.not_eq_true',decide_eq_false_iff_not,decide_eq_true_eq,Bool.false_eq_true,iff_false,iff_true] at *;unfold z371)
 all_goals try omega
 all_goals (rw [z979 (by omega) (by omega) (by omega) (by omega)];omega)
theorem takes_ok (t:Trans) (n:Int) (h0:0≤n) (h1:n≤7) (ht:0≤t.care∧t.care≤7):CallsA Tryz.prog 138 [z23 Trans.cs t,.int n] [] (.bool (decide (((n.toNat &&& t.care.toNat:Nat):Int)=t.val))) []:=by
 refine z13 z14 Tryz.func138 rfl rfl 12 Tryz.ntmps138 (by simp) ?_
 repeat' (first|(apply y4 ok;rfl;conv=>whnf)|(apply y42;((unfold z138;omega));conv=>whnf))
 exact z31 rfl rfl
theorem l7On_ok (t:Trans) (n:Int) (h0:0≤n) (h1:n≤7) (ht:0≤t.care∧t.care≤7):CallsA Tryz.prog 167 [z23 Trans.cs t,.int n] [] (.bool (decide (((n.toNat &&& t.care.toNat:Nat):Int)=t.val))) []:=by
 refine z13 z14 Tryz.func167 rfl rfl 12 Tryz.ntmps167 (by simp) ?_
 repeat' (first|(apply y4 ok;rfl;conv=>whnf)|(apply y42;((unfold z138;omega));conv=>whnf))
 exact z31 rfl rfl
def Aut.mx (a:Aut):Prop:=a.ini.length≤maxLen∧a.acc.length≤maxLen∧a.ed.length≤maxLen∧∀ t∈a.ed,t.mx
theorem z430 (c:Int) (l:List Trans) (hl:l.length≤maxLen) (p:Trans→Bool) (f:FuncId) (hf:∀ x∈l,CallsA Tryz.prog f [z23 Trans.cs x,.pt [.int c]] [] (.bool (p x)) []):CallsA Tryz.prog 216 [lst 4 Trans.cs l,.fn (.func f) [] [.pt [.int c]]] [] (.int (idxF p l)) []:=by
 unfold maxLen at hl
 refine z13 z14 Tryz.func216 rfl rfl 19 Tryz.ntmps216 (by simp) ?_
 repeat' ((apply y4 ok;rfl;conv=>whnf))
 refine z110 (fun k:Nat=>([(0,lst 4 Trans.cs l),(1,.fn (.func f) [] [.pt [.int c]]),(7,.int l.length),(8,.int k)],[])) (fun k=>k≤l.length∧∀ j (hj:j < l.length),j < k→p l[j]=false) (fun k=>l.length - k) 0 (by simp)
  ⟨[],rfl,by decide,rfl,⟨⟨rfl,rfl⟩,⟨rfl,rfl⟩,⟨rfl,rfl⟩,⟨rfl,rfl⟩,trivial⟩,trivial⟩ ?_
 intro k hk
 repeat' (first|(apply y4 ok;rfl;conv=>whnf)|(apply y42;(first|omega|(unfold inI;omega));conv=>whnf)|(with_reducible apply z11;omega;intro _;conv=>whnf)|(apply z6<;>intro _<;>conv=>whnf)|(apply z101<;>intro _<;>conv=>whnf)|(apply z4 (hf l[k] (y43 _));rfl;rfl;conv=>whnf))
 ·rename_i h h1
  exact z52 rfl rfl (by rw [z170 (by omega) h1 hk.2];rfl)
 ·rename_i h h1
  refine z97 (k+1) [] ⟨by omega,fun j hj hjk=>?_⟩ (by omega) ⟨rfl,by decide,rfl,⟨⟨rfl,rfl⟩,⟨rfl,rfl⟩,⟨rfl,rfl⟩,⟨rfl,rfl⟩,trivial⟩,trivial⟩
  rcases y68 j k with h2|h2
  ·exact hk.2 j hj h2
  ·obtain rfl:j=k:=by omega
   exact h1
 ·exact z52 rfl rfl (by rw [z144 fun j hj=>hk.2 j hj (by omega)];rfl)
theorem z331 (c:Int) (l:List Trans) (hl:l.length≤maxLen) (p:Trans→Bool) (f:FuncId) (hf:∀ x∈l,CallsA Tryz.prog f [z23 Trans.cs x,.pt [.int c]] [] (.bool (p x)) []):CallsA Tryz.prog 157 [lst 4 Trans.cs l,.fn (.func f) [] [.pt [.int c]]] [] (.bool (l.any p)) []:=by
 refine z13 z14 Tryz.func157 rfl rfl 9 Tryz.ntmps157 (by simp) ?_
 repeat' (first|(apply y4 ok;rfl;conv=>whnf)|(apply z4 (z430 c l hl p f hf);rfl;rfl;conv=>whnf))
 exact z31 rfl (by rw [← z204])
theorem IniP.step {l:List Int} {n:Int} {k:Nat} (h:IniP l n k) (hk:k < l.length) (h1:0≤l[k]∧l[k]≤n - 1) (h2:∀ j (hj:j+1=k),l[j]'(by omega) < l[k]):IniP l n (k+1):=by
 intro i hi hik
 rcases y68 i k with h3|h3
 ·exact h i hi h3
 ·obtain rfl:i=k:=by omega
  exact ⟨h1,h2⟩
def z363 (l:List Int) (k:Nat):Int:=if h:0 < k∧k≤l.length then l[k - 1]'(by omega) else -1
theorem z229 (a:Aut) (ha:a.mx):CallsA Tryz.prog 79 [.agg a.cs] [] (.bool (autB a)) []:=by
 obtain ⟨hi,hc,he,hm⟩:=ha
 have hk:=z331 (a.acc.length:Int) a.ed he (fun t=>!z1101 a.acc.length t) 158 (fun t ht=>z975 _ (by omega) (by omega) t (hm t ht))
 unfold maxLen at hi hc he
 refine z13 z14 Tryz.func79 rfl rfl 41 Tryz.ntmps79 (by simp) ?_
 repeat' ((apply y4 ok;rfl;conv=>whnf))
 refine z110 (fun k:Nat=>([(1,.ptr 0 none 0),(3,.ptr 1 none 0),(4,.int (z363 a.ini k)),(11,lst 1 enI a.ini),(12,.int a.ini.length),(13,.int k)],[.cells 3 [[lst 1 enI a.ini,lst 1 enB a.acc,lst 4 Trans.cs a.ed]],.cells 1 [[.int a.acc.length]]])) (fun k=>k≤a.ini.length∧IniP a.ini a.acc.length k) (fun k=>a.ini.length - k) 0 ⟨by omega,fun i h hi=>by omega⟩ ⟨[0,1],rfl,by decide,rfl,by repeat' (first|exact True.intro|exact ⟨rfl,rfl⟩|apply y42),by repeat' (first|exact True.intro|exact z22 rfl rfl|apply y42)⟩ ?_
 rintro k ⟨hk1,hk2⟩
 have hlast : -1≤z363 a.ini k∧z363 a.ini k≤a.acc.length - 1:=by
  unfold z363
  split
  ·rename_i h
   have:=(hk2 (k - 1) (by omega) (by omega)).1;omega
  ·omega
 repeat' (first|(apply y4 ok;rfl;conv=>whnf)|(apply y42;(first|omega|(unfold inI;omega));conv=>whnf)|(with_reducible apply z11;omega;intro _;conv=>whnf)|(apply z6<;>intro _<;>conv=>whnf)|(apply z99<;>intro _<;>conv=>whnf)|(apply z101<;>intro _<;>conv=>whnf)|(apply z4 (z365 _ (z363 a.ini k+1) _);rfl;rfl;conv=>whnf)|(apply z4 (z365 _ 1 64);rfl;rfl;conv=>whnf)|(apply z891 [1] (hk);rfl;rfl;rfl;rfl;conv=>whnf))
 ·rename_i hkl hb
  refine z31 rfl (z834.2 fun ⟨_,_,h,_⟩=>?_)
  have h1:=h k hkl hkl
  rw [z321] at hb
  refine hb ⟨?_,h1.1.2⟩
  unfold z363
  split
  ·rename_i hp
   have:=h1.2 (k - 1) (by omega);omega
  ·omega
 ·rename_i hkl hb
  rw [z160] at hb
  refine z97 (k+1) [0,1] ⟨by omega,hk2.step hkl (by omega) fun j hj=>?_⟩ (by omega) ⟨rfl,by decide,rfl,⟨⟨rfl,rfl⟩,⟨rfl,rfl⟩,⟨rfl,?_⟩,⟨rfl,rfl⟩,⟨rfl,rfl⟩,⟨rfl,rfl⟩,trivial⟩,⟨z22 rfl rfl,z22 rfl rfl,trivial⟩⟩
  ·subst hj
   have:=hb.1
   unfold z363 at this
   rw [dif_pos (by omega)] at this
   simp only [Nat.add_sub_cancel] at this
   omega
  ·have:z363 a.ini (k+1)=a.ini[k]:=by unfold z363;rw [dif_pos (by omega)];rfl
   rw [this];rfl
 all_goals (have hfull:IniP a.ini a.acc.length a.ini.length:=by (have:k=a.ini.length:=by omega);rw [← this];exact hk2)
 ·rename_i hb hl
  refine z31 rfl ?_
  rw [z160] at hb
  rw [Bool.eq_iff_iff,z208,Bool.not_eq_true',List.any_eq_false]
  constructor
  ·rintro ⟨_,_,_,h⟩ x hx
   simpa using z372.2 (h x hx)
  ·intro h
   exact ⟨by omega,by omega,hfull,fun e he=>z372.1 (by simpa using h e he)⟩
 ·refine z31 rfl (z834.2 fun hh=>?_)
  have:=hh.2.1;omega
 ·rename_i hb
  refine z31 rfl (z834.2 fun hh=>?_)
  have:=hh.1
  rw [z321] at hb;omega
theorem z198 {P:Program} {f:FuncId} {w:Nat} {res:AC} {objs' : List AObj} (hf:z899 P f) (h:∀ a cap,CallsA P f [.raw (.slice a 0 cap)] [] res objs'):CallsA P f [.list w 0 []] [] res objs':=by
 refine ⟨hf,fun G W vs hW hs hv=>?_⟩
 simp only [VL] at hv
 obtain ⟨⟨v,hv1,hv2⟩,_⟩:=hv
 simp only [V] at hv2
 obtain ⟨a,cap,rfl,_⟩:=hv2
 exact (h a cap).2 G W vs hW hs (by simp only [VL];exact ⟨⟨_,hv1,by simp [V]⟩,trivial⟩)
theorem nils_le {w:Nat} : ACle .nils (.list w 0 []):=fun G h v hv=>by
 simp only [V] at hv ⊢
 exact ⟨none,0,hv,y51 _,rfl,.inl trivial⟩
theorem z772 {o off w:Nat} : ACle (.sref o off 0) (.list w 0 []):=fun G h v hv=>by
 simp only [V] at hv ⊢
 obtain ⟨cap,_,⟨rfl,a,rfl⟩|⟨b,size,w',_,_,rfl⟩⟩:=hv
 ·exact ⟨_,_,rfl,y51 _,rfl,.inl trivial⟩
 ·exact ⟨_,_,rfl,y52 _,rfl,.inl trivial⟩
theorem z275 {P : Program} {f : FuncId} {fn : Func} {c : Code} (hf : P.funcs[f]? = some fn) (hb : fn.body = some c) (hn : (fn.name == "runtime.NumGoroutine") = false) : z899 P f := ⟨fn, c, hf, hn, hb⟩
theorem z578 (l:List Int) (hl:l.length≤1048576) (hp:0 < l.length):CallsA Tryz.prog 205 [ints l] [] (.sref 0 0 l.length) [.cells 1 (l.map enI)]:=by
 refine z13 z14 Tryz.func205 rfl rfl 8 Tryz.ntmps205 (by simp) ?_
 repeat' (first|(apply y4 ok;rfl;conv=>whnf)|(apply y42;(first|omega|(dsimp only;omega)|exact z130 (fun _=>rfl));conv=>whnf))
 exact z100 rfl (z5 fun _=>rfl) (Nat.zero_add _) rfl rfl
theorem z824 (l:List Int) (hl:l.length≤1048576):CallsA Tryz.prog 205 [ints l] [] (ints l) []:=by
 by_cases hp:0 < l.length
 ·have h:=(z578 l hl hp).keep (z186 _ _) (by simp)
  exact h
 ·obtain rfl:l=[]:=y72 (by omega)
  refine z198 (z275 Tryz.func205 rfl (by rfl)) fun ad cap=>?_
  refine z13 z14 Tryz.func205 rfl rfl 8 Tryz.ntmps205 (by simp) ?_
  repeat' (first|(apply y4 ok;rfl;conv=>whnf)|(apply y42;(omega);conv=>whnf)|(apply z101<;>intro _<;>conv=>whnf))
  ·exact z864 rfl rfl nils_le
  ·exact z864 rfl rfl z772
theorem z965 (l:List Int) (hl:l.length≤1048576):CallsA Tryz.prog 204 [ints l] [] (ints l) []:=by
 refine z13 z14 Tryz.func204 rfl rfl 9 Tryz.ntmps204 (by simp) ?_
 repeat' (first|(apply y4 ok;rfl;conv=>whnf)|(apply y42;(omega);conv=>whnf))
 refine z52 rfl rfl ?_
 show AC.list 1 _ _=ints l
 rw [show AC.list 1 ((l.length:Int).toNat - (0:Int).toNat) (((l.map enI).drop (0:Int).toNat).take ((l.length:Int).toNat - (0:Int).toNat))=_ from z289 1 enI l l.length (y51 _),y54]
 rfl
theorem z719 (l:List Int) (hl:l.length≤1048576):CallsA Tryz.prog 139 [ints l] [] (ints l) []:=by
 refine z13 z14 Tryz.func139 rfl rfl 6 Tryz.ntmps139 (by simp) ?_
 repeat' (first|(apply y4 ok;rfl;conv=>whnf)|(apply z4 (z824 l hl);rfl;rfl;conv=>whnf)|(apply z4 (z965 l hl);rfl;rfl;conv=>whnf))
 exact z52 rfl rfl rfl
theorem z1001 {x x' y:AC} (h:ACle x x'):ACle (.tup [x,y]) (.tup [x',y]):=fun G hh v hv=>by
 simp only [V,VL] at hv ⊢
 obtain ⟨c,rfl,hc,⟨v1,h1,h2⟩,h3,_⟩:=hv
 exact ⟨c,rfl,hc,⟨v1,h1,h _ _ _ h2⟩,h3,trivial⟩
noncomputable def glB (g:Graph) (l:List Tree):Bool:=z318 g && z194 l
theorem z661 {l:List Int} (h:z387 l=true):ValsOk l:=by
 unfold z387 at h
 rw [y69,decide_eq_true_eq,Bool.not_eq_true',List.any_eq_false] at h
 exact ⟨by omega,fun x hx=>by simpa [z160] using h.2 x hx⟩
theorem GB.vals {g:Graph} (h:GB g):∀ s∈g.st,ValsOk s.b:=fun s hs=>by
 obtain ⟨i,hi,rfl⟩:=List.mem_iff_getElem.1 hs
 exact z661 (h.2.2 i (by have:=h.2.1;omega) (by have:=h.2.1;omega) hi).2.2.1
def Lmx (l:List Tree):Prop:=l.length≤maxLen∧∀ t∈l,t.mx
theorem z389 (g:Graph) (hg:g.mx) (l:List Tree) (hl:Lmx l):CallsA Tryz.prog 72 [.agg g.cs,lst 3 Tree.cs' l] [] (.tup [ints (if glB g l then g.st.map (z51 l) else []),.bool (glB g l)]) []:=by
 refine z13 z14 Tryz.func72 rfl rfl 18 Tryz.ntmps72 (by simp) ?_
 have k1:=z390 g hg
 have k2:=z344 l hl.1 hl.2
 have k3:=fun (h1:z318 g=true) (h2:z194 l=true)=>z703 g ((z124 g).1 h1).vals ((z124 g).1 h1).1.2 l (y8 h2)
 repeat' (first|(apply y4 ok;rfl;conv=>whnf)|(apply z99<;>intro _<;>conv=>whnf)|(apply z4 (k1);rfl;rfl;conv=>whnf)|(apply z4 (k2);rfl;rfl;conv=>whnf)|(apply z4 (k3 (by assumption) (by assumption));rfl;rfl;conv=>whnf))
 ·rename_i h
  have e:glB g l=false:=by unfold glB;rw [h];rfl
  rw [e]
  exact z864 rfl rfl (z1001 z772)
 ·rename_i h1 h2
  have e:glB g l=false:=by unfold glB;rw [h1,h2];rfl
  rw [e]
  exact z864 rfl rfl (z1001 z772)
 ·rename_i h1 h2
  have e:glB g l=true:=by unfold glB;rw [h1,h2];rfl
  rw [e]
  exact z52 rfl rfl rfl
theorem z966 (g:Graph) (hg:g.mx) (l:List Tree) (hl:Lmx l) (a:Aut) (ha:a.mx):CallsA Tryz.prog 67 [.agg g.cs,lst 3 Tree.cs' l,.agg a.cs] [] (.bool (glB g l && autB a)) []:=by
 refine z13 z14 Tryz.func67 rfl rfl 17 Tryz.ntmps67 (by simp) ?_
 repeat' (first|(apply y4 ok;rfl;conv=>whnf)|(apply z101<;>intro _<;>conv=>whnf)|(apply z4 (z246 g hg);rfl;rfl;conv=>whnf)|(apply z4 (z213 l hl.1 hl.2);rfl;rfl;conv=>whnf)|(apply z4 (z229 a ha);rfl;rfl;conv=>whnf))
 all_goals (refine z31 rfl ?_;(unfold glB;simp [*];done))
theorem z154 (l:List (List Int)):z62 (l.map z82)=l.map encL:=by
 rw [z183,List.map_map]
 refine List.map_congr_left fun r _=>?_
 show [AC.list 1 _ (z62 _)]=_
 rw [z186]
 simp [encL,ints,enI]
theorem z960 (l:List Bool):z62 (l.map enB)=l.map enB:=z186 (fun b=>Value.bool b) l
theorem z972 {objs:Nat→AObj} {π Bn:List Nat} {o n:Nat} {l:List Bool} (ho:objs o=.cells 1 (l.map enB)) (h1:idx π o=none) (h2:inB Bn o=true) (hl:l.length=n):bor objs π Bn (.sref o 0 n)=lst 1 enB l:=by
 subst hl;exact z182 ho h1 h2 (by simp) (z960 _)
theorem z1118 {objs:Nat→AObj} {π Bn:List Nat} {o:Nat} {l:List Bool} (ho:objs o=.cells 1 (l.map enB)) (h1:idx π o=none) (h2:inB Bn o=true):bor objs π Bn (.sref o 0 l.length)=lst 1 enB l :=
 z972 ho h1 h2 rfl
end Go.Proofs.YtahhobgjcfionaaGreat
