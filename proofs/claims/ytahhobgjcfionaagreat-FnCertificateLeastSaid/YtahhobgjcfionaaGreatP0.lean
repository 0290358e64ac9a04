/- A part of the proofs over this program: Tab, T3, T200, T4, T5, T6, T7, T8, T9, T10, T11, T12, T13, T15, T16, T17, T18, T19, T20, T21. -/
import Derived.Test.YtahhobgjcfionaaGreatG0
import Derived.Test.YtahhobgjcfionaaGreatG1
import Derived.Test.YtahhobgjcfionaaGreatG2
import Derived.Test.YtahhobgjcfionaaGreatG3
import Derived.Test.YtahhobgjcfionaaGreatProg
import Derived.KernelRfl
set_option linter.all false
namespace Go.Proofs.YtahhobgjcfionaaGreat
open Go.Gl
def tabL:List (Nat×TyI):=[
 (3,⟨.int .i64,1,8,.int .i64 0⟩),
 (28,⟨.slice 3,1,24,.slice none 0 0⟩),
 (76, ⟨.struct #[{ name := "Kind", type := 3, offset := 0, embedded := false, tag := "", pkgPath := "", byteOffset := 0 }, { name := "Atom", type := 3, offset := 1, embedded := false, tag := "", pkgPath := "", byteOffset := 8 }, { name := "Kids", type := 74, offset := 2, embedded := false, tag := "", pkgPath := "", byteOffset := 16 }], 3, 40, .agg #[.int .i64 0, .int .i64 0, .slice none 0 0]⟩),
 (32, ⟨.struct #[{ name := "Initial", type := 28, offset := 0, embedded := false, tag := "", pkgPath := "", byteOffset := 0 }, { name := "Accepting", type := 29, offset := 1, embedded := false, tag := "", pkgPath := "", byteOffset := 24 }, { name := "Edges", type := 30, offset := 2, embedded := false, tag := "", pkgPath := "", byteOffset := 48 }], 3, 72, .agg #[.slice none 0 0, .slice none 0 0, .slice none 0 0]⟩),
 (26, ⟨.struct #[{ name := "States", type := 23, offset := 0, embedded := false, tag := "", pkgPath := "", byteOffset := 0 }, { name := "Next", type := 24, offset := 1, embedded := false, tag := "", pkgPath := "", byteOffset := 24 }], 2, 48, .agg #[.slice none 0 0, .slice none 0 0]⟩),
 (74,⟨.slice 76,1,24,.slice none 0 0⟩),
 (158, ⟨.struct #[{ name := "Kind", type := 3, offset := 0, embedded := false, tag := "", pkgPath := "", byteOffset := 0 }, { name := "Value", type := 3, offset := 1, embedded := false, tag := "", pkgPath := "", byteOffset := 8 }, { name := "Kids", type := 27, offset := 2, embedded := false, tag := "", pkgPath := "", byteOffset := 16 }], 3, 40, .agg #[.int .i64 0, .int .i64 0, .slice none 0 0]⟩),
 (24,⟨.slice 28,1,24,.slice none 0 0⟩),
 (50, ⟨.struct #[{ name := "Ranks", type := 28, offset := 0, embedded := false, tag := "", pkgPath := "", byteOffset := 0 }], 1, 24, .agg #[.slice none 0 0]⟩),
 (36, ⟨.struct #[{ name := "Stem", type := 28, offset := 0, embedded := false, tag := "", pkgPath := "", byteOffset := 0 }, { name := "Loop", type := 28, offset := 1, embedded := false, tag := "", pkgPath := "", byteOffset := 24 }], 2, 48, .agg #[.slice none 0 0, .slice none 0 0]⟩),
 (29,⟨.slice 4,1,24,.slice none 0 0⟩),
 (23,⟨.slice 126,1,24,.slice none 0 0⟩),
 (30,⟨.slice 146,1,24,.slice none 0 0⟩),
 (27,⟨.slice 158,1,24,.slice none 0 0⟩),
 (126, ⟨.struct #[{ name := "Locs", type := 28, offset := 0, embedded := false, tag := "", pkgPath := "", byteOffset := 0 }, { name := "Vals", type := 28, offset := 1, embedded := false, tag := "", pkgPath := "", byteOffset := 24 }], 2, 48, .agg #[.slice none 0 0, .slice none 0 0]⟩),
 (4,⟨.bool,1,1,.bool false⟩),
 (146, ⟨.struct #[{ name := "From", type := 3, offset := 0, embedded := false, tag := "", pkgPath := "", byteOffset := 0 }, { name := "Care", type := 3, offset := 1, embedded := false, tag := "", pkgPath := "", byteOffset := 8 }, { name := "Value", type := 3, offset := 2, embedded := false, tag := "", pkgPath := "", byteOffset := 16 }, { name := "To", type := 3, offset := 3, embedded := false, tag := "", pkgPath := "", byteOffset := 24 }], 4, 32, .agg #[.int .i64 0, .int .i64 0, .int .i64 0, .int .i64 0]⟩),
 (242, ⟨.struct #[{ name := "From", type := 3, offset := 0, embedded := false, tag := "", pkgPath := "", byteOffset := 0 }, { name := "To", type := 3, offset := 1, embedded := false, tag := "", pkgPath := "", byteOffset := 8 }, { name := "Guard", type := 158, offset := 2, embedded := false, tag := "", pkgPath := "", byteOffset := 16 }, { name := "Var", type := 3, offset := 5, embedded := false, tag := "", pkgPath := "", byteOffset := 56 }, { name := "Value", type := 158, offset := 6, embedded := false, tag := "", pkgPath := "", byteOffset := 64 }, { name := "Sync", type := 3, offset := 9, embedded := false, tag := "", pkgPath := "", byteOffset := 104 }], 10, 112, .agg #[.int .i64 0, .int .i64 0, .int .i64 0, .int .i64 0, .slice none 0 0, .int .i64 0, .int .i64 0, .int .i64 0, .slice none 0 0, .int .i64 0]⟩),
 (22,⟨.slice 5,1,24,.slice none 0 0⟩),
 (179,⟨.slice 240,1,24,.slice none 0 0⟩),
 (40, ⟨.struct #[{ name := "Stem", type := 28, offset := 0, embedded := false, tag := "", pkgPath := "", byteOffset := 0 }, { name := "Loop", type := 28, offset := 1, embedded := false, tag := "", pkgPath := "", byteOffset := 24 }], 2, 48, .agg #[.slice none 0 0, .slice none 0 0]⟩),
 (181, ⟨.struct #[{ name := "Init", type := 28, offset := 0, embedded := false, tag := "", pkgPath := "", byteOffset := 0 }, { name := "Processes", type := 179, offset := 1, embedded := false, tag := "", pkgPath := "", byteOffset := 24 }], 2, 48, .agg #[.slice none 0 0, .slice none 0 0]⟩),
 (238,⟨.slice 242,1,24,.slice none 0 0⟩),
 (240, ⟨.struct #[{ name := "Locations", type := 3, offset := 0, embedded := false, tag := "", pkgPath := "", byteOffset := 0 }, { name := "Edges", type := 238, offset := 1, embedded := false, tag := "", pkgPath := "", byteOffset := 8 }], 2, 32, .agg #[.int .i64 0, .slice none 0 0]⟩),
 (65, ⟨.struct #[{ name := "Kind", type := 3, offset := 0, embedded := false, tag := "", pkgPath := "", byteOffset := 0 }, { name := "Atom", type := 3, offset := 1, embedded := false, tag := "", pkgPath := "", byteOffset := 8 }, { name := "Kids", type := 63, offset := 2, embedded := false, tag := "", pkgPath := "", byteOffset := 16 }], 3, 40, .agg #[.int .i64 0, .int .i64 0, .slice none 0 0]⟩),
 (254,⟨.slice 256,1,24,.slice none 0 0⟩),
 (61, ⟨.struct #[{ name := "States", type := 59, offset := 0, embedded := false, tag := "", pkgPath := "", byteOffset := 0 }, { name := "Next", type := 24, offset := 1, embedded := false, tag := "", pkgPath := "", byteOffset := 24 }], 2, 48, .agg #[.slice none 0 0, .slice none 0 0]⟩),
 (256, ⟨.struct #[{ name := "set", type := 3, offset := 0, embedded := false, tag := "", pkgPath := "loop.example/ltlcheck/impl", byteOffset := 0 }, { name := "phase", type := 3, offset := 1, embedded := false, tag := "", pkgPath := "loop.example/ltlcheck/impl", byteOffset := 8 }], 2, 16, .agg #[.int .i64 0, .int .i64 0]⟩),
 (232,⟨.slice 236,1,24,.slice none 0 0⟩),
 (172, ⟨.struct #[{ name := "b", type := 22, offset := 0, embedded := false, tag := "", pkgPath := "loop.example/ltlcheck/spec", byteOffset := 0 }, { name := "p", type := 3, offset := 1, embedded := false, tag := "", pkgPath := "loop.example/ltlcheck/spec", byteOffset := 24 }], 2, 32, .agg #[.slice none 0 0, .int .i64 0]⟩),
 (253, ⟨.struct #[{ name := "basics", type := 74, offset := 0, embedded := false, tag := "", pkgPath := "loop.example/ltlcheck/impl", byteOffset := 0 }, { name := "untils", type := 28, offset := 1, embedded := false, tag := "", pkgPath := "loop.example/ltlcheck/impl", byteOffset := 24 }], 2, 48, .agg #[.slice none 0 0, .slice none 0 0]⟩),
 (5,⟨.int .u8,1,1,.int .u8 0⟩),
 (236, ⟨.struct #[{ name := "Process", type := 3, offset := 0, embedded := false, tag := "", pkgPath := "", byteOffset := 0 }, { name := "Edge", type := 3, offset := 1, embedded := false, tag := "", pkgPath := "", byteOffset := 8 }, { name := "Partner", type := 3, offset := 2, embedded := false, tag := "", pkgPath := "", byteOffset := 16 }, { name := "PartnerEdge", type := 3, offset := 3, embedded := false, tag := "", pkgPath := "", byteOffset := 24 }], 4, 32, .agg #[.int .i64 0, .int .i64 0, .int .i64 0, .int .i64 0]⟩),
 (59,⟨.slice 207,1,24,.slice none 0 0⟩),
 (62,⟨.slice 151,1,24,.slice none 0 0⟩),
 (63,⟨.slice 65,1,24,.slice none 0 0⟩),
 (251,⟨.pointer 253,1,8,.pointer none⟩),
 (277,⟨.map 256 3,1,8,.map none⟩),
 (281, ⟨.struct #[{ name := "care", type := 3, offset := 0, embedded := false, tag := "", pkgPath := "loop.example/ltlcheck/impl", byteOffset := 0 }, { name := "value", type := 3, offset := 1, embedded := false, tag := "", pkgPath := "loop.example/ltlcheck/impl", byteOffset := 8 }, { name := "to", type := 256, offset := 2, embedded := false, tag := "", pkgPath := "loop.example/ltlcheck/impl", byteOffset := 16 }], 4, 32, .agg #[.int .i64 0, .int .i64 0, .int .i64 0, .int .i64 0]⟩),
 (66, ⟨.struct #[{ name := "Ranks", type := 28, offset := 0, embedded := false, tag := "", pkgPath := "", byteOffset := 0 }], 1, 24, .agg #[.slice none 0 0]⟩),
 (151, ⟨.struct #[{ name := "Kind", type := 3, offset := 0, embedded := false, tag := "", pkgPath := "", byteOffset := 0 }, { name := "Value", type := 3, offset := 1, embedded := false, tag := "", pkgPath := "", byteOffset := 8 }, { name := "Kids", type := 62, offset := 2, embedded := false, tag := "", pkgPath := "", byteOffset := 16 }], 3, 40, .agg #[.int .i64 0, .int .i64 0, .slice none 0 0]⟩),
 (207, ⟨.struct #[{ name := "Locs", type := 28, offset := 0, embedded := false, tag := "", pkgPath := "", byteOffset := 0 }, { name := "Vals", type := 28, offset := 1, embedded := false, tag := "", pkgPath := "", byteOffset := 24 }], 2, 48, .agg #[.slice none 0 0, .slice none 0 0]⟩),
 (261,⟨.pointer 3,1,8,.pointer none⟩),
 (218,⟨.int .u64,1,8,.int .u64 0⟩),
 (270,⟨.map 3 3,1,8,.map none⟩),
 (279,⟨.slice 281,1,24,.slice none 0 0⟩),
 (183,⟨.slice 30,1,24,.slice none 0 0⟩),
 (201,⟨.func #[3] #[] false,1,8,.nilFunc⟩),
 (290,⟨.func #[76] #[] false,1,8,.nilFunc⟩)]
def tab:Tab:=z710 tabL
theorem inf3:(Tryz.prog.info? 3).map (fun j=>(j.zero,j.size,j.bytes))=some (some (.int .i64 0),1,8):=by kernel_rfl
theorem inf28:(Tryz.prog.info? 28).map (fun j=>(j.zero,j.size,j.bytes))=some (some (.slice none 0 0),1,24):=by kernel_rfl
theorem inf76:(Tryz.prog.info? 76).map (fun j=>(j.zero,j.size,j.bytes))=some (some (.agg #[.int .i64 0,.int .i64 0,.slice none 0 0]),3,40):=by kernel_rfl
theorem inf32:(Tryz.prog.info? 32).map (fun j=>(j.zero,j.size,j.bytes))=some (some (.agg #[.slice none 0 0,.slice none 0 0,.slice none 0 0]),3,72):=by kernel_rfl
theorem inf26:(Tryz.prog.info? 26).map (fun j=>(j.zero,j.size,j.bytes))=some (some (.agg #[.slice none 0 0,.slice none 0 0]),2,48):=by kernel_rfl
theorem inf74:(Tryz.prog.info? 74).map (fun j=>(j.zero,j.size,j.bytes))=some (some (.slice none 0 0),1,24):=by kernel_rfl
theorem inf158:(Tryz.prog.info? 158).map (fun j=>(j.zero,j.size,j.bytes))=some (some (.agg #[.int .i64 0,.int .i64 0,.slice none 0 0]),3,40):=by kernel_rfl
theorem inf24:(Tryz.prog.info? 24).map (fun j=>(j.zero,j.size,j.bytes))=some (some (.slice none 0 0),1,24):=by kernel_rfl
theorem inf50:(Tryz.prog.info? 50).map (fun j=>(j.zero,j.size,j.bytes))=some (some (.agg #[.slice none 0 0]),1,24):=by kernel_rfl
theorem inf36:(Tryz.prog.info? 36).map (fun j=>(j.zero,j.size,j.bytes))=some (some (.agg #[.slice none 0 0,.slice none 0 0]),2,48):=by kernel_rfl
theorem inf29:(Tryz.prog.info? 29).map (fun j=>(j.zero,j.size,j.bytes))=some (some (.slice none 0 0),1,24):=by kernel_rfl
theorem inf23:(Tryz.prog.info? 23).map (fun j=>(j.zero,j.size,j.bytes))=some (some (.slice none 0 0),1,24):=by kernel_rfl
theorem inf30:(Tryz.prog.info? 30).map (fun j=>(j.zero,j.size,j.bytes))=some (some (.slice none 0 0),1,24):=by kernel_rfl
theorem inf27:(Tryz.prog.info? 27).map (fun j=>(j.zero,j.size,j.bytes))=some (some (.slice none 0 0),1,24):=by kernel_rfl
theorem inf126:(Tryz.prog.info? 126).map (fun j=>(j.zero,j.size,j.bytes))=some (some (.agg #[.slice none 0 0,.slice none 0 0]),2,48):=by kernel_rfl
theorem inf4:(Tryz.prog.info? 4).map (fun j=>(j.zero,j.size,j.bytes))=some (some (.bool false),1,1):=by kernel_rfl
theorem inf146:(Tryz.prog.info? 146).map (fun j=>(j.zero,j.size,j.bytes))=some (some (.agg #[.int .i64 0,.int .i64 0,.int .i64 0,.int .i64 0]),4,32):=by kernel_rfl
theorem inf242:(Tryz.prog.info? 242).map (fun j=>(j.zero,j.size,j.bytes))=some (some (.agg #[.int .i64 0,.int .i64 0,.int .i64 0,.int .i64 0,.slice none 0 0,.int .i64 0,.int .i64 0,.int .i64 0,.slice none 0 0,.int .i64 0]),10,112):=by kernel_rfl
theorem inf22:(Tryz.prog.info? 22).map (fun j=>(j.zero,j.size,j.bytes))=some (some (.slice none 0 0),1,24):=by kernel_rfl
theorem inf179:(Tryz.prog.info? 179).map (fun j=>(j.zero,j.size,j.bytes))=some (some (.slice none 0 0),1,24):=by kernel_rfl
theorem inf40:(Tryz.prog.info? 40).map (fun j=>(j.zero,j.size,j.bytes))=some (some (.agg #[.slice none 0 0,.slice none 0 0]),2,48):=by kernel_rfl
theorem inf181:(Tryz.prog.info? 181).map (fun j=>(j.zero,j.size,j.bytes))=some (some (.agg #[.slice none 0 0,.slice none 0 0]),2,48):=by kernel_rfl
theorem inf238:(Tryz.prog.info? 238).map (fun j=>(j.zero,j.size,j.bytes))=some (some (.slice none 0 0),1,24):=by kernel_rfl
theorem inf240:(Tryz.prog.info? 240).map (fun j=>(j.zero,j.size,j.bytes))=some (some (.agg #[.int .i64 0,.slice none 0 0]),2,32):=by kernel_rfl
theorem inf65:(Tryz.prog.info? 65).map (fun j=>(j.zero,j.size,j.bytes))=some (some (.agg #[.int .i64 0,.int .i64 0,.slice none 0 0]),3,40):=by kernel_rfl
theorem inf254:(Tryz.prog.info? 254).map (fun j=>(j.zero,j.size,j.bytes))=some (some (.slice none 0 0),1,24):=by kernel_rfl
theorem inf61:(Tryz.prog.info? 61).map (fun j=>(j.zero,j.size,j.bytes))=some (some (.agg #[.slice none 0 0,.slice none 0 0]),2,48):=by kernel_rfl
theorem inf256:(Tryz.prog.info? 256).map (fun j=>(j.zero,j.size,j.bytes))=some (some (.agg #[.int .i64 0,.int .i64 0]),2,16):=by kernel_rfl
theorem inf232:(Tryz.prog.info? 232).map (fun j=>(j.zero,j.size,j.bytes))=some (some (.slice none 0 0),1,24):=by kernel_rfl
theorem inf172:(Tryz.prog.info? 172).map (fun j=>(j.zero,j.size,j.bytes))=some (some (.agg #[.slice none 0 0,.int .i64 0]),2,32):=by kernel_rfl
theorem inf253:(Tryz.prog.info? 253).map (fun j=>(j.zero,j.size,j.bytes))=some (some (.agg #[.slice none 0 0,.slice none 0 0]),2,48):=by kernel_rfl
theorem inf5:(Tryz.prog.info? 5).map (fun j=>(j.zero,j.size,j.bytes))=some (some (.int .u8 0),1,1):=by kernel_rfl
theorem inf236:(Tryz.prog.info? 236).map (fun j=>(j.zero,j.size,j.bytes))=some (some (.agg #[.int .i64 0,.int .i64 0,.int .i64 0,.int .i64 0]),4,32):=by kernel_rfl
theorem inf59:(Tryz.prog.info? 59).map (fun j=>(j.zero,j.size,j.bytes))=some (some (.slice none 0 0),1,24):=by kernel_rfl
theorem inf62:(Tryz.prog.info? 62).map (fun j=>(j.zero,j.size,j.bytes))=some (some (.slice none 0 0),1,24):=by kernel_rfl
theorem inf63:(Tryz.prog.info? 63).map (fun j=>(j.zero,j.size,j.bytes))=some (some (.slice none 0 0),1,24):=by kernel_rfl
theorem inf251:(Tryz.prog.info? 251).map (fun j=>(j.zero,j.size,j.bytes))=some (some (.pointer none),1,8):=by kernel_rfl
theorem inf277:(Tryz.prog.info? 277).map (fun j=>(j.zero,j.size,j.bytes))=some (some (.map none),1,8):=by kernel_rfl
theorem inf281:(Tryz.prog.info? 281).map (fun j=>(j.zero,j.size,j.bytes))=some (some (.agg #[.int .i64 0,.int .i64 0,.int .i64 0,.int .i64 0]),4,32):=by kernel_rfl
theorem inf66:(Tryz.prog.info? 66).map (fun j=>(j.zero,j.size,j.bytes))=some (some (.agg #[.slice none 0 0]),1,24):=by kernel_rfl
theorem inf151:(Tryz.prog.info? 151).map (fun j=>(j.zero,j.size,j.bytes))=some (some (.agg #[.int .i64 0,.int .i64 0,.slice none 0 0]),3,40):=by kernel_rfl
theorem inf207:(Tryz.prog.info? 207).map (fun j=>(j.zero,j.size,j.bytes))=some (some (.agg #[.slice none 0 0,.slice none 0 0]),2,48):=by kernel_rfl
theorem inf261:(Tryz.prog.info? 261).map (fun j=>(j.zero,j.size,j.bytes))=some (some (.pointer none),1,8):=by kernel_rfl
theorem inf218:(Tryz.prog.info? 218).map (fun j=>(j.zero,j.size,j.bytes))=some (some (.int .u64 0),1,8):=by kernel_rfl
theorem inf270:(Tryz.prog.info? 270).map (fun j=>(j.zero,j.size,j.bytes))=some (some (.map none),1,8):=by kernel_rfl
theorem inf279:(Tryz.prog.info? 279).map (fun j=>(j.zero,j.size,j.bytes))=some (some (.slice none 0 0),1,24):=by kernel_rfl
theorem inf183:(Tryz.prog.info? 183).map (fun j=>(j.zero,j.size,j.bytes))=some (some (.slice none 0 0),1,24):=by kernel_rfl
theorem inf201:(Tryz.prog.info? 201).map (fun j=>(j.zero,j.size,j.bytes))=some (some (.nilFunc),1,8):=by kernel_rfl
theorem inf290:(Tryz.prog.info? 290).map (fun j=>(j.zero,j.size,j.bytes))=some (some (.nilFunc),1,8):=by kernel_rfl
theorem z15:z127 Tryz.prog tab:=tabOk_of (⟨z62 Tryz.underlying3 inf3,⟨z62 Tryz.underlying28 inf28,⟨z62 Tryz.underlying76 inf76,⟨z62 Tryz.underlying32 inf32,⟨z62 Tryz.underlying26 inf26,⟨z62 Tryz.underlying74 inf74,⟨z62 Tryz.underlying158 inf158,⟨z62 Tryz.underlying24 inf24,⟨z62 Tryz.underlying50 inf50,⟨z62 Tryz.underlying36 inf36,⟨z62 Tryz.underlying29 inf29,⟨z62 Tryz.underlying23 inf23,⟨z62 Tryz.underlying30 inf30,⟨z62 Tryz.underlying27 inf27,⟨z62 Tryz.underlying126 inf126,⟨z62 Tryz.underlying4 inf4,⟨z62 Tryz.underlying146 inf146,⟨z62 Tryz.underlying242 inf242,⟨z62 Tryz.underlying22 inf22,⟨z62 Tryz.underlying179 inf179,⟨z62 Tryz.underlying40 inf40,⟨z62 Tryz.underlying181 inf181,⟨z62 Tryz.underlying238 inf238,⟨z62 Tryz.underlying240 inf240,⟨z62 Tryz.underlying65 inf65,⟨z62 Tryz.underlying254 inf254,⟨z62 Tryz.underlying61 inf61,⟨z62 Tryz.underlying256 inf256,⟨z62 Tryz.underlying232 inf232,⟨z62 Tryz.underlying172 inf172,⟨z62 Tryz.underlying253 inf253,⟨z62 Tryz.underlying5 inf5,⟨z62 Tryz.underlying236 inf236,⟨z62 Tryz.underlying59 inf59,⟨z62 Tryz.underlying62 inf62,⟨z62 Tryz.underlying63 inf63,⟨z62 Tryz.underlying251 inf251,⟨z62 Tryz.underlying277 inf277,⟨z62 Tryz.underlying281 inf281,⟨z62 Tryz.underlying66 inf66,⟨z62 Tryz.underlying151 inf151,⟨z62 Tryz.underlying207 inf207,⟨z62 Tryz.underlying261 inf261,⟨z62 Tryz.underlying218 inf218,⟨z62 Tryz.underlying270 inf270,⟨z62 Tryz.underlying279 inf279,⟨z62 Tryz.underlying183 inf183,⟨z62 Tryz.underlying201 inf201,⟨z62 Tryz.underlying290 inf290,trivial⟩⟩⟩⟩⟩⟩⟩⟩⟩⟩⟩⟩⟩⟩⟩⟩⟩⟩⟩⟩⟩⟩⟩⟩⟩⟩⟩⟩⟩⟩⟩⟩⟩⟩⟩⟩⟩⟩⟩⟩⟩⟩⟩⟩⟩⟩⟩⟩⟩)
end Go.Proofs.YtahhobgjcfionaaGreat
namespace Go.Proofs.YtahhobgjcfionaaGreat
open Go.Gl
attribute [local irreducible] z29
def enI (n:Int):List AC:=[.int n]
def ints (l:List Int):AC:=.list 1 l.length (l.map enI)
theorem ok:Ok Tryz.prog tab:=⟨z15,by kernel_rfl⟩
structure State where
 a:List Int
 b:List Int
 deriving DecidableEq
def State.cs (s:State):List AC:=[ints s.a,ints s.b]
def State.mx (s:State):Prop:=s.a.length≤maxLen∧s.b.length≤maxLen
def State.sz (s:State):Nat:=s.a.length+s.b.length
def lst {α:Type} (w:Nat) (e:α→List AC) (l:List α):AC:=.list w l.length (l.map e)
def tot {α:Type} (f:α→Nat) (l:List α):Nat:=l.length+(l.map f).sum
theorem z807 {α:Type} (f:α→Nat) (l:List α) (k:Nat):((l.take k).map f).sum≤(l.map f).sum:=by
 conv=>rhs;rw [← List.take_append_drop k l,y56,List.sum_append]
 omega
def State.mxs (l:List State):Prop:=l.length≤maxLen∧∀ s∈l,s.mx
def State.small (s:State):Prop:=s.a.length≤1048576∧s.b.length≤1048576
theorem State.unown (s:State):∀ x∈s.cs,x.unown=x:=fun x hx=>by
 simp only [State.cs,List.mem_cons,List.not_mem_nil,or_false] at hx
 rcases hx with rfl|rfl<;>rfl
end Go.Proofs.YtahhobgjcfionaaGreat
namespace Go.Proofs.YtahhobgjcfionaaGreat
open Go.Gl
attribute [local irreducible] z29 AWP z46 z50 z47 RetS z58
theorem back_ok (L:List Int) (hL:L.length≤maxLen):CallsA Tryz.prog 101 [ints L] [] (.fn (.func 170) [] [.ptr 0 none 0]) [.cells 1 [[ints L]]]:=by
 refine z7 z15 Tryz.func101 rfl rfl 4 Tryz.ntmps101 (by simp) ?_
 repeat' (((apply y76 ok;rfl))<;>conv=>whnf)
 all_goals (refine rsD [0] [] rfl ?_;(repeat' first|exact y78 _|apply y79|constructor))
def BackR {α:Type} (M:Nat) (Gc:Ghost) (wc:World) (rest:α→List AObj) (L:List Int) (env:List (Nat×AC)) (x:α) (a:Act) (w:World):Prop :=
 ∃ G,SubM M Gc G∧Le wc w∧Rel G (mkSt 19 env (.cells 1 [[ints L]]::rest x)) a w
def IsSt {α:Type} (rest:α→List AObj) (L:List Int) (x:α) (env' : List (Nat×AC)) (st:St):Prop:=st=mkSt 19 env' (.cells 1 [[ints L]]::rest x)
theorem BackR.step {α : Type} {M : Nat} {Gc : Ghost} {wc : World} {rest : α → List AObj} {L : List Int} {env env' : List (Nat × AC)} {x : α} {a : Act} {w : World} {c : Code}
    (h:BackR M Gc wc rest L env x a w) (hc:AWP Tryz.prog M c (z490 (IsSt rest L x env') (fun _ _=>False)) (mkSt 19 env (.cells 1 [[ints L]]::rest x))) {K:Act→World→Prop} {Q:Exit→Act→World→Prop}
    (hk:∀ a w,BackR M Gc wc rest L env' x a w→K a w):c.wpIn Fence.wide 0 Tryz.prog (Exit.then K Q) a w:=by
  obtain ⟨G,h1,h2,h3⟩:=h
  refine wpIn_mono (hc.at_ h3) ?_
  rintro ex a' w' ⟨G',st',k1,k2,k3,k4⟩
  cases ex with
  | normal =>
    have k3:st'=_:=k3
    subst k3
    exact hk _ _ ⟨G',h1.trans k1,h2.trans k2,k4⟩
  | _=>exact k3.elim
theorem BackR.less {α:Type} {M:Nat} {Gc:Ghost} {wc:World} {rest:α→List AObj} {L:List Int} {env env' : List (Nat×AC)} {x:α} {a:Act} {w:World} (h:BackR M Gc wc rest L env x a w) (he:z539 (fun s y=>z93 env s=y) env'):BackR M Gc wc rest L env' x a w:=by
 obtain ⟨G,h1,h2,h3⟩:=h
 refine ⟨G,h1,h2,h3.wf,fun s=>?_,h3.size,h3.defers⟩
 rcases z263 env' _ he s with e|e
 ·show V _ _ _ (z93 env' s) _
  rw [e];simp [V]
 ·have:=h3.env s
  show V _ _ _ (z93 env' s) _
  rw [← e];exact this
theorem z694 {F:Fence} {n:Nat} {P:Program} {ops:Array Oper} {Q:Exit→Act→World→Prop} {l:List Oper} {a:Act} {w:World} (h:wpListIn F n P ops Q (l++[]) a w):wpListIn F n P ops Q l a w:=by rwa [y57] at h
theorem BackR.val {α:Type} {M:Nat} {Gc:Ghost} {wc:World} {rest:α→List AObj} {L:List Int} {env:List (Nat×AC)} {x:α} {a:Act} {w:World} (h:BackR M Gc wc rest L env x a w) {s:Nat} {v:Value} (he:z93 env s=.raw v):a.tmps.getD s undef=v:=by
 obtain ⟨G,_,_,hR⟩:=h
 have:=hR.env s
 rw [show (mkSt 19 env (.cells 1 [[ints L]]::rest x)).env s=z93 env s from rfl,he] at this
 simpa only [V] using this
set_option maxHeartbeats 1600000 in
theorem back1:z938 Tryz.prog 170:=by
 intro α M rest okI L l Gc wc lb x0 hL hlen hy h0 hWc hlbs hlb
 unfold maxLen at hL
 refine callsIn_of_wp_marks (n:=0) Tryz.func170 rfl trivial ?_
 have hvs:(#[Value.func (.yield l) #[] #[]]++lb).size=2:=by simp [hlbs]
 have hinit:BackR M Gc.split wc rest L [(0,.raw (.func (.yield l) #[] #[])),(1,.ptr 0 none 0)] x0 { tmps:=(#[Value.func (.yield l) #[] #[]]++lb)++Array.replicate (19 - (#[Value.func (.yield l) #[] #[]]++lb).size) undef,defers:=[] } wc:=by
  refine ⟨Gc.split,SubM.refl _ _,Le.refl _,hWc.split,fun s=>?_,by show Array.size _=19;simp [hlbs],Marks.nil _⟩
  refine z438 (G:=Gc) (h:=hp wc) (fun _ _ _ _ e=>z410 e) (fun _ _ e=>e) ?_
  refine z1123 (args:=[.raw (.func (.yield l) #[] #[]),.ptr 0 none 0]) hvs ?_ 19 s
  exact z558 (xs:=[.raw (.func (.yield l) #[] #[])]) rfl (by simp [VL,V]) hlb
 refine wpIn_seq (hinit.step (env':=[(3,.int (L.length - 1)),(6,.int (L.length - 1)),(5,.int L.length),(4,ints L),(0,.raw (.func (.yield l) #[] #[])),(1,.ptr 0 none 0)]) ?_ fun a1 w1 hB1=>?_)
 ·repeat' ((first|(apply y76 ok;rfl)|(apply y36;(unfold inI;omega)))<;>conv=>whnf)
  all_goals rfl
 refine wpIn_block (wpIn_loop (fun a w=>∃ k x,k≤L.length∧okI k x∧BackR M Gc.split wc rest L [(3,.int ((k:Int) - 1)),(0,.raw (.func (.yield l) #[] #[])),(1,.ptr 0 none 0)] x a w) (fun a _=>match a.tmps.getD 3 undef with
  |.int _ i=>(i+1).toNat
  |_=>0) ⟨L.length,x0,y45 _,h0,hB1.less ⟨rfl,rfl,rfl,trivial⟩⟩ ?_)
 rintro a w ⟨k,x,hk,hok,hB⟩
 have hμ:(match a.tmps.getD 3 undef with
  |.int _ i=>(i+1).toNat
  |_=>0)=k:=by
  rw [hB.val (s:=3) rfl];simp
 rw [hμ]
 refine wpIn_seq (wpIn_seq (hB.step (env':=[(8,.raw (.bool (decide ((0:Int)≤(k:Int) - 1)))),(7,.int ((k:Int) - 1)),(3,.int ((k:Int) - 1)),(0,.raw (.func (.yield l) #[] #[])),(1,.ptr 0 none 0)]) ?_ fun a2 w2 hB2=>?_))
 ·repeat' (((apply y76 ok;rfl))<;>conv=>whnf)
  all_goals rfl
 have h8:a2.eval (.tmp 8)=.bool (decide ((0:Int)≤(k:Int) - 1)):=hB2.val (s:=8) rfl
 by_cases hk0:k=0
 ·subst hk0
  refine wpIn_cond_false (h8.trans (by simp)) (wpIn_exit ?_)
  obtain ⟨G,s1,s2,hR⟩:=hB2
  obtain ⟨Ds,d1,d2,d3,d4,d5,d6⟩:=z521 hWc s1.1 hR
  show LeavesInM Fence.wide 0 _ _ a2.tmps _ a2.defers .returning w2
  rw [d1]
  exact z289 Ds w2 d2 d3 ⟨.tuple #[],by rw [z417,show Tryz.f170.results=#[] from rfl];simp,.tuple #[],Gc.join G Ds,x,rfl,hok,⟨d4,fun o t ho e=>by rw [d5];exact s1.2 o t ho e⟩,s2.trans (z623 Ds w2),d6.wf⟩
 obtain ⟨j,rfl⟩:∃ j,k=j+1:=⟨k - 1,by omega⟩
 refine wpIn_cond_true (h8.trans (by rw [y73 (by omega)])) (wpIn_skip ?_)
 have hjL:j < L.length:=by omega
 have gL:(L.map enI)[j]?=some (enI L[j]):=by rw [y44,y38 hjL];rfl
 have hB3:BackR M Gc.split wc rest L [(3,.int (j:Int)),(0,.raw (.func (.yield l) #[] #[])),(1,.ptr 0 none 0)] x a2 w2:=hB2.less ⟨by show AC.int _=_;congr 3;omega,rfl,rfl,trivial⟩
 refine wpIn_seq (wpIn_block (wpIn_seq (wpIn_region_list ?_)))
 rw [← List.take_append_drop 6 (Array.toList _)]
 obtain ⟨G,s1,s2,hR⟩:=hB3
 generalize hz:L[j]=z at gL
 refine z494 (ro:=none) z15 _ _ _ _ (fun env' objs'=>objs'=.cells 1 [[ints L]]::rest x∧z539 (fun s y=>z93 env' s=y) [(16,.int z),(12,.int (j:Int)),(11,.raw (.func (.yield l) #[] #[])),(3,.int (j:Int)),(0,.raw (.func (.yield l) #[] #[])),(1,.ptr 0 none 0)]) (.inl rfl) ?_ M G a2 w2 hR ?_
 ·conv=>whnf
  repeat' ((first|(refine z12 (i:=j) rfl gL ?_)|(apply y36;omega))<;>conv=>whnf)
  all_goals exact ⟨rfl,rfl,rfl,rfl,rfl,rfl,rfl,trivial⟩
 rintro G1 env1 objs1 a3 w3 t1 t2 ⟨rfl,hE⟩ t4
 have hB4:BackR M Gc.split wc rest L env1 x a3 w3:=⟨G1,s1.trans t1,s2.trans t2,t4⟩
 have hB5:=hB4.less hE
 have v16:a3.eval (.tmp 16)=.int .i64 z:=hB5.val (s:=16) rfl
 have v12:a3.eval (.tmp 12)=.int .i64 (j:Int):=hB5.val (s:=12) rfl
 have v11:a3.eval (.tmp 11)=.func (.yield l) #[] #[]:=hB5.val (s:=11) rfl
 obtain ⟨f,tm,asg,bo,hyr,hyR⟩:=hy j x G1 w3 hjL hok (s1.trans t1) (s2.trans t2) t4.wf
 rw [hz] at hyr
 refine wpListIn_plain rfl fun Kk hKk=>?_
 unfold Oper.wpIn
 refine ⟨fun _ _=>trivial,?_⟩
 have hex : (execOp a3.eval ⟨some 17, .call ⟨.value (.tmp 11), #[.tmp 12, .tmp 16], #[3, 3]⟩, 4, "iter.go:29", #[], none⟩).run Tryz.prog w3 = .ok (.round l f tm asg bo) w3 := by
  show (do let d ← resolve a3.eval ⟨.value (.tmp 11),#[.tmp 12,.tmp 16],#[3,3]⟩ 4;invoke d.target d.args:Sem Next).run Tryz.prog w3=_
  simp only [resolve,v11,Deferred.ofValue,Sem.run_bind,Sem.run_pure,Result.andThen,invoke]
  rw [show (#[]++(#[Operand.tmp 12,.tmp 16].map a3.eval):Array Value)=#[.int .i64 (j:Int),.int .i64 z] by simp [v12,v16]]
  exact hyr
 show Oper.uponIn Fence.wide 0 _ _ _ _ _ ((execOp a3.eval ⟨some 17, .call ⟨.value (.tmp 11), #[.tmp 12, .tmp 16], #[3, 3]⟩, 4, "iter.go:29", #[], none⟩).run Tryz.prog w3)
 rw [hex]
 refine ⟨(fun h=>by cases h),hyR.mono ?_⟩
 rintro e w4 ⟨rfl,G2,y,u1,u2,u3,u4⟩
 refine hKk _ _ ?_
 have hall:=y12 (M:=M) t4.wf (Nat.le_of_eq (hlen x)) u2
 have hB6:BackR M Gc.split wc rest L ((17,.raw (.bool true))::[(16,.int z),(12,.int (j:Int)),(11,.raw (.func (.yield l) #[] #[])),(3,.int (j:Int)),(0,.raw (.func (.yield l) #[] #[])),(1,.ptr 0 none 0)]) y (a3.put (some 17) (.bool true)) w4:=by
  refine ⟨G2,(s1.trans t1).trans u2,(s2.trans t2).trans u3,u4,z673 (n:=19) (by decide) t4.size (fun s=>?_) (by simp [V]),by rw [z192];exact t4.size,by rw [z137];exact t4.defers.mono u2.1.S⟩
  rcases z263 _ _ hE s with e|e
  ·rw [e];simp [V]
  ·rw [← e];exact z124 u2.1.S hall (t4.env s)
 obtain ⟨G3,p1,p2,p3⟩:=hB6
 refine z694 ?_
 refine z494 (ro:=none) z15 _ [] _ _ (fun env' objs'=>objs'=.cells 1 [[ints L]]::rest y∧z539 (fun s y=>z93 env' s=y) [(18,.raw (.bool false)),(3,.int (j:Int)),(0,.raw (.func (.yield l) #[] #[])),(1,.ptr 0 none 0)]) (.inl rfl) ?_ M G3 _ w4 p3 ?_
 ·conv=>whnf
  repeat' ((fail)<;>conv=>whnf)
  all_goals exact ⟨rfl,rfl,rfl,rfl,rfl,trivial⟩
 rintro G4 env4 objs4 a5 w5 q1 q2 ⟨rfl,hE4⟩ q4
 have hB7:BackR M Gc.split wc rest L env4 y a5 w5:=⟨G4,p1.trans q1,p2.trans q2,q4⟩
 have hB8:=hB7.less hE4
 have v18:a5.eval (.tmp 18)=.bool false:=hB8.val (s:=18) rfl
 show Code.wpIn Fence.wide 0 _ _ _ a5 w5
 refine wpIn_cond_false v18 (wpIn_skip ?_)
 show Code.wpIn Fence.wide 0 _ _ _ a5 w5
 refine wpIn_mono (hB8.step (env':=[(3,.int ((j:Int) - 1)),(10,.int ((j:Int) - 1)),(9,.int (j:Int)),(18,.raw (.bool false)),(3,.int (j:Int)),(0,.raw (.func (.yield l) #[] #[])),(1,.ptr 0 none 0)]) (K:=fun a w=>BackR M Gc.split wc rest L [(3,.int ((j:Int) - 1)),(10,.int ((j:Int) - 1)),(9,.int (j:Int)),(18,.raw (.bool false)),(3,.int (j:Int)),(0,.raw (.func (.yield l) #[] #[])),(1,.ptr 0 none 0)] y a w) (Q:=fun _ _ _=>False) ?_ fun _ _ h=>h) ?_
 ·repeat' ((first|(apply y76 ok;rfl)|(apply y36;(unfold inI;omega)))<;>conv=>whnf)
  all_goals rfl
 rintro ex a6 w6 hB9
 cases ex with
 |normal =>
  have hB9:BackR M Gc.split wc rest L _ y a6 w6:=hB9
  refine ⟨⟨j,y,by omega,u1,hB9.less ⟨rfl,rfl,rfl,trivial⟩⟩,?_⟩
  show (match a6.tmps.getD 3 undef with
   |.int _ i=>(i+1).toNat
   |_=>0) < j+1
  rw [hB9.val (s:=3) rfl]
  show ((j:Int) - 1+1).toNat < j+1
  omega
 |_=>exact hB9.elim
end Go.Proofs.YtahhobgjcfionaaGreat
namespace Go.Proofs.YtahhobgjcfionaaGreat
open Go.Gl
attribute [local irreducible] z29
def z52 {α:Type} (e:α→List AC) (a:α):AC:=.agg (e a)
theorem Tree.unown (t:Tree):∀ x∈Tree.cs' t,x.unown=x:=fun x hx=>by
 simp only [Tree.cs',List.mem_cons,List.not_mem_nil,or_false] at hx
 rcases hx with rfl|rfl|rfl<;>rfl
def encL (l:List Int):List AC:=[ints l]
structure Graph where
 st:List State
 nx:List (List Int)
 deriving DecidableEq
def Graph.a1 (g:Graph):AC:=lst 2 State.cs g.st
def Graph.a2 (g:Graph):AC:=lst 1 encL g.nx
def Graph.cs (g:Graph):List AC:=[lst 2 State.cs g.st,lst 1 encL g.nx]
def Graph.s1 (g:Graph):Nat:=tot State.sz g.st
def Graph.s2 (g:Graph):Nat:=tot List.length g.nx
def enB (b:Bool):List AC:=[.bool b]
structure Trans where
 src:Int
 care:Int
 val:Int
 dst:Int
 deriving DecidableEq
def Trans.cs (t:Trans):List AC:=[.int t.src,.int t.care,.int t.val,.int t.dst]
theorem Trans.unown (t:Trans):∀ x∈t.cs,x.unown=x:=fun x hx=>by
 simp only [Trans.cs,List.mem_cons,List.not_mem_nil,or_false] at hx
 rcases hx with rfl|rfl|rfl|rfl<;>rfl
structure Aut where
 ini:List Int
 acc:List Bool
 ed:List Trans
 deriving DecidableEq
def Aut.a1 (a:Aut):AC:=lst 1 enI a.ini
def Aut.a2 (a:Aut):AC:=lst 1 enB a.acc
def Aut.a3 (a:Aut):AC:=lst 4 Trans.cs a.ed
def Aut.cs (a:Aut):List AC:=[lst 1 enI a.ini,lst 1 enB a.acc,lst 4 Trans.cs a.ed]
def Aut.s1 (a:Aut):Nat:=a.ini.length
def Aut.s2 (a:Aut):Nat:=a.acc.length
def Aut.s3 (a:Aut):Nat:=a.ed.length
structure Cert where
 ranks:List Int
 deriving DecidableEq
def Cert.a1 (a:Cert):AC:=lst 1 enI a.ranks
def Cert.cs (a:Cert):List AC:=[lst 1 enI a.ranks]
def Cert.s1 (a:Cert):Nat:=a.ranks.length
end Go.Proofs.YtahhobgjcfionaaGreat
namespace Go.Proofs.YtahhobgjcfionaaGreat
open Go.Gl
attribute [local irreducible] z29 AWP z46 z50 z47
def btw (n lo hi:Int):Bool:=decide (lo≤n) && decide (n≤hi)
theorem z97 {n lo hi:Int} : btw n lo hi=true↔lo≤n∧n≤hi:=by simp [btw]
theorem z300 {n lo hi:Int} : btw n lo hi=false↔¬(lo≤n∧n≤hi):=by rw [← z97];simp
theorem z326 (n lo hi:Int):CallsA Tryz.prog 84 [.int n,.int lo,.int hi] [] (.bool (btw n lo hi)) []:=by
 refine z13 z15 Tryz.func84 rfl rfl 15 Tryz.ntmps84 (by simp) ?_
 repeat' (first|(apply y76 ok;rfl;conv=>whnf)|(apply z5<;>intro _<;>conv=>whnf))
 all_goals (refine z20 rfl ?_;(unfold btw;simp [*];done))
def idxF {α:Type} (p:α→Bool) (l:List α):Int:=match l.findIdx? p with
 |some i=>i
 |none=>-1
theorem z204 {α:Type} {p:α→Bool} {l:List α} {i:Nat} (hi:i < l.length) (h:p l[i]=true) (hn:∀ j (hj:j < l.length),j < i→p l[j]=false):idxF p l=i:=by
 have:l.findIdx? p=some i:=List.findIdx?_eq_some_iff_getElem.2 ⟨hi,h,fun j hj=>by simp [hn j (by omega) hj]⟩
 simp [idxF,this]
theorem z205 {α:Type} {p:α→Bool} {l:List α} (hn:∀ j (hj:j < l.length),p l[j]=false):idxF p l=-1:=by
 have:l.findIdx? p=none:=List.findIdx?_eq_none_iff.2 fun x hx=>by
  obtain ⟨i,hi,rfl⟩:=List.mem_iff_getElem.1 hx
  exact hn i hi
 simp [idxF,this]
theorem z258 {α:Type} (p:α→Bool) (l:List α):decide (0≤idxF p l)=l.any p:=by
 unfold idxF
 split
 ·rename_i i e
  obtain ⟨h,hp,_⟩:=List.findIdx?_eq_some_iff_getElem.1 e
  have:l.any p=true:=List.any_eq_true.2 ⟨_,y37 h,hp⟩
  rw [this]
  simp
 ·rename_i e
  have:=List.findIdx?_eq_none_iff.1 e
  have:l.any p=false:=List.any_eq_false.2 fun x hx=>by simp [this x hx]
  rw [this]
  simp
theorem z667 (l:List Int) (hl:l.length≤maxLen) (p:Int→Bool) (f:FuncId) (hf:∀ x∈l,CallsA Tryz.prog f [.int x] [] (.bool (p x)) []):CallsA Tryz.prog 166 [lst 1 enI l,.fn (.func f) [] []] [] (.int (idxF p l)) []:=by
 unfold maxLen at hl
 refine z13 z15 Tryz.func166 rfl rfl 19 Tryz.ntmps166 (by simp) ?_
 repeat' ((apply y76 ok;rfl;conv=>whnf))
 refine z94 (fun k:Nat=>([(0,lst 1 enI l),(1,.fn (.func f) [] []),(7,.int l.length),(8,.int k)],[])) (fun k=>k≤l.length∧∀ j (hj:j < l.length),j < k→p l[j]=false) (fun k=>l.length - k) 0 (by simp)
  ⟨[],rfl,by decide,rfl,⟨⟨rfl,rfl⟩,⟨rfl,rfl⟩,⟨rfl,rfl⟩,⟨rfl,rfl⟩,trivial⟩,trivial⟩ ?_
 intro k hk
 repeat' (first|(apply y76 ok;rfl;conv=>whnf)|(apply y36;(first|omega|(unfold inI;omega));conv=>whnf)|(with_reducible apply z8;omega;intro _;conv=>whnf)|(apply z5<;>intro _<;>conv=>whnf)|(apply z87<;>intro _<;>conv=>whnf)|(apply z6 (hf l[k] (y37 _));rfl;rfl;conv=>whnf))
 ·rename_i h h1
  exact z60 rfl rfl (by rw [z204 (by omega) h1 hk.2];rfl)
 ·rename_i h h1
  refine z79 (k+1) [] ⟨by omega,fun j hj hjk=>?_⟩ (by omega) ⟨rfl,by decide,rfl,⟨⟨rfl,rfl⟩,⟨rfl,rfl⟩,⟨rfl,rfl⟩,⟨rfl,rfl⟩,trivial⟩,trivial⟩
  rcases y62 j k with h2|h2
  ·exact hk.2 j hj h2
  ·obtain rfl:j=k:=by omega
   exact h1
 ·exact z60 rfl rfl (by rw [z205 fun j hj=>hk.2 j hj (by omega)];rfl)
theorem z187 (l:List Int) (hl:l.length≤maxLen) (p:Int→Bool) (f:FuncId) (hf:∀ x∈l,CallsA Tryz.prog f [.int x] [] (.bool (p x)) []):CallsA Tryz.prog 94 [lst 1 enI l,.fn (.func f) [] []] [] (.bool (l.any p)) []:=by
 refine z13 z15 Tryz.func94 rfl rfl 9 Tryz.ntmps94 (by simp) ?_
 repeat' (first|(apply y76 ok;rfl;conv=>whnf)|(apply z6 (z667 l hl p f hf);rfl;rfl;conv=>whnf))
 exact z20 rfl (by rw [← z258])
theorem z942 (n:Int):CallsA Tryz.prog 164 [.int n] [] (.bool (!btw n 0 3)) []:=by
 refine z13 z15 Tryz.func164 rfl rfl 6 Tryz.ntmps164 (by simp) ?_
 repeat' (first|(apply y76 ok;rfl;conv=>whnf)|(apply z6 (z326 n 0 3);rfl;rfl;conv=>whnf))
 exact z20 rfl rfl
def z407 (l:List Int):Bool:=decide ((l.length:Int)=3) && !(l.any fun n=>!btw n 0 3)
theorem z1027 (l:List Int) (hl:l.length≤maxLen):CallsA Tryz.prog 87 [ints l] [] (.bool (z407 l)) []:=by
 have hl':=hl
 unfold maxLen at hl'
 have hk:=z187 l hl (fun n=>!btw n 0 3) 164 (fun x _=>z942 x)
 refine z13 z15 Tryz.func87 rfl rfl 11 Tryz.ntmps87 (by simp) ?_
 repeat' (first|(apply y76 ok;rfl;conv=>whnf)|(apply z5<;>intro _<;>conv=>whnf)|(apply z6 (hk);rfl;rfl;conv=>whnf))
 all_goals (refine z20 rfl ?_;(unfold z407;simp [*];done))
end Go.Proofs.YtahhobgjcfionaaGreat
namespace Go.Proofs.YtahhobgjcfionaaGreat
open Go.Gl
attribute [local irreducible] z29 z879 z485
theorem z532 (l:List State) (hl:l.length≤maxLen) (p:State→Bool) (f:FuncId) (hf:∀ x∈l,CallsA Tryz.prog f [z52 State.cs x] [] (.bool (p x)) []):CallsA Tryz.prog 163 [lst 2 State.cs l,.fn (.func f) [] []] [] (.int (idxF p l)) []:=by
 unfold maxLen at hl
 refine z13 z15 Tryz.func163 rfl rfl 19 Tryz.ntmps163 (by simp) ?_
 repeat' (((apply y76 ok;rfl))<;>conv=>whnf)
 refine z94 (fun k:Nat=>([(0,lst 2 State.cs l),(1,.fn (.func f) [] []),(7,.int l.length),(8,.int k)],[])) (fun k=>k≤l.length∧∀ j (hj:j < l.length),j < k→p l[j]=false) (fun k=>l.length - k) 0 (by simp)
  ⟨[],rfl,by decide,rfl,⟨⟨rfl,rfl⟩,⟨rfl,rfl⟩,⟨rfl,rfl⟩,⟨rfl,rfl⟩,trivial⟩,trivial⟩ ?_
 intro k hk
 repeat' ((first|(apply y76 ok;rfl)|(apply y36;first|omega|(unfold inI;omega))|(((with_reducible apply z8;omega));intro _)|((first|apply z5|apply z87)<;>intro _)|(apply z6 (hf l[k] (y37 _));rfl;rfl))<;>conv=>whnf)
 ·rename_i h h1
  exact z60 rfl rfl (by rw [z204 (by omega) h1 hk.2];rfl)
 ·rename_i h h1
  refine z79 (k+1) [] ⟨by omega,fun j hj hjk=>?_⟩ (by omega) ⟨rfl,by decide,rfl,⟨⟨rfl,rfl⟩,⟨rfl,rfl⟩,⟨rfl,rfl⟩,⟨rfl,rfl⟩,trivial⟩,trivial⟩
  rcases y62 j k with h2|h2
  ·exact hk.2 j hj h2
  ·obtain rfl:j=k:=by omega
   exact h1
 ·exact z60 rfl rfl (by rw [z205 fun j hj=>hk.2 j hj (by omega)];rfl)
theorem z390 (l:List State) (hl:l.length≤maxLen) (p:State→Bool) (f:FuncId) (hf:∀ x∈l,CallsA Tryz.prog f [z52 State.cs x] [] (.bool (p x)) []):CallsA Tryz.prog 85 [lst 2 State.cs l,.fn (.func f) [] []] [] (.bool (l.any p)) []:=by
 refine z13 z15 Tryz.func85 rfl rfl 9 Tryz.ntmps85 (by simp) ?_
 repeat' ((first|(apply y76 ok;rfl)|(apply z6 (z532 l hl p f hf);rfl;rfl))<;>conv=>whnf)
 exact z20 rfl (by rw [← z258])
theorem z572 (l:List Tree) (hl:l.length≤maxLen) (p:Tree→Bool) (f:FuncId) (hf:∀ x∈l,CallsA Tryz.prog f [z52 Tree.cs' x] [] (.bool (p x)) []):CallsA Tryz.prog 212 [lst 3 Tree.cs' l,.fn (.func f) [] []] [] (.int (idxF p l)) []:=by
 unfold maxLen at hl
 refine z13 z15 Tryz.func212 rfl rfl 19 Tryz.ntmps212 (by simp) ?_
 repeat' (((apply y76 ok;rfl))<;>conv=>whnf)
 refine z94 (fun k:Nat=>([(0,lst 3 Tree.cs' l),(1,.fn (.func f) [] []),(7,.int l.length),(8,.int k)],[])) (fun k=>k≤l.length∧∀ j (hj:j < l.length),j < k→p l[j]=false) (fun k=>l.length - k) 0 (by simp)
  ⟨[],rfl,by decide,rfl,⟨⟨rfl,rfl⟩,⟨rfl,rfl⟩,⟨rfl,rfl⟩,⟨rfl,rfl⟩,trivial⟩,trivial⟩ ?_
 intro k hk
 repeat' ((first|(apply y76 ok;rfl)|(apply y36;first|omega|(unfold inI;omega))|(((with_reducible apply z8;omega));intro _)|((first|apply z5|apply z87)<;>intro _)|(apply z6 (hf l[k] (y37 _));rfl;rfl))<;>conv=>whnf)
 ·rename_i h h1
  exact z60 rfl rfl (by rw [z204 (by omega) h1 hk.2];rfl)
 ·rename_i h h1
  refine z79 (k+1) [] ⟨by omega,fun j hj hjk=>?_⟩ (by omega) ⟨rfl,by decide,rfl,⟨⟨rfl,rfl⟩,⟨rfl,rfl⟩,⟨rfl,rfl⟩,⟨rfl,rfl⟩,trivial⟩,trivial⟩
  rcases y62 j k with h2|h2
  ·exact hk.2 j hj h2
  ·obtain rfl:j=k:=by omega
   exact h1
 ·exact z60 rfl rfl (by rw [z205 fun j hj=>hk.2 j hj (by omega)];rfl)
theorem z434 (l:List Tree) (hl:l.length≤maxLen) (p:Tree→Bool) (f:FuncId) (hf:∀ x∈l,CallsA Tryz.prog f [z52 Tree.cs' x] [] (.bool (p x)) []):CallsA Tryz.prog 152 [lst 3 Tree.cs' l,.fn (.func f) [] []] [] (.bool (l.any p)) []:=by
 refine z13 z15 Tryz.func152 rfl rfl 9 Tryz.ntmps152 (by simp) ?_
 repeat' ((first|(apply y76 ok;rfl)|(apply z6 (z572 l hl p f hf);rfl;rfl))<;>conv=>whnf)
 exact z20 rfl (by rw [← z258])
theorem z533 (c:Int) (l:List (List Int)) (hl:l.length≤maxLen) (p:(List Int)→Bool) (f:FuncId) (hf:∀ x∈l,CallsA Tryz.prog f [ints x,.pt [.int c]] [] (.bool (p x)) []):CallsA Tryz.prog 165 [lst 1 encL l,.fn (.func f) [] [.pt [.int c]]] [] (.int (idxF p l)) []:=by
 unfold maxLen at hl
 refine z13 z15 Tryz.func165 rfl rfl 19 Tryz.ntmps165 (by simp) ?_
 repeat' (((apply y76 ok;rfl))<;>conv=>whnf)
 refine z94 (fun k:Nat=>([(0,lst 1 encL l),(1,.fn (.func f) [] [.pt [.int c]]),(7,.int l.length),(8,.int k)],[])) (fun k=>k≤l.length∧∀ j (hj:j < l.length),j < k→p l[j]=false) (fun k=>l.length - k) 0 (by simp)
  ⟨[],rfl,by decide,rfl,⟨⟨rfl,rfl⟩,⟨rfl,rfl⟩,⟨rfl,rfl⟩,⟨rfl,rfl⟩,trivial⟩,trivial⟩ ?_
 intro k hk
 repeat' ((first|(apply y76 ok;rfl)|(apply y36;first|omega|(unfold inI;omega))|(((with_reducible apply z8;omega));intro _)|((first|apply z5|apply z87)<;>intro _)|(apply z6 (hf l[k] (y37 _));rfl;rfl))<;>conv=>whnf)
 ·rename_i h h1
  exact z60 rfl rfl (by rw [z204 (by omega) h1 hk.2];rfl)
 ·rename_i h h1
  refine z79 (k+1) [] ⟨by omega,fun j hj hjk=>?_⟩ (by omega) ⟨rfl,by decide,rfl,⟨⟨rfl,rfl⟩,⟨rfl,rfl⟩,⟨rfl,rfl⟩,⟨rfl,rfl⟩,trivial⟩,trivial⟩
  rcases y62 j k with h2|h2
  ·exact hk.2 j hj h2
  ·obtain rfl:j=k:=by omega
   exact h1
 ·exact z60 rfl rfl (by rw [z205 fun j hj=>hk.2 j hj (by omega)];rfl)
theorem z391 (c:Int) (l:List (List Int)) (hl:l.length≤maxLen) (p:(List Int)→Bool) (f:FuncId) (hf:∀ x∈l,CallsA Tryz.prog f [ints x,.pt [.int c]] [] (.bool (p x)) []):CallsA Tryz.prog 88 [lst 1 encL l,.fn (.func f) [] [.pt [.int c]]] [] (.bool (l.any p)) []:=by
 refine z13 z15 Tryz.func88 rfl rfl 9 Tryz.ntmps88 (by simp) ?_
 repeat' ((first|(apply y76 ok;rfl)|(apply z6 (z533 c l hl p f hf);rfl;rfl))<;>conv=>whnf)
 exact z20 rfl (by rw [← z258])
end Go.Proofs.YtahhobgjcfionaaGreat
namespace Go.Proofs.YtahhobgjcfionaaGreat
open Go.Gl
attribute [local irreducible] z29 AWP z46 z50 z47
theorem z850 (l:List Int) (hl:l.length≤maxLen) (v:Int):CallsA Tryz.prog 162 [ints l,.int v] [] (.int (idxF (fun x=>decide (v=x)) l)) []:=by
 unfold maxLen at hl
 refine z13 z15 Tryz.func162 rfl rfl 19 Tryz.ntmps162 (by simp) ?_
 repeat' (((apply y76 ok;rfl))<;>conv=>whnf)
 refine z94 (fun k:Nat=>([(0,ints l),(1,.int v),(7,.int l.length),(8,.int k)],[])) (fun k=>k≤l.length∧∀ j (hj:j < l.length),j < k→decide (v=l[j])=false) (fun k=>l.length - k) 0 (by simp)
  ⟨[],rfl,by decide,rfl,⟨⟨rfl,rfl⟩,⟨rfl,rfl⟩,⟨rfl,rfl⟩,⟨rfl,rfl⟩,trivial⟩,trivial⟩ ?_
 intro k hk
 repeat' ((first|(apply y76 ok;rfl)|(apply y36;first|omega|(unfold inI;omega))|(((with_reducible apply z8;omega));intro _)|((apply z5)<;>intro _))<;>conv=>whnf)
 ·rename_i h h1
  exact z60 rfl rfl (by rw [z204 (p:=fun x=>decide (v=x)) (by omega) (y73 h1) hk.2];rfl)
 ·rename_i h h1
  refine z79 (k+1) [] ⟨by omega,fun j hj hjk=>?_⟩ (by omega) ⟨rfl,by decide,rfl,⟨⟨rfl,rfl⟩,⟨rfl,rfl⟩,⟨rfl,rfl⟩,⟨rfl,rfl⟩,trivial⟩,trivial⟩
  rcases y62 j k with h2|h2
  ·exact hk.2 j hj h2
  ·obtain rfl:j=k:=by omega
   exact y74 h1
 ·exact z60 rfl rfl (by rw [z205 (p:=fun x=>decide (v=x)) fun j hj=>hk.2 j hj (by omega)];rfl)
theorem z126 (l:List Int) (hl:l.length≤maxLen) (v:Int):CallsA Tryz.prog 83 [ints l,.int v] [] (.bool (decide (v∈l))) []:=by
 refine z13 z15 Tryz.func83 rfl rfl 9 Tryz.ntmps83 (by simp) ?_
 repeat' ((first|(apply y76 ok;rfl)|(apply z6 (z850 l hl v);rfl;rfl))<;>conv=>whnf)
 have e:decide (v∈l)=l.any (fun x=>decide (v=x)):=by
  rw [Bool.eq_iff_iff];simp
 exact z20 rfl (by rw [e,← z258])
theorem z311 {α:Type} (w:Nat) (e:α→List AC) (l:List α) (k:Nat) (hk:k≤l.length):AC.list w ((k:Int).toNat - (0:Int).toNat) (((l.map e).drop (0:Int).toNat).take ((k:Int).toNat - (0:Int).toNat))=lst w e (l.take k):=by
 unfold lst
 rw [y41,List.map_take]
 simp only [y69,Int.toNat_zero,Nat.sub_zero,List.drop_zero]
 rw [Nat.min_eq_left hk]
def Distinct (l:List Int) (n:Int) (k:Nat):Prop:=∀ i (h:i < l.length),i < k→(0≤l[i]∧l[i]≤n - 1)∧l[i] ∉ l.take i
noncomputable instance {l:List Int} {n:Int} {k:Nat} : Decidable (Distinct l n k):=Classical.propDecidable _
theorem z860 (l:List Int) (hl:l.length≤maxLen) (n:Int) (h0:0≤n) (h1:n≤maxLen):CallsA Tryz.prog 90 [ints l,.int n] [] (.bool (decide (Distinct l n l.length))) []:=by
 have hl':=hl
 unfold maxLen at hl' h1
 refine z13 z15 Tryz.func90 rfl rfl 27 Tryz.ntmps90 (by simp) ?_
 repeat' (((apply y76 ok;rfl))<;>conv=>whnf)
 refine z94 (fun k:Nat=>([(0,ints l),(1,.int n),(7,ints l),(8,.int l.length),(9,.int k)],[])) (fun k=>k≤l.length∧Distinct l n k) (fun k=>l.length - k) 0 ⟨by omega,fun i h hi=>by omega⟩
  ⟨[],rfl,by decide,rfl,⟨⟨rfl,rfl⟩,⟨rfl,rfl⟩,⟨rfl,rfl⟩,⟨rfl,rfl⟩,⟨rfl,rfl⟩,trivial⟩,trivial⟩ ?_
 intro k hk
 repeat' ((first|(apply y76 ok;rfl)|(apply y36;first|omega|(unfold inI;omega))|(((with_reducible apply z8;omega));intro _)|((first|apply z5|apply z74)<;>intro _)|(apply z6 (z326 l[k] 0 (n - 1));rfl;rfl))<;>conv=>whnf)
 ·rename_i hb
  refine z20 rfl (y74 fun hd=>?_)
  have:=(hd k ‹_› ‹_›).1
  rw [z300] at hb
  exact hb this
 ·rename_i hb
  apply z6 (z126 (l.take k) (by rw [y41];omega) l[k])
  ·show _=[AC.list 1 _ _,_]
   rw [show AC.list 1 (l.take k).length ((l.take k).map enI)=_ from (z311 1 enI l k hk.1).symm]
   rfl
  ·rfl
  conv=>whnf
  repeat' ((first|(apply y76 ok;rfl)|(apply y36;(unfold inI;omega))|((apply z5)<;>intro _))<;>conv=>whnf)
  ·rename_i h2
   exact z20 rfl (y74 fun hd=>(hd k ‹_› ‹_›).2 h2)
  ·rename_i h2
   refine z79 (k+1) [] ⟨by omega,fun i hi hik=>?_⟩ (by omega) ⟨rfl,by decide,rfl,⟨⟨rfl,rfl⟩,⟨rfl,rfl⟩,⟨rfl,rfl⟩,⟨rfl,rfl⟩,⟨rfl,rfl⟩,trivial⟩,trivial⟩
   rcases y62 i k with h3|h3
   ·exact hk.2 i hi h3
   ·obtain rfl:i=k:=by omega
    exact ⟨z97.1 hb,h2⟩
 ·exact z20 rfl (y73 fun i h hi=>hk.2 i h (by omega))
theorem z574 (s:State) (hs:s.mx):CallsA Tryz.prog 86 [z52 State.cs s] [] (.bool (!z407 s.b)) []:=by
 refine z13 z15 Tryz.func86 rfl rfl 7 Tryz.ntmps86 (by simp) ?_
 repeat' (first|(apply y76 ok;rfl;conv=>whnf)|(apply z6 (z1027 s.b hs.2);rfl;rfl;conv=>whnf))
 exact z20 rfl rfl
noncomputable def z808 (n:Int) (l:List Int):Bool:=!decide ((l.length:Int)=0) && decide (Distinct l n l.length)
theorem z573 (c:Int) (h0:0≤c) (h1:c≤maxLen) (l:List Int) (hl:l.length≤maxLen):CallsA Tryz.prog 89 [ints l,.pt [.int c]] [] (.bool (!z808 c l)) []:=by
 have hl':=hl
 unfold maxLen at hl'
 refine z13 z15 Tryz.func89 rfl rfl 13 Tryz.ntmps89 (by simp) ?_
 repeat' (first|(apply y76 ok;rfl;conv=>whnf)|(apply z5<;>intro _<;>conv=>whnf)|(apply z6 (z860 l hl c h0 h1);rfl;rfl;conv=>whnf))
 all_goals (refine z20 rfl ?_;first|(unfold z808;simp [*];done)|(unfold z808;simp_all;done))
def Graph.mx (g:Graph):Prop:=State.mxs g.st∧g.nx.length≤maxLen∧∀ l∈g.nx,l.length≤maxLen
noncomputable def z206 (g:Graph):Bool:=btw g.st.length 1 60 && (decide ((g.nx.length:Int)=g.st.length) && (!(g.st.any fun s=>!z407 s.b) && !(g.nx.any fun l=>!z808 g.st.length l)))
theorem z259 (g:Graph) (hg:g.mx):CallsA Tryz.prog 22 [.agg g.cs] [] (.bool (z206 g)) []:=by
 obtain ⟨hs,hn,hm⟩:=hg
 have hl1:=hs.1
 unfold maxLen at hl1
 have k1:=z390 g.st hs.1 (fun s=>!z407 s.b) 86 (fun s hx=>z574 s (hs.2 s hx))
 have k2:=z391 (g.st.length:Int) g.nx hn (fun l=>!z808 g.st.length l) 89 (fun l hx=>z573 _ (by omega) (by unfold maxLen;omega) l (hm l hx))
 refine z13 z15 Tryz.func22 rfl rfl 29 Tryz.ntmps22 (by simp) ?_
 repeat' (first|(apply y76 ok;rfl;conv=>whnf)|(apply z5<;>intro _<;>conv=>whnf)|(apply z74<;>intro _<;>conv=>whnf)|(apply z87<;>intro _<;>conv=>whnf)|(apply z6 (z326 (g.st.length:Int) 1 60);rfl;rfl;conv=>whnf)|(apply z6 (k1);rfl;rfl;conv=>whnf)|(apply z929 [1] (k2);rfl;rfl;rfl;rfl;conv=>whnf))
 all_goals (refine z20 rfl ?_;(unfold z206;simp [*];done))
theorem z389 {d : Int} (l : List Tree) (hl : l.length ≤ maxLen) (p : Tree → Int → Bool) (nx : Tree → Int → Int) (okS : Int → Prop) (hok : ∀ x s, okS s → p x s = false → okS (nx x s)) (f : FuncId) (s : Int) (h0 : okS s)
    (hf:∀ x∈l,∀ s,okS s→CallsA Tryz.prog f [z52 Tree.cs' x,.pt [.int d],.ptr 1 none 0] [.cells 1 [[.int s]],.cells 1 [[.ptr 0 none 0]]] (.bool (p x s)) [.cells 1 [[.int (nx x s)]],.cells 1 [[.ptr 0 none 0]]]) :
    CallsA Tryz.prog 212 [lst 3 Tree.cs' l,.fn (.func f) [] [.pt [.int d],.ptr 1 none 0]] [.cells 1 [[.int s]],.cells 1 [[.ptr 0 none 0]]] (.int (idxS p nx l s 0).1) [.cells 1 [[.int (idxS p nx l s 0).2]],.cells 1 [[.ptr 0 none 0]]]:=by
  unfold maxLen at hl
  refine z13 z15 Tryz.func212 rfl rfl 19 Tryz.ntmps212 (by simp) ?_
  repeat' (((apply y76 ok;rfl))<;>conv=>whnf)
  refine z94 (fun x:Nat×Int=>([(0,lst 3 Tree.cs' l),(1,.fn (.func f) [] [.pt [.int d],.ptr 1 none 0]),(7,.int l.length),(8,.int x.1)],[.cells 1 [[.int x.2]],.cells 1 [[.ptr 0 none 0]]])) (fun x=>x.1≤l.length∧okS x.2∧idxS p nx l s 0=idxS p nx (l.drop x.1) x.2 x.1) (fun x=>l.length - x.1) (0,s) ⟨by omega,h0,rfl⟩
    ⟨[0,1],rfl,by decide,rfl,⟨⟨rfl,rfl⟩,⟨rfl,rfl⟩,⟨rfl,rfl⟩,⟨rfl,rfl⟩,trivial⟩,⟨z24 rfl rfl,z24 rfl rfl,trivial⟩⟩ ?_
  rintro ⟨k,t⟩ ⟨hk1,hk2,hk3⟩
  dsimp only at hk1 hk2 hk3
  repeat' ((first|(apply y76 ok;rfl)|(apply y36;first|omega|(unfold inI;omega))|(((with_reducible apply z8;omega));intro _)|((first|apply z5|apply z87)<;>intro _)|(apply z18 [0,1] [] (hf l[k] (y37 _) t hk2);rfl;rfl;rfl))<;>conv=>whnf)
  · rename_i h hkl h1
    rw [y71 hkl,idxS,if_pos h1] at hk3
    rw [hk3]
    exact z110 [0,1] (by decide) rfl rfl rfl ⟨z24 rfl rfl,z24 rfl rfl,trivial⟩
  · rename_i h hkl h1
    rw [y71 hkl,idxS,if_neg (by rw [h1];simp)] at hk3
    exact z79 (k+1,nx l[k] t) [0,1] ⟨by dsimp only;omega,hok _ _ hk2 h1,hk3⟩ (by dsimp only;omega) ⟨rfl,by decide,rfl,⟨⟨rfl,rfl⟩,⟨rfl,rfl⟩,⟨rfl,rfl⟩,⟨rfl,rfl⟩,trivial⟩,⟨z24 rfl rfl,z24 rfl rfl,trivial⟩⟩
  · rw [y75 (by omega),idxS] at hk3
    rw [hk3]
    exact z110 [0,1] (by decide) rfl rfl rfl ⟨z24 rfl rfl,z24 rfl rfl,trivial⟩
theorem z577 {d : Int} (l : List Tree) (hl : l.length ≤ maxLen) (p : Tree → Int → Bool) (nx : Tree → Int → Int) (okS : Int → Prop) (hok : ∀ x s, okS s → p x s = false → okS (nx x s)) (f : FuncId) (s : Int) (h0 : okS s)
    (hf:∀ x∈l,∀ s,okS s→CallsA Tryz.prog f [z52 Tree.cs' x,.pt [.int d],.ptr 1 none 0] [.cells 1 [[.int s]],.cells 1 [[.ptr 0 none 0]]] (.bool (p x s)) [.cells 1 [[.int (nx x s)]],.cells 1 [[.ptr 0 none 0]]]) :
    CallsA Tryz.prog 152 [lst 3 Tree.cs' l,.fn (.func f) [] [.pt [.int d],.ptr 1 none 0]] [.cells 1 [[.int s]],.cells 1 [[.ptr 0 none 0]]] (.bool (decide (0≤(idxS p nx l s 0).1))) [.cells 1 [[.int (idxS p nx l s 0).2]],.cells 1 [[.ptr 0 none 0]]]:=by
  refine z13 z15 Tryz.func152 rfl rfl 9 Tryz.ntmps152 (by simp) ?_
  repeat' ((first|(apply y76 ok;rfl)|(apply z18 [0,1] [] (z389 (d:=d) l hl p nx okS hok f s h0 hf);rfl;rfl;rfl))<;>conv=>whnf)
  exact z110 [0,1] (by decide) rfl rfl rfl ⟨z24 rfl rfl,z24 rfl rfl,trivial⟩
theorem walk_ok (t:Tree):t.mx→∀ d n:Int,0≤d→d≤100→0≤n→n≤15→CallsA Tryz.prog 249 [z52 Tree.cs' t,.int d,.ptr 0 none 0] [.cells 1 [[.int n]]] (.bool (t.walkE d n).2) [.cells 1 [[.int (t.walkE d n).1]]]:=by
  induction t using y24 with|h t ih=>?_
  intro hm d n hd0 hd1 h0 h1
  rw [y25] at hm
  have hs:=Tree.walkE_spec.1
  have hk:d≤6→n+1≤15→CallsA Tryz.prog 152 [lst 3 Tree.cs' t.kids,.fn (.func 268) [] [.pt [.int d],.ptr 1 none 0]] [.cells 1 [[.int (n+1)]],.cells 1 [[.ptr 0 none 0]]] (.bool (!(Tree.walkEs t.kids (d+1) (n+1)).2)) [.cells 1 [[.int (Tree.walkEs t.kids (d+1) (n+1)).1]],.cells 1 [[.ptr 0 none 0]]]:=by
    intro hd hn
    have h:=z577 (d:=d) t.kids hm.1 (fun x s=>!(x.walkE (d+1) s).2) (fun x s=>(x.walkE (d+1) s).1) (fun s=>0≤s∧s≤15) (fun x s h1 h2=>by
      obtain ⟨a1,a2,a3,a4⟩:=hs x (d+1) s h1.1 h1.2
      have h3:(x.walkE (d+1) s).2=true:=by simpa using h2
      have:=(a1.1 h3).2
      rw [← a2 h3] at this
      exact ⟨by omega,this⟩) 268 (n+1) ⟨by omega,by omega⟩ (fun x hx s h=>by
        have hc:=ih x hx (hm.2 x hx) (d+1) s (by omega) (by omega) h.1 h.2
        refine z13 z15 Tryz.func268 rfl rfl 11 Tryz.ntmps268 (by simp) ?_
        repeat' ((first|(apply y76 ok;rfl)|(apply y36;(unfold inI;omega))|(apply z18 [0] [] hc;rfl;rfl;rfl))<;>conv=>whnf)
        exact z110 [0,1] (by decide) rfl rfl rfl ⟨z24 rfl rfl,z24 rfl rfl,trivial⟩)
    rw [y35 (d+1) t.kids (n+1) 0,Bool.not_not]
    exact h
  have hk2:=fun h1 h2=>by
    have:=hk h1 h2
    unfold lst at this
    rw [← y15] at this
    exact this
  refine z13 z15 Tryz.func249 rfl rfl 55 Tryz.ntmps249 (by simp) ?_
  repeat' ((first|(apply y76 ok;rfl)|(apply y36;(unfold inI;omega))|((first|apply z5|apply z37|apply z74)<;>intro _)|(apply z6 (z326 _ 1 9);rfl;rfl)|(apply z6 (z326 _ 0 3);rfl;rfl)|(apply z6 (z326 _ 0 2);rfl;rfl)|(apply z6 (z326 _ 0 0);rfl;rfl)|(apply z112 [0,3] [2] [] (hk2 (by omega) (by omega));rfl;rfl;rfl;(focus ((repeat' first|exact z17|apply z16)<;>exact z44 rfl rfl));((refine .inr ⟨rfl,?_⟩;repeat' first|exact True.intro|apply y36|exact rfl))))<;>conv=>whnf)
  all_goals first
    | (have e : t.walkE d n = (n + 1, false) := by
        rw [y34,if_neg]
        clear hk hk2 hs ih
        rintro ⟨c1,c2,c3,c4,c5⟩
        try simp only [z300,z97] at *
        unfold z424 at c4
        unfold z329 at c5
        grind
       rw [e]
       exact z110 [0] (by decide) rfl rfl rfl ⟨z24 rfl rfl,trivial⟩)
    | (have e : t.walkE d n = Tree.walkEs t.kids (d + 1) (n + 1) := by
        rw [y34,if_pos]
        clear hk hk2 hs ih
        try simp only [z300,z97] at *
        unfold z424 z329
        grind
       rw [e]
       refine z110 [0] (by decide) rfl rfl ?_ ⟨z24 rfl rfl,trivial⟩
       show AC.raw (.bool (!!_))=_
       rw [Bool.not_not];rfl)
theorem y14 (t:Tree):z52 Tree.cs' t=.agg [.int t.kind,.int t.val,lst 3 Tree.cs' t.kids]:=by
 simp only [z52,Tree.cs',lst,Tree.lst_eq]
theorem z766 (t:Tree) (hm:t.mx):CallsA Tryz.prog 213 [z52 Tree.cs' t] [] (.int (if t.exprB then t.count 6 else 0)) []:=by
 have hk:=walk_ok t hm 1 0 (by omega) (by omega) (by omega) (by omega)
 obtain ⟨_,h2,_,_⟩:=Tree.walkE_spec.1 t 1 0 (by omega) (by omega)
 refine z13 z15 Tryz.func213 rfl rfl 8 Tryz.ntmps213 (by simp) ?_
 repeat' ((first|(apply y76 ok;rfl)|((apply z74)<;>intro _)|(apply z18 [1] [] hk;rfl;rfl;rfl))<;>conv=>whnf)
 ·rename_i h
  exact z60 rfl rfl (by rw [if_neg (by unfold Tree.exprB;rw [h];simp)];rfl)
 ·rename_i h
  have e:=h2 h
  rw [Int.zero_add] at e
  exact z60 rfl rfl (by rw [if_pos (show t.exprB=true from h),show t.count 6=(t.walkE 1 0).1 from e.symm];rfl)
theorem z765 (t:Tree) (hm:t.mx):CallsA Tryz.prog 154 [z52 Tree.cs' t] [] (.bool t.exprB) []:=by
 refine z13 z15 Tryz.func154 rfl rfl 6 Tryz.ntmps154 (by simp) ?_
 repeat' ((first|(apply y76 ok;rfl)|(apply z6 (z766 t hm);rfl;rfl))<;>conv=>whnf)
 refine z20 rfl ?_
 have:=Tree.count_pos.1 t 6
 cases t.exprB
 ·simp
 ·simp;omega
theorem z523 (t:Tree) (hm:t.mx):CallsA Tryz.prog 153 [z52 Tree.cs' t] [] (.bool (!t.exprB)) []:=by
 refine z13 z15 Tryz.func153 rfl rfl 6 Tryz.ntmps153 (by simp) ?_
 repeat' ((first|(apply y76 ok;rfl)|(apply z6 (z765 t hm);rfl;rfl))<;>conv=>whnf)
 exact z20 rfl rfl
def z186 (l:List Tree):Bool:=decide ((l.length:Int)=3) && l.all Tree.exprB
theorem z334 (l:List Tree) (hl:l.length≤maxLen) (hm:∀ t∈l,t.mx):CallsA Tryz.prog 75 [lst 3 Tree.cs' l] [] (.bool (z186 l)) []:=by
 have hk:=z434 l hl (fun t=>!t.exprB) 153 (fun t ht=>z523 t (hm t ht))
 refine z13 z15 Tryz.func75 rfl rfl 11 Tryz.ntmps75 (by simp) ?_
 repeat' ((first|(apply y76 ok;rfl)|((apply z5)<;>intro _)|(apply z6 (hk);rfl;rfl))<;>conv=>whnf)
 ·refine z20 rfl ?_
  rename_i h
  unfold z186
  rw [y73 h,List.all_eq_not_any_not];rfl
 ·refine z20 rfl ?_
  rename_i h
  unfold z186
  rw [y74 h];rfl
theorem z598 (k:Int):CallsA Tryz.prog 266 [.int k] [] (.int (z329 k)) []:=by
 refine z13 z15 Tryz.func266 rfl rfl 15 Tryz.ntmps266 (by simp) ?_
 repeat' ((first|(apply y76 ok;rfl)|((apply z5)<;>intro _))<;>conv=>whnf)
 all_goals (refine z60 rfl rfl ?_;unfold z329;first|(rw [if_pos (by omega)];rfl)|(rw [if_neg (by omega),if_pos (by omega)];rfl)|(rw [if_neg (by omega),if_neg (by omega),if_pos (by omega)];rfl)|(rw [if_neg (by omega),if_neg (by omega),if_neg (by omega)];rfl))
theorem z954 (l:List Tree) (d:Int):Tree.shapes l d=l.all (fun t=>t.shape d):=by
 induction l with
 |nil=>rfl
 |cons t l ih=>simp [Tree.shapes,ih]
theorem z464 (t:Tree) (d:Int):t.shape d=(decide (1≤d∧(t.kids.length:Int)=z329 t.kind∧0≤t.val∧t.val≤z424 t.kind) && t.kids.all fun t=>t.shape (d - 1)):=by
 cases t;simp only [Tree.shape,Tree.kids,Tree.kind,Tree.val,z954];rfl
theorem z980 (t:Tree):t.mx→∀ d:Int,-100≤d→d≤100→CallsA Tryz.prog 246 [z52 Tree.cs' t,.int d] [] (.bool (t.shape d)) []:=by
  induction t using y24 with|h t ih=>?_
  intro hm d h0 h1
  rw [y25] at hm
  have hl:=hm.1
  unfold maxLen at hl
  rw [y14,z464]
  refine z13 z15 Tryz.func246 rfl rfl 49 Tryz.ntmps246 (by simp) ?_
  repeat' ((first|(apply y76 ok;rfl)|(apply z21;kernel_rfl)|((first|apply z5|apply z37)<;>intro _)|(apply z6 (z598 _);rfl;rfl))<;>conv=>whnf)
  all_goals first
    | (refine z20 rfl ?_
       rw [y74]
       · rfl
       · clear ih
         rintro ⟨c1,c2,c3,c4⟩
         unfold z424 at c4
         grind)
    | (have hg : decide (1 ≤ d ∧ (t.kids.length : Int) = z329 t.kind ∧ 0 ≤ t.val ∧ t.val ≤ z424 t.kind) = true := by
         clear ih
         refine y73 ?_
         unfold z424
         grind
       rw [hg,Bool.true_and]
       refine z94 (fun k:Nat=>([(1,.int d),(2,.ptr 0 none 0),(6,.int k)],[.cells 3 [[.int t.kind,.int t.val,lst 3 Tree.cs' t.kids]]])) (fun k=>k≤t.kids.length∧(t.kids.all fun t=>t.shape (d - 1))=(t.kids.drop k).all fun t=>t.shape (d - 1)) (fun k=>t.kids.length - k) 0 ⟨by omega,rfl⟩ ⟨[0],rfl,by decide,rfl,by repeat' (first|exact True.intro|exact ⟨rfl,rfl⟩|apply y36),by repeat' (first|exact True.intro|exact z24 rfl rfl|apply y36)⟩ ?_
       intro k hk
       repeat' ((first|(apply y76 ok;rfl)|(apply y36;first|omega|(unfold inI;omega))|(((with_reducible apply z8;omega));intro _)|((first|apply z5|apply z74)<;>intro _)|(apply z6 (ih t.kids[k] (y37 _) (hm.2 _ (y37 _)) (d - 1) (by omega) (by omega));rfl;rfl))<;>conv=>whnf)
       · rename_i h1
         exact z20 rfl (by rw [hk.2,z158 _ _ _ (by assumption)];simp [h1])
       · rename_i h1
         exact z79 (k+1) [0] ⟨by omega,by rw [hk.2,z158 _ _ _ (by assumption)];simp [h1]⟩ (by omega) ⟨rfl,by decide,rfl,by repeat' (first|exact True.intro|exact ⟨rfl,rfl⟩|apply y36),by repeat' (first|exact True.intro|exact z24 rfl rfl|apply y36)⟩
       · exact z20 rfl (by rw [hk.2,z150 _ _ _ (by omega)]))
theorem z476 (t:Tree) (d:Int):t.count d=if 0 < d then 1+(t.kids.map fun t=>t.count (d - 1)).sum else 1:=by
 have:∀ (l:List Tree) d,Tree.counts l d=(l.map fun t=>t.count d).sum:=by
  intro l d
  induction l with
  |nil=>rfl
  |cons t l ih=>simp [Tree.counts,ih]
 cases t;simp only [Tree.count,Tree.kids,this]
theorem count_le (t:Tree):∀ d n:Nat,t.shape d=true→t.count n≤2 ^ d - 1:=by
 induction t using y24 with|h t ih=>?_
 intro d n h
 rw [z464,y63,decide_eq_true_eq] at h
 obtain ⟨⟨h1,h2,_,_⟩,h3⟩:=h
 rw [y70] at h3
 obtain ⟨d,rfl⟩:∃ e,d=e+1:=⟨d - 1,by omega⟩
 have e:((d+1:Nat):Int) - 1=(d:Nat):=by omega
 rw [e] at h3
 rw [z476]
 have hp:(1:Int)≤2 ^ d:=by exact_mod_cast Nat.one_le_two_pow
 have hq:((2:Int) ^ (d+1))=2 * 2 ^ d:=by rw [Int.pow_succ];omega
 split
 ·rename_i hn
  obtain ⟨n,rfl⟩:∃ e,n=e+1:=⟨n - 1,by omega⟩
  have e:((n+1:Nat):Int) - 1=(n:Nat):=by omega
  rw [e]
  have hl:(t.kids.length:Int)≤2:=by rw [h2];unfold z329;grind
  have hk:∀ u∈t.kids,u.count n≤2 ^ d - 1:=fun u hu=>ih u hu d n (h3 u hu)
  match hkk:t.kids with
  |[]=>simp only [List.map_nil,List.sum_nil];omega
  |[a] =>
   have:=hk a (by simp [hkk])
   simp only [List.map_cons,List.map_nil,List.sum_cons,List.sum_nil];omega
  |[a,b] =>
   have:=hk a (by simp [hkk])
   have:=hk b (by simp [hkk])
   simp only [List.map_cons,List.map_nil,List.sum_cons,List.sum_nil];omega
  |a::b::c::r=>rw [hkk] at hl;simp only [y51] at hl;omega
 ·omega
theorem z463 (f:Tree→Int) (l:List Tree) (k:Nat) (hk:k < l.length):((l.take (k+1)).map f).sum=((l.take k).map f).sum+f l[k]:=by
 rw [y43 hk,y56,List.sum_append];simp
theorem z861 (t:Tree) (e d:Int) (he:e≤50) (hd:0≤d) (h:t.shape e=true):t.count d≤2 ^ 50:=by
 have h1:1≤e:=by
  rw [z464,y63,decide_eq_true_eq] at h;exact h.1.1
 obtain ⟨n,rfl⟩:=Int.eq_ofNat_of_zero_le (show 0≤e by omega)
 obtain ⟨m,rfl⟩:=Int.eq_ofNat_of_zero_le hd
 have h2:=count_le t n m h
 have h4:(2:Int) ^ n≤2 ^ 50:=by exact_mod_cast Nat.pow_le_pow_right (by omega) (by omega)
 omega
theorem z981 (t:Tree):t.mx→∀ e d:Int,e≤50→0≤d→d≤50→t.shape e=true→CallsA Tryz.prog 247 [z52 Tree.cs' t,.int d] [] (.int (t.count d)) []:=by
 induction t using y24 with|h t ih=>?_
 intro hm e d h0 h1 h2 hs
 rw [y25] at hm
 rw [z464,y63,decide_eq_true_eq,y70] at hs
 obtain ⟨⟨hs1,hs2,_,_⟩,hs3⟩:=hs
 have hl:(t.kids.length:Int)≤2:=by rw [hs2];unfold z329;grind
 rw [y14,z476]
 have hb:0 < d→∀ k,k≤t.kids.length→0≤((t.kids.take k).map fun t=>t.count (d - 1)).sum∧((t.kids.take k).map fun t=>t.count (d - 1)).sum≤k * 2 ^ 50:=by
  intro hd k
  induction k with
  |zero=>intro _;simp
  |succ k ihk =>
   intro hk
   have h1:=ihk (by omega)
   rw [z463 _ _ _ (by omega)]
   have h2:=z861 t.kids[k] (e - 1) (d - 1) (by omega) (by omega) (hs3 _ (y37 _))
   have h3:=Tree.count_pos.1 t.kids[k] (d - 1)
   omega
 refine z13 z15 Tryz.func247 rfl rfl 29 Tryz.ntmps247 (by simp) ?_
 repeat' (((apply y76 ok;rfl))<;>conv=>whnf)
 by_cases hd:0 < d
 ·rw [if_pos hd]
  refine z94 (fun k:Nat=>([(1,.int d),(2,.ptr 0 none 0),(5,.int (1+((t.kids.take k).map fun t=>t.count (d - 1)).sum)),(6,.int k)],[.cells 3 [[.int t.kind,.int t.val,lst 3 Tree.cs' t.kids]]])) (fun k=>k≤t.kids.length) (fun k=>t.kids.length - k) 0 (by omega) ⟨[0],rfl,by decide,rfl,by repeat' (first|exact True.intro|exact ⟨rfl,rfl⟩|apply y36),by repeat' (first|exact True.intro|exact z24 rfl rfl|apply y36)⟩ ?_
  intro k hk
  have hbk:=hb hd k hk
  have hbk1:=fun h=>hb hd (k+1) h
  have hss:=fun h=>z463 (fun t=>t.count (d - 1)) t.kids k h
  repeat' ((first|(apply y76 ok;rfl)|(apply y36;first|omega|(unfold inI;omega))|(((with_reducible apply z8;omega));intro _)|((apply z5)<;>intro _)|(apply z6 (ih t.kids[k] (y37 _) (hm.2 _ (y37 _)) (e - 1) (d - 1) (by omega) (by omega) (by omega) (hs3 _ (y37 _)));rfl;rfl))<;>conv=>whnf)
  ·have e1:=hss ‹_›
   have e2:=hbk1 (by omega)
   refine y36 (by unfold inI;omega) ?_
   conv=>whnf
   repeat' ((first|(apply y76 ok;rfl)|(apply y36;(unfold inI;omega)))<;>conv=>whnf)
   exact z79 (k+1) [0] (by omega) (by omega) ⟨rfl,by decide,rfl,⟨⟨rfl,rfl⟩,⟨rfl,rfl⟩,⟨rfl,by rw [e1,← Int.add_assoc];rfl⟩,⟨rfl,rfl⟩,trivial⟩,⟨z24 rfl rfl,trivial⟩⟩
  ·omega
  ·obtain rfl:k=t.kids.length:=by omega
   exact z60 rfl rfl (by rw [y49];rfl)
 ·rw [if_neg hd]
  refine z94 (fun k:Nat=>([(1,.int d),(2,.ptr 0 none 0),(5,.int 1),(6,.int k)],[.cells 3 [[.int t.kind,.int t.val,lst 3 Tree.cs' t.kids]]])) (fun k=>k≤t.kids.length) (fun k=>t.kids.length - k) 0 (by omega) ⟨[0],rfl,by decide,rfl,by repeat' (first|exact True.intro|exact ⟨rfl,rfl⟩|apply y36),by repeat' (first|exact True.intro|exact z24 rfl rfl|apply y36)⟩ ?_
  intro k hk
  repeat' ((first|(apply y76 ok;rfl)|(apply y36;omega)|(((with_reducible apply z8;omega));intro _)|((apply z5)<;>intro _))<;>conv=>whnf)
  ·omega
  ·exact z60 rfl rfl rfl
  ·exact z60 rfl rfl rfl
theorem z141 (t:Tree) (hm:t.mx):CallsA Tryz.prog 210 [z52 Tree.cs' t] [] (.bool t.exprB) []:=by
 rw [y17]
 refine z13 z15 Tryz.func210 rfl rfl 10 Tryz.ntmps210 (by simp) ?_
 repeat' ((first|(apply y76 ok;rfl)|((apply z87)<;>intro _)|(apply z6 (z980 t hm 6 (by omega) (by omega));rfl;rfl)|(apply z6 (z981 t hm 6 6 (by omega) (by omega) (by omega) (by assumption));rfl;rfl))<;>conv=>whnf)
 all_goals (refine z20 rfl ?_;(simp [*];done))
theorem z366 (l:List Tree) (hl:l.length≤maxLen) (hm:∀ t∈l,t.mx):CallsA Tryz.prog 145 [lst 3 Tree.cs' l] [] (.bool (z186 l)) []:=by
 unfold maxLen at hl
 unfold z186
 refine z13 z15 Tryz.func145 rfl rfl 19 Tryz.ntmps145 (by simp) ?_
 repeat' (((apply y76 ok;rfl))<;>conv=>whnf)
 refine z94 (fun k:Nat=>([(0,lst 3 Tree.cs' l),(3,.int k)],[])) (fun k=>k≤l.length∧l.all Tree.exprB=(l.drop k).all Tree.exprB) (fun k=>l.length - k) 0 ⟨by omega,rfl⟩ ⟨[],rfl,by decide,rfl,by repeat' (first|exact True.intro|exact ⟨rfl,rfl⟩|apply y36),by repeat' (exact True.intro)⟩ ?_
 intro k hk
 repeat' ((first|(apply y76 ok;rfl)|(apply y36;first|omega|(unfold inI;omega))|(((with_reducible apply z8;omega));intro _)|((first|apply z5|apply z74)<;>intro _)|(apply z6 (z141 l[k] (hm _ (y37 _)));rfl;rfl))<;>conv=>whnf)
 ·rename_i h1
  exact z20 rfl (by rw [hk.2,z158 _ _ _ (by assumption)];simp [h1])
 ·rename_i h1
  exact z79 (k+1) [] ⟨by omega,by rw [hk.2,z158 _ _ _ (by assumption)];simp [h1]⟩ (by omega) ⟨rfl,by decide,rfl,by repeat' (first|exact True.intro|exact ⟨rfl,rfl⟩|apply y36),by repeat' (exact True.intro)⟩
 ·exact z20 rfl (by rw [hk.2,z150 _ _ _ (by omega),Bool.and_true])
theorem z883 (b:Bool):CallsA Tryz.prog 250 [.bool b] [] (.int (b2i b)) []:=by
 refine z13 z15 Tryz.func250 rfl rfl 4 Tryz.ntmps250 (by simp) ?_
 repeat' ((first|(apply y76 ok;rfl)|((apply z87)<;>intro _))<;>conv=>whnf)
 all_goals (refine z60 rfl rfl ?_;simp only [*];rfl)
theorem z756 (b:Bool):CallsA Tryz.prog 267 [.bool b] [] (.int (b2i b)) []:=by
 refine z13 z15 Tryz.func267 rfl rfl 4 Tryz.ntmps267 (by simp) ?_
 repeat' ((first|(apply y76 ok;rfl)|((apply z87)<;>intro _))<;>conv=>whnf)
 all_goals (refine z60 rfl rfl ?_;simp only [*];rfl)
theorem z600 {t:Tree} (hg:t.good):(∃ x,t=.mk 1 x []∧0≤x∧x≤3)∨(∃ x,t=.mk 2 x []∧0≤x∧x≤2)∨(∃ x a,t=.mk 3 x [a]∧a.good)∨(∃ k x a b,t=.mk k x [a,b]∧4≤k∧k≤9∧a.good∧b.good):=by
 obtain ⟨g1,g2,g3,g4⟩:=y22 hg
 obtain ⟨k,x,l⟩:=t
 simp only [Tree.kind,Tree.val,Tree.kids] at *
 unfold z329 at g1
 unfold z424 at g3
 match l,g1,g4 with
 |[],g1,_ =>
  simp only [y52] at g1
  have:k=1∨k=2:=by grind
  rcases this with rfl|rfl
  ·exact .inl ⟨x,rfl,g2,by grind⟩
  ·exact .inr (.inl ⟨x,rfl,g2,by grind⟩)
 |[a],g1,g4 =>
  simp only [y51,y52] at g1
  have:k=3:=by grind
  subst this
  exact .inr (.inr (.inl ⟨x,a,rfl,g4 a (by simp)⟩))
 |[a,b],g1,g4 =>
  simp only [y51,y52] at g1
  exact .inr (.inr (.inr ⟨k,x,a,b,rfl,by grind,by grind,g4 a (by simp),g4 b (by simp)⟩))
 |a::b::c::r,g1,_=>simp only [y51] at g1;grind
theorem eval_ok (v:List Int) (hv:ValsOk v) (t:Tree):t.good→CallsA Tryz.prog 214 [z52 Tree.cs' t,ints v] [] (.int (t.ev v)) []:=by
 induction t using y24 with|h t ih=>?_
 intro hg
 have hl:=hv.1
 rw [y14]
 rcases z600 hg with ⟨x,rfl,h1,h2⟩|⟨x,rfl,h1,h2⟩|⟨x,a,rfl,h1⟩|⟨k,x,a,b,rfl,h1,h2,h3,h4⟩<;>simp only [Tree.kind,Tree.val,Tree.kids] at *
 ·refine z13 z15 Tryz.func214 rfl rfl 82 Tryz.ntmps214 (by simp) ?_
  repeat' (((apply y76 ok;rfl))<;>conv=>whnf)
  all_goals (exact z60 rfl rfl (by rw [Tree.ev,if_pos rfl];rfl))
 ·refine z13 z15 Tryz.func214 rfl rfl 82 Tryz.ntmps214 (by simp) ?_
  repeat' ((first|(apply y76 ok;rfl)|(apply y36;omega)|(apply z261;omega;intro _))<;>conv=>whnf)
  refine z60 rfl rfl ?_
  rw [Tree.ev,if_neg (by omega),if_pos rfl,y60,y38 (by omega)];rfl
 ·have ha:=y16 hv a h1
  refine z13 z15 Tryz.func214 rfl rfl 82 Tryz.ntmps214 (by simp) ?_
  repeat' ((first|(apply y76 ok;rfl)|(apply y36;omega)|apply z108|(apply z6 (ih a (by simp) h1);rfl;rfl)|(apply z6 (z883 _);rfl;rfl))<;>conv=>whnf)
  all_goals (refine z60 rfl rfl ?_;rw [Tree.ev,if_neg (by omega),if_neg (by omega)];simp only [Tree.evs];rfl)
 ·have ha:=y16 hv a h3
  have hb:=y16 hv b h4
  refine z13 z15 Tryz.func214 rfl rfl 82 Tryz.ntmps214 (by simp) ?_
  repeat' ((first|(apply y76 ok;rfl)|(apply y36;first|omega|(unfold inI;omega))|(((apply z8;omega));intro _)|apply z108|((first|apply z5|apply z37)<;>intro _)|(apply z6 (ih a (by simp) h3);rfl;rfl)|(apply z6 (ih b (by simp) h4);rfl;rfl)|(apply z6 (z883 _);rfl;rfl))<;>conv=>whnf)
  all_goals try (exfalso;omega)
  all_goals (refine z642 rfl ?_;clear ih;simp only [Tree.ev,Tree.evs,b2i];grind)
theorem z529 (v:List Int) (hv:ValsOk v) (t:Tree):t.good→CallsA Tryz.prog 248 [z52 Tree.cs' t,ints v] [] (.int (t.ev v)) []:=by
 induction t using y24 with|h t ih=>?_
 intro hg
 have hl:=hv.1
 rw [y14]
 rcases z600 hg with ⟨x,rfl,h1,h2⟩|⟨x,rfl,h1,h2⟩|⟨x,a,rfl,h1⟩|⟨k,x,a,b,rfl,h1,h2,h3,h4⟩<;>simp only [Tree.kind,Tree.val,Tree.kids] at *
 ·refine z13 z15 Tryz.func248 rfl rfl 86 Tryz.ntmps248 (by simp) ?_
  repeat' (((apply y76 ok;rfl))<;>conv=>whnf)
  all_goals (exact z60 rfl rfl (by rw [Tree.ev,if_pos rfl];rfl))
 ·refine z13 z15 Tryz.func248 rfl rfl 86 Tryz.ntmps248 (by simp) ?_
  repeat' ((first|(apply y76 ok;rfl)|(apply y36;omega)|(apply z261;omega;intro _))<;>conv=>whnf)
  refine z60 rfl rfl ?_
  rw [Tree.ev,if_neg (by omega),if_pos rfl,y60,y38 (by omega)];rfl
 ·have ha:=y16 hv a h1
  refine z13 z15 Tryz.func248 rfl rfl 86 Tryz.ntmps248 (by simp) ?_
  repeat' ((first|(apply y76 ok;rfl)|(apply y36;omega)|apply z108|(apply z6 (ih a (by simp) h1);rfl;rfl)|(apply z6 (z756 _);rfl;rfl))<;>conv=>whnf)
  all_goals (refine z60 rfl rfl ?_;rw [Tree.ev,if_neg (by omega),if_neg (by omega)];simp only [Tree.evs];rfl)
 ·have ha:=y16 hv a h3
  have hb:=y16 hv b h4
  refine z13 z15 Tryz.func248 rfl rfl 86 Tryz.ntmps248 (by simp) ?_
  repeat' ((first|(apply y76 ok;rfl)|(apply y36;first|omega|(unfold inI;omega))|(((apply z8;omega));intro _)|apply z108|((first|apply z5|apply z37)<;>intro _)|(apply z6 (ih a (by simp) h3);rfl;rfl)|(apply z6 (ih b (by simp) h4);rfl;rfl)|(apply z6 (z756 _);rfl;rfl))<;>conv=>whnf)
  all_goals try (exfalso;omega)
  all_goals (refine z642 rfl ?_;clear ih;simp only [Tree.ev,Tree.evs,b2i];grind)
def ltr (v:List Int) (l:List Tree) (k n:Nat):Nat:=match l with
 |[]=>n
 |t::r=>ltr v r (k+1) (if t.ev v=0 then n else n ||| 2 ^ k)
theorem z469 (v:List Int) (l:List Tree) (k n:Nat) (h:k < l.length):ltr v (l.drop k) k n=ltr v (l.drop (k+1)) (k+1) (if l[k].ev v=0 then n else n ||| 2 ^ k):=by
 rw [y71 h,ltr]
theorem z1083 (v:List Int) (l:List Tree) (k n:Nat) (h:l.length≤k):ltr v (l.drop k) k n=n:=by
 rw [y75 h,ltr]
def z28 (labels:List Tree) (s:State):Int:=ltr s.b labels 0 0
theorem or_lt {n k:Nat} (h:n < 2 ^ k):n ||| 2 ^ k < 2 ^ (k+1) :=
 Nat.or_lt_two_pow (by rw [Nat.pow_succ];omega) (by rw [Nat.pow_succ];have:=Nat.two_pow_pos k;omega)
def z178 (l:List Tree):Prop:=l.length=3∧∀ t∈l,t.good
theorem y7 {l:List Tree} (h:z186 l=true):z178 l:=by
 simp only [z186,y63,decide_eq_true_eq,y70] at h
 exact ⟨by omega,fun t ht=>y23 (h.2 t ht)⟩
theorem z1050 (k:Nat) (hk:k < 3):(1:Int) * 2 ^ ((k:Int).toNat)=((2 ^ k:Nat):Int):=by simp
theorem z512 {k:Nat} (hk:k < 3):2 ^ k≤8∧2 ^ (k+1)≤8∧0 < 2 ^ k:=by
 have:k=0∨k=1∨k=2:=by omega
 rcases this with rfl|rfl|rfl<;>simp
theorem z1085 (s:State) (hv:ValsOk s.b) (l:List Tree) (hl:z178 l):CallsA Tryz.prog 155 [ints s.b,lst 3 Tree.cs' l] [] (.int (z28 l s)) []:=by
 have h3:=hl.1
 refine z13 z15 Tryz.func155 rfl rfl 25 Tryz.ntmps155 (by simp) ?_
 repeat' (((apply y76 ok;rfl))<;>conv=>whnf)
 refine z94 (fun x:Nat×Nat=>([(0,ints s.b),(5,.int x.2),(8,lst 3 Tree.cs' l),(9,.int l.length),(10,.int x.1)],[])) (fun x=>x.1≤l.length∧x.2 < 2 ^ x.1∧ltr s.b l 0 0=ltr s.b (l.drop x.1) x.1 x.2) (fun x=>l.length - x.1) (0,0) ⟨by omega,by decide,rfl⟩ ⟨[],rfl,by decide,rfl,by repeat' (first|exact True.intro|exact ⟨rfl,rfl⟩|apply y36),by repeat' (exact True.intro)⟩ ?_
 rintro ⟨k,n⟩ ⟨hk1,hk2,hk3⟩
 dsimp only at hk1 hk2 hk3
 repeat' ((first|(apply y76 ok;rfl)|(apply y36;first|omega|(unfold inI;omega))|(((with_reducible apply z8;omega));intro _)|((first|apply z5|apply z37)<;>intro _)|(apply z6 (eval_ok s.b hv l[k] (hl.2 _ (y37 _)));rfl;rfl))<;>conv=>whnf)
 ·rename_i hkl h
  have hp:=z512 (show k < 3 by omega)
  have e:=z1050 k (by omega)
  refine y36 ⟨by omega,by omega,by rw [e];unfold inI;omega⟩ ?_
  conv=>whnf
  refine y36 (by rw [e];unfold z106;omega) ?_
  conv=>whnf
  repeat' ((first|(apply y76 ok;rfl)|(apply y36;(unfold inI;omega)))<;>conv=>whnf)
  rw [z469 _ _ _ _ hkl,if_neg h] at hk3
  refine z79 (k+1,n ||| 2 ^ k) [] ⟨by dsimp only;omega,or_lt hk2,hk3⟩ (by dsimp only;omega) ⟨rfl,by decide,rfl,⟨⟨rfl,rfl⟩,⟨rfl,?_⟩,⟨rfl,rfl⟩,⟨rfl,rfl⟩,⟨rfl,rfl⟩,trivial⟩,trivial⟩
  show AC.raw (.int .i64 (((n:Int).toNat ||| ((1:Int) * 2 ^ ((k:Int).toNat)).toNat:Nat):Int))=_
  rw [e];rfl
 ·rename_i hkl h
  rw [z469 _ _ _ _ hkl,if_pos h] at hk3
  have:2 ^ k≤2 ^ (k+1):=by rw [Nat.pow_succ];omega
  exact z79 (k+1,n) [] ⟨by dsimp only;omega,by dsimp only;omega,hk3⟩ (by dsimp only;omega) ⟨rfl,by decide,rfl,by repeat' (first|exact True.intro|exact ⟨rfl,rfl⟩|apply y36),by repeat' (exact True.intro)⟩
 ·rw [z1083 _ _ _ _ (by omega)] at hk3
  exact z60 rfl rfl (by unfold z28;rw [hk3];rfl)
theorem z840 (s:State) (hv:ValsOk s.b) (l:List Tree) (hl:z178 l):CallsA Tryz.prog 211 [z52 State.cs s,lst 3 Tree.cs' l] [] (.int (z28 l s)) []:=by
 have h3:=hl.1
 refine z13 z15 Tryz.func211 rfl rfl 27 Tryz.ntmps211 (by simp) ?_
 repeat' (((apply y76 ok;rfl))<;>conv=>whnf)
 refine z94 (fun x:Nat×Nat=>([(1,lst 3 Tree.cs' l),(2,.ptr 0 none 0),(5,.int x.2),(6,.int x.1)],[.cells 2 [[ints s.a,ints s.b]]])) (fun x=>x.1≤l.length∧x.2 < 2 ^ x.1∧ltr s.b l 0 0=ltr s.b (l.drop x.1) x.1 x.2) (fun x=>l.length - x.1) (0,0) ⟨by omega,by decide,rfl⟩ ⟨[0],rfl,by decide,rfl,by repeat' (first|exact True.intro|exact ⟨rfl,rfl⟩|apply y36),by repeat' (first|exact True.intro|exact z24 rfl rfl|apply y36)⟩ ?_
 rintro ⟨k,n⟩ ⟨hk1,hk2,hk3⟩
 dsimp only at hk1 hk2 hk3
 repeat' ((first|(apply y76 ok;rfl)|(apply z21;kernel_rfl)|(apply y36;first|omega|(unfold inI;omega))|(((with_reducible apply z8;omega));intro _)|((first|apply z5|apply z37)<;>intro _)|(apply z6 (z529 s.b hv l[k] (hl.2 _ (y37 _)));rfl;rfl))<;>conv=>whnf)
 ·rename_i hkl h
  have hp:=z512 (show k < 3 by omega)
  have e:=z1050 k (by omega)
  refine y36 ?_ ?_
  ·show IntKind.u64.wrap k=k
   have:k=0∨k=1∨k=2:=by dsimp only at hkl;omega
   rcases this with rfl|rfl|rfl<;>rfl
  conv=>whnf
  refine y36 ⟨by omega,by omega,by rw [e];unfold inI;omega⟩ ?_
  conv=>whnf
  refine y36 (by rw [e];unfold z106;omega) ?_
  conv=>whnf
  repeat' ((first|(apply y76 ok;rfl)|(apply y36;(unfold inI;omega)))<;>conv=>whnf)
  rw [z469 _ _ _ _ hkl,if_neg h] at hk3
  refine z79 (k+1,n ||| 2 ^ k) [0] ⟨by dsimp only;omega,or_lt hk2,hk3⟩ (by dsimp only;omega) ⟨rfl,by decide,rfl,⟨⟨rfl,rfl⟩,⟨rfl,rfl⟩,⟨rfl,?_⟩,⟨rfl,rfl⟩,trivial⟩,⟨z24 rfl rfl,trivial⟩⟩
  show AC.raw (.int .i64 (((n:Int).toNat ||| ((1:Int) * 2 ^ ((k:Int).toNat)).toNat:Nat):Int))=_
  rw [e];rfl
 ·rename_i hkl h
  rw [z469 _ _ _ _ hkl,if_pos h] at hk3
  have:2 ^ k≤2 ^ (k+1):=by rw [Nat.pow_succ];omega
  exact z79 (k+1,n) [0] ⟨by dsimp only;omega,by dsimp only;omega,hk3⟩ (by dsimp only;omega) ⟨rfl,by decide,rfl,by repeat' (first|exact True.intro|exact ⟨rfl,rfl⟩|apply y36),by repeat' (first|exact True.intro|exact z24 rfl rfl|apply y36)⟩
 ·rw [z1083 _ _ _ _ (by omega)] at hk3
  exact z60 rfl rfl (by unfold z28;rw [hk3];rfl)
theorem z1089 (g:Graph) (hg:∀ s∈g.st,ValsOk s.b) (hn:g.st.length≤60) (l:List Tree) (hl:z178 l):CallsA Tryz.prog 76 [.agg g.cs,lst 3 Tree.cs' l] [] (.sref 0 0 g.st.length) [.cells 1 (g.st.map fun s=>enI (z28 l s))]:=by
 refine z13 z15 Tryz.func76 rfl rfl 29 Tryz.ntmps76 (by simp) ?_
 repeat' ((first|(apply y76 ok;rfl)|(apply y36;(dsimp only;omega)))<;>conv=>whnf)
 refine z94 (fun k:Nat=>([(1,lst 3 Tree.cs' l),(5,.sref 0 0 g.st.length),(13,lst 2 State.cs g.st),(14,.int g.st.length),(15,.int k)],[.cells 1 ((g.st.take k).map (fun s=>enI (z28 l s))++List.replicate (g.st.length - k) (enI 0))])) (fun k=>k≤g.st.length) (fun k=>g.st.length - k) 0 (by omega) ⟨[1],rfl,by decide,rfl,by repeat' (first|exact True.intro|exact ⟨rfl,rfl⟩|apply y36),by repeat' (first|exact True.intro|exact z39 (by rfl) (by (first|exact z34|exact z42 rfl))|apply y36)⟩ ?_
 intro k hk
 repeat' ((first|(apply y76 ok;rfl)|(apply y36;first|omega|(unfold inI;omega))|(((with_reducible apply z8;omega));intro _)|(apply z193;omega)|((apply z5)<;>intro _)|(apply z6 (z1085 g.st[k] (hg _ (y37 _)) l hl);rfl;rfl))<;>conv=>whnf)
 ·rename_i h hkl
  exact z79 (k+1) [0] (by omega) (by omega) ⟨rfl,by decide,rfl,⟨⟨rfl,rfl⟩,⟨rfl,rfl⟩,⟨rfl,rfl⟩,⟨rfl,rfl⟩,⟨rfl,rfl⟩,trivial⟩,⟨z902 hkl rfl rfl rfl (fun _=>rfl) rfl,trivial⟩⟩
 ·exact z416 rfl (z4 fun _=>rfl) rfl (z920 _ _ _ _ (by omega))
theorem z911 (g:Graph) (hg:∀ s∈g.st,ValsOk s.b) (hn:g.st.length≤60) (l:List Tree) (hl:z178 l):CallsA Tryz.prog 76 [.agg g.cs,lst 3 Tree.cs' l] [] (ints (g.st.map (z28 l))) []:=by
 have h:=(z1089 g hg hn l hl).keep (z173 _ _) (by simp)
 unfold ints
 rw [y42,List.map_map]
 exact h
theorem z660 (g:Graph) (hg:∀ s∈g.st,ValsOk s.b) (hn:g.st.length≤60) (l:List Tree) (hl:z178 l):CallsA Tryz.prog 146 [.agg g.cs,lst 3 Tree.cs' l] [] (.sref 0 0 g.st.length) [.cells 1 (g.st.map fun s=>enI (z28 l s))]:=by
 refine z13 z15 Tryz.func146 rfl rfl 26 Tryz.ntmps146 (by simp) ?_
 repeat' (((apply y76 ok;rfl))<;>conv=>whnf)
 refine z94 (fun k:Nat=>([(1,lst 3 Tree.cs' l),(2,.ptr 0 none 0),(5,.sref 1 0 k),(6,.int k)],[.cells 2 [[lst 2 State.cs g.st,lst 1 encL g.nx]],.cells 1 ((g.st.take k).map fun s=>enI (z28 l s))])) (fun k=>k≤g.st.length) (fun k=>g.st.length - k) 0 (by omega) ⟨[0,1],rfl,by decide,rfl,by repeat' (first|exact True.intro|exact ⟨rfl,rfl⟩|apply y36),by repeat' (first|exact True.intro|exact z24 rfl rfl|exact z39 (by rfl) (by (exact z34))|apply y36)⟩ ?_
 intro k hk
 repeat' ((first|(apply y76 ok;rfl)|(apply y36;first|omega|(unfold inI;omega)|((try dsimp only);simp only [y42,y41,y40,y39,y51,y52];omega)|exact ⟨rfl,z19 rfl z26⟩)|(((with_reducible apply z8;omega));intro _)|((apply z5)<;>intro _)|(apply z6 (z840 g.st[k] (hg _ (y37 _)) l hl);rfl;rfl))<;>conv=>whnf)
 ·rename_i h hkl
  exact z79 (k+1) [0,3] (by omega) (by omega) ⟨rfl,by decide,rfl,⟨⟨rfl,rfl⟩,⟨rfl,rfl⟩,⟨rfl,rfl⟩,⟨rfl,rfl⟩,trivial⟩,⟨z24 rfl rfl,obj_app hkl _ rfl rfl rfl (fun _=>rfl),trivial⟩⟩
 ·obtain rfl:k=g.st.length:=by omega
  exact z416 rfl (z4 fun _=>rfl) rfl (by rw [y49])
theorem z744 (g:Graph) (hg:∀ s∈g.st,ValsOk s.b) (hn:g.st.length≤60) (l:List Tree) (hl:z178 l):CallsA Tryz.prog 146 [.agg g.cs,lst 3 Tree.cs' l] [] (ints (g.st.map (z28 l))) []:=by
 have h:=(z660 g hg hn l hl).keep (z173 _ _) (by simp)
 unfold ints
 rw [y42,List.map_map]
 exact h
theorem z755 (l:List Int) (hl:l.length≤maxLen):CallsA Tryz.prog 209 [ints l] [] (.bool (z407 l)) []:=by
 unfold maxLen at hl
 have e:z407 l=(l.all (fun n=>btw n 0 3) && decide ((l.length:Int)=3)):=by
  unfold z407;rw [Bool.and_comm,List.all_eq_not_any_not]
 rw [e]
 refine z13 z15 Tryz.func209 rfl rfl 25 Tryz.ntmps209 (by simp) ?_
 repeat' (((apply y76 ok;rfl))<;>conv=>whnf)
 refine z94 (fun k:Nat=>([(0,ints l),(3,.int k)],[])) (fun k=>k≤l.length∧l.all (fun n=>btw n 0 3)=(l.drop k).all (fun n=>btw n 0 3)) (fun k=>l.length - k) 0 ⟨by omega,rfl⟩ ⟨[],rfl,by decide,rfl,by repeat' (first|exact True.intro|exact ⟨rfl,rfl⟩|apply y36),by repeat' (exact True.intro)⟩ ?_
 intro k hk
 repeat' ((first|(apply y76 ok;rfl)|(apply y36;first|omega|(unfold inI;omega))|(((with_reducible apply z8;omega));intro _)|((apply z5)<;>intro _))<;>conv=>whnf)
 ·refine z20 rfl ?_
  have:btw l[k] 0 3=false:=z300.2 (by omega)
  rw [hk.2,z158 _ _ _ (by assumption),this];rfl
 ·refine z20 rfl ?_
  have:btw l[k] 0 3=false:=z300.2 (by omega)
  rw [hk.2,z158 _ _ _ (by assumption),this];rfl
 ·have:btw l[k] 0 3=true:=z97.2 (by omega)
  exact z79 (k+1) [] ⟨by omega,by rw [hk.2,z158 _ _ _ (by assumption),this];rfl⟩ (by omega) ⟨rfl,by decide,rfl,by repeat' (first|exact True.intro|exact ⟨rfl,rfl⟩|apply y36),by repeat' (exact True.intro)⟩
 ·exact z20 rfl (by rw [hk.2,z150 _ _ _ (by omega),Bool.true_and])
theorem z662 (l:List Int) (hl:l.length≤maxLen) (v:Int):CallsA Tryz.prog 202 [ints l,.int v] [] (.bool (decide (v∈l))) []:=by
 unfold maxLen at hl
 have e:decide (v∈l)=l.any (fun x=>decide (x=v)):=by
  rw [Bool.eq_iff_iff];simp
 rw [e]
 refine z13 z15 Tryz.func202 rfl rfl 18 Tryz.ntmps202 (by simp) ?_
 repeat' (((apply y76 ok;rfl))<;>conv=>whnf)
 refine z94 (fun k:Nat=>([(0,ints l),(1,.int v),(5,.int k)],[])) (fun k=>k≤l.length∧l.any (fun x=>decide (x=v))=(l.drop k).any (fun x=>decide (x=v))) (fun k=>l.length - k) 0 ⟨by omega,rfl⟩ ⟨[],rfl,by decide,rfl,by repeat' (first|exact True.intro|exact ⟨rfl,rfl⟩|apply y36),by repeat' (exact True.intro)⟩ ?_
 intro k hk
 repeat' ((first|(apply y76 ok;rfl)|(apply y36;first|omega|(unfold inI;omega))|(((with_reducible apply z8;omega));intro _)|((apply z5)<;>intro _))<;>conv=>whnf)
 ·rename_i h
  exact z20 rfl (by rw [hk.2,z925 _ _ _ (by assumption),y73 h];rfl)
 ·rename_i h
  exact z79 (k+1) [] ⟨by omega,by rw [hk.2,z925 _ _ _ (by assumption),y74 h];rfl⟩ (by omega) ⟨rfl,by decide,rfl,by repeat' (first|exact True.intro|exact ⟨rfl,rfl⟩|apply y36),by repeat' (exact True.intro)⟩
 ·exact z20 rfl (by rw [hk.2,z769 _ _ _ (by omega)])
theorem Distinct.le {l:List Int} {n:Int} (h:Distinct l n l.length) (h0:0≤n):(l.length:Int)≤n:=by
 have hnd:(l.map Int.toNat).Nodup:=by
  rw [List.nodup_iff_pairwise_ne,List.pairwise_map,List.pairwise_iff_getElem]
  intro i j hi hj hij he
  have h1:=h i hi hi
  have h2:=h j hj hj
  refine h2.2 ?_
  have:l[j]=l[i]:=by omega
  rw [this,List.mem_take_iff_getElem]
  exact ⟨i,by omega,rfl⟩
 have hsub:(l.map Int.toNat) ⊆ List.range n.toNat:=by
  intro x hx
  obtain ⟨y,hy,rfl⟩:=List.mem_map.1 hx
  obtain ⟨i,hi,rfl⟩:=List.mem_iff_getElem.1 hy
  have:=(h i hi hi).1
  rw [y53];omega
 have:=hnd.length_le_of_subset hsub
 simp at this
 omega
def RowOk (g:Graph) (i:Nat):Prop:=∀ (h:i < g.nx.length) (h' : i < g.st.length),1≤g.nx[i].length∧g.nx[i].length≤g.st.length∧z407 g.st[i].b=true∧Distinct g.nx[i] g.st.length g.nx[i].length
def GB (g:Graph):Prop:=(1≤g.st.length∧g.st.length≤60)∧g.nx.length=g.st.length∧∀ i,i < g.nx.length→RowOk g i
theorem z711 {n:Int} {l:List Int} : z808 n l=true↔1≤l.length∧Distinct l n l.length:=by
 unfold z808
 rw [y63,decide_eq_true_eq,Bool.not_eq_true',decide_eq_false_iff_not]
 exact and_congr (by omega) Iff.rfl
theorem z69 (g:Graph):z206 g=true↔GB g:=by
 unfold z206 GB
 simp only [y63,z97,decide_eq_true_eq,Bool.not_eq_true',List.any_eq_false]
 constructor
 ·rintro ⟨h1,h2,h3,h4⟩
  refine ⟨by omega,by omega,fun i hi h h'=>?_⟩
  have h5:=z711.1 (by simpa using h4 _ (y37 h))
  have h6:=h5.2.le (by omega)
  exact ⟨h5.1,by omega,by simpa using h3 _ (y37 h'),h5.2⟩
 ·rintro ⟨h1,h2,h3⟩
  refine ⟨by omega,by omega,fun s hs=>?_,fun l hl=>?_⟩
  ·obtain ⟨i,hi,rfl⟩:=List.mem_iff_getElem.1 hs
   simpa using (h3 i (by omega) (by omega) hi).2.2.1
  ·obtain ⟨i,hi,rfl⟩:=List.mem_iff_getElem.1 hl
   have:=h3 i hi hi (by omega)
   simpa using z711.2 ⟨this.1,this.2.2.2⟩
set_option maxHeartbeats 800000 in
theorem z411 (g:Graph) (hg:g.mx):CallsA Tryz.prog 144 [.agg g.cs] [] (.bool (z206 g)) []:=by
 obtain ⟨hs,hn,hm⟩:=hg
 have hl1:=hs.1
 unfold maxLen at hl1 hn
 have hiff:=z69 g
 refine z13 z15 Tryz.func144 rfl rfl 111 Tryz.ntmps144 (by simp) ?_
 repeat' ((first|(apply y76 ok;rfl)|((first|apply z5|apply z37)<;>intro _))<;>conv=>whnf)
 ·exact z20 rfl (by rw [← y64,hiff];rintro ⟨h1,h2,_⟩;omega)
 ·exact z20 rfl (by rw [← y64,hiff];rintro ⟨h1,h2,_⟩;omega)
 ·exact z20 rfl (by rw [← y64,hiff];rintro ⟨h1,h2,_⟩;omega)
 rename_i b1 b2 b3
 have hne:g.nx.length=g.st.length:=by omega
 refine z94 (fun k:Nat=>([(1,.ptr 0 none 0),(3,.int k)],[.cells 2 [[lst 2 State.cs g.st,lst 1 encL g.nx]]])) (fun k=>k≤g.nx.length∧∀ i,i < k→RowOk g i) (fun k=>g.nx.length - k) 0 ⟨by omega,fun i h=>by omega⟩ ⟨[0],rfl,by decide,rfl,by repeat' (first|exact True.intro|exact ⟨rfl,rfl⟩|apply y36),by repeat' (first|exact True.intro|exact z24 rfl rfl|apply y36)⟩ ?_
 intro k hk
 have bad:k < g.nx.length→¬ RowOk g k→z206 g=false:=fun h1 h2=>by
  rw [← y64,hiff];rintro ⟨_,_,h3⟩;exact h2 (h3 k h1)
 repeat' ((first|(apply y76 ok;rfl)|(apply z21;kernel_rfl)|(apply y36;omega)|(((with_reducible apply z8;omega));intro _)|((first|apply z5|apply z74)<;>intro _)|(apply z6 (z755 _ (hs.2 _ (y37 _)).2);rfl;rfl))<;>conv=>whnf)
 ·refine z20 rfl (bad (by assumption) fun h=>?_)
  have:=h (by assumption) (by omega);omega
 ·refine z20 rfl (bad (by assumption) fun h=>?_)
  have:=h (by assumption) (by omega);omega
 ·rename_i hv
  refine z20 rfl (bad (by assumption) fun h=>?_)
  have:=h (by assumption) (by omega)
  rw [hv] at this;simp at this
 ·rename_i hv
  have hkn:k < g.nx.length:=by assumption
  have hks:k < g.st.length:=by omega
  refine z94 (fun j:Nat=>([(1,.ptr 0 none 0),(3,.int k),(4,.int j)],[.cells 2 [[lst 2 State.cs g.st,lst 1 encL g.nx]]])) (fun j=>j≤g.nx[k].length∧Distinct g.nx[k] g.st.length j) (fun j=>g.nx[k].length - j) 0 ⟨by omega,fun i h hi=>by omega⟩ ⟨[0],rfl,by decide,rfl,by repeat' (first|exact True.intro|exact ⟨rfl,rfl⟩|apply y36),by repeat' (first|exact True.intro|exact z24 rfl rfl|apply y36)⟩ ?_
  intro j hj
  repeat' ((first|(apply y76 ok;rfl)|(apply z21;kernel_rfl)|(apply y36;first|omega|(unfold inI;omega))|(((with_reducible apply z8;omega));intro _)|((apply z5)<;>intro _))<;>conv=>whnf)
  ·refine z20 rfl (bad hkn fun h=>?_)
   have:=((h hkn hks).2.2.2 j (by assumption) (by assumption)).1;omega
  ·refine z20 rfl (bad hkn fun h=>?_)
   have:=((h hkn hks).2.2.2 j (by assumption) (by assumption)).1;omega
  ·apply z6 (z662 (g.nx[k].take j) (by rw [y41];unfold maxLen;omega) g.nx[k][j])
   ·show _=[AC.list 1 _ _,_]
    rw [show AC.list 1 (g.nx[k].take j).length ((g.nx[k].take j).map enI)=_ from (z311 1 enI g.nx[k] j hj.1).symm]
    rfl
   ·rfl
   conv=>whnf
   repeat' ((first|(apply y76 ok;rfl)|(apply z21;kernel_rfl)|(apply y36;(unfold inI;omega))|((apply z5)<;>intro _))<;>conv=>whnf)
   ·rename_i h2
    exact z20 rfl (bad hkn fun h=>((h hkn hks).2.2.2 j (by assumption) (by assumption)).2 h2)
   ·rename_i h2
    refine z79 (j+1) [0] ⟨by omega,fun i hi hik=>?_⟩ (by omega) ⟨rfl,by decide,rfl,by repeat' (first|exact True.intro|exact ⟨rfl,rfl⟩|apply y36),by repeat' (first|exact True.intro|exact z24 rfl rfl|apply y36)⟩
    rcases y62 i j with h3|h3
    ·exact hj.2 i hi h3
    ·obtain rfl:i=j:=by omega
     exact ⟨by omega,h2⟩
  ·refine z79 (k+1) [0] ⟨by omega,fun i hi=>?_⟩ (by omega) ⟨rfl,by decide,rfl,by repeat' (first|exact True.intro|exact ⟨rfl,rfl⟩|apply y36),by repeat' (first|exact True.intro|exact z24 rfl rfl|apply y36)⟩
   rcases y62 i k with h3|h3
   ·exact hk.2 i h3
   ·obtain rfl:i=k:=by omega
    intro _ _
    obtain rfl:j=g.nx[i].length:=by omega
    exact ⟨by omega,by omega,hv,hj.2⟩
 ·exact z20 rfl (by rw [hiff];exact ⟨by omega,hne,fun i hi=>hk.2 i (by omega)⟩)
end Go.Proofs.YtahhobgjcfionaaGreat
