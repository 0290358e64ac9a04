/- A part of the proofs over this program: Tab, T3, T4, T5, T6, T7, T8, T9, T10, T11, T12, T13, T15, T16, T17, T18. -/
import Derived.Test.YtahhobgjcfionaaGreatG0
import Derived.Test.YtahhobgjcfionaaGreatG1
import Derived.Test.YtahhobgjcfionaaGreatG2
import Derived.Test.YtahhobgjcfionaaGreatG3
import Derived.Test.YtahhobgjcfionaaGreatProg
import Derived.KernelRfl
set_option linter.all false
namespace Go.Proofs.YtahhobgjcfionaaGreat
open Go.Gl
def tabL:List (Nat×TyI):=[
 (3,⟨.int .i64,1,8,.int .i64 0⟩),
 (28,⟨.slice 3,1,24,.slice none 0 0⟩),
 (76, ⟨.struct #[{ name := "Kind", type := 3, offset := 0, embedded := false, tag := "", pkgPath := "", byteOffset := 0 }, { name := "Atom", type := 3, offset := 1, embedded := false, tag := "", pkgPath := "", byteOffset := 8 }, { name := "Kids", type := 74, offset := 2, embedded := false, tag := "", pkgPath := "", byteOffset := 16 }], 3, 40, .agg #[.int .i64 0, .int .i64 0, .slice none 0 0]⟩),
 (32, ⟨.struct #[{ name := "Initial", type := 28, offset := 0, embedded := false, tag := "", pkgPath := "", byteOffset := 0 }, { name := "Accepting", type := 29, offset := 1, embedded := false, tag := "", pkgPath := "", byteOffset := 24 }, { name := "Edges", type := 30, offset := 2, embedded := false, tag := "", pkgPath := "", byteOffset := 48 }], 3, 72, .agg #[.slice none 0 0, .slice none 0 0, .slice none 0 0]⟩),
 (26, ⟨.struct #[{ name := "States", type := 23, offset := 0, embedded := false, tag := "", pkgPath := "", byteOffset := 0 }, { name := "Next", type := 24, offset := 1, embedded := false, tag := "", pkgPath := "", byteOffset := 24 }], 2, 48, .agg #[.slice none 0 0, .slice none 0 0]⟩),
 (74,⟨.slice 76,1,24,.slice none 0 0⟩),
 (158, ⟨.struct #[{ name := "Kind", type := 3, offset := 0, embedded := false, tag := "", pkgPath := "", byteOffset := 0 }, { name := "Value", type := 3, offset := 1, embedded := false, tag := "", pkgPath := "", byteOffset := 8 }, { name := "Kids", type := 27, offset := 2, embedded := false, tag := "", pkgPath := "", byteOffset := 16 }], 3, 40, .agg #[.int .i64 0, .int .i64 0, .slice none 0 0]⟩),
 (24,⟨.slice 28,1,24,.slice none 0 0⟩),
 (50, ⟨.struct #[{ name := "Ranks", type := 28, offset := 0, embedded := false, tag := "", pkgPath := "", byteOffset := 0 }], 1, 24, .agg #[.slice none 0 0]⟩),
 (36, ⟨.struct #[{ name := "Stem", type := 28, offset := 0, embedded := false, tag := "", pkgPath := "", byteOffset := 0 }, { name := "Loop", type := 28, offset := 1, embedded := false, tag := "", pkgPath := "", byteOffset := 24 }], 2, 48, .agg #[.slice none 0 0, .slice none 0 0]⟩),
 (29,⟨.slice 4,1,24,.slice none 0 0⟩),
 (23,⟨.slice 126,1,24,.slice none 0 0⟩),
 (30,⟨.slice 146,1,24,.slice none 0 0⟩),
 (27,⟨.slice 158,1,24,.slice none 0 0⟩),
 (126, ⟨.struct #[{ name := "Locs", type := 28, offset := 0, embedded := false, tag := "", pkgPath := "", byteOffset := 0 }, { name := "Vals", type := 28, offset := 1, embedded := false, tag := "", pkgPath := "", byteOffset := 24 }], 2, 48, .agg #[.slice none 0 0, .slice none 0 0]⟩),
 (4,⟨.bool,1,1,.bool false⟩),
 (146, ⟨.struct #[{ name := "From", type := 3, offset := 0, embedded := false, tag := "", pkgPath := "", byteOffset := 0 }, { name := "Care", type := 3, offset := 1, embedded := false, tag := "", pkgPath := "", byteOffset := 8 }, { name := "Value", type := 3, offset := 2, embedded := false, tag := "", pkgPath := "", byteOffset := 16 }, { name := "To", type := 3, offset := 3, embedded := false, tag := "", pkgPath := "", byteOffset := 24 }], 4, 32, .agg #[.int .i64 0, .int .i64 0, .int .i64 0, .int .i64 0]⟩),
 (242, ⟨.struct #[{ name := "From", type := 3, offset := 0, embedded := false, tag := "", pkgPath := "", byteOffset := 0 }, { name := "To", type := 3, offset := 1, embedded := false, tag := "", pkgPath := "", byteOffset := 8 }, { name := "Guard", type := 158, offset := 2, embedded := false, tag := "", pkgPath := "", byteOffset := 16 }, { name := "Var", type := 3, offset := 5, embedded := false, tag := "", pkgPath := "", byteOffset := 56 }, { name := "Value", type := 158, offset := 6, embedded := false, tag := "", pkgPath := "", byteOffset := 64 }, { name := "Sync", type := 3, offset := 9, embedded := false, tag := "", pkgPath := "", byteOffset := 104 }], 10, 112, .agg #[.int .i64 0, .int .i64 0, .int .i64 0, .int .i64 0, .slice none 0 0, .int .i64 0, .int .i64 0, .int .i64 0, .slice none 0 0, .int .i64 0]⟩),
 (22,⟨.slice 5,1,24,.slice none 0 0⟩),
 (179,⟨.slice 240,1,24,.slice none 0 0⟩),
 (40, ⟨.struct #[{ name := "Stem", type := 28, offset := 0, embedded := false, tag := "", pkgPath := "", byteOffset := 0 }, { name := "Loop", type := 28, offset := 1, embedded := false, tag := "", pkgPath := "", byteOffset := 24 }], 2, 48, .agg #[.slice none 0 0, .slice none 0 0]⟩),
 (181, ⟨.struct #[{ name := "Init", type := 28, offset := 0, embedded := false, tag := "", pkgPath := "", byteOffset := 0 }, { name := "Processes", type := 179, offset := 1, embedded := false, tag := "", pkgPath := "", byteOffset := 24 }], 2, 48, .agg #[.slice none 0 0, .slice none 0 0]⟩),
 (238,⟨.slice 242,1,24,.slice none 0 0⟩),
 (240, ⟨.struct #[{ name := "Locations", type := 3, offset := 0, embedded := false, tag := "", pkgPath := "", byteOffset := 0 }, { name := "Edges", type := 238, offset := 1, embedded := false, tag := "", pkgPath := "", byteOffset := 8 }], 2, 32, .agg #[.int .i64 0, .slice none 0 0]⟩),
 (65, ⟨.struct #[{ name := "Kind", type := 3, offset := 0, embedded := false, tag := "", pkgPath := "", byteOffset := 0 }, { name := "Atom", type := 3, offset := 1, embedded := false, tag := "", pkgPath := "", byteOffset := 8 }, { name := "Kids", type := 63, offset := 2, embedded := false, tag := "", pkgPath := "", byteOffset := 16 }], 3, 40, .agg #[.int .i64 0, .int .i64 0, .slice none 0 0]⟩),
 (254,⟨.slice 256,1,24,.slice none 0 0⟩),
 (61, ⟨.struct #[{ name := "States", type := 59, offset := 0, embedded := false, tag := "", pkgPath := "", byteOffset := 0 }, { name := "Next", type := 24, offset := 1, embedded := false, tag := "", pkgPath := "", byteOffset := 24 }], 2, 48, .agg #[.slice none 0 0, .slice none 0 0]⟩),
 (256, ⟨.struct #[{ name := "set", type := 3, offset := 0, embedded := false, tag := "", pkgPath := "loop.example/ltlcheck/impl", byteOffset := 0 }, { name := "phase", type := 3, offset := 1, embedded := false, tag := "", pkgPath := "loop.example/ltlcheck/impl", byteOffset := 8 }], 2, 16, .agg #[.int .i64 0, .int .i64 0]⟩),
 (232,⟨.slice 236,1,24,.slice none 0 0⟩),
 (172, ⟨.struct #[{ name := "b", type := 22, offset := 0, embedded := false, tag := "", pkgPath := "loop.example/ltlcheck/spec", byteOffset := 0 }, { name := "p", type := 3, offset := 1, embedded := false, tag := "", pkgPath := "loop.example/ltlcheck/spec", byteOffset := 24 }], 2, 32, .agg #[.slice none 0 0, .int .i64 0]⟩),
 (253, ⟨.struct #[{ name := "basics", type := 74, offset := 0, embedded := false, tag := "", pkgPath := "loop.example/ltlcheck/impl", byteOffset := 0 }, { name := "untils", type := 28, offset := 1, embedded := false, tag := "", pkgPath := "loop.example/ltlcheck/impl", byteOffset := 24 }], 2, 48, .agg #[.slice none 0 0, .slice none 0 0]⟩),
 (5,⟨.int .u8,1,1,.int .u8 0⟩),
 (236, ⟨.struct #[{ name := "Process", type := 3, offset := 0, embedded := false, tag := "", pkgPath := "", byteOffset := 0 }, { name := "Edge", type := 3, offset := 1, embedded := false, tag := "", pkgPath := "", byteOffset := 8 }, { name := "Partner", type := 3, offset := 2, embedded := false, tag := "", pkgPath := "", byteOffset := 16 }, { name := "PartnerEdge", type := 3, offset := 3, embedded := false, tag := "", pkgPath := "", byteOffset := 24 }], 4, 32, .agg #[.int .i64 0, .int .i64 0, .int .i64 0, .int .i64 0]⟩),
 (59,⟨.slice 207,1,24,.slice none 0 0⟩),
 (62,⟨.slice 151,1,24,.slice none 0 0⟩),
 (63,⟨.slice 65,1,24,.slice none 0 0⟩),
 (251,⟨.pointer 253,1,8,.pointer none⟩),
 (277,⟨.map 256 3,1,8,.map none⟩),
 (281, ⟨.struct #[{ name := "care", type := 3, offset := 0, embedded := false, tag := "", pkgPath := "loop.example/ltlcheck/impl", byteOffset := 0 }, { name := "value", type := 3, offset := 1, embedded := false, tag := "", pkgPath := "loop.example/ltlcheck/impl", byteOffset := 8 }, { name := "to", type := 256, offset := 2, embedded := false, tag := "", pkgPath := "loop.example/ltlcheck/impl", byteOffset := 16 }], 4, 32, .agg #[.int .i64 0, .int .i64 0, .int .i64 0, .int .i64 0]⟩),
 (66, ⟨.struct #[{ name := "Ranks", type := 28, offset := 0, embedded := false, tag := "", pkgPath := "", byteOffset := 0 }], 1, 24, .agg #[.slice none 0 0]⟩),
 (151, ⟨.struct #[{ name := "Kind", type := 3, offset := 0, embedded := false, tag := "", pkgPath := "", byteOffset := 0 }, { name := "Value", type := 3, offset := 1, embedded := false, tag := "", pkgPath := "", byteOffset := 8 }, { name := "Kids", type := 62, offset := 2, embedded := false, tag := "", pkgPath := "", byteOffset := 16 }], 3, 40, .agg #[.int .i64 0, .int .i64 0, .slice none 0 0]⟩),
 (207, ⟨.struct #[{ name := "Locs", type := 28, offset := 0, embedded := false, tag := "", pkgPath := "", byteOffset := 0 }, { name := "Vals", type := 28, offset := 1, embedded := false, tag := "", pkgPath := "", byteOffset := 24 }], 2, 48, .agg #[.slice none 0 0, .slice none 0 0]⟩),
 (261,⟨.pointer 3,1,8,.pointer none⟩),
 (218,⟨.int .u64,1,8,.int .u64 0⟩),
 (270,⟨.map 3 3,1,8,.map none⟩),
 (279,⟨.slice 281,1,24,.slice none 0 0⟩),
 (183,⟨.slice 30,1,24,.slice none 0 0⟩),
 (201,⟨.func #[3] #[] false,1,8,.nilFunc⟩),
 (290,⟨.func #[76] #[] false,1,8,.nilFunc⟩)]
def tab:Tab:=z713 tabL
theorem inf3:(Tryz.prog.info? 3).map (fun j=>(j.zero,j.size,j.bytes))=some (some (.int .i64 0),1,8):=by kernel_rfl
theorem inf28:(Tryz.prog.info? 28).map (fun j=>(j.zero,j.size,j.bytes))=some (some (.slice none 0 0),1,24):=by kernel_rfl
theorem inf76:(Tryz.prog.info? 76).map (fun j=>(j.zero,j.size,j.bytes))=some (some (.agg #[.int .i64 0,.int .i64 0,.slice none 0 0]),3,40):=by kernel_rfl
theorem inf32:(Tryz.prog.info? 32).map (fun j=>(j.zero,j.size,j.bytes))=some (some (.agg #[.slice none 0 0,.slice none 0 0,.slice none 0 0]),3,72):=by kernel_rfl
theorem inf26:(Tryz.prog.info? 26).map (fun j=>(j.zero,j.size,j.bytes))=some (some (.agg #[.slice none 0 0,.slice none 0 0]),2,48):=by kernel_rfl
theorem inf74:(Tryz.prog.info? 74).map (fun j=>(j.zero,j.size,j.bytes))=some (some (.slice none 0 0),1,24):=by kernel_rfl
theorem inf158:(Tryz.prog.info? 158).map (fun j=>(j.zero,j.size,j.bytes))=some (some (.agg #[.int .i64 0,.int .i64 0,.slice none 0 0]),3,40):=by kernel_rfl
theorem inf24:(Tryz.prog.info? 24).map (fun j=>(j.zero,j.size,j.bytes))=some (some (.slice none 0 0),1,24):=by kernel_rfl
theorem inf50:(Tryz.prog.info? 50).map (fun j=>(j.zero,j.size,j.bytes))=some (some (.agg #[.slice none 0 0]),1,24):=by kernel_rfl
theorem inf36:(Tryz.prog.info? 36).map (fun j=>(j.zero,j.size,j.bytes))=some (some (.agg #[.slice none 0 0,.slice none 0 0]),2,48):=by kernel_rfl
theorem inf29:(Tryz.prog.info? 29).map (fun j=>(j.zero,j.size,j.bytes))=some (some (.slice none 0 0),1,24):=by kernel_rfl
theorem inf23:(Tryz.prog.info? 23).map (fun j=>(j.zero,j.size,j.bytes))=some (some (.slice none 0 0),1,24):=by kernel_rfl
theorem inf30:(Tryz.prog.info? 30).map (fun j=>(j.zero,j.size,j.bytes))=some (some (.slice none 0 0),1,24):=by kernel_rfl
theorem inf27:(Tryz.prog.info? 27).map (fun j=>(j.zero,j.size,j.bytes))=some (some (.slice none 0 0),1,24):=by kernel_rfl
theorem inf126:(Tryz.prog.info? 126).map (fun j=>(j.zero,j.size,j.bytes))=some (some (.agg #[.slice none 0 0,.slice none 0 0]),2,48):=by kernel_rfl
theorem inf4:(Tryz.prog.info? 4).map (fun j=>(j.zero,j.size,j.bytes))=some (some (.bool false),1,1):=by kernel_rfl
theorem inf146:(Tryz.prog.info? 146).map (fun j=>(j.zero,j.size,j.bytes))=some (some (.agg #[.int .i64 0,.int .i64 0,.int .i64 0,.int .i64 0]),4,32):=by kernel_rfl
theorem inf242:(Tryz.prog.info? 242).map (fun j=>(j.zero,j.size,j.bytes))=some (some (.agg #[.int .i64 0,.int .i64 0,.int .i64 0,.int .i64 0,.slice none 0 0,.int .i64 0,.int .i64 0,.int .i64 0,.slice none 0 0,.int .i64 0]),10,112):=by kernel_rfl
theorem inf22:(Tryz.prog.info? 22).map (fun j=>(j.zero,j.size,j.bytes))=some (some (.slice none 0 0),1,24):=by kernel_rfl
theorem inf179:(Tryz.prog.info? 179).map (fun j=>(j.zero,j.size,j.bytes))=some (some (.slice none 0 0),1,24):=by kernel_rfl
theorem inf40:(Tryz.prog.info? 40).map (fun j=>(j.zero,j.size,j.bytes))=some (some (.agg #[.slice none 0 0,.slice none 0 0]),2,48):=by kernel_rfl
theorem inf181:(Tryz.prog.info? 181).map (fun j=>(j.zero,j.size,j.bytes))=some (some (.agg #[.slice none 0 0,.slice none 0 0]),2,48):=by kernel_rfl
theorem inf238:(Tryz.prog.info? 238).map (fun j=>(j.zero,j.size,j.bytes))=some (some (.slice none 0 0),1,24):=by kernel_rfl
theorem inf240:(Tryz.prog.info? 240).map (fun j=>(j.zero,j.size,j.bytes))=some (some (.agg #[.int .i64 0,.slice none 0 0]),2,32):=by kernel_rfl
theorem inf65:(Tryz.prog.info? 65).map (fun j=>(j.zero,j.size,j.bytes))=some (some (.agg #[.int .i64 0,.int .i64 0,.slice none 0 0]),3,40):=by kernel_rfl
theorem inf254:(Tryz.prog.info? 254).map (fun j=>(j.zero,j.size,j.bytes))=some (some (.slice none 0 0),1,24):=by kernel_rfl
theorem inf61:(Tryz.prog.info? 61).map (fun j=>(j.zero,j.size,j.bytes))=some (some (.agg #[.slice none 0 0,.slice none 0 0]),2,48):=by kernel_rfl
theorem inf256:(Tryz.prog.info? 256).map (fun j=>(j.zero,j.size,j.bytes))=some (some (.agg #[.int .i64 0,.int .i64 0]),2,16):=by kernel_rfl
theorem inf232:(Tryz.prog.info? 232).map (fun j=>(j.zero,j.size,j.bytes))=some (some (.slice none 0 0),1,24):=by kernel_rfl
theorem inf172:(Tryz.prog.info? 172).map (fun j=>(j.zero,j.size,j.bytes))=some (some (.agg #[.slice none 0 0,.int .i64 0]),2,32):=by kernel_rfl
theorem inf253:(Tryz.prog.info? 253).map (fun j=>(j.zero,j.size,j.bytes))=some (some (.agg #[.slice none 0 0,.slice none 0 0]),2,48):=by kernel_rfl
theorem inf5:(Tryz.prog.info? 5).map (fun j=>(j.zero,j.size,j.bytes))=some (some (.int .u8 0),1,1):=by kernel_rfl
theorem inf236:(Tryz.prog.info? 236).map (fun j=>(j.zero,j.size,j.bytes))=some (some (.agg #[.int .i64 0,.int .i64 0,.int .i64 0,.int .i64 0]),4,32):=by kernel_rfl
theorem inf59:(Tryz.prog.info? 59).map (fun j=>(j.zero,j.size,j.bytes))=some (some (.slice none 0 0),1,24):=by kernel_rfl
theorem inf62:(Tryz.prog.info? 62).map (fun j=>(j.zero,j.size,j.bytes))=some (some (.slice none 0 0),1,24):=by kernel_rfl
theorem inf63:(Tryz.prog.info? 63).map (fun j=>(j.zero,j.size,j.bytes))=some (some (.slice none 0 0),1,24):=by kernel_rfl
theorem inf251:(Tryz.prog.info? 251).map (fun j=>(j.zero,j.size,j.bytes))=some (some (.pointer none),1,8):=by kernel_rfl
theorem inf277:(Tryz.prog.info? 277).map (fun j=>(j.zero,j.size,j.bytes))=some (some (.map none),1,8):=by kernel_rfl
theorem inf281:(Tryz.prog.info? 281).map (fun j=>(j.zero,j.size,j.bytes))=some (some (.agg #[.int .i64 0,.int .i64 0,.int .i64 0,.int .i64 0]),4,32):=by kernel_rfl
theorem inf66:(Tryz.prog.info? 66).map (fun j=>(j.zero,j.size,j.bytes))=some (some (.agg #[.slice none 0 0]),1,24):=by kernel_rfl
theorem inf151:(Tryz.prog.info? 151).map (fun j=>(j.zero,j.size,j.bytes))=some (some (.agg #[.int .i64 0,.int .i64 0,.slice none 0 0]),3,40):=by kernel_rfl
theorem inf207:(Tryz.prog.info? 207).map (fun j=>(j.zero,j.size,j.bytes))=some (some (.agg #[.slice none 0 0,.slice none 0 0]),2,48):=by kernel_rfl
theorem inf261:(Tryz.prog.info? 261).map (fun j=>(j.zero,j.size,j.bytes))=some (some (.pointer none),1,8):=by kernel_rfl
theorem inf218:(Tryz.prog.info? 218).map (fun j=>(j.zero,j.size,j.bytes))=some (some (.int .u64 0),1,8):=by kernel_rfl
theorem inf270:(Tryz.prog.info? 270).map (fun j=>(j.zero,j.size,j.bytes))=some (some (.map none),1,8):=by kernel_rfl
theorem inf279:(Tryz.prog.info? 279).map (fun j=>(j.zero,j.size,j.bytes))=some (some (.slice none 0 0),1,24):=by kernel_rfl
theorem inf183:(Tryz.prog.info? 183).map (fun j=>(j.zero,j.size,j.bytes))=some (some (.slice none 0 0),1,24):=by kernel_rfl
theorem inf201:(Tryz.prog.info? 201).map (fun j=>(j.zero,j.size,j.bytes))=some (some (.nilFunc),1,8):=by kernel_rfl
theorem inf290:(Tryz.prog.info? 290).map (fun j=>(j.zero,j.size,j.bytes))=some (some (.nilFunc),1,8):=by kernel_rfl
theorem z12:z118 Tryz.prog tab:=tabOk_of (⟨z58 Tryz.underlying3 inf3,⟨z58 Tryz.underlying28 inf28,⟨z58 Tryz.underlying76 inf76,⟨z58 Tryz.underlying32 inf32,⟨z58 Tryz.underlying26 inf26,⟨z58 Tryz.underlying74 inf74,⟨z58 Tryz.underlying158 inf158,⟨z58 Tryz.underlying24 inf24,⟨z58 Tryz.underlying50 inf50,⟨z58 Tryz.underlying36 inf36,⟨z58 Tryz.underlying29 inf29,⟨z58 Tryz.underlying23 inf23,⟨z58 Tryz.underlying30 inf30,⟨z58 Tryz.underlying27 inf27,⟨z58 Tryz.underlying126 inf126,⟨z58 Tryz.underlying4 inf4,⟨z58 Tryz.underlying146 inf146,⟨z58 Tryz.underlying242 inf242,⟨z58 Tryz.underlying22 inf22,⟨z58 Tryz.underlying179 inf179,⟨z58 Tryz.underlying40 inf40,⟨z58 Tryz.underlying181 inf181,⟨z58 Tryz.underlying238 inf238,⟨z58 Tryz.underlying240 inf240,⟨z58 Tryz.underlying65 inf65,⟨z58 Tryz.underlying254 inf254,⟨z58 Tryz.underlying61 inf61,⟨z58 Tryz.underlying256 inf256,⟨z58 Tryz.underlying232 inf232,⟨z58 Tryz.underlying172 inf172,⟨z58 Tryz.underlying253 inf253,⟨z58 Tryz.underlying5 inf5,⟨z58 Tryz.underlying236 inf236,⟨z58 Tryz.underlying59 inf59,⟨z58 Tryz.underlying62 inf62,⟨z58 Tryz.underlying63 inf63,⟨z58 Tryz.underlying251 inf251,⟨z58 Tryz.underlying277 inf277,⟨z58 Tryz.underlying281 inf281,⟨z58 Tryz.underlying66 inf66,⟨z58 Tryz.underlying151 inf151,⟨z58 Tryz.underlying207 inf207,⟨z58 Tryz.underlying261 inf261,⟨z58 Tryz.underlying218 inf218,⟨z58 Tryz.underlying270 inf270,⟨z58 Tryz.underlying279 inf279,⟨z58 Tryz.underlying183 inf183,⟨z58 Tryz.underlying201 inf201,⟨z58 Tryz.underlying290 inf290,trivial⟩⟩⟩⟩⟩⟩⟩⟩⟩⟩⟩⟩⟩⟩⟩⟩⟩⟩⟩⟩⟩⟩⟩⟩⟩⟩⟩⟩⟩⟩⟩⟩⟩⟩⟩⟩⟩⟩⟩⟩⟩⟩⟩⟩⟩⟩⟩⟩⟩)
end Go.Proofs.YtahhobgjcfionaaGreat
namespace Go.Proofs.YtahhobgjcfionaaGreat
open Go.Gl
attribute [local irreducible] z21
def enI (n:Int):List AC:=[.int n]
def ints (l:List Int):AC:=.list 1 l.length (l.map enI)
def bud (n:Int) (s:Nat):Int:=if n - s < 0 then -1 else n - s
theorem ok:Ok Tryz.prog tab:=⟨z12,by kernel_rfl⟩
structure State where
 a:List Int
 b:List Int
 deriving DecidableEq
def State.cs (s:State):List AC:=[ints s.a,ints s.b]
def State.mx (s:State):Prop:=s.a.length≤maxLen∧s.b.length≤maxLen
def State.sz (s:State):Nat:=s.a.length+s.b.length
theorem z374 (l:List Int) (n:Int) (hl:l.length≤maxLen) (h0:0≤n) (h1:n≤1048576):CallsA Tryz.prog 108 [ints l,.int n] [] (.int (bud n l.length)) []:=by
 unfold maxLen at hl
 refine z6 z12 Tryz.func108 rfl rfl 12 Tryz.ntmps108 (by simp) ?_
 repeat (first|refine y83 ok _ _ _ _ _ rfl ?_|refine z7 (by kernel_rfl) ?_|refine y44 (by first|omega|(unfold inI;omega)|(dsimp only;omega)) ?_)
 refine z2 (fun h=>?_) (fun h=>?_)
 ·repeat (first|refine y83 ok _ _ _ _ _ rfl ?_|refine z7 (by kernel_rfl) ?_|refine y44 (by first|omega|(unfold inI;omega)|(dsimp only;omega)) ?_)
  have:bud n l.length=-1:=by unfold bud;rw [if_pos h]
  rw [this]
  exact ⟨[],by decide,rfl,rfl,y3 rfl,trivial⟩
 ·repeat (first|refine y83 ok _ _ _ _ _ rfl ?_|refine z7 (by kernel_rfl) ?_|refine y44 (by first|omega|(unfold inI;omega)|(dsimp only;omega)) ?_)
  have:bud n l.length=n - l.length:=by unfold bud;rw [if_neg h]
  rw [this]
  exact ⟨[],by decide,rfl,rfl,y3 rfl,trivial⟩
theorem z940 (s:State) (n:Int) (hs:s.mx) (h0:0≤n) (h1:n≤1048576):CallsA Tryz.prog 174 [.agg s.cs,.int n] [] (.int (bud n s.sz)) []:=by
 refine z6 z12 Tryz.func174 rfl rfl 18 Tryz.ntmps174 (by simp) ?_
 repeat (first|refine y83 ok _ _ _ _ _ rfl ?_|refine z7 (by kernel_rfl) ?_|refine y44 (by first|omega|(unfold inI;omega)|(dsimp only;omega)) ?_)
 refine z0 (z374 s.a n hs.1 h0 h1) ?_ ?_ ?_
 ·rfl
 ·rfl
 repeat (first|refine y83 ok _ _ _ _ _ rfl ?_|refine z7 (by kernel_rfl) ?_|refine y44 (by first|omega|(unfold inI;omega)|(dsimp only;omega)) ?_)
 refine z2 (fun h=>?_) (fun h=>?_)
 ·repeat (first|refine y83 ok _ _ _ _ _ rfl ?_|refine z7 (by kernel_rfl) ?_|refine y44 (by first|omega|(unfold inI;omega)|(dsimp only;omega)) ?_)
  have:bud n s.sz=-1:=by unfold bud at h ⊢;unfold State.sz;split at h<;>split<;>omega
  rw [this]
  exact ⟨[],by decide,rfl,rfl,y3 rfl,trivial⟩
 ·have e:bud n s.a.length=n - s.a.length:=by unfold bud at h ⊢;split at h<;>split<;>omega
  rw [e] at h ⊢
  repeat (first|refine y83 ok _ _ _ _ _ rfl ?_|refine z7 (by kernel_rfl) ?_|refine y44 (by first|omega|(unfold inI;omega)|(dsimp only;omega)) ?_)
  refine z0 (z374 s.b (n - s.a.length) hs.2 (by omega) (by omega)) ?_ ?_ ?_
  ·rfl
  ·rfl
  repeat (first|refine y83 ok _ _ _ _ _ rfl ?_|refine z7 (by kernel_rfl) ?_|refine y44 (by first|omega|(unfold inI;omega)|(dsimp only;omega)) ?_)
  have e2:bud n s.sz=bud (n - s.a.length) s.b.length:=by unfold bud State.sz;split<;>split<;>omega
  rw [e2]
  refine z2 (fun h=>?_) (fun h=>?_)
  ·repeat (first|refine y83 ok _ _ _ _ _ rfl ?_|refine z7 (by kernel_rfl) ?_|refine y44 (by first|omega|(unfold inI;omega)|(dsimp only;omega)) ?_)
   have:bud (n - s.a.length) s.b.length=-1:=by unfold bud at h ⊢;split at h<;>split<;>omega
   rw [this]
   exact ⟨[],by decide,rfl,rfl,y3 rfl,trivial⟩
  ·repeat (first|refine y83 ok _ _ _ _ _ rfl ?_|refine z7 (by kernel_rfl) ?_|refine y44 (by first|omega|(unfold inI;omega)|(dsimp only;omega)) ?_)
   exact ⟨[],by decide,rfl,rfl,y3 rfl,trivial⟩
def lst {α:Type} (w:Nat) (e:α→List AC) (l:List α):AC:=.list w l.length (l.map e)
def tot {α:Type} (f:α→Nat) (l:List α):Nat:=l.length+(l.map f).sum
theorem z210 {α:Type} (f:α→Nat) (l:List α) (k:Nat) (hk:k < l.length):((l.take (k+1)).map f).sum=((l.take k).map f).sum+f l[k]:=by
 rw [y51 hk,y62,List.sum_append];simp only [List.map_cons,List.map_nil,List.sum_cons,List.sum_nil,Nat.add_zero]
theorem z107 {α:Type} (f:α→Nat) (l:List α) (k:Nat):((l.take k).map f).sum≤(l.map f).sum:=by
 conv=>rhs;rw [← List.take_append_drop k l,y62,List.sum_append]
 omega
def State.mxs (l:List State):Prop:=l.length≤maxLen∧∀ s∈l,s.mx
theorem z803 (l:List State) (n:Int) (hl:State.mxs l) (h0:0≤n) (h1:n≤1048576):CallsA Tryz.prog 104 [lst 2 State.cs l,.int n] [] (.int (bud n (tot State.sz l))) []:=by
 obtain ⟨hl,hm⟩:=hl
 unfold maxLen at hl
 refine z6 z12 Tryz.func104 rfl rfl 27 Tryz.ntmps104 (by simp) ?_
 repeat (first|refine y83 ok _ _ _ _ _ rfl ?_|refine z7 (by kernel_rfl) ?_|refine y44 (by first|omega|(unfold inI;omega)|(dsimp only;omega)) ?_)
 refine z2 (fun h=>?_) (fun h=>?_)
 ·repeat (first|refine y83 ok _ _ _ _ _ rfl ?_|refine z7 (by kernel_rfl) ?_|refine y44 (by first|omega|(unfold inI;omega)|(dsimp only;omega)) ?_)
  have:bud n (tot State.sz l)=-1:=by unfold bud tot;rw [if_pos (by omega)]
  rw [this]
  exact ⟨[],by decide,rfl,rfl,y3 rfl,trivial⟩
 ·repeat (first|refine y83 ok _ _ _ _ _ rfl ?_|refine z7 (by kernel_rfl) ?_|refine y44 (by first|omega|(unfold inI;omega)|(dsimp only;omega)) ?_)
  refine z109 (fun k:Nat=>([(0,lst 2 State.cs l),(1,.int (n - l.length - ((l.take k).map State.sz).sum)),(5,.int k)],[])) (fun k=>k≤l.length∧0≤n - l.length - ((l.take k).map State.sz).sum) (fun k=>l.length - k) 0 ⟨by omega,by simp;omega⟩
   ⟨[],rfl,by decide,rfl,⟨⟨rfl,rfl⟩,⟨rfl,by simp;rfl⟩,⟨rfl,rfl⟩,trivial⟩,trivial⟩ ?_
  intro k hk
  obtain ⟨hk1,hk2⟩:=hk
  repeat (first|refine y83 ok _ _ _ _ _ rfl ?_|refine z7 (by kernel_rfl) ?_|refine y44 (by first|omega|(unfold inI;omega)|(dsimp only;omega)) ?_)
  refine z2 (fun h=>?_) (fun h=>?_)
  ·have hkl:k < l.length:=by omega
   repeat (first|refine y83 ok _ _ _ _ _ rfl ?_|refine z7 (by kernel_rfl) ?_|refine y44 (by first|omega|(unfold inI;omega)|(dsimp only;omega)) ?_)
   refine ⟨_,z100 _ _ _ hkl,?_⟩
   repeat (first|refine y83 ok _ _ _ _ _ rfl ?_|refine z7 (by kernel_rfl) ?_|refine y44 (by first|omega|(unfold inI;omega)|(dsimp only;omega)) ?_)
   refine z0 (z940 l[k] _ (hm _ (y45 _)) hk2 (by omega)) ?_ ?_ ?_
   ·rfl
   ·rfl
   repeat (first|refine y83 ok _ _ _ _ _ rfl ?_|refine z7 (by kernel_rfl) ?_|refine y44 (by first|omega|(unfold inI;omega)|(dsimp only;omega)) ?_)
   have e:=z210 State.sz l k hkl
   have e2:=z107 State.sz l (k+1)
   refine z2 (fun h=>?_) (fun h=>?_)
   ·repeat (first|refine y83 ok _ _ _ _ _ rfl ?_|refine z7 (by kernel_rfl) ?_|refine y44 (by first|omega|(unfold inI;omega)|(dsimp only;omega)) ?_)
    have:bud n (tot State.sz l)=-1:=by unfold bud at h ⊢;unfold tot;split at h<;>rw [if_pos (by omega)]<;>omega
    rw [this]
    exact ⟨[],by decide,rfl,rfl,y3 rfl,trivial⟩
   ·repeat (first|refine y83 ok _ _ _ _ _ rfl ?_|refine z7 (by kernel_rfl) ?_|refine y44 (by first|omega|(unfold inI;omega)|(dsimp only;omega)) ?_)
    have e3:bud (n - l.length - ((l.take k).map State.sz).sum) l[k].sz=n - l.length - ((l.take (k+1)).map State.sz).sum:=by unfold bud at h ⊢;split at h<;>rename_i hh<;>(first|rw [if_pos hh]|rw [if_neg hh])<;>omega
    refine ⟨k+1,[],⟨by omega,?_⟩,by omega,rfl,by decide,rfl,⟨⟨rfl,rfl⟩,⟨rfl,?_⟩,⟨rfl,rfl⟩,trivial⟩,trivial⟩
    ·rw [← e3];omega
    ·rw [← e3];rfl
  ·repeat (first|refine y83 ok _ _ _ _ _ rfl ?_|refine z7 (by kernel_rfl) ?_|refine y44 (by first|omega|(unfold inI;omega)|(dsimp only;omega)) ?_)
   obtain rfl:k=l.length:=by omega
   rw [y55] at hk2
   have:bud n (tot State.sz l)=n - l.length - (l.map State.sz).sum:=by unfold bud tot;rw [if_neg (by omega)];omega
   rw [this,y55]
   exact ⟨[],by decide,rfl,rfl,y3 rfl,trivial⟩
theorem z371 (l:List Int) (hl:l.length≤1048576):CallsA Tryz.prog 114 [ints l] [] (ints l) []:=by
 refine z6 z12 Tryz.func114 rfl rfl 22 Tryz.ntmps114 (by simp) ?_
 repeat (first|refine y83 ok _ _ _ _ _ rfl ?_|refine z7 (by kernel_rfl) ?_|refine y44 (by first|omega|(unfold inI;omega)|(dsimp only;omega)) ?_)
 refine z109 (fun k:Nat=>([(0,ints l),(3,.sref 0 0 l.length),(4,.int k)],[.cells 1 ((l.take k).map enI++List.replicate (l.length - k) (enI 0))])) (fun k=>k≤l.length) (fun k=>l.length - k) 0 (by omega)
  ⟨[0],rfl,by decide,rfl,⟨⟨rfl,rfl⟩,⟨rfl,rfl⟩,⟨rfl,rfl⟩,trivial⟩,⟨z17 (by rfl) (z20 (z1 fun _=>rfl) (z3 rfl)),trivial⟩⟩ ?_
 ·intro k hk
  repeat (first|refine y83 ok _ _ _ _ _ rfl ?_|refine z7 (by kernel_rfl) ?_|refine y44 (by first|omega|(unfold inI;omega)|(dsimp only;omega)) ?_)
  refine z2 (fun h=>?_) (fun h=>?_)
  ·repeat (first|refine y83 ok _ _ _ _ _ rfl ?_|refine z7 (by kernel_rfl) ?_|refine y44 (by first|omega|(unfold inI;omega)|(dsimp only;omega)) ?_)
   refine ⟨_,z100 _ _ _ (by omega),?_⟩
   repeat (first|refine y83 ok _ _ _ _ _ rfl ?_|refine z7 (by kernel_rfl) ?_|refine y44 (by first|omega|(unfold inI;omega)|(dsimp only;omega)) ?_)
   refine ⟨enI 0,z323 _ _ _ _ (by omega),?_⟩
   repeat (first|refine y83 ok _ _ _ _ _ rfl ?_|refine z7 (by kernel_rfl) ?_|refine y44 (by first|omega|(unfold inI;omega)|(dsimp only;omega)) ?_)
   exact ⟨k+1,[0],by omega,by omega,rfl,by decide,rfl,⟨⟨rfl,rfl⟩,⟨rfl,rfl⟩,⟨rfl,rfl⟩,trivial⟩,⟨z17 (z31 (z269 _ _ _ _ (by omega))) (z20 (z1 fun _=>rfl) (z3 rfl)),trivial⟩⟩
  ·refine y83 ok _ _ _ _ _ rfl ?_
   obtain rfl:k=l.length:=by omega
   refine y84 (SealL.reach (π:=[]) (Bn:=[0]) (env:=[(3,ints l)]) (objs:=[]) ⟨rfl,rfl,by simp,rfl,by simp,⟨?_,trivial⟩,rfl⟩) ?_
   ·exact z327 rfl rfl rfl (by simp) (z121 (fun a x hx=>by cases hx with|head=>rfl|tail _ h=>cases h) l) (by simp)
   repeat (first|refine y83 ok _ _ _ _ _ rfl ?_|refine z7 (by kernel_rfl) ?_|refine y44 (by first|omega|(unfold inI;omega)|(dsimp only;omega)) ?_)
   exact ⟨[],by decide,rfl,rfl,y3 rfl,trivial⟩
def State.small (s:State):Prop:=s.a.length≤1048576∧s.b.length≤1048576
theorem z935 (s:State) (hs:s.small):CallsA Tryz.prog 176 [.agg s.cs] [] (.agg s.cs) []:=by
 refine z6 z12 Tryz.func176 rfl rfl 13 Tryz.ntmps176 (by simp) ?_
 repeat (first|refine y83 ok _ _ _ _ _ rfl ?_|refine z7 (by kernel_rfl) ?_|refine y44 (by first|omega|(unfold inI;omega)|(dsimp only;omega)) ?_)
 refine z0 (z371 s.a hs.1) ?_ ?_ ?_
 ·rfl
 ·rfl
 repeat (first|refine y83 ok _ _ _ _ _ rfl ?_|refine z7 (by kernel_rfl) ?_|refine y44 (by first|omega|(unfold inI;omega)|(dsimp only;omega)) ?_)
 refine z0 (z371 s.b hs.2) ?_ ?_ ?_
 ·rfl
 ·rfl
 repeat (first|refine y83 ok _ _ _ _ _ rfl ?_|refine z7 (by kernel_rfl) ?_|refine y44 (by first|omega|(unfold inI;omega)|(dsimp only;omega)) ?_)
 exact ⟨[],by decide,rfl,rfl,y3 rfl,trivial⟩
theorem State.unown (s:State):∀ x∈s.cs,x.unown=x:=fun x hx=>by
 simp only [State.cs,List.mem_cons,List.not_mem_nil,or_false] at hx
 rcases hx with rfl|rfl<;>rfl
theorem z798 (l:List State) (hl:l.length≤1048576) (hs:∀ s∈l,s.small):CallsA Tryz.prog 110 [lst 2 State.cs l] [] (lst 2 State.cs l) []:=by
 refine z6 z12 Tryz.func110 rfl rfl 23 Tryz.ntmps110 (by simp) ?_
 repeat (first|refine y83 ok _ _ _ _ _ rfl ?_|refine z7 (by kernel_rfl) ?_|refine y44 (by first|omega|(unfold inI;omega)|(dsimp only;omega)) ?_)
 refine z109 (fun k:Nat=>([(0,lst 2 State.cs l),(3,.sref 0 0 l.length),(4,.int k)],[.cells 2 ((l.take k).map State.cs++List.replicate (l.length - k) [.nils,.nils])])) (fun k=>k≤l.length) (fun k=>l.length - k) 0 (by omega)
  ⟨[0],rfl,by decide,rfl,⟨⟨rfl,rfl⟩,⟨rfl,rfl⟩,⟨rfl,rfl⟩,trivial⟩,⟨z17 (by rfl) (z20 (z1 fun _=>rfl) (z3 rfl)),trivial⟩⟩ ?_
 ·intro k hk
  repeat (first|refine y83 ok _ _ _ _ _ rfl ?_|refine z7 (by kernel_rfl) ?_|refine y44 (by first|omega|(unfold inI;omega)|(dsimp only;omega)) ?_)
  refine z2 (fun h=>?_) (fun h=>?_)
  ·repeat (first|refine y83 ok _ _ _ _ _ rfl ?_|refine z7 (by kernel_rfl) ?_|refine y44 (by first|omega|(unfold inI;omega)|(dsimp only;omega)) ?_)
   refine ⟨_,z100 _ _ _ (by omega),?_⟩
   repeat (first|refine y83 ok _ _ _ _ _ rfl ?_|refine z7 (by kernel_rfl) ?_|refine y44 (by first|omega|(unfold inI;omega)|(dsimp only;omega)) ?_)
   refine z0 (z935 l[k] (hs _ (y45 _))) ?_ ?_ ?_
   ·rfl
   ·rfl
   repeat (first|refine y83 ok _ _ _ _ _ rfl ?_|refine z7 (by kernel_rfl) ?_|refine y44 (by first|omega|(unfold inI;omega)|(dsimp only;omega)) ?_)
   refine ⟨[.nils,.nils],z323 _ _ _ _ (by omega),?_⟩
   repeat (first|refine y83 ok _ _ _ _ _ rfl ?_|refine z7 (by kernel_rfl) ?_|refine y44 (by first|omega|(unfold inI;omega)|(dsimp only;omega)) ?_)
   exact ⟨k+1,[0],by omega,by omega,rfl,by decide,rfl,⟨⟨rfl,rfl⟩,⟨rfl,rfl⟩,⟨rfl,rfl⟩,trivial⟩,⟨z17 (z31 (z269 _ _ _ _ (by omega))) (z20 (z1 fun _=>rfl) (z3 rfl)),trivial⟩⟩
  ·refine y83 ok _ _ _ _ _ rfl ?_
   obtain rfl:k=l.length:=by omega
   refine y84 (SealL.reach (π:=[]) (Bn:=[0]) (env:=[(3,lst 2 State.cs l)]) (objs:=[]) ⟨rfl,rfl,by simp,rfl,by simp,⟨?_,trivial⟩,rfl⟩) ?_
   ·exact z327 rfl rfl rfl (by simp) (z121 State.unown l) (by simp)
   repeat (first|refine y83 ok _ _ _ _ _ rfl ?_|refine z7 (by kernel_rfl) ?_|refine y44 (by first|omega|(unfold inI;omega)|(dsimp only;omega)) ?_)
   exact ⟨[],by decide,rfl,rfl,y3 rfl,trivial⟩
theorem z245 (a b:List Int) (ha:a.length≤maxLen) (hb:b.length≤maxLen):CallsA Tryz.prog 120 [ints a,ints b] [] (.bool (decide (a=b))) []:=by
 unfold maxLen at ha hb
 refine z6 z12 Tryz.func120 rfl rfl 26 Tryz.ntmps120 (by simp) ?_
 repeat (first|refine y83 ok _ _ _ _ _ rfl ?_|refine z7 (by kernel_rfl) ?_|refine y44 (by first|omega|(unfold inI;omega)|(dsimp only;omega)) ?_)
 refine z8 (fun h=>?_) (fun h=>?_)
 ·repeat (first|refine y83 ok _ _ _ _ _ rfl ?_|refine z7 (by kernel_rfl) ?_|refine y44 (by first|omega|(unfold inI;omega)|(dsimp only;omega)) ?_)
  have hne:a≠b:=by rintro rfl;exact h rfl
  rw [y81 hne]
  exact ⟨[],by decide,rfl,rfl,y3 rfl,trivial⟩
 ·have hl:a.length=b.length:=by omega
  repeat (first|refine y83 ok _ _ _ _ _ rfl ?_|refine z7 (by kernel_rfl) ?_|refine y44 (by first|omega|(unfold inI;omega)|(dsimp only;omega)) ?_)
  refine z109 (fun k:Nat=>([(0,ints a),(1,ints b),(5,.int k)],[])) (fun k=>k≤a.length∧a.take k=b.take k) (fun k=>a.length - k) 0 (by simp)
   ⟨[],rfl,by decide,rfl,⟨⟨rfl,rfl⟩,⟨rfl,rfl⟩,⟨rfl,rfl⟩,trivial⟩,trivial⟩ ?_
  intro k hk
  repeat (first|refine y83 ok _ _ _ _ _ rfl ?_|refine z7 (by kernel_rfl) ?_|refine y44 (by first|omega|(unfold inI;omega)|(dsimp only;omega)) ?_)
  refine z2 (fun h=>?_) (fun h=>?_)
  ·have hka:k < a.length:=by omega
   repeat (first|refine y83 ok _ _ _ _ _ rfl ?_|refine z7 (by kernel_rfl) ?_|refine y44 (by first|omega|(unfold inI;omega)|(dsimp only;omega)) ?_)
   refine ⟨_,z100 _ _ _ (by omega),?_⟩
   repeat (first|refine y83 ok _ _ _ _ _ rfl ?_|refine z7 (by kernel_rfl) ?_|refine y44 (by first|omega|(unfold inI;omega)|(dsimp only;omega)) ?_)
   refine ⟨_,z100 _ _ _ (by omega),?_⟩
   repeat (first|refine y83 ok _ _ _ _ _ rfl ?_|refine z7 (by kernel_rfl) ?_|refine y44 (by first|omega|(unfold inI;omega)|(dsimp only;omega)) ?_)
   refine z8 (fun h=>?_) (fun h=>?_)
   ·repeat (first|refine y83 ok _ _ _ _ _ rfl ?_|refine z7 (by kernel_rfl) ?_|refine y44 (by first|omega|(unfold inI;omega)|(dsimp only;omega)) ?_)
    have hne:a≠b:=by rintro rfl;exact h rfl
    rw [y81 hne]
    exact ⟨[],by decide,rfl,rfl,y3 rfl,trivial⟩
   ·repeat (first|refine y83 ok _ _ _ _ _ rfl ?_|refine z7 (by kernel_rfl) ?_|refine y44 (by first|omega|(unfold inI;omega)|(dsimp only;omega)) ?_)
    refine ⟨k+1,[],⟨by omega,?_⟩,by omega,rfl,by decide,rfl,⟨⟨rfl,rfl⟩,⟨rfl,rfl⟩,⟨rfl,rfl⟩,trivial⟩,trivial⟩
    have h' : a[k]=b[k]:=h
    rw [y51 hka,y51 (by omega),hk.2,h']
  ·repeat (first|refine y83 ok _ _ _ _ _ rfl ?_|refine z7 (by kernel_rfl) ?_|refine y44 (by first|omega|(unfold inI;omega)|(dsimp only;omega)) ?_)
   have he:a=b:=by
    have:=hk.2
    rwa [y56 (by omega),y56 (by omega)] at this
   rw [y80 he]
   exact ⟨[],by decide,rfl,rfl,y3 rfl,trivial⟩
theorem z989 (s t:State) (hs:s.mx) (ht:t.mx):CallsA Tryz.prog 178 [.agg s.cs,.agg t.cs] [] (.bool (decide (s=t))) []:=by
 refine z6 z12 Tryz.func178 rfl rfl 17 Tryz.ntmps178 (by simp) ?_
 repeat (first|refine y83 ok _ _ _ _ _ rfl ?_|refine z7 (by kernel_rfl) ?_|refine y44 (by first|omega|(unfold inI;omega)|(dsimp only;omega)) ?_)
 refine z0 (z245 s.a t.a hs.1 ht.1) ?_ ?_ ?_
 ·rfl
 ·rfl
 repeat (first|refine y83 ok _ _ _ _ _ rfl ?_|refine z7 (by kernel_rfl) ?_|refine y44 (by first|omega|(unfold inI;omega)|(dsimp only;omega)) ?_)
 refine z8 (fun h=>?_) (fun h=>?_)
 ·repeat (first|refine y83 ok _ _ _ _ _ rfl ?_|refine z7 (by kernel_rfl) ?_|refine y44 (by first|omega|(unfold inI;omega)|(dsimp only;omega)) ?_)
  have:s≠t:=by rintro rfl;exact h rfl
  rw [y81 this]
  exact ⟨[],by decide,rfl,rfl,y3 rfl,trivial⟩
 ·repeat (first|refine y83 ok _ _ _ _ _ rfl ?_|refine z7 (by kernel_rfl) ?_|refine y44 (by first|omega|(unfold inI;omega)|(dsimp only;omega)) ?_)
  refine z0 (z245 s.b t.b hs.2 ht.2) ?_ ?_ ?_
  ·rfl
  ·rfl
  repeat (first|refine y83 ok _ _ _ _ _ rfl ?_|refine z7 (by kernel_rfl) ?_|refine y44 (by first|omega|(unfold inI;omega)|(dsimp only;omega)) ?_)
  refine z8 (fun h2=>?_) (fun h2=>?_)
  ·repeat (first|refine y83 ok _ _ _ _ _ rfl ?_|refine z7 (by kernel_rfl) ?_|refine y44 (by first|omega|(unfold inI;omega)|(dsimp only;omega)) ?_)
   have:s≠t:=by rintro rfl;exact h2 rfl
   rw [y81 this]
   exact ⟨[],by decide,rfl,rfl,y3 rfl,trivial⟩
  ·repeat (first|refine y83 ok _ _ _ _ _ rfl ?_|refine z7 (by kernel_rfl) ?_|refine y44 (by first|omega|(unfold inI;omega)|(dsimp only;omega)) ?_)
   have:s=t:=by cases s;cases t;simp_all
   rw [y80 this]
   exact ⟨[],by decide,rfl,rfl,y3 rfl,trivial⟩
theorem z854 (a b:List State) (ha:State.mxs a) (hb:State.mxs b):CallsA Tryz.prog 116 [lst 2 State.cs a,lst 2 State.cs b] [] (.bool (decide (a=b))) []:=by
 obtain ⟨ha,hma⟩:=ha
 obtain ⟨hb,hmb⟩:=hb
 unfold maxLen at ha hb
 refine z6 z12 Tryz.func116 rfl rfl 27 Tryz.ntmps116 (by simp) ?_
 repeat (first|refine y83 ok _ _ _ _ _ rfl ?_|refine z7 (by kernel_rfl) ?_|refine y44 (by first|omega|(unfold inI;omega)|(dsimp only;omega)) ?_)
 refine z8 (fun h=>?_) (fun h=>?_)
 ·repeat (first|refine y83 ok _ _ _ _ _ rfl ?_|refine z7 (by kernel_rfl) ?_|refine y44 (by first|omega|(unfold inI;omega)|(dsimp only;omega)) ?_)
  have hne:a≠b:=by rintro rfl;exact h rfl
  rw [y81 hne]
  exact ⟨[],by decide,rfl,rfl,y3 rfl,trivial⟩
 ·have hl:a.length=b.length:=by omega
  repeat (first|refine y83 ok _ _ _ _ _ rfl ?_|refine z7 (by kernel_rfl) ?_|refine y44 (by first|omega|(unfold inI;omega)|(dsimp only;omega)) ?_)
  refine z109 (fun k:Nat=>([(0,lst 2 State.cs a),(1,lst 2 State.cs b),(5,.int k)],[])) (fun k=>k≤a.length∧a.take k=b.take k) (fun k=>a.length - k) 0 (by simp)
   ⟨[],rfl,by decide,rfl,⟨⟨rfl,rfl⟩,⟨rfl,rfl⟩,⟨rfl,rfl⟩,trivial⟩,trivial⟩ ?_
  intro k hk
  repeat (first|refine y83 ok _ _ _ _ _ rfl ?_|refine z7 (by kernel_rfl) ?_|refine y44 (by first|omega|(unfold inI;omega)|(dsimp only;omega)) ?_)
  refine z2 (fun h=>?_) (fun h=>?_)
  ·have hka:k < a.length:=by omega
   repeat (first|refine y83 ok _ _ _ _ _ rfl ?_|refine z7 (by kernel_rfl) ?_|refine y44 (by first|omega|(unfold inI;omega)|(dsimp only;omega)) ?_)
   refine ⟨_,z100 _ _ _ (by omega),?_⟩
   repeat (first|refine y83 ok _ _ _ _ _ rfl ?_|refine z7 (by kernel_rfl) ?_|refine y44 (by first|omega|(unfold inI;omega)|(dsimp only;omega)) ?_)
   refine ⟨_,z100 _ _ _ (by omega),?_⟩
   repeat (first|refine y83 ok _ _ _ _ _ rfl ?_|refine z7 (by kernel_rfl) ?_|refine y44 (by first|omega|(unfold inI;omega)|(dsimp only;omega)) ?_)
   refine z0 (z989 a[k] b[k] (hma _ (y45 _)) (hmb _ (y45 _))) ?_ ?_ ?_
   ·rfl
   ·rfl
   repeat (first|refine y83 ok _ _ _ _ _ rfl ?_|refine z7 (by kernel_rfl) ?_|refine y44 (by first|omega|(unfold inI;omega)|(dsimp only;omega)) ?_)
   refine z8 (fun h=>?_) (fun h=>?_)
   ·repeat (first|refine y83 ok _ _ _ _ _ rfl ?_|refine z7 (by kernel_rfl) ?_|refine y44 (by first|omega|(unfold inI;omega)|(dsimp only;omega)) ?_)
    have hne:a≠b:=by rintro rfl;exact h rfl
    rw [y81 hne]
    exact ⟨[],by decide,rfl,rfl,y3 rfl,trivial⟩
   ·repeat (first|refine y83 ok _ _ _ _ _ rfl ?_|refine z7 (by kernel_rfl) ?_|refine y44 (by first|omega|(unfold inI;omega)|(dsimp only;omega)) ?_)
    refine ⟨k+1,[],⟨by omega,?_⟩,by omega,rfl,by decide,rfl,⟨⟨rfl,rfl⟩,⟨rfl,rfl⟩,⟨rfl,rfl⟩,trivial⟩,trivial⟩
    have h' : a[k]=b[k]:=h
    rw [y51 hka,y51 (by omega),hk.2,h']
  ·repeat (first|refine y83 ok _ _ _ _ _ rfl ?_|refine z7 (by kernel_rfl) ?_|refine y44 (by first|omega|(unfold inI;omega)|(dsimp only;omega)) ?_)
   have he:a=b:=by
    have:=hk.2
    rwa [y56 (by omega),y56 (by omega)] at this
   rw [y80 he]
   exact ⟨[],by decide,rfl,rfl,y3 rfl,trivial⟩
def z24 {α:Type} (e:α→List AC) (a:α):AC:=.agg (e a)
theorem z594 (l:List Tree) (n:Int) (hl:l.length≤maxLen) (hel:∀ s∈l,∀ n:Int,0≤n→n≤1048576→CallsA Tryz.prog 106 [z24 Tree.cs' s,.int n] [] (.int (bud n (Tree.sz s))) []) (h0:0≤n) (h1:n≤1048576):CallsA Tryz.prog 33 [lst 3 Tree.cs' l,.int n] [] (.int (bud n (tot Tree.sz l))) []:=by
 unfold maxLen at hl
 refine z6 z12 Tryz.func33 rfl rfl 27 Tryz.ntmps33 (by simp) ?_
 repeat (first|refine y83 ok _ _ _ _ _ rfl ?_|refine z7 (by kernel_rfl) ?_|refine y44 (by first|omega|(unfold inI;omega)|(dsimp only;omega)) ?_)
 refine z2 (fun h=>?_) (fun h=>?_)
 ·repeat (first|refine y83 ok _ _ _ _ _ rfl ?_|refine z7 (by kernel_rfl) ?_|refine y44 (by first|omega|(unfold inI;omega)|(dsimp only;omega)) ?_)
  have:bud n (tot Tree.sz l)=-1:=by unfold bud tot;rw [if_pos (by omega)]
  rw [this]
  exact ⟨[],by decide,rfl,rfl,y3 rfl,trivial⟩
 ·repeat (first|refine y83 ok _ _ _ _ _ rfl ?_|refine z7 (by kernel_rfl) ?_|refine y44 (by first|omega|(unfold inI;omega)|(dsimp only;omega)) ?_)
  refine z109 (fun k:Nat=>([(0,lst 3 Tree.cs' l),(1,.int (n - l.length - ((l.take k).map Tree.sz).sum)),(5,.int k)],[])) (fun k=>k≤l.length∧0≤n - l.length - ((l.take k).map Tree.sz).sum) (fun k=>l.length - k) 0 ⟨by omega,by simp;omega⟩
   ⟨[],rfl,by decide,rfl,⟨⟨rfl,rfl⟩,⟨rfl,by simp;rfl⟩,⟨rfl,rfl⟩,trivial⟩,trivial⟩ ?_
  intro k hk
  obtain ⟨hk1,hk2⟩:=hk
  repeat (first|refine y83 ok _ _ _ _ _ rfl ?_|refine z7 (by kernel_rfl) ?_|refine y44 (by first|omega|(unfold inI;omega)|(dsimp only;omega)) ?_)
  refine z2 (fun h=>?_) (fun h=>?_)
  ·have hkl:k < l.length:=by omega
   repeat (first|refine y83 ok _ _ _ _ _ rfl ?_|refine z7 (by kernel_rfl) ?_|refine y44 (by first|omega|(unfold inI;omega)|(dsimp only;omega)) ?_)
   refine ⟨_,z100 _ _ _ hkl,?_⟩
   repeat (first|refine y83 ok _ _ _ _ _ rfl ?_|refine z7 (by kernel_rfl) ?_|refine y44 (by first|omega|(unfold inI;omega)|(dsimp only;omega)) ?_)
   refine z0 (hel l[k] (y45 _) _ hk2 (by omega)) ?_ ?_ ?_
   ·rfl
   ·rfl
   repeat (first|refine y83 ok _ _ _ _ _ rfl ?_|refine z7 (by kernel_rfl) ?_|refine y44 (by first|omega|(unfold inI;omega)|(dsimp only;omega)) ?_)
   have e:=z210 Tree.sz l k hkl
   have e2:=z107 Tree.sz l (k+1)
   refine z2 (fun h=>?_) (fun h=>?_)
   ·repeat (first|refine y83 ok _ _ _ _ _ rfl ?_|refine z7 (by kernel_rfl) ?_|refine y44 (by first|omega|(unfold inI;omega)|(dsimp only;omega)) ?_)
    have:bud n (tot Tree.sz l)=-1:=by unfold bud at h ⊢;unfold tot;split at h<;>rw [if_pos (by omega)]<;>omega
    rw [this]
    exact ⟨[],by decide,rfl,rfl,y3 rfl,trivial⟩
   ·repeat (first|refine y83 ok _ _ _ _ _ rfl ?_|refine z7 (by kernel_rfl) ?_|refine y44 (by first|omega|(unfold inI;omega)|(dsimp only;omega)) ?_)
    have e3:bud (n - l.length - ((l.take k).map Tree.sz).sum) (Tree.sz l[k])=n - l.length - ((l.take (k+1)).map Tree.sz).sum:=by unfold bud at h ⊢;split at h<;>rename_i hh<;>(first|rw [if_pos hh]|rw [if_neg hh])<;>omega
    refine ⟨k+1,[],⟨by omega,?_⟩,by omega,rfl,by decide,rfl,⟨⟨rfl,rfl⟩,⟨rfl,?_⟩,⟨rfl,rfl⟩,trivial⟩,trivial⟩
    ·rw [← e3];omega
    ·rw [← e3];rfl
  ·repeat (first|refine y83 ok _ _ _ _ _ rfl ?_|refine z7 (by kernel_rfl) ?_|refine y44 (by first|omega|(unfold inI;omega)|(dsimp only;omega)) ?_)
   obtain rfl:k=l.length:=by omega
   rw [y55] at hk2
   have:bud n (tot Tree.sz l)=n - l.length - (l.map Tree.sz).sum:=by unfold bud tot;rw [if_neg (by omega)];omega
   rw [this,y55]
   exact ⟨[],by decide,rfl,rfl,y3 rfl,trivial⟩
theorem z1044 (t:Tree):t.mx→∀ n:Int,0≤n→n≤1048576→CallsA Tryz.prog 106 [z24 Tree.cs' t,.int n] [] (.int (bud n t.sz)) []:=by
 induction t using y27 with|h t ih=>?_
 intro hm n h0 h1
 rw [y29] at hm
 have hk:=z594 t.kids n hm.1 (fun s hs=>ih s hs (hm.2 s hs)) h0 h1
 refine z6 z12 Tryz.func106 rfl rfl 12 Tryz.ntmps106 (by simp) ?_
 repeat (first|refine y83 ok _ _ _ _ _ rfl ?_|refine z7 (by kernel_rfl) ?_|refine y44 (by first|omega|(unfold inI;omega)|(dsimp only;omega)) ?_)
 refine z0 hk ?_ ?_ ?_
 ·show [AC.list 3 t.kids.length (t.kids.map Tree.cs),.int n]=_
  rw [y28]
  rfl
 ·rfl
 repeat (first|refine y83 ok _ _ _ _ _ rfl ?_|refine z7 (by kernel_rfl) ?_|refine y44 (by first|omega|(unfold inI;omega)|(dsimp only;omega)) ?_)
 have e:bud n (tot Tree.sz t.kids)=bud n t.sz:=by rw [y38];rfl
 rw [e]
 refine z2 (fun h=>?_) (fun h=>?_)
 ·repeat (first|refine y83 ok _ _ _ _ _ rfl ?_|refine z7 (by kernel_rfl) ?_|refine y44 (by first|omega|(unfold inI;omega)|(dsimp only;omega)) ?_)
  have:bud n t.sz=-1:=by unfold bud at h ⊢;split at h<;>rename_i hh<;>(first|rw [if_pos hh]|rw [if_neg hh])<;>omega
  rw [this]
  exact ⟨[],by decide,rfl,rfl,y3 rfl,trivial⟩
 ·repeat (first|refine y83 ok _ _ _ _ _ rfl ?_|refine z7 (by kernel_rfl) ?_|refine y44 (by first|omega|(unfold inI;omega)|(dsimp only;omega)) ?_)
  exact ⟨[],by decide,rfl,rfl,y3 rfl,trivial⟩
theorem z943 (l:List Tree) (n:Int) (hl:l.length≤maxLen) (hm:∀ t∈l,t.mx) (h0:0≤n) (h1:n≤1048576):CallsA Tryz.prog 33 [lst 3 Tree.cs' l,.int n] [] (.int (bud n (tot Tree.sz l))) [] :=
 z594 l n hl (fun s hs=>z1044 s (hm s hs)) h0 h1
theorem Tree.unown (t:Tree):∀ x∈Tree.cs' t,x.unown=x:=fun x hx=>by
 simp only [Tree.cs',List.mem_cons,List.not_mem_nil,or_false] at hx
 rcases hx with rfl|rfl|rfl<;>rfl
theorem z593 (l:List Tree) (hl:l.length≤1048576) (hel:∀ s∈l,CallsA Tryz.prog 112 [z24 Tree.cs' s] [] (z24 Tree.cs' s) []):CallsA Tryz.prog 38 [lst 3 Tree.cs' l] [] (lst 3 Tree.cs' l) []:=by
 refine z6 z12 Tryz.func38 rfl rfl 23 Tryz.ntmps38 (by simp) ?_
 repeat (first|refine y83 ok _ _ _ _ _ rfl ?_|refine z7 (by kernel_rfl) ?_|refine y44 (by first|omega|(unfold inI;omega)|(dsimp only;omega)) ?_)
 refine z109 (fun k:Nat=>([(0,lst 3 Tree.cs' l),(3,.sref 0 0 l.length),(4,.int k)],[.cells 3 ((l.take k).map Tree.cs'++List.replicate (l.length - k) [.int 0,.int 0,.nils])])) (fun k=>k≤l.length) (fun k=>l.length - k) 0 (by omega)
  ⟨[0],rfl,by decide,rfl,⟨⟨rfl,rfl⟩,⟨rfl,rfl⟩,⟨rfl,rfl⟩,trivial⟩,⟨z17 (by rfl) (z20 (z1 fun _=>rfl) (z3 rfl)),trivial⟩⟩ ?_
 ·intro k hk
  repeat (first|refine y83 ok _ _ _ _ _ rfl ?_|refine z7 (by kernel_rfl) ?_|refine y44 (by first|omega|(unfold inI;omega)|(dsimp only;omega)) ?_)
  refine z2 (fun h=>?_) (fun h=>?_)
  ·repeat (first|refine y83 ok _ _ _ _ _ rfl ?_|refine z7 (by kernel_rfl) ?_|refine y44 (by first|omega|(unfold inI;omega)|(dsimp only;omega)) ?_)
   refine ⟨_,z100 _ _ _ (by omega),?_⟩
   repeat (first|refine y83 ok _ _ _ _ _ rfl ?_|refine z7 (by kernel_rfl) ?_|refine y44 (by first|omega|(unfold inI;omega)|(dsimp only;omega)) ?_)
   refine z0 (hel l[k] (y45 _)) ?_ ?_ ?_
   ·rfl
   ·rfl
   repeat (first|refine y83 ok _ _ _ _ _ rfl ?_|refine z7 (by kernel_rfl) ?_|refine y44 (by first|omega|(unfold inI;omega)|(dsimp only;omega)) ?_)
   refine ⟨[.int 0,.int 0,.nils],z323 _ _ _ _ (by omega),?_⟩
   repeat (first|refine y83 ok _ _ _ _ _ rfl ?_|refine z7 (by kernel_rfl) ?_|refine y44 (by first|omega|(unfold inI;omega)|(dsimp only;omega)) ?_)
   exact ⟨k+1,[0],by omega,by omega,rfl,by decide,rfl,⟨⟨rfl,rfl⟩,⟨rfl,rfl⟩,⟨rfl,rfl⟩,trivial⟩,⟨z17 (z31 (z269 _ _ _ _ (by omega))) (z20 (z1 fun _=>rfl) (z3 rfl)),trivial⟩⟩
  ·refine y83 ok _ _ _ _ _ rfl ?_
   obtain rfl:k=l.length:=by omega
   refine y84 (SealL.reach (π:=[]) (Bn:=[0]) (env:=[(3,lst 3 Tree.cs' l)]) (objs:=[]) ⟨rfl,rfl,by simp,rfl,by simp,⟨?_,trivial⟩,rfl⟩) ?_
   ·exact z327 rfl rfl rfl (by simp) (z121 Tree.unown l) (by simp)
   repeat (first|refine y83 ok _ _ _ _ _ rfl ?_|refine z7 (by kernel_rfl) ?_|refine y44 (by first|omega|(unfold inI;omega)|(dsimp only;omega)) ?_)
   exact ⟨[],by decide,rfl,rfl,y3 rfl,trivial⟩
theorem z1043 (t:Tree):t.sz≤1048576→CallsA Tryz.prog 112 [z24 Tree.cs' t] [] (z24 Tree.cs' t) []:=by
 induction t using y27 with|h t ih=>?_
 intro hm
 rw [y38] at hm
 have hk:=z593 t.kids (by omega) (fun s hs=>ih s hs (by
  have:=z200 Tree.sz hs
  omega))
 refine z6 z12 Tryz.func112 rfl rfl 15 Tryz.ntmps112 (by simp) ?_
 repeat (first|refine y83 ok _ _ _ _ _ rfl ?_|refine z7 (by kernel_rfl) ?_|refine y44 (by first|omega|(unfold inI;omega)|(dsimp only;omega)) ?_)
 refine z0 hk ?_ ?_ ?_
 ·show [AC.list 3 t.kids.length (t.kids.map Tree.cs)]=_
  rw [y28]
  rfl
 ·rfl
 repeat (first|refine y83 ok _ _ _ _ _ rfl ?_|refine z7 (by kernel_rfl) ?_|refine y44 (by first|omega|(unfold inI;omega)|(dsimp only;omega)) ?_)
 refine ⟨[],by decide,rfl,rfl,y3 ?_,trivial⟩
 show AC.agg [.int t.kind,.int t.val,.list 3 t.kids.length (t.kids.map Tree.cs')]=AC.agg [.int t.kind,.int t.val,.list 3 t.kids.length (t.kids.map Tree.cs)]
 rw [y28]
theorem z616 (a b:List Tree) (ha:a.length≤maxLen) (hb:b.length≤maxLen) (hel:∀ s∈a,∀ t∈b,CallsA Tryz.prog 118 [z24 Tree.cs' s,z24 Tree.cs' t] [] (.bool (decide (s=t))) []):CallsA Tryz.prog 43 [lst 3 Tree.cs' a,lst 3 Tree.cs' b] [] (.bool (decide (a=b))) []:=by
 unfold maxLen at ha hb
 refine z6 z12 Tryz.func43 rfl rfl 27 Tryz.ntmps43 (by simp) ?_
 repeat (first|refine y83 ok _ _ _ _ _ rfl ?_|refine z7 (by kernel_rfl) ?_|refine y44 (by first|omega|(unfold inI;omega)|(dsimp only;omega)) ?_)
 refine z8 (fun h=>?_) (fun h=>?_)
 ·repeat (first|refine y83 ok _ _ _ _ _ rfl ?_|refine z7 (by kernel_rfl) ?_|refine y44 (by first|omega|(unfold inI;omega)|(dsimp only;omega)) ?_)
  have hne:a≠b:=by rintro rfl;exact h rfl
  rw [y81 hne]
  exact ⟨[],by decide,rfl,rfl,y3 rfl,trivial⟩
 ·have hl:a.length=b.length:=by omega
  repeat (first|refine y83 ok _ _ _ _ _ rfl ?_|refine z7 (by kernel_rfl) ?_|refine y44 (by first|omega|(unfold inI;omega)|(dsimp only;omega)) ?_)
  refine z109 (fun k:Nat=>([(0,lst 3 Tree.cs' a),(1,lst 3 Tree.cs' b),(5,.int k)],[])) (fun k=>k≤a.length∧a.take k=b.take k) (fun k=>a.length - k) 0 (by simp)
   ⟨[],rfl,by decide,rfl,⟨⟨rfl,rfl⟩,⟨rfl,rfl⟩,⟨rfl,rfl⟩,trivial⟩,trivial⟩ ?_
  intro k hk
  repeat (first|refine y83 ok _ _ _ _ _ rfl ?_|refine z7 (by kernel_rfl) ?_|refine y44 (by first|omega|(unfold inI;omega)|(dsimp only;omega)) ?_)
  refine z2 (fun h=>?_) (fun h=>?_)
  ·have hka:k < a.length:=by omega
   repeat (first|refine y83 ok _ _ _ _ _ rfl ?_|refine z7 (by kernel_rfl) ?_|refine y44 (by first|omega|(unfold inI;omega)|(dsimp only;omega)) ?_)
   refine ⟨_,z100 _ _ _ (by omega),?_⟩
   repeat (first|refine y83 ok _ _ _ _ _ rfl ?_|refine z7 (by kernel_rfl) ?_|refine y44 (by first|omega|(unfold inI;omega)|(dsimp only;omega)) ?_)
   refine ⟨_,z100 _ _ _ (by omega),?_⟩
   repeat (first|refine y83 ok _ _ _ _ _ rfl ?_|refine z7 (by kernel_rfl) ?_|refine y44 (by first|omega|(unfold inI;omega)|(dsimp only;omega)) ?_)
   refine z0 (hel a[k] (y45 _) b[k] (y45 _)) ?_ ?_ ?_
   ·rfl
   ·rfl
   repeat (first|refine y83 ok _ _ _ _ _ rfl ?_|refine z7 (by kernel_rfl) ?_|refine y44 (by first|omega|(unfold inI;omega)|(dsimp only;omega)) ?_)
   refine z8 (fun h=>?_) (fun h=>?_)
   ·repeat (first|refine y83 ok _ _ _ _ _ rfl ?_|refine z7 (by kernel_rfl) ?_|refine y44 (by first|omega|(unfold inI;omega)|(dsimp only;omega)) ?_)
    have hne:a≠b:=by rintro rfl;exact h rfl
    rw [y81 hne]
    exact ⟨[],by decide,rfl,rfl,y3 rfl,trivial⟩
   ·repeat (first|refine y83 ok _ _ _ _ _ rfl ?_|refine z7 (by kernel_rfl) ?_|refine y44 (by first|omega|(unfold inI;omega)|(dsimp only;omega)) ?_)
    refine ⟨k+1,[],⟨by omega,?_⟩,by omega,rfl,by decide,rfl,⟨⟨rfl,rfl⟩,⟨rfl,rfl⟩,⟨rfl,rfl⟩,trivial⟩,trivial⟩
    have h' : a[k]=b[k]:=h
    rw [y51 hka,y51 (by omega),hk.2,h']
  ·repeat (first|refine y83 ok _ _ _ _ _ rfl ?_|refine z7 (by kernel_rfl) ?_|refine y44 (by first|omega|(unfold inI;omega)|(dsimp only;omega)) ?_)
   have he:a=b:=by
    have:=hk.2
    rwa [y56 (by omega),y56 (by omega)] at this
   rw [y80 he]
   exact ⟨[],by decide,rfl,rfl,y3 rfl,trivial⟩
theorem z1143 (a:Tree):a.mx→∀ b:Tree,b.mx→CallsA Tryz.prog 118 [z24 Tree.cs' a,z24 Tree.cs' b] [] (.bool (decide (a=b))) []:=by
 induction a using y27 with|h a ih=>?_
 intro ha b hb
 rw [y29] at ha hb
 have hk:=z616 a.kids b.kids ha.1 hb.1 (fun s hs t ht=>ih s hs (ha.2 s hs) t (hb.2 t ht))
 refine z6 z12 Tryz.func118 rfl rfl 21 Tryz.ntmps118 (by simp) ?_
 repeat (first|refine y83 ok _ _ _ _ _ rfl ?_|refine z7 (by kernel_rfl) ?_|refine y44 (by first|omega|(unfold inI;omega)|(dsimp only;omega)) ?_)
 refine z8 (fun h=>?_) (fun h1=>?_)
 ·repeat (first|refine y83 ok _ _ _ _ _ rfl ?_|refine z7 (by kernel_rfl) ?_|refine y44 (by first|omega|(unfold inI;omega)|(dsimp only;omega)) ?_)
  have hne:a≠b:=by rintro rfl;exact h rfl
  rw [y81 hne]
  exact ⟨[],by decide,rfl,rfl,y3 rfl,trivial⟩
 repeat (first|refine y83 ok _ _ _ _ _ rfl ?_|refine z7 (by kernel_rfl) ?_|refine y44 (by first|omega|(unfold inI;omega)|(dsimp only;omega)) ?_)
 refine z8 (fun h=>?_) (fun h2=>?_)
 ·repeat (first|refine y83 ok _ _ _ _ _ rfl ?_|refine z7 (by kernel_rfl) ?_|refine y44 (by first|omega|(unfold inI;omega)|(dsimp only;omega)) ?_)
  have hne:a≠b:=by rintro rfl;exact h rfl
  rw [y81 hne]
  exact ⟨[],by decide,rfl,rfl,y3 rfl,trivial⟩
 repeat (first|refine y83 ok _ _ _ _ _ rfl ?_|refine z7 (by kernel_rfl) ?_|refine y44 (by first|omega|(unfold inI;omega)|(dsimp only;omega)) ?_)
 refine z0 hk ?_ ?_ ?_
 ·show [AC.list 3 a.kids.length (a.kids.map Tree.cs),AC.list 3 b.kids.length (b.kids.map Tree.cs)]=_
  rw [y28,y28]
  rfl
 ·rfl
 repeat (first|refine y83 ok _ _ _ _ _ rfl ?_|refine z7 (by kernel_rfl) ?_|refine y44 (by first|omega|(unfold inI;omega)|(dsimp only;omega)) ?_)
 refine z8 (fun h=>?_) (fun h3=>?_)
 ·repeat (first|refine y83 ok _ _ _ _ _ rfl ?_|refine z7 (by kernel_rfl) ?_|refine y44 (by first|omega|(unfold inI;omega)|(dsimp only;omega)) ?_)
  have hne:a≠b:=by rintro rfl;exact h rfl
  rw [y81 hne]
  exact ⟨[],by decide,rfl,rfl,y3 rfl,trivial⟩
 ·repeat (first|refine y83 ok _ _ _ _ _ rfl ?_|refine z7 (by kernel_rfl) ?_|refine y44 (by first|omega|(unfold inI;omega)|(dsimp only;omega)) ?_)
  have he:a=b:=Tree.ext h1 h2 h3
  rw [y80 he]
  exact ⟨[],by decide,rfl,rfl,y3 rfl,trivial⟩
def encL (l:List Int):List AC:=[ints l]
theorem z993 (l:List Int):∀ x∈encL l,x.unown=x:=fun x hx=>by
 simp only [encL,List.mem_cons,List.not_mem_nil,or_false] at hx
 subst hx;rfl
theorem z941 (l:List (List Int)) (n:Int) (hl:l.length≤maxLen) (hel:∀ s∈l,∀ n:Int,0≤n→n≤1048576→CallsA Tryz.prog 108 [ints s,.int n] [] (.int (bud n (List.length s))) []) (h0:0≤n) (h1:n≤1048576):CallsA Tryz.prog 105 [lst 1 encL l,.int n] [] (.int (bud n (tot List.length l))) []:=by
 unfold maxLen at hl
 refine z6 z12 Tryz.func105 rfl rfl 27 Tryz.ntmps105 (by simp) ?_
 repeat (first|refine y83 ok _ _ _ _ _ rfl ?_|refine z7 (by kernel_rfl) ?_|refine y44 (by first|omega|(unfold inI;omega)|(dsimp only;omega)) ?_)
 refine z2 (fun h=>?_) (fun h=>?_)
 ·repeat (first|refine y83 ok _ _ _ _ _ rfl ?_|refine z7 (by kernel_rfl) ?_|refine y44 (by first|omega|(unfold inI;omega)|(dsimp only;omega)) ?_)
  have:bud n (tot List.length l)=-1:=by unfold bud tot;rw [if_pos (by omega)]
  rw [this]
  exact ⟨[],by decide,rfl,rfl,y3 rfl,trivial⟩
 ·repeat (first|refine y83 ok _ _ _ _ _ rfl ?_|refine z7 (by kernel_rfl) ?_|refine y44 (by first|omega|(unfold inI;omega)|(dsimp only;omega)) ?_)
  refine z109 (fun k:Nat=>([(0,lst 1 encL l),(1,.int (n - l.length - ((l.take k).map List.length).sum)),(5,.int k)],[])) (fun k=>k≤l.length∧0≤n - l.length - ((l.take k).map List.length).sum) (fun k=>l.length - k) 0 ⟨by omega,by simp;omega⟩
   ⟨[],rfl,by decide,rfl,⟨⟨rfl,rfl⟩,⟨rfl,by simp;rfl⟩,⟨rfl,rfl⟩,trivial⟩,trivial⟩ ?_
  intro k hk
  obtain ⟨hk1,hk2⟩:=hk
  repeat (first|refine y83 ok _ _ _ _ _ rfl ?_|refine z7 (by kernel_rfl) ?_|refine y44 (by first|omega|(unfold inI;omega)|(dsimp only;omega)) ?_)
  refine z2 (fun h=>?_) (fun h=>?_)
  ·have hkl:k < l.length:=by omega
   repeat (first|refine y83 ok _ _ _ _ _ rfl ?_|refine z7 (by kernel_rfl) ?_|refine y44 (by first|omega|(unfold inI;omega)|(dsimp only;omega)) ?_)
   refine ⟨_,z100 _ _ _ hkl,?_⟩
   repeat (first|refine y83 ok _ _ _ _ _ rfl ?_|refine z7 (by kernel_rfl) ?_|refine y44 (by first|omega|(unfold inI;omega)|(dsimp only;omega)) ?_)
   refine z0 (hel l[k] (y45 _) _ hk2 (by omega)) ?_ ?_ ?_
   ·rfl
   ·rfl
   repeat (first|refine y83 ok _ _ _ _ _ rfl ?_|refine z7 (by kernel_rfl) ?_|refine y44 (by first|omega|(unfold inI;omega)|(dsimp only;omega)) ?_)
   have e:=z210 List.length l k hkl
   have e2:=z107 List.length l (k+1)
   refine z2 (fun h=>?_) (fun h=>?_)
   ·repeat (first|refine y83 ok _ _ _ _ _ rfl ?_|refine z7 (by kernel_rfl) ?_|refine y44 (by first|omega|(unfold inI;omega)|(dsimp only;omega)) ?_)
    have:bud n (tot List.length l)=-1:=by unfold bud at h ⊢;unfold tot;split at h<;>rw [if_pos (by omega)]<;>omega
    rw [this]
    exact ⟨[],by decide,rfl,rfl,y3 rfl,trivial⟩
   ·repeat (first|refine y83 ok _ _ _ _ _ rfl ?_|refine z7 (by kernel_rfl) ?_|refine y44 (by first|omega|(unfold inI;omega)|(dsimp only;omega)) ?_)
    have e3:bud (n - l.length - ((l.take k).map List.length).sum) (List.length l[k])=n - l.length - ((l.take (k+1)).map List.length).sum:=by unfold bud at h ⊢;split at h<;>rename_i hh<;>(first|rw [if_pos hh]|rw [if_neg hh])<;>omega
    refine ⟨k+1,[],⟨by omega,?_⟩,by omega,rfl,by decide,rfl,⟨⟨rfl,rfl⟩,⟨rfl,?_⟩,⟨rfl,rfl⟩,trivial⟩,trivial⟩
    ·rw [← e3];omega
    ·rw [← e3];rfl
  ·repeat (first|refine y83 ok _ _ _ _ _ rfl ?_|refine z7 (by kernel_rfl) ?_|refine y44 (by first|omega|(unfold inI;omega)|(dsimp only;omega)) ?_)
   obtain rfl:k=l.length:=by omega
   rw [y55] at hk2
   have:bud n (tot List.length l)=n - l.length - (l.map List.length).sum:=by unfold bud tot;rw [if_neg (by omega)];omega
   rw [this,y55]
   exact ⟨[],by decide,rfl,rfl,y3 rfl,trivial⟩
theorem z936 (l:List (List Int)) (hl:l.length≤1048576) (hel:∀ s∈l,CallsA Tryz.prog 114 [ints s] [] (ints s) []):CallsA Tryz.prog 111 [lst 1 encL l] [] (lst 1 encL l) []:=by
 refine z6 z12 Tryz.func111 rfl rfl 23 Tryz.ntmps111 (by simp) ?_
 repeat (first|refine y83 ok _ _ _ _ _ rfl ?_|refine z7 (by kernel_rfl) ?_|refine y44 (by first|omega|(unfold inI;omega)|(dsimp only;omega)) ?_)
 refine z109 (fun k:Nat=>([(0,lst 1 encL l),(3,.sref 0 0 l.length),(4,.int k)],[.cells 1 ((l.take k).map encL++List.replicate (l.length - k) [.nils])])) (fun k=>k≤l.length) (fun k=>l.length - k) 0 (by omega)
  ⟨[0],rfl,by decide,rfl,⟨⟨rfl,rfl⟩,⟨rfl,rfl⟩,⟨rfl,rfl⟩,trivial⟩,⟨z17 (by rfl) (z20 (z1 fun _=>rfl) (z3 rfl)),trivial⟩⟩ ?_
 ·intro k hk
  repeat (first|refine y83 ok _ _ _ _ _ rfl ?_|refine z7 (by kernel_rfl) ?_|refine y44 (by first|omega|(unfold inI;omega)|(dsimp only;omega)) ?_)
  refine z2 (fun h=>?_) (fun h=>?_)
  ·repeat (first|refine y83 ok _ _ _ _ _ rfl ?_|refine z7 (by kernel_rfl) ?_|refine y44 (by first|omega|(unfold inI;omega)|(dsimp only;omega)) ?_)
   refine ⟨_,z100 _ _ _ (by omega),?_⟩
   repeat (first|refine y83 ok _ _ _ _ _ rfl ?_|refine z7 (by kernel_rfl) ?_|refine y44 (by first|omega|(unfold inI;omega)|(dsimp only;omega)) ?_)
   refine z0 (hel l[k] (y45 _)) ?_ ?_ ?_
   ·rfl
   ·rfl
   repeat (first|refine y83 ok _ _ _ _ _ rfl ?_|refine z7 (by kernel_rfl) ?_|refine y44 (by first|omega|(unfold inI;omega)|(dsimp only;omega)) ?_)
   refine ⟨[.nils],z323 _ _ _ _ (by omega),?_⟩
   repeat (first|refine y83 ok _ _ _ _ _ rfl ?_|refine z7 (by kernel_rfl) ?_|refine y44 (by first|omega|(unfold inI;omega)|(dsimp only;omega)) ?_)
   exact ⟨k+1,[0],by omega,by omega,rfl,by decide,rfl,⟨⟨rfl,rfl⟩,⟨rfl,rfl⟩,⟨rfl,rfl⟩,trivial⟩,⟨z17 (z31 (z269 _ _ _ _ (by omega))) (z20 (z1 fun _=>rfl) (z3 rfl)),trivial⟩⟩
  ·refine y83 ok _ _ _ _ _ rfl ?_
   obtain rfl:k=l.length:=by omega
   refine y84 (SealL.reach (π:=[]) (Bn:=[0]) (env:=[(3,lst 1 encL l)]) (objs:=[]) ⟨rfl,rfl,by simp,rfl,by simp,⟨?_,trivial⟩,rfl⟩) ?_
   ·exact z327 rfl rfl rfl (by simp) (z121 z993 l) (by simp)
   repeat (first|refine y83 ok _ _ _ _ _ rfl ?_|refine z7 (by kernel_rfl) ?_|refine y44 (by first|omega|(unfold inI;omega)|(dsimp only;omega)) ?_)
   exact ⟨[],by decide,rfl,rfl,y3 rfl,trivial⟩
theorem z990 (a b:List (List Int)) (ha:a.length≤maxLen) (hb:b.length≤maxLen) (hel:∀ s∈a,∀ t∈b,CallsA Tryz.prog 120 [ints s,ints t] [] (.bool (decide (s=t))) []):CallsA Tryz.prog 117 [lst 1 encL a,lst 1 encL b] [] (.bool (decide (a=b))) []:=by
 unfold maxLen at ha hb
 refine z6 z12 Tryz.func117 rfl rfl 27 Tryz.ntmps117 (by simp) ?_
 repeat (first|refine y83 ok _ _ _ _ _ rfl ?_|refine z7 (by kernel_rfl) ?_|refine y44 (by first|omega|(unfold inI;omega)|(dsimp only;omega)) ?_)
 refine z8 (fun h=>?_) (fun h=>?_)
 ·repeat (first|refine y83 ok _ _ _ _ _ rfl ?_|refine z7 (by kernel_rfl) ?_|refine y44 (by first|omega|(unfold inI;omega)|(dsimp only;omega)) ?_)
  have hne:a≠b:=by rintro rfl;exact h rfl
  rw [y81 hne]
  exact ⟨[],by decide,rfl,rfl,y3 rfl,trivial⟩
 ·have hl:a.length=b.length:=by omega
  repeat (first|refine y83 ok _ _ _ _ _ rfl ?_|refine z7 (by kernel_rfl) ?_|refine y44 (by first|omega|(unfold inI;omega)|(dsimp only;omega)) ?_)
  refine z109 (fun k:Nat=>([(0,lst 1 encL a),(1,lst 1 encL b),(5,.int k)],[])) (fun k=>k≤a.length∧a.take k=b.take k) (fun k=>a.length - k) 0 (by simp)
   ⟨[],rfl,by decide,rfl,⟨⟨rfl,rfl⟩,⟨rfl,rfl⟩,⟨rfl,rfl⟩,trivial⟩,trivial⟩ ?_
  intro k hk
  repeat (first|refine y83 ok _ _ _ _ _ rfl ?_|refine z7 (by kernel_rfl) ?_|refine y44 (by first|omega|(unfold inI;omega)|(dsimp only;omega)) ?_)
  refine z2 (fun h=>?_) (fun h=>?_)
  ·have hka:k < a.length:=by omega
   repeat (first|refine y83 ok _ _ _ _ _ rfl ?_|refine z7 (by kernel_rfl) ?_|refine y44 (by first|omega|(unfold inI;omega)|(dsimp only;omega)) ?_)
   refine ⟨_,z100 _ _ _ (by omega),?_⟩
   repeat (first|refine y83 ok _ _ _ _ _ rfl ?_|refine z7 (by kernel_rfl) ?_|refine y44 (by first|omega|(unfold inI;omega)|(dsimp only;omega)) ?_)
   refine ⟨_,z100 _ _ _ (by omega),?_⟩
   repeat (first|refine y83 ok _ _ _ _ _ rfl ?_|refine z7 (by kernel_rfl) ?_|refine y44 (by first|omega|(unfold inI;omega)|(dsimp only;omega)) ?_)
   refine z0 (hel a[k] (y45 _) b[k] (y45 _)) ?_ ?_ ?_
   ·rfl
   ·rfl
   repeat (first|refine y83 ok _ _ _ _ _ rfl ?_|refine z7 (by kernel_rfl) ?_|refine y44 (by first|omega|(unfold inI;omega)|(dsimp only;omega)) ?_)
   refine z8 (fun h=>?_) (fun h=>?_)
   ·repeat (first|refine y83 ok _ _ _ _ _ rfl ?_|refine z7 (by kernel_rfl) ?_|refine y44 (by first|omega|(unfold inI;omega)|(dsimp only;omega)) ?_)
    have hne:a≠b:=by rintro rfl;exact h rfl
    rw [y81 hne]
    exact ⟨[],by decide,rfl,rfl,y3 rfl,trivial⟩
   ·repeat (first|refine y83 ok _ _ _ _ _ rfl ?_|refine z7 (by kernel_rfl) ?_|refine y44 (by first|omega|(unfold inI;omega)|(dsimp only;omega)) ?_)
    refine ⟨k+1,[],⟨by omega,?_⟩,by omega,rfl,by decide,rfl,⟨⟨rfl,rfl⟩,⟨rfl,rfl⟩,⟨rfl,rfl⟩,trivial⟩,trivial⟩
    have h' : a[k]=b[k]:=h
    rw [y51 hka,y51 (by omega),hk.2,h']
  ·repeat (first|refine y83 ok _ _ _ _ _ rfl ?_|refine z7 (by kernel_rfl) ?_|refine y44 (by first|omega|(unfold inI;omega)|(dsimp only;omega)) ?_)
   have he:a=b:=by
    have:=hk.2
    rwa [y56 (by omega),y56 (by omega)] at this
   rw [y80 he]
   exact ⟨[],by decide,rfl,rfl,y3 rfl,trivial⟩
structure Graph where
 st:List State
 nx:List (List Int)
 deriving DecidableEq
def Graph.a1 (g:Graph):AC:=lst 2 State.cs g.st
def Graph.a2 (g:Graph):AC:=lst 1 encL g.nx
def Graph.cs (g:Graph):List AC:=[lst 2 State.cs g.st,lst 1 encL g.nx]
def Graph.s1 (g:Graph):Nat:=tot State.sz g.st
def Graph.s2 (g:Graph):Nat:=tot List.length g.nx
theorem z942 (s:Graph) (n:Int) (c0:∀ n:Int,0≤n→n≤1048576→CallsA Tryz.prog 104 [Graph.a1 s,.int n] [] (.int (bud n (Graph.s1 s))) []) (c1:∀ n:Int,0≤n→n≤1048576→CallsA Tryz.prog 105 [Graph.a2 s,.int n] [] (.int (bud n (Graph.s2 s))) []) (h0:0≤n) (h1:n≤1048576):CallsA Tryz.prog 32 [.agg (Graph.cs s),.int n] [] (.int (bud n (Graph.s1 s+Graph.s2 s))) []:=by
 refine z6 z12 Tryz.func32 rfl rfl 18 Tryz.ntmps32 (by simp) ?_
 repeat (first|refine y83 ok _ _ _ _ _ rfl ?_|refine z7 (by kernel_rfl) ?_|refine y44 (by first|omega|(unfold inI;omega)|(dsimp only;omega)) ?_)
 refine z0 (c0 (n) (by omega) (by omega)) ?_ ?_ ?_
 ·rfl
 ·rfl
 repeat (first|refine y83 ok _ _ _ _ _ rfl ?_|refine z7 (by kernel_rfl) ?_|refine y44 (by first|omega|(unfold inI;omega)|(dsimp only;omega)) ?_)
 refine z2 (fun g0=>?_) (fun g0=>?_)
 ·repeat (first|refine y83 ok _ _ _ _ _ rfl ?_|refine z7 (by kernel_rfl) ?_|refine y44 (by first|omega|(unfold inI;omega)|(dsimp only;omega)) ?_)
  have e:bud n (Graph.s1 s+Graph.s2 s)=-1:=by unfold bud at g0 ⊢;split at g0<;>rw [if_pos (by omega)]<;>omega
  rw [e]
  exact ⟨[],by decide,rfl,rfl,y3 rfl,trivial⟩
 have e0:bud (n) (Graph.s1 s)=n - (Graph.s1 s:Int):=by unfold bud at g0 ⊢;split at g0<;>rename_i hh<;>(first|rw [if_pos hh]|rw [if_neg hh])<;>omega
 rw [e0] at g0 ⊢
 repeat (first|refine y83 ok _ _ _ _ _ rfl ?_|refine z7 (by kernel_rfl) ?_|refine y44 (by first|omega|(unfold inI;omega)|(dsimp only;omega)) ?_)
 refine z0 (c1 (n - (Graph.s1 s:Int)) (by omega) (by omega)) ?_ ?_ ?_
 ·rfl
 ·rfl
 repeat (first|refine y83 ok _ _ _ _ _ rfl ?_|refine z7 (by kernel_rfl) ?_|refine y44 (by first|omega|(unfold inI;omega)|(dsimp only;omega)) ?_)
 refine z2 (fun g1=>?_) (fun g1=>?_)
 ·repeat (first|refine y83 ok _ _ _ _ _ rfl ?_|refine z7 (by kernel_rfl) ?_|refine y44 (by first|omega|(unfold inI;omega)|(dsimp only;omega)) ?_)
  have e:bud n (Graph.s1 s+Graph.s2 s)=-1:=by unfold bud at g1 ⊢;split at g1<;>rw [if_pos (by omega)]<;>omega
  rw [e]
  exact ⟨[],by decide,rfl,rfl,y3 rfl,trivial⟩
 have e1:bud (n - (Graph.s1 s:Int)) (Graph.s2 s)=n - (Graph.s1 s:Int) - (Graph.s2 s:Int):=by unfold bud at g1 ⊢;split at g1<;>rename_i hh<;>(first|rw [if_pos hh]|rw [if_neg hh])<;>omega
 rw [e1] at g1 ⊢
 repeat (first|refine y83 ok _ _ _ _ _ rfl ?_|refine z7 (by kernel_rfl) ?_|refine y44 (by first|omega|(unfold inI;omega)|(dsimp only;omega)) ?_)
 have e:bud n (Graph.s1 s+Graph.s2 s)=n - (Graph.s1 s:Int) - (Graph.s2 s:Int):=by unfold bud;rw [if_neg (by omega)]<;>omega
 try rw [e]
 exact ⟨[],by decide,rfl,rfl,y3 rfl,trivial⟩
theorem z937 (s:Graph) (c0:CallsA Tryz.prog 110 [Graph.a1 s] [] (Graph.a1 s) []) (c1:CallsA Tryz.prog 111 [Graph.a2 s] [] (Graph.a2 s) []):CallsA Tryz.prog 37 [.agg (Graph.cs s)] [] (.agg (Graph.cs s)) []:=by
 refine z6 z12 Tryz.func37 rfl rfl 13 Tryz.ntmps37 (by simp) ?_
 repeat (first|refine y83 ok _ _ _ _ _ rfl ?_|refine z7 (by kernel_rfl) ?_|refine y44 (by first|omega|(unfold inI;omega)|(dsimp only;omega)) ?_)
 refine z0 c0 ?_ ?_ ?_
 ·rfl
 ·rfl
 repeat (first|refine y83 ok _ _ _ _ _ rfl ?_|refine z7 (by kernel_rfl) ?_|refine y44 (by first|omega|(unfold inI;omega)|(dsimp only;omega)) ?_)
 refine z0 c1 ?_ ?_ ?_
 ·rfl
 ·rfl
 repeat (first|refine y83 ok _ _ _ _ _ rfl ?_|refine z7 (by kernel_rfl) ?_|refine y44 (by first|omega|(unfold inI;omega)|(dsimp only;omega)) ?_)
 exact ⟨[],by decide,rfl,rfl,y3 rfl,trivial⟩
theorem z991 (s t:Graph) (c0:CallsA Tryz.prog 116 [Graph.a1 s,Graph.a1 t] [] (.bool (decide (Graph.st s=Graph.st t))) []) (c1:CallsA Tryz.prog 117 [Graph.a2 s,Graph.a2 t] [] (.bool (decide (Graph.nx s=Graph.nx t))) []):CallsA Tryz.prog 42 [.agg (Graph.cs s),.agg (Graph.cs t)] [] (.bool (decide (s=t))) []:=by
 refine z6 z12 Tryz.func42 rfl rfl 17 Tryz.ntmps42 (by simp) ?_
 repeat (first|refine y83 ok _ _ _ _ _ rfl ?_|refine z7 (by kernel_rfl) ?_|refine y44 (by first|omega|(unfold inI;omega)|(dsimp only;omega)) ?_)
 refine z0 c0 ?_ ?_ ?_
 ·rfl
 ·rfl
 repeat (first|refine y83 ok _ _ _ _ _ rfl ?_|refine z7 (by kernel_rfl) ?_|refine y44 (by first|omega|(unfold inI;omega)|(dsimp only;omega)) ?_)
 refine z8 (fun h=>?_) (fun g0=>?_)
 ·repeat (first|refine y83 ok _ _ _ _ _ rfl ?_|refine z7 (by kernel_rfl) ?_|refine y44 (by first|omega|(unfold inI;omega)|(dsimp only;omega)) ?_)
  have hne:s≠t:=by rintro rfl;exact h rfl
  rw [y81 hne]
  exact ⟨[],by decide,rfl,rfl,y3 rfl,trivial⟩
 repeat (first|refine y83 ok _ _ _ _ _ rfl ?_|refine z7 (by kernel_rfl) ?_|refine y44 (by first|omega|(unfold inI;omega)|(dsimp only;omega)) ?_)
 refine z0 c1 ?_ ?_ ?_
 ·rfl
 ·rfl
 repeat (first|refine y83 ok _ _ _ _ _ rfl ?_|refine z7 (by kernel_rfl) ?_|refine y44 (by first|omega|(unfold inI;omega)|(dsimp only;omega)) ?_)
 refine z8 (fun h=>?_) (fun g1=>?_)
 ·repeat (first|refine y83 ok _ _ _ _ _ rfl ?_|refine z7 (by kernel_rfl) ?_|refine y44 (by first|omega|(unfold inI;omega)|(dsimp only;omega)) ?_)
  have hne:s≠t:=by rintro rfl;exact h rfl
  rw [y81 hne]
  exact ⟨[],by decide,rfl,rfl,y3 rfl,trivial⟩
 repeat (first|refine y83 ok _ _ _ _ _ rfl ?_|refine z7 (by kernel_rfl) ?_|refine y44 (by first|omega|(unfold inI;omega)|(dsimp only;omega)) ?_)
 have he:s=t:=by cases s;cases t;simp_all
 rw [y80 he]
 exact ⟨[],by decide,rfl,rfl,y3 rfl,trivial⟩
def enB (b:Bool):List AC:=[.bool b]
structure Trans where
 src:Int
 care:Int
 val:Int
 dst:Int
 deriving DecidableEq
def Trans.cs (t:Trans):List AC:=[.int t.src,.int t.care,.int t.val,.int t.dst]
theorem Trans.unown (t:Trans):∀ x∈t.cs,x.unown=x:=fun x hx=>by
 simp only [Trans.cs,List.mem_cons,List.not_mem_nil,or_false] at hx
 rcases hx with rfl|rfl|rfl|rfl<;>rfl
structure Aut where
 ini:List Int
 acc:List Bool
 ed:List Trans
 deriving DecidableEq
def Aut.a1 (a:Aut):AC:=lst 1 enI a.ini
def Aut.a2 (a:Aut):AC:=lst 1 enB a.acc
def Aut.a3 (a:Aut):AC:=lst 4 Trans.cs a.ed
def Aut.cs (a:Aut):List AC:=[lst 1 enI a.ini,lst 1 enB a.acc,lst 4 Trans.cs a.ed]
def Aut.s1 (a:Aut):Nat:=a.ini.length
def Aut.s2 (a:Aut):Nat:=a.acc.length
def Aut.s3 (a:Aut):Nat:=a.ed.length
structure Cert where
 ranks:List Int
 deriving DecidableEq
def Cert.a1 (a:Cert):AC:=lst 1 enI a.ranks
def Cert.cs (a:Cert):List AC:=[lst 1 enI a.ranks]
def Cert.s1 (a:Cert):Nat:=a.ranks.length
theorem z468 (s:Cert) (n:Int) (c0:∀ n:Int,0≤n→n≤1048576→CallsA Tryz.prog 108 [Cert.a1 s,.int n] [] (.int (bud n (Cert.s1 s))) []) (h0:0≤n) (h1:n≤1048576):CallsA Tryz.prog 35 [.agg (Cert.cs s),.int n] [] (.int (bud n (Cert.s1 s))) []:=by
 refine z6 z12 Tryz.func35 rfl rfl 12 Tryz.ntmps35 (by simp) ?_
 repeat (first|refine y83 ok _ _ _ _ _ rfl ?_|refine z7 (by kernel_rfl) ?_|refine y44 (by first|omega|(unfold inI;omega)|(dsimp only;omega)) ?_)
 refine z0 (c0 (n) (by omega) (by omega)) ?_ ?_ ?_
 ·rfl
 ·rfl
 repeat (first|refine y83 ok _ _ _ _ _ rfl ?_|refine z7 (by kernel_rfl) ?_|refine y44 (by first|omega|(unfold inI;omega)|(dsimp only;omega)) ?_)
 refine z2 (fun g0=>?_) (fun g0=>?_)
 ·repeat (first|refine y83 ok _ _ _ _ _ rfl ?_|refine z7 (by kernel_rfl) ?_|refine y44 (by first|omega|(unfold inI;omega)|(dsimp only;omega)) ?_)
  have e:bud n (Cert.s1 s)=-1:=by unfold bud at g0 ⊢;split at g0<;>rw [if_pos (by omega)]<;>omega
  rw [e]
  exact ⟨[],by decide,rfl,rfl,y3 rfl,trivial⟩
 have e0:bud (n) (Cert.s1 s)=n - (Cert.s1 s:Int):=by unfold bud at g0 ⊢;split at g0<;>rename_i hh<;>(first|rw [if_pos hh]|rw [if_neg hh])<;>omega
 rw [e0] at g0 ⊢
 repeat (first|refine y83 ok _ _ _ _ _ rfl ?_|refine z7 (by kernel_rfl) ?_|refine y44 (by first|omega|(unfold inI;omega)|(dsimp only;omega)) ?_)
 have e:bud n (Cert.s1 s)=n - (Cert.s1 s:Int):=by unfold bud;rw [if_neg (by omega)]<;>omega
 try rw [e]
 exact ⟨[],by decide,rfl,rfl,y3 rfl,trivial⟩
theorem z467 (s:Cert) (c0:CallsA Tryz.prog 114 [Cert.a1 s] [] (Cert.a1 s) []):CallsA Tryz.prog 40 [.agg (Cert.cs s)] [] (.agg (Cert.cs s)) []:=by
 refine z6 z12 Tryz.func40 rfl rfl 9 Tryz.ntmps40 (by simp) ?_
 repeat (first|refine y83 ok _ _ _ _ _ rfl ?_|refine z7 (by kernel_rfl) ?_|refine y44 (by first|omega|(unfold inI;omega)|(dsimp only;omega)) ?_)
 refine z0 c0 ?_ ?_ ?_
 ·rfl
 ·rfl
 repeat (first|refine y83 ok _ _ _ _ _ rfl ?_|refine z7 (by kernel_rfl) ?_|refine y44 (by first|omega|(unfold inI;omega)|(dsimp only;omega)) ?_)
 exact ⟨[],by decide,rfl,rfl,y3 rfl,trivial⟩
theorem z474 (s t:Cert) (c0:CallsA Tryz.prog 120 [Cert.a1 s,Cert.a1 t] [] (.bool (decide (Cert.ranks s=Cert.ranks t))) []):CallsA Tryz.prog 45 [.agg (Cert.cs s),.agg (Cert.cs t)] [] (.bool (decide (s=t))) []:=by
 refine z6 z12 Tryz.func45 rfl rfl 11 Tryz.ntmps45 (by simp) ?_
 repeat (first|refine y83 ok _ _ _ _ _ rfl ?_|refine z7 (by kernel_rfl) ?_|refine y44 (by first|omega|(unfold inI;omega)|(dsimp only;omega)) ?_)
 refine z0 c0 ?_ ?_ ?_
 ·rfl
 ·rfl
 repeat (first|refine y83 ok _ _ _ _ _ rfl ?_|refine z7 (by kernel_rfl) ?_|refine y44 (by first|omega|(unfold inI;omega)|(dsimp only;omega)) ?_)
 refine z8 (fun h=>?_) (fun g0=>?_)
 ·repeat (first|refine y83 ok _ _ _ _ _ rfl ?_|refine z7 (by kernel_rfl) ?_|refine y44 (by first|omega|(unfold inI;omega)|(dsimp only;omega)) ?_)
  have hne:s≠t:=by rintro rfl;exact h rfl
  rw [y81 hne]
  exact ⟨[],by decide,rfl,rfl,y3 rfl,trivial⟩
 repeat (first|refine y83 ok _ _ _ _ _ rfl ?_|refine z7 (by kernel_rfl) ?_|refine y44 (by first|omega|(unfold inI;omega)|(dsimp only;omega)) ?_)
 have he:s=t:=by cases s;cases t;simp_all
 rw [y80 he]
 exact ⟨[],by decide,rfl,rfl,y3 rfl,trivial⟩
end Go.Proofs.YtahhobgjcfionaaGreat
namespace Go.Proofs.YtahhobgjcfionaaGreat
open Go.Gl
attribute [local irreducible] z21 AWP z42 z46 z43
def btw (n lo hi:Int):Bool:=decide (lo≤n) && decide (n≤hi)
theorem z52 {n lo hi:Int} : btw n lo hi=true↔lo≤n∧n≤hi:=by simp [btw]
theorem z312 {n lo hi:Int} : btw n lo hi=false↔¬(lo≤n∧n≤hi):=by rw [← z52];simp
theorem z334 (n lo hi:Int):CallsA Tryz.prog 84 [.int n,.int lo,.int hi] [] (.bool (btw n lo hi)) []:=by
 refine z6 z12 Tryz.func84 rfl rfl 15 Tryz.ntmps84 (by simp) ?_
 repeat' (first|(apply y83 ok;rfl;conv=>whnf)|(apply z2<;>intro _<;>conv=>whnf))
 all_goals (refine z22 rfl ?_;(unfold btw;simp [*];done))
def idxF {α:Type} (p:α→Bool) (l:List α):Int:=match l.findIdx? p with
 |some i=>i
 |none=>-1
theorem z179 {α:Type} {p:α→Bool} {l:List α} {i:Nat} (hi:i < l.length) (h:p l[i]=true) (hn:∀ j (hj:j < l.length),j < i→p l[j]=false):idxF p l=i:=by
 have:l.findIdx? p=some i:=List.findIdx?_eq_some_iff_getElem.2 ⟨hi,h,fun j hj=>by simp [hn j (by omega) hj]⟩
 simp [idxF,this]
theorem z155 {α:Type} {p:α→Bool} {l:List α} (hn:∀ j (hj:j < l.length),p l[j]=false):idxF p l=-1:=by
 have:l.findIdx? p=none:=List.findIdx?_eq_none_iff.2 fun x hx=>by
  obtain ⟨i,hi,rfl⟩:=List.mem_iff_getElem.1 hx
  exact hn i hi
 simp [idxF,this]
theorem z214 {α:Type} (p:α→Bool) (l:List α):decide (0≤idxF p l)=l.any p:=by
 unfold idxF
 split
 ·rename_i i e
  obtain ⟨h,hp,_⟩:=List.findIdx?_eq_some_iff_getElem.1 e
  have:l.any p=true:=List.any_eq_true.2 ⟨_,y45 h,hp⟩
  rw [this]
  simp
 ·rename_i e
  have:=List.findIdx?_eq_none_iff.1 e
  have:l.any p=false:=List.any_eq_false.2 fun x hx=>by simp [this x hx]
  rw [this]
  simp
theorem z667 (l:List Int) (hl:l.length≤maxLen) (p:Int→Bool) (f:FuncId) (hf:∀ x∈l,CallsA Tryz.prog f [.int x] [] (.bool (p x)) []):CallsA Tryz.prog 166 [lst 1 enI l,.fn (.func f) [] []] [] (.int (idxF p l)) []:=by
 unfold maxLen at hl
 refine z6 z12 Tryz.func166 rfl rfl 19 Tryz.ntmps166 (by simp) ?_
 repeat' ((apply y83 ok;rfl;conv=>whnf))
 refine z93 (fun k:Nat=>([(0,lst 1 enI l),(1,.fn (.func f) [] []),(7,.int l.length),(8,.int k)],[])) (fun k=>k≤l.length∧∀ j (hj:j < l.length),j < k→p l[j]=false) (fun k=>l.length - k) 0 (by simp)
  ⟨[],rfl,by decide,rfl,⟨⟨rfl,rfl⟩,⟨rfl,rfl⟩,⟨rfl,rfl⟩,⟨rfl,rfl⟩,trivial⟩,trivial⟩ ?_
 intro k hk
 repeat' (first|(apply y83 ok;rfl;conv=>whnf)|(apply y44;(first|omega|(unfold inI;omega));conv=>whnf)|(with_reducible apply z4;omega;intro _;conv=>whnf)|(apply z2<;>intro _<;>conv=>whnf)|(apply z47<;>intro _<;>conv=>whnf)|(apply z0 (hf l[k] (y45 _));rfl;rfl;conv=>whnf))
 ·rename_i h h1
  exact z50 rfl rfl (by rw [z179 (by omega) h1 hk.2];rfl)
 ·rename_i h h1
  refine z81 (k+1) [] ⟨by omega,fun j hj hjk=>?_⟩ (by omega) ⟨rfl,by decide,rfl,⟨⟨rfl,rfl⟩,⟨rfl,rfl⟩,⟨rfl,rfl⟩,⟨rfl,rfl⟩,trivial⟩,trivial⟩
  rcases y68 j k with h2|h2
  ·exact hk.2 j hj h2
  ·obtain rfl:j=k:=by omega
   exact h1
 ·exact z50 rfl rfl (by rw [z155 fun j hj=>hk.2 j hj (by omega)];rfl)
theorem z277 (l:List Int) (hl:l.length≤maxLen) (p:Int→Bool) (f:FuncId) (hf:∀ x∈l,CallsA Tryz.prog f [.int x] [] (.bool (p x)) []):CallsA Tryz.prog 94 [lst 1 enI l,.fn (.func f) [] []] [] (.bool (l.any p)) []:=by
 refine z6 z12 Tryz.func94 rfl rfl 9 Tryz.ntmps94 (by simp) ?_
 repeat' (first|(apply y83 ok;rfl;conv=>whnf)|(apply z0 (z667 l hl p f hf);rfl;rfl;conv=>whnf))
 exact z22 rfl (by rw [← z214])
theorem z934 (n:Int):CallsA Tryz.prog 164 [.int n] [] (.bool (!btw n 0 3)) []:=by
 refine z6 z12 Tryz.func164 rfl rfl 6 Tryz.ntmps164 (by simp) ?_
 repeat' (first|(apply y83 ok;rfl;conv=>whnf)|(apply z0 (z334 n 0 3);rfl;rfl;conv=>whnf))
 exact z22 rfl rfl
def z466 (l:List Int):Bool:=decide ((l.length:Int)=3) && !(l.any fun n=>!btw n 0 3)
theorem z1035 (l:List Int) (hl:l.length≤maxLen):CallsA Tryz.prog 87 [ints l] [] (.bool (z466 l)) []:=by
 have hl':=hl
 unfold maxLen at hl'
 have hk:=z277 l hl (fun n=>!btw n 0 3) 164 (fun x _=>z934 x)
 refine z6 z12 Tryz.func87 rfl rfl 11 Tryz.ntmps87 (by simp) ?_
 repeat' (first|(apply y83 ok;rfl;conv=>whnf)|(apply z2<;>intro _<;>conv=>whnf)|(apply z0 (hk);rfl;rfl;conv=>whnf))
 all_goals (refine z22 rfl ?_;(unfold z466;simp [*];done))
end Go.Proofs.YtahhobgjcfionaaGreat
namespace Go.Proofs.YtahhobgjcfionaaGreat
open Go.Gl
attribute [local irreducible] z21 z879 z509
theorem z546 (l:List State) (hl:l.length≤maxLen) (p:State→Bool) (f:FuncId) (hf:∀ x∈l,CallsA Tryz.prog f [z24 State.cs x] [] (.bool (p x)) []):CallsA Tryz.prog 163 [lst 2 State.cs l,.fn (.func f) [] []] [] (.int (idxF p l)) []:=by
 unfold maxLen at hl
 refine z6 z12 Tryz.func163 rfl rfl 19 Tryz.ntmps163 (by simp) ?_
 repeat' (((apply y83 ok;rfl))<;>conv=>whnf)
 refine z93 (fun k:Nat=>([(0,lst 2 State.cs l),(1,.fn (.func f) [] []),(7,.int l.length),(8,.int k)],[])) (fun k=>k≤l.length∧∀ j (hj:j < l.length),j < k→p l[j]=false) (fun k=>l.length - k) 0 (by simp)
  ⟨[],rfl,by decide,rfl,⟨⟨rfl,rfl⟩,⟨rfl,rfl⟩,⟨rfl,rfl⟩,⟨rfl,rfl⟩,trivial⟩,trivial⟩ ?_
 intro k hk
 repeat' ((first|(apply y83 ok;rfl)|(apply y44;first|omega|(unfold inI;omega))|(((with_reducible apply z4;omega));intro _)|((first|apply z2|apply z47)<;>intro _)|(apply z0 (hf l[k] (y45 _));rfl;rfl))<;>conv=>whnf)
 ·rename_i h h1
  exact z50 rfl rfl (by rw [z179 (by omega) h1 hk.2];rfl)
 ·rename_i h h1
  refine z81 (k+1) [] ⟨by omega,fun j hj hjk=>?_⟩ (by omega) ⟨rfl,by decide,rfl,⟨⟨rfl,rfl⟩,⟨rfl,rfl⟩,⟨rfl,rfl⟩,⟨rfl,rfl⟩,trivial⟩,trivial⟩
  rcases y68 j k with h2|h2
  ·exact hk.2 j hj h2
  ·obtain rfl:j=k:=by omega
   exact h1
 ·exact z50 rfl rfl (by rw [z155 fun j hj=>hk.2 j hj (by omega)];rfl)
theorem z406 (l:List State) (hl:l.length≤maxLen) (p:State→Bool) (f:FuncId) (hf:∀ x∈l,CallsA Tryz.prog f [z24 State.cs x] [] (.bool (p x)) []):CallsA Tryz.prog 85 [lst 2 State.cs l,.fn (.func f) [] []] [] (.bool (l.any p)) []:=by
 refine z6 z12 Tryz.func85 rfl rfl 9 Tryz.ntmps85 (by simp) ?_
 repeat' ((first|(apply y83 ok;rfl)|(apply z0 (z546 l hl p f hf);rfl;rfl))<;>conv=>whnf)
 exact z22 rfl (by rw [← z214])
theorem z584 (l:List Tree) (hl:l.length≤maxLen) (p:Tree→Bool) (f:FuncId) (hf:∀ x∈l,CallsA Tryz.prog f [z24 Tree.cs' x] [] (.bool (p x)) []):CallsA Tryz.prog 212 [lst 3 Tree.cs' l,.fn (.func f) [] []] [] (.int (idxF p l)) []:=by
 unfold maxLen at hl
 refine z6 z12 Tryz.func212 rfl rfl 19 Tryz.ntmps212 (by simp) ?_
 repeat' (((apply y83 ok;rfl))<;>conv=>whnf)
 refine z93 (fun k:Nat=>([(0,lst 3 Tree.cs' l),(1,.fn (.func f) [] []),(7,.int l.length),(8,.int k)],[])) (fun k=>k≤l.length∧∀ j (hj:j < l.length),j < k→p l[j]=false) (fun k=>l.length - k) 0 (by simp)
  ⟨[],rfl,by decide,rfl,⟨⟨rfl,rfl⟩,⟨rfl,rfl⟩,⟨rfl,rfl⟩,⟨rfl,rfl⟩,trivial⟩,trivial⟩ ?_
 intro k hk
 repeat' ((first|(apply y83 ok;rfl)|(apply y44;first|omega|(unfold inI;omega))|(((with_reducible apply z4;omega));intro _)|((first|apply z2|apply z47)<;>intro _)|(apply z0 (hf l[k] (y45 _));rfl;rfl))<;>conv=>whnf)
 ·rename_i h h1
  exact z50 rfl rfl (by rw [z179 (by omega) h1 hk.2];rfl)
 ·rename_i h h1
  refine z81 (k+1) [] ⟨by omega,fun j hj hjk=>?_⟩ (by omega) ⟨rfl,by decide,rfl,⟨⟨rfl,rfl⟩,⟨rfl,rfl⟩,⟨rfl,rfl⟩,⟨rfl,rfl⟩,trivial⟩,trivial⟩
  rcases y68 j k with h2|h2
  ·exact hk.2 j hj h2
  ·obtain rfl:j=k:=by omega
   exact h1
 ·exact z50 rfl rfl (by rw [z155 fun j hj=>hk.2 j hj (by omega)];rfl)
theorem z446 (l:List Tree) (hl:l.length≤maxLen) (p:Tree→Bool) (f:FuncId) (hf:∀ x∈l,CallsA Tryz.prog f [z24 Tree.cs' x] [] (.bool (p x)) []):CallsA Tryz.prog 152 [lst 3 Tree.cs' l,.fn (.func f) [] []] [] (.bool (l.any p)) []:=by
 refine z6 z12 Tryz.func152 rfl rfl 9 Tryz.ntmps152 (by simp) ?_
 repeat' ((first|(apply y83 ok;rfl)|(apply z0 (z584 l hl p f hf);rfl;rfl))<;>conv=>whnf)
 exact z22 rfl (by rw [← z214])
theorem z547 (c:Int) (l:List (List Int)) (hl:l.length≤maxLen) (p:(List Int)→Bool) (f:FuncId) (hf:∀ x∈l,CallsA Tryz.prog f [ints x,.pt [.int c]] [] (.bool (p x)) []):CallsA Tryz.prog 165 [lst 1 encL l,.fn (.func f) [] [.pt [.int c]]] [] (.int (idxF p l)) []:=by
 unfold maxLen at hl
 refine z6 z12 Tryz.func165 rfl rfl 19 Tryz.ntmps165 (by simp) ?_
 repeat' (((apply y83 ok;rfl))<;>conv=>whnf)
 refine z93 (fun k:Nat=>([(0,lst 1 encL l),(1,.fn (.func f) [] [.pt [.int c]]),(7,.int l.length),(8,.int k)],[])) (fun k=>k≤l.length∧∀ j (hj:j < l.length),j < k→p l[j]=false) (fun k=>l.length - k) 0 (by simp)
  ⟨[],rfl,by decide,rfl,⟨⟨rfl,rfl⟩,⟨rfl,rfl⟩,⟨rfl,rfl⟩,⟨rfl,rfl⟩,trivial⟩,trivial⟩ ?_
 intro k hk
 repeat' ((first|(apply y83 ok;rfl)|(apply y44;first|omega|(unfold inI;omega))|(((with_reducible apply z4;omega));intro _)|((first|apply z2|apply z47)<;>intro _)|(apply z0 (hf l[k] (y45 _));rfl;rfl))<;>conv=>whnf)
 ·rename_i h h1
  exact z50 rfl rfl (by rw [z179 (by omega) h1 hk.2];rfl)
 ·rename_i h h1
  refine z81 (k+1) [] ⟨by omega,fun j hj hjk=>?_⟩ (by omega) ⟨rfl,by decide,rfl,⟨⟨rfl,rfl⟩,⟨rfl,rfl⟩,⟨rfl,rfl⟩,⟨rfl,rfl⟩,trivial⟩,trivial⟩
  rcases y68 j k with h2|h2
  ·exact hk.2 j hj h2
  ·obtain rfl:j=k:=by omega
   exact h1
 ·exact z50 rfl rfl (by rw [z155 fun j hj=>hk.2 j hj (by omega)];rfl)
theorem z407 (c:Int) (l:List (List Int)) (hl:l.length≤maxLen) (p:(List Int)→Bool) (f:FuncId) (hf:∀ x∈l,CallsA Tryz.prog f [ints x,.pt [.int c]] [] (.bool (p x)) []):CallsA Tryz.prog 88 [lst 1 encL l,.fn (.func f) [] [.pt [.int c]]] [] (.bool (l.any p)) []:=by
 refine z6 z12 Tryz.func88 rfl rfl 9 Tryz.ntmps88 (by simp) ?_
 repeat' ((first|(apply y83 ok;rfl)|(apply z0 (z547 c l hl p f hf);rfl;rfl))<;>conv=>whnf)
 exact z22 rfl (by rw [← z214])
end Go.Proofs.YtahhobgjcfionaaGreat
namespace Go.Proofs.YtahhobgjcfionaaGreat
open Go.Gl
attribute [local irreducible] z21 AWP z42 z46 z43
theorem z847 (l:List Int) (hl:l.length≤maxLen) (v:Int):CallsA Tryz.prog 162 [ints l,.int v] [] (.int (idxF (fun x=>decide (v=x)) l)) []:=by
 unfold maxLen at hl
 refine z6 z12 Tryz.func162 rfl rfl 19 Tryz.ntmps162 (by simp) ?_
 repeat' (((apply y83 ok;rfl))<;>conv=>whnf)
 refine z93 (fun k:Nat=>([(0,ints l),(1,.int v),(7,.int l.length),(8,.int k)],[])) (fun k=>k≤l.length∧∀ j (hj:j < l.length),j < k→decide (v=l[j])=false) (fun k=>l.length - k) 0 (by simp)
  ⟨[],rfl,by decide,rfl,⟨⟨rfl,rfl⟩,⟨rfl,rfl⟩,⟨rfl,rfl⟩,⟨rfl,rfl⟩,trivial⟩,trivial⟩ ?_
 intro k hk
 repeat' ((first|(apply y83 ok;rfl)|(apply y44;first|omega|(unfold inI;omega))|(((with_reducible apply z4;omega));intro _)|((apply z2)<;>intro _))<;>conv=>whnf)
 ·rename_i h h1
  exact z50 rfl rfl (by rw [z179 (p:=fun x=>decide (v=x)) (by omega) (y80 h1) hk.2];rfl)
 ·rename_i h h1
  refine z81 (k+1) [] ⟨by omega,fun j hj hjk=>?_⟩ (by omega) ⟨rfl,by decide,rfl,⟨⟨rfl,rfl⟩,⟨rfl,rfl⟩,⟨rfl,rfl⟩,⟨rfl,rfl⟩,trivial⟩,trivial⟩
  rcases y68 j k with h2|h2
  ·exact hk.2 j hj h2
  ·obtain rfl:j=k:=by omega
   exact y81 h1
 ·exact z50 rfl rfl (by rw [z155 (p:=fun x=>decide (v=x)) fun j hj=>hk.2 j hj (by omega)];rfl)
theorem z172 (l:List Int) (hl:l.length≤maxLen) (v:Int):CallsA Tryz.prog 83 [ints l,.int v] [] (.bool (decide (v∈l))) []:=by
 refine z6 z12 Tryz.func83 rfl rfl 9 Tryz.ntmps83 (by simp) ?_
 repeat' ((first|(apply y83 ok;rfl)|(apply z0 (z847 l hl v);rfl;rfl))<;>conv=>whnf)
 have e:decide (v∈l)=l.any (fun x=>decide (v=x)):=by
  rw [Bool.eq_iff_iff];simp
 exact z22 rfl (by rw [e,← z214])
theorem z423 {α:Type} (w:Nat) (e:α→List AC) (l:List α) (k:Nat) (hk:k≤l.length):AC.list w ((k:Int).toNat - (0:Int).toNat) (((l.map e).drop (0:Int).toNat).take ((k:Int).toNat - (0:Int).toNat))=lst w e (l.take k):=by
 unfold lst
 rw [y49,List.map_take]
 simp only [y75,Int.toNat_zero,Nat.sub_zero,List.drop_zero]
 rw [Nat.min_eq_left hk]
def Distinct (l:List Int) (n:Int) (k:Nat):Prop:=∀ i (h:i < l.length),i < k→(0≤l[i]∧l[i]≤n - 1)∧l[i] ∉ l.take i
noncomputable instance {l:List Int} {n:Int} {k:Nat} : Decidable (Distinct l n k):=Classical.propDecidable _
theorem z857 (l:List Int) (hl:l.length≤maxLen) (n:Int) (h0:0≤n) (h1:n≤maxLen):CallsA Tryz.prog 90 [ints l,.int n] [] (.bool (decide (Distinct l n l.length))) []:=by
 have hl':=hl
 unfold maxLen at hl' h1
 refine z6 z12 Tryz.func90 rfl rfl 27 Tryz.ntmps90 (by simp) ?_
 repeat' (((apply y83 ok;rfl))<;>conv=>whnf)
 refine z93 (fun k:Nat=>([(0,ints l),(1,.int n),(7,ints l),(8,.int l.length),(9,.int k)],[])) (fun k=>k≤l.length∧Distinct l n k) (fun k=>l.length - k) 0 ⟨by omega,fun i h hi=>by omega⟩
  ⟨[],rfl,by decide,rfl,⟨⟨rfl,rfl⟩,⟨rfl,rfl⟩,⟨rfl,rfl⟩,⟨rfl,rfl⟩,⟨rfl,rfl⟩,trivial⟩,trivial⟩ ?_
 intro k hk
 repeat' ((first|(apply y83 ok;rfl)|(apply y44;first|omega|(unfold inI;omega))|(((with_reducible apply z4;omega));intro _)|((first|apply z2|apply z37)<;>intro _)|(apply z0 (z334 l[k] 0 (n - 1));rfl;rfl))<;>conv=>whnf)
 ·rename_i hb
  refine z22 rfl (y81 fun hd=>?_)
  have:=(hd k ‹_› ‹_›).1
  rw [z312] at hb
  exact hb this
 ·rename_i hb
  apply z0 (z172 (l.take k) (by rw [y49];omega) l[k])
  ·show _=[AC.list 1 _ _,_]
   rw [show AC.list 1 (l.take k).length ((l.take k).map enI)=_ from (z423 1 enI l k hk.1).symm]
   rfl
  ·rfl
  conv=>whnf
  repeat' ((first|(apply y83 ok;rfl)|(apply y44;(unfold inI;omega))|((apply z2)<;>intro _))<;>conv=>whnf)
  ·rename_i h2
   exact z22 rfl (y81 fun hd=>(hd k ‹_› ‹_›).2 h2)
  ·rename_i h2
   refine z81 (k+1) [] ⟨by omega,fun i hi hik=>?_⟩ (by omega) ⟨rfl,by decide,rfl,⟨⟨rfl,rfl⟩,⟨rfl,rfl⟩,⟨rfl,rfl⟩,⟨rfl,rfl⟩,⟨rfl,rfl⟩,trivial⟩,trivial⟩
   rcases y68 i k with h3|h3
   ·exact hk.2 i hi h3
   ·obtain rfl:i=k:=by omega
    exact ⟨z52.1 hb,h2⟩
 ·exact z22 rfl (y80 fun i h hi=>hk.2 i h (by omega))
theorem z588 (s:State) (hs:s.mx):CallsA Tryz.prog 86 [z24 State.cs s] [] (.bool (!z466 s.b)) []:=by
 refine z6 z12 Tryz.func86 rfl rfl 7 Tryz.ntmps86 (by simp) ?_
 repeat' (first|(apply y83 ok;rfl;conv=>whnf)|(apply z0 (z1035 s.b hs.2);rfl;rfl;conv=>whnf))
 exact z22 rfl rfl
noncomputable def z804 (n:Int) (l:List Int):Bool:=!decide ((l.length:Int)=0) && decide (Distinct l n l.length)
theorem z587 (c:Int) (h0:0≤c) (h1:c≤maxLen) (l:List Int) (hl:l.length≤maxLen):CallsA Tryz.prog 89 [ints l,.pt [.int c]] [] (.bool (!z804 c l)) []:=by
 have hl':=hl
 unfold maxLen at hl'
 refine z6 z12 Tryz.func89 rfl rfl 13 Tryz.ntmps89 (by simp) ?_
 repeat' (first|(apply y83 ok;rfl;conv=>whnf)|(apply z2<;>intro _<;>conv=>whnf)|(apply z0 (z857 l hl c h0 h1);rfl;rfl;conv=>whnf))
 all_goals (refine z22 rfl ?_;first|(unfold z804;simp [*];done)|(unfold z804;simp_all;done))
def Graph.mx (g:Graph):Prop:=State.mxs g.st∧g.nx.length≤maxLen∧∀ l∈g.nx,l.length≤maxLen
noncomputable def z399 (g:Graph):Bool:=btw g.st.length 1 60 && (decide ((g.nx.length:Int)=g.st.length) && (!(g.st.any fun s=>!z466 s.b) && !(g.nx.any fun l=>!z804 g.st.length l)))
theorem z398 (g:Graph) (hg:g.mx):CallsA Tryz.prog 22 [.agg g.cs] [] (.bool (z399 g)) []:=by
 obtain ⟨hs,hn,hm⟩:=hg
 have hl1:=hs.1
 unfold maxLen at hl1
 have k1:=z406 g.st hs.1 (fun s=>!z466 s.b) 86 (fun s hx=>z588 s (hs.2 s hx))
 have k2:=z407 (g.st.length:Int) g.nx hn (fun l=>!z804 g.st.length l) 89 (fun l hx=>z587 _ (by omega) (by unfold maxLen;omega) l (hm l hx))
 refine z6 z12 Tryz.func22 rfl rfl 29 Tryz.ntmps22 (by simp) ?_
 repeat' (first|(apply y83 ok;rfl;conv=>whnf)|(apply z2<;>intro _<;>conv=>whnf)|(apply z37<;>intro _<;>conv=>whnf)|(apply z47<;>intro _<;>conv=>whnf)|(apply z0 (z334 (g.st.length:Int) 1 60);rfl;rfl;conv=>whnf)|(apply z0 (k1);rfl;rfl;conv=>whnf)|(apply z921 [1] (k2);rfl;rfl;rfl;rfl;conv=>whnf))
 all_goals (refine z22 rfl ?_;(unfold z399;simp [*];done))
theorem z405 {d : Int} (l : List Tree) (hl : l.length ≤ maxLen) (p : Tree → Int → Bool) (nx : Tree → Int → Int) (okS : Int → Prop) (hok : ∀ x s, okS s → p x s = false → okS (nx x s)) (f : FuncId) (s : Int) (h0 : okS s)
    (hf:∀ x∈l,∀ s,okS s→CallsA Tryz.prog f [z24 Tree.cs' x,.pt [.int d],.ptr 1 none 0] [.cells 1 [[.int s]],.cells 1 [[.ptr 0 none 0]]] (.bool (p x s)) [.cells 1 [[.int (nx x s)]],.cells 1 [[.ptr 0 none 0]]]) :
    CallsA Tryz.prog 212 [lst 3 Tree.cs' l,.fn (.func f) [] [.pt [.int d],.ptr 1 none 0]] [.cells 1 [[.int s]],.cells 1 [[.ptr 0 none 0]]] (.int (idxS p nx l s 0).1) [.cells 1 [[.int (idxS p nx l s 0).2]],.cells 1 [[.ptr 0 none 0]]]:=by
  unfold maxLen at hl
  refine z6 z12 Tryz.func212 rfl rfl 19 Tryz.ntmps212 (by simp) ?_
  repeat' (((apply y83 ok;rfl))<;>conv=>whnf)
  refine z93 (fun x:Nat×Int=>([(0,lst 3 Tree.cs' l),(1,.fn (.func f) [] [.pt [.int d],.ptr 1 none 0]),(7,.int l.length),(8,.int x.1)],[.cells 1 [[.int x.2]],.cells 1 [[.ptr 0 none 0]]])) (fun x=>x.1≤l.length∧okS x.2∧idxS p nx l s 0=idxS p nx (l.drop x.1) x.2 x.1) (fun x=>l.length - x.1) (0,s) ⟨by omega,h0,rfl⟩
    ⟨[0,1],rfl,by decide,rfl,⟨⟨rfl,rfl⟩,⟨rfl,rfl⟩,⟨rfl,rfl⟩,⟨rfl,rfl⟩,trivial⟩,⟨z25 rfl rfl,z25 rfl rfl,trivial⟩⟩ ?_
  rintro ⟨k,t⟩ ⟨hk1,hk2,hk3⟩
  dsimp only at hk1 hk2 hk3
  repeat' ((first|(apply y83 ok;rfl)|(apply y44;first|omega|(unfold inI;omega))|(((with_reducible apply z4;omega));intro _)|((first|apply z2|apply z47)<;>intro _)|(apply z309 [0,1] [] (hf l[k] (y45 _) t hk2);rfl;rfl;rfl))<;>conv=>whnf)
  · rename_i h hkl h1
    rw [y77 hkl,idxS,if_pos h1] at hk3
    rw [hk3]
    exact z82 [0,1] (by decide) rfl rfl rfl ⟨z25 rfl rfl,z25 rfl rfl,trivial⟩
  · rename_i h hkl h1
    rw [y77 hkl,idxS,if_neg (by rw [h1];simp)] at hk3
    exact z81 (k+1,nx l[k] t) [0,1] ⟨by dsimp only;omega,hok _ _ hk2 h1,hk3⟩ (by dsimp only;omega) ⟨rfl,by decide,rfl,⟨⟨rfl,rfl⟩,⟨rfl,rfl⟩,⟨rfl,rfl⟩,⟨rfl,rfl⟩,trivial⟩,⟨z25 rfl rfl,z25 rfl rfl,trivial⟩⟩
  · rw [y82 (by omega),idxS] at hk3
    rw [hk3]
    exact z82 [0,1] (by decide) rfl rfl rfl ⟨z25 rfl rfl,z25 rfl rfl,trivial⟩
theorem z590 {d : Int} (l : List Tree) (hl : l.length ≤ maxLen) (p : Tree → Int → Bool) (nx : Tree → Int → Int) (okS : Int → Prop) (hok : ∀ x s, okS s → p x s = false → okS (nx x s)) (f : FuncId) (s : Int) (h0 : okS s)
    (hf:∀ x∈l,∀ s,okS s→CallsA Tryz.prog f [z24 Tree.cs' x,.pt [.int d],.ptr 1 none 0] [.cells 1 [[.int s]],.cells 1 [[.ptr 0 none 0]]] (.bool (p x s)) [.cells 1 [[.int (nx x s)]],.cells 1 [[.ptr 0 none 0]]]) :
    CallsA Tryz.prog 152 [lst 3 Tree.cs' l,.fn (.func f) [] [.pt [.int d],.ptr 1 none 0]] [.cells 1 [[.int s]],.cells 1 [[.ptr 0 none 0]]] (.bool (decide (0≤(idxS p nx l s 0).1))) [.cells 1 [[.int (idxS p nx l s 0).2]],.cells 1 [[.ptr 0 none 0]]]:=by
  refine z6 z12 Tryz.func152 rfl rfl 9 Tryz.ntmps152 (by simp) ?_
  repeat' ((first|(apply y83 ok;rfl)|(apply z309 [0,1] [] (z405 (d:=d) l hl p nx okS hok f s h0 hf);rfl;rfl;rfl))<;>conv=>whnf)
  exact z82 [0,1] (by decide) rfl rfl rfl ⟨z25 rfl rfl,z25 rfl rfl,trivial⟩
theorem walk_ok (t:Tree):t.mx→∀ d n:Int,0≤d→d≤100→0≤n→n≤15→CallsA Tryz.prog 249 [z24 Tree.cs' t,.int d,.ptr 0 none 0] [.cells 1 [[.int n]]] (.bool (t.walkE d n).2) [.cells 1 [[.int (t.walkE d n).1]]]:=by
  induction t using y27 with|h t ih=>?_
  intro hm d n hd0 hd1 h0 h1
  rw [y29] at hm
  have hs:=Tree.walkE_spec.1
  have hk:d≤6→n+1≤15→CallsA Tryz.prog 152 [lst 3 Tree.cs' t.kids,.fn (.func 268) [] [.pt [.int d],.ptr 1 none 0]] [.cells 1 [[.int (n+1)]],.cells 1 [[.ptr 0 none 0]]] (.bool (!(Tree.walkEs t.kids (d+1) (n+1)).2)) [.cells 1 [[.int (Tree.walkEs t.kids (d+1) (n+1)).1]],.cells 1 [[.ptr 0 none 0]]]:=by
    intro hd hn
    have h:=z590 (d:=d) t.kids hm.1 (fun x s=>!(x.walkE (d+1) s).2) (fun x s=>(x.walkE (d+1) s).1) (fun s=>0≤s∧s≤15) (fun x s h1 h2=>by
      obtain ⟨a1,a2,a3,a4⟩:=hs x (d+1) s h1.1 h1.2
      have h3:(x.walkE (d+1) s).2=true:=by simpa using h2
      have:=(a1.1 h3).2
      rw [← a2 h3] at this
      exact ⟨by omega,this⟩) 268 (n+1) ⟨by omega,by omega⟩ (fun x hx s h=>by
        have hc:=ih x hx (hm.2 x hx) (d+1) s (by omega) (by omega) h.1 h.2
        refine z6 z12 Tryz.func268 rfl rfl 11 Tryz.ntmps268 (by simp) ?_
        repeat' ((first|(apply y83 ok;rfl)|(apply y44;(unfold inI;omega))|(apply z309 [0] [] hc;rfl;rfl;rfl))<;>conv=>whnf)
        exact z82 [0,1] (by decide) rfl rfl rfl ⟨z25 rfl rfl,z25 rfl rfl,trivial⟩)
    rw [y41 (d+1) t.kids (n+1) 0,Bool.not_not]
    exact h
  have hk2:=fun h1 h2=>by
    have:=hk h1 h2
    unfold lst at this
    rw [← y18] at this
    exact this
  refine z6 z12 Tryz.func249 rfl rfl 55 Tryz.ntmps249 (by simp) ?_
  repeat' ((first|(apply y83 ok;rfl)|(apply y44;(unfold inI;omega))|((first|apply z2|apply z8|apply z37)<;>intro _)|(apply z0 (z334 _ 1 9);rfl;rfl)|(apply z0 (z334 _ 0 3);rfl;rfl)|(apply z0 (z334 _ 0 2);rfl;rfl)|(apply z0 (z334 _ 0 0);rfl;rfl)|(apply z140 [0,3] [2] [] (hk2 (by omega) (by omega));rfl;rfl;rfl;(focus ((repeat' first|exact z10|apply z14)<;>exact z83 rfl rfl));((refine .inr ⟨rfl,?_⟩;repeat' first|exact True.intro|apply y44|exact rfl))))<;>conv=>whnf)
  all_goals first
    | (have e : t.walkE d n = (n + 1, false) := by
        rw [y40,if_neg]
        clear hk hk2 hs ih
        rintro ⟨c1,c2,c3,c4,c5⟩
        try simp only [z312,z52] at *
        unfold z437 at c4
        unfold z413 at c5
        grind
       rw [e]
       exact z82 [0] (by decide) rfl rfl rfl ⟨z25 rfl rfl,trivial⟩)
    | (have e : t.walkE d n = Tree.walkEs t.kids (d + 1) (n + 1) := by
        rw [y40,if_pos]
        clear hk hk2 hs ih
        try simp only [z312,z52] at *
        unfold z437 z413
        grind
       rw [e]
       refine z82 [0] (by decide) rfl rfl ?_ ⟨z25 rfl rfl,trivial⟩
       show AC.raw (.bool (!!_))=_
       rw [Bool.not_not];rfl)
end Go.Proofs.YtahhobgjcfionaaGreat
