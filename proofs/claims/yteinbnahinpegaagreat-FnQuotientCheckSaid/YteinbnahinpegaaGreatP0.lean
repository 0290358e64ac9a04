/- A part of the proofs over this program: Tab, T3, T4, T5, T6, T7, T8, T9, T10, T11, T12, T13, T15, T16, T17, T18, T19, T20, T21, T22, T23, T23R, T23S, T35A. -/
import Derived.Test.YteinbnahinpegaaGreatG0
import Derived.Test.YteinbnahinpegaaGreatG1
import Derived.Test.YteinbnahinpegaaGreatG2
import Derived.Test.YteinbnahinpegaaGreatG3
import Derived.Test.YteinbnahinpegaaGreatProg
import Derived.KernelRfl
set_option linter.all false
namespace Go.Proofs.YteinbnahinpegaaGreat
open Go.Gl
def tabL:List (Nat×TyI):=[
 (3,⟨.int .i64,1,8,.int .i64 0⟩),
 (28,⟨.slice 3,1,24,.slice none 0 0⟩),
 (33, ⟨.struct #[{ name := "Kind", type := 3, offset := 0, embedded := false, tag := "", pkgPath := "", byteOffset := 0 }, { name := "Atom", type := 3, offset := 1, embedded := false, tag := "", pkgPath := "", byteOffset := 8 }, { name := "Kids", type := 31, offset := 2, embedded := false, tag := "", pkgPath := "", byteOffset := 16 }], 3, 40, .agg #[.int .i64 0, .int .i64 0, .slice none 0 0]⟩),
 (47, ⟨.struct #[{ name := "Initial", type := 28, offset := 0, embedded := false, tag := "", pkgPath := "", byteOffset := 0 }, { name := "Accepting", type := 44, offset := 1, embedded := false, tag := "", pkgPath := "", byteOffset := 24 }, { name := "Edges", type := 45, offset := 2, embedded := false, tag := "", pkgPath := "", byteOffset := 48 }], 3, 72, .agg #[.slice none 0 0, .slice none 0 0, .slice none 0 0]⟩),
 (31,⟨.slice 33,1,24,.slice none 0 0⟩),
 (44,⟨.slice 4,1,24,.slice none 0 0⟩),
 (26, ⟨.struct #[{ name := "States", type := 23, offset := 0, embedded := false, tag := "", pkgPath := "", byteOffset := 0 }, { name := "Next", type := 24, offset := 1, embedded := false, tag := "", pkgPath := "", byteOffset := 24 }], 2, 48, .agg #[.slice none 0 0, .slice none 0 0]⟩),
 (102, ⟨.struct #[{ name := "Kind", type := 3, offset := 0, embedded := false, tag := "", pkgPath := "", byteOffset := 0 }, { name := "Value", type := 3, offset := 1, embedded := false, tag := "", pkgPath := "", byteOffset := 8 }, { name := "Kids", type := 27, offset := 2, embedded := false, tag := "", pkgPath := "", byteOffset := 16 }], 3, 40, .agg #[.int .i64 0, .int .i64 0, .slice none 0 0]⟩),
 (45,⟨.slice 91,1,24,.slice none 0 0⟩),
 (24,⟨.slice 28,1,24,.slice none 0 0⟩),
 (91, ⟨.struct #[{ name := "From", type := 3, offset := 0, embedded := false, tag := "", pkgPath := "", byteOffset := 0 }, { name := "Care", type := 3, offset := 1, embedded := false, tag := "", pkgPath := "", byteOffset := 8 }, { name := "Value", type := 3, offset := 2, embedded := false, tag := "", pkgPath := "", byteOffset := 16 }, { name := "To", type := 3, offset := 3, embedded := false, tag := "", pkgPath := "", byteOffset := 24 }], 4, 32, .agg #[.int .i64 0, .int .i64 0, .int .i64 0, .int .i64 0]⟩),
 (23,⟨.slice 76,1,24,.slice none 0 0⟩),
 (76, ⟨.struct #[{ name := "Locs", type := 28, offset := 0, embedded := false, tag := "", pkgPath := "", byteOffset := 0 }, { name := "Vals", type := 28, offset := 1, embedded := false, tag := "", pkgPath := "", byteOffset := 24 }], 2, 48, .agg #[.slice none 0 0, .slice none 0 0]⟩),
 (27,⟨.slice 102,1,24,.slice none 0 0⟩),
 (4,⟨.bool,1,1,.bool false⟩),
 (160, ⟨.struct #[{ name := "From", type := 3, offset := 0, embedded := false, tag := "", pkgPath := "", byteOffset := 0 }, { name := "To", type := 3, offset := 1, embedded := false, tag := "", pkgPath := "", byteOffset := 8 }, { name := "Guard", type := 102, offset := 2, embedded := false, tag := "", pkgPath := "", byteOffset := 16 }, { name := "Var", type := 3, offset := 5, embedded := false, tag := "", pkgPath := "", byteOffset := 56 }, { name := "Value", type := 102, offset := 6, embedded := false, tag := "", pkgPath := "", byteOffset := 64 }, { name := "Sync", type := 3, offset := 9, embedded := false, tag := "", pkgPath := "", byteOffset := 104 }], 10, 112, .agg #[.int .i64 0, .int .i64 0, .int .i64 0, .int .i64 0, .slice none 0 0, .int .i64 0, .int .i64 0, .int .i64 0, .slice none 0 0, .int .i64 0]⟩),
 (203,⟨.int .u64,1,8,.int .u64 0⟩),
 (106,⟨.slice 158,1,24,.slice none 0 0⟩),
 (108, ⟨.struct #[{ name := "Init", type := 28, offset := 0, embedded := false, tag := "", pkgPath := "", byteOffset := 0 }, { name := "Processes", type := 106, offset := 1, embedded := false, tag := "", pkgPath := "", byteOffset := 24 }], 2, 48, .agg #[.slice none 0 0, .slice none 0 0]⟩),
 (40, ⟨.struct #[{ name := "Stem", type := 28, offset := 0, embedded := false, tag := "", pkgPath := "", byteOffset := 0 }, { name := "Loop", type := 28, offset := 1, embedded := false, tag := "", pkgPath := "", byteOffset := 24 }], 2, 48, .agg #[.slice none 0 0, .slice none 0 0]⟩),
 (156,⟨.slice 160,1,24,.slice none 0 0⟩),
 (201,⟨.slice 203,1,24,.slice none 0 0⟩),
 (158, ⟨.struct #[{ name := "Locations", type := 3, offset := 0, embedded := false, tag := "", pkgPath := "", byteOffset := 0 }, { name := "Edges", type := 156, offset := 1, embedded := false, tag := "", pkgPath := "", byteOffset := 8 }], 2, 32, .agg #[.int .i64 0, .slice none 0 0]⟩),
 (22,⟨.slice 5,1,24,.slice none 0 0⟩),
 (182,⟨.slice 184,1,24,.slice none 0 0⟩),
 (248,⟨.int .u64,1,8,.int .u64 0⟩),
 (184, ⟨.struct #[{ name := "set", type := 3, offset := 0, embedded := false, tag := "", pkgPath := "loop.example/ltlcheck/impl", byteOffset := 0 }, { name := "phase", type := 3, offset := 1, embedded := false, tag := "", pkgPath := "loop.example/ltlcheck/impl", byteOffset := 8 }], 2, 16, .agg #[.int .i64 0, .int .i64 0]⟩),
 (150,⟨.slice 154,1,24,.slice none 0 0⟩),
 (99, ⟨.struct #[{ name := "b", type := 22, offset := 0, embedded := false, tag := "", pkgPath := "loop.example/ltlcheck/spec", byteOffset := 0 }, { name := "p", type := 3, offset := 1, embedded := false, tag := "", pkgPath := "loop.example/ltlcheck/spec", byteOffset := 24 }], 2, 32, .agg #[.slice none 0 0, .int .i64 0]⟩),
 (169,⟨.int .u64,1,8,.int .u64 0⟩),
 (181, ⟨.struct #[{ name := "basics", type := 31, offset := 0, embedded := false, tag := "", pkgPath := "loop.example/ltlcheck/impl", byteOffset := 0 }, { name := "untils", type := 28, offset := 1, embedded := false, tag := "", pkgPath := "loop.example/ltlcheck/impl", byteOffset := 24 }], 2, 48, .agg #[.slice none 0 0, .slice none 0 0]⟩),
 (136,⟨.slice 44,1,24,.slice none 0 0⟩),
 (5,⟨.int .u8,1,1,.int .u8 0⟩),
 (154, ⟨.struct #[{ name := "Process", type := 3, offset := 0, embedded := false, tag := "", pkgPath := "", byteOffset := 0 }, { name := "Edge", type := 3, offset := 1, embedded := false, tag := "", pkgPath := "", byteOffset := 8 }, { name := "Partner", type := 3, offset := 2, embedded := false, tag := "", pkgPath := "", byteOffset := 16 }, { name := "PartnerEdge", type := 3, offset := 3, embedded := false, tag := "", pkgPath := "", byteOffset := 24 }], 4, 32, .agg #[.int .i64 0, .int .i64 0, .int .i64 0, .int .i64 0]⟩),
 (243,⟨.slice 244,1,24,.slice none 0 0⟩),
 (143,⟨.slice 45,1,24,.slice none 0 0⟩),
 (179,⟨.pointer 181,1,8,.pointer none⟩),
 (234,⟨.map 184 3,1,8,.map none⟩),
 (238, ⟨.struct #[{ name := "care", type := 3, offset := 0, embedded := false, tag := "", pkgPath := "loop.example/ltlcheck/impl", byteOffset := 0 }, { name := "value", type := 3, offset := 1, embedded := false, tag := "", pkgPath := "loop.example/ltlcheck/impl", byteOffset := 8 }, { name := "to", type := 184, offset := 2, embedded := false, tag := "", pkgPath := "loop.example/ltlcheck/impl", byteOffset := 16 }], 4, 32, .agg #[.int .i64 0, .int .i64 0, .int .i64 0, .int .i64 0]⟩),
 (222,⟨.int .u32,1,4,.int .u32 0⟩),
 (175,⟨.pointer 3,1,8,.pointer none⟩),
 (236,⟨.slice 238,1,24,.slice none 0 0⟩),
 (245,⟨.map 3 3,1,8,.map none⟩),
 (208,⟨.func #[3] #[] false,1,8,.nilFunc⟩),
 (262,⟨.func #[33] #[] false,1,8,.nilFunc⟩),
 (204,⟨.map 91 4,1,8,.map none⟩),
 (215,⟨.int .i64,1,8,.int .i64 0⟩),
 (9,⟨.string,1,16,.string ⟨#[]⟩⟩)]
def tab:Tab:=z697 tabL
theorem inf3:(Tryz.prog.info? 3).map (fun j=>(j.zero,j.size,j.bytes))=some (some (.int .i64 0),1,8):=by kernel_rfl
theorem inf28:(Tryz.prog.info? 28).map (fun j=>(j.zero,j.size,j.bytes))=some (some (.slice none 0 0),1,24):=by kernel_rfl
theorem inf33:(Tryz.prog.info? 33).map (fun j=>(j.zero,j.size,j.bytes))=some (some (.agg #[.int .i64 0,.int .i64 0,.slice none 0 0]),3,40):=by kernel_rfl
theorem inf47:(Tryz.prog.info? 47).map (fun j=>(j.zero,j.size,j.bytes))=some (some (.agg #[.slice none 0 0,.slice none 0 0,.slice none 0 0]),3,72):=by kernel_rfl
theorem inf31:(Tryz.prog.info? 31).map (fun j=>(j.zero,j.size,j.bytes))=some (some (.slice none 0 0),1,24):=by kernel_rfl
theorem inf44:(Tryz.prog.info? 44).map (fun j=>(j.zero,j.size,j.bytes))=some (some (.slice none 0 0),1,24):=by kernel_rfl
theorem inf26:(Tryz.prog.info? 26).map (fun j=>(j.zero,j.size,j.bytes))=some (some (.agg #[.slice none 0 0,.slice none 0 0]),2,48):=by kernel_rfl
theorem inf102:(Tryz.prog.info? 102).map (fun j=>(j.zero,j.size,j.bytes))=some (some (.agg #[.int .i64 0,.int .i64 0,.slice none 0 0]),3,40):=by kernel_rfl
theorem inf45:(Tryz.prog.info? 45).map (fun j=>(j.zero,j.size,j.bytes))=some (some (.slice none 0 0),1,24):=by kernel_rfl
theorem inf24:(Tryz.prog.info? 24).map (fun j=>(j.zero,j.size,j.bytes))=some (some (.slice none 0 0),1,24):=by kernel_rfl
theorem inf91:(Tryz.prog.info? 91).map (fun j=>(j.zero,j.size,j.bytes))=some (some (.agg #[.int .i64 0,.int .i64 0,.int .i64 0,.int .i64 0]),4,32):=by kernel_rfl
theorem inf23:(Tryz.prog.info? 23).map (fun j=>(j.zero,j.size,j.bytes))=some (some (.slice none 0 0),1,24):=by kernel_rfl
theorem inf76:(Tryz.prog.info? 76).map (fun j=>(j.zero,j.size,j.bytes))=some (some (.agg #[.slice none 0 0,.slice none 0 0]),2,48):=by kernel_rfl
theorem inf27:(Tryz.prog.info? 27).map (fun j=>(j.zero,j.size,j.bytes))=some (some (.slice none 0 0),1,24):=by kernel_rfl
theorem inf4:(Tryz.prog.info? 4).map (fun j=>(j.zero,j.size,j.bytes))=some (some (.bool false),1,1):=by kernel_rfl
theorem inf160:(Tryz.prog.info? 160).map (fun j=>(j.zero,j.size,j.bytes))=some (some (.agg #[.int .i64 0,.int .i64 0,.int .i64 0,.int .i64 0,.slice none 0 0,.int .i64 0,.int .i64 0,.int .i64 0,.slice none 0 0,.int .i64 0]),10,112):=by kernel_rfl
theorem inf203:(Tryz.prog.info? 203).map (fun j=>(j.zero,j.size,j.bytes))=some (some (.int .u64 0),1,8):=by kernel_rfl
theorem inf106:(Tryz.prog.info? 106).map (fun j=>(j.zero,j.size,j.bytes))=some (some (.slice none 0 0),1,24):=by kernel_rfl
theorem inf108:(Tryz.prog.info? 108).map (fun j=>(j.zero,j.size,j.bytes))=some (some (.agg #[.slice none 0 0,.slice none 0 0]),2,48):=by kernel_rfl
theorem inf40:(Tryz.prog.info? 40).map (fun j=>(j.zero,j.size,j.bytes))=some (some (.agg #[.slice none 0 0,.slice none 0 0]),2,48):=by kernel_rfl
theorem inf156:(Tryz.prog.info? 156).map (fun j=>(j.zero,j.size,j.bytes))=some (some (.slice none 0 0),1,24):=by kernel_rfl
theorem inf201:(Tryz.prog.info? 201).map (fun j=>(j.zero,j.size,j.bytes))=some (some (.slice none 0 0),1,24):=by kernel_rfl
theorem inf158:(Tryz.prog.info? 158).map (fun j=>(j.zero,j.size,j.bytes))=some (some (.agg #[.int .i64 0,.slice none 0 0]),2,32):=by kernel_rfl
theorem inf22:(Tryz.prog.info? 22).map (fun j=>(j.zero,j.size,j.bytes))=some (some (.slice none 0 0),1,24):=by kernel_rfl
theorem inf182:(Tryz.prog.info? 182).map (fun j=>(j.zero,j.size,j.bytes))=some (some (.slice none 0 0),1,24):=by kernel_rfl
theorem inf248:(Tryz.prog.info? 248).map (fun j=>(j.zero,j.size,j.bytes))=some (some (.int .u64 0),1,8):=by kernel_rfl
theorem inf184:(Tryz.prog.info? 184).map (fun j=>(j.zero,j.size,j.bytes))=some (some (.agg #[.int .i64 0,.int .i64 0]),2,16):=by kernel_rfl
theorem inf150:(Tryz.prog.info? 150).map (fun j=>(j.zero,j.size,j.bytes))=some (some (.slice none 0 0),1,24):=by kernel_rfl
theorem inf99:(Tryz.prog.info? 99).map (fun j=>(j.zero,j.size,j.bytes))=some (some (.agg #[.slice none 0 0,.int .i64 0]),2,32):=by kernel_rfl
theorem inf169:(Tryz.prog.info? 169).map (fun j=>(j.zero,j.size,j.bytes))=some (some (.int .u64 0),1,8):=by kernel_rfl
theorem inf181:(Tryz.prog.info? 181).map (fun j=>(j.zero,j.size,j.bytes))=some (some (.agg #[.slice none 0 0,.slice none 0 0]),2,48):=by kernel_rfl
theorem inf136:(Tryz.prog.info? 136).map (fun j=>(j.zero,j.size,j.bytes))=some (some (.slice none 0 0),1,24):=by kernel_rfl
theorem inf5:(Tryz.prog.info? 5).map (fun j=>(j.zero,j.size,j.bytes))=some (some (.int .u8 0),1,1):=by kernel_rfl
theorem inf154:(Tryz.prog.info? 154).map (fun j=>(j.zero,j.size,j.bytes))=some (some (.agg #[.int .i64 0,.int .i64 0,.int .i64 0,.int .i64 0]),4,32):=by kernel_rfl
theorem inf243:(Tryz.prog.info? 243).map (fun j=>(j.zero,j.size,j.bytes))=some (some (.slice none 0 0),1,24):=by kernel_rfl
theorem inf143:(Tryz.prog.info? 143).map (fun j=>(j.zero,j.size,j.bytes))=some (some (.slice none 0 0),1,24):=by kernel_rfl
theorem inf179:(Tryz.prog.info? 179).map (fun j=>(j.zero,j.size,j.bytes))=some (some (.pointer none),1,8):=by kernel_rfl
theorem inf234:(Tryz.prog.info? 234).map (fun j=>(j.zero,j.size,j.bytes))=some (some (.map none),1,8):=by kernel_rfl
theorem inf238:(Tryz.prog.info? 238).map (fun j=>(j.zero,j.size,j.bytes))=some (some (.agg #[.int .i64 0,.int .i64 0,.int .i64 0,.int .i64 0]),4,32):=by kernel_rfl
theorem inf222:(Tryz.prog.info? 222).map (fun j=>(j.zero,j.size,j.bytes))=some (some (.int .u32 0),1,4):=by kernel_rfl
theorem inf175:(Tryz.prog.info? 175).map (fun j=>(j.zero,j.size,j.bytes))=some (some (.pointer none),1,8):=by kernel_rfl
theorem inf236:(Tryz.prog.info? 236).map (fun j=>(j.zero,j.size,j.bytes))=some (some (.slice none 0 0),1,24):=by kernel_rfl
theorem inf245:(Tryz.prog.info? 245).map (fun j=>(j.zero,j.size,j.bytes))=some (some (.map none),1,8):=by kernel_rfl
theorem inf208:(Tryz.prog.info? 208).map (fun j=>(j.zero,j.size,j.bytes))=some (some (.nilFunc),1,8):=by kernel_rfl
theorem inf262:(Tryz.prog.info? 262).map (fun j=>(j.zero,j.size,j.bytes))=some (some (.nilFunc),1,8):=by kernel_rfl
theorem inf204:(Tryz.prog.info? 204).map (fun j=>(j.zero,j.size,j.bytes))=some (some (.map none),1,8):=by kernel_rfl
theorem inf215:(Tryz.prog.info? 215).map (fun j=>(j.zero,j.size,j.bytes))=some (some (.int .i64 0),1,8):=by kernel_rfl
theorem inf9:(Tryz.prog.info? 9).map (fun j=>(j.zero,j.size,j.bytes))=some (some (.string ⟨#[]⟩),1,16):=by kernel_rfl
theorem z19:z118 Tryz.prog tab:=tabOk_of (⟨z62 Tryz.underlying3 inf3,⟨z62 Tryz.underlying28 inf28,⟨z62 Tryz.underlying33 inf33,⟨z62 Tryz.underlying47 inf47,⟨z62 Tryz.underlying31 inf31,⟨z62 Tryz.underlying44 inf44,⟨z62 Tryz.underlying26 inf26,⟨z62 Tryz.underlying102 inf102,⟨z62 Tryz.underlying45 inf45,⟨z62 Tryz.underlying24 inf24,⟨z62 Tryz.underlying91 inf91,⟨z62 Tryz.underlying23 inf23,⟨z62 Tryz.underlying76 inf76,⟨z62 Tryz.underlying27 inf27,⟨z62 Tryz.underlying4 inf4,⟨z62 Tryz.underlying160 inf160,⟨z62 Tryz.underlying203 inf203,⟨z62 Tryz.underlying106 inf106,⟨z62 Tryz.underlying108 inf108,⟨z62 Tryz.underlying40 inf40,⟨z62 Tryz.underlying156 inf156,⟨z62 Tryz.underlying201 inf201,⟨z62 Tryz.underlying158 inf158,⟨z62 Tryz.underlying22 inf22,⟨z62 Tryz.underlying182 inf182,⟨z62 Tryz.underlying248 inf248,⟨z62 Tryz.underlying184 inf184,⟨z62 Tryz.underlying150 inf150,⟨z62 Tryz.underlying99 inf99,⟨z62 Tryz.underlying169 inf169,⟨z62 Tryz.underlying181 inf181,⟨z62 Tryz.underlying136 inf136,⟨z62 Tryz.underlying5 inf5,⟨z62 Tryz.underlying154 inf154,⟨z62 Tryz.underlying243 inf243,⟨z62 Tryz.underlying143 inf143,⟨z62 Tryz.underlying179 inf179,⟨z62 Tryz.underlying234 inf234,⟨z62 Tryz.underlying238 inf238,⟨z62 Tryz.underlying222 inf222,⟨z62 Tryz.underlying175 inf175,⟨z62 Tryz.underlying236 inf236,⟨z62 Tryz.underlying245 inf245,⟨z62 Tryz.underlying208 inf208,⟨z62 Tryz.underlying262 inf262,⟨z62 Tryz.underlying204 inf204,⟨z62 Tryz.underlying215 inf215,⟨z62 Tryz.underlying9 inf9,trivial⟩⟩⟩⟩⟩⟩⟩⟩⟩⟩⟩⟩⟩⟩⟩⟩⟩⟩⟩⟩⟩⟩⟩⟩⟩⟩⟩⟩⟩⟩⟩⟩⟩⟩⟩⟩⟩⟩⟩⟩⟩⟩⟩⟩⟩⟩⟩⟩)
end Go.Proofs.YteinbnahinpegaaGreat
namespace Go.Proofs.YteinbnahinpegaaGreat
open Go.Gl
attribute [local irreducible] z20
def enI (n:Int):List AC:=[.int n]
def ints (l:List Int):AC:=.list 1 l.length (l.map enI)
theorem ok:Ok Tryz.prog tab:=⟨z19,by kernel_rfl⟩
structure State where
 a:List Int
 b:List Int
 deriving DecidableEq
def State.cs (s:State):List AC:=[ints s.a,ints s.b]
def State.mx (s:State):Prop:=s.a.length≤maxLen∧s.b.length≤maxLen
def State.sz (s:State):Nat:=s.a.length+s.b.length
def lst {α:Type} (w:Nat) (e:α→List AC) (l:List α):AC:=.list w l.length (l.map e)
def tot {α:Type} (f:α→Nat) (l:List α):Nat:=l.length+(l.map f).sum
theorem z802 {α:Type} (f:α→Nat) (l:List α) (k:Nat):((l.take k).map f).sum≤(l.map f).sum:=by
 conv=>rhs;rw [← List.take_append_drop k l,y60,List.sum_append]
 omega
def State.mxs (l:List State):Prop:=l.length≤maxLen∧∀ s∈l,s.mx
def State.small (s:State):Prop:=s.a.length≤1048576∧s.b.length≤1048576
theorem State.unown (s:State):∀ x∈s.cs,x.unown=x:=fun x hx=>by
 simp only [State.cs,List.mem_cons,List.not_mem_nil,or_false] at hx
 rcases hx with rfl|rfl<;>rfl
def z40 {α:Type} (e:α→List AC) (a:α):AC:=.agg (e a)
theorem Tree.unown (t:Tree):∀ x∈Tree.cs' t,x.unown=x:=fun x hx=>by
 simp only [Tree.cs',List.mem_cons,List.not_mem_nil,or_false] at hx
 rcases hx with rfl|rfl|rfl<;>rfl
def encL (l:List Int):List AC:=[ints l]
structure Graph where
 st:List State
 nx:List (List Int)
 deriving DecidableEq
def Graph.a1 (g:Graph):AC:=lst 2 State.cs g.st
def Graph.a2 (g:Graph):AC:=lst 1 encL g.nx
def Graph.cs (g:Graph):List AC:=[lst 2 State.cs g.st,lst 1 encL g.nx]
def Graph.s1 (g:Graph):Nat:=tot State.sz g.st
def Graph.s2 (g:Graph):Nat:=tot List.length g.nx
def enB (b:Bool):List AC:=[.bool b]
structure Trans where
 src:Int
 care:Int
 val:Int
 dst:Int
 deriving DecidableEq
def Trans.cs (t:Trans):List AC:=[.int t.src,.int t.care,.int t.val,.int t.dst]
theorem Trans.unown (t:Trans):∀ x∈t.cs,x.unown=x:=fun x hx=>by
 simp only [Trans.cs,List.mem_cons,List.not_mem_nil,or_false] at hx
 rcases hx with rfl|rfl|rfl|rfl<;>rfl
structure Aut where
 ini:List Int
 acc:List Bool
 ed:List Trans
 deriving DecidableEq
def Aut.a1 (a:Aut):AC:=lst 1 enI a.ini
def Aut.a2 (a:Aut):AC:=lst 1 enB a.acc
def Aut.a3 (a:Aut):AC:=lst 4 Trans.cs a.ed
def Aut.cs (a:Aut):List AC:=[lst 1 enI a.ini,lst 1 enB a.acc,lst 4 Trans.cs a.ed]
def Aut.s1 (a:Aut):Nat:=a.ini.length
def Aut.s2 (a:Aut):Nat:=a.acc.length
def Aut.s3 (a:Aut):Nat:=a.ed.length
structure Cert where
 ranks:List Int
 deriving DecidableEq
def Cert.a1 (a:Cert):AC:=lst 1 enI a.ranks
def Cert.cs (a:Cert):List AC:=[lst 1 enI a.ranks]
def Cert.s1 (a:Cert):Nat:=a.ranks.length
end Go.Proofs.YteinbnahinpegaaGreat
namespace Go.Proofs.YteinbnahinpegaaGreat
open Go.Gl
attribute [local irreducible] z20 AWP z30 z35 z34
def btw (n lo hi:Int):Bool:=decide (lo≤n) && decide (n≤hi)
theorem z141 {n lo hi:Int} : btw n lo hi=true↔lo≤n∧n≤hi:=by simp [btw]
theorem z303 {n lo hi:Int} : btw n lo hi=false↔¬(lo≤n∧n≤hi):=by rw [← z141];simp
theorem z348 (n lo hi:Int):CallsA Tryz.prog 86 [.int n,.int lo,.int hi] [] (.bool (btw n lo hi)) []:=by
 refine z12 z19 Tryz.func86 rfl rfl 15 Tryz.ntmps86 (by simp) ?_
 repeat' (first|(apply y4 ok;rfl;conv=>whnf)|(apply z8<;>intro _<;>conv=>whnf))
 all_goals (refine z24 rfl ?_;(unfold btw;simp [*];done))
def idxF {α:Type} (p:α→Bool) (l:List α):Int:=match l.findIdx? p with
 |some i=>i
 |none=>-1
theorem z177 {α:Type} {p:α→Bool} {l:List α} {i:Nat} (hi:i < l.length) (h:p l[i]=true) (hn:∀ j (hj:j < l.length),j < i→p l[j]=false):idxF p l=i:=by
 have:l.findIdx? p=some i:=List.findIdx?_eq_some_iff_getElem.2 ⟨hi,h,fun j hj=>by simp [hn j (by omega) hj]⟩
 simp [idxF,this]
theorem z178 {α:Type} {p:α→Bool} {l:List α} (hn:∀ j (hj:j < l.length),p l[j]=false):idxF p l=-1:=by
 have:l.findIdx? p=none:=List.findIdx?_eq_none_iff.2 fun x hx=>by
  obtain ⟨i,hi,rfl⟩:=List.mem_iff_getElem.1 hx
  exact hn i hi
 simp [idxF,this]
theorem z261 {α:Type} (p:α→Bool) (l:List α):decide (0≤idxF p l)=l.any p:=by
 unfold idxF
 split
 ·rename_i i e
  obtain ⟨h,hp,_⟩:=List.findIdx?_eq_some_iff_getElem.1 e
  have:l.any p=true:=List.any_eq_true.2 ⟨_,y40 h,hp⟩
  rw [this]
  simp
 ·rename_i e
  have:=List.findIdx?_eq_none_iff.1 e
  have:l.any p=false:=List.any_eq_false.2 fun x hx=>by simp [this x hx]
  rw [this]
  simp
theorem z659 (l:List Int) (hl:l.length≤maxLen) (p:Int→Bool) (f:FuncId) (hf:∀ x∈l,CallsA Tryz.prog f [.int x] [] (.bool (p x)) []):CallsA Tryz.prog 192 [lst 1 enI l,.fn (.func f) [] []] [] (.int (idxF p l)) []:=by
 unfold maxLen at hl
 refine z12 z19 Tryz.func192 rfl rfl 19 Tryz.ntmps192 (by simp) ?_
 repeat' ((apply y4 ok;rfl;conv=>whnf))
 refine z97 (fun k:Nat=>([(0,lst 1 enI l),(1,.fn (.func f) [] []),(7,.int l.length),(8,.int k)],[])) (fun k=>k≤l.length∧∀ j (hj:j < l.length),j < k→p l[j]=false) (fun k=>l.length - k) 0 (by simp)
  ⟨[],rfl,by decide,rfl,⟨⟨rfl,rfl⟩,⟨rfl,rfl⟩,⟨rfl,rfl⟩,⟨rfl,rfl⟩,trivial⟩,trivial⟩ ?_
 intro k hk
 repeat' (first|(apply y4 ok;rfl;conv=>whnf)|(apply y39;(first|omega|(unfold inI;omega));conv=>whnf)|(with_reducible apply z15;omega;intro _;conv=>whnf)|(apply z8<;>intro _<;>conv=>whnf)|(apply z110<;>intro _<;>conv=>whnf)|(apply z6 (hf l[k] (y40 _));rfl;rfl;conv=>whnf))
 ·rename_i h h1
  exact z50 rfl rfl (by rw [z177 (by omega) h1 hk.2];rfl)
 ·rename_i h h1
  refine z81 (k+1) [] ⟨by omega,fun j hj hjk=>?_⟩ (by omega) ⟨rfl,by decide,rfl,⟨⟨rfl,rfl⟩,⟨rfl,rfl⟩,⟨rfl,rfl⟩,⟨rfl,rfl⟩,trivial⟩,trivial⟩
  rcases y66 j k with h2|h2
  ·exact hk.2 j hj h2
  ·obtain rfl:j=k:=by omega
   exact h1
 ·exact z50 rfl rfl (by rw [z178 fun j hj=>hk.2 j hj (by omega)];rfl)
theorem z456 (l:List Int) (hl:l.length≤maxLen) (p:Int→Bool) (f:FuncId) (hf:∀ x∈l,CallsA Tryz.prog f [.int x] [] (.bool (p x)) []):CallsA Tryz.prog 136 [lst 1 enI l,.fn (.func f) [] []] [] (.bool (l.any p)) []:=by
 refine z12 z19 Tryz.func136 rfl rfl 9 Tryz.ntmps136 (by simp) ?_
 repeat' (first|(apply y4 ok;rfl;conv=>whnf)|(apply z6 (z659 l hl p f hf);rfl;rfl;conv=>whnf))
 exact z24 rfl (by rw [← z261])
theorem z949 (n:Int):CallsA Tryz.prog 137 [.int n] [] (.bool (!btw n 0 3)) []:=by
 refine z12 z19 Tryz.func137 rfl rfl 6 Tryz.ntmps137 (by simp) ?_
 repeat' (first|(apply y4 ok;rfl;conv=>whnf)|(apply z6 (z348 n 0 3);rfl;rfl;conv=>whnf))
 exact z24 rfl rfl
def z339 (l:List Int):Bool:=decide ((l.length:Int)=3) && !(l.any fun n=>!btw n 0 3)
theorem z1045 (l:List Int) (hl:l.length≤maxLen):CallsA Tryz.prog 89 [ints l] [] (.bool (z339 l)) []:=by
 have hl':=hl
 unfold maxLen at hl'
 have hk:=z456 l hl (fun n=>!btw n 0 3) 137 (fun x _=>z949 x)
 refine z12 z19 Tryz.func89 rfl rfl 11 Tryz.ntmps89 (by simp) ?_
 repeat' (first|(apply y4 ok;rfl;conv=>whnf)|(apply z8<;>intro _<;>conv=>whnf)|(apply z6 (hk);rfl;rfl;conv=>whnf))
 all_goals (refine z24 rfl ?_;(unfold z339;simp [*];done))
end Go.Proofs.YteinbnahinpegaaGreat
namespace Go.Proofs.YteinbnahinpegaaGreat
open Go.Gl
attribute [local irreducible] z20 z881 z489
theorem z526 (l:List State) (hl:l.length≤maxLen) (p:State→Bool) (f:FuncId) (hf:∀ x∈l,CallsA Tryz.prog f [z40 State.cs x] [] (.bool (p x)) []):CallsA Tryz.prog 135 [lst 2 State.cs l,.fn (.func f) [] []] [] (.int (idxF p l)) []:=by
 unfold maxLen at hl
 refine z12 z19 Tryz.func135 rfl rfl 19 Tryz.ntmps135 (by simp) ?_
 repeat' (((apply y4 ok;rfl))<;>conv=>whnf)
 refine z97 (fun k:Nat=>([(0,lst 2 State.cs l),(1,.fn (.func f) [] []),(7,.int l.length),(8,.int k)],[])) (fun k=>k≤l.length∧∀ j (hj:j < l.length),j < k→p l[j]=false) (fun k=>l.length - k) 0 (by simp)
  ⟨[],rfl,by decide,rfl,⟨⟨rfl,rfl⟩,⟨rfl,rfl⟩,⟨rfl,rfl⟩,⟨rfl,rfl⟩,trivial⟩,trivial⟩ ?_
 intro k hk
 repeat' ((first|(apply y4 ok;rfl)|(apply y39;first|omega|(unfold inI;omega))|(((with_reducible apply z15;omega));intro _)|((first|apply z8|apply z110)<;>intro _)|(apply z6 (hf l[k] (y40 _));rfl;rfl))<;>conv=>whnf)
 ·rename_i h h1
  exact z50 rfl rfl (by rw [z177 (by omega) h1 hk.2];rfl)
 ·rename_i h h1
  refine z81 (k+1) [] ⟨by omega,fun j hj hjk=>?_⟩ (by omega) ⟨rfl,by decide,rfl,⟨⟨rfl,rfl⟩,⟨rfl,rfl⟩,⟨rfl,rfl⟩,⟨rfl,rfl⟩,trivial⟩,trivial⟩
  rcases y66 j k with h2|h2
  ·exact hk.2 j hj h2
  ·obtain rfl:j=k:=by omega
   exact h1
 ·exact z50 rfl rfl (by rw [z178 fun j hj=>hk.2 j hj (by omega)];rfl)
theorem z402 (l:List State) (hl:l.length≤maxLen) (p:State→Bool) (f:FuncId) (hf:∀ x∈l,CallsA Tryz.prog f [z40 State.cs x] [] (.bool (p x)) []):CallsA Tryz.prog 87 [lst 2 State.cs l,.fn (.func f) [] []] [] (.bool (l.any p)) []:=by
 refine z12 z19 Tryz.func87 rfl rfl 9 Tryz.ntmps87 (by simp) ?_
 repeat' ((first|(apply y4 ok;rfl)|(apply z6 (z526 l hl p f hf);rfl;rfl))<;>conv=>whnf)
 exact z24 rfl (by rw [← z261])
theorem z560 (l:List Tree) (hl:l.length≤maxLen) (p:Tree→Bool) (f:FuncId) (hf:∀ x∈l,CallsA Tryz.prog f [z40 Tree.cs' x] [] (.bool (p x)) []):CallsA Tryz.prog 126 [lst 3 Tree.cs' l,.fn (.func f) [] []] [] (.int (idxF p l)) []:=by
 unfold maxLen at hl
 refine z12 z19 Tryz.func126 rfl rfl 19 Tryz.ntmps126 (by simp) ?_
 repeat' (((apply y4 ok;rfl))<;>conv=>whnf)
 refine z97 (fun k:Nat=>([(0,lst 3 Tree.cs' l),(1,.fn (.func f) [] []),(7,.int l.length),(8,.int k)],[])) (fun k=>k≤l.length∧∀ j (hj:j < l.length),j < k→p l[j]=false) (fun k=>l.length - k) 0 (by simp)
  ⟨[],rfl,by decide,rfl,⟨⟨rfl,rfl⟩,⟨rfl,rfl⟩,⟨rfl,rfl⟩,⟨rfl,rfl⟩,trivial⟩,trivial⟩ ?_
 intro k hk
 repeat' ((first|(apply y4 ok;rfl)|(apply y39;first|omega|(unfold inI;omega))|(((with_reducible apply z15;omega));intro _)|((first|apply z8|apply z110)<;>intro _)|(apply z6 (hf l[k] (y40 _));rfl;rfl))<;>conv=>whnf)
 ·rename_i h h1
  exact z50 rfl rfl (by rw [z177 (by omega) h1 hk.2];rfl)
 ·rename_i h h1
  refine z81 (k+1) [] ⟨by omega,fun j hj hjk=>?_⟩ (by omega) ⟨rfl,by decide,rfl,⟨⟨rfl,rfl⟩,⟨rfl,rfl⟩,⟨rfl,rfl⟩,⟨rfl,rfl⟩,trivial⟩,trivial⟩
  rcases y66 j k with h2|h2
  ·exact hk.2 j hj h2
  ·obtain rfl:j=k:=by omega
   exact h1
 ·exact z50 rfl rfl (by rw [z178 fun j hj=>hk.2 j hj (by omega)];rfl)
theorem z427 (l:List Tree) (hl:l.length≤maxLen) (p:Tree→Bool) (f:FuncId) (hf:∀ x∈l,CallsA Tryz.prog f [z40 Tree.cs' x] [] (.bool (p x)) []):CallsA Tryz.prog 73 [lst 3 Tree.cs' l,.fn (.func f) [] []] [] (.bool (l.any p)) []:=by
 refine z12 z19 Tryz.func73 rfl rfl 9 Tryz.ntmps73 (by simp) ?_
 repeat' ((first|(apply y4 ok;rfl)|(apply z6 (z560 l hl p f hf);rfl;rfl))<;>conv=>whnf)
 exact z24 rfl (by rw [← z261])
theorem z527 (c:Int) (l:List (List Int)) (hl:l.length≤maxLen) (p:(List Int)→Bool) (f:FuncId) (hf:∀ x∈l,CallsA Tryz.prog f [ints x,.pt [.int c]] [] (.bool (p x)) []):CallsA Tryz.prog 138 [lst 1 encL l,.fn (.func f) [] [.pt [.int c]]] [] (.int (idxF p l)) []:=by
 unfold maxLen at hl
 refine z12 z19 Tryz.func138 rfl rfl 19 Tryz.ntmps138 (by simp) ?_
 repeat' (((apply y4 ok;rfl))<;>conv=>whnf)
 refine z97 (fun k:Nat=>([(0,lst 1 encL l),(1,.fn (.func f) [] [.pt [.int c]]),(7,.int l.length),(8,.int k)],[])) (fun k=>k≤l.length∧∀ j (hj:j < l.length),j < k→p l[j]=false) (fun k=>l.length - k) 0 (by simp)
  ⟨[],rfl,by decide,rfl,⟨⟨rfl,rfl⟩,⟨rfl,rfl⟩,⟨rfl,rfl⟩,⟨rfl,rfl⟩,trivial⟩,trivial⟩ ?_
 intro k hk
 repeat' ((first|(apply y4 ok;rfl)|(apply y39;first|omega|(unfold inI;omega))|(((with_reducible apply z15;omega));intro _)|((first|apply z8|apply z110)<;>intro _)|(apply z6 (hf l[k] (y40 _));rfl;rfl))<;>conv=>whnf)
 ·rename_i h h1
  exact z50 rfl rfl (by rw [z177 (by omega) h1 hk.2];rfl)
 ·rename_i h h1
  refine z81 (k+1) [] ⟨by omega,fun j hj hjk=>?_⟩ (by omega) ⟨rfl,by decide,rfl,⟨⟨rfl,rfl⟩,⟨rfl,rfl⟩,⟨rfl,rfl⟩,⟨rfl,rfl⟩,trivial⟩,trivial⟩
  rcases y66 j k with h2|h2
  ·exact hk.2 j hj h2
  ·obtain rfl:j=k:=by omega
   exact h1
 ·exact z50 rfl rfl (by rw [z178 fun j hj=>hk.2 j hj (by omega)];rfl)
theorem z403 (c:Int) (l:List (List Int)) (hl:l.length≤maxLen) (p:(List Int)→Bool) (f:FuncId) (hf:∀ x∈l,CallsA Tryz.prog f [ints x,.pt [.int c]] [] (.bool (p x)) []):CallsA Tryz.prog 90 [lst 1 encL l,.fn (.func f) [] [.pt [.int c]]] [] (.bool (l.any p)) []:=by
 refine z12 z19 Tryz.func90 rfl rfl 9 Tryz.ntmps90 (by simp) ?_
 repeat' ((first|(apply y4 ok;rfl)|(apply z6 (z527 c l hl p f hf);rfl;rfl))<;>conv=>whnf)
 exact z24 rfl (by rw [← z261])
end Go.Proofs.YteinbnahinpegaaGreat
namespace Go.Proofs.YteinbnahinpegaaGreat
open Go.Gl
attribute [local irreducible] z20 AWP z30 z35 z34
theorem z347 (l:List Int) (hl:l.length≤maxLen) (v:Int):CallsA Tryz.prog 29 [ints l,.int v] [] (.int (idxF (fun x=>decide (v=x)) l)) []:=by
 unfold maxLen at hl
 refine z12 z19 Tryz.func29 rfl rfl 19 Tryz.ntmps29 (by simp) ?_
 repeat' (((apply y4 ok;rfl))<;>conv=>whnf)
 refine z97 (fun k:Nat=>([(0,ints l),(1,.int v),(7,.int l.length),(8,.int k)],[])) (fun k=>k≤l.length∧∀ j (hj:j < l.length),j < k→decide (v=l[j])=false) (fun k=>l.length - k) 0 (by simp)
  ⟨[],rfl,by decide,rfl,⟨⟨rfl,rfl⟩,⟨rfl,rfl⟩,⟨rfl,rfl⟩,⟨rfl,rfl⟩,trivial⟩,trivial⟩ ?_
 intro k hk
 repeat' ((first|(apply y4 ok;rfl)|(apply y39;first|omega|(unfold inI;omega))|(((with_reducible apply z15;omega));intro _)|((apply z8)<;>intro _))<;>conv=>whnf)
 ·rename_i h h1
  exact z50 rfl rfl (by rw [z177 (p:=fun x=>decide (v=x)) (by omega) (y78 h1) hk.2];rfl)
 ·rename_i h h1
  refine z81 (k+1) [] ⟨by omega,fun j hj hjk=>?_⟩ (by omega) ⟨rfl,by decide,rfl,⟨⟨rfl,rfl⟩,⟨rfl,rfl⟩,⟨rfl,rfl⟩,⟨rfl,rfl⟩,trivial⟩,trivial⟩
  rcases y66 j k with h2|h2
  ·exact hk.2 j hj h2
  ·obtain rfl:j=k:=by omega
   exact y79 h1
 ·exact z50 rfl rfl (by rw [z178 (p:=fun x=>decide (v=x)) fun j hj=>hk.2 j hj (by omega)];rfl)
theorem z138 (l:List Int) (hl:l.length≤maxLen) (v:Int):CallsA Tryz.prog 35 [ints l,.int v] [] (.bool (decide (v∈l))) []:=by
 refine z12 z19 Tryz.func35 rfl rfl 9 Tryz.ntmps35 (by simp) ?_
 repeat' ((first|(apply y4 ok;rfl)|(apply z6 (z347 l hl v);rfl;rfl))<;>conv=>whnf)
 have e:decide (v∈l)=l.any (fun x=>decide (v=x)):=by
  rw [Bool.eq_iff_iff];simp
 exact z24 rfl (by rw [e,← z261])
theorem z197 {α:Type} (w:Nat) (e:α→List AC) (l:List α) (k:Nat) (hk:k≤l.length):AC.list w ((k:Int).toNat - (0:Int).toNat) (((l.map e).drop (0:Int).toNat).take ((k:Int).toNat - (0:Int).toNat))=lst w e (l.take k):=by
 unfold lst
 rw [y44,List.map_take]
 simp only [y73,Int.toNat_zero,Nat.sub_zero,List.drop_zero]
 rw [Nat.min_eq_left hk]
def Distinct (l:List Int) (n:Int) (k:Nat):Prop:=∀ i (h:i < l.length),i < k→(0≤l[i]∧l[i]≤n - 1)∧l[i] ∉ l.take i
noncomputable instance {l:List Int} {n:Int} {k:Nat} : Decidable (Distinct l n k):=Classical.propDecidable _
theorem z855 (l:List Int) (hl:l.length≤maxLen) (n:Int) (h0:0≤n) (h1:n≤maxLen):CallsA Tryz.prog 92 [ints l,.int n] [] (.bool (decide (Distinct l n l.length))) []:=by
 have hl':=hl
 unfold maxLen at hl' h1
 refine z12 z19 Tryz.func92 rfl rfl 27 Tryz.ntmps92 (by simp) ?_
 repeat' (((apply y4 ok;rfl))<;>conv=>whnf)
 refine z97 (fun k:Nat=>([(0,ints l),(1,.int n),(7,ints l),(8,.int l.length),(9,.int k)],[])) (fun k=>k≤l.length∧Distinct l n k) (fun k=>l.length - k) 0 ⟨by omega,fun i h hi=>by omega⟩
  ⟨[],rfl,by decide,rfl,⟨⟨rfl,rfl⟩,⟨rfl,rfl⟩,⟨rfl,rfl⟩,⟨rfl,rfl⟩,⟨rfl,rfl⟩,trivial⟩,trivial⟩ ?_
 intro k hk
 repeat' ((first|(apply y4 ok;rfl)|(apply y39;first|omega|(unfold inI;omega))|(((with_reducible apply z15;omega));intro _)|((first|apply z8|apply z109)<;>intro _)|(apply z6 (z348 l[k] 0 (n - 1));rfl;rfl))<;>conv=>whnf)
 ·rename_i hb
  refine z24 rfl (y79 fun hd=>?_)
  have:=(hd k ‹_› ‹_›).1
  rw [z303] at hb
  exact hb this
 ·rename_i hb
  apply z6 (z138 (l.take k) (by rw [y44];omega) l[k])
  ·show _=[AC.list 1 _ _,_]
   rw [show AC.list 1 (l.take k).length ((l.take k).map enI)=_ from (z197 1 enI l k hk.1).symm]
   rfl
  ·rfl
  conv=>whnf
  repeat' ((first|(apply y4 ok;rfl)|(apply y39;(unfold inI;omega))|((apply z8)<;>intro _))<;>conv=>whnf)
  ·rename_i h2
   exact z24 rfl (y79 fun hd=>(hd k ‹_› ‹_›).2 h2)
  ·rename_i h2
   refine z81 (k+1) [] ⟨by omega,fun i hi hik=>?_⟩ (by omega) ⟨rfl,by decide,rfl,⟨⟨rfl,rfl⟩,⟨rfl,rfl⟩,⟨rfl,rfl⟩,⟨rfl,rfl⟩,⟨rfl,rfl⟩,trivial⟩,trivial⟩
   rcases y66 i k with h3|h3
   ·exact hk.2 i hi h3
   ·obtain rfl:i=k:=by omega
    exact ⟨z141.1 hb,h2⟩
 ·exact z24 rfl (y78 fun i h hi=>hk.2 i h (by omega))
theorem z565 (s:State) (hs:s.mx):CallsA Tryz.prog 88 [z40 State.cs s] [] (.bool (!z339 s.b)) []:=by
 refine z12 z19 Tryz.func88 rfl rfl 7 Tryz.ntmps88 (by simp) ?_
 repeat' (first|(apply y4 ok;rfl;conv=>whnf)|(apply z6 (z1045 s.b hs.2);rfl;rfl;conv=>whnf))
 exact z24 rfl rfl
noncomputable def z803 (n:Int) (l:List Int):Bool:=!decide ((l.length:Int)=0) && decide (Distinct l n l.length)
theorem z564 (c:Int) (h0:0≤c) (h1:c≤maxLen) (l:List Int) (hl:l.length≤maxLen):CallsA Tryz.prog 91 [ints l,.pt [.int c]] [] (.bool (!z803 c l)) []:=by
 have hl':=hl
 unfold maxLen at hl'
 refine z12 z19 Tryz.func91 rfl rfl 13 Tryz.ntmps91 (by simp) ?_
 repeat' (first|(apply y4 ok;rfl;conv=>whnf)|(apply z8<;>intro _<;>conv=>whnf)|(apply z6 (z855 l hl c h0 h1);rfl;rfl;conv=>whnf))
 all_goals (refine z24 rfl ?_;first|(unfold z803;simp [*];done)|(unfold z803;simp_all;done))
def Graph.mx (g:Graph):Prop:=State.mxs g.st∧g.nx.length≤maxLen∧∀ l∈g.nx,l.length≤maxLen
noncomputable def z223 (g:Graph):Bool:=btw g.st.length 1 60 && (decide ((g.nx.length:Int)=g.st.length) && (!(g.st.any fun s=>!z339 s.b) && !(g.nx.any fun l=>!z803 g.st.length l)))
theorem z264 (g:Graph) (hg:g.mx):CallsA Tryz.prog 40 [.agg g.cs] [] (.bool (z223 g)) []:=by
 obtain ⟨hs,hn,hm⟩:=hg
 have hl1:=hs.1
 unfold maxLen at hl1
 have k1:=z402 g.st hs.1 (fun s=>!z339 s.b) 88 (fun s hx=>z565 s (hs.2 s hx))
 have k2:=z403 (g.st.length:Int) g.nx hn (fun l=>!z803 g.st.length l) 91 (fun l hx=>z564 _ (by omega) (by unfold maxLen;omega) l (hm l hx))
 refine z12 z19 Tryz.func40 rfl rfl 29 Tryz.ntmps40 (by simp) ?_
 repeat' (first|(apply y4 ok;rfl;conv=>whnf)|(apply z8<;>intro _<;>conv=>whnf)|(apply z109<;>intro _<;>conv=>whnf)|(apply z110<;>intro _<;>conv=>whnf)|(apply z6 (z348 (g.st.length:Int) 1 60);rfl;rfl;conv=>whnf)|(apply z6 (k1);rfl;rfl;conv=>whnf)|(apply z936 [1] (k2);rfl;rfl;rfl;rfl;conv=>whnf))
 all_goals (refine z24 rfl ?_;(unfold z223;simp [*];done))
theorem z401 {d : Int} (l : List Tree) (hl : l.length ≤ maxLen) (p : Tree → Int → Bool) (nx : Tree → Int → Int) (okS : Int → Prop) (hok : ∀ x s, okS s → p x s = false → okS (nx x s)) (f : FuncId) (s : Int) (h0 : okS s)
    (hf:∀ x∈l,∀ s,okS s→CallsA Tryz.prog f [z40 Tree.cs' x,.pt [.int d],.ptr 1 none 0] [.cells 1 [[.int s]],.cells 1 [[.ptr 0 none 0]]] (.bool (p x s)) [.cells 1 [[.int (nx x s)]],.cells 1 [[.ptr 0 none 0]]]) :
    CallsA Tryz.prog 126 [lst 3 Tree.cs' l,.fn (.func f) [] [.pt [.int d],.ptr 1 none 0]] [.cells 1 [[.int s]],.cells 1 [[.ptr 0 none 0]]] (.int (idxS p nx l s 0).1) [.cells 1 [[.int (idxS p nx l s 0).2]],.cells 1 [[.ptr 0 none 0]]]:=by
  unfold maxLen at hl
  refine z12 z19 Tryz.func126 rfl rfl 19 Tryz.ntmps126 (by simp) ?_
  repeat' (((apply y4 ok;rfl))<;>conv=>whnf)
  refine z97 (fun x:Nat×Int=>([(0,lst 3 Tree.cs' l),(1,.fn (.func f) [] [.pt [.int d],.ptr 1 none 0]),(7,.int l.length),(8,.int x.1)],[.cells 1 [[.int x.2]],.cells 1 [[.ptr 0 none 0]]])) (fun x=>x.1≤l.length∧okS x.2∧idxS p nx l s 0=idxS p nx (l.drop x.1) x.2 x.1) (fun x=>l.length - x.1) (0,s) ⟨by omega,h0,rfl⟩
    ⟨[0,1],rfl,by decide,rfl,⟨⟨rfl,rfl⟩,⟨rfl,rfl⟩,⟨rfl,rfl⟩,⟨rfl,rfl⟩,trivial⟩,⟨z27 rfl rfl,z27 rfl rfl,trivial⟩⟩ ?_
  rintro ⟨k,t⟩ ⟨hk1,hk2,hk3⟩
  dsimp only at hk1 hk2 hk3
  repeat' ((first|(apply y4 ok;rfl)|(apply y39;first|omega|(unfold inI;omega))|(((with_reducible apply z15;omega));intro _)|((first|apply z8|apply z110)<;>intro _)|(apply z29 [0,1] [] (hf l[k] (y40 _) t hk2);rfl;rfl;rfl))<;>conv=>whnf)
  · rename_i h hkl h1
    rw [y76 hkl,idxS,if_pos h1] at hk3
    rw [hk3]
    exact z95 [0,1] (by decide) rfl rfl rfl ⟨z27 rfl rfl,z27 rfl rfl,trivial⟩
  · rename_i h hkl h1
    rw [y76 hkl,idxS,if_neg (by rw [h1];simp)] at hk3
    exact z81 (k+1,nx l[k] t) [0,1] ⟨by dsimp only;omega,hok _ _ hk2 h1,hk3⟩ (by dsimp only;omega) ⟨rfl,by decide,rfl,⟨⟨rfl,rfl⟩,⟨rfl,rfl⟩,⟨rfl,rfl⟩,⟨rfl,rfl⟩,trivial⟩,⟨z27 rfl rfl,z27 rfl rfl,trivial⟩⟩
  · rw [y80 (by omega),idxS] at hk3
    rw [hk3]
    exact z95 [0,1] (by decide) rfl rfl rfl ⟨z27 rfl rfl,z27 rfl rfl,trivial⟩
theorem z569 {d : Int} (l : List Tree) (hl : l.length ≤ maxLen) (p : Tree → Int → Bool) (nx : Tree → Int → Int) (okS : Int → Prop) (hok : ∀ x s, okS s → p x s = false → okS (nx x s)) (f : FuncId) (s : Int) (h0 : okS s)
    (hf:∀ x∈l,∀ s,okS s→CallsA Tryz.prog f [z40 Tree.cs' x,.pt [.int d],.ptr 1 none 0] [.cells 1 [[.int s]],.cells 1 [[.ptr 0 none 0]]] (.bool (p x s)) [.cells 1 [[.int (nx x s)]],.cells 1 [[.ptr 0 none 0]]]) :
    CallsA Tryz.prog 73 [lst 3 Tree.cs' l,.fn (.func f) [] [.pt [.int d],.ptr 1 none 0]] [.cells 1 [[.int s]],.cells 1 [[.ptr 0 none 0]]] (.bool (decide (0≤(idxS p nx l s 0).1))) [.cells 1 [[.int (idxS p nx l s 0).2]],.cells 1 [[.ptr 0 none 0]]]:=by
  refine z12 z19 Tryz.func73 rfl rfl 9 Tryz.ntmps73 (by simp) ?_
  repeat' ((first|(apply y4 ok;rfl)|(apply z29 [0,1] [] (z401 (d:=d) l hl p nx okS hok f s h0 hf);rfl;rfl;rfl))<;>conv=>whnf)
  exact z95 [0,1] (by decide) rfl rfl rfl ⟨z27 rfl rfl,z27 rfl rfl,trivial⟩
theorem walk_ok (t:Tree):t.mx→∀ d n:Int,0≤d→d≤100→0≤n→n≤15→CallsA Tryz.prog 176 [z40 Tree.cs' t,.int d,.ptr 0 none 0] [.cells 1 [[.int n]]] (.bool (t.walkE d n).2) [.cells 1 [[.int (t.walkE d n).1]]]:=by
  induction t using y25 with|h t ih=>?_
  intro hm d n hd0 hd1 h0 h1
  rw [y26] at hm
  have hs:=Tree.walkE_spec.1
  have hk:d≤6→n+1≤15→CallsA Tryz.prog 73 [lst 3 Tree.cs' t.kids,.fn (.func 217) [] [.pt [.int d],.ptr 1 none 0]] [.cells 1 [[.int (n+1)]],.cells 1 [[.ptr 0 none 0]]] (.bool (!(Tree.walkEs t.kids (d+1) (n+1)).2)) [.cells 1 [[.int (Tree.walkEs t.kids (d+1) (n+1)).1]],.cells 1 [[.ptr 0 none 0]]]:=by
    intro hd hn
    have h:=z569 (d:=d) t.kids hm.1 (fun x s=>!(x.walkE (d+1) s).2) (fun x s=>(x.walkE (d+1) s).1) (fun s=>0≤s∧s≤15) (fun x s h1 h2=>by
      obtain ⟨a1,a2,a3,a4⟩:=hs x (d+1) s h1.1 h1.2
      have h3:(x.walkE (d+1) s).2=true:=by simpa using h2
      have:=(a1.1 h3).2
      rw [← a2 h3] at this
      exact ⟨by omega,this⟩) 217 (n+1) ⟨by omega,by omega⟩ (fun x hx s h=>by
        have hc:=ih x hx (hm.2 x hx) (d+1) s (by omega) (by omega) h.1 h.2
        refine z12 z19 Tryz.func217 rfl rfl 11 Tryz.ntmps217 (by simp) ?_
        repeat' ((first|(apply y4 ok;rfl)|(apply y39;(unfold inI;omega))|(apply z29 [0] [] hc;rfl;rfl;rfl))<;>conv=>whnf)
        exact z95 [0,1] (by decide) rfl rfl rfl ⟨z27 rfl rfl,z27 rfl rfl,trivial⟩)
    rw [y36 (d+1) t.kids (n+1) 0,Bool.not_not]
    exact h
  have hk2:=fun h1 h2=>by
    have:=hk h1 h2
    unfold lst at this
    rw [← y16] at this
    exact this
  refine z12 z19 Tryz.func176 rfl rfl 55 Tryz.ntmps176 (by simp) ?_
  repeat' ((first|(apply y4 ok;rfl)|(apply y39;(unfold inI;omega))|((first|apply z8|apply z41|apply z109)<;>intro _)|(apply z6 (z348 _ 1 9);rfl;rfl)|(apply z6 (z348 _ 0 3);rfl;rfl)|(apply z6 (z348 _ 0 2);rfl;rfl)|(apply z6 (z348 _ 0 0);rfl;rfl)|(apply z112 [0,3] [2] [] (hk2 (by omega) (by omega));rfl;rfl;rfl;(focus ((repeat' first|exact z17|apply z14)<;>exact z45 rfl rfl));((refine .inr ⟨rfl,?_⟩;repeat' first|exact True.intro|apply y39|exact rfl))))<;>conv=>whnf)
  all_goals first
    | (have e : t.walkE d n = (n + 1, false) := by
        rw [y35,if_neg]
        clear hk hk2 hs ih
        rintro ⟨c1,c2,c3,c4,c5⟩
        try simp only [z303,z141] at *
        unfold z421 at c4
        unfold z323 at c5
        grind
       rw [e]
       exact z95 [0] (by decide) rfl rfl rfl ⟨z27 rfl rfl,trivial⟩)
    | (have e : t.walkE d n = Tree.walkEs t.kids (d + 1) (n + 1) := by
        rw [y35,if_pos]
        clear hk hk2 hs ih
        try simp only [z303,z141] at *
        unfold z421 z323
        grind
       rw [e]
       refine z95 [0] (by decide) rfl rfl ?_ ⟨z27 rfl rfl,trivial⟩
       show AC.raw (.bool (!!_))=_
       rw [Bool.not_not];rfl)
theorem y15 (t:Tree):z40 Tree.cs' t=.agg [.int t.kind,.int t.val,lst 3 Tree.cs' t.kids]:=by
 simp only [z40,Tree.cs',lst,Tree.lst_eq]
theorem z754 (t:Tree) (hm:t.mx):CallsA Tryz.prog 127 [z40 Tree.cs' t] [] (.int (if t.exprB then t.count 6 else 0)) []:=by
 have hk:=walk_ok t hm 1 0 (by omega) (by omega) (by omega) (by omega)
 obtain ⟨_,h2,_,_⟩:=Tree.walkE_spec.1 t 1 0 (by omega) (by omega)
 refine z12 z19 Tryz.func127 rfl rfl 8 Tryz.ntmps127 (by simp) ?_
 repeat' ((first|(apply y4 ok;rfl)|((apply z109)<;>intro _)|(apply z29 [1] [] hk;rfl;rfl;rfl))<;>conv=>whnf)
 ·rename_i h
  exact z50 rfl rfl (by rw [if_neg (by unfold Tree.exprB;rw [h];simp)];rfl)
 ·rename_i h
  have e:=h2 h
  rw [Int.zero_add] at e
  exact z50 rfl rfl (by rw [if_pos (show t.exprB=true from h),show t.count 6=(t.walkE 1 0).1 from e.symm];rfl)
theorem z753 (t:Tree) (hm:t.mx):CallsA Tryz.prog 75 [z40 Tree.cs' t] [] (.bool t.exprB) []:=by
 refine z12 z19 Tryz.func75 rfl rfl 6 Tryz.ntmps75 (by simp) ?_
 repeat' ((first|(apply y4 ok;rfl)|(apply z6 (z754 t hm);rfl;rfl))<;>conv=>whnf)
 refine z24 rfl ?_
 have:=Tree.count_pos.1 t 6
 cases t.exprB
 ·simp
 ·simp;omega
theorem z520 (t:Tree) (hm:t.mx):CallsA Tryz.prog 74 [z40 Tree.cs' t] [] (.bool (!t.exprB)) []:=by
 refine z12 z19 Tryz.func74 rfl rfl 6 Tryz.ntmps74 (by simp) ?_
 repeat' ((first|(apply y4 ok;rfl)|(apply z6 (z753 t hm);rfl;rfl))<;>conv=>whnf)
 exact z24 rfl rfl
def z150 (l:List Tree):Bool:=decide ((l.length:Int)=3) && l.all Tree.exprB
theorem z233 (l:List Tree) (hl:l.length≤maxLen) (hm:∀ t∈l,t.mx):CallsA Tryz.prog 25 [lst 3 Tree.cs' l] [] (.bool (z150 l)) []:=by
 have hk:=z427 l hl (fun t=>!t.exprB) 74 (fun t ht=>z520 t (hm t ht))
 refine z12 z19 Tryz.func25 rfl rfl 11 Tryz.ntmps25 (by simp) ?_
 repeat' ((first|(apply y4 ok;rfl)|((apply z8)<;>intro _)|(apply z6 (hk);rfl;rfl))<;>conv=>whnf)
 ·refine z24 rfl ?_
  rename_i h
  unfold z150
  rw [y78 h,List.all_eq_not_any_not];rfl
 ·refine z24 rfl ?_
  rename_i h
  unfold z150
  rw [y79 h];rfl
theorem z591 (k:Int):CallsA Tryz.prog 224 [.int k] [] (.int (z323 k)) []:=by
 refine z12 z19 Tryz.func224 rfl rfl 15 Tryz.ntmps224 (by simp) ?_
 repeat' ((first|(apply y4 ok;rfl)|((apply z8)<;>intro _))<;>conv=>whnf)
 all_goals (refine z50 rfl rfl ?_;unfold z323;first|(rw [if_pos (by omega)];rfl)|(rw [if_neg (by omega),if_pos (by omega)];rfl)|(rw [if_neg (by omega),if_neg (by omega),if_pos (by omega)];rfl)|(rw [if_neg (by omega),if_neg (by omega),if_neg (by omega)];rfl))
theorem z961 (l:List Tree) (d:Int):Tree.shapes l d=l.all (fun t=>t.shape d):=by
 induction l with
 |nil=>rfl
 |cons t l ih=>simp [Tree.shapes,ih]
theorem z460 (t:Tree) (d:Int):t.shape d=(decide (1≤d∧(t.kids.length:Int)=z323 t.kind∧0≤t.val∧t.val≤z421 t.kind) && t.kids.all fun t=>t.shape (d - 1)):=by
 cases t;simp only [Tree.shape,Tree.kids,Tree.kind,Tree.val,z961];rfl
theorem z990 (t:Tree):t.mx→∀ d:Int,-100≤d→d≤100→CallsA Tryz.prog 189 [z40 Tree.cs' t,.int d] [] (.bool (t.shape d)) []:=by
  induction t using y25 with|h t ih=>?_
  intro hm d h0 h1
  rw [y26] at hm
  have hl:=hm.1
  unfold maxLen at hl
  rw [y15,z460]
  refine z12 z19 Tryz.func189 rfl rfl 49 Tryz.ntmps189 (by simp) ?_
  repeat' ((first|(apply y4 ok;rfl)|(apply z37;kernel_rfl)|((first|apply z8|apply z41)<;>intro _)|(apply z6 (z591 _);rfl;rfl))<;>conv=>whnf)
  all_goals first
    | (refine z24 rfl ?_
       rw [y79]
       · rfl
       · clear ih
         rintro ⟨c1,c2,c3,c4⟩
         unfold z421 at c4
         grind)
    | (have hg : decide (1 ≤ d ∧ (t.kids.length : Int) = z323 t.kind ∧ 0 ≤ t.val ∧ t.val ≤ z421 t.kind) = true := by
         clear ih
         refine y78 ?_
         unfold z421
         grind
       rw [hg,Bool.true_and]
       refine z97 (fun k:Nat=>([(1,.int d),(2,.ptr 0 none 0),(6,.int k)],[.cells 3 [[.int t.kind,.int t.val,lst 3 Tree.cs' t.kids]]])) (fun k=>k≤t.kids.length∧(t.kids.all fun t=>t.shape (d - 1))=(t.kids.drop k).all fun t=>t.shape (d - 1)) (fun k=>t.kids.length - k) 0 ⟨by omega,rfl⟩ ⟨[0],rfl,by decide,rfl,by repeat' (first|exact True.intro|exact ⟨rfl,rfl⟩|apply y39),by repeat' (first|exact True.intro|exact z27 rfl rfl|apply y39)⟩ ?_
       intro k hk
       repeat' ((first|(apply y4 ok;rfl)|(apply y39;first|omega|(unfold inI;omega))|(((with_reducible apply z15;omega));intro _)|((first|apply z8|apply z109)<;>intro _)|(apply z6 (ih t.kids[k] (y40 _) (hm.2 _ (y40 _)) (d - 1) (by omega) (by omega));rfl;rfl))<;>conv=>whnf)
       · rename_i h1
         exact z24 rfl (by rw [hk.2,z156 _ _ _ (by assumption)];simp [h1])
       · rename_i h1
         exact z81 (k+1) [0] ⟨by omega,by rw [hk.2,z156 _ _ _ (by assumption)];simp [h1]⟩ (by omega) ⟨rfl,by decide,rfl,by repeat' (first|exact True.intro|exact ⟨rfl,rfl⟩|apply y39),by repeat' (first|exact True.intro|exact z27 rfl rfl|apply y39)⟩
       · exact z24 rfl (by rw [hk.2,z146 _ _ _ (by omega)]))
theorem z480 (t:Tree) (d:Int):t.count d=if 0 < d then 1+(t.kids.map fun t=>t.count (d - 1)).sum else 1:=by
 have:∀ (l:List Tree) d,Tree.counts l d=(l.map fun t=>t.count d).sum:=by
  intro l d
  induction l with
  |nil=>rfl
  |cons t l ih=>simp [Tree.counts,ih]
 cases t;simp only [Tree.count,Tree.kids,this]
theorem count_le (t:Tree):∀ d n:Nat,t.shape d=true→t.count n≤2 ^ d - 1:=by
 induction t using y25 with|h t ih=>?_
 intro d n h
 rw [z460,y67,decide_eq_true_eq] at h
 obtain ⟨⟨h1,h2,_,_⟩,h3⟩:=h
 rw [y75] at h3
 obtain ⟨d,rfl⟩:∃ e,d=e+1:=⟨d - 1,by omega⟩
 have e:((d+1:Nat):Int) - 1=(d:Nat):=by omega
 rw [e] at h3
 rw [z480]
 have hp:(1:Int)≤2 ^ d:=by exact_mod_cast Nat.one_le_two_pow
 have hq:((2:Int) ^ (d+1))=2 * 2 ^ d:=by rw [Int.pow_succ];omega
 split
 ·rename_i hn
  obtain ⟨n,rfl⟩:∃ e,n=e+1:=⟨n - 1,by omega⟩
  have e:((n+1:Nat):Int) - 1=(n:Nat):=by omega
  rw [e]
  have hl:(t.kids.length:Int)≤2:=by rw [h2];unfold z323;grind
  have hk:∀ u∈t.kids,u.count n≤2 ^ d - 1:=fun u hu=>ih u hu d n (h3 u hu)
  match hkk:t.kids with
  |[]=>simp only [List.map_nil,List.sum_nil];omega
  |[a] =>
   have:=hk a (by simp [hkk])
   simp only [List.map_cons,List.map_nil,List.sum_cons,List.sum_nil];omega
  |[a,b] =>
   have:=hk a (by simp [hkk])
   have:=hk b (by simp [hkk])
   simp only [List.map_cons,List.map_nil,List.sum_cons,List.sum_nil];omega
  |a::b::c::r=>rw [hkk] at hl;simp only [y54] at hl;omega
 ·omega
theorem z459 (f:Tree→Int) (l:List Tree) (k:Nat) (hk:k < l.length):((l.take (k+1)).map f).sum=((l.take k).map f).sum+f l[k]:=by
 rw [y46 hk,y60,List.sum_append];simp
theorem z856 (t:Tree) (e d:Int) (he:e≤50) (hd:0≤d) (h:t.shape e=true):t.count d≤2 ^ 50:=by
 have h1:1≤e:=by
  rw [z460,y67,decide_eq_true_eq] at h;exact h.1.1
 obtain ⟨n,rfl⟩:=Int.eq_ofNat_of_zero_le (show 0≤e by omega)
 obtain ⟨m,rfl⟩:=Int.eq_ofNat_of_zero_le hd
 have h2:=count_le t n m h
 have h4:(2:Int) ^ n≤2 ^ 50:=by exact_mod_cast Nat.pow_le_pow_right (by omega) (by omega)
 omega
theorem z991 (t:Tree):t.mx→∀ e d:Int,e≤50→0≤d→d≤50→t.shape e=true→CallsA Tryz.prog 190 [z40 Tree.cs' t,.int d] [] (.int (t.count d)) []:=by
 induction t using y25 with|h t ih=>?_
 intro hm e d h0 h1 h2 hs
 rw [y26] at hm
 rw [z460,y67,decide_eq_true_eq,y75] at hs
 obtain ⟨⟨hs1,hs2,_,_⟩,hs3⟩:=hs
 have hl:(t.kids.length:Int)≤2:=by rw [hs2];unfold z323;grind
 rw [y15,z480]
 have hb:0 < d→∀ k,k≤t.kids.length→0≤((t.kids.take k).map fun t=>t.count (d - 1)).sum∧((t.kids.take k).map fun t=>t.count (d - 1)).sum≤k * 2 ^ 50:=by
  intro hd k
  induction k with
  |zero=>intro _;simp
  |succ k ihk =>
   intro hk
   have h1:=ihk (by omega)
   rw [z459 _ _ _ (by omega)]
   have h2:=z856 t.kids[k] (e - 1) (d - 1) (by omega) (by omega) (hs3 _ (y40 _))
   have h3:=Tree.count_pos.1 t.kids[k] (d - 1)
   omega
 refine z12 z19 Tryz.func190 rfl rfl 29 Tryz.ntmps190 (by simp) ?_
 repeat' (((apply y4 ok;rfl))<;>conv=>whnf)
 by_cases hd:0 < d
 ·rw [if_pos hd]
  refine z97 (fun k:Nat=>([(1,.int d),(2,.ptr 0 none 0),(5,.int (1+((t.kids.take k).map fun t=>t.count (d - 1)).sum)),(6,.int k)],[.cells 3 [[.int t.kind,.int t.val,lst 3 Tree.cs' t.kids]]])) (fun k=>k≤t.kids.length) (fun k=>t.kids.length - k) 0 (by omega) ⟨[0],rfl,by decide,rfl,by repeat' (first|exact True.intro|exact ⟨rfl,rfl⟩|apply y39),by repeat' (first|exact True.intro|exact z27 rfl rfl|apply y39)⟩ ?_
  intro k hk
  have hbk:=hb hd k hk
  have hbk1:=fun h=>hb hd (k+1) h
  have hss:=fun h=>z459 (fun t=>t.count (d - 1)) t.kids k h
  repeat' ((first|(apply y4 ok;rfl)|(apply y39;first|omega|(unfold inI;omega))|(((with_reducible apply z15;omega));intro _)|((apply z8)<;>intro _)|(apply z6 (ih t.kids[k] (y40 _) (hm.2 _ (y40 _)) (e - 1) (d - 1) (by omega) (by omega) (by omega) (hs3 _ (y40 _)));rfl;rfl))<;>conv=>whnf)
  ·have e1:=hss ‹_›
   have e2:=hbk1 (by omega)
   refine y39 (by unfold inI;omega) ?_
   conv=>whnf
   repeat' ((first|(apply y4 ok;rfl)|(apply y39;(unfold inI;omega)))<;>conv=>whnf)
   exact z81 (k+1) [0] (by omega) (by omega) ⟨rfl,by decide,rfl,⟨⟨rfl,rfl⟩,⟨rfl,rfl⟩,⟨rfl,by rw [e1,← Int.add_assoc];rfl⟩,⟨rfl,rfl⟩,trivial⟩,⟨z27 rfl rfl,trivial⟩⟩
  ·omega
  ·obtain rfl:k=t.kids.length:=by omega
   exact z50 rfl rfl (by rw [y52];rfl)
 ·rw [if_neg hd]
  refine z97 (fun k:Nat=>([(1,.int d),(2,.ptr 0 none 0),(5,.int 1),(6,.int k)],[.cells 3 [[.int t.kind,.int t.val,lst 3 Tree.cs' t.kids]]])) (fun k=>k≤t.kids.length) (fun k=>t.kids.length - k) 0 (by omega) ⟨[0],rfl,by decide,rfl,by repeat' (first|exact True.intro|exact ⟨rfl,rfl⟩|apply y39),by repeat' (first|exact True.intro|exact z27 rfl rfl|apply y39)⟩ ?_
  intro k hk
  repeat' ((first|(apply y4 ok;rfl)|(apply y39;omega)|(((with_reducible apply z15;omega));intro _)|((apply z8)<;>intro _))<;>conv=>whnf)
  ·omega
  ·exact z50 rfl rfl rfl
  ·exact z50 rfl rfl rfl
theorem z139 (t:Tree) (hm:t.mx):CallsA Tryz.prog 132 [z40 Tree.cs' t] [] (.bool t.exprB) []:=by
 rw [y18]
 refine z12 z19 Tryz.func132 rfl rfl 10 Tryz.ntmps132 (by simp) ?_
 repeat' ((first|(apply y4 ok;rfl)|((apply z110)<;>intro _)|(apply z6 (z990 t hm 6 (by omega) (by omega));rfl;rfl)|(apply z6 (z991 t hm 6 6 (by omega) (by omega) (by omega) (by assumption));rfl;rfl))<;>conv=>whnf)
 all_goals (refine z24 rfl ?_;(simp [*];done))
theorem z364 (l:List Tree) (hl:l.length≤maxLen) (hm:∀ t∈l,t.mx):CallsA Tryz.prog 82 [lst 3 Tree.cs' l] [] (.bool (z150 l)) []:=by
 unfold maxLen at hl
 unfold z150
 refine z12 z19 Tryz.func82 rfl rfl 19 Tryz.ntmps82 (by simp) ?_
 repeat' (((apply y4 ok;rfl))<;>conv=>whnf)
 refine z97 (fun k:Nat=>([(0,lst 3 Tree.cs' l),(3,.int k)],[])) (fun k=>k≤l.length∧l.all Tree.exprB=(l.drop k).all Tree.exprB) (fun k=>l.length - k) 0 ⟨by omega,rfl⟩ ⟨[],rfl,by decide,rfl,by repeat' (first|exact True.intro|exact ⟨rfl,rfl⟩|apply y39),by repeat' (exact True.intro)⟩ ?_
 intro k hk
 repeat' ((first|(apply y4 ok;rfl)|(apply y39;first|omega|(unfold inI;omega))|(((with_reducible apply z15;omega));intro _)|((first|apply z8|apply z109)<;>intro _)|(apply z6 (z139 l[k] (hm _ (y40 _)));rfl;rfl))<;>conv=>whnf)
 ·rename_i h1
  exact z24 rfl (by rw [hk.2,z156 _ _ _ (by assumption)];simp [h1])
 ·rename_i h1
  exact z81 (k+1) [] ⟨by omega,by rw [hk.2,z156 _ _ _ (by assumption)];simp [h1]⟩ (by omega) ⟨rfl,by decide,rfl,by repeat' (first|exact True.intro|exact ⟨rfl,rfl⟩|apply y39),by repeat' (exact True.intro)⟩
 ·exact z24 rfl (by rw [hk.2,z146 _ _ _ (by omega),Bool.and_true])
theorem z886 (b:Bool):CallsA Tryz.prog 188 [.bool b] [] (.int (b2i b)) []:=by
 refine z12 z19 Tryz.func188 rfl rfl 4 Tryz.ntmps188 (by simp) ?_
 repeat' ((first|(apply y4 ok;rfl)|((apply z110)<;>intro _))<;>conv=>whnf)
 all_goals (refine z50 rfl rfl ?_;simp only [*];rfl)
theorem z741 (b:Bool):CallsA Tryz.prog 225 [.bool b] [] (.int (b2i b)) []:=by
 refine z12 z19 Tryz.func225 rfl rfl 4 Tryz.ntmps225 (by simp) ?_
 repeat' ((first|(apply y4 ok;rfl)|((apply z110)<;>intro _))<;>conv=>whnf)
 all_goals (refine z50 rfl rfl ?_;simp only [*];rfl)
theorem z597 {t:Tree} (hg:t.good):(∃ x,t=.mk 1 x []∧0≤x∧x≤3)∨(∃ x,t=.mk 2 x []∧0≤x∧x≤2)∨(∃ x a,t=.mk 3 x [a]∧a.good)∨(∃ k x a b,t=.mk k x [a,b]∧4≤k∧k≤9∧a.good∧b.good):=by
 obtain ⟨g1,g2,g3,g4⟩:=y23 hg
 obtain ⟨k,x,l⟩:=t
 simp only [Tree.kind,Tree.val,Tree.kids] at *
 unfold z323 at g1
 unfold z421 at g3
 match l,g1,g4 with
 |[],g1,_ =>
  simp only [y55] at g1
  have:k=1∨k=2:=by grind
  rcases this with rfl|rfl
  ·exact .inl ⟨x,rfl,g2,by grind⟩
  ·exact .inr (.inl ⟨x,rfl,g2,by grind⟩)
 |[a],g1,g4 =>
  simp only [y54,y55] at g1
  have:k=3:=by grind
  subst this
  exact .inr (.inr (.inl ⟨x,a,rfl,g4 a (by simp)⟩))
 |[a,b],g1,g4 =>
  simp only [y54,y55] at g1
  exact .inr (.inr (.inr ⟨k,x,a,b,rfl,by grind,by grind,g4 a (by simp),g4 b (by simp)⟩))
 |a::b::c::r,g1,_=>simp only [y54] at g1;grind
theorem eval_ok (v:List Int) (hv:ValsOk v) (t:Tree):t.good→CallsA Tryz.prog 130 [z40 Tree.cs' t,ints v] [] (.int (t.ev v)) []:=by
 induction t using y25 with|h t ih=>?_
 intro hg
 have hl:=hv.1
 rw [y15]
 rcases z597 hg with ⟨x,rfl,h1,h2⟩|⟨x,rfl,h1,h2⟩|⟨x,a,rfl,h1⟩|⟨k,x,a,b,rfl,h1,h2,h3,h4⟩<;>simp only [Tree.kind,Tree.val,Tree.kids] at *
 ·refine z12 z19 Tryz.func130 rfl rfl 82 Tryz.ntmps130 (by simp) ?_
  repeat' (((apply y4 ok;rfl))<;>conv=>whnf)
  all_goals (exact z50 rfl rfl (by rw [Tree.ev,if_pos rfl];rfl))
 ·refine z12 z19 Tryz.func130 rfl rfl 82 Tryz.ntmps130 (by simp) ?_
  repeat' ((first|(apply y4 ok;rfl)|(apply y39;omega)|(apply z1137;omega;intro _))<;>conv=>whnf)
  refine z50 rfl rfl ?_
  rw [Tree.ev,if_neg (by omega),if_pos rfl,y64,y41 (by omega)];rfl
 ·have ha:=y17 hv a h1
  refine z12 z19 Tryz.func130 rfl rfl 82 Tryz.ntmps130 (by simp) ?_
  repeat' ((first|(apply y4 ok;rfl)|(apply y39;omega)|apply z155|(apply z6 (ih a (by simp) h1);rfl;rfl)|(apply z6 (z886 _);rfl;rfl))<;>conv=>whnf)
  all_goals (refine z50 rfl rfl ?_;rw [Tree.ev,if_neg (by omega),if_neg (by omega)];simp only [Tree.evs];rfl)
 ·have ha:=y17 hv a h3
  have hb:=y17 hv b h4
  refine z12 z19 Tryz.func130 rfl rfl 82 Tryz.ntmps130 (by simp) ?_
  repeat' ((first|(apply y4 ok;rfl)|(apply y39;first|omega|(unfold inI;omega))|(((apply z15;omega));intro _)|apply z155|((first|apply z8|apply z41)<;>intro _)|(apply z6 (ih a (by simp) h3);rfl;rfl)|(apply z6 (ih b (by simp) h4);rfl;rfl)|(apply z6 (z886 _);rfl;rfl))<;>conv=>whnf)
  all_goals try (exfalso;omega)
  all_goals (refine z508 rfl ?_;clear ih;simp only [Tree.ev,Tree.evs,b2i];grind)
theorem z523 (v:List Int) (hv:ValsOk v) (t:Tree):t.good→CallsA Tryz.prog 191 [z40 Tree.cs' t,ints v] [] (.int (t.ev v)) []:=by
 induction t using y25 with|h t ih=>?_
 intro hg
 have hl:=hv.1
 rw [y15]
 rcases z597 hg with ⟨x,rfl,h1,h2⟩|⟨x,rfl,h1,h2⟩|⟨x,a,rfl,h1⟩|⟨k,x,a,b,rfl,h1,h2,h3,h4⟩<;>simp only [Tree.kind,Tree.val,Tree.kids] at *
 ·refine z12 z19 Tryz.func191 rfl rfl 86 Tryz.ntmps191 (by simp) ?_
  repeat' (((apply y4 ok;rfl))<;>conv=>whnf)
  all_goals (exact z50 rfl rfl (by rw [Tree.ev,if_pos rfl];rfl))
 ·refine z12 z19 Tryz.func191 rfl rfl 86 Tryz.ntmps191 (by simp) ?_
  repeat' ((first|(apply y4 ok;rfl)|(apply y39;omega)|(apply z1137;omega;intro _))<;>conv=>whnf)
  refine z50 rfl rfl ?_
  rw [Tree.ev,if_neg (by omega),if_pos rfl,y64,y41 (by omega)];rfl
 ·have ha:=y17 hv a h1
  refine z12 z19 Tryz.func191 rfl rfl 86 Tryz.ntmps191 (by simp) ?_
  repeat' ((first|(apply y4 ok;rfl)|(apply y39;omega)|apply z155|(apply z6 (ih a (by simp) h1);rfl;rfl)|(apply z6 (z741 _);rfl;rfl))<;>conv=>whnf)
  all_goals (refine z50 rfl rfl ?_;rw [Tree.ev,if_neg (by omega),if_neg (by omega)];simp only [Tree.evs];rfl)
 ·have ha:=y17 hv a h3
  have hb:=y17 hv b h4
  refine z12 z19 Tryz.func191 rfl rfl 86 Tryz.ntmps191 (by simp) ?_
  repeat' ((first|(apply y4 ok;rfl)|(apply y39;first|omega|(unfold inI;omega))|(((apply z15;omega));intro _)|apply z155|((first|apply z8|apply z41)<;>intro _)|(apply z6 (ih a (by simp) h3);rfl;rfl)|(apply z6 (ih b (by simp) h4);rfl;rfl)|(apply z6 (z741 _);rfl;rfl))<;>conv=>whnf)
  all_goals try (exfalso;omega)
  all_goals (refine z508 rfl ?_;clear ih;simp only [Tree.ev,Tree.evs,b2i];grind)
def ltr (v:List Int) (l:List Tree) (k n:Nat):Nat:=match l with
 |[]=>n
 |t::r=>ltr v r (k+1) (if t.ev v=0 then n else n ||| 2 ^ k)
theorem z470 (v:List Int) (l:List Tree) (k n:Nat) (h:k < l.length):ltr v (l.drop k) k n=ltr v (l.drop (k+1)) (k+1) (if l[k].ev v=0 then n else n ||| 2 ^ k):=by
 rw [y76 h,ltr]
theorem z1112 (v:List Int) (l:List Tree) (k n:Nat) (h:l.length≤k):ltr v (l.drop k) k n=n:=by
 rw [y80 h,ltr]
def z49 (labels:List Tree) (s:State):Int:=ltr s.b labels 0 0
theorem or_lt {n k:Nat} (h:n < 2 ^ k):n ||| 2 ^ k < 2 ^ (k+1) :=
 Nat.or_lt_two_pow (by rw [Nat.pow_succ];omega) (by rw [Nat.pow_succ];have:=Nat.two_pow_pos k;omega)
def z160 (l:List Tree):Prop:=l.length=3∧∀ t∈l,t.good
theorem y8 {l:List Tree} (h:z150 l=true):z160 l:=by
 simp only [z150,y67,decide_eq_true_eq,y75] at h
 exact ⟨by omega,fun t ht=>y24 (h.2 t ht)⟩
theorem z1069 (k:Nat) (hk:k < 3):(1:Int) * 2 ^ ((k:Int).toNat)=((2 ^ k:Nat):Int):=by simp
theorem z511 {k:Nat} (hk:k < 3):2 ^ k≤8∧2 ^ (k+1)≤8∧0 < 2 ^ k:=by
 have:k=0∨k=1∨k=2:=by omega
 rcases this with rfl|rfl|rfl<;>simp
theorem z1114 (s:State) (hv:ValsOk s.b) (l:List Tree) (hl:z160 l):CallsA Tryz.prog 80 [ints s.b,lst 3 Tree.cs' l] [] (.int (z49 l s)) []:=by
 have h3:=hl.1
 refine z12 z19 Tryz.func80 rfl rfl 25 Tryz.ntmps80 (by simp) ?_
 repeat' (((apply y4 ok;rfl))<;>conv=>whnf)
 refine z97 (fun x:Nat×Nat=>([(0,ints s.b),(5,.int x.2),(8,lst 3 Tree.cs' l),(9,.int l.length),(10,.int x.1)],[])) (fun x=>x.1≤l.length∧x.2 < 2 ^ x.1∧ltr s.b l 0 0=ltr s.b (l.drop x.1) x.1 x.2) (fun x=>l.length - x.1) (0,0) ⟨by omega,by decide,rfl⟩ ⟨[],rfl,by decide,rfl,by repeat' (first|exact True.intro|exact ⟨rfl,rfl⟩|apply y39),by repeat' (exact True.intro)⟩ ?_
 rintro ⟨k,n⟩ ⟨hk1,hk2,hk3⟩
 dsimp only at hk1 hk2 hk3
 repeat' ((first|(apply y4 ok;rfl)|(apply y39;first|omega|(unfold inI;omega))|(((with_reducible apply z15;omega));intro _)|((first|apply z8|apply z41)<;>intro _)|(apply z6 (eval_ok s.b hv l[k] (hl.2 _ (y40 _)));rfl;rfl))<;>conv=>whnf)
 ·rename_i hkl h
  have hp:=z511 (show k < 3 by omega)
  have e:=z1069 k (by omega)
  refine y39 ⟨by omega,by omega,by rw [e];unfold inI;omega⟩ ?_
  conv=>whnf
  refine y39 (by rw [e];unfold z215;omega) ?_
  conv=>whnf
  repeat' ((first|(apply y4 ok;rfl)|(apply y39;(unfold inI;omega)))<;>conv=>whnf)
  rw [z470 _ _ _ _ hkl,if_neg h] at hk3
  refine z81 (k+1,n ||| 2 ^ k) [] ⟨by dsimp only;omega,or_lt hk2,hk3⟩ (by dsimp only;omega) ⟨rfl,by decide,rfl,⟨⟨rfl,rfl⟩,⟨rfl,?_⟩,⟨rfl,rfl⟩,⟨rfl,rfl⟩,⟨rfl,rfl⟩,trivial⟩,trivial⟩
  show AC.raw (.int .i64 (((n:Int).toNat ||| ((1:Int) * 2 ^ ((k:Int).toNat)).toNat:Nat):Int))=_
  rw [e];rfl
 ·rename_i hkl h
  rw [z470 _ _ _ _ hkl,if_pos h] at hk3
  have:2 ^ k≤2 ^ (k+1):=by rw [Nat.pow_succ];omega
  exact z81 (k+1,n) [] ⟨by dsimp only;omega,by dsimp only;omega,hk3⟩ (by dsimp only;omega) ⟨rfl,by decide,rfl,by repeat' (first|exact True.intro|exact ⟨rfl,rfl⟩|apply y39),by repeat' (exact True.intro)⟩
 ·rw [z1112 _ _ _ _ (by omega)] at hk3
  exact z50 rfl rfl (by unfold z49;rw [hk3];rfl)
theorem z834 (s:State) (hv:ValsOk s.b) (l:List Tree) (hl:z160 l):CallsA Tryz.prog 133 [z40 State.cs s,lst 3 Tree.cs' l] [] (.int (z49 l s)) []:=by
 have h3:=hl.1
 refine z12 z19 Tryz.func133 rfl rfl 27 Tryz.ntmps133 (by simp) ?_
 repeat' (((apply y4 ok;rfl))<;>conv=>whnf)
 refine z97 (fun x:Nat×Nat=>([(1,lst 3 Tree.cs' l),(2,.ptr 0 none 0),(5,.int x.2),(6,.int x.1)],[.cells 2 [[ints s.a,ints s.b]]])) (fun x=>x.1≤l.length∧x.2 < 2 ^ x.1∧ltr s.b l 0 0=ltr s.b (l.drop x.1) x.1 x.2) (fun x=>l.length - x.1) (0,0) ⟨by omega,by decide,rfl⟩ ⟨[0],rfl,by decide,rfl,by repeat' (first|exact True.intro|exact ⟨rfl,rfl⟩|apply y39),by repeat' (first|exact True.intro|exact z27 rfl rfl|apply y39)⟩ ?_
 rintro ⟨k,n⟩ ⟨hk1,hk2,hk3⟩
 dsimp only at hk1 hk2 hk3
 repeat' ((first|(apply y4 ok;rfl)|(apply z37;kernel_rfl)|(apply y39;first|omega|(unfold inI;omega))|(((with_reducible apply z15;omega));intro _)|((first|apply z8|apply z41)<;>intro _)|(apply z6 (z523 s.b hv l[k] (hl.2 _ (y40 _)));rfl;rfl))<;>conv=>whnf)
 ·rename_i hkl h
  have hp:=z511 (show k < 3 by omega)
  have e:=z1069 k (by omega)
  refine y39 ?_ ?_
  ·show IntKind.u64.wrap k=k
   have:k=0∨k=1∨k=2:=by dsimp only at hkl;omega
   rcases this with rfl|rfl|rfl<;>rfl
  conv=>whnf
  refine y39 ⟨by omega,by omega,by rw [e];unfold inI;omega⟩ ?_
  conv=>whnf
  refine y39 (by rw [e];unfold z215;omega) ?_
  conv=>whnf
  repeat' ((first|(apply y4 ok;rfl)|(apply y39;(unfold inI;omega)))<;>conv=>whnf)
  rw [z470 _ _ _ _ hkl,if_neg h] at hk3
  refine z81 (k+1,n ||| 2 ^ k) [0] ⟨by dsimp only;omega,or_lt hk2,hk3⟩ (by dsimp only;omega) ⟨rfl,by decide,rfl,⟨⟨rfl,rfl⟩,⟨rfl,rfl⟩,⟨rfl,?_⟩,⟨rfl,rfl⟩,trivial⟩,⟨z27 rfl rfl,trivial⟩⟩
  show AC.raw (.int .i64 (((n:Int).toNat ||| ((1:Int) * 2 ^ ((k:Int).toNat)).toNat:Nat):Int))=_
  rw [e];rfl
 ·rename_i hkl h
  rw [z470 _ _ _ _ hkl,if_pos h] at hk3
  have:2 ^ k≤2 ^ (k+1):=by rw [Nat.pow_succ];omega
  exact z81 (k+1,n) [0] ⟨by dsimp only;omega,by dsimp only;omega,hk3⟩ (by dsimp only;omega) ⟨rfl,by decide,rfl,by repeat' (first|exact True.intro|exact ⟨rfl,rfl⟩|apply y39),by repeat' (first|exact True.intro|exact z27 rfl rfl|apply y39)⟩
 ·rw [z1112 _ _ _ _ (by omega)] at hk3
  exact z50 rfl rfl (by unfold z49;rw [hk3];rfl)
theorem z1120 (g:Graph) (hg:∀ s∈g.st,ValsOk s.b) (hn:g.st.length≤60) (l:List Tree) (hl:z160 l):CallsA Tryz.prog 28 [.agg g.cs,lst 3 Tree.cs' l] [] (.sref 0 0 g.st.length) [.cells 1 (g.st.map fun s=>enI (z49 l s))]:=by
 refine z12 z19 Tryz.func28 rfl rfl 29 Tryz.ntmps28 (by simp) ?_
 repeat' ((first|(apply y4 ok;rfl)|(apply y39;(dsimp only;omega)))<;>conv=>whnf)
 refine z97 (fun k:Nat=>([(1,lst 3 Tree.cs' l),(5,.sref 0 0 g.st.length),(13,lst 2 State.cs g.st),(14,.int g.st.length),(15,.int k)],[.cells 1 ((g.st.take k).map (fun s=>enI (z49 l s))++List.replicate (g.st.length - k) (enI 0))])) (fun k=>k≤g.st.length) (fun k=>g.st.length - k) 0 (by omega) ⟨[1],rfl,by decide,rfl,by repeat' (first|exact True.intro|exact ⟨rfl,rfl⟩|apply y39),by repeat' (first|exact True.intro|exact z59 (by rfl) (by (first|exact z36|exact z75 rfl))|apply y39)⟩ ?_
 intro k hk
 repeat' ((first|(apply y4 ok;rfl)|(apply y39;first|omega|(unfold inI;omega))|(((with_reducible apply z15;omega));intro _)|(apply z391;omega)|((apply z8)<;>intro _)|(apply z6 (z1114 g.st[k] (hg _ (y40 _)) l hl);rfl;rfl))<;>conv=>whnf)
 ·rename_i h hkl
  exact z81 (k+1) [0] (by omega) (by omega) ⟨rfl,by decide,rfl,⟨⟨rfl,rfl⟩,⟨rfl,rfl⟩,⟨rfl,rfl⟩,⟨rfl,rfl⟩,⟨rfl,rfl⟩,trivial⟩,⟨z901 hkl rfl rfl rfl (fun _=>rfl) rfl,trivial⟩⟩
 ·exact z418 rfl (z7 fun _=>rfl) rfl (z925 _ _ _ _ (by omega))
theorem z911 (g:Graph) (hg:∀ s∈g.st,ValsOk s.b) (hn:g.st.length≤60) (l:List Tree) (hl:z160 l):CallsA Tryz.prog 28 [.agg g.cs,lst 3 Tree.cs' l] [] (ints (g.st.map (z49 l))) []:=by
 have h:=(z1120 g hg hn l hl).keep (z145 _ _) (by simp)
 unfold ints
 rw [y45,List.map_map]
 exact h
theorem z652 (g:Graph) (hg:∀ s∈g.st,ValsOk s.b) (hn:g.st.length≤60) (l:List Tree) (hl:z160 l):CallsA Tryz.prog 83 [.agg g.cs,lst 3 Tree.cs' l] [] (.sref 0 0 g.st.length) [.cells 1 (g.st.map fun s=>enI (z49 l s))]:=by
 refine z12 z19 Tryz.func83 rfl rfl 26 Tryz.ntmps83 (by simp) ?_
 repeat' (((apply y4 ok;rfl))<;>conv=>whnf)
 refine z97 (fun k:Nat=>([(1,lst 3 Tree.cs' l),(2,.ptr 0 none 0),(5,.sref 1 0 k),(6,.int k)],[.cells 2 [[lst 2 State.cs g.st,lst 1 encL g.nx]],.cells 1 ((g.st.take k).map fun s=>enI (z49 l s))])) (fun k=>k≤g.st.length) (fun k=>g.st.length - k) 0 (by omega) ⟨[0,1],rfl,by decide,rfl,by repeat' (first|exact True.intro|exact ⟨rfl,rfl⟩|apply y39),by repeat' (first|exact True.intro|exact z27 rfl rfl|exact z59 (by rfl) (by (exact z36))|apply y39)⟩ ?_
 intro k hk
 repeat' ((first|(apply y4 ok;rfl)|(apply y39;first|omega|(unfold inI;omega)|((try dsimp only);simp only [y45,y44,y43,y42,y54,y55];omega)|exact ⟨rfl,z25 rfl z32⟩)|(((with_reducible apply z15;omega));intro _)|((apply z8)<;>intro _)|(apply z6 (z834 g.st[k] (hg _ (y40 _)) l hl);rfl;rfl))<;>conv=>whnf)
 ·rename_i h hkl
  exact z81 (k+1) [0,3] (by omega) (by omega) ⟨rfl,by decide,rfl,⟨⟨rfl,rfl⟩,⟨rfl,rfl⟩,⟨rfl,rfl⟩,⟨rfl,rfl⟩,trivial⟩,⟨z27 rfl rfl,z639 hkl _ rfl rfl rfl (fun _=>rfl),trivial⟩⟩
 ·obtain rfl:k=g.st.length:=by omega
  exact z418 rfl (z7 fun _=>rfl) rfl (by rw [y52])
theorem z735 (g:Graph) (hg:∀ s∈g.st,ValsOk s.b) (hn:g.st.length≤60) (l:List Tree) (hl:z160 l):CallsA Tryz.prog 83 [.agg g.cs,lst 3 Tree.cs' l] [] (ints (g.st.map (z49 l))) []:=by
 have h:=(z652 g hg hn l hl).keep (z145 _ _) (by simp)
 unfold ints
 rw [y45,List.map_map]
 exact h
theorem z740 (l:List Int) (hl:l.length≤maxLen):CallsA Tryz.prog 131 [ints l] [] (.bool (z339 l)) []:=by
 unfold maxLen at hl
 have e:z339 l=(l.all (fun n=>btw n 0 3) && decide ((l.length:Int)=3)):=by
  unfold z339;rw [Bool.and_comm,List.all_eq_not_any_not]
 rw [e]
 refine z12 z19 Tryz.func131 rfl rfl 25 Tryz.ntmps131 (by simp) ?_
 repeat' (((apply y4 ok;rfl))<;>conv=>whnf)
 refine z97 (fun k:Nat=>([(0,ints l),(3,.int k)],[])) (fun k=>k≤l.length∧l.all (fun n=>btw n 0 3)=(l.drop k).all (fun n=>btw n 0 3)) (fun k=>l.length - k) 0 ⟨by omega,rfl⟩ ⟨[],rfl,by decide,rfl,by repeat' (first|exact True.intro|exact ⟨rfl,rfl⟩|apply y39),by repeat' (exact True.intro)⟩ ?_
 intro k hk
 repeat' ((first|(apply y4 ok;rfl)|(apply y39;first|omega|(unfold inI;omega))|(((with_reducible apply z15;omega));intro _)|((apply z8)<;>intro _))<;>conv=>whnf)
 ·refine z24 rfl ?_
  have:btw l[k] 0 3=false:=z303.2 (by omega)
  rw [hk.2,z156 _ _ _ (by assumption),this];rfl
 ·refine z24 rfl ?_
  have:btw l[k] 0 3=false:=z303.2 (by omega)
  rw [hk.2,z156 _ _ _ (by assumption),this];rfl
 ·have:btw l[k] 0 3=true:=z141.2 (by omega)
  exact z81 (k+1) [] ⟨by omega,by rw [hk.2,z156 _ _ _ (by assumption),this];rfl⟩ (by omega) ⟨rfl,by decide,rfl,by repeat' (first|exact True.intro|exact ⟨rfl,rfl⟩|apply y39),by repeat' (exact True.intro)⟩
 ·exact z24 rfl (by rw [hk.2,z146 _ _ _ (by omega),Bool.true_and])
theorem z1121 (l:List Int) (hl:l.length≤maxLen) (v:Int):CallsA Tryz.prog 119 [ints l,.int v] [] (.bool (decide (v∈l))) []:=by
 unfold maxLen at hl
 have e:decide (v∈l)=l.any (fun x=>decide (x=v)):=by
  rw [Bool.eq_iff_iff];simp
 rw [e]
 refine z12 z19 Tryz.func119 rfl rfl 18 Tryz.ntmps119 (by simp) ?_
 repeat' (((apply y4 ok;rfl))<;>conv=>whnf)
 refine z97 (fun k:Nat=>([(0,ints l),(1,.int v),(5,.int k)],[])) (fun k=>k≤l.length∧l.any (fun x=>decide (x=v))=(l.drop k).any (fun x=>decide (x=v))) (fun k=>l.length - k) 0 ⟨by omega,rfl⟩ ⟨[],rfl,by decide,rfl,by repeat' (first|exact True.intro|exact ⟨rfl,rfl⟩|apply y39),by repeat' (exact True.intro)⟩ ?_
 intro k hk
 repeat' ((first|(apply y4 ok;rfl)|(apply y39;first|omega|(unfold inI;omega))|(((with_reducible apply z15;omega));intro _)|((apply z8)<;>intro _))<;>conv=>whnf)
 ·rename_i h
  exact z24 rfl (by rw [hk.2,z931 _ _ _ (by assumption),y78 h];rfl)
 ·rename_i h
  exact z81 (k+1) [] ⟨by omega,by rw [hk.2,z931 _ _ _ (by assumption),y79 h];rfl⟩ (by omega) ⟨rfl,by decide,rfl,by repeat' (first|exact True.intro|exact ⟨rfl,rfl⟩|apply y39),by repeat' (exact True.intro)⟩
 ·exact z24 rfl (by rw [hk.2,z761 _ _ _ (by omega)])
theorem Distinct.le {l:List Int} {n:Int} (h:Distinct l n l.length) (h0:0≤n):(l.length:Int)≤n:=by
 have hnd:(l.map Int.toNat).Nodup:=by
  rw [List.nodup_iff_pairwise_ne,List.pairwise_map,List.pairwise_iff_getElem]
  intro i j hi hj hij he
  have h1:=h i hi hi
  have h2:=h j hj hj
  refine h2.2 ?_
  have:l[j]=l[i]:=by omega
  rw [this,List.mem_take_iff_getElem]
  exact ⟨i,by omega,rfl⟩
 have hsub:(l.map Int.toNat) ⊆ List.range n.toNat:=by
  intro x hx
  obtain ⟨y,hy,rfl⟩:=List.mem_map.1 hx
  obtain ⟨i,hi,rfl⟩:=List.mem_iff_getElem.1 hy
  have:=(h i hi hi).1
  rw [y57];omega
 have:=hnd.length_le_of_subset hsub
 simp at this
 omega
def RowOk (g:Graph) (i:Nat):Prop:=∀ (h:i < g.nx.length) (h' : i < g.st.length),1≤g.nx[i].length∧g.nx[i].length≤g.st.length∧z339 g.st[i].b=true∧Distinct g.nx[i] g.st.length g.nx[i].length
def GB (g:Graph):Prop:=(1≤g.st.length∧g.st.length≤60)∧g.nx.length=g.st.length∧∀ i,i < g.nx.length→RowOk g i
theorem z698 {n:Int} {l:List Int} : z803 n l=true↔1≤l.length∧Distinct l n l.length:=by
 unfold z803
 rw [y67,decide_eq_true_eq,Bool.not_eq_true',decide_eq_false_iff_not]
 exact and_congr (by omega) Iff.rfl
theorem z103 (g:Graph):z223 g=true↔GB g:=by
 unfold z223 GB
 simp only [y67,z141,decide_eq_true_eq,Bool.not_eq_true',List.any_eq_false]
 constructor
 ·rintro ⟨h1,h2,h3,h4⟩
  refine ⟨by omega,by omega,fun i hi h h'=>?_⟩
  have h5:=z698.1 (by simpa using h4 _ (y40 h))
  have h6:=h5.2.le (by omega)
  exact ⟨h5.1,by omega,by simpa using h3 _ (y40 h'),h5.2⟩
 ·rintro ⟨h1,h2,h3⟩
  refine ⟨by omega,by omega,fun s hs=>?_,fun l hl=>?_⟩
  ·obtain ⟨i,hi,rfl⟩:=List.mem_iff_getElem.1 hs
   simpa using (h3 i (by omega) (by omega) hi).2.2.1
  ·obtain ⟨i,hi,rfl⟩:=List.mem_iff_getElem.1 hl
   have:=h3 i hi hi (by omega)
   simpa using z698.2 ⟨this.1,this.2.2.2⟩
set_option maxHeartbeats 800000 in
theorem z239 (g:Graph) (hg:g.mx):CallsA Tryz.prog 81 [.agg g.cs] [] (.bool (z223 g)) []:=by
 obtain ⟨hs,hn,hm⟩:=hg
 have hl1:=hs.1
 unfold maxLen at hl1 hn
 have hiff:=z103 g
 refine z12 z19 Tryz.func81 rfl rfl 111 Tryz.ntmps81 (by simp) ?_
 repeat' ((first|(apply y4 ok;rfl)|((first|apply z8|apply z41)<;>intro _))<;>conv=>whnf)
 ·exact z24 rfl (by rw [← y68,hiff];rintro ⟨h1,h2,_⟩;omega)
 ·exact z24 rfl (by rw [← y68,hiff];rintro ⟨h1,h2,_⟩;omega)
 ·exact z24 rfl (by rw [← y68,hiff];rintro ⟨h1,h2,_⟩;omega)
 rename_i b1 b2 b3
 have hne:g.nx.length=g.st.length:=by omega
 refine z97 (fun k:Nat=>([(1,.ptr 0 none 0),(3,.int k)],[.cells 2 [[lst 2 State.cs g.st,lst 1 encL g.nx]]])) (fun k=>k≤g.nx.length∧∀ i,i < k→RowOk g i) (fun k=>g.nx.length - k) 0 ⟨by omega,fun i h=>by omega⟩ ⟨[0],rfl,by decide,rfl,by repeat' (first|exact True.intro|exact ⟨rfl,rfl⟩|apply y39),by repeat' (first|exact True.intro|exact z27 rfl rfl|apply y39)⟩ ?_
 intro k hk
 have bad:k < g.nx.length→¬ RowOk g k→z223 g=false:=fun h1 h2=>by
  rw [← y68,hiff];rintro ⟨_,_,h3⟩;exact h2 (h3 k h1)
 repeat' ((first|(apply y4 ok;rfl)|(apply z37;kernel_rfl)|(apply y39;omega)|(((with_reducible apply z15;omega));intro _)|((first|apply z8|apply z109)<;>intro _)|(apply z6 (z740 _ (hs.2 _ (y40 _)).2);rfl;rfl))<;>conv=>whnf)
 ·refine z24 rfl (bad (by assumption) fun h=>?_)
  have:=h (by assumption) (by omega);omega
 ·refine z24 rfl (bad (by assumption) fun h=>?_)
  have:=h (by assumption) (by omega);omega
 ·rename_i hv
  refine z24 rfl (bad (by assumption) fun h=>?_)
  have:=h (by assumption) (by omega)
  rw [hv] at this;simp at this
 ·rename_i hv
  have hkn:k < g.nx.length:=by assumption
  have hks:k < g.st.length:=by omega
  refine z97 (fun j:Nat=>([(1,.ptr 0 none 0),(3,.int k),(4,.int j)],[.cells 2 [[lst 2 State.cs g.st,lst 1 encL g.nx]]])) (fun j=>j≤g.nx[k].length∧Distinct g.nx[k] g.st.length j) (fun j=>g.nx[k].length - j) 0 ⟨by omega,fun i h hi=>by omega⟩ ⟨[0],rfl,by decide,rfl,by repeat' (first|exact True.intro|exact ⟨rfl,rfl⟩|apply y39),by repeat' (first|exact True.intro|exact z27 rfl rfl|apply y39)⟩ ?_
  intro j hj
  repeat' ((first|(apply y4 ok;rfl)|(apply z37;kernel_rfl)|(apply y39;first|omega|(unfold inI;omega))|(((with_reducible apply z15;omega));intro _)|((apply z8)<;>intro _))<;>conv=>whnf)
  ·refine z24 rfl (bad hkn fun h=>?_)
   have:=((h hkn hks).2.2.2 j (by assumption) (by assumption)).1;omega
  ·refine z24 rfl (bad hkn fun h=>?_)
   have:=((h hkn hks).2.2.2 j (by assumption) (by assumption)).1;omega
  ·apply z6 (z1121 (g.nx[k].take j) (by rw [y44];unfold maxLen;omega) g.nx[k][j])
   ·show _=[AC.list 1 _ _,_]
    rw [show AC.list 1 (g.nx[k].take j).length ((g.nx[k].take j).map enI)=_ from (z197 1 enI g.nx[k] j hj.1).symm]
    rfl
   ·rfl
   conv=>whnf
   repeat' ((first|(apply y4 ok;rfl)|(apply z37;kernel_rfl)|(apply y39;(unfold inI;omega))|((apply z8)<;>intro _))<;>conv=>whnf)
   ·rename_i h2
    exact z24 rfl (bad hkn fun h=>((h hkn hks).2.2.2 j (by assumption) (by assumption)).2 h2)
   ·rename_i h2
    refine z81 (j+1) [0] ⟨by omega,fun i hi hik=>?_⟩ (by omega) ⟨rfl,by decide,rfl,by repeat' (first|exact True.intro|exact ⟨rfl,rfl⟩|apply y39),by repeat' (first|exact True.intro|exact z27 rfl rfl|apply y39)⟩
    rcases y66 i j with h3|h3
    ·exact hj.2 i hi h3
    ·obtain rfl:i=j:=by omega
     exact ⟨by omega,h2⟩
  ·refine z81 (k+1) [0] ⟨by omega,fun i hi=>?_⟩ (by omega) ⟨rfl,by decide,rfl,by repeat' (first|exact True.intro|exact ⟨rfl,rfl⟩|apply y39),by repeat' (first|exact True.intro|exact z27 rfl rfl|apply y39)⟩
   rcases y66 i k with h3|h3
   ·exact hk.2 i h3
   ·obtain rfl:i=k:=by omega
    intro _ _
    obtain rfl:j=g.nx[i].length:=by omega
    exact ⟨by omega,by omega,hv,hj.2⟩
 ·exact z24 rfl (by rw [hiff];exact ⟨by omega,hne,fun i hi=>hk.2 i (by omega)⟩)
def Trans.mx (t:Trans):Prop:=inI t.val
def z425 (n:Int) (t:Trans):Prop:=(0≤t.src∧t.src≤n - 1)∧(0≤t.dst∧t.dst≤n - 1)∧(0≤t.care∧t.care≤7)∧0≤t.val∧t.val.toNat &&& t.care.toNat=t.val.toNat
instance {n:Int} {t:Trans} : Decidable (z425 n t):=by unfold z425;infer_instance
def z1152 (n:Int) (t:Trans):Bool:=decide (z425 n t)
theorem z397 {n:Int} {t:Trans} : z1152 n t=true↔z425 n t:=by unfold z1152;exact decide_eq_true_iff
theorem edgeB_no {n:Int} {t:Trans} : z1152 n t=false↔¬ z425 n t:=by rw [← z397,y68]
def IniP (l:List Int) (n:Int) (k:Nat):Prop:=∀ i (h:i < l.length),i < k→(0≤l[i]∧l[i]≤n - 1)∧∀ j (hj:j+1=i),l[j]'(by omega) < l[i]
def AutP (a:Aut):Prop:=(1≤a.acc.length∧a.acc.length≤64)∧a.ed.length≤2048∧IniP a.ini a.acc.length a.ini.length∧∀ e∈a.ed,z425 a.acc.length e
noncomputable instance {a:Aut} : Decidable (AutP a):=Classical.propDecidable _
noncomputable def autB (a:Aut):Bool:=decide (AutP a)
theorem z272 {a:Aut} : autB a=true↔AutP a:=by unfold autB;exact decide_eq_true_iff
theorem z872 {a:Aut} : autB a=false↔¬ AutP a:=by rw [← z272,y68]
theorem IniP.ge {l:List Int} {n:Int} (h:IniP l n l.length):∀ i (hi:i < l.length),(i:Int)≤l[i]:=by
 intro i
 induction i with
 |zero=>intro hi;exact (h 0 hi hi).1.1
 |succ i ih =>
  intro hi
  have h1:=ih (by omega)
  have h2:=(h (i+1) hi hi).2 i rfl
  omega
theorem IniP.le {l:List Int} {n:Int} (h:IniP l n l.length) (h0:0≤n):(l.length:Int)≤n:=by
 rcases Nat.eq_zero_or_pos l.length with e|e
 ·omega
 ·have h1:=h.ge (l.length - 1) (by omega)
  have h2:=(h (l.length - 1) (by omega) (by omega)).1.2
  omega
theorem z1022 {v c:Int} (h0:0≤v) (h1:v≤9223372036854775807) (h2:0≤c) (h3:c≤7):(((BitVec.ofNat 64 v.toNat &&& ~~~BitVec.ofNat 64 c.toNat).toNat:Nat):Int)=0↔v.toNat &&& c.toNat=v.toNat:=by
 obtain ⟨v,rfl⟩:=Int.eq_ofNat_of_zero_le h0
 obtain ⟨c,rfl⟩:=Int.eq_ofNat_of_zero_le h2
 simp only [y73]
 have hv:v < 2 ^ 64:=by omega
 have hc:c < 2 ^ 64:=by omega
 have e:∀ x y:BitVec 64,(x &&& ~~~y)=0#64↔x &&& y=x:=by
  intro x y
  constructor
  ·intro h
   apply BitVec.eq_of_getElem_eq
   intro i hi
   have:=congrArg (fun z=>z[i]) h
   simp at this ⊢
   cases hx:x[i]<;>simp_all
  ·intro h
   apply BitVec.eq_of_getElem_eq
   intro i hi
   have:=congrArg (fun z=>z[i]) h
   simp at this ⊢
   cases hx:x[i]<;>simp_all
 have e2:=e (BitVec.ofNat 64 v) (BitVec.ofNat 64 c)
 constructor
 ·intro h
  have h4:(BitVec.ofNat 64 v &&& ~~~BitVec.ofNat 64 c)=0#64:=BitVec.eq_of_toNat_eq (by simpa using h)
  have h5:=congrArg BitVec.toNat (e2.1 h4)
  simpa [BitVec.toNat_and,Nat.mod_eq_of_lt hv,Nat.mod_eq_of_lt hc] using h5
 ·intro h
  have h4:BitVec.ofNat 64 v &&& BitVec.ofNat 64 c=BitVec.ofNat 64 v:=BitVec.eq_of_toNat_eq (by
   simpa [BitVec.toNat_and,Nat.mod_eq_of_lt hv,Nat.mod_eq_of_lt hc] using h)
  have h5:=congrArg BitVec.toNat (e2.2 h4)
  simpa using h5
theorem z1018 (n:Int) (h0:0≤n) (h1:n≤maxLen) (t:Trans) (ht:t.mx):CallsA Tryz.prog 98 [z40 Trans.cs t,.pt [.int n]] [] (.bool (!z1152 n t)) []:=by
 unfold Trans.mx inI at ht
 unfold maxLen at h1
 refine z12 z19 Tryz.func98 rfl rfl 37 Tryz.ntmps98 (by simp) ?_
 repeat' (first|(apply y4 ok;rfl;conv=>whnf)|(apply y39;(first|(unfold inI;omega)|(simp only [z141] at *;(unfold z215;omega)));conv=>whnf)|(apply z8<;>intro _<;>conv=>whnf)|(apply z109<;>intro _<;>conv=>whnf)|(apply z6 (z348 _ 0 (n - 1));rfl;rfl;conv=>whnf)|(apply z6 (z348 _ 0 7);rfl;rfl;conv=>whnf))
 all_goals (refine z24 rfl ?_;rw [Bool.eq_iff_iff];simp only [z141,z303,z397,edgeB_no,Bool.not_eq_true',decide_eq_false_iff_not,decide_eq_true_eq,Bool.false_eq_true,iff_false,iff_true] at *;unfold z425)
 all_goals try omega
 all_goals (rw [z1022 (by omega) (by omega) (by omega) (by omega)];omega)
theorem takes_ok (t:Trans) (n:Int) (h0:0≤n) (h1:n≤7) (ht:0≤t.care∧t.care≤7):CallsA Tryz.prog 108 [z40 Trans.cs t,.int n] [] (.bool (decide (((n.toNat &&& t.care.toNat:Nat):Int)=t.val))) []:=by
 refine z12 z19 Tryz.func108 rfl rfl 12 Tryz.ntmps108 (by simp) ?_
 repeat' (first|(apply y4 ok;rfl;conv=>whnf)|(apply y39;((unfold z215;omega));conv=>whnf))
 exact z24 rfl rfl
def Aut.mx (a:Aut):Prop:=a.ini.length≤maxLen∧a.acc.length≤maxLen∧a.ed.length≤maxLen∧∀ t∈a.ed,t.mx
theorem z454 (c:Int) (l:List Trans) (hl:l.length≤maxLen) (p:Trans→Bool) (f:FuncId) (hf:∀ x∈l,CallsA Tryz.prog f [z40 Trans.cs x,.pt [.int c]] [] (.bool (p x)) []):CallsA Tryz.prog 156 [lst 4 Trans.cs l,.fn (.func f) [] [.pt [.int c]]] [] (.int (idxF p l)) []:=by
 unfold maxLen at hl
 refine z12 z19 Tryz.func156 rfl rfl 19 Tryz.ntmps156 (by simp) ?_
 repeat' ((apply y4 ok;rfl;conv=>whnf))
 refine z97 (fun k:Nat=>([(0,lst 4 Trans.cs l),(1,.fn (.func f) [] [.pt [.int c]]),(7,.int l.length),(8,.int k)],[])) (fun k=>k≤l.length∧∀ j (hj:j < l.length),j < k→p l[j]=false) (fun k=>l.length - k) 0 (by simp)
  ⟨[],rfl,by decide,rfl,⟨⟨rfl,rfl⟩,⟨rfl,rfl⟩,⟨rfl,rfl⟩,⟨rfl,rfl⟩,trivial⟩,trivial⟩ ?_
 intro k hk
 repeat' (first|(apply y4 ok;rfl;conv=>whnf)|(apply y39;(first|omega|(unfold inI;omega));conv=>whnf)|(with_reducible apply z15;omega;intro _;conv=>whnf)|(apply z8<;>intro _<;>conv=>whnf)|(apply z110<;>intro _<;>conv=>whnf)|(apply z6 (hf l[k] (y40 _));rfl;rfl;conv=>whnf))
 ·rename_i h h1
  exact z50 rfl rfl (by rw [z177 (by omega) h1 hk.2];rfl)
 ·rename_i h h1
  refine z81 (k+1) [] ⟨by omega,fun j hj hjk=>?_⟩ (by omega) ⟨rfl,by decide,rfl,⟨⟨rfl,rfl⟩,⟨rfl,rfl⟩,⟨rfl,rfl⟩,⟨rfl,rfl⟩,trivial⟩,trivial⟩
  rcases y66 j k with h2|h2
  ·exact hk.2 j hj h2
  ·obtain rfl:j=k:=by omega
   exact h1
 ·exact z50 rfl rfl (by rw [z178 fun j hj=>hk.2 j hj (by omega)];rfl)
theorem z352 (c:Int) (l:List Trans) (hl:l.length≤maxLen) (p:Trans→Bool) (f:FuncId) (hf:∀ x∈l,CallsA Tryz.prog f [z40 Trans.cs x,.pt [.int c]] [] (.bool (p x)) []):CallsA Tryz.prog 97 [lst 4 Trans.cs l,.fn (.func f) [] [.pt [.int c]]] [] (.bool (l.any p)) []:=by
 refine z12 z19 Tryz.func97 rfl rfl 9 Tryz.ntmps97 (by simp) ?_
 repeat' (first|(apply y4 ok;rfl;conv=>whnf)|(apply z6 (z454 c l hl p f hf);rfl;rfl;conv=>whnf))
 exact z24 rfl (by rw [← z261])
theorem IniP.step {l:List Int} {n:Int} {k:Nat} (h:IniP l n k) (hk:k < l.length) (h1:0≤l[k]∧l[k]≤n - 1) (h2:∀ j (hj:j+1=k),l[j]'(by omega) < l[k]):IniP l n (k+1):=by
 intro i hi hik
 rcases y66 i k with h3|h3
 ·exact h i hi h3
 ·obtain rfl:i=k:=by omega
  exact ⟨h1,h2⟩
def z387 (l:List Int) (k:Nat):Int:=if h:0 < k∧k≤l.length then l[k - 1]'(by omega) else -1
theorem z249 (a:Aut) (ha:a.mx):CallsA Tryz.prog 45 [.agg a.cs] [] (.bool (autB a)) []:=by
 obtain ⟨hi,hc,he,hm⟩:=ha
 have hk:=z352 (a.acc.length:Int) a.ed he (fun t=>!z1152 a.acc.length t) 98 (fun t ht=>z1018 _ (by omega) (by omega) t (hm t ht))
 unfold maxLen at hi hc he
 refine z12 z19 Tryz.func45 rfl rfl 41 Tryz.ntmps45 (by simp) ?_
 repeat' ((apply y4 ok;rfl;conv=>whnf))
 refine z97 (fun k:Nat=>([(1,.ptr 0 none 0),(3,.ptr 1 none 0),(4,.int (z387 a.ini k)),(11,lst 1 enI a.ini),(12,.int a.ini.length),(13,.int k)],[.cells 3 [[lst 1 enI a.ini,lst 1 enB a.acc,lst 4 Trans.cs a.ed]],.cells 1 [[.int a.acc.length]]])) (fun k=>k≤a.ini.length∧IniP a.ini a.acc.length k) (fun k=>a.ini.length - k) 0 ⟨by omega,fun i h hi=>by omega⟩ ⟨[0,1],rfl,by decide,rfl,by repeat' (first|exact True.intro|exact ⟨rfl,rfl⟩|apply y39),by repeat' (first|exact True.intro|exact z27 rfl rfl|apply y39)⟩ ?_
 rintro k ⟨hk1,hk2⟩
 have hlast : -1≤z387 a.ini k∧z387 a.ini k≤a.acc.length - 1:=by
  unfold z387
  split
  ·rename_i h
   have:=(hk2 (k - 1) (by omega) (by omega)).1;omega
  ·omega
 repeat' (first|(apply y4 ok;rfl;conv=>whnf)|(apply y39;(first|omega|(unfold inI;omega));conv=>whnf)|(with_reducible apply z15;omega;intro _;conv=>whnf)|(apply z8<;>intro _<;>conv=>whnf)|(apply z109<;>intro _<;>conv=>whnf)|(apply z110<;>intro _<;>conv=>whnf)|(apply z6 (z348 _ (z387 a.ini k+1) _);rfl;rfl;conv=>whnf)|(apply z6 (z348 _ 1 64);rfl;rfl;conv=>whnf)|(apply z936 [1] (hk);rfl;rfl;rfl;rfl;conv=>whnf))
 ·rename_i hkl hb
  refine z24 rfl (z872.2 fun ⟨_,_,h,_⟩=>?_)
  have h1:=h k hkl hkl
  rw [z303] at hb
  refine hb ⟨?_,h1.1.2⟩
  unfold z387
  split
  ·rename_i hp
   have:=h1.2 (k - 1) (by omega);omega
  ·omega
 ·rename_i hkl hb
  rw [z141] at hb
  refine z81 (k+1) [0,1] ⟨by omega,hk2.step hkl (by omega) fun j hj=>?_⟩ (by omega) ⟨rfl,by decide,rfl,⟨⟨rfl,rfl⟩,⟨rfl,rfl⟩,⟨rfl,?_⟩,⟨rfl,rfl⟩,⟨rfl,rfl⟩,⟨rfl,rfl⟩,trivial⟩,⟨z27 rfl rfl,z27 rfl rfl,trivial⟩⟩
  ·subst hj
   have:=hb.1
   unfold z387 at this
   rw [dif_pos (by omega)] at this
   simp only [Nat.add_sub_cancel] at this
   omega
  ·have:z387 a.ini (k+1)=a.ini[k]:=by unfold z387;rw [dif_pos (by omega)];rfl
   rw [this];rfl
 all_goals (have hfull:IniP a.ini a.acc.length a.ini.length:=by (have:k=a.ini.length:=by omega);rw [← this];exact hk2)
 ·rename_i hb hl
  refine z24 rfl ?_
  rw [z141] at hb
  rw [Bool.eq_iff_iff,z272,Bool.not_eq_true',List.any_eq_false]
  constructor
  ·rintro ⟨_,_,_,h⟩ x hx
   simpa using z397.2 (h x hx)
  ·intro h
   exact ⟨by omega,by omega,hfull,fun e he=>z397.1 (by simpa using h e he)⟩
 ·refine z24 rfl (z872.2 fun hh=>?_)
  have:=hh.2.1;omega
 ·rename_i hb
  refine z24 rfl (z872.2 fun hh=>?_)
  have:=hh.1
  rw [z303] at hb;omega
theorem z213 {P:Program} {f:FuncId} {w:Nat} {res:AC} {objs' : List AObj} (hf:z789 P f) (h:∀ a cap,CallsA P f [.raw (.slice a 0 cap)] [] res objs'):CallsA P f [.list w 0 []] [] res objs':=by
 refine ⟨hf,fun G W vs hW hs hv=>?_⟩
 simp only [VL] at hv
 obtain ⟨⟨v,hv1,hv2⟩,_⟩:=hv
 simp only [V] at hv2
 obtain ⟨a,cap,rfl,_⟩:=hv2
 exact (h a cap).2 G W vs hW hs (by simp only [VL];exact ⟨⟨_,hv1,by simp [V]⟩,trivial⟩)
theorem nils_le {w:Nat} : ACle .nils (.list w 0 []):=fun G h v hv=>by
 simp only [V] at hv ⊢
 exact ⟨none,0,hv,y48 _,rfl,.inl trivial⟩
theorem z493 {o off w:Nat} : ACle (.sref o off 0) (.list w 0 []):=fun G h v hv=>by
 simp only [V] at hv ⊢
 obtain ⟨cap,_,⟨rfl,a,rfl⟩|⟨b,size,w',_,_,rfl⟩⟩:=hv
 ·exact ⟨_,_,rfl,y48 _,rfl,.inl trivial⟩
 ·exact ⟨_,_,rfl,y49 _,rfl,.inl trivial⟩
theorem z208 {P : Program} {f : FuncId} {fn : Func} {c : Code} (hf : P.funcs[f]? = some fn) (hb : fn.body = some c) (hn : (fn.name == "runtime.NumGoroutine") = false) : z789 P f := ⟨fn, c, hf, hn, hb⟩
theorem z601 (l:List Int) (hl:l.length≤1048576) (hp:0 < l.length):CallsA Tryz.prog 134 [ints l] [] (.sref 0 0 l.length) [.cells 1 (l.map enI)]:=by
 refine z12 z19 Tryz.func134 rfl rfl 8 Tryz.ntmps134 (by simp) ?_
 repeat' (first|(apply y4 ok;rfl;conv=>whnf)|(apply y39;(first|omega|(dsimp only;omega)|exact z106 (fun _=>rfl));conv=>whnf))
 exact z99 rfl (z7 fun _=>rfl) (Nat.zero_add _) rfl rfl
theorem z859 (l:List Int) (hl:l.length≤1048576):CallsA Tryz.prog 134 [ints l] [] (ints l) []:=by
 by_cases hp:0 < l.length
 ·have h:=(z601 l hl hp).keep (z145 _ _) (by simp)
  exact h
 ·obtain rfl:l=[]:=y70 (by omega)
  refine z213 (z208 Tryz.func134 rfl (by rfl)) fun ad cap=>?_
  refine z12 z19 Tryz.func134 rfl rfl 8 Tryz.ntmps134 (by simp) ?_
  repeat' (first|(apply y4 ok;rfl;conv=>whnf)|(apply y39;(omega);conv=>whnf)|(apply z110<;>intro _<;>conv=>whnf))
  ·exact z579 rfl rfl nils_le
  ·exact z579 rfl rfl z493
theorem z602 (l:List Int) (hl:l.length≤1048576):CallsA Tryz.prog 37 [ints l] [] (ints l) []:=by
 refine z12 z19 Tryz.func37 rfl rfl 9 Tryz.ntmps37 (by simp) ?_
 repeat' (first|(apply y4 ok;rfl;conv=>whnf)|(apply y39;(omega);conv=>whnf))
 refine z50 rfl rfl ?_
 show AC.list 1 _ _=ints l
 rw [show AC.list 1 ((l.length:Int).toNat - (0:Int).toNat) (((l.map enI).drop (0:Int).toNat).take ((l.length:Int).toNat - (0:Int).toNat))=_ from z197 1 enI l l.length (y48 _),y52]
 rfl
theorem z294 (l:List Int) (hl:l.length≤1048576):CallsA Tryz.prog 85 [ints l] [] (ints l) []:=by
 refine z12 z19 Tryz.func85 rfl rfl 6 Tryz.ntmps85 (by simp) ?_
 repeat' (first|(apply y4 ok;rfl;conv=>whnf)|(apply z6 (z859 l hl);rfl;rfl;conv=>whnf)|(apply z6 (z602 l hl);rfl;rfl;conv=>whnf))
 exact z50 rfl rfl rfl
theorem z620 {x x' y:AC} (h:ACle x x'):ACle (.tup [x,y]) (.tup [x',y]):=fun G hh v hv=>by
 simp only [V,VL] at hv ⊢
 obtain ⟨c,rfl,hc,⟨v1,h1,h2⟩,h3,_⟩:=hv
 exact ⟨c,rfl,hc,⟨v1,h1,h _ _ _ h2⟩,h3,trivial⟩
noncomputable def glB (g:Graph) (l:List Tree):Bool:=z223 g && z150 l
theorem z693 {l:List Int} (h:z339 l=true):ValsOk l:=by
 unfold z339 at h
 rw [y67,decide_eq_true_eq,Bool.not_eq_true',List.any_eq_false] at h
 exact ⟨by omega,fun x hx=>by simpa [z141] using h.2 x hx⟩
theorem GB.vals {g:Graph} (h:GB g):∀ s∈g.st,ValsOk s.b:=fun s hs=>by
 obtain ⟨i,hi,rfl⟩:=List.mem_iff_getElem.1 hs
 exact z693 (h.2.2 i (by have:=h.2.1;omega) (by have:=h.2.1;omega) hi).2.2.1
def Lmx (l:List Tree):Prop:=l.length≤maxLen∧∀ t∈l,t.mx
theorem z238 (g:Graph) (hg:g.mx) (l:List Tree) (hl:Lmx l):CallsA Tryz.prog 30 [.agg g.cs,lst 3 Tree.cs' l] [] (.tup [ints (if glB g l then g.st.map (z49 l) else []),.bool (glB g l)]) []:=by
 refine z12 z19 Tryz.func30 rfl rfl 18 Tryz.ntmps30 (by simp) ?_
 have k1:=z239 g hg
 have k2:=z364 l hl.1 hl.2
 have k3:=fun (h1:z223 g=true) (h2:z150 l=true)=>z735 g ((z103 g).1 h1).vals ((z103 g).1 h1).1.2 l (y8 h2)
 repeat' (first|(apply y4 ok;rfl;conv=>whnf)|(apply z109<;>intro _<;>conv=>whnf)|(apply z6 (k1);rfl;rfl;conv=>whnf)|(apply z6 (k2);rfl;rfl;conv=>whnf)|(apply z6 (k3 (by assumption) (by assumption));rfl;rfl;conv=>whnf))
 ·rename_i h
  have e:glB g l=false:=by unfold glB;rw [h];rfl
  rw [e]
  exact z579 rfl rfl (z620 z493)
 ·rename_i h1 h2
  have e:glB g l=false:=by unfold glB;rw [h1,h2];rfl
  rw [e]
  exact z579 rfl rfl (z620 z493)
 ·rename_i h1 h2
  have e:glB g l=true:=by unfold glB;rw [h1,h2];rfl
  rw [e]
  exact z50 rfl rfl rfl
theorem z1009 (g:Graph) (hg:g.mx) (l:List Tree) (hl:Lmx l) (a:Aut) (ha:a.mx):CallsA Tryz.prog 53 [.agg g.cs,lst 3 Tree.cs' l,.agg a.cs] [] (.bool (glB g l && autB a)) []:=by
 refine z12 z19 Tryz.func53 rfl rfl 17 Tryz.ntmps53 (by simp) ?_
 repeat' (first|(apply y4 ok;rfl;conv=>whnf)|(apply z110<;>intro _<;>conv=>whnf)|(apply z6 (z264 g hg);rfl;rfl;conv=>whnf)|(apply z6 (z233 l hl.1 hl.2);rfl;rfl;conv=>whnf)|(apply z6 (z249 a ha);rfl;rfl;conv=>whnf))
 all_goals (refine z24 rfl ?_;(unfold glB;simp [*];done))
theorem z143 (l:List (List Int)):z70 (l.map z89)=l.map encL:=by
 rw [z196,List.map_map]
 refine List.map_congr_left fun r _=>?_
 show [AC.list 1 _ (z70 _)]=_
 rw [z145]
 simp [encL,ints,enI]
theorem z1003 (l:List Bool):z70 (l.map enB)=l.map enB:=z145 (fun b=>Value.bool b) l
theorem z1015 {objs:Nat→AObj} {π Bn:List Nat} {o n:Nat} {l:List Bool} (ho:objs o=.cells 1 (l.map enB)) (h1:idx π o=none) (h2:inB Bn o=true) (hl:l.length=n):bor objs π Bn (.sref o 0 n)=lst 1 enB l:=by
 subst hl;exact z195 ho h1 h2 (by simp) (z1003 _)
theorem z1170 {objs:Nat→AObj} {π Bn:List Nat} {o:Nat} {l:List Bool} (ho:objs o=.cells 1 (l.map enB)) (h1:idx π o=none) (h2:inB Bn o=true):bor objs π Bn (.sref o 0 l.length)=lst 1 enB l :=
 z1015 ho h1 h2 rfl
structure Graph.ok (g:Graph):Prop where
 mx:g.mx
 st:g.st.length≤1048576
 nx:g.nx.length≤1048576
 states:∀ s∈g.st,s.small
 rows:∀ r∈g.nx,r.length≤1048576
 sumS:(g.st.map State.sz).sum≤1048576
 sumN:(g.nx.map List.length).sum≤1048576
theorem Graph.ok_of {g:Graph} (hg:g.mx) (h1:g.s1≤1048576) (h2:g.s2≤1048576):g.ok:=by
 unfold Graph.s1 tot at h1
 unfold Graph.s2 tot at h2
 refine ⟨hg,by omega,by omega,fun s hs=>?_,fun r hr=>?_,by omega,by omega⟩
 ·have:=z385 State.sz hs
  unfold State.sz at this h1
  exact ⟨by omega,by omega⟩
 ·have:=z385 List.length hr;omega
structure LabOk (l:List Tree):Prop where
 mx:Lmx l
 len:l.length≤1048576
 el:∀ t∈l,t.sz≤1048576
 sum:(l.map Tree.sz).sum≤1048576
theorem LabOk.of {l:List Tree} (hl:Lmx l) (h:tot Tree.sz l≤1048576):LabOk l:=by
 unfold tot at h
 exact ⟨hl,by omega,fun t ht=>by have:=z385 Tree.sz ht;omega,by omega⟩
end Go.Proofs.YteinbnahinpegaaGreat
