/- A part of the proofs over this program: Tab, T3, T4, T5, T6, T7, T8, T9, T10, T11, T12, T13, T15, T16, T17, T18, T19, T20, T21, T22, T23, T23R, T23S, T220, T31, T32, T33I, T33, T34, T24. -/
import Derived.Test.YteinbnahinpegaaGreatG3
import Derived.Test.YteinbnahinpegaaGreatProg
import Derived.KernelRfl
set_option linter.all false
namespace Go.Proofs.YteinbnahinpegaaGreat
open Go.Gl Proofs.Tryz
abbrev QQ := CallsA prog
def tabL:List (Nat×TyI):=[
 (3,⟨.int .i64,1,8,.int .i64 0⟩),
 (28,⟨.slice 3,1,24,.slice none 0 0⟩),
 (33, ⟨.struct #[{ name := "Kind", type := 3, offset := 0, embedded := false, tag := "", pkgPath := "", byteOffset := 0 }, { name := "Atom", type := 3, offset := 1, embedded := false, tag := "", pkgPath := "", byteOffset := 8 }, { name := "Kids", type := 31, offset := 2, embedded := false, tag := "", pkgPath := "", byteOffset := 16 }], 3, 40, .agg #[.int .i64 0, .int .i64 0, .slice none 0 0]⟩),
 (47, ⟨.struct #[{ name := "Initial", type := 28, offset := 0, embedded := false, tag := "", pkgPath := "", byteOffset := 0 }, { name := "Accepting", type := 44, offset := 1, embedded := false, tag := "", pkgPath := "", byteOffset := 24 }, { name := "Edges", type := 45, offset := 2, embedded := false, tag := "", pkgPath := "", byteOffset := 48 }], 3, 72, .agg #[.slice none 0 0, .slice none 0 0, .slice none 0 0]⟩),
 (31,⟨.slice 33,1,24,.slice none 0 0⟩),
 (44,⟨.slice 4,1,24,.slice none 0 0⟩),
 (26, ⟨.struct #[{ name := "States", type := 23, offset := 0, embedded := false, tag := "", pkgPath := "", byteOffset := 0 }, { name := "Next", type := 24, offset := 1, embedded := false, tag := "", pkgPath := "", byteOffset := 24 }], 2, 48, .agg #[.slice none 0 0, .slice none 0 0]⟩),
 (102, ⟨.struct #[{ name := "Kind", type := 3, offset := 0, embedded := false, tag := "", pkgPath := "", byteOffset := 0 }, { name := "Value", type := 3, offset := 1, embedded := false, tag := "", pkgPath := "", byteOffset := 8 }, { name := "Kids", type := 27, offset := 2, embedded := false, tag := "", pkgPath := "", byteOffset := 16 }], 3, 40, .agg #[.int .i64 0, .int .i64 0, .slice none 0 0]⟩),
 (45,⟨.slice 91,1,24,.slice none 0 0⟩),
 (24,⟨.slice 28,1,24,.slice none 0 0⟩),
 (91, ⟨.struct #[{ name := "From", type := 3, offset := 0, embedded := false, tag := "", pkgPath := "", byteOffset := 0 }, { name := "Care", type := 3, offset := 1, embedded := false, tag := "", pkgPath := "", byteOffset := 8 }, { name := "Value", type := 3, offset := 2, embedded := false, tag := "", pkgPath := "", byteOffset := 16 }, { name := "To", type := 3, offset := 3, embedded := false, tag := "", pkgPath := "", byteOffset := 24 }], 4, 32, .agg #[.int .i64 0, .int .i64 0, .int .i64 0, .int .i64 0]⟩),
 (23,⟨.slice 76,1,24,.slice none 0 0⟩),
 (76, ⟨.struct #[{ name := "Locs", type := 28, offset := 0, embedded := false, tag := "", pkgPath := "", byteOffset := 0 }, { name := "Vals", type := 28, offset := 1, embedded := false, tag := "", pkgPath := "", byteOffset := 24 }], 2, 48, .agg #[.slice none 0 0, .slice none 0 0]⟩),
 (27,⟨.slice 102,1,24,.slice none 0 0⟩),
 (4,⟨.bool,1,1,.bool false⟩),
 (160, ⟨.struct #[{ name := "From", type := 3, offset := 0, embedded := false, tag := "", pkgPath := "", byteOffset := 0 }, { name := "To", type := 3, offset := 1, embedded := false, tag := "", pkgPath := "", byteOffset := 8 }, { name := "Guard", type := 102, offset := 2, embedded := false, tag := "", pkgPath := "", byteOffset := 16 }, { name := "Var", type := 3, offset := 5, embedded := false, tag := "", pkgPath := "", byteOffset := 56 }, { name := "Value", type := 102, offset := 6, embedded := false, tag := "", pkgPath := "", byteOffset := 64 }, { name := "Sync", type := 3, offset := 9, embedded := false, tag := "", pkgPath := "", byteOffset := 104 }], 10, 112, .agg #[.int .i64 0, .int .i64 0, .int .i64 0, .int .i64 0, .slice none 0 0, .int .i64 0, .int .i64 0, .int .i64 0, .slice none 0 0, .int .i64 0]⟩),
 (203,⟨.int .u64,1,8,.int .u64 0⟩),
 (106,⟨.slice 158,1,24,.slice none 0 0⟩),
 (108, ⟨.struct #[{ name := "Init", type := 28, offset := 0, embedded := false, tag := "", pkgPath := "", byteOffset := 0 }, { name := "Processes", type := 106, offset := 1, embedded := false, tag := "", pkgPath := "", byteOffset := 24 }], 2, 48, .agg #[.slice none 0 0, .slice none 0 0]⟩),
 (40, ⟨.struct #[{ name := "Stem", type := 28, offset := 0, embedded := false, tag := "", pkgPath := "", byteOffset := 0 }, { name := "Loop", type := 28, offset := 1, embedded := false, tag := "", pkgPath := "", byteOffset := 24 }], 2, 48, .agg #[.slice none 0 0, .slice none 0 0]⟩),
 (156,⟨.slice 160,1,24,.slice none 0 0⟩),
 (201,⟨.slice 203,1,24,.slice none 0 0⟩),
 (158, ⟨.struct #[{ name := "Locations", type := 3, offset := 0, embedded := false, tag := "", pkgPath := "", byteOffset := 0 }, { name := "Edges", type := 156, offset := 1, embedded := false, tag := "", pkgPath := "", byteOffset := 8 }], 2, 32, .agg #[.int .i64 0, .slice none 0 0]⟩),
 (22,⟨.slice 5,1,24,.slice none 0 0⟩),
 (182,⟨.slice 184,1,24,.slice none 0 0⟩),
 (248,⟨.int .u64,1,8,.int .u64 0⟩),
 (184, ⟨.struct #[{ name := "set", type := 3, offset := 0, embedded := false, tag := "", pkgPath := "loop.example/ltlcheck/impl", byteOffset := 0 }, { name := "phase", type := 3, offset := 1, embedded := false, tag := "", pkgPath := "loop.example/ltlcheck/impl", byteOffset := 8 }], 2, 16, .agg #[.int .i64 0, .int .i64 0]⟩),
 (150,⟨.slice 154,1,24,.slice none 0 0⟩),
 (99, ⟨.struct #[{ name := "b", type := 22, offset := 0, embedded := false, tag := "", pkgPath := "loop.example/ltlcheck/spec", byteOffset := 0 }, { name := "p", type := 3, offset := 1, embedded := false, tag := "", pkgPath := "loop.example/ltlcheck/spec", byteOffset := 24 }], 2, 32, .agg #[.slice none 0 0, .int .i64 0]⟩),
 (169,⟨.int .u64,1,8,.int .u64 0⟩),
 (181, ⟨.struct #[{ name := "basics", type := 31, offset := 0, embedded := false, tag := "", pkgPath := "loop.example/ltlcheck/impl", byteOffset := 0 }, { name := "untils", type := 28, offset := 1, embedded := false, tag := "", pkgPath := "loop.example/ltlcheck/impl", byteOffset := 24 }], 2, 48, .agg #[.slice none 0 0, .slice none 0 0]⟩),
 (136,⟨.slice 44,1,24,.slice none 0 0⟩),
 (5,⟨.int .u8,1,1,.int .u8 0⟩),
 (154, ⟨.struct #[{ name := "Process", type := 3, offset := 0, embedded := false, tag := "", pkgPath := "", byteOffset := 0 }, { name := "Edge", type := 3, offset := 1, embedded := false, tag := "", pkgPath := "", byteOffset := 8 }, { name := "Partner", type := 3, offset := 2, embedded := false, tag := "", pkgPath := "", byteOffset := 16 }, { name := "PartnerEdge", type := 3, offset := 3, embedded := false, tag := "", pkgPath := "", byteOffset := 24 }], 4, 32, .agg #[.int .i64 0, .int .i64 0, .int .i64 0, .int .i64 0]⟩),
 (243,⟨.slice 244,1,24,.slice none 0 0⟩),
 (143,⟨.slice 45,1,24,.slice none 0 0⟩),
 (179,⟨.pointer 181,1,8,.pointer none⟩),
 (234,⟨.map 184 3,1,8,.map none⟩),
 (238, ⟨.struct #[{ name := "care", type := 3, offset := 0, embedded := false, tag := "", pkgPath := "loop.example/ltlcheck/impl", byteOffset := 0 }, { name := "value", type := 3, offset := 1, embedded := false, tag := "", pkgPath := "loop.example/ltlcheck/impl", byteOffset := 8 }, { name := "to", type := 184, offset := 2, embedded := false, tag := "", pkgPath := "loop.example/ltlcheck/impl", byteOffset := 16 }], 4, 32, .agg #[.int .i64 0, .int .i64 0, .int .i64 0, .int .i64 0]⟩),
 (222,⟨.int .u32,1,4,.int .u32 0⟩),
 (175,⟨.pointer 3,1,8,.pointer none⟩),
 (236,⟨.slice 238,1,24,.slice none 0 0⟩),
 (245,⟨.map 3 3,1,8,.map none⟩),
 (244,⟨.array 8 203,8,64,.agg #[.int .u64 0,.int .u64 0,.int .u64 0,.int .u64 0,.int .u64 0,.int .u64 0,.int .u64 0,.int .u64 0]⟩),
 (208,⟨.func #[3] #[] false,1,8,.nilFunc⟩),
 (262,⟨.func #[33] #[] false,1,8,.nilFunc⟩),
 (204,⟨.map 91 4,1,8,.map none⟩),
 (215,⟨.int .i64,1,8,.int .i64 0⟩),
 (9,⟨.string,1,16,.string ⟨#[]⟩⟩)]
def tab:Tab:=z732 tabL
theorem inf3:(prog.info? 3).map (fun j=>(j.zero,j.size,j.bytes))=some (some (.int .i64 0),1,8):=by kernel_rfl
theorem inf28:(prog.info? 28).map (fun j=>(j.zero,j.size,j.bytes))=some (some (.slice none 0 0),1,24):=by kernel_rfl
theorem inf33:(prog.info? 33).map (fun j=>(j.zero,j.size,j.bytes))=some (some (.agg #[.int .i64 0,.int .i64 0,.slice none 0 0]),3,40):=by kernel_rfl
theorem inf47:(prog.info? 47).map (fun j=>(j.zero,j.size,j.bytes))=some (some (.agg #[.slice none 0 0,.slice none 0 0,.slice none 0 0]),3,72):=by kernel_rfl
theorem inf31:(prog.info? 31).map (fun j=>(j.zero,j.size,j.bytes))=some (some (.slice none 0 0),1,24):=by kernel_rfl
theorem inf44:(prog.info? 44).map (fun j=>(j.zero,j.size,j.bytes))=some (some (.slice none 0 0),1,24):=by kernel_rfl
theorem inf26:(prog.info? 26).map (fun j=>(j.zero,j.size,j.bytes))=some (some (.agg #[.slice none 0 0,.slice none 0 0]),2,48):=by kernel_rfl
theorem inf102:(prog.info? 102).map (fun j=>(j.zero,j.size,j.bytes))=some (some (.agg #[.int .i64 0,.int .i64 0,.slice none 0 0]),3,40):=by kernel_rfl
theorem inf45:(prog.info? 45).map (fun j=>(j.zero,j.size,j.bytes))=some (some (.slice none 0 0),1,24):=by kernel_rfl
theorem inf24:(prog.info? 24).map (fun j=>(j.zero,j.size,j.bytes))=some (some (.slice none 0 0),1,24):=by kernel_rfl
theorem inf91:(prog.info? 91).map (fun j=>(j.zero,j.size,j.bytes))=some (some (.agg #[.int .i64 0,.int .i64 0,.int .i64 0,.int .i64 0]),4,32):=by kernel_rfl
theorem inf23:(prog.info? 23).map (fun j=>(j.zero,j.size,j.bytes))=some (some (.slice none 0 0),1,24):=by kernel_rfl
theorem inf76:(prog.info? 76).map (fun j=>(j.zero,j.size,j.bytes))=some (some (.agg #[.slice none 0 0,.slice none 0 0]),2,48):=by kernel_rfl
theorem inf27:(prog.info? 27).map (fun j=>(j.zero,j.size,j.bytes))=some (some (.slice none 0 0),1,24):=by kernel_rfl
theorem inf4:(prog.info? 4).map (fun j=>(j.zero,j.size,j.bytes))=some (some (.bool false),1,1):=by kernel_rfl
theorem inf160:(prog.info? 160).map (fun j=>(j.zero,j.size,j.bytes))=some (some (.agg #[.int .i64 0,.int .i64 0,.int .i64 0,.int .i64 0,.slice none 0 0,.int .i64 0,.int .i64 0,.int .i64 0,.slice none 0 0,.int .i64 0]),10,112):=by kernel_rfl
theorem inf203:(prog.info? 203).map (fun j=>(j.zero,j.size,j.bytes))=some (some (.int .u64 0),1,8):=by kernel_rfl
theorem inf106:(prog.info? 106).map (fun j=>(j.zero,j.size,j.bytes))=some (some (.slice none 0 0),1,24):=by kernel_rfl
theorem inf108:(prog.info? 108).map (fun j=>(j.zero,j.size,j.bytes))=some (some (.agg #[.slice none 0 0,.slice none 0 0]),2,48):=by kernel_rfl
theorem inf40:(prog.info? 40).map (fun j=>(j.zero,j.size,j.bytes))=some (some (.agg #[.slice none 0 0,.slice none 0 0]),2,48):=by kernel_rfl
theorem inf156:(prog.info? 156).map (fun j=>(j.zero,j.size,j.bytes))=some (some (.slice none 0 0),1,24):=by kernel_rfl
theorem inf201:(prog.info? 201).map (fun j=>(j.zero,j.size,j.bytes))=some (some (.slice none 0 0),1,24):=by kernel_rfl
theorem inf158:(prog.info? 158).map (fun j=>(j.zero,j.size,j.bytes))=some (some (.agg #[.int .i64 0,.slice none 0 0]),2,32):=by kernel_rfl
theorem inf22:(prog.info? 22).map (fun j=>(j.zero,j.size,j.bytes))=some (some (.slice none 0 0),1,24):=by kernel_rfl
theorem inf182:(prog.info? 182).map (fun j=>(j.zero,j.size,j.bytes))=some (some (.slice none 0 0),1,24):=by kernel_rfl
theorem inf248:(prog.info? 248).map (fun j=>(j.zero,j.size,j.bytes))=some (some (.int .u64 0),1,8):=by kernel_rfl
theorem inf184:(prog.info? 184).map (fun j=>(j.zero,j.size,j.bytes))=some (some (.agg #[.int .i64 0,.int .i64 0]),2,16):=by kernel_rfl
theorem inf150:(prog.info? 150).map (fun j=>(j.zero,j.size,j.bytes))=some (some (.slice none 0 0),1,24):=by kernel_rfl
theorem inf99:(prog.info? 99).map (fun j=>(j.zero,j.size,j.bytes))=some (some (.agg #[.slice none 0 0,.int .i64 0]),2,32):=by kernel_rfl
theorem inf169:(prog.info? 169).map (fun j=>(j.zero,j.size,j.bytes))=some (some (.int .u64 0),1,8):=by kernel_rfl
theorem inf181:(prog.info? 181).map (fun j=>(j.zero,j.size,j.bytes))=some (some (.agg #[.slice none 0 0,.slice none 0 0]),2,48):=by kernel_rfl
theorem inf136:(prog.info? 136).map (fun j=>(j.zero,j.size,j.bytes))=some (some (.slice none 0 0),1,24):=by kernel_rfl
theorem inf5:(prog.info? 5).map (fun j=>(j.zero,j.size,j.bytes))=some (some (.int .u8 0),1,1):=by kernel_rfl
theorem inf154:(prog.info? 154).map (fun j=>(j.zero,j.size,j.bytes))=some (some (.agg #[.int .i64 0,.int .i64 0,.int .i64 0,.int .i64 0]),4,32):=by kernel_rfl
theorem inf243:(prog.info? 243).map (fun j=>(j.zero,j.size,j.bytes))=some (some (.slice none 0 0),1,24):=by kernel_rfl
theorem inf143:(prog.info? 143).map (fun j=>(j.zero,j.size,j.bytes))=some (some (.slice none 0 0),1,24):=by kernel_rfl
theorem inf179:(prog.info? 179).map (fun j=>(j.zero,j.size,j.bytes))=some (some (.pointer none),1,8):=by kernel_rfl
theorem inf234:(prog.info? 234).map (fun j=>(j.zero,j.size,j.bytes))=some (some (.map none),1,8):=by kernel_rfl
theorem inf238:(prog.info? 238).map (fun j=>(j.zero,j.size,j.bytes))=some (some (.agg #[.int .i64 0,.int .i64 0,.int .i64 0,.int .i64 0]),4,32):=by kernel_rfl
theorem inf222:(prog.info? 222).map (fun j=>(j.zero,j.size,j.bytes))=some (some (.int .u32 0),1,4):=by kernel_rfl
theorem inf175:(prog.info? 175).map (fun j=>(j.zero,j.size,j.bytes))=some (some (.pointer none),1,8):=by kernel_rfl
theorem inf236:(prog.info? 236).map (fun j=>(j.zero,j.size,j.bytes))=some (some (.slice none 0 0),1,24):=by kernel_rfl
theorem inf245:(prog.info? 245).map (fun j=>(j.zero,j.size,j.bytes))=some (some (.map none),1,8):=by kernel_rfl
theorem inf244:(prog.info? 244).map (fun j=>(j.zero,j.size,j.bytes))=some (some (.agg #[.int .u64 0,.int .u64 0,.int .u64 0,.int .u64 0,.int .u64 0,.int .u64 0,.int .u64 0,.int .u64 0]),8,64):=by kernel_rfl
theorem inf208:(prog.info? 208).map (fun j=>(j.zero,j.size,j.bytes))=some (some (.nilFunc),1,8):=by kernel_rfl
theorem inf262:(prog.info? 262).map (fun j=>(j.zero,j.size,j.bytes))=some (some (.nilFunc),1,8):=by kernel_rfl
theorem inf204:(prog.info? 204).map (fun j=>(j.zero,j.size,j.bytes))=some (some (.map none),1,8):=by kernel_rfl
theorem inf215:(prog.info? 215).map (fun j=>(j.zero,j.size,j.bytes))=some (some (.int .i64 0),1,8):=by kernel_rfl
theorem inf9:(prog.info? 9).map (fun j=>(j.zero,j.size,j.bytes))=some (some (.string ⟨#[]⟩),1,16):=by kernel_rfl
theorem z24:z135 prog tab:=tabOk_of (⟨z66 underlying3 inf3,⟨z66 underlying28 inf28,⟨z66 underlying33 inf33,⟨z66 underlying47 inf47,⟨z66 underlying31 inf31,⟨z66 underlying44 inf44,⟨z66 underlying26 inf26,⟨z66 underlying102 inf102,⟨z66 underlying45 inf45,⟨z66 underlying24 inf24,⟨z66 underlying91 inf91,⟨z66 underlying23 inf23,⟨z66 underlying76 inf76,⟨z66 underlying27 inf27,⟨z66 underlying4 inf4,⟨z66 underlying160 inf160,⟨z66 underlying203 inf203,⟨z66 underlying106 inf106,⟨z66 underlying108 inf108,⟨z66 underlying40 inf40,⟨z66 underlying156 inf156,⟨z66 underlying201 inf201,⟨z66 underlying158 inf158,⟨z66 underlying22 inf22,⟨z66 underlying182 inf182,⟨z66 underlying248 inf248,⟨z66 underlying184 inf184,⟨z66 underlying150 inf150,⟨z66 underlying99 inf99,⟨z66 underlying169 inf169,⟨z66 underlying181 inf181,⟨z66 underlying136 inf136,⟨z66 underlying5 inf5,⟨z66 underlying154 inf154,⟨z66 underlying243 inf243,⟨z66 underlying143 inf143,⟨z66 underlying179 inf179,⟨z66 underlying234 inf234,⟨z66 underlying238 inf238,⟨z66 underlying222 inf222,⟨z66 underlying175 inf175,⟨z66 underlying236 inf236,⟨z66 underlying245 inf245,⟨z66 underlying244 inf244,⟨z66 underlying208 inf208,⟨z66 underlying262 inf262,⟨z66 underlying204 inf204,⟨z66 underlying215 inf215,⟨z66 underlying9 inf9,trivial⟩⟩⟩⟩⟩⟩⟩⟩⟩⟩⟩⟩⟩⟩⟩⟩⟩⟩⟩⟩⟩⟩⟩⟩⟩⟩⟩⟩⟩⟩⟩⟩⟩⟩⟩⟩⟩⟩⟩⟩⟩⟩⟩⟩⟩⟩⟩⟩⟩)
end Go.Proofs.YteinbnahinpegaaGreat
namespace Go.Proofs.YteinbnahinpegaaGreat
open Go.Gl Proofs.Tryz
attribute [local irreducible] z18 RetS z42
def enI (n:Int):List AC:=[.int n]
def ints (l:List Int):AC:=.list 1 l.length (l.map enI)
theorem ok:Ok prog tab:=⟨z24,by kernel_rfl⟩
structure State where
 a:List Int
 b:List Int
 deriving DecidableEq
def State.cs (s:State):List AC:=[ints s.a,ints s.b]
def State.mx (s:State):Prop:=s.a.length≤maxLen∧s.b.length≤maxLen
def State.sz (s:State):Nat:=s.a.length+s.b.length
def lst {α:Type} (w:Nat) (e:α→List AC) (l:List α):AC:=.list w l.length (l.map e)
def tot {α:Type} (f:α→Nat) (l:List α):Nat:=l.length+(l.map f).sum
theorem z844 {α:Type} (f:α→Nat) (l:List α) (k:Nat):((l.take k).map f).sum≤(l.map f).sum:=by
 conv=>rhs;rw [← List.take_append_drop k l,y61,List.sum_append]
 omega
def State.mxs (l:List State):Prop:=l.length≤maxLen∧∀ s∈l,s.mx
def State.small (s:State):Prop:=s.a.length≤1048576∧s.b.length≤1048576
theorem State.unown (s:State):∀ x∈s.cs,x.unown=x:=fun x hx=>by
 simp only [State.cs,List.mem_cons,List.not_mem_nil,or_false] at hx
 rcases hx with rfl|rfl<;>rfl
def z61 {α:Type} (e:α→List AC) (a:α):AC:=.agg (e a)
theorem Tree.unown (t:Tree):∀ x∈Tree.cs' t,x.unown=x:=fun x hx=>by
 simp only [Tree.cs',List.mem_cons,List.not_mem_nil,or_false] at hx
 rcases hx with rfl|rfl|rfl<;>rfl
def encL (l:List Int):List AC:=[ints l]
structure Graph where
 st:List State
 nx:List (List Int)
 deriving DecidableEq
def Graph.a1 (g:Graph):AC:=lst 2 State.cs g.st
def Graph.a2 (g:Graph):AC:=lst 1 encL g.nx
def Graph.cs (g:Graph):List AC:=[lst 2 State.cs g.st,lst 1 encL g.nx]
def Graph.s1 (g:Graph):Nat:=tot State.sz g.st
def Graph.s2 (g:Graph):Nat:=tot List.length g.nx
def enB (b:Bool):List AC:=[.bool b]
structure Trans where
 src:Int
 care:Int
 val:Int
 dst:Int
 deriving DecidableEq
def Trans.cs (t:Trans):List AC:=[.int t.src,.int t.care,.int t.val,.int t.dst]
theorem Trans.unown (t:Trans):∀ x∈t.cs,x.unown=x:=fun x hx=>by
 simp only [Trans.cs,List.mem_cons,List.not_mem_nil,or_false] at hx
 rcases hx with rfl|rfl|rfl|rfl<;>rfl
structure Aut where
 ini:List Int
 acc:List Bool
 ed:List Trans
 deriving DecidableEq
def Aut.a1 (a:Aut):AC:=lst 1 enI a.ini
def Aut.a2 (a:Aut):AC:=lst 1 enB a.acc
def Aut.a3 (a:Aut):AC:=lst 4 Trans.cs a.ed
def Aut.cs (a:Aut):List AC:=[lst 1 enI a.ini,lst 1 enB a.acc,lst 4 Trans.cs a.ed]
def Aut.s1 (a:Aut):Nat:=a.ini.length
def Aut.s2 (a:Aut):Nat:=a.acc.length
def Aut.s3 (a:Aut):Nat:=a.ed.length
structure Cert where
 ranks:List Int
 deriving DecidableEq
def Cert.a1 (a:Cert):AC:=lst 1 enI a.ranks
def Cert.cs (a:Cert):List AC:=[lst 1 enI a.ranks]
def Cert.s1 (a:Cert):Nat:=a.ranks.length
end Go.Proofs.YteinbnahinpegaaGreat
namespace Go.Proofs.YteinbnahinpegaaGreat
open Go.Gl Proofs.Tryz
attribute [local irreducible] z18 AWP z38 z41 z40 RetS z42
def btw (n lo hi:Int):Bool:=decide (lo≤n) && decide (n≤hi)
theorem z150 {n lo hi:Int} : btw n lo hi=true↔lo≤n∧n≤hi:=by simp [btw]
theorem z475 {n lo hi:Int} : btw n lo hi=false↔¬(lo≤n∧n≤hi):=by rw [← z150];simp
theorem z558 (n lo hi:Int):QQ 86 [.int n,.int lo,.int hi] [] (.bool (btw n lo hi)) []:=by
 refine z16 z24 func86 rfl rfl 15 ntmps86 (by simp) ?_
 repeat' (first|apply y6 ok;rfl;conv=>whnf|apply z7<;>intro _<;>conv=>whnf)
 all_goals (refine z34 rfl ?_;(unfold btw;simp [*];done))
def idxF {α:Type} (p:α→Bool) (l:List α):Int:=match l.findIdx? p with
 |some i=>i
 |none=>-1
theorem z231 {α:Type} {p:α→Bool} {l:List α} {i:Nat} (hi:i < l.length) (h:p l[i]=true) (hn:∀ j (hj:j < l.length),j < i→p l[j]=false):idxF p l=i:=by
 have:l.findIdx? p=some i:=List.findIdx?_eq_some_iff_getElem.2 ⟨hi,h,fun j hj=>by simp [hn j (by omega) hj]⟩
 simp [idxF,this]
theorem z232 {α:Type} {p:α→Bool} {l:List α} (hn:∀ j (hj:j < l.length),p l[j]=false):idxF p l=-1:=by
 have:l.findIdx? p=none:=List.findIdx?_eq_none_iff.2 fun x hx=>by
  obtain ⟨i,hi,rfl⟩:=List.mem_iff_getElem.1 hx
  exact hn i hi
 simp [idxF,this]
theorem z287 {α:Type} (p:α→Bool) (l:List α):decide (0≤idxF p l)=l.any p:=by
 unfold idxF
 split
 ·rename_i i e
  obtain ⟨h,hp,_⟩:=List.findIdx?_eq_some_iff_getElem.1 e
  have:l.any p=true:=List.any_eq_true.2 ⟨_,y41 h,hp⟩
  rw [this]
  simp
 ·rename_i e
  have:=List.findIdx?_eq_none_iff.1 e
  have:l.any p=false:=List.any_eq_false.2 fun x hx=>by simp [this x hx]
  rw [this]
  simp
theorem z697 (l:List Int) (hl:l.length≤maxLen) (p:Int→Bool) (f:FuncId) (hf:∀ x∈l,QQ f [.int x] [] (.bool (p x)) []):QQ 192 [lst 1 enI l,.fn (.func f) [] []] [] (.int (idxF p l)) []:=by
 unfold maxLen at hl
 refine z16 z24 func192 rfl rfl 19 ntmps192 (by simp) ?_
 repeat' ((apply y6 ok;rfl;conv=>whnf))
 refine z111 (fun k:Nat=>([(0,lst 1 enI l),(1,.fn (.func f) [] []),(7,.int l.length),(8,.int k)],[])) (fun k=>k≤l.length∧∀ j (hj:j < l.length),j < k→p l[j]=false) (fun k=>l.length - k) 0 (by simp)
  ⟨[],rfl,by decide,rfl,⟨⟨rfl,rfl⟩,⟨rfl,rfl⟩,⟨rfl,rfl⟩,⟨rfl,rfl⟩,trivial⟩,trivial⟩ ?_
 intro k hk
 repeat' (first|apply y6 ok;rfl;conv=>whnf|apply y40;(first|omega|unfold inI;omega);conv=>whnf|with_reducible apply z13;omega;intro _;conv=>whnf|apply z7<;>intro _<;>conv=>whnf|apply z83<;>intro _<;>conv=>whnf|apply z8 (hf l[k] (y41 _));rfl;rfl;conv=>whnf)
 ·rename_i h h1
  exact z67 rfl rfl (by rw [z231 (by omega) h1 hk.2];rfl)
 ·rename_i h h1
  refine z92 (k+1) [] ⟨by omega,fun j hj hjk=>?_⟩ (by omega) ⟨rfl,by decide,rfl,⟨⟨rfl,rfl⟩,⟨rfl,rfl⟩,⟨rfl,rfl⟩,⟨rfl,rfl⟩,trivial⟩,trivial⟩
  rcases y67 j k with h2|h2
  ·exact hk.2 j hj h2
  ·obtain rfl:j=k:=by omega
   exact h1
 ·exact z67 rfl rfl (by rw [z232 fun j hj=>hk.2 j hj (by omega)];rfl)
theorem z485 (l:List Int) (hl:l.length≤maxLen) (p:Int→Bool) (f:FuncId) (hf:∀ x∈l,QQ f [.int x] [] (.bool (p x)) []):QQ 136 [lst 1 enI l,.fn (.func f) [] []] [] (.bool (l.any p)) []:=by
 refine z16 z24 func136 rfl rfl 9 ntmps136 (by simp) ?_
 repeat' (first|apply y6 ok;rfl;conv=>whnf|apply z8 (z697 l hl p f hf);rfl;rfl;conv=>whnf)
 exact z34 rfl (by rw [← z287])
theorem z990 (n:Int):QQ 137 [.int n] [] (.bool (!btw n 0 3)) []:=by
 refine z16 z24 func137 rfl rfl 6 ntmps137 (by simp) ?_
 repeat' (first|apply y6 ok;rfl;conv=>whnf|apply z8 (z558 n 0 3);rfl;rfl;conv=>whnf)
 exact z34 rfl rfl
def z438 (l:List Int):Bool:=decide ((l.length:Int)=3) && !(l.any fun n=>!btw n 0 3)
theorem z1087 (l:List Int) (hl:l.length≤maxLen):QQ 89 [ints l] [] (.bool (z438 l)) []:=by
 have hl':=hl
 unfold maxLen at hl'
 have hk:=z485 l hl (fun n=>!btw n 0 3) 137 (fun x _=>z990 x)
 refine z16 z24 func89 rfl rfl 11 ntmps89 (by simp) ?_
 repeat' (first|apply y6 ok;rfl;conv=>whnf|apply z7<;>intro _<;>conv=>whnf|apply z8 hk;rfl;rfl;conv=>whnf)
 all_goals (refine z34 rfl ?_;(unfold z438;simp [*];done))
end Go.Proofs.YteinbnahinpegaaGreat
namespace Go.Proofs.YteinbnahinpegaaGreat
open Go.Gl Proofs.Tryz
attribute [local irreducible] z18 z921 z512 RetS z42
theorem z556 (l:List State) (hl:l.length≤maxLen) (p:State→Bool) (f:FuncId) (hf:∀ x∈l,QQ f [z61 State.cs x] [] (.bool (p x)) []):QQ 135 [lst 2 State.cs l,.fn (.func f) [] []] [] (.int (idxF p l)) []:=by
 unfold maxLen at hl
 refine z16 z24 func135 rfl rfl 19 ntmps135 (by simp) ?_
 repeat' (((apply y6 ok;rfl))<;>conv=>whnf)
 refine z111 (fun k:Nat=>([(0,lst 2 State.cs l),(1,.fn (.func f) [] []),(7,.int l.length),(8,.int k)],[])) (fun k=>k≤l.length∧∀ j (hj:j < l.length),j < k→p l[j]=false) (fun k=>l.length - k) 0 (by simp)
  ⟨[],rfl,by decide,rfl,⟨⟨rfl,rfl⟩,⟨rfl,rfl⟩,⟨rfl,rfl⟩,⟨rfl,rfl⟩,trivial⟩,trivial⟩ ?_
 intro k hk
 repeat' ((first|apply y6 ok;rfl|(apply y40;first|omega|unfold inI;omega)|((with_reducible apply z13;omega));intro _|(first|apply z7|apply z83)<;>intro _|apply z8 (hf l[k] (y41 _));rfl;rfl)<;>conv=>whnf)
 ·rename_i h h1
  exact z67 rfl rfl (by rw [z231 (by omega) h1 hk.2];rfl)
 ·rename_i h h1
  refine z92 (k+1) [] ⟨by omega,fun j hj hjk=>?_⟩ (by omega) ⟨rfl,by decide,rfl,⟨⟨rfl,rfl⟩,⟨rfl,rfl⟩,⟨rfl,rfl⟩,⟨rfl,rfl⟩,trivial⟩,trivial⟩
  rcases y67 j k with h2|h2
  ·exact hk.2 j hj h2
  ·obtain rfl:j=k:=by omega
   exact h1
 ·exact z67 rfl rfl (by rw [z232 fun j hj=>hk.2 j hj (by omega)];rfl)
theorem z425 (l:List State) (hl:l.length≤maxLen) (p:State→Bool) (f:FuncId) (hf:∀ x∈l,QQ f [z61 State.cs x] [] (.bool (p x)) []):QQ 87 [lst 2 State.cs l,.fn (.func f) [] []] [] (.bool (l.any p)) []:=by
 refine z16 z24 func87 rfl rfl 9 ntmps87 (by simp) ?_
 repeat' ((first|apply y6 ok;rfl|apply z8 (z556 l hl p f hf);rfl;rfl)<;>conv=>whnf)
 exact z34 rfl (by rw [← z287])
theorem z601 (l:List Tree) (hl:l.length≤maxLen) (p:Tree→Bool) (f:FuncId) (hf:∀ x∈l,QQ f [z61 Tree.cs' x] [] (.bool (p x)) []):QQ 126 [lst 3 Tree.cs' l,.fn (.func f) [] []] [] (.int (idxF p l)) []:=by
 unfold maxLen at hl
 refine z16 z24 func126 rfl rfl 19 ntmps126 (by simp) ?_
 repeat' (((apply y6 ok;rfl))<;>conv=>whnf)
 refine z111 (fun k:Nat=>([(0,lst 3 Tree.cs' l),(1,.fn (.func f) [] []),(7,.int l.length),(8,.int k)],[])) (fun k=>k≤l.length∧∀ j (hj:j < l.length),j < k→p l[j]=false) (fun k=>l.length - k) 0 (by simp)
  ⟨[],rfl,by decide,rfl,⟨⟨rfl,rfl⟩,⟨rfl,rfl⟩,⟨rfl,rfl⟩,⟨rfl,rfl⟩,trivial⟩,trivial⟩ ?_
 intro k hk
 repeat' ((first|apply y6 ok;rfl|(apply y40;first|omega|unfold inI;omega)|((with_reducible apply z13;omega));intro _|(first|apply z7|apply z83)<;>intro _|apply z8 (hf l[k] (y41 _));rfl;rfl)<;>conv=>whnf)
 ·rename_i h h1
  exact z67 rfl rfl (by rw [z231 (by omega) h1 hk.2];rfl)
 ·rename_i h h1
  refine z92 (k+1) [] ⟨by omega,fun j hj hjk=>?_⟩ (by omega) ⟨rfl,by decide,rfl,⟨⟨rfl,rfl⟩,⟨rfl,rfl⟩,⟨rfl,rfl⟩,⟨rfl,rfl⟩,trivial⟩,trivial⟩
  rcases y67 j k with h2|h2
  ·exact hk.2 j hj h2
  ·obtain rfl:j=k:=by omega
   exact h1
 ·exact z67 rfl rfl (by rw [z232 fun j hj=>hk.2 j hj (by omega)];rfl)
theorem z456 (l:List Tree) (hl:l.length≤maxLen) (p:Tree→Bool) (f:FuncId) (hf:∀ x∈l,QQ f [z61 Tree.cs' x] [] (.bool (p x)) []):QQ 73 [lst 3 Tree.cs' l,.fn (.func f) [] []] [] (.bool (l.any p)) []:=by
 refine z16 z24 func73 rfl rfl 9 ntmps73 (by simp) ?_
 repeat' ((first|apply y6 ok;rfl|apply z8 (z601 l hl p f hf);rfl;rfl)<;>conv=>whnf)
 exact z34 rfl (by rw [← z287])
theorem z557 (c:Int) (l:List (List Int)) (hl:l.length≤maxLen) (p:(List Int)→Bool) (f:FuncId) (hf:∀ x∈l,QQ f [ints x,.pt [.int c]] [] (.bool (p x)) []):QQ 138 [lst 1 encL l,.fn (.func f) [] [.pt [.int c]]] [] (.int (idxF p l)) []:=by
 unfold maxLen at hl
 refine z16 z24 func138 rfl rfl 19 ntmps138 (by simp) ?_
 repeat' (((apply y6 ok;rfl))<;>conv=>whnf)
 refine z111 (fun k:Nat=>([(0,lst 1 encL l),(1,.fn (.func f) [] [.pt [.int c]]),(7,.int l.length),(8,.int k)],[])) (fun k=>k≤l.length∧∀ j (hj:j < l.length),j < k→p l[j]=false) (fun k=>l.length - k) 0 (by simp)
  ⟨[],rfl,by decide,rfl,⟨⟨rfl,rfl⟩,⟨rfl,rfl⟩,⟨rfl,rfl⟩,⟨rfl,rfl⟩,trivial⟩,trivial⟩ ?_
 intro k hk
 repeat' ((first|apply y6 ok;rfl|(apply y40;first|omega|unfold inI;omega)|((with_reducible apply z13;omega));intro _|(first|apply z7|apply z83)<;>intro _|apply z8 (hf l[k] (y41 _));rfl;rfl)<;>conv=>whnf)
 ·rename_i h h1
  exact z67 rfl rfl (by rw [z231 (by omega) h1 hk.2];rfl)
 ·rename_i h h1
  refine z92 (k+1) [] ⟨by omega,fun j hj hjk=>?_⟩ (by omega) ⟨rfl,by decide,rfl,⟨⟨rfl,rfl⟩,⟨rfl,rfl⟩,⟨rfl,rfl⟩,⟨rfl,rfl⟩,trivial⟩,trivial⟩
  rcases y67 j k with h2|h2
  ·exact hk.2 j hj h2
  ·obtain rfl:j=k:=by omega
   exact h1
 ·exact z67 rfl rfl (by rw [z232 fun j hj=>hk.2 j hj (by omega)];rfl)
theorem z426 (c:Int) (l:List (List Int)) (hl:l.length≤maxLen) (p:(List Int)→Bool) (f:FuncId) (hf:∀ x∈l,QQ f [ints x,.pt [.int c]] [] (.bool (p x)) []):QQ 90 [lst 1 encL l,.fn (.func f) [] [.pt [.int c]]] [] (.bool (l.any p)) []:=by
 refine z16 z24 func90 rfl rfl 9 ntmps90 (by simp) ?_
 repeat' ((first|apply y6 ok;rfl|apply z8 (z557 c l hl p f hf);rfl;rfl)<;>conv=>whnf)
 exact z34 rfl (by rw [← z287])
end Go.Proofs.YteinbnahinpegaaGreat
namespace Go.Proofs.YteinbnahinpegaaGreat
open Go.Gl Proofs.Tryz
attribute [local irreducible] z18 AWP z38 z41 z40 RetS z42
theorem z894 (l:List Int) (hl:l.length≤maxLen) (v:Int):QQ 29 [ints l,.int v] [] (.int (idxF (fun x=>decide (v=x)) l)) []:=by
 unfold maxLen at hl
 refine z16 z24 func29 rfl rfl 19 ntmps29 (by simp) ?_
 repeat' (((apply y6 ok;rfl))<;>conv=>whnf)
 refine z111 (fun k:Nat=>([(0,ints l),(1,.int v),(7,.int l.length),(8,.int k)],[])) (fun k=>k≤l.length∧∀ j (hj:j < l.length),j < k→decide (v=l[j])=false) (fun k=>l.length - k) 0 (by simp)
  ⟨[],rfl,by decide,rfl,⟨⟨rfl,rfl⟩,⟨rfl,rfl⟩,⟨rfl,rfl⟩,⟨rfl,rfl⟩,trivial⟩,trivial⟩ ?_
 intro k hk
 repeat' ((first|apply y6 ok;rfl|(apply y40;first|omega|unfold inI;omega)|((with_reducible apply z13;omega));intro _|apply z7<;>intro _)<;>conv=>whnf)
 ·rename_i h h1
  exact z67 rfl rfl (by rw [z231 (p:=fun x=>decide (v=x)) (by omega) (y79 h1) hk.2];rfl)
 ·rename_i h h1
  refine z92 (k+1) [] ⟨by omega,fun j hj hjk=>?_⟩ (by omega) ⟨rfl,by decide,rfl,⟨⟨rfl,rfl⟩,⟨rfl,rfl⟩,⟨rfl,rfl⟩,⟨rfl,rfl⟩,trivial⟩,trivial⟩
  rcases y67 j k with h2|h2
  ·exact hk.2 j hj h2
  ·obtain rfl:j=k:=by omega
   exact y80 h1
 ·exact z67 rfl rfl (by rw [z232 (p:=fun x=>decide (v=x)) fun j hj=>hk.2 j hj (by omega)];rfl)
theorem z189 (l:List Int) (hl:l.length≤maxLen) (v:Int):QQ 35 [ints l,.int v] [] (.bool (decide (v∈l))) []:=by
 refine z16 z24 func35 rfl rfl 9 ntmps35 (by simp) ?_
 repeat' ((first|apply y6 ok;rfl|apply z8 (z894 l hl v);rfl;rfl)<;>conv=>whnf)
 have e:decide (v∈l)=l.any (fun x=>decide (v=x)):=by
  rw [Bool.eq_iff_iff];simp
 exact z34 rfl (by rw [e,← z287])
theorem z442 {α:Type} (w:Nat) (e:α→List AC) (l:List α) (k:Nat) (hk:k≤l.length):AC.list w ((k:Int).toNat - (0:Int).toNat) (((l.map e).drop (0:Int).toNat).take ((k:Int).toNat - (0:Int).toNat))=lst w e (l.take k):=by
 unfold lst
 rw [y45,List.map_take]
 simp only [y74,Int.toNat_zero,Nat.sub_zero,List.drop_zero]
 rw [Nat.min_eq_left hk]
def Distinct (l:List Int) (n:Int) (k:Nat):Prop:=∀ i (h:i < l.length),i < k→(0≤l[i]∧l[i]≤n - 1)∧l[i] ∉ l.take i
noncomputable instance {l:List Int} {n:Int} {k:Nat} : Decidable (Distinct l n k):=Classical.propDecidable _
theorem z903 (l:List Int) (hl:l.length≤maxLen) (n:Int) (h0:0≤n) (h1:n≤maxLen):QQ 92 [ints l,.int n] [] (.bool (decide (Distinct l n l.length))) []:=by
 have hl':=hl
 unfold maxLen at hl' h1
 refine z16 z24 func92 rfl rfl 27 ntmps92 (by simp) ?_
 repeat' (((apply y6 ok;rfl))<;>conv=>whnf)
 refine z111 (fun k:Nat=>([(0,ints l),(1,.int n),(7,ints l),(8,.int l.length),(9,.int k)],[])) (fun k=>k≤l.length∧Distinct l n k) (fun k=>l.length - k) 0 ⟨by omega,fun i h hi=>by omega⟩
  ⟨[],rfl,by decide,rfl,⟨⟨rfl,rfl⟩,⟨rfl,rfl⟩,⟨rfl,rfl⟩,⟨rfl,rfl⟩,⟨rfl,rfl⟩,trivial⟩,trivial⟩ ?_
 intro k hk
 repeat' ((first|apply y6 ok;rfl|(apply y40;first|omega|unfold inI;omega)|((with_reducible apply z13;omega));intro _|(first|apply z7|apply z82)<;>intro _|apply z8 (z558 l[k] 0 (n - 1));rfl;rfl)<;>conv=>whnf)
 ·rename_i hb
  refine z34 rfl (y80 fun hd=>?_)
  have:=(hd k ‹_› ‹_›).1
  rw [z475] at hb
  exact hb this
 ·rename_i hb
  apply z8 (z189 (l.take k) (by rw [y45];omega) l[k])
  ·show _=[AC.list 1 _ _,_]
   rw [show AC.list 1 (l.take k).length ((l.take k).map enI)=_ from (z442 1 enI l k hk.1).symm]
   rfl
  ·rfl
  conv=>whnf
  repeat' ((first|apply y6 ok;rfl|apply y40;(unfold inI;omega)|apply z7<;>intro _)<;>conv=>whnf)
  ·rename_i h2
   exact z34 rfl (y80 fun hd=>(hd k ‹_› ‹_›).2 h2)
  ·rename_i h2
   refine z92 (k+1) [] ⟨by omega,fun i hi hik=>?_⟩ (by omega) ⟨rfl,by decide,rfl,⟨⟨rfl,rfl⟩,⟨rfl,rfl⟩,⟨rfl,rfl⟩,⟨rfl,rfl⟩,⟨rfl,rfl⟩,trivial⟩,trivial⟩
   rcases y67 i k with h3|h3
   ·exact hk.2 i hi h3
   ·obtain rfl:i=k:=by omega
    exact ⟨z150.1 hb,h2⟩
 ·exact z34 rfl (y79 fun i h hi=>hk.2 i h (by omega))
theorem z603 (s:State) (hs:s.mx):QQ 88 [z61 State.cs s] [] (.bool (!z438 s.b)) []:=by
 refine z16 z24 func88 rfl rfl 7 ntmps88 (by simp) ?_
 repeat' (first|apply y6 ok;rfl;conv=>whnf|apply z8 (z1087 s.b hs.2);rfl;rfl;conv=>whnf)
 exact z34 rfl rfl
noncomputable def z845 (n:Int) (l:List Int):Bool:=!decide ((l.length:Int)=0) && decide (Distinct l n l.length)
theorem z602 (c:Int) (h0:0≤c) (h1:c≤maxLen) (l:List Int) (hl:l.length≤maxLen):QQ 91 [ints l,.pt [.int c]] [] (.bool (!z845 c l)) []:=by
 have hl':=hl
 unfold maxLen at hl'
 refine z16 z24 func91 rfl rfl 13 ntmps91 (by simp) ?_
 repeat' (first|apply y6 ok;rfl;conv=>whnf|apply z7<;>intro _<;>conv=>whnf|apply z8 (z903 l hl c h0 h1);rfl;rfl;conv=>whnf)
 all_goals (refine z34 rfl ?_;first|unfold z845;simp [*];done|unfold z845;simp_all;done)
def Graph.mx (g:Graph):Prop:=State.mxs g.st∧g.nx.length≤maxLen∧∀ l∈g.nx,l.length≤maxLen
noncomputable def z560 (g:Graph):Bool:=btw g.st.length 1 60 && (decide ((g.nx.length:Int)=g.st.length) && (!(g.st.any fun s=>!z438 s.b) && !(g.nx.any fun l=>!z845 g.st.length l)))
theorem z698 (g:Graph) (hg:g.mx):QQ 40 [.agg g.cs] [] (.bool (z560 g)) []:=by
 obtain ⟨hs,hn,hm⟩:=hg
 have hl1:=hs.1
 unfold maxLen at hl1
 have k1:=z425 g.st hs.1 (fun s=>!z438 s.b) 88 (fun s hx=>z603 s (hs.2 s hx))
 have k2:=z426 (g.st.length:Int) g.nx hn (fun l=>!z845 g.st.length l) 91 (fun l hx=>z602 _ (by omega) (by unfold maxLen;omega) l (hm l hx))
 refine z16 z24 func40 rfl rfl 29 ntmps40 (by simp) ?_
 repeat' (first|apply y6 ok;rfl;conv=>whnf|apply z7<;>intro _<;>conv=>whnf|apply z82<;>intro _<;>conv=>whnf|apply z83<;>intro _<;>conv=>whnf|apply z8 (z558 (g.st.length:Int) 1 60);rfl;rfl;conv=>whnf|apply z8 k1;rfl;rfl;conv=>whnf|apply z979 [1] k2;rfl;rfl;rfl;rfl;conv=>whnf)
 all_goals (refine z34 rfl ?_;(unfold z560;simp [*];done))
theorem z424 {d : Int} (l : List Tree) (hl : l.length ≤ maxLen) (p : Tree → Int → Bool) (nx : Tree → Int → Int) (okS : Int → Prop) (hok : ∀ x s, okS s → p x s = false → okS (nx x s)) (f : FuncId) (s : Int) (h0 : okS s)
    (hf:∀ x∈l,∀ s,okS s→QQ f [z61 Tree.cs' x,.pt [.int d],.ptr 1 none 0] [.cells 1 [[.int s]],.cells 1 [[.ptr 0 none 0]]] (.bool (p x s)) [.cells 1 [[.int (nx x s)]],.cells 1 [[.ptr 0 none 0]]]) :
    QQ 126 [lst 3 Tree.cs' l,.fn (.func f) [] [.pt [.int d],.ptr 1 none 0]] [.cells 1 [[.int s]],.cells 1 [[.ptr 0 none 0]]] (.int (idxS p nx l s 0).1) [.cells 1 [[.int (idxS p nx l s 0).2]],.cells 1 [[.ptr 0 none 0]]]:=by
  unfold maxLen at hl
  refine z16 z24 func126 rfl rfl 19 ntmps126 (by simp) ?_
  repeat' (((apply y6 ok;rfl))<;>conv=>whnf)
  refine z111 (fun x:Nat×Int=>([(0,lst 3 Tree.cs' l),(1,.fn (.func f) [] [.pt [.int d],.ptr 1 none 0]),(7,.int l.length),(8,.int x.1)],[.cells 1 [[.int x.2]],.cells 1 [[.ptr 0 none 0]]])) (fun x=>x.1≤l.length∧okS x.2∧idxS p nx l s 0=idxS p nx (l.drop x.1) x.2 x.1) (fun x=>l.length - x.1) (0,s) ⟨by omega,h0,rfl⟩
    ⟨[0,1],rfl,by decide,rfl,⟨⟨rfl,rfl⟩,⟨rfl,rfl⟩,⟨rfl,rfl⟩,⟨rfl,rfl⟩,trivial⟩,⟨z43 rfl rfl,z43 rfl rfl,trivial⟩⟩ ?_
  rintro ⟨k,t⟩ ⟨hk1,hk2,hk3⟩
  dsimp only at hk1 hk2 hk3
  repeat' ((first|apply y6 ok;rfl|(apply y40;first|omega|unfold inI;omega)|((with_reducible apply z13;omega));intro _|(first|apply z7|apply z83)<;>intro _|apply z31 [0,1] [] (hf l[k] (y41 _) t hk2);rfl;rfl;rfl)<;>conv=>whnf)
  · rename_i h hkl h1
    rw [y77 hkl,idxS,if_pos h1] at hk3
    rw [hk3]
    exact z117 [0,1] (by decide) rfl rfl rfl ⟨z43 rfl rfl,z43 rfl rfl,trivial⟩
  · rename_i h hkl h1
    rw [y77 hkl,idxS,if_neg (by rw [h1];simp)] at hk3
    exact z92 (k+1,nx l[k] t) [0,1] ⟨by dsimp only;omega,hok _ _ hk2 h1,hk3⟩ (by dsimp only;omega) ⟨rfl,by decide,rfl,⟨⟨rfl,rfl⟩,⟨rfl,rfl⟩,⟨rfl,rfl⟩,⟨rfl,rfl⟩,trivial⟩,⟨z43 rfl rfl,z43 rfl rfl,trivial⟩⟩
  · rw [y81 (by omega),idxS] at hk3
    rw [hk3]
    exact z117 [0,1] (by decide) rfl rfl rfl ⟨z43 rfl rfl,z43 rfl rfl,trivial⟩
theorem z608 {d : Int} (l : List Tree) (hl : l.length ≤ maxLen) (p : Tree → Int → Bool) (nx : Tree → Int → Int) (okS : Int → Prop) (hok : ∀ x s, okS s → p x s = false → okS (nx x s)) (f : FuncId) (s : Int) (h0 : okS s)
    (hf:∀ x∈l,∀ s,okS s→QQ f [z61 Tree.cs' x,.pt [.int d],.ptr 1 none 0] [.cells 1 [[.int s]],.cells 1 [[.ptr 0 none 0]]] (.bool (p x s)) [.cells 1 [[.int (nx x s)]],.cells 1 [[.ptr 0 none 0]]]) :
    QQ 73 [lst 3 Tree.cs' l,.fn (.func f) [] [.pt [.int d],.ptr 1 none 0]] [.cells 1 [[.int s]],.cells 1 [[.ptr 0 none 0]]] (.bool (decide (0≤(idxS p nx l s 0).1))) [.cells 1 [[.int (idxS p nx l s 0).2]],.cells 1 [[.ptr 0 none 0]]]:=by
  refine z16 z24 func73 rfl rfl 9 ntmps73 (by simp) ?_
  repeat' ((first|apply y6 ok;rfl|apply z31 [0,1] [] (z424 (d:=d) l hl p nx okS hok f s h0 hf);rfl;rfl;rfl)<;>conv=>whnf)
  exact z117 [0,1] (by decide) rfl rfl rfl ⟨z43 rfl rfl,z43 rfl rfl,trivial⟩
theorem walk_ok (t:Tree):t.mx→∀ d n:Int,0≤d→d≤100→0≤n→n≤15→QQ 176 [z61 Tree.cs' t,.int d,.ptr 0 none 0] [.cells 1 [[.int n]]] (.bool (t.walkE d n).2) [.cells 1 [[.int (t.walkE d n).1]]]:=by
  induction t using y27 with|h t ih=>?_
  intro hm d n hd0 hd1 h0 h1
  rw [y28] at hm
  have hs:=Tree.walkE_spec.1
  have hk:d≤6→n+1≤15→QQ 73 [lst 3 Tree.cs' t.kids,.fn (.func 217) [] [.pt [.int d],.ptr 1 none 0]] [.cells 1 [[.int (n+1)]],.cells 1 [[.ptr 0 none 0]]] (.bool (!(Tree.walkEs t.kids (d+1) (n+1)).2)) [.cells 1 [[.int (Tree.walkEs t.kids (d+1) (n+1)).1]],.cells 1 [[.ptr 0 none 0]]]:=by
    intro hd hn
    have h:=z608 (d:=d) t.kids hm.1 (fun x s=>!(x.walkE (d+1) s).2) (fun x s=>(x.walkE (d+1) s).1) (fun s=>0≤s∧s≤15) (fun x s h1 h2=>by
      obtain ⟨a1,a2,a3,a4⟩:=hs x (d+1) s h1.1 h1.2
      have h3:(x.walkE (d+1) s).2=true:=by simpa using h2
      have:=(a1.1 h3).2
      rw [← a2 h3] at this
      exact ⟨by omega,this⟩) 217 (n+1) ⟨by omega,by omega⟩ (fun x hx s h=>by
        have hc:=ih x hx (hm.2 x hx) (d+1) s (by omega) (by omega) h.1 h.2
        refine z16 z24 func217 rfl rfl 11 ntmps217 (by simp) ?_
        repeat' ((first|apply y6 ok;rfl|apply y40;(unfold inI;omega)|apply z31 [0] [] hc;rfl;rfl;rfl)<;>conv=>whnf)
        exact z117 [0,1] (by decide) rfl rfl rfl ⟨z43 rfl rfl,z43 rfl rfl,trivial⟩)
    rw [y38 (d+1) t.kids (n+1) 0,Bool.not_not]
    exact h
  have hk2:=fun h1 h2=>by
    have:=hk h1 h2
    unfold lst at this
    rw [← y18] at this
    exact this
  refine z16 z24 func176 rfl rfl 55 ntmps176 (by simp) ?_
  repeat' ((first|apply y6 ok;rfl|apply y40;(unfold inI;omega)|(first|apply z7|apply z35|apply z82)<;>intro _|apply z8 (z558 _ 1 9);rfl;rfl|apply z8 (z558 _ 0 3);rfl;rfl|apply z8 (z558 _ 0 2);rfl;rfl|apply z8 (z558 _ 0 0);rfl;rfl|apply z120 [0,3] [2] [] (hk2 (by omega) (by omega));rfl;rfl;rfl;(focus ((repeat' first|exact z23|apply z19)<;>exact z58 rfl rfl));((refine .inr ⟨rfl,?_⟩;repeat' first|exact True.intro|apply y40|exact rfl)))<;>conv=>whnf)
  all_goals first
    | (have e : t.walkE d n = (n + 1, false) := by
        rw [y37,if_neg]
        clear hk hk2 hs ih
        rintro ⟨c1,c2,c3,c4,c5⟩
        try simp only [z475,z150] at *
        unfold z450 at c4
        unfold z361 at c5
        grind
       rw [e]
       exact z117 [0] (by decide) rfl rfl rfl ⟨z43 rfl rfl,trivial⟩)
    | (have e : t.walkE d n = Tree.walkEs t.kids (d + 1) (n + 1) := by
        rw [y37,if_pos]
        clear hk hk2 hs ih
        try simp only [z475,z150] at *
        unfold z450 z361
        grind
       rw [e]
       refine z117 [0] (by decide) rfl rfl ?_ ⟨z43 rfl rfl,trivial⟩
       show AC.raw (.bool (!!_))=_
       rw [Bool.not_not];rfl)
theorem y16 (t:Tree):z61 Tree.cs' t=.agg [.int t.kind,.int t.val,lst 3 Tree.cs' t.kids]:=by
 simp only [z61,Tree.cs',lst,Tree.lst_eq]
theorem z803 (t:Tree) (hm:t.mx):QQ 127 [z61 Tree.cs' t] [] (.int (if t.exprB then t.count 6 else 0)) []:=by
 have hk:=walk_ok t hm 1 0 (by omega) (by omega) (by omega) (by omega)
 obtain ⟨_,h2,_,_⟩:=Tree.walkE_spec.1 t 1 0 (by omega) (by omega)
 refine z16 z24 func127 rfl rfl 8 ntmps127 (by simp) ?_
 repeat' ((first|apply y6 ok;rfl|apply z82<;>intro _|apply z31 [1] [] hk;rfl;rfl;rfl)<;>conv=>whnf)
 ·rename_i h
  exact z67 rfl rfl (by rw [if_neg (by unfold Tree.exprB;rw [h];simp)];rfl)
 ·rename_i h
  have e:=h2 h
  rw [Int.zero_add] at e
  exact z67 rfl rfl (by rw [if_pos (show t.exprB=true from h),show t.count 6=(t.walkE 1 0).1 from e.symm];rfl)
theorem z802 (t:Tree) (hm:t.mx):QQ 75 [z61 Tree.cs' t] [] (.bool t.exprB) []:=by
 refine z16 z24 func75 rfl rfl 6 ntmps75 (by simp) ?_
 repeat' ((first|apply y6 ok;rfl|apply z8 (z803 t hm);rfl;rfl)<;>conv=>whnf)
 refine z34 rfl ?_
 have:=Tree.count_pos.1 t 6
 cases t.exprB
 ·simp
 ·simp;omega
theorem z548 (t:Tree) (hm:t.mx):QQ 74 [z61 Tree.cs' t] [] (.bool (!t.exprB)) []:=by
 refine z16 z24 func74 rfl rfl 6 ntmps74 (by simp) ?_
 repeat' ((first|apply y6 ok;rfl|apply z8 (z802 t hm);rfl;rfl)<;>conv=>whnf)
 exact z34 rfl rfl
def z452 (l:List Tree):Bool:=decide ((l.length:Int)=3) && l.all Tree.exprB
theorem z596 (l:List Tree) (hl:l.length≤maxLen) (hm:∀ t∈l,t.mx):QQ 25 [lst 3 Tree.cs' l] [] (.bool (z452 l)) []:=by
 have hk:=z456 l hl (fun t=>!t.exprB) 74 (fun t ht=>z548 t (hm t ht))
 refine z16 z24 func25 rfl rfl 11 ntmps25 (by simp) ?_
 repeat' ((first|apply y6 ok;rfl|apply z7<;>intro _|apply z8 hk;rfl;rfl)<;>conv=>whnf)
 ·refine z34 rfl ?_
  rename_i h
  unfold z452
  rw [y79 h,List.all_eq_not_any_not];rfl
 ·refine z34 rfl ?_
  rename_i h
  unfold z452
  rw [y80 h];rfl
theorem z626 (k:Int):QQ 224 [.int k] [] (.int (z361 k)) []:=by
 refine z16 z24 func224 rfl rfl 15 ntmps224 (by simp) ?_
 repeat' ((first|apply y6 ok;rfl|apply z7<;>intro _)<;>conv=>whnf)
 all_goals (refine z67 rfl rfl ?_;unfold z361;first|rw [if_pos (by omega)];rfl|rw [if_neg (by omega),if_pos (by omega)];rfl|rw [if_neg (by omega),if_neg (by omega),if_pos (by omega)];rfl|rw [if_neg (by omega),if_neg (by omega),if_neg (by omega)];rfl)
theorem z1005 (l:List Tree) (d:Int):Tree.shapes l d=l.all (fun t=>t.shape d):=by
 induction l with
 |nil=>rfl
 |cons t l ih=>simp [Tree.shapes,ih]
theorem z488 (t:Tree) (d:Int):t.shape d=(decide (1≤d∧(t.kids.length:Int)=z361 t.kind∧0≤t.val∧t.val≤z450 t.kind) && t.kids.all fun t=>t.shape (d - 1)):=by
 cases t;simp only [Tree.shape,Tree.kids,Tree.kind,Tree.val,z1005];rfl
theorem z1036 (t:Tree):t.mx→∀ d:Int,-100≤d→d≤100→QQ 189 [z61 Tree.cs' t,.int d] [] (.bool (t.shape d)) []:=by
  induction t using y27 with|h t ih=>?_
  intro hm d h0 h1
  rw [y28] at hm
  have hl:=hm.1
  unfold maxLen at hl
  rw [y16,z488]
  refine z16 z24 func189 rfl rfl 49 ntmps189 (by simp) ?_
  repeat' ((first|apply y6 ok;rfl|apply z27;kernel_rfl|(first|apply z7|apply z35)<;>intro _|apply z8 (z626 _);rfl;rfl)<;>conv=>whnf)
  all_goals first
    | (refine z34 rfl ?_
       rw [y80]
       · rfl
       · clear ih
         rintro ⟨c1,c2,c3,c4⟩
         unfold z450 at c4
         grind)
    | (have hg : decide (1 ≤ d ∧ (t.kids.length : Int) = z361 t.kind ∧ 0 ≤ t.val ∧ t.val ≤ z450 t.kind) = true := by
         clear ih
         refine y79 ?_
         unfold z450
         grind
       rw [hg,Bool.true_and]
       refine z111 (fun k:Nat=>([(1,.int d),(2,.ptr 0 none 0),(6,.int k)],[.cells 3 [[.int t.kind,.int t.val,lst 3 Tree.cs' t.kids]]])) (fun k=>k≤t.kids.length∧(t.kids.all fun t=>t.shape (d - 1))=(t.kids.drop k).all fun t=>t.shape (d - 1)) (fun k=>t.kids.length - k) 0 ⟨by omega,rfl⟩ ⟨[0],rfl,by decide,rfl,by repeat' (first|exact True.intro|exact ⟨rfl,rfl⟩|apply y40),by repeat' (first|exact True.intro|exact z43 rfl rfl|apply y40)⟩ ?_
       intro k hk
       repeat' ((first|apply y6 ok;rfl|(apply y40;first|omega|unfold inI;omega)|((with_reducible apply z13;omega));intro _|(first|apply z7|apply z82)<;>intro _|apply z8 (ih t.kids[k] (y41 _) (hm.2 _ (y41 _)) (d - 1) (by omega) (by omega));rfl;rfl)<;>conv=>whnf)
       · rename_i h1
         exact z34 rfl (by rw [hk.2,z207 _ _ _ (by assumption)];simp [h1])
       · rename_i h1
         exact z92 (k+1) [0] ⟨by omega,by rw [hk.2,z207 _ _ _ (by assumption)];simp [h1]⟩ (by omega) ⟨rfl,by decide,rfl,by repeat' (first|exact True.intro|exact ⟨rfl,rfl⟩|apply y40),by repeat' (first|exact True.intro|exact z43 rfl rfl|apply y40)⟩
       · exact z34 rfl (by rw [hk.2,z195 _ _ _ (by omega)]))
theorem z501 (t:Tree) (d:Int):t.count d=if 0 < d then 1+(t.kids.map fun t=>t.count (d - 1)).sum else 1:=by
 have:∀ (l:List Tree) d,Tree.counts l d=(l.map fun t=>t.count d).sum:=by
  intro l d
  induction l with
  |nil=>rfl
  |cons t l ih=>simp [Tree.counts,ih]
 cases t;simp only [Tree.count,Tree.kids,this]
theorem count_le (t:Tree):∀ d n:Nat,t.shape d=true→t.count n≤2 ^ d - 1:=by
 induction t using y27 with|h t ih=>?_
 intro d n h
 rw [z488,y68,decide_eq_true_eq] at h
 obtain ⟨⟨h1,h2,_,_⟩,h3⟩:=h
 rw [y76] at h3
 obtain ⟨d,rfl⟩:∃ e,d=e+1:=⟨d - 1,by omega⟩
 have e:((d+1:Nat):Int) - 1=(d:Nat):=by omega
 rw [e] at h3
 rw [z501]
 have hp:(1:Int)≤2 ^ d:=by exact_mod_cast Nat.one_le_two_pow
 have hq:((2:Int) ^ (d+1))=2 * 2 ^ d:=by rw [Int.pow_succ];omega
 split
 ·rename_i hn
  obtain ⟨n,rfl⟩:∃ e,n=e+1:=⟨n - 1,by omega⟩
  have e:((n+1:Nat):Int) - 1=(n:Nat):=by omega
  rw [e]
  have hl:(t.kids.length:Int)≤2:=by rw [h2];unfold z361;grind
  have hk:∀ u∈t.kids,u.count n≤2 ^ d - 1:=fun u hu=>ih u hu d n (h3 u hu)
  match hkk:t.kids with
  |[]=>simp only [List.map_nil,List.sum_nil];omega
  |[a] =>
   have:=hk a (by simp [hkk])
   simp only [List.map_cons,List.map_nil,List.sum_cons,List.sum_nil];omega
  |[a,b] =>
   have:=hk a (by simp [hkk])
   have:=hk b (by simp [hkk])
   simp only [List.map_cons,List.map_nil,List.sum_cons,List.sum_nil];omega
  |a::b::c::r=>rw [hkk] at hl;simp only [y55] at hl;omega
 ·omega
theorem z487 (f:Tree→Int) (l:List Tree) (k:Nat) (hk:k < l.length):((l.take (k+1)).map f).sum=((l.take k).map f).sum+f l[k]:=by
 rw [y47 hk,y61,List.sum_append];simp
theorem z904 (t:Tree) (e d:Int) (he:e≤50) (hd:0≤d) (h:t.shape e=true):t.count d≤2 ^ 50:=by
 have h1:1≤e:=by
  rw [z488,y68,decide_eq_true_eq] at h;exact h.1.1
 obtain ⟨n,rfl⟩:=Int.eq_ofNat_of_zero_le (show 0≤e by omega)
 obtain ⟨m,rfl⟩:=Int.eq_ofNat_of_zero_le hd
 have h2:=count_le t n m h
 have h4:(2:Int) ^ n≤2 ^ 50:=by exact_mod_cast Nat.pow_le_pow_right (by omega) (by omega)
 omega
theorem z1037 (t:Tree):t.mx→∀ e d:Int,e≤50→0≤d→d≤50→t.shape e=true→QQ 190 [z61 Tree.cs' t,.int d] [] (.int (t.count d)) []:=by
 induction t using y27 with|h t ih=>?_
 intro hm e d h0 h1 h2 hs
 rw [y28] at hm
 rw [z488,y68,decide_eq_true_eq,y76] at hs
 obtain ⟨⟨hs1,hs2,_,_⟩,hs3⟩:=hs
 have hl:(t.kids.length:Int)≤2:=by rw [hs2];unfold z361;grind
 rw [y16,z501]
 have hb:0 < d→∀ k,k≤t.kids.length→0≤((t.kids.take k).map fun t=>t.count (d - 1)).sum∧((t.kids.take k).map fun t=>t.count (d - 1)).sum≤k * 2 ^ 50:=by
  intro hd k
  induction k with
  |zero=>intro _;simp
  |succ k ihk =>
   intro hk
   have h1:=ihk (by omega)
   rw [z487 _ _ _ (by omega)]
   have h2:=z904 t.kids[k] (e - 1) (d - 1) (by omega) (by omega) (hs3 _ (y41 _))
   have h3:=Tree.count_pos.1 t.kids[k] (d - 1)
   omega
 refine z16 z24 func190 rfl rfl 29 ntmps190 (by simp) ?_
 repeat' (((apply y6 ok;rfl))<;>conv=>whnf)
 by_cases hd:0 < d
 ·rw [if_pos hd]
  refine z111 (fun k:Nat=>([(1,.int d),(2,.ptr 0 none 0),(5,.int (1+((t.kids.take k).map fun t=>t.count (d - 1)).sum)),(6,.int k)],[.cells 3 [[.int t.kind,.int t.val,lst 3 Tree.cs' t.kids]]])) (fun k=>k≤t.kids.length) (fun k=>t.kids.length - k) 0 (by omega) ⟨[0],rfl,by decide,rfl,by repeat' (first|exact True.intro|exact ⟨rfl,rfl⟩|apply y40),by repeat' (first|exact True.intro|exact z43 rfl rfl|apply y40)⟩ ?_
  intro k hk
  have hbk:=hb hd k hk
  have hbk1:=fun h=>hb hd (k+1) h
  have hss:=fun h=>z487 (fun t=>t.count (d - 1)) t.kids k h
  repeat' ((first|apply y6 ok;rfl|(apply y40;first|omega|unfold inI;omega)|((with_reducible apply z13;omega));intro _|apply z7<;>intro _|apply z8 (ih t.kids[k] (y41 _) (hm.2 _ (y41 _)) (e - 1) (d - 1) (by omega) (by omega) (by omega) (hs3 _ (y41 _)));rfl;rfl)<;>conv=>whnf)
  ·have e1:=hss ‹_›
   have e2:=hbk1 (by omega)
   refine y40 (by unfold inI;omega) ?_
   conv=>whnf
   repeat' ((first|apply y6 ok;rfl|apply y40;(unfold inI;omega))<;>conv=>whnf)
   exact z92 (k+1) [0] (by omega) (by omega) ⟨rfl,by decide,rfl,⟨⟨rfl,rfl⟩,⟨rfl,rfl⟩,⟨rfl,by rw [e1,← Int.add_assoc];rfl⟩,⟨rfl,rfl⟩,trivial⟩,⟨z43 rfl rfl,trivial⟩⟩
  ·omega
  ·obtain rfl:k=t.kids.length:=by omega
   exact z67 rfl rfl (by rw [y53];rfl)
 ·rw [if_neg hd]
  refine z111 (fun k:Nat=>([(1,.int d),(2,.ptr 0 none 0),(5,.int 1),(6,.int k)],[.cells 3 [[.int t.kind,.int t.val,lst 3 Tree.cs' t.kids]]])) (fun k=>k≤t.kids.length) (fun k=>t.kids.length - k) 0 (by omega) ⟨[0],rfl,by decide,rfl,by repeat' (first|exact True.intro|exact ⟨rfl,rfl⟩|apply y40),by repeat' (first|exact True.intro|exact z43 rfl rfl|apply y40)⟩ ?_
  intro k hk
  repeat' ((first|apply y6 ok;rfl|apply y40;omega|((with_reducible apply z13;omega));intro _|apply z7<;>intro _)<;>conv=>whnf)
  ·omega
  ·exact z67 rfl rfl rfl
  ·exact z67 rfl rfl rfl
theorem z196 (t:Tree) (hm:t.mx):QQ 132 [z61 Tree.cs' t] [] (.bool t.exprB) []:=by
 rw [y20]
 refine z16 z24 func132 rfl rfl 10 ntmps132 (by simp) ?_
 repeat' ((first|apply y6 ok;rfl|apply z83<;>intro _|apply z8 (z1036 t hm 6 (by omega) (by omega));rfl;rfl|apply z8 (z1037 t hm 6 6 (by omega) (by omega) (by omega) (by assumption));rfl;rfl)<;>conv=>whnf)
 all_goals (refine z34 rfl ?_;(simp [*];done))
theorem z926 (b:Bool):QQ 188 [.bool b] [] (.int (b2i b)) []:=by
 refine z16 z24 func188 rfl rfl 4 ntmps188 (by simp) ?_
 repeat' ((first|apply y6 ok;rfl|apply z83<;>intro _)<;>conv=>whnf)
 all_goals (refine z67 rfl rfl ?_;simp only [*];rfl)
theorem z790 (b:Bool):QQ 225 [.bool b] [] (.int (b2i b)) []:=by
 refine z16 z24 func225 rfl rfl 4 ntmps225 (by simp) ?_
 repeat' ((first|apply y6 ok;rfl|apply z83<;>intro _)<;>conv=>whnf)
 all_goals (refine z67 rfl rfl ?_;simp only [*];rfl)
theorem z628 {t:Tree} (hg:t.good):(∃ x,t=.mk 1 x []∧0≤x∧x≤3)∨(∃ x,t=.mk 2 x []∧0≤x∧x≤2)∨(∃ x a,t=.mk 3 x [a]∧a.good)∨(∃ k x a b,t=.mk k x [a,b]∧4≤k∧k≤9∧a.good∧b.good):=by
 obtain ⟨g1,g2,g3,g4⟩:=y25 hg
 obtain ⟨k,x,l⟩:=t
 simp only [Tree.kind,Tree.val,Tree.kids] at *
 unfold z361 at g1
 unfold z450 at g3
 match l,g1,g4 with
 |[],g1,_ =>
  simp only [y56] at g1
  have:k=1∨k=2:=by grind
  rcases this with rfl|rfl
  ·exact .inl ⟨x,rfl,g2,by grind⟩
  ·exact .inr (.inl ⟨x,rfl,g2,by grind⟩)
 |[a],g1,g4 =>
  simp only [y55,y56] at g1
  have:k=3:=by grind
  subst this
  exact .inr (.inr (.inl ⟨x,a,rfl,g4 a (by simp)⟩))
 |[a,b],g1,g4 =>
  simp only [y55,y56] at g1
  exact .inr (.inr (.inr ⟨k,x,a,b,rfl,by grind,by grind,g4 a (by simp),g4 b (by simp)⟩))
 |a::b::c::r,g1,_=>simp only [y55] at g1;grind
theorem eval_ok (v:List Int) (hv:ValsOk v) (t:Tree):t.good→QQ 130 [z61 Tree.cs' t,ints v] [] (.int (t.ev v)) []:=by
 induction t using y27 with|h t ih=>?_
 intro hg
 have hl:=hv.1
 rw [y16]
 rcases z628 hg with ⟨x,rfl,h1,h2⟩|⟨x,rfl,h1,h2⟩|⟨x,a,rfl,h1⟩|⟨k,x,a,b,rfl,h1,h2,h3,h4⟩<;>simp only [Tree.kind,Tree.val,Tree.kids] at *
 ·refine z16 z24 func130 rfl rfl 82 ntmps130 (by simp) ?_
  repeat' (((apply y6 ok;rfl))<;>conv=>whnf)
  all_goals (exact z67 rfl rfl (by rw [Tree.ev,if_pos rfl];rfl))
 ·refine z16 z24 func130 rfl rfl 82 ntmps130 (by simp) ?_
  repeat' ((first|apply y6 ok;rfl|apply y40;omega|apply z171;omega;intro _)<;>conv=>whnf)
  refine z67 rfl rfl ?_
  rw [Tree.ev,if_neg (by omega),if_pos rfl,y65,y42 (by omega)];rfl
 ·have ha:=y19 hv a h1
  refine z16 z24 func130 rfl rfl 82 ntmps130 (by simp) ?_
  repeat' ((first|apply y6 ok;rfl|apply y40;omega|apply z107|apply z8 (ih a (by simp) h1);rfl;rfl|apply z8 (z926 _);rfl;rfl)<;>conv=>whnf)
  all_goals (refine z67 rfl rfl ?_;rw [Tree.ev,if_neg (by omega),if_neg (by omega)];simp only [Tree.evs];rfl)
 ·have ha:=y19 hv a h3
  have hb:=y19 hv b h4
  refine z16 z24 func130 rfl rfl 82 ntmps130 (by simp) ?_
  repeat' ((first|apply y6 ok;rfl|(apply y40;first|omega|unfold inI;omega)|((apply z13;omega));intro _|apply z107|(first|apply z7|apply z35)<;>intro _|apply z8 (ih a (by simp) h3);rfl;rfl|apply z8 (ih b (by simp) h4);rfl;rfl|apply z8 (z926 _);rfl;rfl)<;>conv=>whnf)
  all_goals try (exfalso;omega)
  all_goals (refine z670 rfl ?_;clear ih;simp only [Tree.ev,Tree.evs,b2i];grind)
theorem z789 (v:List Int) (hv:ValsOk v) (t:Tree):t.good→QQ 191 [z61 Tree.cs' t,ints v] [] (.int (t.ev v)) []:=by
 induction t using y27 with|h t ih=>?_
 intro hg
 have hl:=hv.1
 rw [y16]
 rcases z628 hg with ⟨x,rfl,h1,h2⟩|⟨x,rfl,h1,h2⟩|⟨x,a,rfl,h1⟩|⟨k,x,a,b,rfl,h1,h2,h3,h4⟩<;>simp only [Tree.kind,Tree.val,Tree.kids] at *
 ·refine z16 z24 func191 rfl rfl 86 ntmps191 (by simp) ?_
  repeat' (((apply y6 ok;rfl))<;>conv=>whnf)
  all_goals (exact z67 rfl rfl (by rw [Tree.ev,if_pos rfl];rfl))
 ·refine z16 z24 func191 rfl rfl 86 ntmps191 (by simp) ?_
  repeat' ((first|apply y6 ok;rfl|apply y40;omega|apply z171;omega;intro _)<;>conv=>whnf)
  refine z67 rfl rfl ?_
  rw [Tree.ev,if_neg (by omega),if_pos rfl,y65,y42 (by omega)];rfl
 ·have ha:=y19 hv a h1
  refine z16 z24 func191 rfl rfl 86 ntmps191 (by simp) ?_
  repeat' ((first|apply y6 ok;rfl|apply y40;omega|apply z107|apply z8 (ih a (by simp) h1);rfl;rfl|apply z8 (z790 _);rfl;rfl)<;>conv=>whnf)
  all_goals (refine z67 rfl rfl ?_;rw [Tree.ev,if_neg (by omega),if_neg (by omega)];simp only [Tree.evs];rfl)
 ·have ha:=y19 hv a h3
  have hb:=y19 hv b h4
  refine z16 z24 func191 rfl rfl 86 ntmps191 (by simp) ?_
  repeat' ((first|apply y6 ok;rfl|(apply y40;first|omega|unfold inI;omega)|((apply z13;omega));intro _|apply z107|(first|apply z7|apply z35)<;>intro _|apply z8 (ih a (by simp) h3);rfl;rfl|apply z8 (ih b (by simp) h4);rfl;rfl|apply z8 (z790 _);rfl;rfl)<;>conv=>whnf)
  all_goals try (exfalso;omega)
  all_goals (refine z670 rfl ?_;clear ih;simp only [Tree.ev,Tree.evs,b2i];grind)
def ltr (v:List Int) (l:List Tree) (k n:Nat):Nat:=match l with
 |[]=>n
 |t::r=>ltr v r (k+1) (if t.ev v=0 then n else n ||| 2 ^ k)
theorem z954 (v:List Int) (l:List Tree) (k n:Nat) (h:k < l.length):ltr v (l.drop k) k n=ltr v (l.drop (k+1)) (k+1) (if l[k].ev v=0 then n else n ||| 2 ^ k):=by
 rw [y77 h,ltr]
theorem ltr_end (v:List Int) (l:List Tree) (k n:Nat) (h:l.length≤k):ltr v (l.drop k) k n=n:=by
 rw [y81 h,ltr]
def z85 (labels:List Tree) (s:State):Int:=ltr s.b labels 0 0
theorem or_lt {n k:Nat} (h:n < 2 ^ k):n ||| 2 ^ k < 2 ^ (k+1) :=
 Nat.or_lt_two_pow (by rw [Nat.pow_succ];omega) (by rw [Nat.pow_succ];have:=Nat.two_pow_pos k;omega)
def LabelsOk (l:List Tree):Prop:=l.length=3∧∀ t∈l,t.good
theorem LabelsOk.of {l:List Tree} (h:z452 l=true):LabelsOk l:=by
 simp only [z452,y68,decide_eq_true_eq,y76] at h
 exact ⟨by omega,fun t ht=>y26 (h.2 t ht)⟩
theorem shl_eq (k:Nat) (hk:k < 3):(1:Int) * 2 ^ ((k:Int).toNat)=((2 ^ k:Nat):Int):=by simp
theorem z760 {k:Nat} (hk:k < 3):2 ^ k≤8∧2 ^ (k+1)≤8∧0 < 2 ^ k:=by
 have:k=0∨k=1∨k=2:=by omega
 rcases this with rfl|rfl|rfl<;>simp
theorem z1173 (s:State) (hv:ValsOk s.b) (l:List Tree) (hl:LabelsOk l):QQ 80 [ints s.b,lst 3 Tree.cs' l] [] (.int (z85 l s)) []:=by
 have h3:=hl.1
 refine z16 z24 func80 rfl rfl 25 ntmps80 (by simp) ?_
 repeat' (((apply y6 ok;rfl))<;>conv=>whnf)
 refine z111 (fun x:Nat×Nat=>([(0,ints s.b),(5,.int x.2),(8,lst 3 Tree.cs' l),(9,.int l.length),(10,.int x.1)],[])) (fun x=>x.1≤l.length∧x.2 < 2 ^ x.1∧ltr s.b l 0 0=ltr s.b (l.drop x.1) x.1 x.2) (fun x=>l.length - x.1) (0,0) ⟨by omega,by decide,rfl⟩ ⟨[],rfl,by decide,rfl,by repeat' (first|exact True.intro|exact ⟨rfl,rfl⟩|apply y40),by repeat' (exact True.intro)⟩ ?_
 rintro ⟨k,n⟩ ⟨hk1,hk2,hk3⟩
 dsimp only at hk1 hk2 hk3
 repeat' ((first|apply y6 ok;rfl|(apply y40;first|omega|unfold inI;omega)|((with_reducible apply z13;omega));intro _|(first|apply z7|apply z35)<;>intro _|apply z8 (eval_ok s.b hv l[k] (hl.2 _ (y41 _)));rfl;rfl)<;>conv=>whnf)
 ·rename_i hkl h
  have hp:=z760 (show k < 3 by omega)
  have e:=shl_eq k (by omega)
  refine y40 ⟨by omega,by omega,by rw [e];unfold inI;omega⟩ ?_
  conv=>whnf
  refine y40 (by rw [e];unfold z129;omega) ?_
  conv=>whnf
  repeat' ((first|apply y6 ok;rfl|apply y40;(unfold inI;omega))<;>conv=>whnf)
  rw [z954 _ _ _ _ hkl,if_neg h] at hk3
  refine z92 (k+1,n ||| 2 ^ k) [] ⟨by dsimp only;omega,or_lt hk2,hk3⟩ (by dsimp only;omega) ⟨rfl,by decide,rfl,⟨⟨rfl,rfl⟩,⟨rfl,?_⟩,⟨rfl,rfl⟩,⟨rfl,rfl⟩,⟨rfl,rfl⟩,trivial⟩,trivial⟩
  show AC.raw (.int .i64 (((n:Int).toNat ||| ((1:Int) * 2 ^ ((k:Int).toNat)).toNat:Nat):Int))=_
  rw [e];rfl
 ·rename_i hkl h
  rw [z954 _ _ _ _ hkl,if_pos h] at hk3
  have:2 ^ k≤2 ^ (k+1):=by rw [Nat.pow_succ];omega
  exact z92 (k+1,n) [] ⟨by dsimp only;omega,by dsimp only;omega,hk3⟩ (by dsimp only;omega) ⟨rfl,by decide,rfl,by repeat' (first|exact True.intro|exact ⟨rfl,rfl⟩|apply y40),by repeat' (exact True.intro)⟩
 ·rw [ltr_end _ _ _ _ (by omega)] at hk3
  exact z67 rfl rfl (by unfold z85;rw [hk3];rfl)
theorem z1177 (g:Graph) (hg:∀ s∈g.st,ValsOk s.b) (hn:g.st.length≤60) (l:List Tree) (hl:LabelsOk l):QQ 28 [.agg g.cs,lst 3 Tree.cs' l] [] (.sref 0 0 g.st.length) [.cells 1 (g.st.map fun s=>enI (z85 l s))]:=by
 refine z16 z24 func28 rfl rfl 29 ntmps28 (by simp) ?_
 repeat' ((first|apply y6 ok;rfl|apply y40;(dsimp only;omega))<;>conv=>whnf)
 refine z111 (fun k:Nat=>([(1,lst 3 Tree.cs' l),(5,.sref 0 0 g.st.length),(13,lst 2 State.cs g.st),(14,.int g.st.length),(15,.int k)],[.cells 1 ((g.st.take k).map (fun s=>enI (z85 l s))++List.replicate (g.st.length - k) (enI 0))])) (fun k=>k≤g.st.length) (fun k=>g.st.length - k) 0 (by omega) ⟨[1],rfl,by decide,rfl,by repeat' (first|exact True.intro|exact ⟨rfl,rfl⟩|apply y40),by repeat' (first|exact True.intro|exact z37 (by rfl) (by (first|exact z39|exact z54 rfl))|apply y40)⟩ ?_
 intro k hk
 repeat' ((first|apply y6 ok;rfl|(apply y40;first|omega|unfold inI;omega)|((with_reducible apply z13;omega));intro _|apply z124;omega|apply z7<;>intro _|apply z8 (z1173 g.st[k] (hg _ (y41 _)) l hl);rfl;rfl)<;>conv=>whnf)
 ·rename_i h hkl
  exact z92 (k+1) [0] (by omega) (by omega) ⟨rfl,by decide,rfl,⟨⟨rfl,rfl⟩,⟨rfl,rfl⟩,⟨rfl,rfl⟩,⟨rfl,rfl⟩,⟨rfl,rfl⟩,trivial⟩,⟨z945 hkl rfl rfl rfl (fun _=>rfl) rfl,trivial⟩⟩
 ·exact z535 rfl (z6 fun _=>rfl) rfl (z966 _ _ _ _ (by omega))
theorem label_ok (g:Graph) (hg:∀ s∈g.st,ValsOk s.b) (hn:g.st.length≤60) (l:List Tree) (hl:LabelsOk l):QQ 28 [.agg g.cs,lst 3 Tree.cs' l] [] (ints (g.st.map (z85 l))) []:=by
 have h:=(z1177 g hg hn l hl).keep (z212 _ _) (by simp)
 unfold ints
 rw [y46,List.map_map]
 exact h
theorem z1188 (l:List Int) (hl:l.length≤maxLen):QQ 131 [ints l] [] (.bool (z438 l)) []:=by
 unfold maxLen at hl
 have e:z438 l=(l.all (fun n=>btw n 0 3) && decide ((l.length:Int)=3)):=by
  unfold z438;rw [Bool.and_comm,List.all_eq_not_any_not]
 rw [e]
 refine z16 z24 func131 rfl rfl 25 ntmps131 (by simp) ?_
 repeat' (((apply y6 ok;rfl))<;>conv=>whnf)
 refine z111 (fun k:Nat=>([(0,ints l),(3,.int k)],[])) (fun k=>k≤l.length∧l.all (fun n=>btw n 0 3)=(l.drop k).all (fun n=>btw n 0 3)) (fun k=>l.length - k) 0 ⟨by omega,rfl⟩ ⟨[],rfl,by decide,rfl,by repeat' (first|exact True.intro|exact ⟨rfl,rfl⟩|apply y40),by repeat' (exact True.intro)⟩ ?_
 intro k hk
 repeat' ((first|apply y6 ok;rfl|(apply y40;first|omega|unfold inI;omega)|((with_reducible apply z13;omega));intro _|apply z7<;>intro _)<;>conv=>whnf)
 ·refine z34 rfl ?_
  have:btw l[k] 0 3=false:=z475.2 (by omega)
  rw [hk.2,z207 _ _ _ (by assumption),this];rfl
 ·refine z34 rfl ?_
  have:btw l[k] 0 3=false:=z475.2 (by omega)
  rw [hk.2,z207 _ _ _ (by assumption),this];rfl
 ·have:btw l[k] 0 3=true:=z150.2 (by omega)
  exact z92 (k+1) [] ⟨by omega,by rw [hk.2,z207 _ _ _ (by assumption),this];rfl⟩ (by omega) ⟨rfl,by decide,rfl,by repeat' (first|exact True.intro|exact ⟨rfl,rfl⟩|apply y40),by repeat' (exact True.intro)⟩
 ·exact z34 rfl (by rw [hk.2,z195 _ _ _ (by omega),Bool.true_and])
theorem z1185 (l:List Int) (hl:l.length≤maxLen) (v:Int):QQ 119 [ints l,.int v] [] (.bool (decide (v∈l))) []:=by
 unfold maxLen at hl
 have e:decide (v∈l)=l.any (fun x=>decide (x=v)):=by
  rw [Bool.eq_iff_iff];simp
 rw [e]
 refine z16 z24 func119 rfl rfl 18 ntmps119 (by simp) ?_
 repeat' (((apply y6 ok;rfl))<;>conv=>whnf)
 refine z111 (fun k:Nat=>([(0,ints l),(1,.int v),(5,.int k)],[])) (fun k=>k≤l.length∧l.any (fun x=>decide (x=v))=(l.drop k).any (fun x=>decide (x=v))) (fun k=>l.length - k) 0 ⟨by omega,rfl⟩ ⟨[],rfl,by decide,rfl,by repeat' (first|exact True.intro|exact ⟨rfl,rfl⟩|apply y40),by repeat' (exact True.intro)⟩ ?_
 intro k hk
 repeat' ((first|apply y6 ok;rfl|(apply y40;first|omega|unfold inI;omega)|((with_reducible apply z13;omega));intro _|apply z7<;>intro _)<;>conv=>whnf)
 ·rename_i h
  exact z34 rfl (by rw [hk.2,z972 _ _ _ (by assumption),y79 h];rfl)
 ·rename_i h
  exact z92 (k+1) [] ⟨by omega,by rw [hk.2,z972 _ _ _ (by assumption),y80 h];rfl⟩ (by omega) ⟨rfl,by decide,rfl,by repeat' (first|exact True.intro|exact ⟨rfl,rfl⟩|apply y40),by repeat' (exact True.intro)⟩
 ·exact z34 rfl (by rw [hk.2,z807 _ _ _ (by omega)])
theorem Distinct.le {l:List Int} {n:Int} (h:Distinct l n l.length) (h0:0≤n):(l.length:Int)≤n:=by
 have hnd:(l.map Int.toNat).Nodup:=by
  rw [List.nodup_iff_pairwise_ne,List.pairwise_map,List.pairwise_iff_getElem]
  intro i j hi hj hij he
  have h1:=h i hi hi
  have h2:=h j hj hj
  refine h2.2 ?_
  have:l[j]=l[i]:=by omega
  rw [this,List.mem_take_iff_getElem]
  exact ⟨i,by omega,rfl⟩
 have hsub:(l.map Int.toNat) ⊆ List.range n.toNat:=by
  intro x hx
  obtain ⟨y,hy,rfl⟩:=List.mem_map.1 hx
  obtain ⟨i,hi,rfl⟩:=List.mem_iff_getElem.1 hy
  have:=(h i hi hi).1
  rw [y58];omega
 have:=hnd.length_le_of_subset hsub
 simp at this
 omega
def RowOk (g:Graph) (i:Nat):Prop:=∀ (h:i < g.nx.length) (h' : i < g.st.length),1≤g.nx[i].length∧g.nx[i].length≤g.st.length∧z438 g.st[i].b=true∧Distinct g.nx[i] g.st.length g.nx[i].length
def GB (g:Graph):Prop:=(1≤g.st.length∧g.st.length≤60)∧g.nx.length=g.st.length∧∀ i,i < g.nx.length→RowOk g i
theorem z733 {n:Int} {l:List Int} : z845 n l=true↔1≤l.length∧Distinct l n l.length:=by
 unfold z845
 rw [y68,decide_eq_true_eq,Bool.not_eq_true',decide_eq_false_iff_not]
 exact and_congr (by omega) Iff.rfl
theorem z453 (g:Graph):z560 g=true↔GB g:=by
 unfold z560 GB
 simp only [y68,z150,decide_eq_true_eq,Bool.not_eq_true',List.any_eq_false]
 constructor
 ·rintro ⟨h1,h2,h3,h4⟩
  refine ⟨by omega,by omega,fun i hi h h'=>?_⟩
  have h5:=z733.1 (by simpa using h4 _ (y41 h))
  have h6:=h5.2.le (by omega)
  exact ⟨h5.1,by omega,by simpa using h3 _ (y41 h'),h5.2⟩
 ·rintro ⟨h1,h2,h3⟩
  refine ⟨by omega,by omega,fun s hs=>?_,fun l hl=>?_⟩
  ·obtain ⟨i,hi,rfl⟩:=List.mem_iff_getElem.1 hs
   simpa using (h3 i (by omega) (by omega) hi).2.2.1
  ·obtain ⟨i,hi,rfl⟩:=List.mem_iff_getElem.1 hl
   have:=h3 i hi hi (by omega)
   simpa using z733.2 ⟨this.1,this.2.2.2⟩
def Trans.mx (t:Trans):Prop:=inI t.val
def z205 (n:Int) (t:Trans):Prop:=(0≤t.src∧t.src≤n - 1)∧(0≤t.dst∧t.dst≤n - 1)∧(0≤t.care∧t.care≤7)∧0≤t.val∧t.val.toNat &&& t.care.toNat=t.val.toNat
instance {n:Int} {t:Trans} : Decidable (z205 n t):=by unfold z205;infer_instance
def z1048 (n:Int) (t:Trans):Bool:=decide (z205 n t)
theorem z328 {n:Int} {t:Trans} : z1048 n t=true↔z205 n t:=by unfold z1048;exact decide_eq_true_iff
theorem edgeB_no {n:Int} {t:Trans} : z1048 n t=false↔¬ z205 n t:=by rw [← z328,y69]
def IniP (l:List Int) (n:Int) (k:Nat):Prop:=∀ i (h:i < l.length),i < k→(0≤l[i]∧l[i]≤n - 1)∧∀ j (hj:j+1=i),l[j]'(by omega) < l[i]
def AutP (a:Aut):Prop:=(1≤a.acc.length∧a.acc.length≤64)∧a.ed.length≤2048∧IniP a.ini a.acc.length a.ini.length∧∀ e∈a.ed,z205 a.acc.length e
noncomputable instance {a:Aut} : Decidable (AutP a):=Classical.propDecidable _
noncomputable def autB (a:Aut):Bool:=decide (AutP a)
theorem z153 {a:Aut} : autB a=true↔AutP a:=by unfold autB;exact decide_eq_true_iff
theorem z238 {a:Aut} : autB a=false↔¬ AutP a:=by rw [← z153,y69]
theorem IniP.ge {l:List Int} {n:Int} (h:IniP l n l.length):∀ i (hi:i < l.length),(i:Int)≤l[i]:=by
 intro i
 induction i with
 |zero=>intro hi;exact (h 0 hi hi).1.1
 |succ i ih =>
  intro hi
  have h1:=ih (by omega)
  have h2:=(h (i+1) hi hi).2 i rfl
  omega
theorem IniP.le {l:List Int} {n:Int} (h:IniP l n l.length) (h0:0≤n):(l.length:Int)≤n:=by
 rcases Nat.eq_zero_or_pos l.length with e|e
 ·omega
 ·have h1:=h.ge (l.length - 1) (by omega)
  have h2:=(h (l.length - 1) (by omega) (by omega)).1.2
  omega
theorem z1066 {v c:Int} (h0:0≤v) (h1:v≤9223372036854775807) (h2:0≤c) (h3:c≤7):(((BitVec.ofNat 64 v.toNat &&& ~~~BitVec.ofNat 64 c.toNat).toNat:Nat):Int)=0↔v.toNat &&& c.toNat=v.toNat:=by
 obtain ⟨v,rfl⟩:=Int.eq_ofNat_of_zero_le h0
 obtain ⟨c,rfl⟩:=Int.eq_ofNat_of_zero_le h2
 simp only [y74]
 have hv:v < 2 ^ 64:=by omega
 have hc:c < 2 ^ 64:=by omega
 have e:∀ x y:BitVec 64,(x &&& ~~~y)=0#64↔x &&& y=x:=by
  intro x y
  constructor
  ·intro h
   apply BitVec.eq_of_getElem_eq
   intro i hi
   have:=congrArg (fun z=>z[i]) h
   simp at this ⊢
   cases hx:x[i]<;>simp_all
  ·intro h
   apply BitVec.eq_of_getElem_eq
   intro i hi
   have:=congrArg (fun z=>z[i]) h
   simp at this ⊢
   cases hx:x[i]<;>simp_all
 have e2:=e (BitVec.ofNat 64 v) (BitVec.ofNat 64 c)
 constructor
 ·intro h
  have h4:(BitVec.ofNat 64 v &&& ~~~BitVec.ofNat 64 c)=0#64:=BitVec.eq_of_toNat_eq (by simpa using h)
  have h5:=congrArg BitVec.toNat (e2.1 h4)
  simpa [BitVec.toNat_and,Nat.mod_eq_of_lt hv,Nat.mod_eq_of_lt hc] using h5
 ·intro h
  have h4:BitVec.ofNat 64 v &&& BitVec.ofNat 64 c=BitVec.ofNat 64 v:=BitVec.eq_of_toNat_eq (by
   simpa [BitVec.toNat_and,Nat.mod_eq_of_lt hv,Nat.mod_eq_of_lt hc] using h)
  have h5:=congrArg BitVec.toNat (e2.2 h4)
  simpa using h5
theorem z1062 (n:Int) (h0:0≤n) (h1:n≤maxLen) (t:Trans) (ht:t.mx):QQ 98 [z61 Trans.cs t,.pt [.int n]] [] (.bool (!z1048 n t)) []:=by
 unfold Trans.mx inI at ht
 unfold maxLen at h1
 refine z16 z24 func98 rfl rfl 37 ntmps98 (by simp) ?_
 repeat' (first|apply y6 ok;rfl;conv=>whnf|apply y40;(first|unfold inI;omega|(simp only [z150] at *;(unfold z129;omega)));conv=>whnf|apply z7<;>intro _<;>conv=>whnf|apply z82<;>intro _<;>conv=>whnf|apply z8 (z558 _ 0 (n - 1));rfl;rfl;conv=>whnf|apply z8 (z558 _ 0 7);rfl;rfl;conv=>whnf)
 all_goals (refine z34 rfl ?_;rw [Bool.eq_iff_iff];simp only [z150,z475,z328,edgeB_no,Bool.not_eq_true',decide_eq_false_iff_not,decide_eq_true_eq,Bool.false_eq_true,iff_false,iff_true] at *;unfold z205)
 all_goals try omega
 all_goals (rw [z1066 (by omega) (by omega) (by omega) (by omega)];omega)
theorem z1180 (n:Int) (t:Trans) (ht:t.mx):QQ 101 [z61 Trans.cs t,.int n] [] (.bool (z1048 n t)) []:=by
 unfold Trans.mx inI at ht
 refine z16 z24 func101 rfl rfl 50 ntmps101 (by simp) ?_
 repeat' (first|apply y6 ok;rfl;conv=>whnf|apply y40;((unfold z129;omega));conv=>whnf|apply z7<;>intro _<;>conv=>whnf)
 all_goals (refine z34 rfl ?_;rw [Bool.eq_iff_iff];simp only [z328,decide_eq_true_eq,Bool.false_eq_true,iff_false] at *;unfold z205)
 all_goals omega
theorem z928 (t:Trans) (n:Int) (h0:0≤n) (h1:n≤7) (ht:0≤t.care∧t.care≤7):QQ 108 [z61 Trans.cs t,.int n] [] (.bool (decide (((n.toNat &&& t.care.toNat:Nat):Int)=t.val))) []:=by
 refine z16 z24 func108 rfl rfl 12 ntmps108 (by simp) ?_
 repeat' (first|apply y6 ok;rfl;conv=>whnf|apply y40;((unfold z129;omega));conv=>whnf)
 exact z34 rfl rfl
theorem z882 (t:Trans) (n:Int) (h0:0≤n) (h1:n≤7) (ht:0≤t.care∧t.care≤7):QQ 213 [z61 Trans.cs t,.int n] [] (.bool (decide (((n.toNat &&& t.care.toNat:Nat):Int)=t.val))) []:=by
 refine z16 z24 func213 rfl rfl 12 ntmps213 (by simp) ?_
 repeat' (first|apply y6 ok;rfl;conv=>whnf|apply y40;((unfold z129;omega));conv=>whnf)
 exact z34 rfl rfl
def Aut.mx (a:Aut):Prop:=a.ini.length≤maxLen∧a.acc.length≤maxLen∧a.ed.length≤maxLen∧∀ t∈a.ed,t.mx
theorem z484 (c:Int) (l:List Trans) (hl:l.length≤maxLen) (p:Trans→Bool) (f:FuncId) (hf:∀ x∈l,QQ f [z61 Trans.cs x,.pt [.int c]] [] (.bool (p x)) []):QQ 156 [lst 4 Trans.cs l,.fn (.func f) [] [.pt [.int c]]] [] (.int (idxF p l)) []:=by
 unfold maxLen at hl
 refine z16 z24 func156 rfl rfl 19 ntmps156 (by simp) ?_
 repeat' ((apply y6 ok;rfl;conv=>whnf))
 refine z111 (fun k:Nat=>([(0,lst 4 Trans.cs l),(1,.fn (.func f) [] [.pt [.int c]]),(7,.int l.length),(8,.int k)],[])) (fun k=>k≤l.length∧∀ j (hj:j < l.length),j < k→p l[j]=false) (fun k=>l.length - k) 0 (by simp)
  ⟨[],rfl,by decide,rfl,⟨⟨rfl,rfl⟩,⟨rfl,rfl⟩,⟨rfl,rfl⟩,⟨rfl,rfl⟩,trivial⟩,trivial⟩ ?_
 intro k hk
 repeat' (first|apply y6 ok;rfl;conv=>whnf|apply y40;(first|omega|unfold inI;omega);conv=>whnf|with_reducible apply z13;omega;intro _;conv=>whnf|apply z7<;>intro _<;>conv=>whnf|apply z83<;>intro _<;>conv=>whnf|apply z8 (hf l[k] (y41 _));rfl;rfl;conv=>whnf)
 ·rename_i h h1
  exact z67 rfl rfl (by rw [z231 (by omega) h1 hk.2];rfl)
 ·rename_i h h1
  refine z92 (k+1) [] ⟨by omega,fun j hj hjk=>?_⟩ (by omega) ⟨rfl,by decide,rfl,⟨⟨rfl,rfl⟩,⟨rfl,rfl⟩,⟨rfl,rfl⟩,⟨rfl,rfl⟩,trivial⟩,trivial⟩
  rcases y67 j k with h2|h2
  ·exact hk.2 j hj h2
  ·obtain rfl:j=k:=by omega
   exact h1
 ·exact z67 rfl rfl (by rw [z232 fun j hj=>hk.2 j hj (by omega)];rfl)
theorem z383 (c:Int) (l:List Trans) (hl:l.length≤maxLen) (p:Trans→Bool) (f:FuncId) (hf:∀ x∈l,QQ f [z61 Trans.cs x,.pt [.int c]] [] (.bool (p x)) []):QQ 97 [lst 4 Trans.cs l,.fn (.func f) [] [.pt [.int c]]] [] (.bool (l.any p)) []:=by
 refine z16 z24 func97 rfl rfl 9 ntmps97 (by simp) ?_
 repeat' (first|apply y6 ok;rfl;conv=>whnf|apply z8 (z484 c l hl p f hf);rfl;rfl;conv=>whnf)
 exact z34 rfl (by rw [← z287])
theorem IniP.step {l:List Int} {n:Int} {k:Nat} (h:IniP l n k) (hk:k < l.length) (h1:0≤l[k]∧l[k]≤n - 1) (h2:∀ j (hj:j+1=k),l[j]'(by omega) < l[k]):IniP l n (k+1):=by
 intro i hi hik
 rcases y67 i k with h3|h3
 ·exact h i hi h3
 ·obtain rfl:i=k:=by omega
  exact ⟨h1,h2⟩
def z411 (l:List Int) (k:Nat):Int:=if h:0 < k∧k≤l.length then l[k - 1]'(by omega) else -1
theorem z272 (a:Aut) (ha:a.mx):QQ 45 [.agg a.cs] [] (.bool (autB a)) []:=by
 obtain ⟨hi,hc,he,hm⟩:=ha
 have hk:=z383 (a.acc.length:Int) a.ed he (fun t=>!z1048 a.acc.length t) 98 (fun t ht=>z1062 _ (by omega) (by omega) t (hm t ht))
 unfold maxLen at hi hc he
 refine z16 z24 func45 rfl rfl 41 ntmps45 (by simp) ?_
 repeat' ((apply y6 ok;rfl;conv=>whnf))
 refine z111 (fun k:Nat=>([(1,.ptr 0 none 0),(3,.ptr 1 none 0),(4,.int (z411 a.ini k)),(11,lst 1 enI a.ini),(12,.int a.ini.length),(13,.int k)],[.cells 3 [[lst 1 enI a.ini,lst 1 enB a.acc,lst 4 Trans.cs a.ed]],.cells 1 [[.int a.acc.length]]])) (fun k=>k≤a.ini.length∧IniP a.ini a.acc.length k) (fun k=>a.ini.length - k) 0 ⟨by omega,fun i h hi=>by omega⟩ ⟨[0,1],rfl,by decide,rfl,by repeat' (first|exact True.intro|exact ⟨rfl,rfl⟩|apply y40),by repeat' (first|exact True.intro|exact z43 rfl rfl|apply y40)⟩ ?_
 rintro k ⟨hk1,hk2⟩
 have hlast : -1≤z411 a.ini k∧z411 a.ini k≤a.acc.length - 1:=by
  unfold z411
  split
  ·rename_i h
   have:=(hk2 (k - 1) (by omega) (by omega)).1;omega
  ·omega
 repeat' (first|apply y6 ok;rfl;conv=>whnf|apply y40;(first|omega|unfold inI;omega);conv=>whnf|with_reducible apply z13;omega;intro _;conv=>whnf|apply z7<;>intro _<;>conv=>whnf|apply z82<;>intro _<;>conv=>whnf|apply z83<;>intro _<;>conv=>whnf|apply z8 (z558 _ (z411 a.ini k+1) _);rfl;rfl;conv=>whnf|apply z8 (z558 _ 1 64);rfl;rfl;conv=>whnf|apply z979 [1] hk;rfl;rfl;rfl;rfl;conv=>whnf)
 ·rename_i hkl hb
  refine z34 rfl (z238.2 fun ⟨_,_,h,_⟩=>?_)
  have h1:=h k hkl hkl
  rw [z475] at hb
  refine hb ⟨?_,h1.1.2⟩
  unfold z411
  split
  ·rename_i hp
   have:=h1.2 (k - 1) (by omega);omega
  ·omega
 ·rename_i hkl hb
  rw [z150] at hb
  refine z92 (k+1) [0,1] ⟨by omega,hk2.step hkl (by omega) fun j hj=>?_⟩ (by omega) ⟨rfl,by decide,rfl,⟨⟨rfl,rfl⟩,⟨rfl,rfl⟩,⟨rfl,?_⟩,⟨rfl,rfl⟩,⟨rfl,rfl⟩,⟨rfl,rfl⟩,trivial⟩,⟨z43 rfl rfl,z43 rfl rfl,trivial⟩⟩
  ·subst hj
   have:=hb.1
   unfold z411 at this
   rw [dif_pos (by omega)] at this
   simp only [Nat.add_sub_cancel] at this
   omega
  ·have:z411 a.ini (k+1)=a.ini[k]:=by unfold z411;rw [dif_pos (by omega)];rfl
   rw [this];rfl
 all_goals (have hfull:IniP a.ini a.acc.length a.ini.length:=by (have:k=a.ini.length:=by omega);rw [← this];exact hk2)
 ·rename_i hb hl
  refine z34 rfl ?_
  rw [z150] at hb
  rw [Bool.eq_iff_iff,z153,Bool.not_eq_true',List.any_eq_false]
  constructor
  ·rintro ⟨_,_,_,h⟩ x hx
   simpa using z328.2 (h x hx)
  ·intro h
   exact ⟨by omega,by omega,hfull,fun e he=>z328.1 (by simpa using h e he)⟩
 ·refine z34 rfl (z238.2 fun hh=>?_)
  have:=hh.2.1;omega
 ·rename_i hb
  refine z34 rfl (z238.2 fun hh=>?_)
  have:=hh.1
  rw [z475] at hb;omega
theorem z192 (a:Aut) (ha:a.mx):QQ 47 [.agg a.cs] [] (.bool (autB a)) []:=by
 obtain ⟨hi,hc,he,hm⟩:=ha
 unfold maxLen at hi hc he
 refine z16 z24 func47 rfl rfl 83 ntmps47 (by simp) ?_
 repeat' (first|apply y6 ok;rfl;conv=>whnf|apply z7<;>intro _<;>conv=>whnf)
 ·exact z34 rfl (z238.2 fun ⟨h,_⟩=>by omega)
 ·exact z34 rfl (z238.2 fun ⟨h,_⟩=>by omega)
 ·exact z34 rfl (z238.2 fun ⟨h,_,h2,_⟩=>by have:=h2.le (by omega);omega)
 ·exact z34 rfl (z238.2 fun ⟨_,h,_⟩=>by omega)
 refine z111 (fun k:Nat=>([(1,.ptr 0 none 0),(3,.int a.acc.length),(4,.int k)],[.cells 3 [[lst 1 enI a.ini,lst 1 enB a.acc,lst 4 Trans.cs a.ed]]])) (fun k=>k≤a.ini.length∧IniP a.ini a.acc.length k) (fun k=>a.ini.length - k) 0 ⟨by omega,fun i h hi=>by omega⟩ ⟨[0],rfl,by decide,rfl,by repeat' (first|exact True.intro|exact ⟨rfl,rfl⟩|apply y40),by repeat' (first|exact True.intro|exact z43 rfl rfl|apply y40)⟩ ?_
 rintro k ⟨hk1,hk2⟩
 repeat' (first|apply y6 ok;rfl;conv=>whnf|apply z27;kernel_rfl;conv=>whnf|apply y40;(first|omega|unfold inI;omega);conv=>whnf|with_reducible apply z13;omega;intro _;conv=>whnf|apply z171;omega;intro _;conv=>whnf|apply z7<;>intro _<;>conv=>whnf)
 ·refine z34 rfl (z238.2 fun ⟨_,_,h,_⟩=>?_)
  have:=(h k (by assumption) (by assumption)).1;omega
 ·refine z34 rfl (z238.2 fun ⟨_,_,h,_⟩=>?_)
  have:=(h k (by assumption) (by assumption)).1;omega
 ·rename_i hk0 _ _ hb
  refine z34 rfl (z238.2 fun ⟨_,_,h,_⟩=>?_)
  have:=(h k (by assumption) (by assumption)).2 (k - 1) (by omega)
  have e:((k:Int) - 1).toNat=k - 1:=by omega
  simp only [e] at hb
  omega
 ·rename_i hk0 _ _ hb
  refine z92 (k+1) [0] ⟨by omega,hk2.step (by assumption) (by omega) fun j hj=>?_⟩ (by omega) ⟨rfl,by decide,rfl,by repeat' (first|exact True.intro|exact ⟨rfl,rfl⟩|apply y40),by repeat' (first|exact True.intro|exact z43 rfl rfl|apply y40)⟩
  have e:((k:Int) - 1).toNat=k - 1:=by omega
  simp only [e] at hb
  subst hj
  simp only [Nat.add_sub_cancel] at hb
  omega
 ·exact z92 (k+1) [0] ⟨by omega,hk2.step (by assumption) (by omega) fun j hj=>by omega⟩ (by omega) ⟨rfl,by decide,rfl,by repeat' (first|exact True.intro|exact ⟨rfl,rfl⟩|apply y40),by repeat' (first|exact True.intro|exact z43 rfl rfl|apply y40)⟩
 have hfull:IniP a.ini a.acc.length a.ini.length:=by (have:k=a.ini.length:=by omega);rw [← this];exact hk2
 clear hk2 hk1
 refine z111 (fun k:Nat=>([(1,.ptr 0 none 0),(3,.int a.acc.length),(5,.int k)],[.cells 3 [[lst 1 enI a.ini,lst 1 enB a.acc,lst 4 Trans.cs a.ed]]])) (fun k=>k≤a.ed.length∧∀ i (h:i < a.ed.length),i < k→z205 a.acc.length a.ed[i]) (fun k=>a.ed.length - k) 0 ⟨by omega,fun i h hi=>by omega⟩ ⟨[0],rfl,by decide,rfl,by repeat' (first|exact True.intro|exact ⟨rfl,rfl⟩|apply y40),by repeat' (first|exact True.intro|exact z43 rfl rfl|apply y40)⟩ ?_
 rintro k2 ⟨hk1,hk2⟩
 repeat' (first|apply y6 ok;rfl;conv=>whnf|apply y40;(first|omega|unfold inI;omega);conv=>whnf|with_reducible apply z13;omega;intro _;conv=>whnf|apply z7<;>intro _<;>conv=>whnf|apply z35<;>intro _<;>conv=>whnf|apply z8 (z1180 _ a.ed[k2] (hm _ (y41 _)));rfl;rfl;conv=>whnf)
 ·rename_i hb
  exact z34 rfl (z238.2 fun ⟨_,_,_,h⟩=>hb (h _ (y41 _)))
 ·rename_i hb
  refine z92 (k2+1) [0] ⟨by omega,fun i hi hik=>?_⟩ (by omega) ⟨rfl,by decide,rfl,by repeat' (first|exact True.intro|exact ⟨rfl,rfl⟩|apply y40),by repeat' (first|exact True.intro|exact z43 rfl rfl|apply y40)⟩
  rcases y67 i k2 with h3|h3
  ·exact hk2 i hi h3
  ·obtain rfl:i=k2:=by omega
   exact hb
 ·refine z34 rfl (z153.2 ⟨by omega,by omega,hfull,fun e he=>?_⟩)
  obtain ⟨i,hi,rfl⟩:=List.mem_iff_getElem.1 he
  exact hk2 i hi (by omega)
theorem z295 {P:Program} {f:FuncId} {w:Nat} {res:AC} {objs' : List AObj} (hf:z833 P f) (h:∀ a cap,CallsA P f [.raw (.slice a 0 cap)] [] res objs'):CallsA P f [.list w 0 []] [] res objs':=by
 refine ⟨hf,fun G W vs hW hs hv=>?_⟩
 simp only [VL] at hv
 obtain ⟨⟨v,hv1,hv2⟩,_⟩:=hv
 simp only [V] at hv2
 obtain ⟨a,cap,rfl,_⟩:=hv2
 exact (h a cap).2 G W vs hW hs (by simp only [VL];exact ⟨⟨_,hv1,by simp [V]⟩,trivial⟩)
theorem nils_le {w:Nat} : ACle .nils (.list w 0 []):=fun G h v hv=>by
 simp only [V] at hv ⊢
 exact ⟨none,0,hv,y49 _,rfl,.inl trivial⟩
theorem sref_le {o off w:Nat} : ACle (.sref o off 0) (.list w 0 []):=fun G h v hv=>by
 simp only [V] at hv ⊢
 obtain ⟨cap,_,⟨rfl,a,rfl⟩|⟨b,size,w',_,_,rfl⟩⟩:=hv
 ·exact ⟨_,_,rfl,y49 _,rfl,.inl trivial⟩
 ·exact ⟨_,_,rfl,y50 _,rfl,.inl trivial⟩
theorem z227 {P : Program} {f : FuncId} {fn : Func} {c : Code} (hf : P.funcs[f]? = some fn) (hb : fn.body = some c) (hn : (fn.name == "runtime.NumGoroutine") = false) : z833 P f := ⟨fn, c, hf, hn, hb⟩
theorem z635 (l:List Int) (hl:l.length≤1048576) (hp:0 < l.length):QQ 134 [ints l] [] (.sref 0 0 l.length) [.cells 1 (l.map enI)]:=by
 refine z16 z24 func134 rfl rfl 8 ntmps134 (by simp) ?_
 repeat' (first|apply y6 ok;rfl;conv=>whnf|apply y40;(first|omega|dsimp only;omega|exact z49 (fun _=>rfl));conv=>whnf)
 exact z133 rfl (z6 fun _=>rfl) (Nat.zero_add _) rfl rfl
theorem z908 (l:List Int) (hl:l.length≤1048576):QQ 134 [ints l] [] (ints l) []:=by
 by_cases hp:0 < l.length
 ·have h:=(z635 l hl hp).keep (z212 _ _) (by simp)
  exact h
 ·obtain rfl:l=[]:=y71 (by omega)
  refine z295 (z227 func134 rfl (by rfl)) fun ad cap=>?_
  refine z16 z24 func134 rfl rfl 8 ntmps134 (by simp) ?_
  repeat' (first|apply y6 ok;rfl;conv=>whnf|apply y40;(omega);conv=>whnf|apply z83<;>intro _<;>conv=>whnf)
  ·exact ret_le rfl rfl nils_le
  ·exact ret_le rfl rfl sref_le
theorem z1053 (l:List Int) (hl:l.length≤1048576):QQ 37 [ints l] [] (ints l) []:=by
 refine z16 z24 func37 rfl rfl 9 ntmps37 (by simp) ?_
 repeat' (first|apply y6 ok;rfl;conv=>whnf|apply y40;(omega);conv=>whnf)
 refine z67 rfl rfl ?_
 show AC.list 1 _ _=ints l
 rw [show AC.list 1 ((l.length:Int).toNat - (0:Int).toNat) (((l.map enI).drop (0:Int).toNat).take ((l.length:Int).toNat - (0:Int).toNat))=_ from z442 1 enI l l.length (y49 _),y53]
 rfl
theorem z795 (l:List Int) (hl:l.length≤1048576):QQ 85 [ints l] [] (ints l) []:=by
 refine z16 z24 func85 rfl rfl 6 ntmps85 (by simp) ?_
 repeat' (first|apply y6 ok;rfl;conv=>whnf|apply z8 (z908 l hl);rfl;rfl;conv=>whnf|apply z8 (z1053 l hl);rfl;rfl;conv=>whnf)
 exact z67 rfl rfl rfl
noncomputable def glB (g:Graph) (l:List Tree):Bool:=z560 g && z452 l
theorem z728 {l:List Int} (h:z438 l=true):ValsOk l:=by
 unfold z438 at h
 rw [y68,decide_eq_true_eq,Bool.not_eq_true',List.any_eq_false] at h
 exact ⟨by omega,fun x hx=>by simpa [z150] using h.2 x hx⟩
theorem GB.vals {g:Graph} (h:GB g):∀ s∈g.st,ValsOk s.b:=fun s hs=>by
 obtain ⟨i,hi,rfl⟩:=List.mem_iff_getElem.1 hs
 exact z728 (h.2.2 i (by have:=h.2.1;omega) (by have:=h.2.1;omega) hi).2.2.1
def Lmx (l:List Tree):Prop:=l.length≤maxLen∧∀ t∈l,t.mx
theorem z1054 (g:Graph) (hg:g.mx) (l:List Tree) (hl:Lmx l) (a:Aut) (ha:a.mx):QQ 53 [.agg g.cs,lst 3 Tree.cs' l,.agg a.cs] [] (.bool (glB g l && autB a)) []:=by
 refine z16 z24 func53 rfl rfl 17 ntmps53 (by simp) ?_
 repeat' (first|apply y6 ok;rfl;conv=>whnf|apply z83<;>intro _<;>conv=>whnf|apply z8 (z698 g hg);rfl;rfl;conv=>whnf|apply z8 (z596 l hl.1 hl.2);rfl;rfl;conv=>whnf|apply z8 (z272 a ha);rfl;rfl;conv=>whnf)
 all_goals (refine z34 rfl ?_;(unfold glB;simp [*];done))
theorem z158 (l:List (List Int)):z80 (l.map z114)=l.map encL:=by
 rw [z208,List.map_map]
 refine List.map_congr_left fun r _=>?_
 show [AC.list 1 _ (z80 _)]=_
 rw [z212]
 simp [encL,ints,enI]
theorem z1047 (l:List Bool):z80 (l.map enB)=l.map enB:=z212 (fun b=>Value.bool b) l
theorem z637 {objs:Nat→AObj} {π Bn:List Nat} {o n:Nat} {l:List Bool} (ho:objs o=.cells 1 (l.map enB)) (h1:idx π o=none) (h2:inB Bn o=true) (hl:l.length=n):bor objs π Bn (.sref o 0 n)=lst 1 enB l:=by
 subst hl;exact z353 ho h1 h2 (by simp) (z1047 _)
theorem z1247 {objs:Nat→AObj} {π Bn:List Nat} {o:Nat} {l:List Bool} (ho:objs o=.cells 1 (l.map enB)) (h1:idx π o=none) (h2:inB Bn o=true):bor objs π Bn (.sref o 0 l.length)=lst 1 enB l :=
 z637 ho h1 h2 rfl
def State.co (s:State):List AC:=[.own 1 (s.a.map enI),.own 1 (s.b.map enI)]
theorem keepI {f:FuncId} {args:List AC} {n:Nat} {l:List Int} (h:QQ f args [] (.sref 0 0 n) [.cells 1 (l.map enI)]) (hl:l.length=n):QQ f args [] (ints l) []:=by
 subst hl
 exact h.keep (z212 _ _) (by simp)
theorem z147 {objs:Nat→AObj} {π Bn:List Nat} {o:Nat} {l:List Int} (ho:objs o=.cells 1 (l.map enI)) (h1:idx π o=none) (h2:inB Bn o=true):bor objs π Bn (.sref o 0 l.length)=ints l :=
 z353 ho h1 h2 (by simp) (z212 _ _)
theorem z1246 {objs:Nat→AObj} {π Bn:List Nat} {o n:Nat} {l:List Int} (ho:objs o=.cells 1 (l.map enI)) (h1:idx π o=none) (h2:inB Bn o=true) (hl:l.length=n):bor objs π Bn (.sref o 0 n)=ints l:=by
 subst hl;exact z147 ho h1 h2
end Go.Proofs.YteinbnahinpegaaGreat
namespace Go.Proofs.YteinbnahinpegaaGreat
open Go.Gl Proofs.Tryz
section
attribute [local irreducible] z18 RetS z42
theorem z412 (a b:List Int) (ha:a.length≤maxLen) (hb:b.length≤maxLen):QQ 32 [lst 1 enI a,lst 1 enI b] [] (.bool (decide (a=b))) []:=by
 unfold maxLen at ha hb
 refine z16 z24 func32 rfl rfl 26 ntmps32 (by simp) ?_
 repeat (refine y6 ok _ _ _ _ _ rfl ?_)
 refine z35 (fun h=>?_) (fun h=>?_)
 ·repeat (refine y6 ok _ _ _ _ _ rfl ?_)
  have hne:a≠b:=by rintro rfl;exact h rfl
  rw [y80 hne]
  exact ⟨[],by decide,rfl,rfl,y5 rfl,trivial⟩
 ·have hl:a.length=b.length:=by omega
  repeat (refine y6 ok _ _ _ _ _ rfl ?_)
  refine z982 (fun k:Nat=>([(0,lst 1 enI a),(1,lst 1 enI b),(5,.int k)],[])) (fun k=>k≤a.length∧a.take k=b.take k) (fun k=>a.length - k) 0 (by simp)
   ⟨[],rfl,by decide,rfl,⟨⟨rfl,rfl⟩,⟨rfl,rfl⟩,⟨rfl,rfl⟩,trivial⟩,trivial⟩ ?_
  intro k hk
  repeat (refine y6 ok _ _ _ _ _ rfl ?_)
  refine z7 (fun h=>?_) (fun h=>?_)
  ·have hka:k < a.length:=by omega
   repeat (first|refine y6 ok _ _ _ _ _ rfl ?_|refine y40 (by omega) ?_)
   refine ⟨_,z545 _ _ _ (by omega),?_⟩
   repeat ((refine y40 (by omega) ?_))
   refine ⟨_,z545 _ _ _ (by omega),?_⟩
   repeat (first|refine y6 ok _ _ _ _ _ rfl ?_|refine z27 (by kernel_rfl) ?_)
   refine z35 (fun h=>?_) (fun h=>?_)
   ·repeat (refine y6 ok _ _ _ _ _ rfl ?_)
    have hne:a≠b:=by rintro rfl;exact h rfl
    rw [y80 hne]
    exact ⟨[],by decide,rfl,rfl,y5 rfl,trivial⟩
   ·repeat (first|refine y6 ok _ _ _ _ _ rfl ?_|refine y40 (by first|omega|unfold inI;omega) ?_)
    refine ⟨k+1,[],⟨by omega,?_⟩,by omega,rfl,by decide,rfl,⟨⟨rfl,rfl⟩,⟨rfl,rfl⟩,⟨rfl,rfl⟩,trivial⟩,trivial⟩
    have h' : a[k]=b[k]:=h
    rw [y47 hka,y47 (by omega),hk.2,h']
  ·repeat (refine y6 ok _ _ _ _ _ rfl ?_)
   have he:a=b:=by
    have:=hk.2
    rwa [y54 (by omega),y54 (by omega)] at this
   rw [y79 he]
   exact ⟨[],by decide,rfl,rfl,y5 rfl,trivial⟩
end
attribute [local irreducible] z18 AWP z38 z41 z40
end Go.Proofs.YteinbnahinpegaaGreat
namespace Go.Proofs.YteinbnahinpegaaGreat
open Go.Gl Proofs.Tryz
attribute [local irreducible] z18 AWP z38 z41 z40 RetS z42
def onB (t:Trans) (n:Int):Bool:=decide (((n.toNat &&& t.care.toNat:Nat):Int)=t.val)
def z483 (n:Nat) (i:Nat) (ℓ to:Int) (e:Trans):List (Nat×Int):=if onB e ℓ then [((i:Nat) * n+e.src.toNat,to * n+e.dst)] else []
def z757 (n:Nat) (ed:List Trans) (i:Nat) (ℓ to:Int):List (Nat×Int):=ed.flatMap (z483 n i ℓ to)
def z758 (n:Nat) (ed:List Trans) (nx:List (List Int)) (ls:List Int) (i:Nat):List (Nat×Int):=(nx.getD i []).flatMap (z757 n ed i (ls.getD i 0))
def z756 (g:Graph) (ls:List Int) (a:Aut):List (Nat×Int):=(List.range g.st.length).flatMap (z758 a.acc.length a.ed g.nx ls)
def z64 (g:Graph) (ls:List Int) (a:Aut):List (List Int):=build (a.acc.length * g.st.length) (z756 g ls a)
theorem z755 (g:Graph) (hg:GB g) (ls:List Int) (a:Aut) (ha:AutP a):(z756 g ls a).length≤7372800:=by
 obtain ⟨⟨g1,g2⟩,g3,g4⟩:=hg
 have h1:∀ i ℓ to,(z757 a.acc.length a.ed i ℓ to).length≤2048:=fun i ℓ to=>by
  have:=z291 (f:=z483 a.acc.length i ℓ to) (c:=1) a.ed (fun e _=>by unfold z483;split<;>simp)
  have:=ha.2.1
  unfold z757;omega
 have h2:∀ i∈List.range g.st.length,(z758 a.acc.length a.ed g.nx ls i).length≤122880:=fun i hi=>by
  rw [y58] at hi
  unfold z758
  rw [z20 (l:=g.nx) (by omega)]
  have h3:=z291 (f:=z757 a.acc.length a.ed i (ls.getD i 0)) (c:=2048) g.nx[i] (fun e _=>h1 _ _ _)
  have h4:=(g4 i (by omega) (by omega) hi).2.1
  have:g.nx[i].length * 2048≤60 * 2048:=Nat.mul_le_mul_right _ (by omega)
  omega
 have h5:=z291 (f:=z758 a.acc.length a.ed g.nx ls) (c:=122880) (List.range g.st.length) h2
 rw [List.length_range] at h5
 have:g.st.length * 122880≤60 * 122880:=Nat.mul_le_mul_right _ (by omega)
 unfold z756;omega
end Go.Proofs.YteinbnahinpegaaGreat
