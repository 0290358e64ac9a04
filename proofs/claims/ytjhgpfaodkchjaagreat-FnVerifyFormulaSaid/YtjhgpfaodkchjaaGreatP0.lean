/- A part of the proofs over this program: Tab, T3, T4, T5, T6, T7, T8, T9, T10, T11, T12, T13, T15, T16, T17, T18, T19, T20, T21, T22, T23, T23R, T23S. -/
import Derived.Test.YtjhgpfaodkchjaaGreatG3
import Derived.Test.YtjhgpfaodkchjaaGreatProg
import Derived.KernelRfl
set_option linter.all false
namespace Go.Proofs.YtjhgpfaodkchjaaGreat
open Go.Gl Proofs.Tryz
abbrev QQ := CallsA prog
def tabL:List (Nat×TyI):=[
 (3,⟨.int .i64,1,8,.int .i64 0⟩),
 (33,⟨.slice 3,1,24,.slice none 0 0⟩),
 (30, ⟨.struct #[{ name := "Kind", type := 3, offset := 0, embedded := false, tag := "", pkgPath := "", byteOffset := 0 }, { name := "Atom", type := 3, offset := 1, embedded := false, tag := "", pkgPath := "", byteOffset := 8 }, { name := "Kids", type := 28, offset := 2, embedded := false, tag := "", pkgPath := "", byteOffset := 16 }], 3, 40, .agg #[.int .i64 0, .int .i64 0, .slice none 0 0]⟩),
 (26, ⟨.struct #[{ name := "States", type := 23, offset := 0, embedded := false, tag := "", pkgPath := "", byteOffset := 0 }, { name := "Next", type := 24, offset := 1, embedded := false, tag := "", pkgPath := "", byteOffset := 24 }], 2, 48, .agg #[.slice none 0 0, .slice none 0 0]⟩),
 (67,⟨.slice 4,1,24,.slice none 0 0⟩),
 (28,⟨.slice 30,1,24,.slice none 0 0⟩),
 (24,⟨.slice 33,1,24,.slice none 0 0⟩),
 (126, ⟨.struct #[{ name := "Kind", type := 3, offset := 0, embedded := false, tag := "", pkgPath := "", byteOffset := 0 }, { name := "Value", type := 3, offset := 1, embedded := false, tag := "", pkgPath := "", byteOffset := 8 }, { name := "Kids", type := 27, offset := 2, embedded := false, tag := "", pkgPath := "", byteOffset := 16 }], 3, 40, .agg #[.int .i64 0, .int .i64 0, .slice none 0 0]⟩),
 (70, ⟨.struct #[{ name := "Initial", type := 33, offset := 0, embedded := false, tag := "", pkgPath := "", byteOffset := 0 }, { name := "Accepting", type := 67, offset := 1, embedded := false, tag := "", pkgPath := "", byteOffset := 24 }, { name := "Edges", type := 68, offset := 2, embedded := false, tag := "", pkgPath := "", byteOffset := 48 }], 3, 72, .agg #[.slice none 0 0, .slice none 0 0, .slice none 0 0]⟩),
 (63, ⟨.struct #[{ name := "Kind", type := 3, offset := 0, embedded := false, tag := "", pkgPath := "", byteOffset := 0 }, { name := "Atom", type := 3, offset := 1, embedded := false, tag := "", pkgPath := "", byteOffset := 8 }, { name := "Kids", type := 61, offset := 2, embedded := false, tag := "", pkgPath := "", byteOffset := 16 }], 3, 40, .agg #[.int .i64 0, .int .i64 0, .slice none 0 0]⟩),
 (4,⟨.bool,1,1,.bool false⟩),
 (23,⟨.slice 99,1,24,.slice none 0 0⟩),
 (40, ⟨.struct #[{ name := "Stem", type := 33, offset := 0, embedded := false, tag := "", pkgPath := "", byteOffset := 0 }, { name := "Loop", type := 33, offset := 1, embedded := false, tag := "", pkgPath := "", byteOffset := 24 }], 2, 48, .agg #[.slice none 0 0, .slice none 0 0]⟩),
 (35, ⟨.struct #[{ name := "Ranks", type := 33, offset := 0, embedded := false, tag := "", pkgPath := "", byteOffset := 0 }], 1, 24, .agg #[.slice none 0 0]⟩),
 (151,⟨.slice 67,1,24,.slice none 0 0⟩),
 (99, ⟨.struct #[{ name := "Locs", type := 33, offset := 0, embedded := false, tag := "", pkgPath := "", byteOffset := 0 }, { name := "Vals", type := 33, offset := 1, embedded := false, tag := "", pkgPath := "", byteOffset := 24 }], 2, 48, .agg #[.slice none 0 0, .slice none 0 0]⟩),
 (27,⟨.slice 126,1,24,.slice none 0 0⟩),
 (68,⟨.slice 183,1,24,.slice none 0 0⟩),
 (61,⟨.slice 63,1,24,.slice none 0 0⟩),
 (221, ⟨.struct #[{ name := "From", type := 3, offset := 0, embedded := false, tag := "", pkgPath := "", byteOffset := 0 }, { name := "To", type := 3, offset := 1, embedded := false, tag := "", pkgPath := "", byteOffset := 8 }, { name := "Guard", type := 126, offset := 2, embedded := false, tag := "", pkgPath := "", byteOffset := 16 }, { name := "Var", type := 3, offset := 5, embedded := false, tag := "", pkgPath := "", byteOffset := 56 }, { name := "Value", type := 126, offset := 6, embedded := false, tag := "", pkgPath := "", byteOffset := 64 }, { name := "Sync", type := 3, offset := 9, embedded := false, tag := "", pkgPath := "", byteOffset := 104 }], 10, 112, .agg #[.int .i64 0, .int .i64 0, .int .i64 0, .int .i64 0, .slice none 0 0, .int .i64 0, .int .i64 0, .int .i64 0, .slice none 0 0, .int .i64 0]⟩),
 (183, ⟨.struct #[{ name := "From", type := 3, offset := 0, embedded := false, tag := "", pkgPath := "", byteOffset := 0 }, { name := "Care", type := 3, offset := 1, embedded := false, tag := "", pkgPath := "", byteOffset := 8 }, { name := "Value", type := 3, offset := 2, embedded := false, tag := "", pkgPath := "", byteOffset := 16 }, { name := "To", type := 3, offset := 3, embedded := false, tag := "", pkgPath := "", byteOffset := 24 }], 4, 32, .agg #[.int .i64 0, .int .i64 0, .int .i64 0, .int .i64 0]⟩),
 (22,⟨.slice 5,1,24,.slice none 0 0⟩),
 (47, ⟨.struct #[{ name := "Stem", type := 33, offset := 0, embedded := false, tag := "", pkgPath := "", byteOffset := 0 }, { name := "Loop", type := 33, offset := 1, embedded := false, tag := "", pkgPath := "", byteOffset := 24 }], 2, 48, .agg #[.slice none 0 0, .slice none 0 0]⟩),
 (144,⟨.slice 219,1,24,.slice none 0 0⟩),
 (146, ⟨.struct #[{ name := "Init", type := 33, offset := 0, embedded := false, tag := "", pkgPath := "", byteOffset := 0 }, { name := "Processes", type := 144, offset := 1, embedded := false, tag := "", pkgPath := "", byteOffset := 24 }], 2, 48, .agg #[.slice none 0 0, .slice none 0 0]⟩),
 (217,⟨.slice 221,1,24,.slice none 0 0⟩),
 (219, ⟨.struct #[{ name := "Locations", type := 3, offset := 0, embedded := false, tag := "", pkgPath := "", byteOffset := 0 }, { name := "Edges", type := 217, offset := 1, embedded := false, tag := "", pkgPath := "", byteOffset := 8 }], 2, 32, .agg #[.int .i64 0, .slice none 0 0]⟩),
 (174,⟨.slice 176,1,24,.slice none 0 0⟩),
 (288,⟨.int .u64,1,8,.int .u64 0⟩),
 (176, ⟨.struct #[{ name := "set", type := 3, offset := 0, embedded := false, tag := "", pkgPath := "loop.example/ltlcheck/impl", byteOffset := 0 }, { name := "phase", type := 3, offset := 1, embedded := false, tag := "", pkgPath := "loop.example/ltlcheck/impl", byteOffset := 8 }], 2, 16, .agg #[.int .i64 0, .int .i64 0]⟩),
 (5,⟨.int .u8,1,1,.int .u8 0⟩),
 (211,⟨.slice 215,1,24,.slice none 0 0⟩),
 (134, ⟨.struct #[{ name := "b", type := 22, offset := 0, embedded := false, tag := "", pkgPath := "loop.example/ltlcheck/spec", byteOffset := 0 }, { name := "p", type := 3, offset := 1, embedded := false, tag := "", pkgPath := "loop.example/ltlcheck/spec", byteOffset := 24 }], 2, 32, .agg #[.slice none 0 0, .int .i64 0]⟩),
 (185,⟨.int .u64,1,8,.int .u64 0⟩),
 (173, ⟨.struct #[{ name := "basics", type := 28, offset := 0, embedded := false, tag := "", pkgPath := "loop.example/ltlcheck/impl", byteOffset := 0 }, { name := "untils", type := 33, offset := 1, embedded := false, tag := "", pkgPath := "loop.example/ltlcheck/impl", byteOffset := 24 }], 2, 48, .agg #[.slice none 0 0, .slice none 0 0]⟩),
 (215, ⟨.struct #[{ name := "Process", type := 3, offset := 0, embedded := false, tag := "", pkgPath := "", byteOffset := 0 }, { name := "Edge", type := 3, offset := 1, embedded := false, tag := "", pkgPath := "", byteOffset := 8 }, { name := "Partner", type := 3, offset := 2, embedded := false, tag := "", pkgPath := "", byteOffset := 16 }, { name := "PartnerEdge", type := 3, offset := 3, embedded := false, tag := "", pkgPath := "", byteOffset := 24 }], 4, 32, .agg #[.int .i64 0, .int .i64 0, .int .i64 0, .int .i64 0]⟩),
 (202,⟨.pointer 3,1,8,.pointer none⟩),
 (171,⟨.pointer 173,1,8,.pointer none⟩),
 (238,⟨.map 176 3,1,8,.map none⟩),
 (242, ⟨.struct #[{ name := "care", type := 3, offset := 0, embedded := false, tag := "", pkgPath := "loop.example/ltlcheck/impl", byteOffset := 0 }, { name := "value", type := 3, offset := 1, embedded := false, tag := "", pkgPath := "loop.example/ltlcheck/impl", byteOffset := 8 }, { name := "to", type := 176, offset := 2, embedded := false, tag := "", pkgPath := "loop.example/ltlcheck/impl", byteOffset := 16 }], 4, 32, .agg #[.int .i64 0, .int .i64 0, .int .i64 0, .int .i64 0]⟩),
 (283,⟨.int .u64,1,8,.int .u64 0⟩),
 (281,⟨.int .u32,1,4,.int .u32 0⟩),
 (240,⟨.slice 242,1,24,.slice none 0 0⟩),
 (270,⟨.map 3 3,1,8,.map none⟩),
 (181,⟨.slice 68,1,24,.slice none 0 0⟩),
 (184,⟨.func #[3] #[] false,1,8,.nilFunc⟩),
 (285,⟨.func #[30] #[] false,1,8,.nilFunc⟩),
 (274,⟨.int .i64,1,8,.int .i64 0⟩),
 (9,⟨.string,1,16,.string ⟨#[]⟩⟩)]
def tab:Tab:=z732 tabL
theorem inf3:(prog.info? 3).map (fun j=>(j.zero,j.size,j.bytes))=some (some (.int .i64 0),1,8):=by kernel_rfl
theorem inf33:(prog.info? 33).map (fun j=>(j.zero,j.size,j.bytes))=some (some (.slice none 0 0),1,24):=by kernel_rfl
theorem inf30:(prog.info? 30).map (fun j=>(j.zero,j.size,j.bytes))=some (some (.agg #[.int .i64 0,.int .i64 0,.slice none 0 0]),3,40):=by kernel_rfl
theorem inf26:(prog.info? 26).map (fun j=>(j.zero,j.size,j.bytes))=some (some (.agg #[.slice none 0 0,.slice none 0 0]),2,48):=by kernel_rfl
theorem inf67:(prog.info? 67).map (fun j=>(j.zero,j.size,j.bytes))=some (some (.slice none 0 0),1,24):=by kernel_rfl
theorem inf28:(prog.info? 28).map (fun j=>(j.zero,j.size,j.bytes))=some (some (.slice none 0 0),1,24):=by kernel_rfl
theorem inf24:(prog.info? 24).map (fun j=>(j.zero,j.size,j.bytes))=some (some (.slice none 0 0),1,24):=by kernel_rfl
theorem inf126:(prog.info? 126).map (fun j=>(j.zero,j.size,j.bytes))=some (some (.agg #[.int .i64 0,.int .i64 0,.slice none 0 0]),3,40):=by kernel_rfl
theorem inf70:(prog.info? 70).map (fun j=>(j.zero,j.size,j.bytes))=some (some (.agg #[.slice none 0 0,.slice none 0 0,.slice none 0 0]),3,72):=by kernel_rfl
theorem inf63:(prog.info? 63).map (fun j=>(j.zero,j.size,j.bytes))=some (some (.agg #[.int .i64 0,.int .i64 0,.slice none 0 0]),3,40):=by kernel_rfl
theorem inf4:(prog.info? 4).map (fun j=>(j.zero,j.size,j.bytes))=some (some (.bool false),1,1):=by kernel_rfl
theorem inf23:(prog.info? 23).map (fun j=>(j.zero,j.size,j.bytes))=some (some (.slice none 0 0),1,24):=by kernel_rfl
theorem inf40:(prog.info? 40).map (fun j=>(j.zero,j.size,j.bytes))=some (some (.agg #[.slice none 0 0,.slice none 0 0]),2,48):=by kernel_rfl
theorem inf35:(prog.info? 35).map (fun j=>(j.zero,j.size,j.bytes))=some (some (.agg #[.slice none 0 0]),1,24):=by kernel_rfl
theorem inf151:(prog.info? 151).map (fun j=>(j.zero,j.size,j.bytes))=some (some (.slice none 0 0),1,24):=by kernel_rfl
theorem inf99:(prog.info? 99).map (fun j=>(j.zero,j.size,j.bytes))=some (some (.agg #[.slice none 0 0,.slice none 0 0]),2,48):=by kernel_rfl
theorem inf27:(prog.info? 27).map (fun j=>(j.zero,j.size,j.bytes))=some (some (.slice none 0 0),1,24):=by kernel_rfl
theorem inf68:(prog.info? 68).map (fun j=>(j.zero,j.size,j.bytes))=some (some (.slice none 0 0),1,24):=by kernel_rfl
theorem inf61:(prog.info? 61).map (fun j=>(j.zero,j.size,j.bytes))=some (some (.slice none 0 0),1,24):=by kernel_rfl
theorem inf221:(prog.info? 221).map (fun j=>(j.zero,j.size,j.bytes))=some (some (.agg #[.int .i64 0,.int .i64 0,.int .i64 0,.int .i64 0,.slice none 0 0,.int .i64 0,.int .i64 0,.int .i64 0,.slice none 0 0,.int .i64 0]),10,112):=by kernel_rfl
theorem inf183:(prog.info? 183).map (fun j=>(j.zero,j.size,j.bytes))=some (some (.agg #[.int .i64 0,.int .i64 0,.int .i64 0,.int .i64 0]),4,32):=by kernel_rfl
theorem inf22:(prog.info? 22).map (fun j=>(j.zero,j.size,j.bytes))=some (some (.slice none 0 0),1,24):=by kernel_rfl
theorem inf47:(prog.info? 47).map (fun j=>(j.zero,j.size,j.bytes))=some (some (.agg #[.slice none 0 0,.slice none 0 0]),2,48):=by kernel_rfl
theorem inf144:(prog.info? 144).map (fun j=>(j.zero,j.size,j.bytes))=some (some (.slice none 0 0),1,24):=by kernel_rfl
theorem inf146:(prog.info? 146).map (fun j=>(j.zero,j.size,j.bytes))=some (some (.agg #[.slice none 0 0,.slice none 0 0]),2,48):=by kernel_rfl
theorem inf217:(prog.info? 217).map (fun j=>(j.zero,j.size,j.bytes))=some (some (.slice none 0 0),1,24):=by kernel_rfl
theorem inf219:(prog.info? 219).map (fun j=>(j.zero,j.size,j.bytes))=some (some (.agg #[.int .i64 0,.slice none 0 0]),2,32):=by kernel_rfl
theorem inf174:(prog.info? 174).map (fun j=>(j.zero,j.size,j.bytes))=some (some (.slice none 0 0),1,24):=by kernel_rfl
theorem inf288:(prog.info? 288).map (fun j=>(j.zero,j.size,j.bytes))=some (some (.int .u64 0),1,8):=by kernel_rfl
theorem inf176:(prog.info? 176).map (fun j=>(j.zero,j.size,j.bytes))=some (some (.agg #[.int .i64 0,.int .i64 0]),2,16):=by kernel_rfl
theorem inf5:(prog.info? 5).map (fun j=>(j.zero,j.size,j.bytes))=some (some (.int .u8 0),1,1):=by kernel_rfl
theorem inf211:(prog.info? 211).map (fun j=>(j.zero,j.size,j.bytes))=some (some (.slice none 0 0),1,24):=by kernel_rfl
theorem inf134:(prog.info? 134).map (fun j=>(j.zero,j.size,j.bytes))=some (some (.agg #[.slice none 0 0,.int .i64 0]),2,32):=by kernel_rfl
theorem inf185:(prog.info? 185).map (fun j=>(j.zero,j.size,j.bytes))=some (some (.int .u64 0),1,8):=by kernel_rfl
theorem inf173:(prog.info? 173).map (fun j=>(j.zero,j.size,j.bytes))=some (some (.agg #[.slice none 0 0,.slice none 0 0]),2,48):=by kernel_rfl
theorem inf215:(prog.info? 215).map (fun j=>(j.zero,j.size,j.bytes))=some (some (.agg #[.int .i64 0,.int .i64 0,.int .i64 0,.int .i64 0]),4,32):=by kernel_rfl
theorem inf202:(prog.info? 202).map (fun j=>(j.zero,j.size,j.bytes))=some (some (.pointer none),1,8):=by kernel_rfl
theorem inf171:(prog.info? 171).map (fun j=>(j.zero,j.size,j.bytes))=some (some (.pointer none),1,8):=by kernel_rfl
theorem inf238:(prog.info? 238).map (fun j=>(j.zero,j.size,j.bytes))=some (some (.map none),1,8):=by kernel_rfl
theorem inf242:(prog.info? 242).map (fun j=>(j.zero,j.size,j.bytes))=some (some (.agg #[.int .i64 0,.int .i64 0,.int .i64 0,.int .i64 0]),4,32):=by kernel_rfl
theorem inf283:(prog.info? 283).map (fun j=>(j.zero,j.size,j.bytes))=some (some (.int .u64 0),1,8):=by kernel_rfl
theorem inf281:(prog.info? 281).map (fun j=>(j.zero,j.size,j.bytes))=some (some (.int .u32 0),1,4):=by kernel_rfl
theorem inf240:(prog.info? 240).map (fun j=>(j.zero,j.size,j.bytes))=some (some (.slice none 0 0),1,24):=by kernel_rfl
theorem inf270:(prog.info? 270).map (fun j=>(j.zero,j.size,j.bytes))=some (some (.map none),1,8):=by kernel_rfl
theorem inf181:(prog.info? 181).map (fun j=>(j.zero,j.size,j.bytes))=some (some (.slice none 0 0),1,24):=by kernel_rfl
theorem inf184:(prog.info? 184).map (fun j=>(j.zero,j.size,j.bytes))=some (some (.nilFunc),1,8):=by kernel_rfl
theorem inf285:(prog.info? 285).map (fun j=>(j.zero,j.size,j.bytes))=some (some (.nilFunc),1,8):=by kernel_rfl
theorem inf274:(prog.info? 274).map (fun j=>(j.zero,j.size,j.bytes))=some (some (.int .i64 0),1,8):=by kernel_rfl
theorem inf9:(prog.info? 9).map (fun j=>(j.zero,j.size,j.bytes))=some (some (.string ⟨#[]⟩),1,16):=by kernel_rfl
theorem z15:z125 prog tab:=tabOk_of (⟨z59 underlying3 inf3,⟨z59 underlying33 inf33,⟨z59 underlying30 inf30,⟨z59 underlying26 inf26,⟨z59 underlying67 inf67,⟨z59 underlying28 inf28,⟨z59 underlying24 inf24,⟨z59 underlying126 inf126,⟨z59 underlying70 inf70,⟨z59 underlying63 inf63,⟨z59 underlying4 inf4,⟨z59 underlying23 inf23,⟨z59 underlying40 inf40,⟨z59 underlying35 inf35,⟨z59 underlying151 inf151,⟨z59 underlying99 inf99,⟨z59 underlying27 inf27,⟨z59 underlying68 inf68,⟨z59 underlying61 inf61,⟨z59 underlying221 inf221,⟨z59 underlying183 inf183,⟨z59 underlying22 inf22,⟨z59 underlying47 inf47,⟨z59 underlying144 inf144,⟨z59 underlying146 inf146,⟨z59 underlying217 inf217,⟨z59 underlying219 inf219,⟨z59 underlying174 inf174,⟨z59 underlying288 inf288,⟨z59 underlying176 inf176,⟨z59 underlying5 inf5,⟨z59 underlying211 inf211,⟨z59 underlying134 inf134,⟨z59 underlying185 inf185,⟨z59 underlying173 inf173,⟨z59 underlying215 inf215,⟨z59 underlying202 inf202,⟨z59 underlying171 inf171,⟨z59 underlying238 inf238,⟨z59 underlying242 inf242,⟨z59 underlying283 inf283,⟨z59 underlying281 inf281,⟨z59 underlying240 inf240,⟨z59 underlying270 inf270,⟨z59 underlying181 inf181,⟨z59 underlying184 inf184,⟨z59 underlying285 inf285,⟨z59 underlying274 inf274,⟨z59 underlying9 inf9,trivial⟩⟩⟩⟩⟩⟩⟩⟩⟩⟩⟩⟩⟩⟩⟩⟩⟩⟩⟩⟩⟩⟩⟩⟩⟩⟩⟩⟩⟩⟩⟩⟩⟩⟩⟩⟩⟩⟩⟩⟩⟩⟩⟩⟩⟩⟩⟩⟩⟩)
end Go.Proofs.YtjhgpfaodkchjaaGreat
namespace Go.Proofs.YtjhgpfaodkchjaaGreat
open Go.Gl Proofs.Tryz
attribute [local irreducible] z18 RetS z45
def enI (n:Int):List AC:=[.int n]
def ints (l:List Int):AC:=.list 1 l.length (l.map enI)
theorem ok:Ok prog tab:=⟨z15,by kernel_rfl⟩
structure State where
 a:List Int
 b:List Int
 deriving DecidableEq
def State.cs (s:State):List AC:=[ints s.a,ints s.b]
def State.mx (s:State):Prop:=s.a.length≤maxLen∧s.b.length≤maxLen
def State.sz (s:State):Nat:=s.a.length+s.b.length
def lst {α:Type} (w:Nat) (e:α→List AC) (l:List α):AC:=.list w l.length (l.map e)
def tot {α:Type} (f:α→Nat) (l:List α):Nat:=l.length+(l.map f).sum
theorem z503 {α:Type} (f:α→Nat) (l:List α) (k:Nat):((l.take k).map f).sum≤(l.map f).sum:=by
 conv=>rhs;rw [← List.take_append_drop k l,y64,List.sum_append]
 omega
def State.mxs (l:List State):Prop:=l.length≤maxLen∧∀ s∈l,s.mx
def State.small (s:State):Prop:=s.a.length≤1048576∧s.b.length≤1048576
theorem State.unown (s:State):∀ x∈s.cs,x.unown=x:=fun x hx=>by
 simp only [State.cs,List.mem_cons,List.not_mem_nil,or_false] at hx
 rcases hx with rfl|rfl<;>rfl
def z27 {α:Type} (e:α→List AC) (a:α):AC:=.agg (e a)
theorem Tree.unown (t:Tree):∀ x∈Tree.cs' t,x.unown=x:=fun x hx=>by
 simp only [Tree.cs',List.mem_cons,List.not_mem_nil,or_false] at hx
 rcases hx with rfl|rfl|rfl<;>rfl
def encL (l:List Int):List AC:=[ints l]
structure Graph where
 st:List State
 nx:List (List Int)
 deriving DecidableEq
def Graph.a1 (g:Graph):AC:=lst 2 State.cs g.st
def Graph.a2 (g:Graph):AC:=lst 1 encL g.nx
def Graph.cs (g:Graph):List AC:=[lst 2 State.cs g.st,lst 1 encL g.nx]
def Graph.s1 (g:Graph):Nat:=tot State.sz g.st
def Graph.s2 (g:Graph):Nat:=tot List.length g.nx
def enB (b:Bool):List AC:=[.bool b]
structure Trans where
 src:Int
 care:Int
 val:Int
 dst:Int
 deriving DecidableEq
def Trans.cs (t:Trans):List AC:=[.int t.src,.int t.care,.int t.val,.int t.dst]
theorem Trans.unown (t:Trans):∀ x∈t.cs,x.unown=x:=fun x hx=>by
 simp only [Trans.cs,List.mem_cons,List.not_mem_nil,or_false] at hx
 rcases hx with rfl|rfl|rfl|rfl<;>rfl
structure Aut where
 ini:List Int
 acc:List Bool
 ed:List Trans
 deriving DecidableEq
def Aut.a1 (a:Aut):AC:=lst 1 enI a.ini
def Aut.a2 (a:Aut):AC:=lst 1 enB a.acc
def Aut.a3 (a:Aut):AC:=lst 4 Trans.cs a.ed
def Aut.cs (a:Aut):List AC:=[lst 1 enI a.ini,lst 1 enB a.acc,lst 4 Trans.cs a.ed]
def Aut.s1 (a:Aut):Nat:=a.ini.length
def Aut.s2 (a:Aut):Nat:=a.acc.length
def Aut.s3 (a:Aut):Nat:=a.ed.length
structure Cert where
 ranks:List Int
 deriving DecidableEq
def Cert.a1 (a:Cert):AC:=lst 1 enI a.ranks
def Cert.cs (a:Cert):List AC:=[lst 1 enI a.ranks]
def Cert.s1 (a:Cert):Nat:=a.ranks.length
end Go.Proofs.YtjhgpfaodkchjaaGreat
namespace Go.Proofs.YtjhgpfaodkchjaaGreat
open Go.Gl Proofs.Tryz
attribute [local irreducible] z18 AWP z31 z35 z34 RetS z45
def btw (n lo hi:Int):Bool:=decide (lo≤n) && decide (n≤hi)
theorem z94 {n lo hi:Int} : btw n lo hi=true↔lo≤n∧n≤hi:=by simp [btw]
theorem z250 {n lo hi:Int} : btw n lo hi=false↔¬(lo≤n∧n≤hi):=by rw [← z94];simp
theorem z266 (n lo hi:Int):QQ 84 [.int n,.int lo,.int hi] [] (.bool (btw n lo hi)) []:=by
 refine z12 z15 func84 rfl rfl 15 ntmps84 (by simp) ?_
 repeat' (first|apply y4 ok;rfl;conv=>whnf|apply z6<;>intro _<;>conv=>whnf)
 all_goals (refine z19 rfl ?_;(unfold btw;simp [*];done))
def idxF {α:Type} (p:α→Bool) (l:List α):Int:=match l.findIdx? p with
 |some i=>i
 |none=>-1
theorem z182 {α:Type} {p:α→Bool} {l:List α} {i:Nat} (hi:i < l.length) (h:p l[i]=true) (hn:∀ j (hj:j < l.length),j < i→p l[j]=false):idxF p l=i:=by
 have:l.findIdx? p=some i:=List.findIdx?_eq_some_iff_getElem.2 ⟨hi,h,fun j hj=>by simp [hn j (by omega) hj]⟩
 simp [idxF,this]
theorem z157 {α:Type} {p:α→Bool} {l:List α} (hn:∀ j (hj:j < l.length),p l[j]=false):idxF p l=-1:=by
 have:l.findIdx? p=none:=List.findIdx?_eq_none_iff.2 fun x hx=>by
  obtain ⟨i,hi,rfl⟩:=List.mem_iff_getElem.1 hx
  exact hn i hi
 simp [idxF,this]
theorem z218 {α:Type} (p:α→Bool) (l:List α):decide (0≤idxF p l)=l.any p:=by
 unfold idxF
 split
 ·rename_i i e
  obtain ⟨h,hp,_⟩:=List.findIdx?_eq_some_iff_getElem.1 e
  have:l.any p=true:=List.any_eq_true.2 ⟨_,y44 h,hp⟩
  rw [this]
  simp
 ·rename_i e
  have:=List.findIdx?_eq_none_iff.1 e
  have:l.any p=false:=List.any_eq_false.2 fun x hx=>by simp [this x hx]
  rw [this]
  simp
theorem z689 (l:List Int) (hl:l.length≤maxLen) (p:Int→Bool) (f:FuncId) (hf:∀ x∈l,QQ f [.int x] [] (.bool (p x)) []):QQ 179 [lst 1 enI l,.fn (.func f) [] []] [] (.int (idxF p l)) []:=by
 unfold maxLen at hl
 refine z12 z15 func179 rfl rfl 19 ntmps179 (by simp) ?_
 repeat' ((apply y4 ok;rfl;conv=>whnf))
 refine z97 (fun k:Nat=>([(0,lst 1 enI l),(1,.fn (.func f) [] []),(7,.int l.length),(8,.int k)],[])) (fun k=>k≤l.length∧∀ j (hj:j < l.length),j < k→p l[j]=false) (fun k=>l.length - k) 0 (by simp)
  ⟨[],rfl,by decide,rfl,⟨⟨rfl,rfl⟩,⟨rfl,rfl⟩,⟨rfl,rfl⟩,⟨rfl,rfl⟩,trivial⟩,trivial⟩ ?_
 intro k hk
 repeat' (first|apply y4 ok;rfl;conv=>whnf|apply y43;(first|omega|unfold inI;omega);conv=>whnf|with_reducible apply z8;omega;intro _;conv=>whnf|apply z6<;>intro _<;>conv=>whnf|apply z82<;>intro _<;>conv=>whnf|apply z4 (hf l[k] (y44 _));rfl;rfl;conv=>whnf)
 ·rename_i h h1
  exact z55 rfl rfl (by rw [z182 (by omega) h1 hk.2];rfl)
 ·rename_i h h1
  refine z85 (k+1) [] ⟨by omega,fun j hj hjk=>?_⟩ (by omega) ⟨rfl,by decide,rfl,⟨⟨rfl,rfl⟩,⟨rfl,rfl⟩,⟨rfl,rfl⟩,⟨rfl,rfl⟩,trivial⟩,trivial⟩
  rcases y70 j k with h2|h2
  ·exact hk.2 j hj h2
  ·obtain rfl:j=k:=by omega
   exact h1
 ·exact z55 rfl rfl (by rw [z157 fun j hj=>hk.2 j hj (by omega)];rfl)
theorem z187 (l:List Int) (hl:l.length≤maxLen) (p:Int→Bool) (f:FuncId) (hf:∀ x∈l,QQ f [.int x] [] (.bool (p x)) []):QQ 98 [lst 1 enI l,.fn (.func f) [] []] [] (.bool (l.any p)) []:=by
 refine z12 z15 func98 rfl rfl 9 ntmps98 (by simp) ?_
 repeat' (first|apply y4 ok;rfl;conv=>whnf|apply z4 (z689 l hl p f hf);rfl;rfl;conv=>whnf)
 exact z19 rfl (by rw [← z218])
theorem z1004 (n:Int):QQ 170 [.int n] [] (.bool (!btw n 0 3)) []:=by
 refine z12 z15 func170 rfl rfl 6 ntmps170 (by simp) ?_
 repeat' (first|apply y4 ok;rfl;conv=>whnf|apply z4 (z266 n 0 3);rfl;rfl;conv=>whnf)
 exact z19 rfl rfl
def z423 (l:List Int):Bool:=decide ((l.length:Int)=3) && !(l.any fun n=>!btw n 0 3)
theorem z1105 (l:List Int) (hl:l.length≤maxLen):QQ 87 [ints l] [] (.bool (z423 l)) []:=by
 have hl':=hl
 unfold maxLen at hl'
 have hk:=z187 l hl (fun n=>!btw n 0 3) 170 (fun x _=>z1004 x)
 refine z12 z15 func87 rfl rfl 11 ntmps87 (by simp) ?_
 repeat' (first|apply y4 ok;rfl;conv=>whnf|apply z6<;>intro _<;>conv=>whnf|apply z4 hk;rfl;rfl;conv=>whnf)
 all_goals (refine z19 rfl ?_;(unfold z423;simp [*];done))
end Go.Proofs.YtjhgpfaodkchjaaGreat
namespace Go.Proofs.YtjhgpfaodkchjaaGreat
open Go.Gl Proofs.Tryz
attribute [local irreducible] z18 z935 z497 RetS z45
theorem z546 (l:List State) (hl:l.length≤maxLen) (p:State→Bool) (f:FuncId) (hf:∀ x∈l,QQ f [z27 State.cs x] [] (.bool (p x)) []):QQ 169 [lst 2 State.cs l,.fn (.func f) [] []] [] (.int (idxF p l)) []:=by
 unfold maxLen at hl
 refine z12 z15 func169 rfl rfl 19 ntmps169 (by simp) ?_
 repeat' (((apply y4 ok;rfl))<;>conv=>whnf)
 refine z97 (fun k:Nat=>([(0,lst 2 State.cs l),(1,.fn (.func f) [] []),(7,.int l.length),(8,.int k)],[])) (fun k=>k≤l.length∧∀ j (hj:j < l.length),j < k→p l[j]=false) (fun k=>l.length - k) 0 (by simp)
  ⟨[],rfl,by decide,rfl,⟨⟨rfl,rfl⟩,⟨rfl,rfl⟩,⟨rfl,rfl⟩,⟨rfl,rfl⟩,trivial⟩,trivial⟩ ?_
 intro k hk
 repeat' ((first|apply y4 ok;rfl|(apply y43;first|omega|unfold inI;omega)|((with_reducible apply z8;omega));intro _|(first|apply z6|apply z82)<;>intro _|apply z4 (hf l[k] (y44 _));rfl;rfl)<;>conv=>whnf)
 ·rename_i h h1
  exact z55 rfl rfl (by rw [z182 (by omega) h1 hk.2];rfl)
 ·rename_i h h1
  refine z85 (k+1) [] ⟨by omega,fun j hj hjk=>?_⟩ (by omega) ⟨rfl,by decide,rfl,⟨⟨rfl,rfl⟩,⟨rfl,rfl⟩,⟨rfl,rfl⟩,⟨rfl,rfl⟩,trivial⟩,trivial⟩
  rcases y70 j k with h2|h2
  ·exact hk.2 j hj h2
  ·obtain rfl:j=k:=by omega
   exact h1
 ·exact z55 rfl rfl (by rw [z157 fun j hj=>hk.2 j hj (by omega)];rfl)
theorem z409 (l:List State) (hl:l.length≤maxLen) (p:State→Bool) (f:FuncId) (hf:∀ x∈l,QQ f [z27 State.cs x] [] (.bool (p x)) []):QQ 85 [lst 2 State.cs l,.fn (.func f) [] []] [] (.bool (l.any p)) []:=by
 refine z12 z15 func85 rfl rfl 9 ntmps85 (by simp) ?_
 repeat' ((first|apply y4 ok;rfl|apply z4 (z546 l hl p f hf);rfl;rfl)<;>conv=>whnf)
 exact z19 rfl (by rw [← z218])
theorem z584 (l:List Tree) (hl:l.length≤maxLen) (p:Tree→Bool) (f:FuncId) (hf:∀ x∈l,QQ f [z27 Tree.cs' x] [] (.bool (p x)) []):QQ 172 [lst 3 Tree.cs' l,.fn (.func f) [] []] [] (.int (idxF p l)) []:=by
 unfold maxLen at hl
 refine z12 z15 func172 rfl rfl 19 ntmps172 (by simp) ?_
 repeat' (((apply y4 ok;rfl))<;>conv=>whnf)
 refine z97 (fun k:Nat=>([(0,lst 3 Tree.cs' l),(1,.fn (.func f) [] []),(7,.int l.length),(8,.int k)],[])) (fun k=>k≤l.length∧∀ j (hj:j < l.length),j < k→p l[j]=false) (fun k=>l.length - k) 0 (by simp)
  ⟨[],rfl,by decide,rfl,⟨⟨rfl,rfl⟩,⟨rfl,rfl⟩,⟨rfl,rfl⟩,⟨rfl,rfl⟩,trivial⟩,trivial⟩ ?_
 intro k hk
 repeat' ((first|apply y4 ok;rfl|(apply y43;first|omega|unfold inI;omega)|((with_reducible apply z8;omega));intro _|(first|apply z6|apply z82)<;>intro _|apply z4 (hf l[k] (y44 _));rfl;rfl)<;>conv=>whnf)
 ·rename_i h h1
  exact z55 rfl rfl (by rw [z182 (by omega) h1 hk.2];rfl)
 ·rename_i h h1
  refine z85 (k+1) [] ⟨by omega,fun j hj hjk=>?_⟩ (by omega) ⟨rfl,by decide,rfl,⟨⟨rfl,rfl⟩,⟨rfl,rfl⟩,⟨rfl,rfl⟩,⟨rfl,rfl⟩,trivial⟩,trivial⟩
  rcases y70 j k with h2|h2
  ·exact hk.2 j hj h2
  ·obtain rfl:j=k:=by omega
   exact h1
 ·exact z55 rfl rfl (by rw [z157 fun j hj=>hk.2 j hj (by omega)];rfl)
theorem z440 (l:List Tree) (hl:l.length≤maxLen) (p:Tree→Bool) (f:FuncId) (hf:∀ x∈l,QQ f [z27 Tree.cs' x] [] (.bool (p x)) []):QQ 91 [lst 3 Tree.cs' l,.fn (.func f) [] []] [] (.bool (l.any p)) []:=by
 refine z12 z15 func91 rfl rfl 9 ntmps91 (by simp) ?_
 repeat' ((first|apply y4 ok;rfl|apply z4 (z584 l hl p f hf);rfl;rfl)<;>conv=>whnf)
 exact z19 rfl (by rw [← z218])
theorem z547 (c:Int) (l:List (List Int)) (hl:l.length≤maxLen) (p:(List Int)→Bool) (f:FuncId) (hf:∀ x∈l,QQ f [ints x,.pt [.int c]] [] (.bool (p x)) []):QQ 171 [lst 1 encL l,.fn (.func f) [] [.pt [.int c]]] [] (.int (idxF p l)) []:=by
 unfold maxLen at hl
 refine z12 z15 func171 rfl rfl 19 ntmps171 (by simp) ?_
 repeat' (((apply y4 ok;rfl))<;>conv=>whnf)
 refine z97 (fun k:Nat=>([(0,lst 1 encL l),(1,.fn (.func f) [] [.pt [.int c]]),(7,.int l.length),(8,.int k)],[])) (fun k=>k≤l.length∧∀ j (hj:j < l.length),j < k→p l[j]=false) (fun k=>l.length - k) 0 (by simp)
  ⟨[],rfl,by decide,rfl,⟨⟨rfl,rfl⟩,⟨rfl,rfl⟩,⟨rfl,rfl⟩,⟨rfl,rfl⟩,trivial⟩,trivial⟩ ?_
 intro k hk
 repeat' ((first|apply y4 ok;rfl|(apply y43;first|omega|unfold inI;omega)|((with_reducible apply z8;omega));intro _|(first|apply z6|apply z82)<;>intro _|apply z4 (hf l[k] (y44 _));rfl;rfl)<;>conv=>whnf)
 ·rename_i h h1
  exact z55 rfl rfl (by rw [z182 (by omega) h1 hk.2];rfl)
 ·rename_i h h1
  refine z85 (k+1) [] ⟨by omega,fun j hj hjk=>?_⟩ (by omega) ⟨rfl,by decide,rfl,⟨⟨rfl,rfl⟩,⟨rfl,rfl⟩,⟨rfl,rfl⟩,⟨rfl,rfl⟩,trivial⟩,trivial⟩
  rcases y70 j k with h2|h2
  ·exact hk.2 j hj h2
  ·obtain rfl:j=k:=by omega
   exact h1
 ·exact z55 rfl rfl (by rw [z157 fun j hj=>hk.2 j hj (by omega)];rfl)
theorem z410 (c:Int) (l:List (List Int)) (hl:l.length≤maxLen) (p:(List Int)→Bool) (f:FuncId) (hf:∀ x∈l,QQ f [ints x,.pt [.int c]] [] (.bool (p x)) []):QQ 88 [lst 1 encL l,.fn (.func f) [] [.pt [.int c]]] [] (.bool (l.any p)) []:=by
 refine z12 z15 func88 rfl rfl 9 ntmps88 (by simp) ?_
 repeat' ((first|apply y4 ok;rfl|apply z4 (z547 c l hl p f hf);rfl;rfl)<;>conv=>whnf)
 exact z19 rfl (by rw [← z218])
end Go.Proofs.YtjhgpfaodkchjaaGreat
namespace Go.Proofs.YtjhgpfaodkchjaaGreat
open Go.Gl Proofs.Tryz
attribute [local irreducible] z18 AWP z31 z35 z34 RetS z45
theorem z895 (l:List Int) (hl:l.length≤maxLen) (v:Int):QQ 64 [ints l,.int v] [] (.int (idxF (fun x=>decide (v=x)) l)) []:=by
 unfold maxLen at hl
 refine z12 z15 func64 rfl rfl 19 ntmps64 (by simp) ?_
 repeat' (((apply y4 ok;rfl))<;>conv=>whnf)
 refine z97 (fun k:Nat=>([(0,ints l),(1,.int v),(7,.int l.length),(8,.int k)],[])) (fun k=>k≤l.length∧∀ j (hj:j < l.length),j < k→decide (v=l[j])=false) (fun k=>l.length - k) 0 (by simp)
  ⟨[],rfl,by decide,rfl,⟨⟨rfl,rfl⟩,⟨rfl,rfl⟩,⟨rfl,rfl⟩,⟨rfl,rfl⟩,trivial⟩,trivial⟩ ?_
 intro k hk
 repeat' ((first|apply y4 ok;rfl|(apply y43;first|omega|unfold inI;omega)|((with_reducible apply z8;omega));intro _|apply z6<;>intro _)<;>conv=>whnf)
 ·rename_i h h1
  exact z55 rfl rfl (by rw [z182 (p:=fun x=>decide (v=x)) (by omega) (y82 h1) hk.2];rfl)
 ·rename_i h h1
  refine z85 (k+1) [] ⟨by omega,fun j hj hjk=>?_⟩ (by omega) ⟨rfl,by decide,rfl,⟨⟨rfl,rfl⟩,⟨rfl,rfl⟩,⟨rfl,rfl⟩,⟨rfl,rfl⟩,trivial⟩,trivial⟩
  rcases y70 j k with h2|h2
  ·exact hk.2 j hj h2
  ·obtain rfl:j=k:=by omega
   exact y83 h1
 ·exact z55 rfl rfl (by rw [z157 (p:=fun x=>decide (v=x)) fun j hj=>hk.2 j hj (by omega)];rfl)
theorem z123 (l:List Int) (hl:l.length≤maxLen) (v:Int):QQ 57 [ints l,.int v] [] (.bool (decide (v∈l))) []:=by
 refine z12 z15 func57 rfl rfl 9 ntmps57 (by simp) ?_
 repeat' ((first|apply y4 ok;rfl|apply z4 (z895 l hl v);rfl;rfl)<;>conv=>whnf)
 have e:decide (v∈l)=l.any (fun x=>decide (v=x)):=by
  rw [Bool.eq_iff_iff];simp
 exact z19 rfl (by rw [e,← z218])
theorem z318 {α:Type} (w:Nat) (e:α→List AC) (l:List α) (k:Nat) (hk:k≤l.length):AC.list w ((k:Int).toNat - (0:Int).toNat) (((l.map e).drop (0:Int).toNat).take ((k:Int).toNat - (0:Int).toNat))=lst w e (l.take k):=by
 unfold lst
 rw [y48,List.map_take]
 simp only [y77,Int.toNat_zero,Nat.sub_zero,List.drop_zero]
 rw [Nat.min_eq_left hk]
def Distinct (l:List Int) (n:Int) (k:Nat):Prop:=∀ i (h:i < l.length),i < k→(0≤l[i]∧l[i]≤n - 1)∧l[i] ∉ l.take i
noncomputable instance {l:List Int} {n:Int} {k:Nat} : Decidable (Distinct l n k):=Classical.propDecidable _
theorem z908 (l:List Int) (hl:l.length≤maxLen) (n:Int) (h0:0≤n) (h1:n≤maxLen):QQ 90 [ints l,.int n] [] (.bool (decide (Distinct l n l.length))) []:=by
 have hl':=hl
 unfold maxLen at hl' h1
 refine z12 z15 func90 rfl rfl 27 ntmps90 (by simp) ?_
 repeat' (((apply y4 ok;rfl))<;>conv=>whnf)
 refine z97 (fun k:Nat=>([(0,ints l),(1,.int n),(7,ints l),(8,.int l.length),(9,.int k)],[])) (fun k=>k≤l.length∧Distinct l n k) (fun k=>l.length - k) 0 ⟨by omega,fun i h hi=>by omega⟩
  ⟨[],rfl,by decide,rfl,⟨⟨rfl,rfl⟩,⟨rfl,rfl⟩,⟨rfl,rfl⟩,⟨rfl,rfl⟩,⟨rfl,rfl⟩,trivial⟩,trivial⟩ ?_
 intro k hk
 repeat' ((first|apply y4 ok;rfl|(apply y43;first|omega|unfold inI;omega)|((with_reducible apply z8;omega));intro _|(first|apply z6|apply z78)<;>intro _|apply z4 (z266 l[k] 0 (n - 1));rfl;rfl)<;>conv=>whnf)
 ·rename_i hb
  refine z19 rfl (y83 fun hd=>?_)
  have:=(hd k ‹_› ‹_›).1
  rw [z250] at hb
  exact hb this
 ·rename_i hb
  apply z4 (z123 (l.take k) (by rw [y48];omega) l[k])
  ·show _=[AC.list 1 _ _,_]
   rw [show AC.list 1 (l.take k).length ((l.take k).map enI)=_ from (z318 1 enI l k hk.1).symm]
   rfl
  ·rfl
  conv=>whnf
  repeat' ((first|apply y4 ok;rfl|apply y43;(unfold inI;omega)|apply z6<;>intro _)<;>conv=>whnf)
  ·rename_i h2
   exact z19 rfl (y83 fun hd=>(hd k ‹_› ‹_›).2 h2)
  ·rename_i h2
   refine z85 (k+1) [] ⟨by omega,fun i hi hik=>?_⟩ (by omega) ⟨rfl,by decide,rfl,⟨⟨rfl,rfl⟩,⟨rfl,rfl⟩,⟨rfl,rfl⟩,⟨rfl,rfl⟩,⟨rfl,rfl⟩,trivial⟩,trivial⟩
   rcases y70 i k with h3|h3
   ·exact hk.2 i hi h3
   ·obtain rfl:i=k:=by omega
    exact ⟨z94.1 hb,h2⟩
 ·exact z19 rfl (y82 fun i h hi=>hk.2 i h (by omega))
theorem z588 (s:State) (hs:s.mx):QQ 86 [z27 State.cs s] [] (.bool (!z423 s.b)) []:=by
 refine z12 z15 func86 rfl rfl 7 ntmps86 (by simp) ?_
 repeat' (first|apply y4 ok;rfl;conv=>whnf|apply z4 (z1105 s.b hs.2);rfl;rfl;conv=>whnf)
 exact z19 rfl rfl
noncomputable def z843 (n:Int) (l:List Int):Bool:=!decide ((l.length:Int)=0) && decide (Distinct l n l.length)
theorem z587 (c:Int) (h0:0≤c) (h1:c≤maxLen) (l:List Int) (hl:l.length≤maxLen):QQ 89 [ints l,.pt [.int c]] [] (.bool (!z843 c l)) []:=by
 have hl':=hl
 unfold maxLen at hl'
 refine z12 z15 func89 rfl rfl 13 ntmps89 (by simp) ?_
 repeat' (first|apply y4 ok;rfl;conv=>whnf|apply z6<;>intro _<;>conv=>whnf|apply z4 (z908 l hl c h0 h1);rfl;rfl;conv=>whnf)
 all_goals (refine z19 rfl ?_;first|unfold z843;simp [*];done|unfold z843;simp_all;done)
def Graph.mx (g:Graph):Prop:=State.mxs g.st∧g.nx.length≤maxLen∧∀ l∈g.nx,l.length≤maxLen
noncomputable def z208 (g:Graph):Bool:=btw g.st.length 1 60 && (decide ((g.nx.length:Int)=g.st.length) && (!(g.st.any fun s=>!z423 s.b) && !(g.nx.any fun l=>!z843 g.st.length l)))
theorem z269 (g:Graph) (hg:g.mx):QQ 35 [.agg g.cs] [] (.bool (z208 g)) []:=by
 obtain ⟨hs,hn,hm⟩:=hg
 have hl1:=hs.1
 unfold maxLen at hl1
 have k1:=z409 g.st hs.1 (fun s=>!z423 s.b) 86 (fun s hx=>z588 s (hs.2 s hx))
 have k2:=z410 (g.st.length:Int) g.nx hn (fun l=>!z843 g.st.length l) 89 (fun l hx=>z587 _ (by omega) (by unfold maxLen;omega) l (hm l hx))
 refine z12 z15 func35 rfl rfl 29 ntmps35 (by simp) ?_
 repeat' (first|apply y4 ok;rfl;conv=>whnf|apply z6<;>intro _<;>conv=>whnf|apply z78<;>intro _<;>conv=>whnf|apply z82<;>intro _<;>conv=>whnf|apply z4 (z266 (g.st.length:Int) 1 60);rfl;rfl;conv=>whnf|apply z4 k1;rfl;rfl;conv=>whnf|apply z988 [1] k2;rfl;rfl;rfl;rfl;conv=>whnf)
 all_goals (refine z19 rfl ?_;(unfold z208;simp [*];done))
theorem z408 {d : Int} (l : List Tree) (hl : l.length ≤ maxLen) (p : Tree → Int → Bool) (nx : Tree → Int → Int) (okS : Int → Prop) (hok : ∀ x s, okS s → p x s = false → okS (nx x s)) (f : FuncId) (s : Int) (h0 : okS s)
    (hf:∀ x∈l,∀ s,okS s→QQ f [z27 Tree.cs' x,.pt [.int d],.ptr 1 none 0] [.cells 1 [[.int s]],.cells 1 [[.ptr 0 none 0]]] (.bool (p x s)) [.cells 1 [[.int (nx x s)]],.cells 1 [[.ptr 0 none 0]]]) :
    QQ 172 [lst 3 Tree.cs' l,.fn (.func f) [] [.pt [.int d],.ptr 1 none 0]] [.cells 1 [[.int s]],.cells 1 [[.ptr 0 none 0]]] (.int (idxS p nx l s 0).1) [.cells 1 [[.int (idxS p nx l s 0).2]],.cells 1 [[.ptr 0 none 0]]]:=by
  unfold maxLen at hl
  refine z12 z15 func172 rfl rfl 19 ntmps172 (by simp) ?_
  repeat' (((apply y4 ok;rfl))<;>conv=>whnf)
  refine z97 (fun x:Nat×Int=>([(0,lst 3 Tree.cs' l),(1,.fn (.func f) [] [.pt [.int d],.ptr 1 none 0]),(7,.int l.length),(8,.int x.1)],[.cells 1 [[.int x.2]],.cells 1 [[.ptr 0 none 0]]])) (fun x=>x.1≤l.length∧okS x.2∧idxS p nx l s 0=idxS p nx (l.drop x.1) x.2 x.1) (fun x=>l.length - x.1) (0,s) ⟨by omega,h0,rfl⟩
    ⟨[0,1],rfl,by decide,rfl,⟨⟨rfl,rfl⟩,⟨rfl,rfl⟩,⟨rfl,rfl⟩,⟨rfl,rfl⟩,trivial⟩,⟨z21 rfl rfl,z21 rfl rfl,trivial⟩⟩ ?_
  rintro ⟨k,t⟩ ⟨hk1,hk2,hk3⟩
  dsimp only at hk1 hk2 hk3
  repeat' ((first|apply y4 ok;rfl|(apply y43;first|omega|unfold inI;omega)|((with_reducible apply z8;omega));intro _|(first|apply z6|apply z82)<;>intro _|apply z37 [0,1] [] (hf l[k] (y44 _) t hk2);rfl;rfl;rfl)<;>conv=>whnf)
  · rename_i h hkl h1
    rw [y80 hkl,idxS,if_pos h1] at hk3
    rw [hk3]
    exact z90 [0,1] (by decide) rfl rfl rfl ⟨z21 rfl rfl,z21 rfl rfl,trivial⟩
  · rename_i h hkl h1
    rw [y80 hkl,idxS,if_neg (by rw [h1];simp)] at hk3
    exact z85 (k+1,nx l[k] t) [0,1] ⟨by dsimp only;omega,hok _ _ hk2 h1,hk3⟩ (by dsimp only;omega) ⟨rfl,by decide,rfl,⟨⟨rfl,rfl⟩,⟨rfl,rfl⟩,⟨rfl,rfl⟩,⟨rfl,rfl⟩,trivial⟩,⟨z21 rfl rfl,z21 rfl rfl,trivial⟩⟩
  · rw [y84 (by omega),idxS] at hk3
    rw [hk3]
    exact z90 [0,1] (by decide) rfl rfl rfl ⟨z21 rfl rfl,z21 rfl rfl,trivial⟩
theorem z591 {d : Int} (l : List Tree) (hl : l.length ≤ maxLen) (p : Tree → Int → Bool) (nx : Tree → Int → Int) (okS : Int → Prop) (hok : ∀ x s, okS s → p x s = false → okS (nx x s)) (f : FuncId) (s : Int) (h0 : okS s)
    (hf:∀ x∈l,∀ s,okS s→QQ f [z27 Tree.cs' x,.pt [.int d],.ptr 1 none 0] [.cells 1 [[.int s]],.cells 1 [[.ptr 0 none 0]]] (.bool (p x s)) [.cells 1 [[.int (nx x s)]],.cells 1 [[.ptr 0 none 0]]]) :
    QQ 91 [lst 3 Tree.cs' l,.fn (.func f) [] [.pt [.int d],.ptr 1 none 0]] [.cells 1 [[.int s]],.cells 1 [[.ptr 0 none 0]]] (.bool (decide (0≤(idxS p nx l s 0).1))) [.cells 1 [[.int (idxS p nx l s 0).2]],.cells 1 [[.ptr 0 none 0]]]:=by
  refine z12 z15 func91 rfl rfl 9 ntmps91 (by simp) ?_
  repeat' ((first|apply y4 ok;rfl|apply z37 [0,1] [] (z408 (d:=d) l hl p nx okS hok f s h0 hf);rfl;rfl;rfl)<;>conv=>whnf)
  exact z90 [0,1] (by decide) rfl rfl rfl ⟨z21 rfl rfl,z21 rfl rfl,trivial⟩
theorem walk_ok (t:Tree):t.mx→∀ d n:Int,0≤d→d≤100→0≤n→n≤15→QQ 241 [z27 Tree.cs' t,.int d,.ptr 0 none 0] [.cells 1 [[.int n]]] (.bool (t.walkE d n).2) [.cells 1 [[.int (t.walkE d n).1]]]:=by
  induction t using y27 with|h t ih=>?_
  intro hm d n hd0 hd1 h0 h1
  rw [y28] at hm
  have hs:=Tree.walkE_spec.1
  have hk:d≤6→n+1≤15→QQ 91 [lst 3 Tree.cs' t.kids,.fn (.func 279) [] [.pt [.int d],.ptr 1 none 0]] [.cells 1 [[.int (n+1)]],.cells 1 [[.ptr 0 none 0]]] (.bool (!(Tree.walkEs t.kids (d+1) (n+1)).2)) [.cells 1 [[.int (Tree.walkEs t.kids (d+1) (n+1)).1]],.cells 1 [[.ptr 0 none 0]]]:=by
    intro hd hn
    have h:=z591 (d:=d) t.kids hm.1 (fun x s=>!(x.walkE (d+1) s).2) (fun x s=>(x.walkE (d+1) s).1) (fun s=>0≤s∧s≤15) (fun x s h1 h2=>by
      obtain ⟨a1,a2,a3,a4⟩:=hs x (d+1) s h1.1 h1.2
      have h3:(x.walkE (d+1) s).2=true:=by simpa using h2
      have:=(a1.1 h3).2
      rw [← a2 h3] at this
      exact ⟨by omega,this⟩) 279 (n+1) ⟨by omega,by omega⟩ (fun x hx s h=>by
        have hc:=ih x hx (hm.2 x hx) (d+1) s (by omega) (by omega) h.1 h.2
        refine z12 z15 func279 rfl rfl 11 ntmps279 (by simp) ?_
        repeat' ((first|apply y4 ok;rfl|apply y43;(unfold inI;omega)|apply z37 [0] [] hc;rfl;rfl;rfl)<;>conv=>whnf)
        exact z90 [0,1] (by decide) rfl rfl rfl ⟨z21 rfl rfl,z21 rfl rfl,trivial⟩)
    rw [y40 (d+1) t.kids (n+1) 0,Bool.not_not]
    exact h
  have hk2:=fun h1 h2=>by
    have:=hk h1 h2
    unfold lst at this
    rw [← y18] at this
    exact this
  refine z12 z15 func241 rfl rfl 55 ntmps241 (by simp) ?_
  repeat' ((first|apply y4 ok;rfl|apply y43;(unfold inI;omega)|(first|apply z6|apply z42|apply z78)<;>intro _|apply z4 (z266 _ 1 9);rfl;rfl|apply z4 (z266 _ 0 3);rfl;rfl|apply z4 (z266 _ 0 2);rfl;rfl|apply z4 (z266 _ 0 0);rfl;rfl|apply z99 [0,3] [2] [] (hk2 (by omega) (by omega));rfl;rfl;rfl;(focus ((repeat' first|exact z17|apply z16)<;>exact z47 rfl rfl));((refine .inr ⟨rfl,?_⟩;repeat' first|exact True.intro|apply y43|exact rfl)))<;>conv=>whnf)
  all_goals first
    | (have e : t.walkE d n = (n + 1, false) := by
        rw [y39,if_neg]
        clear hk hk2 hs ih
        rintro ⟨c1,c2,c3,c4,c5⟩
        try simp only [z250,z94] at *
        unfold z433 at c4
        unfold z337 at c5
        grind
       rw [e]
       exact z90 [0] (by decide) rfl rfl rfl ⟨z21 rfl rfl,trivial⟩)
    | (have e : t.walkE d n = Tree.walkEs t.kids (d + 1) (n + 1) := by
        rw [y39,if_pos]
        clear hk hk2 hs ih
        try simp only [z250,z94] at *
        unfold z433 z337
        grind
       rw [e]
       refine z90 [0] (by decide) rfl rfl ?_ ⟨z21 rfl rfl,trivial⟩
       show AC.raw (.bool (!!_))=_
       rw [Bool.not_not];rfl)
theorem y15 (t:Tree):z27 Tree.cs' t=.agg [.int t.kind,.int t.val,lst 3 Tree.cs' t.kids]:=by
 simp only [z27,Tree.cs',lst,Tree.lst_eq]
theorem z798 (t:Tree) (hm:t.mx):QQ 173 [z27 Tree.cs' t] [] (.int (if t.exprB then t.count 6 else 0)) []:=by
 have hk:=walk_ok t hm 1 0 (by omega) (by omega) (by omega) (by omega)
 obtain ⟨_,h2,_,_⟩:=Tree.walkE_spec.1 t 1 0 (by omega) (by omega)
 refine z12 z15 func173 rfl rfl 8 ntmps173 (by simp) ?_
 repeat' ((first|apply y4 ok;rfl|apply z78<;>intro _|apply z37 [1] [] hk;rfl;rfl;rfl)<;>conv=>whnf)
 ·rename_i h
  exact z55 rfl rfl (by rw [if_neg (by unfold Tree.exprB;rw [h];simp)];rfl)
 ·rename_i h
  have e:=h2 h
  rw [Int.zero_add] at e
  exact z55 rfl rfl (by rw [if_pos (show t.exprB=true from h),show t.count 6=(t.walkE 1 0).1 from e.symm];rfl)
theorem z797 (t:Tree) (hm:t.mx):QQ 93 [z27 Tree.cs' t] [] (.bool t.exprB) []:=by
 refine z12 z15 func93 rfl rfl 6 ntmps93 (by simp) ?_
 repeat' ((first|apply y4 ok;rfl|apply z4 (z798 t hm);rfl;rfl)<;>conv=>whnf)
 refine z19 rfl ?_
 have:=Tree.count_pos.1 t 6
 cases t.exprB
 ·simp
 ·simp;omega
theorem z539 (t:Tree) (hm:t.mx):QQ 92 [z27 Tree.cs' t] [] (.bool (!t.exprB)) []:=by
 refine z12 z15 func92 rfl rfl 6 ntmps92 (by simp) ?_
 repeat' ((first|apply y4 ok;rfl|apply z4 (z797 t hm);rfl;rfl)<;>conv=>whnf)
 exact z19 rfl rfl
def z170 (l:List Tree):Bool:=decide ((l.length:Int)=3) && l.all Tree.exprB
theorem z229 (l:List Tree) (hl:l.length≤maxLen) (hm:∀ t∈l,t.mx):QQ 36 [lst 3 Tree.cs' l] [] (.bool (z170 l)) []:=by
 have hk:=z440 l hl (fun t=>!t.exprB) 92 (fun t ht=>z539 t (hm t ht))
 refine z12 z15 func36 rfl rfl 11 ntmps36 (by simp) ?_
 repeat' ((first|apply y4 ok;rfl|apply z6<;>intro _|apply z4 hk;rfl;rfl)<;>conv=>whnf)
 ·refine z19 rfl ?_
  rename_i h
  unfold z170
  rw [y82 h,List.all_eq_not_any_not];rfl
 ·refine z19 rfl ?_
  rename_i h
  unfold z170
  rw [y83 h];rfl
theorem z617 (k:Int):QQ 283 [.int k] [] (.int (z337 k)) []:=by
 refine z12 z15 func283 rfl rfl 15 ntmps283 (by simp) ?_
 repeat' ((first|apply y4 ok;rfl|apply z6<;>intro _)<;>conv=>whnf)
 all_goals (refine z55 rfl rfl ?_;unfold z337;first|rw [if_pos (by omega)];rfl|rw [if_neg (by omega),if_pos (by omega)];rfl|rw [if_neg (by omega),if_neg (by omega),if_pos (by omega)];rfl|rw [if_neg (by omega),if_neg (by omega),if_neg (by omega)];rfl)
theorem z1017 (l:List Tree) (d:Int):Tree.shapes l d=l.all (fun t=>t.shape d):=by
 induction l with
 |nil=>rfl
 |cons t l ih=>simp [Tree.shapes,ih]
theorem z472 (t:Tree) (d:Int):t.shape d=(decide (1≤d∧(t.kids.length:Int)=z337 t.kind∧0≤t.val∧t.val≤z433 t.kind) && t.kids.all fun t=>t.shape (d - 1)):=by
 cases t;simp only [Tree.shape,Tree.kids,Tree.kind,Tree.val,z1017];rfl
theorem z1051 (t:Tree):t.mx→∀ d:Int,-100≤d→d≤100→QQ 255 [z27 Tree.cs' t,.int d] [] (.bool (t.shape d)) []:=by
  induction t using y27 with|h t ih=>?_
  intro hm d h0 h1
  rw [y28] at hm
  have hl:=hm.1
  unfold maxLen at hl
  rw [y15,z472]
  refine z12 z15 func255 rfl rfl 49 ntmps255 (by simp) ?_
  repeat' ((first|apply y4 ok;rfl|apply z23;kernel_rfl|(first|apply z6|apply z42)<;>intro _|apply z4 (z617 _);rfl;rfl)<;>conv=>whnf)
  all_goals first
    | (refine z19 rfl ?_
       rw [y83]
       · rfl
       · clear ih
         rintro ⟨c1,c2,c3,c4⟩
         unfold z433 at c4
         grind)
    | (have hg : decide (1 ≤ d ∧ (t.kids.length : Int) = z337 t.kind ∧ 0 ≤ t.val ∧ t.val ≤ z433 t.kind) = true := by
         clear ih
         refine y82 ?_
         unfold z433
         grind
       rw [hg,Bool.true_and]
       refine z97 (fun k:Nat=>([(1,.int d),(2,.ptr 0 none 0),(6,.int k)],[.cells 3 [[.int t.kind,.int t.val,lst 3 Tree.cs' t.kids]]])) (fun k=>k≤t.kids.length∧(t.kids.all fun t=>t.shape (d - 1))=(t.kids.drop k).all fun t=>t.shape (d - 1)) (fun k=>t.kids.length - k) 0 ⟨by omega,rfl⟩ ⟨[0],rfl,by decide,rfl,by repeat' (first|exact True.intro|exact ⟨rfl,rfl⟩|apply y43),by repeat' (first|exact True.intro|exact z21 rfl rfl|apply y43)⟩ ?_
       intro k hk
       repeat' ((first|apply y4 ok;rfl|(apply y43;first|omega|unfold inI;omega)|((with_reducible apply z8;omega));intro _|(first|apply z6|apply z78)<;>intro _|apply z4 (ih t.kids[k] (y44 _) (hm.2 _ (y44 _)) (d - 1) (by omega) (by omega));rfl;rfl)<;>conv=>whnf)
       · rename_i h1
         exact z19 rfl (by rw [hk.2,z159 _ _ _ (by assumption)];simp [h1])
       · rename_i h1
         exact z85 (k+1) [0] ⟨by omega,by rw [hk.2,z159 _ _ _ (by assumption)];simp [h1]⟩ (by omega) ⟨rfl,by decide,rfl,by repeat' (first|exact True.intro|exact ⟨rfl,rfl⟩|apply y43),by repeat' (first|exact True.intro|exact z21 rfl rfl|apply y43)⟩
       · exact z19 rfl (by rw [hk.2,z151 _ _ _ (by omega)]))
theorem z487 (t:Tree) (d:Int):t.count d=if 0 < d then 1+(t.kids.map fun t=>t.count (d - 1)).sum else 1:=by
 have:∀ (l:List Tree) d,Tree.counts l d=(l.map fun t=>t.count d).sum:=by
  intro l d
  induction l with
  |nil=>rfl
  |cons t l ih=>simp [Tree.counts,ih]
 cases t;simp only [Tree.count,Tree.kids,this]
theorem count_le (t:Tree):∀ d n:Nat,t.shape d=true→t.count n≤2 ^ d - 1:=by
 induction t using y27 with|h t ih=>?_
 intro d n h
 rw [z472,y71,decide_eq_true_eq] at h
 obtain ⟨⟨h1,h2,_,_⟩,h3⟩:=h
 rw [y79] at h3
 obtain ⟨d,rfl⟩:∃ e,d=e+1:=⟨d - 1,by omega⟩
 have e:((d+1:Nat):Int) - 1=(d:Nat):=by omega
 rw [e] at h3
 rw [z487]
 have hp:(1:Int)≤2 ^ d:=by exact_mod_cast Nat.one_le_two_pow
 have hq:((2:Int) ^ (d+1))=2 * 2 ^ d:=by rw [Int.pow_succ];omega
 split
 ·rename_i hn
  obtain ⟨n,rfl⟩:∃ e,n=e+1:=⟨n - 1,by omega⟩
  have e:((n+1:Nat):Int) - 1=(n:Nat):=by omega
  rw [e]
  have hl:(t.kids.length:Int)≤2:=by rw [h2];unfold z337;grind
  have hk:∀ u∈t.kids,u.count n≤2 ^ d - 1:=fun u hu=>ih u hu d n (h3 u hu)
  match hkk:t.kids with
  |[]=>simp only [List.map_nil,List.sum_nil];omega
  |[a] =>
   have:=hk a (by simp [hkk])
   simp only [List.map_cons,List.map_nil,List.sum_cons,List.sum_nil];omega
  |[a,b] =>
   have:=hk a (by simp [hkk])
   have:=hk b (by simp [hkk])
   simp only [List.map_cons,List.map_nil,List.sum_cons,List.sum_nil];omega
  |a::b::c::r=>rw [hkk] at hl;simp only [y58] at hl;omega
 ·omega
theorem z471 (f:Tree→Int) (l:List Tree) (k:Nat) (hk:k < l.length):((l.take (k+1)).map f).sum=((l.take k).map f).sum+f l[k]:=by
 rw [y50 hk,y64,List.sum_append];simp
theorem z909 (t:Tree) (e d:Int) (he:e≤50) (hd:0≤d) (h:t.shape e=true):t.count d≤2 ^ 50:=by
 have h1:1≤e:=by
  rw [z472,y71,decide_eq_true_eq] at h;exact h.1.1
 obtain ⟨n,rfl⟩:=Int.eq_ofNat_of_zero_le (show 0≤e by omega)
 obtain ⟨m,rfl⟩:=Int.eq_ofNat_of_zero_le hd
 have h2:=count_le t n m h
 have h4:(2:Int) ^ n≤2 ^ 50:=by exact_mod_cast Nat.pow_le_pow_right (by omega) (by omega)
 omega
theorem z1052 (t:Tree):t.mx→∀ e d:Int,e≤50→0≤d→d≤50→t.shape e=true→QQ 256 [z27 Tree.cs' t,.int d] [] (.int (t.count d)) []:=by
 induction t using y27 with|h t ih=>?_
 intro hm e d h0 h1 h2 hs
 rw [y28] at hm
 rw [z472,y71,decide_eq_true_eq,y79] at hs
 obtain ⟨⟨hs1,hs2,_,_⟩,hs3⟩:=hs
 have hl:(t.kids.length:Int)≤2:=by rw [hs2];unfold z337;grind
 rw [y15,z487]
 have hb:0 < d→∀ k,k≤t.kids.length→0≤((t.kids.take k).map fun t=>t.count (d - 1)).sum∧((t.kids.take k).map fun t=>t.count (d - 1)).sum≤k * 2 ^ 50:=by
  intro hd k
  induction k with
  |zero=>intro _;simp
  |succ k ihk =>
   intro hk
   have h1:=ihk (by omega)
   rw [z471 _ _ _ (by omega)]
   have h2:=z909 t.kids[k] (e - 1) (d - 1) (by omega) (by omega) (hs3 _ (y44 _))
   have h3:=Tree.count_pos.1 t.kids[k] (d - 1)
   omega
 refine z12 z15 func256 rfl rfl 29 ntmps256 (by simp) ?_
 repeat' (((apply y4 ok;rfl))<;>conv=>whnf)
 by_cases hd:0 < d
 ·rw [if_pos hd]
  refine z97 (fun k:Nat=>([(1,.int d),(2,.ptr 0 none 0),(5,.int (1+((t.kids.take k).map fun t=>t.count (d - 1)).sum)),(6,.int k)],[.cells 3 [[.int t.kind,.int t.val,lst 3 Tree.cs' t.kids]]])) (fun k=>k≤t.kids.length) (fun k=>t.kids.length - k) 0 (by omega) ⟨[0],rfl,by decide,rfl,by repeat' (first|exact True.intro|exact ⟨rfl,rfl⟩|apply y43),by repeat' (first|exact True.intro|exact z21 rfl rfl|apply y43)⟩ ?_
  intro k hk
  have hbk:=hb hd k hk
  have hbk1:=fun h=>hb hd (k+1) h
  have hss:=fun h=>z471 (fun t=>t.count (d - 1)) t.kids k h
  repeat' ((first|apply y4 ok;rfl|(apply y43;first|omega|unfold inI;omega)|((with_reducible apply z8;omega));intro _|apply z6<;>intro _|apply z4 (ih t.kids[k] (y44 _) (hm.2 _ (y44 _)) (e - 1) (d - 1) (by omega) (by omega) (by omega) (hs3 _ (y44 _)));rfl;rfl)<;>conv=>whnf)
  ·have e1:=hss ‹_›
   have e2:=hbk1 (by omega)
   refine y43 (by unfold inI;omega) ?_
   conv=>whnf
   repeat' ((first|apply y4 ok;rfl|apply y43;(unfold inI;omega))<;>conv=>whnf)
   exact z85 (k+1) [0] (by omega) (by omega) ⟨rfl,by decide,rfl,⟨⟨rfl,rfl⟩,⟨rfl,rfl⟩,⟨rfl,by rw [e1,← Int.add_assoc];rfl⟩,⟨rfl,rfl⟩,trivial⟩,⟨z21 rfl rfl,trivial⟩⟩
  ·omega
  ·obtain rfl:k=t.kids.length:=by omega
   exact z55 rfl rfl (by rw [y56];rfl)
 ·rw [if_neg hd]
  refine z97 (fun k:Nat=>([(1,.int d),(2,.ptr 0 none 0),(5,.int 1),(6,.int k)],[.cells 3 [[.int t.kind,.int t.val,lst 3 Tree.cs' t.kids]]])) (fun k=>k≤t.kids.length) (fun k=>t.kids.length - k) 0 (by omega) ⟨[0],rfl,by decide,rfl,by repeat' (first|exact True.intro|exact ⟨rfl,rfl⟩|apply y43),by repeat' (first|exact True.intro|exact z21 rfl rfl|apply y43)⟩ ?_
  intro k hk
  repeat' ((first|apply y4 ok;rfl|apply y43;omega|((with_reducible apply z8;omega));intro _|apply z6<;>intro _)<;>conv=>whnf)
  ·omega
  ·exact z55 rfl rfl rfl
  ·exact z55 rfl rfl rfl
theorem z143 (t:Tree) (hm:t.mx):QQ 193 [z27 Tree.cs' t] [] (.bool t.exprB) []:=by
 rw [y20]
 refine z12 z15 func193 rfl rfl 10 ntmps193 (by simp) ?_
 repeat' ((first|apply y4 ok;rfl|apply z82<;>intro _|apply z4 (z1051 t hm 6 (by omega) (by omega));rfl;rfl|apply z4 (z1052 t hm 6 6 (by omega) (by omega) (by omega) (by assumption));rfl;rfl)<;>conv=>whnf)
 all_goals (refine z19 rfl ?_;(simp [*];done))
theorem z376 (l:List Tree) (hl:l.length≤maxLen) (hm:∀ t∈l,t.mx):QQ 121 [lst 3 Tree.cs' l] [] (.bool (z170 l)) []:=by
 unfold maxLen at hl
 unfold z170
 refine z12 z15 func121 rfl rfl 19 ntmps121 (by simp) ?_
 repeat' (((apply y4 ok;rfl))<;>conv=>whnf)
 refine z97 (fun k:Nat=>([(0,lst 3 Tree.cs' l),(3,.int k)],[])) (fun k=>k≤l.length∧l.all Tree.exprB=(l.drop k).all Tree.exprB) (fun k=>l.length - k) 0 ⟨by omega,rfl⟩ ⟨[],rfl,by decide,rfl,by repeat' (first|exact True.intro|exact ⟨rfl,rfl⟩|apply y43),by repeat' (exact True.intro)⟩ ?_
 intro k hk
 repeat' ((first|apply y4 ok;rfl|(apply y43;first|omega|unfold inI;omega)|((with_reducible apply z8;omega));intro _|(first|apply z6|apply z78)<;>intro _|apply z4 (z143 l[k] (hm _ (y44 _)));rfl;rfl)<;>conv=>whnf)
 ·rename_i h1
  exact z19 rfl (by rw [hk.2,z159 _ _ _ (by assumption)];simp [h1])
 ·rename_i h1
  exact z85 (k+1) [] ⟨by omega,by rw [hk.2,z159 _ _ _ (by assumption)];simp [h1]⟩ (by omega) ⟨rfl,by decide,rfl,by repeat' (first|exact True.intro|exact ⟨rfl,rfl⟩|apply y43),by repeat' (exact True.intro)⟩
 ·exact z19 rfl (by rw [hk.2,z151 _ _ _ (by omega),Bool.and_true])
theorem z938 (b:Bool):QQ 254 [.bool b] [] (.int (b2i b)) []:=by
 refine z12 z15 func254 rfl rfl 4 ntmps254 (by simp) ?_
 repeat' ((first|apply y4 ok;rfl|apply z82<;>intro _)<;>conv=>whnf)
 all_goals (refine z55 rfl rfl ?_;simp only [*];rfl)
theorem z784 (b:Bool):QQ 284 [.bool b] [] (.int (b2i b)) []:=by
 refine z12 z15 func284 rfl rfl 4 ntmps284 (by simp) ?_
 repeat' ((first|apply y4 ok;rfl|apply z82<;>intro _)<;>conv=>whnf)
 all_goals (refine z55 rfl rfl ?_;simp only [*];rfl)
theorem z621 {t:Tree} (hg:t.good):(∃ x,t=.mk 1 x []∧0≤x∧x≤3)∨(∃ x,t=.mk 2 x []∧0≤x∧x≤2)∨(∃ x a,t=.mk 3 x [a]∧a.good)∨(∃ k x a b,t=.mk k x [a,b]∧4≤k∧k≤9∧a.good∧b.good):=by
 obtain ⟨g1,g2,g3,g4⟩:=y25 hg
 obtain ⟨k,x,l⟩:=t
 simp only [Tree.kind,Tree.val,Tree.kids] at *
 unfold z337 at g1
 unfold z433 at g3
 match l,g1,g4 with
 |[],g1,_ =>
  simp only [y59] at g1
  have:k=1∨k=2:=by grind
  rcases this with rfl|rfl
  ·exact .inl ⟨x,rfl,g2,by grind⟩
  ·exact .inr (.inl ⟨x,rfl,g2,by grind⟩)
 |[a],g1,g4 =>
  simp only [y58,y59] at g1
  have:k=3:=by grind
  subst this
  exact .inr (.inr (.inl ⟨x,a,rfl,g4 a (by simp)⟩))
 |[a,b],g1,g4 =>
  simp only [y58,y59] at g1
  exact .inr (.inr (.inr ⟨k,x,a,b,rfl,by grind,by grind,g4 a (by simp),g4 b (by simp)⟩))
 |a::b::c::r,g1,_=>simp only [y58] at g1;grind
theorem eval_ok (v:List Int) (hv:ValsOk v) (t:Tree):t.good→QQ 190 [z27 Tree.cs' t,ints v] [] (.int (t.ev v)) []:=by
 induction t using y27 with|h t ih=>?_
 intro hg
 have hl:=hv.1
 rw [y15]
 rcases z621 hg with ⟨x,rfl,h1,h2⟩|⟨x,rfl,h1,h2⟩|⟨x,a,rfl,h1⟩|⟨k,x,a,b,rfl,h1,h2,h3,h4⟩<;>simp only [Tree.kind,Tree.val,Tree.kids] at *
 ·refine z12 z15 func190 rfl rfl 82 ntmps190 (by simp) ?_
  repeat' (((apply y4 ok;rfl))<;>conv=>whnf)
  all_goals (exact z55 rfl rfl (by rw [Tree.ev,if_pos rfl];rfl))
 ·refine z12 z15 func190 rfl rfl 82 ntmps190 (by simp) ?_
  repeat' ((first|apply y4 ok;rfl|apply y43;omega|apply z270;omega;intro _)<;>conv=>whnf)
  refine z55 rfl rfl ?_
  rw [Tree.ev,if_neg (by omega),if_pos rfl,y68,y45 (by omega)];rfl
 ·have ha:=y19 hv a h1
  refine z12 z15 func190 rfl rfl 82 ntmps190 (by simp) ?_
  repeat' ((first|apply y4 ok;rfl|apply y43;omega|apply z107|apply z4 (ih a (by simp) h1);rfl;rfl|apply z4 (z938 _);rfl;rfl)<;>conv=>whnf)
  all_goals (refine z55 rfl rfl ?_;rw [Tree.ev,if_neg (by omega),if_neg (by omega)];simp only [Tree.evs];rfl)
 ·have ha:=y19 hv a h3
  have hb:=y19 hv b h4
  refine z12 z15 func190 rfl rfl 82 ntmps190 (by simp) ?_
  repeat' ((first|apply y4 ok;rfl|(apply y43;first|omega|unfold inI;omega)|((apply z8;omega));intro _|apply z107|(first|apply z6|apply z42)<;>intro _|apply z4 (ih a (by simp) h3);rfl;rfl|apply z4 (ih b (by simp) h4);rfl;rfl|apply z4 (z938 _);rfl;rfl)<;>conv=>whnf)
  all_goals try (exfalso;omega)
  all_goals (refine z520 rfl ?_;clear ih;simp only [Tree.ev,Tree.evs,b2i];grind)
theorem z543 (v:List Int) (hv:ValsOk v) (t:Tree):t.good→QQ 257 [z27 Tree.cs' t,ints v] [] (.int (t.ev v)) []:=by
 induction t using y27 with|h t ih=>?_
 intro hg
 have hl:=hv.1
 rw [y15]
 rcases z621 hg with ⟨x,rfl,h1,h2⟩|⟨x,rfl,h1,h2⟩|⟨x,a,rfl,h1⟩|⟨k,x,a,b,rfl,h1,h2,h3,h4⟩<;>simp only [Tree.kind,Tree.val,Tree.kids] at *
 ·refine z12 z15 func257 rfl rfl 86 ntmps257 (by simp) ?_
  repeat' (((apply y4 ok;rfl))<;>conv=>whnf)
  all_goals (exact z55 rfl rfl (by rw [Tree.ev,if_pos rfl];rfl))
 ·refine z12 z15 func257 rfl rfl 86 ntmps257 (by simp) ?_
  repeat' ((first|apply y4 ok;rfl|apply y43;omega|apply z270;omega;intro _)<;>conv=>whnf)
  refine z55 rfl rfl ?_
  rw [Tree.ev,if_neg (by omega),if_pos rfl,y68,y45 (by omega)];rfl
 ·have ha:=y19 hv a h1
  refine z12 z15 func257 rfl rfl 86 ntmps257 (by simp) ?_
  repeat' ((first|apply y4 ok;rfl|apply y43;omega|apply z107|apply z4 (ih a (by simp) h1);rfl;rfl|apply z4 (z784 _);rfl;rfl)<;>conv=>whnf)
  all_goals (refine z55 rfl rfl ?_;rw [Tree.ev,if_neg (by omega),if_neg (by omega)];simp only [Tree.evs];rfl)
 ·have ha:=y19 hv a h3
  have hb:=y19 hv b h4
  refine z12 z15 func257 rfl rfl 86 ntmps257 (by simp) ?_
  repeat' ((first|apply y4 ok;rfl|(apply y43;first|omega|unfold inI;omega)|((apply z8;omega));intro _|apply z107|(first|apply z6|apply z42)<;>intro _|apply z4 (ih a (by simp) h3);rfl;rfl|apply z4 (ih b (by simp) h4);rfl;rfl|apply z4 (z784 _);rfl;rfl)<;>conv=>whnf)
  all_goals try (exfalso;omega)
  all_goals (refine z520 rfl ?_;clear ih;simp only [Tree.ev,Tree.evs,b2i];grind)
def ltr (v:List Int) (l:List Tree) (k n:Nat):Nat:=match l with
 |[]=>n
 |t::r=>ltr v r (k+1) (if t.ev v=0 then n else n ||| 2 ^ k)
theorem z478 (v:List Int) (l:List Tree) (k n:Nat) (h:k < l.length):ltr v (l.drop k) k n=ltr v (l.drop (k+1)) (k+1) (if l[k].ev v=0 then n else n ||| 2 ^ k):=by
 rw [y80 h,ltr]
theorem z1175 (v:List Int) (l:List Tree) (k n:Nat) (h:l.length≤k):ltr v (l.drop k) k n=n:=by
 rw [y84 h,ltr]
def z32 (labels:List Tree) (s:State):Int:=ltr s.b labels 0 0
theorem or_lt {n k:Nat} (h:n < 2 ^ k):n ||| 2 ^ k < 2 ^ (k+1) :=
 Nat.or_lt_two_pow (by rw [Nat.pow_succ];omega) (by rw [Nat.pow_succ];have:=Nat.two_pow_pos k;omega)
def z144 (l:List Tree):Prop:=l.length=3∧∀ t∈l,t.good
theorem y8 {l:List Tree} (h:z170 l=true):z144 l:=by
 simp only [z170,y71,decide_eq_true_eq,y79] at h
 exact ⟨by omega,fun t ht=>y26 (h.2 t ht)⟩
theorem z951 (k:Nat) (hk:k < 3):(1:Int) * 2 ^ ((k:Int).toNat)=((2 ^ k:Nat):Int):=by simp
theorem z387 {k:Nat} (hk:k < 3):2 ^ k≤8∧2 ^ (k+1)≤8∧0 < 2 ^ k:=by
 have:k=0∨k=1∨k=2:=by omega
 rcases this with rfl|rfl|rfl<;>simp
theorem z1178 (s:State) (hv:ValsOk s.b) (l:List Tree) (hl:z144 l):QQ 111 [ints s.b,lst 3 Tree.cs' l] [] (.int (z32 l s)) []:=by
 have h3:=hl.1
 refine z12 z15 func111 rfl rfl 25 ntmps111 (by simp) ?_
 repeat' (((apply y4 ok;rfl))<;>conv=>whnf)
 refine z97 (fun x:Nat×Nat=>([(0,ints s.b),(5,.int x.2),(8,lst 3 Tree.cs' l),(9,.int l.length),(10,.int x.1)],[])) (fun x=>x.1≤l.length∧x.2 < 2 ^ x.1∧ltr s.b l 0 0=ltr s.b (l.drop x.1) x.1 x.2) (fun x=>l.length - x.1) (0,0) ⟨by omega,by decide,rfl⟩ ⟨[],rfl,by decide,rfl,by repeat' (first|exact True.intro|exact ⟨rfl,rfl⟩|apply y43),by repeat' (exact True.intro)⟩ ?_
 rintro ⟨k,n⟩ ⟨hk1,hk2,hk3⟩
 dsimp only at hk1 hk2 hk3
 repeat' ((first|apply y4 ok;rfl|(apply y43;first|omega|unfold inI;omega)|((with_reducible apply z8;omega));intro _|(first|apply z6|apply z42)<;>intro _|apply z4 (eval_ok s.b hv l[k] (hl.2 _ (y44 _)));rfl;rfl)<;>conv=>whnf)
 ·rename_i hkl h
  have hp:=z387 (show k < 3 by omega)
  have e:=z951 k (by omega)
  refine y43 ⟨by omega,by omega,by rw [e];unfold inI;omega⟩ ?_
  conv=>whnf
  refine y43 (by rw [e];unfold z100;omega) ?_
  conv=>whnf
  repeat' ((first|apply y4 ok;rfl|apply y43;(unfold inI;omega))<;>conv=>whnf)
  rw [z478 _ _ _ _ hkl,if_neg h] at hk3
  refine z85 (k+1,n ||| 2 ^ k) [] ⟨by dsimp only;omega,or_lt hk2,hk3⟩ (by dsimp only;omega) ⟨rfl,by decide,rfl,⟨⟨rfl,rfl⟩,⟨rfl,?_⟩,⟨rfl,rfl⟩,⟨rfl,rfl⟩,⟨rfl,rfl⟩,trivial⟩,trivial⟩
  show AC.raw (.int .i64 (((n:Int).toNat ||| ((1:Int) * 2 ^ ((k:Int).toNat)).toNat:Nat):Int))=_
  rw [e];rfl
 ·rename_i hkl h
  rw [z478 _ _ _ _ hkl,if_pos h] at hk3
  have:2 ^ k≤2 ^ (k+1):=by rw [Nat.pow_succ];omega
  exact z85 (k+1,n) [] ⟨by dsimp only;omega,by dsimp only;omega,hk3⟩ (by dsimp only;omega) ⟨rfl,by decide,rfl,by repeat' (first|exact True.intro|exact ⟨rfl,rfl⟩|apply y43),by repeat' (exact True.intro)⟩
 ·rw [z1175 _ _ _ _ (by omega)] at hk3
  exact z55 rfl rfl (by unfold z32;rw [hk3];rfl)
theorem z882 (s:State) (hv:ValsOk s.b) (l:List Tree) (hl:z144 l):QQ 194 [z27 State.cs s,lst 3 Tree.cs' l] [] (.int (z32 l s)) []:=by
 have h3:=hl.1
 refine z12 z15 func194 rfl rfl 27 ntmps194 (by simp) ?_
 repeat' (((apply y4 ok;rfl))<;>conv=>whnf)
 refine z97 (fun x:Nat×Nat=>([(1,lst 3 Tree.cs' l),(2,.ptr 0 none 0),(5,.int x.2),(6,.int x.1)],[.cells 2 [[ints s.a,ints s.b]]])) (fun x=>x.1≤l.length∧x.2 < 2 ^ x.1∧ltr s.b l 0 0=ltr s.b (l.drop x.1) x.1 x.2) (fun x=>l.length - x.1) (0,0) ⟨by omega,by decide,rfl⟩ ⟨[0],rfl,by decide,rfl,by repeat' (first|exact True.intro|exact ⟨rfl,rfl⟩|apply y43),by repeat' (first|exact True.intro|exact z21 rfl rfl|apply y43)⟩ ?_
 rintro ⟨k,n⟩ ⟨hk1,hk2,hk3⟩
 dsimp only at hk1 hk2 hk3
 repeat' ((first|apply y4 ok;rfl|apply z23;kernel_rfl|(apply y43;first|omega|unfold inI;omega)|((with_reducible apply z8;omega));intro _|(first|apply z6|apply z42)<;>intro _|apply z4 (z543 s.b hv l[k] (hl.2 _ (y44 _)));rfl;rfl)<;>conv=>whnf)
 ·rename_i hkl h
  have hp:=z387 (show k < 3 by omega)
  have e:=z951 k (by omega)
  refine y43 ?_ ?_
  ·show IntKind.u64.wrap k=k
   have:k=0∨k=1∨k=2:=by dsimp only at hkl;omega
   rcases this with rfl|rfl|rfl<;>rfl
  conv=>whnf
  refine y43 ⟨by omega,by omega,by rw [e];unfold inI;omega⟩ ?_
  conv=>whnf
  refine y43 (by rw [e];unfold z100;omega) ?_
  conv=>whnf
  repeat' ((first|apply y4 ok;rfl|apply y43;(unfold inI;omega))<;>conv=>whnf)
  rw [z478 _ _ _ _ hkl,if_neg h] at hk3
  refine z85 (k+1,n ||| 2 ^ k) [0] ⟨by dsimp only;omega,or_lt hk2,hk3⟩ (by dsimp only;omega) ⟨rfl,by decide,rfl,⟨⟨rfl,rfl⟩,⟨rfl,rfl⟩,⟨rfl,?_⟩,⟨rfl,rfl⟩,trivial⟩,⟨z21 rfl rfl,trivial⟩⟩
  show AC.raw (.int .i64 (((n:Int).toNat ||| ((1:Int) * 2 ^ ((k:Int).toNat)).toNat:Nat):Int))=_
  rw [e];rfl
 ·rename_i hkl h
  rw [z478 _ _ _ _ hkl,if_pos h] at hk3
  have:2 ^ k≤2 ^ (k+1):=by rw [Nat.pow_succ];omega
  exact z85 (k+1,n) [0] ⟨by dsimp only;omega,by dsimp only;omega,hk3⟩ (by dsimp only;omega) ⟨rfl,by decide,rfl,by repeat' (first|exact True.intro|exact ⟨rfl,rfl⟩|apply y43),by repeat' (first|exact True.intro|exact z21 rfl rfl|apply y43)⟩
 ·rw [z1175 _ _ _ _ (by omega)] at hk3
  exact z55 rfl rfl (by unfold z32;rw [hk3];rfl)
theorem z1185 (g:Graph) (hg:∀ s∈g.st,ValsOk s.b) (hn:g.st.length≤60) (l:List Tree) (hl:z144 l):QQ 48 [.agg g.cs,lst 3 Tree.cs' l] [] (.sref 0 0 g.st.length) [.cells 1 (g.st.map fun s=>enI (z32 l s))]:=by
 refine z12 z15 func48 rfl rfl 29 ntmps48 (by simp) ?_
 repeat' ((first|apply y4 ok;rfl|apply y43;(dsimp only;omega))<;>conv=>whnf)
 refine z97 (fun k:Nat=>([(1,lst 3 Tree.cs' l),(5,.sref 0 0 g.st.length),(13,lst 2 State.cs g.st),(14,.int g.st.length),(15,.int k)],[.cells 1 ((g.st.take k).map (fun s=>enI (z32 l s))++List.replicate (g.st.length - k) (enI 0))])) (fun k=>k≤g.st.length) (fun k=>g.st.length - k) 0 (by omega) ⟨[1],rfl,by decide,rfl,by repeat' (first|exact True.intro|exact ⟨rfl,rfl⟩|apply y43),by repeat' (first|exact True.intro|exact z51 (by rfl) (by (first|exact z25|exact z54 rfl))|apply y43)⟩ ?_
 intro k hk
 repeat' ((first|apply y4 ok;rfl|(apply y43;first|omega|unfold inI;omega)|((with_reducible apply z8;omega));intro _|apply z196;omega|apply z6<;>intro _|apply z4 (z1178 g.st[k] (hg _ (y44 _)) l hl);rfl;rfl)<;>conv=>whnf)
 ·rename_i h hkl
  exact z85 (k+1) [0] (by omega) (by omega) ⟨rfl,by decide,rfl,⟨⟨rfl,rfl⟩,⟨rfl,rfl⟩,⟨rfl,rfl⟩,⟨rfl,rfl⟩,⟨rfl,rfl⟩,trivial⟩,⟨z958 hkl rfl rfl rfl (fun _=>rfl) rfl,trivial⟩⟩
 ·exact z519 rfl (z5 fun _=>rfl) rfl (z977 _ _ _ _ (by omega))
theorem z967 (g:Graph) (hg:∀ s∈g.st,ValsOk s.b) (hn:g.st.length≤60) (l:List Tree) (hl:z144 l):QQ 48 [.agg g.cs,lst 3 Tree.cs' l] [] (ints (g.st.map (z32 l))) []:=by
 have h:=(z1185 g hg hn l hl).keep (z172 _ _) (by simp)
 unfold ints
 rw [y49,List.map_map]
 exact h
theorem z681 (g:Graph) (hg:∀ s∈g.st,ValsOk s.b) (hn:g.st.length≤60) (l:List Tree) (hl:z144 l):QQ 122 [.agg g.cs,lst 3 Tree.cs' l] [] (.sref 0 0 g.st.length) [.cells 1 (g.st.map fun s=>enI (z32 l s))]:=by
 refine z12 z15 func122 rfl rfl 26 ntmps122 (by simp) ?_
 repeat' (((apply y4 ok;rfl))<;>conv=>whnf)
 refine z97 (fun k:Nat=>([(1,lst 3 Tree.cs' l),(2,.ptr 0 none 0),(5,.sref 1 0 k),(6,.int k)],[.cells 2 [[lst 2 State.cs g.st,lst 1 encL g.nx]],.cells 1 ((g.st.take k).map fun s=>enI (z32 l s))])) (fun k=>k≤g.st.length) (fun k=>g.st.length - k) 0 (by omega) ⟨[0,1],rfl,by decide,rfl,by repeat' (first|exact True.intro|exact ⟨rfl,rfl⟩|apply y43),by repeat' (first|exact True.intro|exact z21 rfl rfl|exact z51 (by rfl) (by (exact z25))|apply y43)⟩ ?_
 intro k hk
 repeat' ((first|apply y4 ok;rfl|(apply y43;first|omega|unfold inI;omega|(try dsimp only);simp only [y49,y48,y47,y46,y58,y59];omega|exact ⟨rfl,z22 rfl z28⟩)|((with_reducible apply z8;omega));intro _|apply z6<;>intro _|apply z4 (z882 g.st[k] (hg _ (y44 _)) l hl);rfl;rfl)<;>conv=>whnf)
 ·rename_i h hkl
  exact z85 (k+1) [0,3] (by omega) (by omega) ⟨rfl,by decide,rfl,⟨⟨rfl,rfl⟩,⟨rfl,rfl⟩,⟨rfl,rfl⟩,⟨rfl,rfl⟩,trivial⟩,⟨z21 rfl rfl,obj_app hkl _ rfl rfl rfl (fun _=>rfl),trivial⟩⟩
 ·obtain rfl:k=g.st.length:=by omega
  exact z519 rfl (z5 fun _=>rfl) rfl (by rw [y56])
theorem z773 (g:Graph) (hg:∀ s∈g.st,ValsOk s.b) (hn:g.st.length≤60) (l:List Tree) (hl:z144 l):QQ 122 [.agg g.cs,lst 3 Tree.cs' l] [] (ints (g.st.map (z32 l))) []:=by
 have h:=(z681 g hg hn l hl).keep (z172 _ _) (by simp)
 unfold ints
 rw [y49,List.map_map]
 exact h
theorem z783 (l:List Int) (hl:l.length≤maxLen):QQ 192 [ints l] [] (.bool (z423 l)) []:=by
 unfold maxLen at hl
 have e:z423 l=(l.all (fun n=>btw n 0 3) && decide ((l.length:Int)=3)):=by
  unfold z423;rw [Bool.and_comm,List.all_eq_not_any_not]
 rw [e]
 refine z12 z15 func192 rfl rfl 25 ntmps192 (by simp) ?_
 repeat' (((apply y4 ok;rfl))<;>conv=>whnf)
 refine z97 (fun k:Nat=>([(0,ints l),(3,.int k)],[])) (fun k=>k≤l.length∧l.all (fun n=>btw n 0 3)=(l.drop k).all (fun n=>btw n 0 3)) (fun k=>l.length - k) 0 ⟨by omega,rfl⟩ ⟨[],rfl,by decide,rfl,by repeat' (first|exact True.intro|exact ⟨rfl,rfl⟩|apply y43),by repeat' (exact True.intro)⟩ ?_
 intro k hk
 repeat' ((first|apply y4 ok;rfl|(apply y43;first|omega|unfold inI;omega)|((with_reducible apply z8;omega));intro _|apply z6<;>intro _)<;>conv=>whnf)
 ·refine z19 rfl ?_
  have:btw l[k] 0 3=false:=z250.2 (by omega)
  rw [hk.2,z159 _ _ _ (by assumption),this];rfl
 ·refine z19 rfl ?_
  have:btw l[k] 0 3=false:=z250.2 (by omega)
  rw [hk.2,z159 _ _ _ (by assumption),this];rfl
 ·have:btw l[k] 0 3=true:=z94.2 (by omega)
  exact z85 (k+1) [] ⟨by omega,by rw [hk.2,z159 _ _ _ (by assumption),this];rfl⟩ (by omega) ⟨rfl,by decide,rfl,by repeat' (first|exact True.intro|exact ⟨rfl,rfl⟩|apply y43),by repeat' (exact True.intro)⟩
 ·exact z19 rfl (by rw [hk.2,z151 _ _ _ (by omega),Bool.true_and])
theorem z682 (l:List Int) (hl:l.length≤maxLen) (v:Int):QQ 188 [ints l,.int v] [] (.bool (decide (v∈l))) []:=by
 unfold maxLen at hl
 have e:decide (v∈l)=l.any (fun x=>decide (x=v)):=by
  rw [Bool.eq_iff_iff];simp
 rw [e]
 refine z12 z15 func188 rfl rfl 18 ntmps188 (by simp) ?_
 repeat' (((apply y4 ok;rfl))<;>conv=>whnf)
 refine z97 (fun k:Nat=>([(0,ints l),(1,.int v),(5,.int k)],[])) (fun k=>k≤l.length∧l.any (fun x=>decide (x=v))=(l.drop k).any (fun x=>decide (x=v))) (fun k=>l.length - k) 0 ⟨by omega,rfl⟩ ⟨[],rfl,by decide,rfl,by repeat' (first|exact True.intro|exact ⟨rfl,rfl⟩|apply y43),by repeat' (exact True.intro)⟩ ?_
 intro k hk
 repeat' ((first|apply y4 ok;rfl|(apply y43;first|omega|unfold inI;omega)|((with_reducible apply z8;omega));intro _|apply z6<;>intro _)<;>conv=>whnf)
 ·rename_i h
  exact z19 rfl (by rw [hk.2,z983 _ _ _ (by assumption),y82 h];rfl)
 ·rename_i h
  exact z85 (k+1) [] ⟨by omega,by rw [hk.2,z983 _ _ _ (by assumption),y83 h];rfl⟩ (by omega) ⟨rfl,by decide,rfl,by repeat' (first|exact True.intro|exact ⟨rfl,rfl⟩|apply y43),by repeat' (exact True.intro)⟩
 ·exact z19 rfl (by rw [hk.2,z803 _ _ _ (by omega)])
theorem Distinct.le {l:List Int} {n:Int} (h:Distinct l n l.length) (h0:0≤n):(l.length:Int)≤n:=by
 have hnd:(l.map Int.toNat).Nodup:=by
  rw [List.nodup_iff_pairwise_ne,List.pairwise_map,List.pairwise_iff_getElem]
  intro i j hi hj hij he
  have h1:=h i hi hi
  have h2:=h j hj hj
  refine h2.2 ?_
  have:l[j]=l[i]:=by omega
  rw [this,List.mem_take_iff_getElem]
  exact ⟨i,by omega,rfl⟩
 have hsub:(l.map Int.toNat) ⊆ List.range n.toNat:=by
  intro x hx
  obtain ⟨y,hy,rfl⟩:=List.mem_map.1 hx
  obtain ⟨i,hi,rfl⟩:=List.mem_iff_getElem.1 hy
  have:=(h i hi hi).1
  rw [y61];omega
 have:=hnd.length_le_of_subset hsub
 simp at this
 omega
def RowOk (g:Graph) (i:Nat):Prop:=∀ (h:i < g.nx.length) (h' : i < g.st.length),1≤g.nx[i].length∧g.nx[i].length≤g.st.length∧z423 g.st[i].b=true∧Distinct g.nx[i] g.st.length g.nx[i].length
def GB (g:Graph):Prop:=(1≤g.st.length∧g.st.length≤60)∧g.nx.length=g.st.length∧∀ i,i < g.nx.length→RowOk g i
theorem z733 {n:Int} {l:List Int} : z843 n l=true↔1≤l.length∧Distinct l n l.length:=by
 unfold z843
 rw [y71,decide_eq_true_eq,Bool.not_eq_true',decide_eq_false_iff_not]
 exact and_congr (by omega) Iff.rfl
theorem z95 (g:Graph):z208 g=true↔GB g:=by
 unfold z208 GB
 simp only [y71,z94,decide_eq_true_eq,Bool.not_eq_true',List.any_eq_false]
 constructor
 ·rintro ⟨h1,h2,h3,h4⟩
  refine ⟨by omega,by omega,fun i hi h h'=>?_⟩
  have h5:=z733.1 (by simpa using h4 _ (y44 h))
  have h6:=h5.2.le (by omega)
  exact ⟨h5.1,by omega,by simpa using h3 _ (y44 h'),h5.2⟩
 ·rintro ⟨h1,h2,h3⟩
  refine ⟨by omega,by omega,fun s hs=>?_,fun l hl=>?_⟩
  ·obtain ⟨i,hi,rfl⟩:=List.mem_iff_getElem.1 hs
   simpa using (h3 i (by omega) (by omega) hi).2.2.1
  ·obtain ⟨i,hi,rfl⟩:=List.mem_iff_getElem.1 hl
   have:=h3 i hi hi (by omega)
   simpa using z733.2 ⟨this.1,this.2.2.2⟩
set_option maxHeartbeats 800000 in
theorem z425 (g:Graph) (hg:g.mx):QQ 120 [.agg g.cs] [] (.bool (z208 g)) []:=by
 obtain ⟨hs,hn,hm⟩:=hg
 have hl1:=hs.1
 unfold maxLen at hl1 hn
 have hiff:=z95 g
 refine z12 z15 func120 rfl rfl 111 ntmps120 (by simp) ?_
 repeat' ((first|apply y4 ok;rfl|(first|apply z6|apply z42)<;>intro _)<;>conv=>whnf)
 ·exact z19 rfl (by rw [← y72,hiff];rintro ⟨h1,h2,_⟩;omega)
 ·exact z19 rfl (by rw [← y72,hiff];rintro ⟨h1,h2,_⟩;omega)
 ·exact z19 rfl (by rw [← y72,hiff];rintro ⟨h1,h2,_⟩;omega)
 rename_i b1 b2 b3
 have hne:g.nx.length=g.st.length:=by omega
 refine z97 (fun k:Nat=>([(1,.ptr 0 none 0),(3,.int k)],[.cells 2 [[lst 2 State.cs g.st,lst 1 encL g.nx]]])) (fun k=>k≤g.nx.length∧∀ i,i < k→RowOk g i) (fun k=>g.nx.length - k) 0 ⟨by omega,fun i h=>by omega⟩ ⟨[0],rfl,by decide,rfl,by repeat' (first|exact True.intro|exact ⟨rfl,rfl⟩|apply y43),by repeat' (first|exact True.intro|exact z21 rfl rfl|apply y43)⟩ ?_
 intro k hk
 have bad:k < g.nx.length→¬ RowOk g k→z208 g=false:=fun h1 h2=>by
  rw [← y72,hiff];rintro ⟨_,_,h3⟩;exact h2 (h3 k h1)
 repeat' ((first|apply y4 ok;rfl|apply z23;kernel_rfl|apply y43;omega|((with_reducible apply z8;omega));intro _|(first|apply z6|apply z78)<;>intro _|apply z4 (z783 _ (hs.2 _ (y44 _)).2);rfl;rfl)<;>conv=>whnf)
 ·refine z19 rfl (bad (by assumption) fun h=>?_)
  have:=h (by assumption) (by omega);omega
 ·refine z19 rfl (bad (by assumption) fun h=>?_)
  have:=h (by assumption) (by omega);omega
 ·rename_i hv
  refine z19 rfl (bad (by assumption) fun h=>?_)
  have:=h (by assumption) (by omega)
  rw [hv] at this;simp at this
 ·rename_i hv
  have hkn:k < g.nx.length:=by assumption
  have hks:k < g.st.length:=by omega
  refine z97 (fun j:Nat=>([(1,.ptr 0 none 0),(3,.int k),(4,.int j)],[.cells 2 [[lst 2 State.cs g.st,lst 1 encL g.nx]]])) (fun j=>j≤g.nx[k].length∧Distinct g.nx[k] g.st.length j) (fun j=>g.nx[k].length - j) 0 ⟨by omega,fun i h hi=>by omega⟩ ⟨[0],rfl,by decide,rfl,by repeat' (first|exact True.intro|exact ⟨rfl,rfl⟩|apply y43),by repeat' (first|exact True.intro|exact z21 rfl rfl|apply y43)⟩ ?_
  intro j hj
  repeat' ((first|apply y4 ok;rfl|apply z23;kernel_rfl|(apply y43;first|omega|unfold inI;omega)|((with_reducible apply z8;omega));intro _|apply z6<;>intro _)<;>conv=>whnf)
  ·refine z19 rfl (bad hkn fun h=>?_)
   have:=((h hkn hks).2.2.2 j (by assumption) (by assumption)).1;omega
  ·refine z19 rfl (bad hkn fun h=>?_)
   have:=((h hkn hks).2.2.2 j (by assumption) (by assumption)).1;omega
  ·apply z4 (z682 (g.nx[k].take j) (by rw [y48];unfold maxLen;omega) g.nx[k][j])
   ·show _=[AC.list 1 _ _,_]
    rw [show AC.list 1 (g.nx[k].take j).length ((g.nx[k].take j).map enI)=_ from (z318 1 enI g.nx[k] j hj.1).symm]
    rfl
   ·rfl
   conv=>whnf
   repeat' ((first|apply y4 ok;rfl|apply z23;kernel_rfl|apply y43;(unfold inI;omega)|apply z6<;>intro _)<;>conv=>whnf)
   ·rename_i h2
    exact z19 rfl (bad hkn fun h=>((h hkn hks).2.2.2 j (by assumption) (by assumption)).2 h2)
   ·rename_i h2
    refine z85 (j+1) [0] ⟨by omega,fun i hi hik=>?_⟩ (by omega) ⟨rfl,by decide,rfl,by repeat' (first|exact True.intro|exact ⟨rfl,rfl⟩|apply y43),by repeat' (first|exact True.intro|exact z21 rfl rfl|apply y43)⟩
    rcases y70 i j with h3|h3
    ·exact hj.2 i hi h3
    ·obtain rfl:i=j:=by omega
     exact ⟨by omega,h2⟩
  ·refine z85 (k+1) [0] ⟨by omega,fun i hi=>?_⟩ (by omega) ⟨rfl,by decide,rfl,by repeat' (first|exact True.intro|exact ⟨rfl,rfl⟩|apply y43),by repeat' (first|exact True.intro|exact z21 rfl rfl|apply y43)⟩
   rcases y70 i k with h3|h3
   ·exact hk.2 i h3
   ·obtain rfl:i=k:=by omega
    intro _ _
    obtain rfl:j=g.nx[i].length:=by omega
    exact ⟨by omega,by omega,hv,hj.2⟩
 ·exact z19 rfl (by rw [hiff];exact ⟨by omega,hne,fun i hi=>hk.2 i (by omega)⟩)
def Trans.mx (t:Trans):Prop:=inI t.val
def z336 (n:Int) (t:Trans):Prop:=(0≤t.src∧t.src≤n - 1)∧(0≤t.dst∧t.dst≤n - 1)∧(0≤t.care∧t.care≤7)∧0≤t.val∧t.val.toNat &&& t.care.toNat=t.val.toNat
instance {n:Int} {t:Trans} : Decidable (z336 n t):=by unfold z336;infer_instance
def z1065 (n:Int) (t:Trans):Bool:=decide (z336 n t)
theorem z307 {n:Int} {t:Trans} : z1065 n t=true↔z336 n t:=by unfold z1065;exact decide_eq_true_iff
theorem edgeB_no {n:Int} {t:Trans} : z1065 n t=false↔¬ z336 n t:=by rw [← z307,y72]
def IniP (l:List Int) (n:Int) (k:Nat):Prop:=∀ i (h:i < l.length),i < k→(0≤l[i]∧l[i]≤n - 1)∧∀ j (hj:j+1=i),l[j]'(by omega) < l[i]
def AutP (a:Aut):Prop:=(1≤a.acc.length∧a.acc.length≤64)∧a.ed.length≤2048∧IniP a.ini a.acc.length a.ini.length∧∀ e∈a.ed,z336 a.acc.length e
noncomputable instance {a:Aut} : Decidable (AutP a):=Classical.propDecidable _
noncomputable def autB (a:Aut):Bool:=decide (AutP a)
theorem z137 {a:Aut} : autB a=true↔AutP a:=by unfold autB;exact decide_eq_true_iff
theorem z213 {a:Aut} : autB a=false↔¬ AutP a:=by rw [← z137,y72]
theorem IniP.ge {l:List Int} {n:Int} (h:IniP l n l.length):∀ i (hi:i < l.length),(i:Int)≤l[i]:=by
 intro i
 induction i with
 |zero=>intro hi;exact (h 0 hi hi).1.1
 |succ i ih =>
  intro hi
  have h1:=ih (by omega)
  have h2:=(h (i+1) hi hi).2 i rfl
  omega
theorem IniP.le {l:List Int} {n:Int} (h:IniP l n l.length) (h0:0≤n):(l.length:Int)≤n:=by
 rcases Nat.eq_zero_or_pos l.length with e|e
 ·omega
 ·have h1:=h.ge (l.length - 1) (by omega)
  have h2:=(h (l.length - 1) (by omega) (by omega)).1.2
  omega
theorem z1084 {v c:Int} (h0:0≤v) (h1:v≤9223372036854775807) (h2:0≤c) (h3:c≤7):(((BitVec.ofNat 64 v.toNat &&& ~~~BitVec.ofNat 64 c.toNat).toNat:Nat):Int)=0↔v.toNat &&& c.toNat=v.toNat:=by
 obtain ⟨v,rfl⟩:=Int.eq_ofNat_of_zero_le h0
 obtain ⟨c,rfl⟩:=Int.eq_ofNat_of_zero_le h2
 simp only [y77]
 have hv:v < 2 ^ 64:=by omega
 have hc:c < 2 ^ 64:=by omega
 have e:∀ x y:BitVec 64,(x &&& ~~~y)=0#64↔x &&& y=x:=by
  intro x y
  constructor
  ·intro h
   apply BitVec.eq_of_getElem_eq
   intro i hi
   have:=congrArg (fun z=>z[i]) h
   simp at this ⊢
   cases hx:x[i]<;>simp_all
  ·intro h
   apply BitVec.eq_of_getElem_eq
   intro i hi
   have:=congrArg (fun z=>z[i]) h
   simp at this ⊢
   cases hx:x[i]<;>simp_all
 have e2:=e (BitVec.ofNat 64 v) (BitVec.ofNat 64 c)
 constructor
 ·intro h
  have h4:(BitVec.ofNat 64 v &&& ~~~BitVec.ofNat 64 c)=0#64:=BitVec.eq_of_toNat_eq (by simpa using h)
  have h5:=congrArg BitVec.toNat (e2.1 h4)
  simpa [BitVec.toNat_and,Nat.mod_eq_of_lt hv,Nat.mod_eq_of_lt hc] using h5
 ·intro h
  have h4:BitVec.ofNat 64 v &&& BitVec.ofNat 64 c=BitVec.ofNat 64 v:=BitVec.eq_of_toNat_eq (by
   simpa [BitVec.toNat_and,Nat.mod_eq_of_lt hv,Nat.mod_eq_of_lt hc] using h)
  have h5:=congrArg BitVec.toNat (e2.2 h4)
  simpa using h5
theorem z1080 (n:Int) (h0:0≤n) (h1:n≤maxLen) (t:Trans) (ht:t.mx):QQ 235 [z27 Trans.cs t,.pt [.int n]] [] (.bool (!z1065 n t)) []:=by
 unfold Trans.mx inI at ht
 unfold maxLen at h1
 refine z12 z15 func235 rfl rfl 37 ntmps235 (by simp) ?_
 repeat' (first|apply y4 ok;rfl;conv=>whnf|apply y43;(first|unfold inI;omega|(simp only [z94] at *;(unfold z100;omega)));conv=>whnf|apply z6<;>intro _<;>conv=>whnf|apply z78<;>intro _<;>conv=>whnf|apply z4 (z266 _ 0 (n - 1));rfl;rfl;conv=>whnf|apply z4 (z266 _ 0 7);rfl;rfl;conv=>whnf)
 all_goals (refine z19 rfl ?_;rw [Bool.eq_iff_iff];simp only [z94,z250,z307,edgeB_no,Bool.not_eq_true',decide_eq_false_iff_not,decide_eq_true_eq,Bool.false_eq_true,iff_false,iff_true] at *;unfold z336)
 all_goals try omega
 all_goals (rw [z1084 (by omega) (by omega) (by omega) (by omega)];omega)
theorem z1190 (n:Int) (t:Trans) (ht:t.mx):QQ 165 [z27 Trans.cs t,.int n] [] (.bool (z1065 n t)) []:=by
 unfold Trans.mx inI at ht
 refine z12 z15 func165 rfl rfl 50 ntmps165 (by simp) ?_
 repeat' (first|apply y4 ok;rfl;conv=>whnf|apply y43;((unfold z100;omega));conv=>whnf|apply z6<;>intro _<;>conv=>whnf)
 all_goals (refine z19 rfl ?_;rw [Bool.eq_iff_iff];simp only [z307,decide_eq_true_eq,Bool.false_eq_true,iff_false] at *;unfold z336)
 all_goals omega
theorem takes_ok (t:Trans) (n:Int) (h0:0≤n) (h1:n≤7) (ht:0≤t.care∧t.care≤7):QQ 153 [z27 Trans.cs t,.int n] [] (.bool (decide (((n.toNat &&& t.care.toNat:Nat):Int)=t.val))) []:=by
 refine z12 z15 func153 rfl rfl 12 ntmps153 (by simp) ?_
 repeat' (first|apply y4 ok;rfl;conv=>whnf|apply y43;((unfold z100;omega));conv=>whnf)
 exact z19 rfl rfl
theorem l7On_ok (t:Trans) (n:Int) (h0:0≤n) (h1:n≤7) (ht:0≤t.care∧t.care≤7):QQ 168 [z27 Trans.cs t,.int n] [] (.bool (decide (((n.toNat &&& t.care.toNat:Nat):Int)=t.val))) []:=by
 refine z12 z15 func168 rfl rfl 12 ntmps168 (by simp) ?_
 repeat' (first|apply y4 ok;rfl;conv=>whnf|apply y43;((unfold z100;omega));conv=>whnf)
 exact z19 rfl rfl
def Aut.mx (a:Aut):Prop:=a.ini.length≤maxLen∧a.acc.length≤maxLen∧a.ed.length≤maxLen∧∀ t∈a.ed,t.mx
theorem z466 (c:Int) (l:List Trans) (hl:l.length≤maxLen) (p:Trans→Bool) (f:FuncId) (hf:∀ x∈l,QQ f [z27 Trans.cs x,.pt [.int c]] [] (.bool (p x)) []):QQ 276 [lst 4 Trans.cs l,.fn (.func f) [] [.pt [.int c]]] [] (.int (idxF p l)) []:=by
 unfold maxLen at hl
 refine z12 z15 func276 rfl rfl 19 ntmps276 (by simp) ?_
 repeat' ((apply y4 ok;rfl;conv=>whnf))
 refine z97 (fun k:Nat=>([(0,lst 4 Trans.cs l),(1,.fn (.func f) [] [.pt [.int c]]),(7,.int l.length),(8,.int k)],[])) (fun k=>k≤l.length∧∀ j (hj:j < l.length),j < k→p l[j]=false) (fun k=>l.length - k) 0 (by simp)
  ⟨[],rfl,by decide,rfl,⟨⟨rfl,rfl⟩,⟨rfl,rfl⟩,⟨rfl,rfl⟩,⟨rfl,rfl⟩,trivial⟩,trivial⟩ ?_
 intro k hk
 repeat' (first|apply y4 ok;rfl;conv=>whnf|apply y43;(first|omega|unfold inI;omega);conv=>whnf|with_reducible apply z8;omega;intro _;conv=>whnf|apply z6<;>intro _<;>conv=>whnf|apply z82<;>intro _<;>conv=>whnf|apply z4 (hf l[k] (y44 _));rfl;rfl;conv=>whnf)
 ·rename_i h h1
  exact z55 rfl rfl (by rw [z182 (by omega) h1 hk.2];rfl)
 ·rename_i h h1
  refine z85 (k+1) [] ⟨by omega,fun j hj hjk=>?_⟩ (by omega) ⟨rfl,by decide,rfl,⟨⟨rfl,rfl⟩,⟨rfl,rfl⟩,⟨rfl,rfl⟩,⟨rfl,rfl⟩,trivial⟩,trivial⟩
  rcases y70 j k with h2|h2
  ·exact hk.2 j hj h2
  ·obtain rfl:j=k:=by omega
   exact h1
 ·exact z55 rfl rfl (by rw [z157 fun j hj=>hk.2 j hj (by omega)];rfl)
theorem z366 (c:Int) (l:List Trans) (hl:l.length≤maxLen) (p:Trans→Bool) (f:FuncId) (hf:∀ x∈l,QQ f [z27 Trans.cs x,.pt [.int c]] [] (.bool (p x)) []):QQ 234 [lst 4 Trans.cs l,.fn (.func f) [] [.pt [.int c]]] [] (.bool (l.any p)) []:=by
 refine z12 z15 func234 rfl rfl 9 ntmps234 (by simp) ?_
 repeat' (first|apply y4 ok;rfl;conv=>whnf|apply z4 (z466 c l hl p f hf);rfl;rfl;conv=>whnf)
 exact z19 rfl (by rw [← z218])
theorem IniP.step {l:List Int} {n:Int} {k:Nat} (h:IniP l n k) (hk:k < l.length) (h1:0≤l[k]∧l[k]≤n - 1) (h2:∀ j (hj:j+1=k),l[j]'(by omega) < l[k]):IniP l n (k+1):=by
 intro i hi hik
 rcases y70 i k with h3|h3
 ·exact h i hi h3
 ·obtain rfl:i=k:=by omega
  exact ⟨h1,h2⟩
def z399 (l:List Int) (k:Nat):Int:=if h:0 < k∧k≤l.length then l[k - 1]'(by omega) else -1
theorem z251 (a:Aut) (ha:a.mx):QQ 152 [.agg a.cs] [] (.bool (autB a)) []:=by
 obtain ⟨hi,hc,he,hm⟩:=ha
 have hk:=z366 (a.acc.length:Int) a.ed he (fun t=>!z1065 a.acc.length t) 235 (fun t ht=>z1080 _ (by omega) (by omega) t (hm t ht))
 unfold maxLen at hi hc he
 refine z12 z15 func152 rfl rfl 41 ntmps152 (by simp) ?_
 repeat' ((apply y4 ok;rfl;conv=>whnf))
 refine z97 (fun k:Nat=>([(1,.ptr 0 none 0),(3,.ptr 1 none 0),(4,.int (z399 a.ini k)),(11,lst 1 enI a.ini),(12,.int a.ini.length),(13,.int k)],[.cells 3 [[lst 1 enI a.ini,lst 1 enB a.acc,lst 4 Trans.cs a.ed]],.cells 1 [[.int a.acc.length]]])) (fun k=>k≤a.ini.length∧IniP a.ini a.acc.length k) (fun k=>a.ini.length - k) 0 ⟨by omega,fun i h hi=>by omega⟩ ⟨[0,1],rfl,by decide,rfl,by repeat' (first|exact True.intro|exact ⟨rfl,rfl⟩|apply y43),by repeat' (first|exact True.intro|exact z21 rfl rfl|apply y43)⟩ ?_
 rintro k ⟨hk1,hk2⟩
 have hlast : -1≤z399 a.ini k∧z399 a.ini k≤a.acc.length - 1:=by
  unfold z399
  split
  ·rename_i h
   have:=(hk2 (k - 1) (by omega) (by omega)).1;omega
  ·omega
 repeat' (first|apply y4 ok;rfl;conv=>whnf|apply y43;(first|omega|unfold inI;omega);conv=>whnf|with_reducible apply z8;omega;intro _;conv=>whnf|apply z6<;>intro _<;>conv=>whnf|apply z78<;>intro _<;>conv=>whnf|apply z82<;>intro _<;>conv=>whnf|apply z4 (z266 _ (z399 a.ini k+1) _);rfl;rfl;conv=>whnf|apply z4 (z266 _ 1 64);rfl;rfl;conv=>whnf|apply z988 [1] hk;rfl;rfl;rfl;rfl;conv=>whnf)
 ·rename_i hkl hb
  refine z19 rfl (z213.2 fun ⟨_,_,h,_⟩=>?_)
  have h1:=h k hkl hkl
  rw [z250] at hb
  refine hb ⟨?_,h1.1.2⟩
  unfold z399
  split
  ·rename_i hp
   have:=h1.2 (k - 1) (by omega);omega
  ·omega
 ·rename_i hkl hb
  rw [z94] at hb
  refine z85 (k+1) [0,1] ⟨by omega,hk2.step hkl (by omega) fun j hj=>?_⟩ (by omega) ⟨rfl,by decide,rfl,⟨⟨rfl,rfl⟩,⟨rfl,rfl⟩,⟨rfl,?_⟩,⟨rfl,rfl⟩,⟨rfl,rfl⟩,⟨rfl,rfl⟩,trivial⟩,⟨z21 rfl rfl,z21 rfl rfl,trivial⟩⟩
  ·subst hj
   have:=hb.1
   unfold z399 at this
   rw [dif_pos (by omega)] at this
   simp only [Nat.add_sub_cancel] at this
   omega
  ·have:z399 a.ini (k+1)=a.ini[k]:=by unfold z399;rw [dif_pos (by omega)];rfl
   rw [this];rfl
 all_goals (have hfull:IniP a.ini a.acc.length a.ini.length:=by (have:k=a.ini.length:=by omega);rw [← this];exact hk2)
 ·rename_i hb hl
  refine z19 rfl ?_
  rw [z94] at hb
  rw [Bool.eq_iff_iff,z137,Bool.not_eq_true',List.any_eq_false]
  constructor
  ·rintro ⟨_,_,_,h⟩ x hx
   simpa using z307.2 (h x hx)
  ·intro h
   exact ⟨by omega,by omega,hfull,fun e he=>z307.1 (by simpa using h e he)⟩
 ·refine z19 rfl (z213.2 fun hh=>?_)
  have:=hh.2.1;omega
 ·rename_i hb
  refine z19 rfl (z213.2 fun hh=>?_)
  have:=hh.1
  rw [z250] at hb;omega
theorem z129 (a:Aut) (ha:a.mx):QQ 81 [.agg a.cs] [] (.bool (autB a)) []:=by
 obtain ⟨hi,hc,he,hm⟩:=ha
 unfold maxLen at hi hc he
 refine z12 z15 func81 rfl rfl 83 ntmps81 (by simp) ?_
 repeat' (first|apply y4 ok;rfl;conv=>whnf|apply z6<;>intro _<;>conv=>whnf)
 ·exact z19 rfl (z213.2 fun ⟨h,_⟩=>by omega)
 ·exact z19 rfl (z213.2 fun ⟨h,_⟩=>by omega)
 ·exact z19 rfl (z213.2 fun ⟨h,_,h2,_⟩=>by have:=h2.le (by omega);omega)
 ·exact z19 rfl (z213.2 fun ⟨_,h,_⟩=>by omega)
 refine z97 (fun k:Nat=>([(1,.ptr 0 none 0),(3,.int a.acc.length),(4,.int k)],[.cells 3 [[lst 1 enI a.ini,lst 1 enB a.acc,lst 4 Trans.cs a.ed]]])) (fun k=>k≤a.ini.length∧IniP a.ini a.acc.length k) (fun k=>a.ini.length - k) 0 ⟨by omega,fun i h hi=>by omega⟩ ⟨[0],rfl,by decide,rfl,by repeat' (first|exact True.intro|exact ⟨rfl,rfl⟩|apply y43),by repeat' (first|exact True.intro|exact z21 rfl rfl|apply y43)⟩ ?_
 rintro k ⟨hk1,hk2⟩
 repeat' (first|apply y4 ok;rfl;conv=>whnf|apply z23;kernel_rfl;conv=>whnf|apply y43;(first|omega|unfold inI;omega);conv=>whnf|with_reducible apply z8;omega;intro _;conv=>whnf|apply z270;omega;intro _;conv=>whnf|apply z6<;>intro _<;>conv=>whnf)
 ·refine z19 rfl (z213.2 fun ⟨_,_,h,_⟩=>?_)
  have:=(h k (by assumption) (by assumption)).1;omega
 ·refine z19 rfl (z213.2 fun ⟨_,_,h,_⟩=>?_)
  have:=(h k (by assumption) (by assumption)).1;omega
 ·rename_i hk0 _ _ hb
  refine z19 rfl (z213.2 fun ⟨_,_,h,_⟩=>?_)
  have:=(h k (by assumption) (by assumption)).2 (k - 1) (by omega)
  have e:((k:Int) - 1).toNat=k - 1:=by omega
  simp only [e] at hb
  omega
 ·rename_i hk0 _ _ hb
  refine z85 (k+1) [0] ⟨by omega,hk2.step (by assumption) (by omega) fun j hj=>?_⟩ (by omega) ⟨rfl,by decide,rfl,by repeat' (first|exact True.intro|exact ⟨rfl,rfl⟩|apply y43),by repeat' (first|exact True.intro|exact z21 rfl rfl|apply y43)⟩
  have e:((k:Int) - 1).toNat=k - 1:=by omega
  simp only [e] at hb
  subst hj
  simp only [Nat.add_sub_cancel] at hb
  omega
 ·exact z85 (k+1) [0] ⟨by omega,hk2.step (by assumption) (by omega) fun j hj=>by omega⟩ (by omega) ⟨rfl,by decide,rfl,by repeat' (first|exact True.intro|exact ⟨rfl,rfl⟩|apply y43),by repeat' (first|exact True.intro|exact z21 rfl rfl|apply y43)⟩
 have hfull:IniP a.ini a.acc.length a.ini.length:=by (have:k=a.ini.length:=by omega);rw [← this];exact hk2
 clear hk2 hk1
 refine z97 (fun k:Nat=>([(1,.ptr 0 none 0),(3,.int a.acc.length),(5,.int k)],[.cells 3 [[lst 1 enI a.ini,lst 1 enB a.acc,lst 4 Trans.cs a.ed]]])) (fun k=>k≤a.ed.length∧∀ i (h:i < a.ed.length),i < k→z336 a.acc.length a.ed[i]) (fun k=>a.ed.length - k) 0 ⟨by omega,fun i h hi=>by omega⟩ ⟨[0],rfl,by decide,rfl,by repeat' (first|exact True.intro|exact ⟨rfl,rfl⟩|apply y43),by repeat' (first|exact True.intro|exact z21 rfl rfl|apply y43)⟩ ?_
 rintro k2 ⟨hk1,hk2⟩
 repeat' (first|apply y4 ok;rfl;conv=>whnf|apply y43;(first|omega|unfold inI;omega);conv=>whnf|with_reducible apply z8;omega;intro _;conv=>whnf|apply z6<;>intro _<;>conv=>whnf|apply z42<;>intro _<;>conv=>whnf|apply z4 (z1190 _ a.ed[k2] (hm _ (y44 _)));rfl;rfl;conv=>whnf)
 ·rename_i hb
  exact z19 rfl (z213.2 fun ⟨_,_,_,h⟩=>hb (h _ (y44 _)))
 ·rename_i hb
  refine z85 (k2+1) [0] ⟨by omega,fun i hi hik=>?_⟩ (by omega) ⟨rfl,by decide,rfl,by repeat' (first|exact True.intro|exact ⟨rfl,rfl⟩|apply y43),by repeat' (first|exact True.intro|exact z21 rfl rfl|apply y43)⟩
  rcases y70 i k2 with h3|h3
  ·exact hk2 i hi h3
  ·obtain rfl:i=k2:=by omega
   exact hb
 ·refine z19 rfl (z137.2 ⟨by omega,by omega,hfull,fun e he=>?_⟩)
  obtain ⟨i,hi,rfl⟩:=List.mem_iff_getElem.1 he
  exact hk2 i hi (by omega)
theorem z211 {P:Program} {f:FuncId} {w:Nat} {res:AC} {objs' : List AObj} (hf:z996 P f) (h:∀ a cap,CallsA P f [.raw (.slice a 0 cap)] [] res objs'):CallsA P f [.list w 0 []] [] res objs':=by
 refine ⟨hf,fun G W vs hW hs hv=>?_⟩
 simp only [VL] at hv
 obtain ⟨⟨v,hv1,hv2⟩,_⟩:=hv
 simp only [V] at hv2
 obtain ⟨a,cap,rfl,_⟩:=hv2
 exact (h a cap).2 G W vs hW hs (by simp only [VL];exact ⟨⟨_,hv1,by simp [V]⟩,trivial⟩)
theorem nils_le {w:Nat} : ACle .nils (.list w 0 []):=fun G h v hv=>by
 simp only [V] at hv ⊢
 exact ⟨none,0,hv,y52 _,rfl,.inl trivial⟩
theorem z847 {o off w:Nat} : ACle (.sref o off 0) (.list w 0 []):=fun G h v hv=>by
 simp only [V] at hv ⊢
 obtain ⟨cap,_,⟨rfl,a,rfl⟩|⟨b,size,w',_,_,rfl⟩⟩:=hv
 ·exact ⟨_,_,rfl,y52 _,rfl,.inl trivial⟩
 ·exact ⟨_,_,rfl,y53 _,rfl,.inl trivial⟩
theorem z300 {P : Program} {f : FuncId} {fn : Func} {c : Code} (hf : P.funcs[f]? = some fn) (hb : fn.body = some c) (hn : (fn.name == "runtime.NumGoroutine") = false) : z996 P f := ⟨fn, c, hf, hn, hb⟩
theorem z630 (l:List Int) (hl:l.length≤1048576) (hp:0 < l.length):QQ 201 [ints l] [] (.sref 0 0 l.length) [.cells 1 (l.map enI)]:=by
 refine z12 z15 func201 rfl rfl 8 ntmps201 (by simp) ?_
 repeat' (first|apply y4 ok;rfl;conv=>whnf|apply y43;(first|omega|dsimp only;omega|exact z62 (fun _=>rfl));conv=>whnf)
 exact z108 rfl (z5 fun _=>rfl) (Nat.zero_add _) rfl rfl
theorem z912 (l:List Int) (hl:l.length≤1048576):QQ 201 [ints l] [] (ints l) []:=by
 by_cases hp:0 < l.length
 ·have h:=(z630 l hl hp).keep (z172 _ _) (by simp)
  exact h
 ·obtain rfl:l=[]:=y74 (by omega)
  refine z211 (z300 func201 rfl (by rfl)) fun ad cap=>?_
  refine z12 z15 func201 rfl rfl 8 ntmps201 (by simp) ?_
  repeat' (first|apply y4 ok;rfl;conv=>whnf|apply y43;(omega);conv=>whnf|apply z82<;>intro _<;>conv=>whnf)
  ·exact z956 rfl rfl nils_le
  ·exact z956 rfl rfl z847
theorem z1070 (l:List Int) (hl:l.length≤1048576):QQ 66 [ints l] [] (ints l) []:=by
 refine z12 z15 func66 rfl rfl 9 ntmps66 (by simp) ?_
 repeat' (first|apply y4 ok;rfl;conv=>whnf|apply y43;(omega);conv=>whnf)
 refine z55 rfl rfl ?_
 show AC.list 1 _ _=ints l
 rw [show AC.list 1 ((l.length:Int).toNat - (0:Int).toNat) (((l.map enI).drop (0:Int).toNat).take ((l.length:Int).toNat - (0:Int).toNat))=_ from z318 1 enI l l.length (y52 _),y56]
 rfl
theorem z790 (l:List Int) (hl:l.length≤1048576):QQ 137 [ints l] [] (ints l) []:=by
 refine z12 z15 func137 rfl rfl 6 ntmps137 (by simp) ?_
 repeat' (first|apply y4 ok;rfl;conv=>whnf|apply z4 (z912 l hl);rfl;rfl;conv=>whnf|apply z4 (z1070 l hl);rfl;rfl;conv=>whnf)
 exact z55 rfl rfl rfl
theorem z1110 {x x' y:AC} (h:ACle x x'):ACle (.tup [x,y]) (.tup [x',y]):=fun G hh v hv=>by
 simp only [V,VL] at hv ⊢
 obtain ⟨c,rfl,hc,⟨v1,h1,h2⟩,h3,_⟩:=hv
 exact ⟨c,rfl,hc,⟨v1,h1,h _ _ _ h2⟩,h3,trivial⟩
noncomputable def glB (g:Graph) (l:List Tree):Bool:=z208 g && z170 l
theorem z727 {l:List Int} (h:z423 l=true):ValsOk l:=by
 unfold z423 at h
 rw [y71,decide_eq_true_eq,Bool.not_eq_true',List.any_eq_false] at h
 exact ⟨by omega,fun x hx=>by simpa [z94] using h.2 x hx⟩
theorem GB.vals {g:Graph} (h:GB g):∀ s∈g.st,ValsOk s.b:=fun s hs=>by
 obtain ⟨i,hi,rfl⟩:=List.mem_iff_getElem.1 hs
 exact z727 (h.2.2 i (by have:=h.2.1;omega) (by have:=h.2.1;omega) hi).2.2.1
def Lmx (l:List Tree):Prop:=l.length≤maxLen∧∀ t∈l,t.mx
theorem z166 (g:Graph) (hg:g.mx) (l:List Tree) (hl:Lmx l):QQ 52 [.agg g.cs,lst 3 Tree.cs' l] [] (.tup [ints (if glB g l then g.st.map (z32 l) else []),.bool (glB g l)]) []:=by
 refine z12 z15 func52 rfl rfl 18 ntmps52 (by simp) ?_
 have k1:=z425 g hg
 have k2:=z376 l hl.1 hl.2
 have k3:=fun (h1:z208 g=true) (h2:z170 l=true)=>z773 g ((z95 g).1 h1).vals ((z95 g).1 h1).1.2 l (y8 h2)
 repeat' (first|apply y4 ok;rfl;conv=>whnf|apply z78<;>intro _<;>conv=>whnf|apply z4 k1;rfl;rfl;conv=>whnf|apply z4 k2;rfl;rfl;conv=>whnf|apply z4 (k3 (by assumption) (by assumption));rfl;rfl;conv=>whnf)
 ·rename_i h
  have e:glB g l=false:=by unfold glB;rw [h];rfl
  rw [e]
  exact z956 rfl rfl (z1110 z847)
 ·rename_i h1 h2
  have e:glB g l=false:=by unfold glB;rw [h1,h2];rfl
  rw [e]
  exact z956 rfl rfl (z1110 z847)
 ·rename_i h1 h2
  have e:glB g l=true:=by unfold glB;rw [h1,h2];rfl
  rw [e]
  exact z55 rfl rfl rfl
theorem z632 (g:Graph) (hg:g.mx) (l:List Tree) (hl:Lmx l) (a:Aut) (ha:a.mx):QQ 74 [.agg g.cs,lst 3 Tree.cs' l,.agg a.cs] [] (.bool (glB g l && autB a)) []:=by
 refine z12 z15 func74 rfl rfl 17 ntmps74 (by simp) ?_
 repeat' (first|apply y4 ok;rfl;conv=>whnf|apply z82<;>intro _<;>conv=>whnf|apply z4 (z269 g hg);rfl;rfl;conv=>whnf|apply z4 (z229 l hl.1 hl.2);rfl;rfl;conv=>whnf|apply z4 (z251 a ha);rfl;rfl;conv=>whnf)
 all_goals (refine z19 rfl ?_;(unfold glB;simp [*];done))
theorem z167 (l:List (List Int)):z72 (l.map z93)=l.map encL:=by
 rw [z197,List.map_map]
 refine List.map_congr_left fun r _=>?_
 show [AC.list 1 _ (z72 _)]=_
 rw [z172]
 simp [encL,ints,enI]
theorem z628 (l:List Bool):z72 (l.map enB)=l.map enB:=z172 (fun b=>Value.bool b) l
theorem z1077 {objs:Nat→AObj} {π Bn:List Nat} {o n:Nat} {l:List Bool} (ho:objs o=.cells 1 (l.map enB)) (h1:idx π o=none) (h2:inB Bn o=true) (hl:l.length=n):bor objs π Bn (.sref o 0 n)=lst 1 enB l:=by
 subst hl;exact z161 ho h1 h2 (by simp) (z628 _)
theorem z1240 {objs:Nat→AObj} {π Bn:List Nat} {o:Nat} {l:List Bool} (ho:objs o=.cells 1 (l.map enB)) (h1:idx π o=none) (h2:inB Bn o=true):bor objs π Bn (.sref o 0 l.length)=lst 1 enB l :=
 z1077 ho h1 h2 rfl
end Go.Proofs.YtjhgpfaodkchjaaGreat
