/- Unions are certified componentwise. The law FnCertificateUnion returns true at every input and leaves its input as it was. No condition. -/
import Derived.Test.YtahhobgjcfionaaGreatG0
import Derived.Test.YtahhobgjcfionaaGreatG1
import Derived.Test.YtahhobgjcfionaaGreatG2
import Derived.Test.YtahhobgjcfionaaGreatG3
import Derived.Test.YtahhobgjcfionaaGreatP0
import Derived.Test.YtahhobgjcfionaaGreatP1
import Derived.Test.YtahhobgjcfionaaGreatP2
import Derived.Test.YtahhobgjcfionaaGreatP3
import Derived.Test.YtahhobgjcfionaaGreatP4
import Derived.Test.YtahhobgjcfionaaGreatP5
import Derived.Test.YtahhobgjcfionaaGreatP6
import Derived.Test.YtahhobgjcfionaaGreatP7
set_option linter.all false
namespace Go.Proofs.YtahhobgjcfionaaGreat
open Go.Gl
attribute [local irreducible] z19 AWP z36 z44 z39 RetS z47
theorem z663 {a:Aut} (hA:AutP a) {w:Nat→Int} {ρ:Nat→Int} (h:ARun a w ρ) (k:Nat):0≤ρ k∧ρ k < a.acc.length:=by
 obtain ⟨e,he,c1,_,_⟩:=h.2.1 k
 have:=hA.2.2.2 e he
 unfold z196 at this
 omega
theorem run_left {a b:Aut} (hA:AutP a) {w:Nat→Int} {ρ:Nat→Int} (h:ARun a w ρ):ARun (unA a b) w ρ:=by
 obtain ⟨h0,h1,h2⟩:=h
 refine ⟨List.mem_append.2 (.inl h0),fun k=>?_,fun m=>?_⟩
 ·obtain ⟨e,he,c⟩:=h1 k
  exact ⟨e,List.mem_append.2 (.inl he),c⟩
 ·obtain ⟨k,k1,k2⟩:=h2 m
  refine ⟨k,k1,?_⟩
  have:=z663 hA ⟨h0,h1,h2⟩ k
  show (a.acc++b.acc).getD _ _=_
  rw [y60,y58 (by omega),← y60];exact k2
theorem z982 {a b:Aut} (hB:AutP b) {w:Nat→Int} {ρ:Nat→Int} (h:ARun b w ρ):ARun (unA a b) w (fun k=>ρ k+(a.acc.length:Int)):=by
 obtain ⟨h0,h1,h2⟩:=h
 refine ⟨List.mem_append.2 (.inr (List.mem_map.2 ⟨_,h0,rfl⟩)),fun k=>?_,fun m=>?_⟩
 ·obtain ⟨e,he,c1,c2,c3⟩:=h1 k
  exact ⟨shT a.acc.length e,List.mem_append.2 (.inr (List.mem_map.2 ⟨e,he,rfl⟩)),by show e.src+_=_;rw [c1],by show e.dst+_=_;rw [c2],c3⟩
 ·obtain ⟨k,k1,k2⟩:=h2 m
  refine ⟨k,k1,?_⟩
  have:=z663 hB ⟨h0,h1,h2⟩ k
  show (a.acc++b.acc).getD (ρ k+(a.acc.length:Int)).toNat false=true
  rw [y60,y59 (by omega),show (ρ k+(a.acc.length:Int)).toNat - a.acc.length=(ρ k).toNat by omega,← y60];exact k2
theorem z981 {a b:Aut} (hA:AutP a) (hB:AutP b) {w:Nat→Int} {ρ:Nat→Int} (h:ARun (unA a b) w ρ):ARun a w ρ∨ARun b w (fun k=>ρ k - (a.acc.length:Int)):=by
 obtain ⟨h0,h1,h2⟩:=h
 have hst:∀ k,(∃ e∈a.ed,e.src=ρ k∧e.dst=ρ (k+1)∧onB e (w k)=true)∨(∃ e∈b.ed,e.src=ρ k - a.acc.length∧e.dst=ρ (k+1) - a.acc.length∧onB e (w k)=true):=fun k=>by
  obtain ⟨e,he,c1,c2,c3⟩:=h1 k
  rcases List.mem_append.1 he with h|h
  ·exact .inl ⟨e,h,c1,c2,c3⟩
  ·obtain ⟨e',h',rfl⟩:=List.mem_map.1 h
   refine .inr ⟨e',h',?_,?_,c3⟩
   ·change e'.src+_=_ at c1;omega
   ·change e'.dst+_=_ at c2;omega
 have lo:∀ k,ρ k < a.acc.length→(∃ e∈a.ed,e.src=ρ k∧e.dst=ρ (k+1)∧onB e (w k)=true)∧0≤ρ k∧ρ (k+1) < a.acc.length:=fun k hk=>by
  rcases hst k with ⟨e,he,c1,c2,c3⟩|⟨e,he,c1,c2,c3⟩
  ·have:=hA.2.2.2 e he
   unfold z196 at this
   exact ⟨⟨e,he,c1,c2,c3⟩,by omega,by omega⟩
  ·have:=hB.2.2.2 e he
   unfold z196 at this
   omega
 have hi:∀ k,(a.acc.length:Int)≤ρ k→(∃ e∈b.ed,e.src=ρ k - a.acc.length∧e.dst=ρ (k+1) - a.acc.length∧onB e (w k)=true)∧(a.acc.length:Int)≤ρ (k+1):=fun k hk=>by
  rcases hst k with ⟨e,he,c1,c2,c3⟩|⟨e,he,c1,c2,c3⟩
  ·have:=hA.2.2.2 e he
   unfold z196 at this
   omega
  ·have:=hB.2.2.2 e he
   unfold z196 at this
   exact ⟨⟨e,he,c1,c2,c3⟩,by omega⟩
 by_cases h00:ρ 0 < a.acc.length
 ·have hall:∀ k,ρ k < a.acc.length:=fun k=>by
   induction k with
   |zero=>exact h00
   |succ k ih=>exact (lo k ih).2.2
  refine .inl ⟨?_,fun k=>(lo k (hall k)).1,fun m=>?_⟩
  ·rcases List.mem_append.1 h0 with h|h
   ·exact h
   ·obtain ⟨q,hq,e⟩:=List.mem_map.1 h
    obtain ⟨j,hj,ej⟩:=List.mem_iff_getElem.1 hq
    have:=(hB.2.2.1 j hj hj).1
    change q+_=_ at e
    omega
  ·obtain ⟨k,k1,k2⟩:=h2 m
   refine ⟨k,k1,?_⟩
   have h3:=hall k
   have h4:=(lo k h3).2.1
   change (a.acc++b.acc).getD _ _=_ at k2
   rw [y60,y58 (by omega),← y60] at k2;exact k2
 ·have hall:∀ k,(a.acc.length:Int)≤ρ k:=fun k=>by
   induction k with
   |zero=>omega
   |succ k ih=>exact (hi k ih).2
  refine .inr ⟨?_,fun k=>(hi k (hall k)).1,fun m=>?_⟩
  ·rcases List.mem_append.1 h0 with h|h
   ·obtain ⟨j,hj,ej⟩:=List.mem_iff_getElem.1 h
    have:=(hA.2.2.1 j hj hj).1
    omega
   ·obtain ⟨q,hq,e⟩:=List.mem_map.1 h
    change q+_=_ at e
    show ρ 0 - _∈_
    rw [← e,Int.add_sub_cancel];exact hq
  ·obtain ⟨k,k1,k2⟩:=h2 m
   refine ⟨k,k1,?_⟩
   have h3:=hall k
   change (a.acc++b.acc).getD _ _=_ at k2
   rw [y60,y59 (by omega),← y60] at k2
   show b.acc.getD (ρ k - _).toNat false=true
   rw [show (ρ k - (a.acc.length:Int)).toNat=(ρ k).toNat - a.acc.length by omega];exact k2
theorem z600 {g:Graph} {l:List Tree} {a:Aut} (h1:glB g l=true) (h2:autB a=true):mkOk g l a=true↔¬ ∃ π ρ:Nat→Int,GPath g π∧ARun a (gW g l π) ρ:=by
 have h:(glB g l && autB a)=true:=by rw [h1,h2];rfl
 have e1:ftO g l a=trcO g (g.st.map (z50 l)) a:=by unfold ftO;rw [if_pos h]
 rw [← fto_iff h,e1]
 unfold mkOk
 rw [h,Bool.true_and]
 simp
theorem z740 {g:Graph} {l:List Tree} {a b:Aut} (h:unB a b=true):mkOk g l (unR a b)=(mkOk g l a && mkOk g l b):=by
 unfold unR
 rw [if_pos h]
 unfold unB at h
 obtain ⟨h,hc⟩:=Bool.and_eq_true_iff.1 h
 obtain ⟨ha,hb⟩:=Bool.and_eq_true_iff.1 h
 by_cases hg:glB g l=true
 ·rw [Bool.eq_iff_iff,y63,z600 hg ha,z600 hg hb,z600 hg hc]
  have hA:=z126.1 ha
  have hB:=z126.1 hb
  constructor
  ·exact fun h=>⟨fun ⟨π,ρ,hp,hr⟩=>h ⟨π,ρ,hp,run_left hA hr⟩,fun ⟨π,ρ,hp,hr⟩=>h ⟨π,_,hp,z982 hB hr⟩⟩
  ·rintro ⟨n1,n2⟩ ⟨π,ρ,hp,hr⟩
   rcases z981 hA hB hr with h|h
   ·exact n1 ⟨π,ρ,hp,h⟩
   ·exact n2 ⟨π,_,hp,h⟩
 ·unfold mkOk
  rw [(y64 _).mp hg];rfl
theorem unR_mx {a b:Aut} (ha:a.mx) (hb:b.mx):(unR a b).mx:=by
 unfold unR
 by_cases h:unB a b=true
 ·rw [if_pos h]
  unfold unB at h
  have hC:=z126.1 (Bool.and_eq_true_iff.1 h).2
  have h1:=z629 hC
  have h2:=hC.1
  have h3:=hC.2.1
  refine ⟨by unfold maxLen;omega,by unfold maxLen;omega,by unfold maxLen;omega,fun e he=>?_⟩
  rcases List.mem_append.1 he with h|h
  ·exact ha.2.2.2 e h
  ·obtain ⟨e',h',rfl⟩:=List.mem_map.1 h
   exact hb.2.2.2 e' h'
 ·rw [if_neg h]
  exact ⟨by simp,by simp,by simp,fun e he=>by cases he⟩
set_option maxHeartbeats 6400000 in
theorem z273 (c:List Int) (hc:CodeOk c) (d:List Int) (hd:CodeOk d):CallsA Tryz.prog 6 [lst 1 enU c,lst 1 enU d] [] (.bool true) []:=by
 obtain ⟨g,l,a,⟨hg,hl,ha⟩,cd⟩:=z707 c hc
 obtain ⟨g',l',b,⟨_,_,hb⟩,ce⟩:=z707 d hd
 have hgm:=hg.mx
 have hlm:=hl.mx
 have hlen:=hc.len
 have hlen2:=hd.len
 unfold maxLen at hlen hlen2
 have k1:=z324 g hgm l hlm a ha.mx'
 have k2:=z749 g hgm l hlm a ha.mx'
 have k3:=z695 a ha.mx' b hb.mx'
 have k4:=z324 g hgm l hlm b hb.mx'
 have k5:=z324 g hgm l hlm (unR a b) (unR_mx ha.mx' hb.mx')
 have hp:=@z740 g l a b
 generalize mkR g l a=r1 at *
 generalize mkR g l b=r2 at *
 generalize mkR g l (unR a b)=r3 at *
 generalize mkOk g l a=p at *
 generalize mkOk g l b=q at *
 generalize mkOk g l (unR a b)=r at *
 generalize unR a b=u at *
 cases hu:unB a b with
 |false =>
  rw [hu] at k3
  refine z7 z16 Tryz.func6 rfl rfl 91 Tryz.ntmps6 (by simp) ?_
  repeat' ((first|(apply y76 ok;rfl)|((first|apply z5|apply z40)<;>intro _)|(apply z6 (cd);rfl;rfl)|(apply z6 (ce);rfl;rfl)|(apply z6 (k1);rfl;rfl)|(apply z6 (k2);rfl;rfl)|(apply z6 (k3);rfl;rfl))<;>conv=>whnf)
  all_goals first|(exfalso;contradiction)|(refine rsD [] [] rfl ?_;(repeat' first|exact y78 _|constructor))
  all_goals exact z803 (by cases p<;>simp_all)
 |true =>
  rw [hu] at k3
  have hp:=hp hu
  refine z7 z16 Tryz.func6 rfl rfl 91 Tryz.ntmps6 (by simp) ?_
  repeat' ((first|(apply y76 ok;rfl)|((first|apply z5|apply z40|apply z107)<;>intro _)|(apply z6 (cd);rfl;rfl)|(apply z6 (ce);rfl;rfl)|(apply z6 (k1);rfl;rfl)|(apply z6 (k2);rfl;rfl)|(apply z6 (k3);rfl;rfl)|(apply z6 (k4);rfl;rfl)|(apply z6 (k5);rfl;rfl))<;>conv=>whnf)
  all_goals first|(exfalso;contradiction)|(refine rsD [] [] rfl ?_;(repeat' first|exact y78 _|constructor))
  all_goals exact z803 (by cases p<;>simp_all)
end Go.Proofs.YtahhobgjcfionaaGreat
namespace Go.Proofs.YtahhobgjcfionaaGreat
open Go.Gl
open Go.ChangeShapes Go.WideShapes Go.ChangeAt Go.RowKit
attribute [local irreducible] z19 AWP z36 z44 z39
namespace FnCertificateUnion
theorem args_ok:ArgsOk Tryz.prog Tryz.f6.params.toList (fun xs _=>∃ (c:List Int) (d:List Int),xs=[lst 1 enU c,lst 1 enU d]∧CodeOk c∧CodeOk d):=by
 rw [Tryz.params6]
 refine ArgsOk.imp (z717 z1090 (z717 z1090 (args_nil))) ?_
 rintro xs m ⟨c,_,rfl,hc,d,_,rfl,hd,rfl⟩
 exact ⟨c,d,rfl,hc,hd⟩
set_option maxRecDepth 100000 in
theorem contract (H : Type) (enc : TypeId × Value → H) (W : World) (base : Nat) (args : Array Value) (ds gs : List (DataW H)) (before : List MemPlace)
    (hval:∀ (j:Nat) t v,Tryz.f6.params[j]?=some t→args[j]?=some v→Value.okWide Tryz.prog W .any base t v)
    (hW:DataW.Whole enc Tryz.prog Tryz.f6.params.toList Rows.fnCertificateUnionSpec.vars false W args.toList ds gs before) :
    Calls Tryz.prog 6 args W fun e W'=>∃ v,e=.returned v∧Rows.fnCertificateUnionSpec.post enc Tryz.prog Tryz.f6 false true false false W args v W':=by
  refine law_post z800 z893 (by rw [Tryz.params6];decide +kernel) rfl (fun ds h=>?_) (by kernel_rfl) Tryz.underlying4 args_ok (fun xs m h _=>?_) hval hW
  · rw [Tryz.params6] at h
    match ds,h with
    | [_,_],_=>rfl
  · obtain ⟨c,d,rfl,hc,hd⟩:=h
    exact z273 c hc d hd
noncomputable def w0 (os:Os):World:=World.holding Tryz.prog os ⟨#[],#[],[]⟩
def zeros:Array Value:=#[.slice none 0 0,.slice none 0 0]
theorem reads (os:Os) {H:Type} (enc:TypeId×Value→H):∃ places,DataW.whole enc Tryz.prog ((w0 os).forCall (fun _ _=>0) ⟨#[],zeros,[]⟩).memory Tryz.f6.params.toList Rows.fnCertificateUnionSpec.vars false zeros.toList 8=some ([.nil,.nil],[],places) :=
 ⟨[],by kernel_rfl⟩
set_option maxRecDepth 100000 in
theorem lifted (os : Os) (started : os.Started) (H : Type) (enc : TypeId × Value → H) (F : Stop.Interp) :
    ReturnsInHanded {} Tryz.checked os 6 .any ((OpenSpec.ofChange Rows.fnCertificateUnionSpec).preRow enc Tryz.prog Tryz.f6 Rows.fnCertificateUnionRow.domain false Rows.fnCertificateUnionRow.laid) (((OpenSpec.ofChange Rows.fnCertificateUnionSpec).at F).post enc Tryz.prog Tryz.f6 false true false false):=by
  obtain ⟨places,hx⟩:=reads os enc
  refine returnsInHanded_of_row (C:=Tryz.checked) (s:=OpenSpec.ofChange Rows.fnCertificateUnionSpec) own started (by kernel_rfl) Tryz.func6
    (witness_row_at (enc:=enc) (C:=Tryz.checked) false (w0 os) zeros rfl (by kernel_rfl) (by kernel_rfl) (by kernel_rfl)
      (OpenSpec.preRow_of_cond 8 hx (by kernel_rfl) (fun k hk=>by cases hk) (by kernel_rfl) (laidMetH_nil _ _))) ?_
  intro W base args ds gs before hval hW _ _ _ _ _ _
  exact contract H enc W base args ds gs before hval hW
set_option maxHeartbeats 40000000 in
set_option maxRecDepth 100000 in
theorem closed:joinedFacts Tryz.prog 6 Tryz.f6 (OpenSpec.ofChange Rows.fnCertificateUnionSpec).bare Rows.fnCertificateUnionRow=true:=by
 unfold joinedFacts
 repeat' (with_reducible apply and_mk)
 all_goals (as_aux_lemma=>kernel_rfl)
theorem proved:Rows.FnCertificateUnionSaid :=
 OpenClaim.holds_of_cond 6 Tryz.f6 rfl rfl rfl rfl rfl rfl rfl ⟨rfl,rfl,rfl,rfl,rfl⟩ rfl rfl rfl rfl rfl (by kernel_rfl) Tryz.func6 closed
  (of_decide_eq_true (by kernel_rfl)) (by unfold Func.isWrapper;first|(rw [if_pos (by decide +kernel)];kernel_rfl)|(rw [if_neg (by decide +kernel)];exact ⟨rfl,rfl⟩))
  (fun os started H enc _ F=>by rw [OpenClaim.pre_eq_preRow];exact lifted os started H enc F)
end FnCertificateUnion
end Go.Proofs.YtahhobgjcfionaaGreat
