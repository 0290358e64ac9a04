/- Simplification preserves verdicts. The law FnSimplifyCheck returns true at every input and leaves its input as it was. No condition. -/
import Derived.Test.YteinbnahinpegaaGreatP8
set_option linter.all false
namespace Go.Proofs.YteinbnahinpegaaGreat
open Go.Gl Proofs.Tryz
attribute [local irreducible] z18 AWP z38 z41 z40 RetS z42
theorem z410 (c:List Int) (hc:CodeOk c):QQ 4 [lst 1 enU c] [] (.bool true) []:=by
 obtain ⟨g,l,a,⟨hg,hl,ha⟩,cd⟩:=z1230 c hc
 exact z595 (fun a ha=>z559 (fun b hb=>z856 trim_of merge_of b hb) a ha)
  (fun a ha=>z517 z1039 z890 z587 a ha) c hc ⟨g,l,a,⟨hg.mx,hl.mx,Aut.sm.mx' ha⟩,cd⟩
end Go.Proofs.YteinbnahinpegaaGreat
namespace Go.Proofs.YteinbnahinpegaaGreat
open Go.Gl Proofs.Tryz
open Go.ChangeShapes Go.WideShapes Go.ChangeAt Go.RowKit
attribute [local irreducible] z18 AWP z38 z41 z40
namespace FnSimplifyCheck
theorem args_ok:ArgsOk prog Tryz.f4.params.toList (fun xs _=>∃ (c:List Int),xs=[lst 1 enU c]∧CodeOk c):=by
 rw [Tryz.params4]
 refine ArgsOk.imp (z1263 ad_code args_nil) ?_
 rintro xs m ⟨c,_,rfl,hc,rfl⟩
 exact ⟨c,rfl,hc⟩
set_option maxRecDepth 100000 in
theorem contract (H : Type) (enc : TypeId × Value → H) (W : World) (base : Nat) (args : Array Value) (ds gs : List (DataW H)) (before : List MemPlace)
    (hval:∀ (j:Nat) t v,Tryz.f4.params[j]?=some t→args[j]?=some v→Value.okWide prog W .any base t v)
    (hW:DataW.Whole enc prog Tryz.f4.params.toList Rows.fnSimplifyCheckSpec.vars false W args.toList ds gs before) :
    Calls prog 4 args W fun e W'=>∃ v,e=.returned v∧Rows.fnSimplifyCheckSpec.post enc prog Tryz.f4 false true false false W args v W':=by
  refine law_post z911 z1023 (by rw [Tryz.params4];decide +kernel) rfl (fun ds h=>?_) (by kernel_rfl) underlying4 args_ok (fun xs m h _=>?_) hval hW
  · rw [Tryz.params4] at h
    match ds,h with
    | [_],_=>rfl
  · obtain ⟨c,rfl,hc⟩:=h
    exact z410 c hc
noncomputable def w0 (os:Os):World:=World.holding prog os ⟨#[],#[],[]⟩
def zeros:Array Value:=#[.slice none 0 0]
theorem reads (os:Os) {H:Type} (enc:TypeId×Value→H):∃ places,DataW.whole enc prog ((w0 os).forCall (fun _ _=>0) ⟨#[],zeros,[]⟩).memory Tryz.f4.params.toList Rows.fnSimplifyCheckSpec.vars false zeros.toList 8=some ([.nil],[],places) :=
 ⟨[],by kernel_rfl⟩
set_option maxRecDepth 100000 in
theorem lifted (os : Os) (started : os.Started) (H : Type) (enc : TypeId × Value → H) (F : Stop.Interp) :
    ReturnsInHanded {} Tryz.checked os 4 .any ((OpenSpec.ofChange Rows.fnSimplifyCheckSpec).preRow enc prog Tryz.f4 Rows.fnSimplifyCheckRow.domain false Rows.fnSimplifyCheckRow.laid) (((OpenSpec.ofChange Rows.fnSimplifyCheckSpec).at F).post enc prog Tryz.f4 false true false false):=by
  obtain ⟨places,hx⟩:=reads os enc
  refine returnsInHanded_of_row (C:=Tryz.checked) (s:=OpenSpec.ofChange Rows.fnSimplifyCheckSpec) own started (by kernel_rfl) func4
    (witness_row_at (enc:=enc) (C:=Tryz.checked) false (w0 os) zeros rfl (by kernel_rfl) (by kernel_rfl) (by kernel_rfl)
      (OpenSpec.preRow_of_cond 8 hx (by kernel_rfl) (fun k hk=>by cases hk) (by kernel_rfl) (laidMetH_nil _ _))) ?_
  intro W base args ds gs before hval hW _ _ _ _ _ _
  exact contract H enc W base args ds gs before hval hW
set_option maxHeartbeats 40000000 in
set_option maxRecDepth 100000 in
theorem closed:joinedFacts prog 4 Tryz.f4 (OpenSpec.ofChange Rows.fnSimplifyCheckSpec).bare Rows.fnSimplifyCheckRow=true:=by
 unfold joinedFacts
 repeat' (with_reducible apply and_mk)
 all_goals (as_aux_lemma=>kernel_rfl)
theorem proved:Rows.FnSimplifyCheckSaid :=
 OpenClaim.holds_of_cond 4 Tryz.f4 rfl rfl rfl rfl rfl rfl rfl ⟨rfl,rfl,rfl,rfl,rfl⟩ rfl rfl rfl rfl rfl (by kernel_rfl) func4 closed
  (of_decide_eq_true (by kernel_rfl)) (by unfold Func.isWrapper;first|rw [if_pos (by decide +kernel)];kernel_rfl|rw [if_neg (by decide +kernel)];exact ⟨rfl,rfl⟩)
  (fun os started H enc _ F=>by rw [OpenClaim.pre_eq_preRow];exact lifted os started H enc F)
end FnSimplifyCheck
end Go.Proofs.YteinbnahinpegaaGreat
