/- Next looks at successors. The law FnCheckNext returns true at every input and leaves its input as it was. No condition. -/
import Derived.Test.YtahhobgjcfionaaGreatG0
import Derived.Test.YtahhobgjcfionaaGreatG1
import Derived.Test.YtahhobgjcfionaaGreatG2
import Derived.Test.YtahhobgjcfionaaGreatG3
import Derived.Test.YtahhobgjcfionaaGreatP0
import Derived.Test.YtahhobgjcfionaaGreatP1
import Derived.Test.YtahhobgjcfionaaGreatP2
import Derived.Test.YtahhobgjcfionaaGreatP3
import Derived.Test.YtahhobgjcfionaaGreatP4
import Derived.Test.YtahhobgjcfionaaGreatP5
import Derived.Test.YtahhobgjcfionaaGreatP6
import Derived.Test.YtahhobgjcfionaaGreatP7
set_option linter.all false
namespace Go.Proofs.YtahhobgjcfionaaGreat
open Go.Gl
open Go.ChangeShapes Go.WideShapes Go.ChangeAt Go.RowKit
attribute [local irreducible] z18 AWP z34 z39 z38
namespace FnCheckNext
theorem args_ok:ArgsOk Tryz.prog Tryz.f14.params.toList (fun xs _=>∃ (c:List Int) (d:List Int),xs=[lst 1 enU c,lst 1 enU d]∧CodeOk c∧CodeOk d):=by
 rw [Tryz.params14]
 refine ArgsOk.imp (z383 z649 (z383 z649 (z896))) ?_
 rintro xs m ⟨c,_,rfl,hc,d,_,rfl,hd,rfl⟩
 exact ⟨c,d,rfl,hc,hd⟩
set_option maxRecDepth 100000 in
theorem contract (H : Type) (enc : TypeId × Value → H) (W : World) (base : Nat) (args : Array Value) (ds gs : List (DataW H)) (before : List MemPlace)
    (hval:∀ (j:Nat) t v,Tryz.f14.params[j]?=some t→args[j]?=some v→Value.okWide Tryz.prog W .any base t v)
    (hW:DataW.Whole enc Tryz.prog Tryz.f14.params.toList Rows.fnCheckNextSpec.vars false W args.toList ds gs before) :
    Calls Tryz.prog 14 args W fun e W'=>∃ v,e=.returned v∧Rows.fnCheckNextSpec.post enc Tryz.prog Tryz.f14 false true false false W args v W':=by
  refine z872 z513 z565 (by rw [Tryz.params14];decide +kernel) rfl (fun ds h=>?_) (by kernel_rfl) Tryz.underlying4 args_ok (fun xs m h _=>?_) hval hW
  · rw [Tryz.params14] at h
    match ds,h with
    | [_,_],_=>rfl
  · obtain ⟨c,d,rfl,hc,hd⟩:=h
    exact z538 c hc d hd
noncomputable def w0 (os:Os):World:=World.holding Tryz.prog os ⟨#[],#[],[]⟩
def zeros:Array Value:=#[.slice none 0 0,.slice none 0 0]
theorem reads (os:Os) {H:Type} (enc:TypeId×Value→H):∃ places,DataW.whole enc Tryz.prog ((w0 os).forCall (fun _ _=>0) ⟨#[],zeros,[]⟩).memory Tryz.f14.params.toList Rows.fnCheckNextSpec.vars false zeros.toList 8=some ([.nil,.nil],[],places) :=
 ⟨[],by kernel_rfl⟩
set_option maxRecDepth 100000 in
theorem lifted (os : Os) (started : os.Started) (H : Type) (enc : TypeId × Value → H) (F : Stop.Interp) :
    ReturnsInHanded {} Tryz.checked os 14 .any ((OpenSpec.ofChange Rows.fnCheckNextSpec).preRow enc Tryz.prog Tryz.f14 Rows.fnCheckNextRow.domain false Rows.fnCheckNextRow.laid) (((OpenSpec.ofChange Rows.fnCheckNextSpec).at F).post enc Tryz.prog Tryz.f14 false true false false):=by
  obtain ⟨places,hx⟩:=reads os enc
  refine returnsInHanded_of_row (C:=Tryz.checked) (s:=OpenSpec.ofChange Rows.fnCheckNextSpec) own started (by kernel_rfl) Tryz.func14
    (witness_row_at (enc:=enc) (C:=Tryz.checked) false (w0 os) zeros rfl (by kernel_rfl) (by kernel_rfl) (by kernel_rfl)
      (OpenSpec.preRow_of_cond 8 hx (by kernel_rfl) (fun k hk=>by cases hk) (by kernel_rfl) (laidMetH_nil _ _))) ?_
  intro W base args ds gs before hval hW _ _ _ _ _ _
  exact contract H enc W base args ds gs before hval hW
set_option maxHeartbeats 40000000 in
set_option maxRecDepth 100000 in
theorem closed:joinedFacts Tryz.prog 14 Tryz.f14 (OpenSpec.ofChange Rows.fnCheckNextSpec).bare Rows.fnCheckNextRow=true:=by
 unfold joinedFacts
 repeat' (with_reducible apply and_mk)
 all_goals (as_aux_lemma=>kernel_rfl)
theorem proved:Rows.FnCheckNextSaid :=
 OpenClaim.holds_of_cond 14 Tryz.f14 rfl rfl rfl rfl rfl rfl rfl ⟨rfl,rfl,rfl,rfl,rfl⟩ rfl rfl rfl rfl rfl (by kernel_rfl) Tryz.func14 closed
  (of_decide_eq_true (by kernel_rfl)) (by unfold Func.isWrapper;first|(rw [if_pos (by decide +kernel)];kernel_rfl)|(rw [if_neg (by decide +kernel)];exact ⟨rfl,rfl⟩))
  (fun os started H enc _ F=>by rw [OpenClaim.pre_eq_preRow];exact lifted os started H enc F)
end FnCheckNext
end Go.Proofs.YtahhobgjcfionaaGreat
