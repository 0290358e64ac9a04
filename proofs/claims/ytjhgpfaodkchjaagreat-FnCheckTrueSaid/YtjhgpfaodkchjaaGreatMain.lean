/- Trivial formulas are decided by the program as the law says. The law FnCheckTrue returns true at every input and leaves its input as it was. No condition. -/
import Derived.Test.YtjhgpfaodkchjaaGreatG0
import Derived.Test.YtjhgpfaodkchjaaGreatG1
import Derived.Test.YtjhgpfaodkchjaaGreatG2
import Derived.Test.YtjhgpfaodkchjaaGreatG3
import Derived.Test.YtjhgpfaodkchjaaGreatP0
import Derived.Test.YtjhgpfaodkchjaaGreatP1
import Derived.Test.YtjhgpfaodkchjaaGreatP2
import Derived.Test.YtjhgpfaodkchjaaGreatP3
import Derived.Test.YtjhgpfaodkchjaaGreatP4
import Derived.Test.YtjhgpfaodkchjaaGreatP5
import Derived.Test.YtjhgpfaodkchjaaGreatP6
import Derived.Test.YtjhgpfaodkchjaaGreatP7
import Derived.Test.YtjhgpfaodkchjaaGreatP8
set_option linter.all false
namespace Go.Proofs.YtjhgpfaodkchjaaGreat
open Go.Gl
open Go.ChangeShapes Go.WideShapes Go.ChangeAt Go.RowKit
attribute [local irreducible] z18 AWP z30 z37 z33
namespace FnCheckTrue
theorem args_ok:ArgsOk Tryz.prog Tryz.f6.params.toList (fun xs _=>∃ (c:List Int),xs=[lst 1 enU c]∧CodeOk c):=by
 rw [Tryz.params6]
 refine ArgsOk.imp (z559 z910 (z975)) ?_
 rintro xs m ⟨c,_,rfl,hc,rfl⟩
 exact ⟨c,rfl,hc⟩
set_option maxRecDepth 100000 in
theorem contract (H : Type) (enc : TypeId × Value → H) (W : World) (base : Nat) (args : Array Value) (ds gs : List (DataW H)) (before : List MemPlace)
    (hval:∀ (j:Nat) t v,Tryz.f6.params[j]?=some t→args[j]?=some v→Value.okWide Tryz.prog W .any base t v)
    (hW:DataW.Whole enc Tryz.prog Tryz.f6.params.toList Rows.fnCheckTrueSpec.vars false W args.toList ds gs before) :
    Calls Tryz.prog 6 args W fun e W'=>∃ v,e=.returned v∧Rows.fnCheckTrueSpec.post enc Tryz.prog Tryz.f6 false true false false W args v W':=by
  refine z952 z553 z607 (by rw [Tryz.params6];decide +kernel) rfl (fun ds h=>?_) (by kernel_rfl) Tryz.underlying4 args_ok (fun xs m h _=>?_) hval hW
  · rw [Tryz.params6] at h
    match ds,h with
    | [_],_=>rfl
  · obtain ⟨c,rfl,hc⟩:=h
    exact z579 c hc
noncomputable def w0 (os:Os):World:=World.holding Tryz.prog os ⟨#[],#[],[]⟩
def zeros:Array Value:=#[.slice none 0 0]
theorem reads (os:Os) {H:Type} (enc:TypeId×Value→H):∃ places,DataW.whole enc Tryz.prog ((w0 os).forCall (fun _ _=>0) ⟨#[],zeros,[]⟩).memory Tryz.f6.params.toList Rows.fnCheckTrueSpec.vars false zeros.toList 8=some ([.nil],[],places) :=
 ⟨[],by kernel_rfl⟩
set_option maxRecDepth 100000 in
theorem lifted (os : Os) (started : os.Started) (H : Type) (enc : TypeId × Value → H) (F : Stop.Interp) :
    ReturnsInHanded {} Tryz.checked os 6 .any ((OpenSpec.ofChange Rows.fnCheckTrueSpec).preRow enc Tryz.prog Tryz.f6 Rows.fnCheckTrueRow.domain false Rows.fnCheckTrueRow.laid) (((OpenSpec.ofChange Rows.fnCheckTrueSpec).at F).post enc Tryz.prog Tryz.f6 false true false false):=by
  obtain ⟨places,hx⟩:=reads os enc
  refine returnsInHanded_of_row (C:=Tryz.checked) (s:=OpenSpec.ofChange Rows.fnCheckTrueSpec) own started (by kernel_rfl) Tryz.func6
    (witness_row_at (enc:=enc) (C:=Tryz.checked) false (w0 os) zeros rfl (by kernel_rfl) (by kernel_rfl) (by kernel_rfl)
      (OpenSpec.preRow_of_cond 8 hx (by kernel_rfl) (fun k hk=>by cases hk) (by kernel_rfl) (laidMetH_nil _ _))) ?_
  intro W base args ds gs before hval hW _ _ _ _ _ _
  exact contract H enc W base args ds gs before hval hW
set_option maxHeartbeats 40000000 in
set_option maxRecDepth 100000 in
theorem closed:joinedFacts Tryz.prog 6 Tryz.f6 (OpenSpec.ofChange Rows.fnCheckTrueSpec).bare Rows.fnCheckTrueRow=true:=by
 unfold joinedFacts
 repeat' (with_reducible apply and_mk)
 all_goals (as_aux_lemma=>kernel_rfl)
theorem proved:Rows.FnCheckTrueSaid :=
 OpenClaim.holds_of_cond 6 Tryz.f6 rfl rfl rfl rfl rfl rfl rfl ⟨rfl,rfl,rfl,rfl,rfl⟩ rfl rfl rfl rfl rfl (by kernel_rfl) Tryz.func6 closed
  (of_decide_eq_true (by kernel_rfl)) (by unfold Func.isWrapper;first|(rw [if_pos (by decide +kernel)];kernel_rfl)|(rw [if_neg (by decide +kernel)];exact ⟨rfl,rfl⟩))
  (fun os started H enc _ F=>by rw [OpenClaim.pre_eq_preRow];exact lifted os started H enc F)
end FnCheckTrue
end Go.Proofs.YtjhgpfaodkchjaaGreat
