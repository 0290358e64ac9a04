/- Reachable nodes have ranks: the reachable nodes contain the initial ones and are those with ranks in the made certificate. The law FnProductReach returns true at every input and leaves its input as it was. No condition. -/
import Derived.Test.YtknlmbniicacmaaGreatG0
import Derived.Test.YtknlmbniicacmaaGreatG1
import Derived.Test.YtknlmbniicacmaaGreatG2
import Derived.Test.YtknlmbniicacmaaGreatG3
import Derived.Test.YtknlmbniicacmaaGreatP0
import Derived.Test.YtknlmbniicacmaaGreatP1
import Derived.Test.YtknlmbniicacmaaGreatP2
import Derived.Test.YtknlmbniicacmaaGreatP3
import Derived.Test.YtknlmbniicacmaaGreatP4
import Derived.Test.YtknlmbniicacmaaGreatP5
import Derived.Test.YtknlmbniicacmaaGreatP6
import Derived.Test.YtknlmbniicacmaaGreatP7
import Derived.Test.YtknlmbniicacmaaGreatP8
import Derived.Test.YtknlmbniicacmaaGreatP9
set_option linter.all false
namespace Go.Proofs.YtknlmbniicacmaaGreat
open Go.Gl
open Go.ChangeShapes Go.WideShapes Go.ChangeAt Go.RowKit
attribute [local irreducible] z31 AWP z48 z52 z50
namespace FnProductReach
theorem args_ok:ArgsOk Tryz.prog Tryz.f5.params.toList (fun xs _=>∃ (c:List Int),xs=[lst 1 enU c]∧CodeOk c):=by
  rw [Tryz.params5]
  refine ArgsOk.imp (z509 z811 (z635)) ?_
  rintro xs m ⟨c,_,rfl,hc,rfl⟩
  exact ⟨c,rfl,hc⟩
set_option maxRecDepth 100000 in
theorem contract (H : Type) (enc : TypeId × Value → H) (W : World) (base : Nat) (args : Array Value) (ds gs : List (DataW H)) (before : List MemPlace)
    (hval:∀ (j:Nat) t v,Tryz.f5.params[j]?=some t→args[j]?=some v→Value.okWide Tryz.prog W .any base t v)
    (hW:DataW.Whole enc Tryz.prog Tryz.f5.params.toList Rows.fnProductReachSpec.vars false W args.toList ds gs before) :
    Calls Tryz.prog 5 args W fun e W'=>∃ v,e=.returned v∧Rows.fnProductReachSpec.post enc Tryz.prog Tryz.f5 false true false false W args v W':=by
  refine z606 z327 z388 (by rw [Tryz.params5];decide +kernel) rfl (fun ds h=>?_) (by kernel_rfl) Tryz.underlying4 args_ok (fun xs m h _=>?_) hval hW
  · rw [Tryz.params5] at h
    match ds,h with
    | [_],_=>rfl
  · obtain ⟨c,rfl,hc⟩:=h
    exact z387 c hc
noncomputable def w0 (os:Os):World:=World.holding Tryz.prog os ⟨#[],#[],[]⟩
def zeros:Array Value:=#[.slice none 0 0]
theorem reads (os:Os) {H:Type} (enc:TypeId×Value→H):∃ places,DataW.whole enc Tryz.prog ((w0 os).forCall (fun _ _=>0) ⟨#[],zeros,[]⟩).memory Tryz.f5.params.toList Rows.fnProductReachSpec.vars false zeros.toList 8=some ([.nil],[],places) :=
  ⟨[],by kernel_rfl⟩
set_option maxRecDepth 100000 in
theorem lifted (os : Os) (started : os.Started) (H : Type) (enc : TypeId × Value → H) (F : Stop.Interp) :
    ReturnsInHanded {} Tryz.checked os 5 .any ((OpenSpec.ofChange Rows.fnProductReachSpec).preRow enc Tryz.prog Tryz.f5 Rows.fnProductReachRow.domain false Rows.fnProductReachRow.laid) (((OpenSpec.ofChange Rows.fnProductReachSpec).at F).post enc Tryz.prog Tryz.f5 false true false false):=by
  obtain ⟨places,hx⟩:=reads os enc
  refine returnsInHanded_of_row (C:=Tryz.checked) (s:=OpenSpec.ofChange Rows.fnProductReachSpec) own started (by kernel_rfl) Tryz.func5
    (witness_row_at (enc:=enc) (C:=Tryz.checked) false (w0 os) zeros rfl (by kernel_rfl) (by kernel_rfl) (by kernel_rfl)
      (OpenSpec.preRow_of_cond 8 hx (by kernel_rfl) (fun k hk=>by cases hk) (by kernel_rfl) (laidMetH_nil _ _))) ?_
  intro W base args ds gs before hval hW _ _ _ _ _ _
  exact contract H enc W base args ds gs before hval hW
set_option maxHeartbeats 40000000 in
set_option maxRecDepth 100000 in
theorem closed:joinedFacts Tryz.prog 5 Tryz.f5 (OpenSpec.ofChange Rows.fnProductReachSpec).bare Rows.fnProductReachRow=true:=by
  unfold joinedFacts
  repeat' (with_reducible apply z1083)
  all_goals (as_aux_lemma=>kernel_rfl)
theorem proved:Rows.FnProductReachSaid :=
  OpenClaim.holds_of_cond 5 Tryz.f5 rfl rfl rfl rfl rfl rfl rfl ⟨rfl,rfl,rfl,rfl,rfl⟩ rfl rfl rfl rfl rfl (by kernel_rfl) Tryz.func5 closed
    (of_decide_eq_true (by kernel_rfl)) (by unfold Func.isWrapper;first|(rw [if_pos (by decide +kernel)];kernel_rfl)|(rw [if_neg (by decide +kernel)];exact ⟨rfl,rfl⟩))
    (fun os started H enc _ F=>by rw [OpenClaim.pre_eq_preRow];exact lifted os started H enc F)
end FnProductReach
end Go.Proofs.YtknlmbniicacmaaGreat

