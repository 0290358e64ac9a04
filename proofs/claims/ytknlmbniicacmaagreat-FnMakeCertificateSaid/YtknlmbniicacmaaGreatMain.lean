/- A certificate is made exactly if there is no trace; the made certificate is accepted. The law FnMakeCertificate returns true at every input and leaves its input as it was. No condition. -/
import Derived.Test.YtknlmbniicacmaaGreatG0
import Derived.Test.YtknlmbniicacmaaGreatG1
import Derived.Test.YtknlmbniicacmaaGreatG2
import Derived.Test.YtknlmbniicacmaaGreatG3
import Derived.Test.YtknlmbniicacmaaGreatP0
import Derived.Test.YtknlmbniicacmaaGreatP1
import Derived.Test.YtknlmbniicacmaaGreatP2
import Derived.Test.YtknlmbniicacmaaGreatP3
import Derived.Test.YtknlmbniicacmaaGreatP4
import Derived.Test.YtknlmbniicacmaaGreatP5
import Derived.Test.YtknlmbniicacmaaGreatP6
import Derived.Test.YtknlmbniicacmaaGreatP7
import Derived.Test.YtknlmbniicacmaaGreatP8
import Derived.Test.YtknlmbniicacmaaGreatP9
set_option linter.all false
namespace Go.Proofs.YtknlmbniicacmaaGreat
open Go.Gl
attribute [local irreducible] z31 AWP z48 z52 z50 RetS z57
set_option maxHeartbeats 6400000 in
theorem z297 (c:List Int) (hc:CodeOk c):CallsA Tryz.prog 11 [lst 1 enU c] [] (.bool true) []:=by
  obtain ⟨g,l,a,⟨hg,hl,ha⟩,cd⟩:=z715 c hc
  have hgm:=hg.mx
  have hlm:=hl.mx
  have ham:=Aut.sm.mx' ha
  have hlen:=hc.len
  unfold maxLen at hlen
  have k1:=z320 g hgm l hlm a ham
  have k2:=z456 g hgm l hlm a ham
  obtain ⟨m1,m2,m3⟩:=z687 (g:=g) (l:=l) (a:=a)
  have k3:=z946 (mkR g l a) (mkR g l a) (by unfold maxLen;omega) (by unfold maxLen;omega)
  rw [decide_eq_true rfl] at k3
  have k4:CallsA Tryz.prog 40 [.agg g.cs,lst 3 Tree.cs' l,.agg a.cs] [] (.tup [.agg (ftL g l a).cs,.bool (ftO g l a).isSome]) []:=(by refine CallsA.settle (z215 g hgm l hlm a ham) [] [0,1] rfl rfl rfl ?_ ?_<;>(repeat' (first|exact LocLe.refl _|exact F2.nil|apply F2.cons|((apply z45 rfl rfl rfl);(focus ((repeat ((exact z41 (fun _=>rfl) _)));done));(focus (((simp;done));done)))|apply z44|apply z95)))
  have k5:=keepB (z126 g hgm l hlm a ham) rfl rfl
  have k6:=z326 g hgm l hlm a ham ⟨mkR g l a⟩ (by show (mkR g l a).length≤maxLen;unfold maxLen;omega)
  have hok:mkOk g l a=((glB g l && autB a) && !(ftO g l a).isSome):=by
    unfold mkOk ftO
    by_cases h:(glB g l && autB a)=true
    · rw [if_pos h]
    · rw [(Bool.not_eq_true _).mp h];rfl
  have hck:mkOk g l a=true→z629 g l a ⟨mkR g l a⟩=true:=mk_cert
  change CallsA _ _ _ _ (.tup [.agg [ints (mkR g l a)],_]) _ at k1 k2
  change CallsA _ _ [.agg g.cs,lst 3 Tree.cs' l,.agg a.cs,.agg [ints (mkR g l a)]] _ _ _ at k6
  generalize z629 g l a ⟨mkR g l a⟩=cb at *
  generalize mkR g l a=R at *
  generalize mkOk g l a=ok1 at *
  generalize prB g l a=B at *
  generalize (glB g l && autB a)=vb at *
  generalize ftL g l a=tl at *
  generalize (ftO g l a).isSome=tb at *
  clear m1 m3
  refine z10 z18 Tryz.func11 rfl rfl 80 Tryz.ntmps11 (by simp) ?_
  cases ok1
  · cases vb<;>cases tb<;>first|(exfalso;revert hok;decide)|skip
    all_goals
      repeat' ((first|(apply AWP.go ok;rfl)|((apply z7)<;>intro _)|(apply z9 (cd);rfl;rfl)|(apply z9 (k1);rfl;rfl)|(apply z9 (k2);rfl;rfl)|(apply z9 (k3);rfl;rfl)|(apply z9 (k4);rfl;rfl)|(apply z9 (k5);rfl;rfl))<;>conv=>whnf)
      all_goals (refine RetS.lay [] [] rfl rfl rfl ?_;refine RetS.done ?_ ?_<;>(repeat' (first|exact LocLe.refl _|exact F2.nil)))
  · obtain rfl:=hck rfl
    cases vb<;>cases tb<;>first|(exfalso;revert hok;decide)|skip
    all_goals
      repeat' ((first|(apply AWP.go ok;rfl)|((apply z7)<;>intro _)|(apply z9 (cd);rfl;rfl)|(apply z9 (k1);rfl;rfl)|(apply z9 (k2);rfl;rfl)|(apply z9 (k3);rfl;rfl)|(apply z9 (k4);rfl;rfl)|(apply z9 (k5);rfl;rfl)|(apply z9 (k6);rfl;rfl))<;>conv=>whnf)
      all_goals (refine RetS.lay [] [] rfl rfl rfl ?_;refine RetS.done ?_ ?_<;>(repeat' (first|exact LocLe.refl _|exact F2.nil)))
end Go.Proofs.YtknlmbniicacmaaGreat

namespace Go.Proofs.YtknlmbniicacmaaGreat
open Go.Gl
open Go.ChangeShapes Go.WideShapes Go.ChangeAt Go.RowKit
attribute [local irreducible] z31 AWP z48 z52 z50
namespace FnMakeCertificate
theorem args_ok:ArgsOk Tryz.prog Tryz.f11.params.toList (fun xs _=>∃ (c:List Int),xs=[lst 1 enU c]∧CodeOk c):=by
  rw [Tryz.params11]
  refine ArgsOk.imp (z509 z811 (z635)) ?_
  rintro xs m ⟨c,_,rfl,hc,rfl⟩
  exact ⟨c,rfl,hc⟩
set_option maxRecDepth 100000 in
theorem contract (H : Type) (enc : TypeId × Value → H) (W : World) (base : Nat) (args : Array Value) (ds gs : List (DataW H)) (before : List MemPlace)
    (hval:∀ (j:Nat) t v,Tryz.f11.params[j]?=some t→args[j]?=some v→Value.okWide Tryz.prog W .any base t v)
    (hW:DataW.Whole enc Tryz.prog Tryz.f11.params.toList Rows.fnMakeCertificateSpec.vars false W args.toList ds gs before) :
    Calls Tryz.prog 11 args W fun e W'=>∃ v,e=.returned v∧Rows.fnMakeCertificateSpec.post enc Tryz.prog Tryz.f11 false true false false W args v W':=by
  refine z606 z327 z388 (by rw [Tryz.params11];decide +kernel) rfl (fun ds h=>?_) (by kernel_rfl) Tryz.underlying4 args_ok (fun xs m h _=>?_) hval hW
  · rw [Tryz.params11] at h
    match ds,h with
    | [_],_=>rfl
  · obtain ⟨c,rfl,hc⟩:=h
    exact z297 c hc
noncomputable def w0 (os:Os):World:=World.holding Tryz.prog os ⟨#[],#[],[]⟩
def zeros:Array Value:=#[.slice none 0 0]
theorem reads (os:Os) {H:Type} (enc:TypeId×Value→H):∃ places,DataW.whole enc Tryz.prog ((w0 os).forCall (fun _ _=>0) ⟨#[],zeros,[]⟩).memory Tryz.f11.params.toList Rows.fnMakeCertificateSpec.vars false zeros.toList 8=some ([.nil],[],places) :=
  ⟨[],by kernel_rfl⟩
set_option maxRecDepth 100000 in
theorem lifted (os : Os) (started : os.Started) (H : Type) (enc : TypeId × Value → H) (F : Stop.Interp) :
    ReturnsInHanded {} Tryz.checked os 11 .any ((OpenSpec.ofChange Rows.fnMakeCertificateSpec).preRow enc Tryz.prog Tryz.f11 Rows.fnMakeCertificateRow.domain false Rows.fnMakeCertificateRow.laid) (((OpenSpec.ofChange Rows.fnMakeCertificateSpec).at F).post enc Tryz.prog Tryz.f11 false true false false):=by
  obtain ⟨places,hx⟩:=reads os enc
  refine returnsInHanded_of_row (C:=Tryz.checked) (s:=OpenSpec.ofChange Rows.fnMakeCertificateSpec) own started (by kernel_rfl) Tryz.func11
    (witness_row_at (enc:=enc) (C:=Tryz.checked) false (w0 os) zeros rfl (by kernel_rfl) (by kernel_rfl) (by kernel_rfl)
      (OpenSpec.preRow_of_cond 8 hx (by kernel_rfl) (fun k hk=>by cases hk) (by kernel_rfl) (laidMetH_nil _ _))) ?_
  intro W base args ds gs before hval hW _ _ _ _ _ _
  exact contract H enc W base args ds gs before hval hW
set_option maxHeartbeats 40000000 in
set_option maxRecDepth 100000 in
theorem closed:joinedFacts Tryz.prog 11 Tryz.f11 (OpenSpec.ofChange Rows.fnMakeCertificateSpec).bare Rows.fnMakeCertificateRow=true:=by
  unfold joinedFacts
  repeat' (with_reducible apply z1083)
  all_goals (as_aux_lemma=>kernel_rfl)
theorem proved:Rows.FnMakeCertificateSaid :=
  OpenClaim.holds_of_cond 11 Tryz.f11 rfl rfl rfl rfl rfl rfl rfl ⟨rfl,rfl,rfl,rfl,rfl⟩ rfl rfl rfl rfl rfl (by kernel_rfl) Tryz.func11 closed
    (of_decide_eq_true (by kernel_rfl)) (by unfold Func.isWrapper;first|(rw [if_pos (by decide +kernel)];kernel_rfl)|(rw [if_neg (by decide +kernel)];exact ⟨rfl,rfl⟩))
    (fun os started H enc _ F=>by rw [OpenClaim.pre_eq_preRow];exact lifted os started H enc F)
end FnMakeCertificate
end Go.Proofs.YtknlmbniicacmaaGreat

