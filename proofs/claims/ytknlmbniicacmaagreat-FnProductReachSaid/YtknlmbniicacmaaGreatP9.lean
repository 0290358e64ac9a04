/- A part of the proofs over this program: T191. -/
import Derived.Test.YtknlmbniicacmaaGreatG0
import Derived.Test.YtknlmbniicacmaaGreatG1
import Derived.Test.YtknlmbniicacmaaGreatG2
import Derived.Test.YtknlmbniicacmaaGreatG3
import Derived.Test.YtknlmbniicacmaaGreatP0
import Derived.Test.YtknlmbniicacmaaGreatP1
import Derived.Test.YtknlmbniicacmaaGreatP2
import Derived.Test.YtknlmbniicacmaaGreatP3
import Derived.Test.YtknlmbniicacmaaGreatP4
import Derived.Test.YtknlmbniicacmaaGreatP5
import Derived.Test.YtknlmbniicacmaaGreatP6
import Derived.Test.YtknlmbniicacmaaGreatP7
import Derived.Test.YtknlmbniicacmaaGreatP8
set_option linter.all false
namespace Go.Proofs.YtknlmbniicacmaaGreat
open Go.Gl
attribute [local irreducible] z31 AWP z48 z52 z50 RetS z57
def z315 (R:List Int):Int:=R.foldl (fun m n=>max m n) (-1)
theorem z546 {R:List Int} {k:Nat} (h:k < R.length):z315 (R.take (k+1))=max (z315 (R.take k)) R[k]:=by
  unfold z315
  rw [List.take_succ_eq_append_getElem h,List.foldl_append];rfl
theorem rkMax_le {R:List Int} {M:Int} (hM : -1≤M):z315 R≤M↔∀ x∈R,x≤M:=by
  unfold z315
  have key:∀ (l:List Int) (o:Int),l.foldl (fun m n=>max m n) o≤M↔o≤M∧∀ x∈l,x≤M:=by
    intro l
    induction l with
    | nil=>intro o;simp
    | cons a l ih =>
      intro o
      rw [List.foldl_cons,ih]
      simp only [List.mem_cons,forall_eq_or_imp]
      constructor
      · rintro ⟨h1,h2⟩;exact ⟨by omega,by omega,h2⟩
      · rintro ⟨h1,h2,h3⟩;exact ⟨by omega,h3⟩
  rw [key]
  exact ⟨fun h=>h.2,fun h=>⟨hM,h⟩⟩
theorem z794 (R:List Int) (hR:R.length≤maxLen):CallsA Tryz.prog 18 [.agg [ints R]] [] (.int (z315 R)) []:=by
  unfold maxLen at hR
  refine z10 z18 Tryz.func18 rfl rfl 18 Tryz.ntmps18 (by simp) ?_
  repeat' (((apply AWP.go ok;rfl))<;>conv=>whnf)
  all_goals skip
  refine z64 (fun k:Nat=>([(3,.int (z315 (R.take k))),(7,ints R),(8,.int R.length),(9,.int k)],[.cells 1 [[ints R]]])) (fun k=>k≤R.length) (fun k=>R.length - k) 0 (Nat.zero_le _) (by refine SealW.reach [0] [] rfl rfl rfl rfl ?_ ?_<;>(repeat' (first|exact LocLe.refl _|exact F2.nil|apply F2.cons|apply ObjLe.box|exact True.intro|apply And.intro))) ?_
  intro k hk
  by_cases hk2:k < R.length
  · have gk:(R.map enI)[k]?=some (enI R[k]):=by rw [List.getElem?_map,List.getElem?_eq_getElem hk2];rfl
    have et:=z546 hk2
    generalize R[k]=r at *
    generalize hq:z315 (R.take k)=m at *
    generalize hq2:z315 (R.take (k+1))=m2 at *
    repeat' ((first|(apply AWP.go ok;rfl)|(refine z16 (i:=k) rfl gk ?_)|(apply And.intro;first|omega|(unfold inI;omega))|((apply z7)<;>intro _))<;>conv=>whnf)
    all_goals first|(exfalso;omega)|skip
    all_goals refine z23 (k+1) hk2 (by omega) ?_
    all_goals dsimp only
    all_goals rw [hq2]
    all_goals exact (by refine SealW.reach [0] [] rfl rfl rfl rfl ?_ ?_<;>(repeat' (first|exact LocLe.refl _|exact F2.nil|apply F2.cons|(refine z96 ?_;omega)|apply ObjLe.box|exact True.intro|apply And.intro)))
  obtain rfl:k=R.length:=by omega
  rw [List.take_length]
  repeat' ((first|(apply AWP.go ok;rfl)|(apply And.intro;omega)|(((with_reducible apply z11;omega));intro _)|((apply z7)<;>intro _))<;>conv=>whnf)
  all_goals first|(exfalso;omega)|skip
  all_goals (refine RetS.lay [] [] rfl rfl rfl ?_;refine RetS.done ?_ ?_<;>(repeat' (first|exact LocLe.refl _|exact F2.nil)))
theorem z755 (R:List Int) (hR:R.length≤1000000000):CallsA Tryz.prog 69 [.agg [ints R]] [] (.int (z315 R)) []:=by
  refine z10 z18 Tryz.func69 rfl rfl 25 Tryz.ntmps69 (by simp) ?_
  repeat' (((apply AWP.go ok;rfl))<;>conv=>whnf)
  all_goals skip
  refine z64 (fun k:Nat=>([(1,.ptr 0 none 0),(3,.int (z315 (R.take k))),(4,.int k)],[.cells 1 [[ints R]]])) (fun k=>k≤R.length) (fun k=>R.length - k) 0 (Nat.zero_le _) (by refine SealW.reach [0] [] rfl rfl rfl rfl ?_ ?_<;>(repeat' (first|exact LocLe.refl _|exact F2.nil|apply F2.cons|apply ObjLe.box|exact True.intro|apply And.intro))) ?_
  intro k hk
  by_cases hk2:k < R.length
  · have gk:(R.map enI)[k]?=some (enI R[k]):=by rw [List.getElem?_map,List.getElem?_eq_getElem hk2];rfl
    have et:=z546 hk2
    generalize R[k]=r at *
    generalize hq:z315 (R.take k)=m at *
    generalize hq2:z315 (R.take (k+1))=m2 at *
    by_cases hr:m < r
    · obtain rfl:m2=r:=by omega
      repeat' ((first|(apply AWP.go ok;rfl)|(refine z16 (i:=k) rfl gk ?_)|(apply And.intro;first|omega|(unfold inI;omega))|((apply z7)<;>intro _))<;>conv=>whnf)
      all_goals first|(exfalso;omega)|skip
      all_goals refine z23 (k+1) hk2 (by omega) ?_
      all_goals dsimp only
      all_goals rw [hq2]
      all_goals exact (by refine SealW.reach [0] [] rfl rfl rfl rfl ?_ ?_<;>(repeat' (first|exact LocLe.refl _|exact F2.nil|apply F2.cons|apply ObjLe.box|exact True.intro|apply And.intro)))
    · obtain rfl:m2=m:=by omega
      repeat' ((first|(apply AWP.go ok;rfl)|(refine z16 (i:=k) rfl gk ?_)|(apply And.intro;first|omega|(unfold inI;omega))|((apply z7)<;>intro _))<;>conv=>whnf)
      all_goals first|(exfalso;omega)|skip
      all_goals refine z23 (k+1) hk2 (by omega) ?_
      all_goals dsimp only
      all_goals rw [hq2]
      all_goals exact (by refine SealW.reach [0] [] rfl rfl rfl rfl ?_ ?_<;>(repeat' (first|exact LocLe.refl _|exact F2.nil|apply F2.cons|apply ObjLe.box|exact True.intro|apply And.intro)))
  obtain rfl:k=R.length:=by omega
  rw [List.take_length]
  repeat' ((first|(apply AWP.go ok;rfl)|(apply And.intro;omega)|(((with_reducible apply z11;omega));intro _)|((apply z7)<;>intro _))<;>conv=>whnf)
  all_goals first|(exfalso;omega)|skip
  all_goals (refine RetS.lay [] [] rfl rfl rfl ?_;refine RetS.done ?_ ?_<;>(repeat' (first|exact LocLe.refl _|exact F2.nil)))
end Go.Proofs.YtknlmbniicacmaaGreat

