/- Ranks count accepting nodes: the greatest rank of a made certificate is at most the number of reachable accepting nodes. The law FnCertificateRank returns true at every input and leaves its input as it was. No condition. -/
import Derived.Test.YtknlmbniicacmaaGreatG0
import Derived.Test.YtknlmbniicacmaaGreatG1
import Derived.Test.YtknlmbniicacmaaGreatG2
import Derived.Test.YtknlmbniicacmaaGreatG3
import Derived.Test.YtknlmbniicacmaaGreatP0
import Derived.Test.YtknlmbniicacmaaGreatP1
import Derived.Test.YtknlmbniicacmaaGreatP2
import Derived.Test.YtknlmbniicacmaaGreatP3
import Derived.Test.YtknlmbniicacmaaGreatP4
import Derived.Test.YtknlmbniicacmaaGreatP5
import Derived.Test.YtknlmbniicacmaaGreatP6
import Derived.Test.YtknlmbniicacmaaGreatP7
import Derived.Test.YtknlmbniicacmaaGreatP8
import Derived.Test.YtknlmbniicacmaaGreatP9
set_option linter.all false
namespace Go.Proofs.YtknlmbniicacmaaGreat
open Go.Gl
attribute [local irreducible] z31 AWP z48 z52 z50 RetS z57
def cntA (B acc:List Bool) (i:Nat):Nat:=(List.range i).countP fun j=>B.getD j false && acc.getD (j % acc.length) false
theorem z1063 (B acc:List Bool) (i:Nat):cntA B acc (i+1)=cntA B acc i+(if B.getD i false=true∧acc.getD (i % acc.length) false=true then 1 else 0):=by
  unfold cntA
  rw [List.range_succ,List.countP_append,List.countP_singleton]
  congr 1
  simp only [Bool.and_eq_true]
theorem z835 {rows : List (List Int)} {ini : List Int} {acc : List Bool} (hr : ∀ r ∈ rows, InN rows.length r) (hi : InN rows.length ini) (hno : z1094 rows ini acc) : ∀ (r : Nat) (u : Int), RP rows ini u → Wt rows acc (bfsL rows ini).length u = r →
    r≤(List.range rows.length).countP fun i=>(z100 rows ini).getD i false && acc.getD (i % acc.length) false && decide (Wt rows acc (bfsL rows ini).length (i:Int)≤r)
  | 0,_,_,_=>Nat.zero_le _
  | r+1,u,hu,h=>by
    have hRB:∀ i:Nat,i < rows.length→(z100 rows ini).getD i false=decide (RP rows ini (i:Int)):=fun i hi'=>by
      rw [z19 (by rw [z89];exact hi')]
      simp [z100]
    obtain ⟨v,hv,ha,hw,hd⟩:=z867 hr hi hno (r:=((r+1:Nat):Int)) (by omega) (bfsL rows ini).length u hu h h (Nat.le_refl _)
    have hvN:=RP.in hr hi hv
    have hlow:r≤(List.range rows.length).countP fun i=>(z100 rows ini).getD i false && acc.getD (i % acc.length) false && decide (Wt rows acc (bfsL rows ini).length (i:Int)≤r):=by
      rcases hd with hd|⟨w,hw1,hw2⟩
      · omega
      · exact z835 hr hi hno r w hw1 (by omega)
    rw [z1084 acc hvN.1] at ha
    have hve:((v.toNat:Nat):Int)=v:=Int.toNat_of_nonneg hvN.1
    have:=z561 (p:=fun i:Nat=>(z100 rows ini).getD i false && acc.getD (i % acc.length) false && decide (Wt rows acc (bfsL rows ini).length (i:Int)≤r)) (q:=fun i:Nat=>(z100 rows ini).getD i false && acc.getD (i % acc.length) false && decide (Wt rows acc (bfsL rows ini).length (i:Int)≤((r+1:Nat):Int))) (z:=v.toNat) (by
      rw [hRB _ (by omega),hve,ha,hw,decide_eq_true hv,decide_eq_true (Int.le_refl _)];rfl) (by
      rw [hve,hw,decide_eq_false (by omega),Bool.and_false]) (List.range rows.length) (List.mem_range.2 (by omega)) (fun i _ h=>by
      simp only [Bool.and_eq_true,decide_eq_true_eq] at h ⊢
      exact ⟨h.1,by omega⟩)
    omega
theorem rank_le {g:Graph} {l:List Tree} {a:Aut} (h:mkOk g l a=true):z315 (mkR g l a)≤(cntA (prB g l a) a.acc (prB g l a).length:Nat):=by
  have F:=z427 h
  have e:prB g l a=z100 (z26 g (g.st.map (z32 l)) a) a.ini:=by unfold prB;rw [if_pos F.gl]
  rw [e,z89]
  refine (rkMax_le (by omega)).2 fun x hx=>?_
  rw [F.eq] at hx
  obtain ⟨i,hi,rfl⟩:=List.mem_iff_getElem.1 hx
  have hi' : i < (z26 g (g.st.map (z32 l)) a).length:=by rw [z259] at hi;exact hi
  rw [← z19 (d:=0) hi,z675 _ hi']
  split
  · rename_i hp
    have hnn:=z515 (rows:=z26 g (g.st.map (z32 l)) a) (acc:=a.acc) (bfsL (z26 g (g.st.map (z32 l)) a) a.ini).length (i:Int)
    obtain ⟨r,hr⟩:∃ r:Nat,Wt (z26 g (g.st.map (z32 l)) a) a.acc (bfsL (z26 g (g.st.map (z32 l)) a) a.ini).length (i:Int)=r:=⟨_,(Int.toNat_of_nonneg hnn).symm⟩
    have h1:=z835 F.f1 F.f2 F.no r (i:Int) hp hr
    have h2:=z323 (p:=fun i:Nat=>(z100 (z26 g (g.st.map (z32 l)) a) a.ini).getD i false && a.acc.getD (i % a.acc.length) false && decide (Wt (z26 g (g.st.map (z32 l)) a) a.acc (bfsL (z26 g (g.st.map (z32 l)) a) a.ini).length (i:Int)≤r)) (q:=fun i:Nat=>(z100 (z26 g (g.st.map (z32 l)) a) a.ini).getD i false && a.acc.getD (i % a.acc.length) false) (List.range (z26 g (g.st.map (z32 l)) a).length) (fun i _ h=>(Bool.and_eq_true_iff.1 h).1)
    rw [hr]
    unfold cntA
    omega
  · omega
set_option maxHeartbeats 6400000 in
theorem z298 (c:List Int) (hc:CodeOk c):CallsA Tryz.prog 13 [lst 1 enU c] [] (.bool true) []:=by
  obtain ⟨g,l,a,⟨hg,hl,ha⟩,cd⟩:=z715 c hc
  have hgm:=hg.mx
  have hlm:=hl.mx
  have ham:=Aut.sm.mx' ha
  have hlen:=hc.len
  unfold maxLen at hlen
  have k1:=z320 g hgm l hlm a ham
  have k2:=z456 g hgm l hlm a ham
  have k3:=keepB (z126 g hgm l hlm a ham) rfl rfl
  obtain ⟨m1,m2,m3⟩:=z687 (g:=g) (l:=l) (a:=a)
  have k4:=z794 (mkR g l a) (by unfold maxLen;omega)
  have k5:=z755 (mkR g l a) (by omega)
  have hBl:=prB_le g l a
  change CallsA _ _ _ _ (.tup [.agg [ints (mkR g l a)],_]) _ at k1 k2
  by_cases hok:mkOk g l a=true
  · have hle:=rank_le hok
    have hacl:1≤a.acc.length∧a.acc.length≤64:=by
      have:=(z427 hok).gl
      exact (z108.1 (Bool.and_eq_true_iff.1 this).2).1
    rw [hok] at k1 k2
    generalize mkR g l a=M at *
    generalize z315 M=q at *
    generalize prB g l a=B at *
    generalize (glB g l && autB a)=vb at *
    clear m1 m3 hok
    have hcl:∀ i,i≤3840→cntA B a.acc i≤3840:=fun i hi=>by
      have:cntA B a.acc i≤(List.range i).length:=List.countP_le_length
      rw [List.length_range] at this;omega
    refine z10 z18 Tryz.func13 rfl rfl 95 Tryz.ntmps13 (by simp) ?_
    repeat' ((first|(apply AWP.go ok;rfl)|(apply z34;kernel_rfl)|((first|apply z7|apply z38)<;>intro _)|(apply z9 (cd);rfl;rfl)|(apply z9 (k1);rfl;rfl)|(apply z9 (k2);rfl;rfl)|(apply z9 (k3);rfl;rfl)|(apply z9 (k4);rfl;rfl)|(apply z9 (k5);rfl;rfl))<;>conv=>whnf)
    all_goals first|(exfalso;omega)|(refine RetS.lay [] [] rfl rfl rfl ?_;refine RetS.done ?_ ?_<;>(repeat' (first|exact LocLe.refl _|exact F2.nil)))|skip
    all_goals
      refine z64 (fun i:Nat=>([(5,.ptr 0 none 0),(6,.ptr 1 none 0),(10,lst 1 enB B),(12,.int (cntA B a.acc i)),(13,.int i)],[.cells 3 [a.cs],.cells 1 [[ints M]]])) (fun i=>i≤B.length) (fun i=>B.length - i) 0 (Nat.zero_le _) (by refine SealW.reach [1,2] [] rfl rfl rfl rfl ?_ ?_<;>(repeat' (first|exact LocLe.refl _|exact F2.nil|apply F2.cons|apply ObjLe.box|exact True.intro|apply And.intro))) ?_
      intro i hi
      have hci:=hcl i (by omega)
      by_cases hi2:i < B.length
      · have g1:(B.map enB)[i]?=some (enB (B.getD i false)):=by rw [List.getElem?_map,List.getElem?_eq_getElem hi2,z19 hi2];rfl
        have hm:=Nat.mod_lt i (show 0 < a.acc.length by omega)
        have g2:(a.acc.map enB)[i % a.acc.length]?=some (enB (a.acc.getD (i % a.acc.length) false)):=by rw [List.getElem?_map,List.getElem?_eq_getElem hm,z19 hm];rfl
        have hs:=z1063 B a.acc i
        have hmi:((i:Int) % (a.acc.length:Int))=((i % a.acc.length:Nat):Int):=by rw [Int.natCast_emod]
        generalize B.getD i false=b at *
        generalize a.acc.getD (i % a.acc.length) false=z at *
        have g3:(a.acc.map enB)[((i:Int) % (a.acc.length:Int)).toNat]?=some (enB z):=by rw [hmi,Int.toNat_natCast];exact g2
        have hm0:0≤(i:Int) % (a.acc.length:Int):=Int.emod_nonneg _ (by omega)
        have hm1:(i:Int) % (a.acc.length:Int) < a.acc.length:=Int.emod_lt_of_pos _ (by omega)
        clear hmi g2
        cases b<;>cases z
        all_goals
          first|rw [if_pos ⟨rfl,rfl⟩] at hs|rw [if_neg (by simp)] at hs
          repeat' ((first|(apply AWP.go ok;rfl)|(apply z34;kernel_rfl)|(refine z16 (i:=i) rfl g1 ?_)|(refine z16 (i:=((i:Int) % (a.acc.length:Int)).toNat) rfl g3 ?_)|(apply And.intro;first|omega|(unfold inI;omega))|((apply z7)<;>intro _))<;>conv=>whnf)
          all_goals first|(exfalso;omega)|skip
          all_goals refine z23 (i+1) hi2 (by omega) (by refine SealW.reach [0,1] [] rfl rfl rfl rfl ?_ ?_<;>(repeat' (first|exact LocLe.refl _|exact F2.nil|apply F2.cons|(refine z96 ?_;omega)|apply ObjLe.box|exact True.intro|apply And.intro))<;>((rw [hs];(repeat' (fail)))))
      · obtain rfl:i=B.length:=by omega
        repeat' ((first|(apply AWP.go ok;rfl)|(apply z34;kernel_rfl)|(apply And.intro;omega)|((first|(with_reducible apply z11;omega)|(with_reducible apply z69;omega));intro _)|((first|apply z7|apply z92)<;>intro _)|(apply z9 (k4);rfl;rfl))<;>conv=>whnf)
        all_goals first|(exfalso;omega)|skip
        all_goals refine RetS.lay [] [] rfl rfl rfl ?_
        all_goals exact RetS.done (z808 (by rw [decide_eq_true hle])) .nil
  · have hok:=(Bool.not_eq_true _).mp hok
    rw [hok] at k1 k2
    have e0:mkR g l a=[]:=by unfold mkR;rw [hok];rfl
    rw [e0] at k1 k2 k4 k5
    change CallsA _ _ _ _ (.int (-1)) _ at k4 k5
    refine z10 z18 Tryz.func13 rfl rfl 95 Tryz.ntmps13 (by simp) ?_
    repeat' ((first|(apply AWP.go ok;rfl)|(apply z34;kernel_rfl)|((apply z7)<;>intro _)|(apply z9 (cd);rfl;rfl)|(apply z9 (k1);rfl;rfl)|(apply z9 (k2);rfl;rfl)|(apply z9 (k4);rfl;rfl)|(apply z9 (k5);rfl;rfl))<;>conv=>whnf)
    all_goals (refine RetS.lay [] [] rfl rfl rfl ?_;refine RetS.done ?_ ?_<;>(repeat' (first|exact LocLe.refl _|exact F2.nil)))
end Go.Proofs.YtknlmbniicacmaaGreat

namespace Go.Proofs.YtknlmbniicacmaaGreat
open Go.Gl
open Go.ChangeShapes Go.WideShapes Go.ChangeAt Go.RowKit
attribute [local irreducible] z31 AWP z48 z52 z50
namespace FnCertificateRank
theorem args_ok:ArgsOk Tryz.prog Tryz.f13.params.toList (fun xs _=>∃ (c:List Int),xs=[lst 1 enU c]∧CodeOk c):=by
  rw [Tryz.params13]
  refine ArgsOk.imp (z509 z811 (z635)) ?_
  rintro xs m ⟨c,_,rfl,hc,rfl⟩
  exact ⟨c,rfl,hc⟩
set_option maxRecDepth 100000 in
theorem contract (H : Type) (enc : TypeId × Value → H) (W : World) (base : Nat) (args : Array Value) (ds gs : List (DataW H)) (before : List MemPlace)
    (hval:∀ (j:Nat) t v,Tryz.f13.params[j]?=some t→args[j]?=some v→Value.okWide Tryz.prog W .any base t v)
    (hW:DataW.Whole enc Tryz.prog Tryz.f13.params.toList Rows.fnCertificateRankSpec.vars false W args.toList ds gs before) :
    Calls Tryz.prog 13 args W fun e W'=>∃ v,e=.returned v∧Rows.fnCertificateRankSpec.post enc Tryz.prog Tryz.f13 false true false false W args v W':=by
  refine z606 z327 z388 (by rw [Tryz.params13];decide +kernel) rfl (fun ds h=>?_) (by kernel_rfl) Tryz.underlying4 args_ok (fun xs m h _=>?_) hval hW
  · rw [Tryz.params13] at h
    match ds,h with
    | [_],_=>rfl
  · obtain ⟨c,rfl,hc⟩:=h
    exact z298 c hc
noncomputable def w0 (os:Os):World:=World.holding Tryz.prog os ⟨#[],#[],[]⟩
def zeros:Array Value:=#[.slice none 0 0]
theorem reads (os:Os) {H:Type} (enc:TypeId×Value→H):∃ places,DataW.whole enc Tryz.prog ((w0 os).forCall (fun _ _=>0) ⟨#[],zeros,[]⟩).memory Tryz.f13.params.toList Rows.fnCertificateRankSpec.vars false zeros.toList 8=some ([.nil],[],places) :=
  ⟨[],by kernel_rfl⟩
set_option maxRecDepth 100000 in
theorem lifted (os : Os) (started : os.Started) (H : Type) (enc : TypeId × Value → H) (F : Stop.Interp) :
    ReturnsInHanded {} Tryz.checked os 13 .any ((OpenSpec.ofChange Rows.fnCertificateRankSpec).preRow enc Tryz.prog Tryz.f13 Rows.fnCertificateRankRow.domain false Rows.fnCertificateRankRow.laid) (((OpenSpec.ofChange Rows.fnCertificateRankSpec).at F).post enc Tryz.prog Tryz.f13 false true false false):=by
  obtain ⟨places,hx⟩:=reads os enc
  refine returnsInHanded_of_row (C:=Tryz.checked) (s:=OpenSpec.ofChange Rows.fnCertificateRankSpec) own started (by kernel_rfl) Tryz.func13
    (witness_row_at (enc:=enc) (C:=Tryz.checked) false (w0 os) zeros rfl (by kernel_rfl) (by kernel_rfl) (by kernel_rfl)
      (OpenSpec.preRow_of_cond 8 hx (by kernel_rfl) (fun k hk=>by cases hk) (by kernel_rfl) (laidMetH_nil _ _))) ?_
  intro W base args ds gs before hval hW _ _ _ _ _ _
  exact contract H enc W base args ds gs before hval hW
set_option maxHeartbeats 40000000 in
set_option maxRecDepth 100000 in
theorem closed:joinedFacts Tryz.prog 13 Tryz.f13 (OpenSpec.ofChange Rows.fnCertificateRankSpec).bare Rows.fnCertificateRankRow=true:=by
  unfold joinedFacts
  repeat' (with_reducible apply z1083)
  all_goals (as_aux_lemma=>kernel_rfl)
theorem proved:Rows.FnCertificateRankSaid :=
  OpenClaim.holds_of_cond 13 Tryz.f13 rfl rfl rfl rfl rfl rfl rfl ⟨rfl,rfl,rfl,rfl,rfl⟩ rfl rfl rfl rfl rfl (by kernel_rfl) Tryz.func13 closed
    (of_decide_eq_true (by kernel_rfl)) (by unfold Func.isWrapper;first|(rw [if_pos (by decide +kernel)];kernel_rfl)|(rw [if_neg (by decide +kernel)];exact ⟨rfl,rfl⟩))
    (fun os started H enc _ F=>by rw [OpenClaim.pre_eq_preRow];exact lifted os started H enc F)
end FnCertificateRank
end Go.Proofs.YtknlmbniicacmaaGreat

