/- A part of the proofs over this program: GlQ, GlR, GlS, GlT, GlU, GlW, GlX, GlY, GlZ, GlZ1, GlAA, D1, GlRS, D3, D2, D4, D5, D6, D7, D8, D9, D10, D12, GlRT, GlRV, GlRW. -/
import Derived.Test.YtknlmbniicacmaaGreatG0
import Derived.Test.YtknlmbniicacmaaGreatG1
import Derived.Below
import Derived.ChangeSame
import Derived.ChangeArms
import Derived.WideKeyArgs
import Derived.OpenShut
import Derived.Sort.Grow
import Derived.Lib.SlicesCompact
set_option linter.all false
namespace Go.Gl
variable {P:Program} {T:Tab}
def z730 (ops:Array Oper) (o:Oper) (fp:List Ch):Acc:=⟨z472 ops o,o.dst.toList,fp.map (·.o),z114 o.op⟩
def z514 (ops:Array Oper) (o:Oper):Acc:=⟨z472 ops o,o.dst.toList,[],false⟩
def z253 (T:Tab) (P:Program) (ops:Array Oper) (n:Nat) (env:List (Nat×AC)) (objs:List AObj) (l:List Oper) (accs:List Acc) (K:LK):Prop:=match l with
  | []=>z50 ops accs=true∧K env objs
  | o::rest=>z67 (z923 o n) (match o.guard with
    | none=>vcOp T P (mkSt n env objs) o.op fun res fp=>z685 o.dst env objs res fp fun env objs=>z253 T P ops n env objs rest (accs++[z730 ops o fp]) K
    | some (j,want)=>match z539 ops j with
      | some d=>z67 (Nat.blt d n) (match z81 env d with
        | .raw (.bool b) => vcG b fun b => z448 b want (vcOp T P (mkSt n ((d, .raw (.bool b)) :: env) objs) o.op fun res fp => z685 o.dst ((d, .raw (.bool b)) :: env) objs res fp fun env objs => z253 T P ops n env objs rest (accs ++ [z730 ops o fp]) K)
            (z271 o.dst .gone ((d,.raw (.bool b))::env) fun env=>z253 T P ops n env objs rest (accs++[z514 ops o]) K)
        | .raw (.tuple _)=>z271 o.dst .gone env fun env=>z253 T P ops n env objs rest (accs++[z514 ops o]) K
        | _=>False)
      | none=>False)
theorem z34 {ops:Array Oper} {accs:List Acc} {K:Prop} (h:z50 ops accs=true) (k:K):z50 ops accs=true∧K:=⟨h,k⟩
def wr1E (o:Oper) (r:StepR):List (Nat×AC):=match o.dst with
  | some d=>[(d,match r.skip with
    | true=>.gone
    | false=>r.res)]
  | none=>[]
def wr1O (o:Oper) (r:StepR):List (Nat×AObj):=match r.skip,z114 o.op with
  | false,true=>r.fp.map fun c=>(c.o,c.post)
  | _,_=>[]
def acc1 (ops:Array Oper) (o:Oper) (r:StepR):Acc:=match r.skip with
  | true=>z514 ops o
  | false=>z730 ops o r.fp
inductive Chain (P:Program) (ops:Array Oper) (n:Nat):(Nat→AC)→(Nat→AObj)→List Oper→List StepR→(Nat→AC)→(Nat→AObj)→Prop
  | nil (e:Nat→AC) (ob:Nat→AObj):Chain P ops n e ob [] [] e ob
  | cons {e : Nat → AC} {ob : Nat → AObj} {o : Oper} {r : StepR} {l : List Oper} {rs : List StepR} {e' : Nat → AC} {ob' : Nat → AObj} (h : StepOk P ops n e ob o r)
      (t:Chain P ops n (apW e (wr1E o r)) (apW ob (wr1O o r)) l rs e' ob'):Chain P ops n e ob (o::l) (r::rs) e' ob'
theorem chain_of (hT : z113 P T) {ops : Array Oper} {n : Nat} : ∀ (l : List Oper) (env : List (Nat × AC)) (objs : List AObj) (accs : List Acc) (K : LK), z253 T P ops n env objs l accs K →
    ∃ rs env' objs',Chain P ops n (z81 env) (z36 objs) l rs (z81 env') (z36 objs')∧z50 ops (accs++(l.zip rs).map fun p=>acc1 ops p.1 p.2)=true∧rs.length=l.length∧K env' objs':=by
  intro l
  induction l with
  | nil =>
    intro env objs accs K h
    obtain ⟨h1,h2⟩:=h
    exact ⟨[],env,objs,.nil _ _,by simpa using h1,rfl,h2⟩
  | cons o rest ih =>
    intro env objs accs K h
    simp only [z253] at h
    obtain ⟨hd,h⟩:=z33 h
    have run : ∀ env, (match o.guard with | none => True | some (j, want) => ∃ d b, z539 ops j = some d ∧ d < n ∧ z81 env d = .raw (.bool b) ∧ (b == want) = true) →
        (vcOp T P (mkSt n env objs) o.op fun res fp=>z685 o.dst env objs res fp fun env objs=>z253 T P ops n env objs rest (accs++[z730 ops o fp]) K) →
        ∃ rs env' objs',Chain P ops n (z81 env) (z36 objs) (o::rest) rs (z81 env') (z36 objs')∧z50 ops (accs++((o::rest).zip rs).map fun p=>acc1 ops p.1 p.2)=true∧rs.length=(o::rest).length∧K env' objs':=by
      intro env hg hv
      obtain ⟨res,fp,hO,hfp,hk⟩:=z829 hT hv
      obtain ⟨env1,objs1,h1,h2,h3⟩:=z549 (n:=n) hk
      obtain ⟨rs,env',objs',h4,h5,h6,h7⟩:=ih _ _ _ _ h1
      have h2' : z81 env1=apW (z81 env) (wr1E o ⟨false,(mkSt n env objs).reads o.op.operands.toList,fp,res⟩):=by
        have:z81 env1=z403 (z81 env) o.dst res:=h2
        rw [this];unfold wr1E z403
        cases o.dst<;>rfl
      have h3' : z36 objs1=apW (z36 objs) (wr1O o ⟨false,(mkSt n env objs).reads o.op.operands.toList,fp,res⟩):=by
        have:z36 objs1=z71 (z36 objs) fp:=h3
        rw [this];unfold wr1O
        cases hw:z114 o.op with
        | true=>exact (apW_fp _ _).symm
        | false=>exact z123 _ _ fun c hc=>⟨(hfp c hc).1,(hfp c hc).2 hw⟩
      rw [h2',h3'] at h4
      refine ⟨⟨false,(mkSt n env objs).reads o.op.operands.toList,fp,res⟩::rs,env',objs',.cons ⟨z394 (st:=mkSt n env objs) hd,by simp [St.reads,Function.comp_def],fun _=>⟨hO,fun p hp=>?_,fun c hc=>hfp c hc⟩,?_⟩ h4,?_,by simp [h6],h7⟩
      · simp only [St.reads,List.mem_map] at hp
        obtain ⟨t,_,rfl⟩:=hp;rfl
      · split
        · rfl
        · rename_i j want hgd
          rw [hgd] at hg
          obtain ⟨d,b,g1,g2,g3,g4⟩:=hg
          exact ⟨d,g1,g2,.inl ⟨b,g3,by rw [g4];rfl⟩⟩
      · simpa [acc1] using h5
    have skp : ∀ env, (∀ r : StepR, r.skip = true → match o.guard with
        | none=>r.skip=false
        | some (j,want)=>∃ d,z539 ops j=some d∧d < n∧((∃ b,z81 env d=.raw (.bool b)∧r.skip=!(b == want))∨∃ t,z81 env d=.raw (.tuple t)∧r.skip=true)) →
        (z271 o.dst .gone env fun env=>z253 T P ops n env objs rest (accs++[z514 ops o]) K) →
        ∃ rs env' objs',Chain P ops n (z81 env) (z36 objs) (o::rest) rs (z81 env') (z36 objs')∧z50 ops (accs++((o::rest).zip rs).map fun p=>acc1 ops p.1 p.2)=true∧rs.length=(o::rest).length∧K env' objs':=by
      intro env hgd hv
      have hsk:∃ env1,z81 env1=apW (z81 env) (wr1E o ⟨true,(mkSt n env objs).reads o.op.operands.toList,[],.gone⟩)∧z253 T P ops n env1 objs rest (accs++[z514 ops o]) K:=by
        unfold z271 at hv
        cases hdst:o.dst with
        | none=>rw [hdst] at hv;exact ⟨env,by simp [wr1E,hdst,apW],hv⟩
        | some d'=>rw [hdst] at hv;exact ⟨_,by simp [wr1E,hdst,apW,z219],hv⟩
      obtain ⟨env1,he1,hv⟩:=hsk
      obtain ⟨rs,env',objs',h4,h5,h6,h7⟩:=ih _ _ _ _ hv
      rw [he1] at h4
      refine ⟨⟨true,(mkSt n env objs).reads o.op.operands.toList,[],.gone⟩::rs,env',objs',.cons ⟨z394 (st:=mkSt n env objs) hd,by simp [St.reads,Function.comp_def],(by intro h;cases h),hgd _ rfl⟩ h4,?_,by simp [h6],h7⟩
      simpa [acc1] using h5
    split at h
    · rename_i hg
      exact run env (by rw [hg];trivial) h
    · rename_i j want hg
      split at h
      · rename_i d hdj
        obtain ⟨hn,h⟩:=z33 h
        have hn:d < n:=by simpa [Nat.blt_eq] using hn
        split at h
        · rename_i b hb
          have he:=z855 hb
          have hb' : z81 ((d,.raw (.bool b))::env) d=.raw (.bool b):=by rw [he];exact hb
          rw [← he]
          rcases z332 (z574 h) with ⟨rfl,hv⟩|⟨hne,hv⟩
          · exact run _ (by rw [hg];exact ⟨d,b,hdj,hn,hb',by simp⟩) hv
          · exact skp _ (fun r hr=>by rw [hg];exact ⟨d,hdj,hn,.inl ⟨b,hb',by rw [hr];cases b<;>cases want<;>simp_all⟩⟩) hv
        · rename_i t hb
          exact skp env (fun r hr=>by rw [hg];exact ⟨d,hdj,hn,.inr ⟨t,hb,hr⟩⟩) h
        · exact h.elim
      · exact h.elim
theorem z544 {α:Type} (wr:Nat→List (Nat×α)) (f:Nat→α):∀ i,runX wr f (fun _=>true) (i+1)=runX (fun k=>wr (k+1)) (apW f (wr 0)) (fun _=>true) i:=by
  intro i
  induction i with
  | zero=>rfl
  | succ i ih=>rw [z306 (wr:=wr) (X:=fun _=>true) rfl,ih];rfl
theorem z1066 {ops : Array Oper} {n : Nat} {e : Nat → AC} {ob : Nat → AObj} {l : List Oper} {rs : List StepR} {e' : Nat → AC} {ob' : Nat → AObj} (h : Chain P ops n e ob l rs e' ob') :
    ∀ (O:Nat→Oper) (R:Nat→StepR),(∀ i o,l[i]?=some o→O i=o)→(∀ i r,rs[i]?=some r→R i=r) →
      (∀ i,i < l.length→StepOk P ops n (runX (wrE O R) e (fun _=>true) i) (runX (wrO O R) ob (fun _=>true) i) (O i) (R i))∧runX (wrE O R) e (fun _=>true) l.length=e'∧runX (wrO O R) ob (fun _=>true) l.length=ob':=by
  induction h with
  | nil e ob=>intro O R _ _;exact ⟨fun i hi=>by simp at hi,rfl,rfl⟩
  | @cons e ob o r l rs e' ob' hs t ih =>
    intro O R hO hR
    have h0:O 0=o:=hO 0 o (by simp)
    have hr0:R 0=r:=hR 0 r (by simp)
    obtain ⟨h1,h2,h3⟩:=ih (fun k=>O (k+1)) (fun k=>R (k+1)) (fun i o' h=>hO (i+1) o' (by simpa using h)) (fun i r' h=>hR (i+1) r' (by simpa using h))
    have hE:∀ i,runX (wrE O R) e (fun _=>true) (i+1)=runX (wrE (fun k=>O (k+1)) fun k=>R (k+1)) (apW e (wr1E o r)) (fun _=>true) i:=fun i=>by
      rw [z544]
      have:wrE O R 0=wr1E o r:=by rw [← h0,← hr0];rfl
      rw [this];rfl
    have hOb:∀ i,runX (wrO O R) ob (fun _=>true) (i+1)=runX (wrO (fun k=>O (k+1)) fun k=>R (k+1)) (apW ob (wr1O o r)) (fun _=>true) i:=fun i=>by
      rw [z544]
      have:wrO O R 0=wr1O o r:=by rw [← h0,← hr0];rfl
      rw [this];rfl
    refine ⟨fun i hi=>?_,?_,?_⟩
    · cases i with
      | zero=>rw [h0,hr0];exact hs
      | succ i=>rw [hE,hOb];exact h1 i (by simpa using hi)
    · simp only [List.length_cons];rw [hE];exact h2
    · simp only [List.length_cons];rw [hOb];exact h3
theorem z805 {ops:Array Oper} {x y:Oper} {r s:StepR} {ord:Prop} (h:z421 (acc1 ops x r) (acc1 ops y s)=true→ord):Apart ops x y r s ord:=by
  have hw:∀ (o:Oper) (r:StepR),(acc1 ops o r).rt=z472 ops o∧(acc1 ops o r).wt=o.dst.toList:=fun o r=>by
    unfold acc1;split<;>exact ⟨rfl,rfl⟩
  have c1:z261 (acc1 ops x r).wt (acc1 ops y s).rt=true→z421 (acc1 ops x r) (acc1 ops y s)=true:=fun h=>by unfold z421;rw [h]
  have c2:z261 (acc1 ops x r).wt (acc1 ops y s).wt=true→z421 (acc1 ops x r) (acc1 ops y s)=true:=fun h=>by unfold z421;rw [h];cases z261 (acc1 ops x r).wt (acc1 ops y s).rt<;>rfl
  have c3:z261 (acc1 ops x r).rt (acc1 ops y s).wt=true→z421 (acc1 ops x r) (acc1 ops y s)=true:=fun h=>by unfold z421;rw [h];cases z261 (acc1 ops x r).wt (acc1 ops y s).rt<;>cases z261 (acc1 ops x r).wt (acc1 ops y s).wt<;>rfl
  have c4:((acc1 ops x r).ow || (acc1 ops y s).ow)=true→z261 (acc1 ops x r).oa (acc1 ops y s).oa=true→z421 (acc1 ops x r) (acc1 ops y s)=true:=fun h h'=>by unfold z421;rw [h,h'];cases z261 (acc1 ops x r).wt (acc1 ops y s).rt<;>cases z261 (acc1 ops x r).wt (acc1 ops y s).wt<;>cases z261 (acc1 ops x r).rt (acc1 ops y s).wt<;>rfl
  refine ⟨fun d h1 h2=>h (c1 ?_),fun d h1 h2=>h (c2 ?_),fun d h1 h2=>h (c3 ?_),fun c c' hr hs hc hc' he ho=>h (c4 ?_ ?_)⟩
  · rw [(hw x r).2,(hw y s).1];exact z428 (x:=d) (by simp [h1]) h2
  · rw [(hw x r).2,(hw y s).2];exact z428 (x:=d) (by simp [h1]) (by simp [h2])
  · rw [(hw x r).1,(hw y s).2];exact z428 (x:=d) h1 (by simp [h2])
  · unfold acc1;rw [hr,hs];simpa [z730] using ho
  · unfold acc1;rw [hr,hs]
    exact z428 (x:=c.o) (List.mem_map.2 ⟨c,hc,rfl⟩) (List.mem_map.2 ⟨c',hc',he.symm⟩)
theorem awp_draw (hT : z113 P T) (hM : P.follows .mixedOrders = true) {m id n : Nat} {ops : Array Oper} {Q : Exit → St → Prop} {env : List (Nat × AC)} {objs : List AObj}
    (h:z253 T P ops n env objs ops.toList [] fun env objs=>Q .normal (mkSt n env objs)):AWP P m (.region id ops true) Q (mkSt n env objs):=fun G a w hR ro hro=>by
  obtain ⟨rs,env',objs',hch,hok,hlen,hK⟩:=chain_of hT _ _ _ _ _ h
  rw [List.nil_append] at hok
  have hlen:rs.length=ops.size:=by simpa using hlen
  have hO:∀ (i:Nat) (o:Oper),ops.toList[i]?=some o→ops.toList.getD i default=o:=fun i o h=>by rw [List.getD_eq_getElem?_getD,h];rfl
  have hRr:∀ (i:Nat) (r:StepR),rs[i]?=some r→rs.getD i default=r:=fun i r h=>by rw [List.getD_eq_getElem?_getD,h];rfl
  obtain ⟨h1,h2,h3⟩:=z1066 hch (fun i=>ops.toList.getD i default) (fun i=>rs.getD i default) hO hRr
  rw [Array.length_toList] at h1 h2 h3
  unfold z50 at hok
  split at hok
  · rename_i bs hbs
    obtain ⟨_,hb2,hb3⟩:=z728 ops.toList [] bs hbs
    have hoi:∀ i,i < ops.size→ops.toList[i]?=some (ops.toList.getD i default):=fun i hi=>by
      rw [List.getD_eq_getElem?_getD,List.getElem?_eq_getElem (by simpa using hi)];rfl
    have hri:∀ i,i < ops.size→rs[i]?=some (rs.getD i default):=fun i hi=>by
      rw [List.getD_eq_getElem?_getD,List.getElem?_eq_getElem (by omega)];rfl
    have hacc:∀ i,i < ops.size→((ops.toList.zip rs).map fun p=>acc1 ops p.1 p.2)[i]?=some (acc1 ops (ops.toList.getD i default) (rs.getD i default)):=fun i hi=>by
      have:=List.getElem?_zip_eq_some (z:=(ops.toList.getD i default,rs.getD i default)).2 ⟨hoi i hi,hri i hi⟩
      rw [List.getElem?_map,this];rfl
    have H:RegOk P ops n (z81 env) (z36 objs) (fun i=>ops.toList.getD i default) (fun i=>rs.getD i default) (fun i j=>(bs.getD j 0).testBit i=true):=by
      refine ⟨fun i hi=>by simpa using hoi i hi,h1,fun i j hij hj=>?_,fun i j hj ho=>?_,fun j hj e he hb=>?_⟩
      · refine z805 fun hc=>?_
        exact z894 _ [] (by simpa using hok) i j _ _ hij (by simp) (by simpa using hacc i (by omega)) (by simpa using hacc j hj) hc
      · obtain ⟨hbl,bs',hbj,hbq⟩:=hb3 j _ (hoi j hj)
        simp only [List.length_nil,Nat.zero_add] at hbl hbj hbq
        have ho:(bs.getD j 0).testBit i=true:=ho
        rw [List.getD_eq_getElem?_getD,hbj] at ho
        obtain ⟨e,he,hb,hor⟩:=z625 _ ho
        have hlt:=z269 _ hbl e he hb
        refine ⟨e,by simpa using he,hb,hlt,hor.imp (fun h=>h) fun h=>?_⟩
        rw [← hbq e.on hlt];exact h
      · obtain ⟨hbl,_⟩:=hb3 j _ (hoi j hj)
        simp only [List.length_nil,Nat.zero_add] at hbl
        exact z269 _ hbl e (by simpa using he) hb
    refine wpIn_region_any hM ?_
    have hgd:∀ i,(Array.replicate ops.size false).getD i false=false:=fun i=>by
      rw [Array.getD_eq_getD_getElem?]
      by_cases hi:i < ops.size
      · rw [Array.getElem?_replicate,if_pos hi];rfl
      · rw [Array.getElem?_replicate,if_neg hi];rfl
    have hnone:∀ {α:Type} (wr:Nat→List (Nat×α)) (f:Nat→α) (k:Nat),runX wr f (fun i=>(Array.replicate ops.size false).getD i false) k=f:=by
      intro α wr f k
      induction k with
      | zero=>rfl
      | succ k ih=>rw [z405 (hgd k),ih]
    refine z1082 (ro:=ro) hro (next:=objs.length) (m:=m) (G0:=G) (w0:=w) H (fun G' a' w' hs hl hR'=>?_) ops.size _ G a _ (by simp) (by
      refine Nat.le_trans List.countP_le_length ?_
      simp) (fun j hj hXj=>by
        have h0:(Array.replicate ops.size false).getD j false=true:=hXj
        rw [hgd j] at h0;cases h0) (SubM.refl m G) ⟨rfl,rfl,rfl,Nat.le_refl _⟩ ?_
    · exact ⟨G',mkSt n env' objs',hs,hl,hK,hR'.same h2.symm h3.symm rfl⟩
    · rw [hnone,hnone]
      exact ⟨⟨hR.wf.hS,hR.wf.hU,hR.wf.su,hR.wf.sk,hR.wf.objs⟩,hR.env,hR.size,hR.defers⟩
  · cases hok
def vcS (T:Tab) (P:Program) (m:Nat) (c:Code) (n:Nat) (env:List (Nat×AC)) (objs:List AObj) (Q:Exit→St→Prop):Prop:=match c with
  | .region _ ops true=>z253 T P ops n env objs ops.toList [] fun env objs=>Q .normal (mkSt n env objs)
  | .seq a b=>vcS T P m a n env objs (z452 (AWP P m b Q) Q)
  | c=>vc1 T P m c n env objs Q
def isStep:Code→Bool
  | .region ..=>true
  | .seq a _=>isStep a
  | .cond ..=>true
  | .block ..=>true
  | .skip=>true
  | .ret=>true
  | .exit _=>true
  | _=>false
structure Ok (P:Program) (T:Tab):Prop where
  tab:z113 P T
  mixed:P.follows .mixedOrders=true
theorem AWP.go (hT:Ok P T) {m:Nat} (c:Code) (n:Nat) (env:List (Nat×AC)) (objs:List AObj) (Q:Exit→St→Prop) (_hc:isStep c=true) (h:vcS T P m c n env objs Q):AWP P m c Q (mkSt n env objs):=by
  induction c generalizing Q with
  | region id ops draw=>cases draw with
    | true=>exact awp_draw hT.tab hT.mixed h
    | false=>exact AWP.step hT.tab _ n env objs Q h
  | seq a b iha _=>exact z1076 (iha _ _hc h)
  | _=>exact AWP.step hT.tab _ n env objs Q h
end Go.Gl

namespace Go.Gl
variable {P:Program} {T:Tab} {st:St} {K:OpK}
theorem fill_set {α : Type} (f : α → List AC) (l : List α) (z : List AC) (k : Nat) (h : k < l.length) :
    ((l.take k).map f++List.replicate (l.length - k) z).set k (f l[k])=(l.take (k+1)).map f++List.replicate (l.length - (k+1)) z:=by
  apply List.ext_getElem?
  intro i
  have e1:min k l.length=k:=by omega
  have e2:min (k+1) l.length=k+1:=by omega
  simp only [List.getElem?_set,List.getElem?_append,List.length_map,List.length_take,List.getElem?_map,List.getElem?_take,List.getElem?_replicate,List.length_append,List.length_replicate,e1,e2]
  by_cases h1:k=i
  · subst h1
    rw [if_pos rfl,if_pos (by omega),if_pos (by omega),if_pos (by omega),List.getElem?_eq_getElem h]
    rfl
  · rw [if_neg h1]
    by_cases h2:i < k
    · have h3:i < k+1:=by omega
      simp [h2,h3]
    · have h3:¬ i < k+1:=by omega
      rw [if_neg h2,if_neg h3]
      by_cases h4:i - k < l.length - k
      · have h5:i - (k+1) < l.length - (k+1):=by omega
        rw [if_pos h4,if_pos h5]
      · have h5:¬ i - (k+1) < l.length - (k+1):=by omega
        rw [if_neg h4,if_neg h5]
theorem fill_get {α : Type} (f : α → List AC) (l : List α) (z : List AC) (k : Nat) (h : k < l.length) :
    ((l.take k).map f++List.replicate (l.length - k) z)[k]?=some z:=by
  rw [List.getElem?_append_right (by simp;omega),List.getElem?_replicate,if_pos (by simp;omega)]
theorem z317 {α:Type} (f:α→List AC) (l:List α) (i:Nat) (h:i < l.length):(l.map f)[i]?=some (f l[i]):=by simp [h]
theorem z38 {p:Prop} [Decidable p] {A B:Prop} (h1:¬ p→A) (h2:p→B):vcIf (!decide p) A B:=by
  by_cases h:p
  · rw [decide_eq_true h];exact h2 h
  · rw [decide_eq_false h];exact h1 h
def z797:AObj→Prop
  | .cells _ es=>Flat es
  | .dead=>True
  | .mp _ _=>True
  | .fresh=>False
theorem z796 {x:AObj} (h:z797 x) (r:Nat→Nat):z125 r x=x:=by
  cases x with
  | cells w es=>exact Flat.ren h r
  | _=>rfl
theorem z621 {x:AObj} (h:z797 x) (M:Nat):z333 M x:=by
  cases x with
  | cells w es=>exact fun e he=>z321 (h e he) M
  | dead=>trivial
  | mp _ _=>trivial
  | fresh=>exact h.elim
def newsK (st:St) (k:Nat) (q:Nat) (K:List Nat→Prop):Prop:=match k with
  | 0=>K []
  | k+1=>match st.objs q with
    | .fresh=>newsK st k (q+1) fun ν=>K (q::ν)
    | _=>False
theorem z899 {k q:Nat} {K:List Nat→Prop} (h:newsK st k q K):∃ ν,K ν∧ν.length=k∧∀ o∈ν,z318 (st.objs o)=true:=by
  induction k generalizing q K with
  | zero=>exact ⟨[],h,rfl,by simp⟩
  | succ k ih =>
    simp only [newsK] at h
    split at h
    · rename_i hq
      obtain ⟨ν,h1,h2,h3⟩:=ih h
      refine ⟨q::ν,h1,by simp [h2],fun o ho=>?_⟩
      rcases List.mem_cons.1 ho with rfl|ho
      · rw [hq];rfl
      · exact h3 o ho
    · exact h.elim
def z189:List Nat→Bool
  | []=>true
  | x::xs=>match inB xs x with
    | true=>false
    | false=>z189 xs
theorem z152 {l:List Nat} (h:z189 l=true):l.Nodup:=by
  induction l with
  | nil=>exact List.nodup_nil
  | cons x xs ih =>
    simp only [z189] at h
    split at h
    · cases h
    · rename_i hb
      refine List.nodup_cons.2 ⟨fun hm=>?_,ih h⟩
      rw [z233.2 hm] at hb;cases hb
mutual
def renK (r:Nat→Nat) (x:AC) (K:AC→Prop):Prop:=match x with
  | .any=>K .any
  | .raw v=>K (.raw v)
  | .list w n es=>K (.list w n es)
  | .pt cs=>K (.pt cs)
  | .sref o off len=>z192 (r o) fun q=>K (.sref q off len)
  | .ptr o i off=>z192 (r o) fun q=>K (.ptr q i off)
  | .mref o=>z192 (r o) fun q=>K (.mref q)
  | .own w es=>K (.own w es)
  | .fn f a b=>z769 r a fun a'=>z769 r b fun b'=>K (.fn f a' b')
  | .agg cs=>z769 r cs fun cs'=>K (.agg cs')
  | .tup cs=>z769 r cs fun cs'=>K (.tup cs')
termination_by structural x
def z769 (r:Nat→Nat) (xs:List AC) (K:List AC→Prop):Prop:=match xs with
  | []=>K []
  | x::xs=>renK r x fun x'=>z769 r xs fun r'=>K (x'::r')
termination_by structural xs
end
mutual
theorem z471 (r:Nat→Nat) (x:AC) (K:AC→Prop):renK r x K=K (x.ren r):=by
  match x with
  | .any=>rfl
  | .raw _=>rfl
  | .list ..=>rfl
  | .pt _=>rfl
  | .sref ..=>simp only [renK,z98,AC.ren]
  | .ptr ..=>simp only [renK,z98,AC.ren]
  | .mref _=>simp only [renK,z98,AC.ren]
  | .own ..=>rfl
  | .fn f a b=>simp only [renK,AC.ren];rw [z343 r a];rw [z343 r b]
  | .agg cs=>simp only [renK,AC.ren];rw [z343 r cs]
  | .tup cs=>simp only [renK,AC.ren];rw [z343 r cs]
termination_by structural x
theorem z343 (r:Nat→Nat) (xs:List AC) (K:List AC→Prop):z769 r xs K=K (renL r xs):=by
  match xs with
  | []=>rfl
  | x::xs=>simp only [z769,renL];rw [z471 r x];rw [z343 r xs]
termination_by structural xs
end
theorem z721 {f : FuncId} {first caps args args0 : List AC} {objs0 objs1 : List AObj} {res : AC} (π Bn : List Nat) (h : CallsA P f args0 objs0 res objs1) (hb : borL st.objs π Bn (first ++ (args ++ caps)) = args0) (hp : π.map (z79 st.objs π Bn) = objs0)
    (hπ:∀ o∈π,z165 (st.objs o)=true) (hu:res.under objs1.length=true) (hf:∀ x∈objs1,z797 x) (hpl:Bn=[]∨(res.plain=true∧∀ x∈objs1,z283 x)) (hlen:π.length≤objs1.length)
    (k:z192 st.next fun q=>newsK st (objs1.length - π.length) q fun ν=>z67 (z189 (π++ν++Bn)) (renK (z63 0 (π++ν)) res fun res1=>K res1 (z196 st (π++ν) objs1++Bn.map st.rd))):z31 P st (.fn (.func f) first caps) args K:=by
  rw [z98] at k
  obtain ⟨ν,k,h1,h2⟩:=z899 k
  obtain ⟨h3,k⟩:=z33 k
  rw [z471] at k
  have hmap:objs1.map (z125 (z63 0 (π++ν)))=objs1:=by
    conv=>rhs;rw [← List.map_id objs1]
    exact List.map_congr_left fun x hx=>z796 (hf x hx) _
  refine ⟨⟨π,Bn,ν,args0,objs0,res,objs1,res.ren (z63 0 (π++ν)),objs1⟩,⟨h,hb,hp,z152 h3,hπ,h2,?_,rfl,hmap,hu,fun x hx=>z621 (hf x hx) _,hpl⟩,?_⟩
  · simp [h1];omega
  · exact k
mutual
theorem z213 (x:AC) {r:Nat→Nat} (h:x.under 0=true):x.ren r=x:=by
  match x with
  | .any=>rfl
  | .raw _=>rfl
  | .list ..=>rfl
  | .pt _=>rfl
  | .sref ..=>simp [AC.under,Nat.blt_eq] at h
  | .ptr ..=>simp [AC.under,Nat.blt_eq] at h
  | .mref _=>simp [AC.under,Nat.blt_eq] at h
  | .own ..=>rfl
  | .fn f a b =>
    simp only [AC.under] at h
    cases h1:z124 0 a<;>rw [h1] at h
    · simp at h
    · simp only [AC.ren];rw [z179 a h1];rw [z179 b h]
  | .agg cs=>simp only [AC.under] at h;simp only [AC.ren];rw [z179 cs h]
  | .tup cs=>simp only [AC.under] at h;simp only [AC.ren];rw [z179 cs h]
termination_by structural x
theorem z179 (xs:List AC) {r:Nat→Nat} (h:z124 0 xs=true):renL r xs=xs:=by
  match xs with
  | []=>rfl
  | x::xs =>
    simp only [z124] at h
    cases h1:x.under 0<;>rw [h1] at h
    · simp at h
    · simp only [renL];rw [z213 x h1];rw [z179 xs h]
termination_by structural xs
end
theorem z9 {f:FuncId} {first caps args args0:List AC} {res:AC} (h:CallsA P f args0 [] res []) (hb:borL st.objs [] [] (first++(args++caps))=args0) (hu:res.under 0=true) (k:z354 res fun r=>K r []):z31 P st (.fn (.func f) first caps) args K:=by
  refine z721 [] [] h hb rfl (by simp) hu (by simp) (.inl rfl) (Nat.le_refl _) ?_
  rw [z98]
  show z67 true _
  rw [z471]
  rw [z117] at k
  show K (res.ren (z63 0 [])) []
  rw [z213 res hu]
  exact k
end Go.Gl

namespace Go.Gl
variable {P:Program} {T:Tab}
def Reach (m:Nat) (st st' : St):Prop:=∀ G a w,Rel G st a w→∃ G',SubM m G G'∧Rel G' st' a w
theorem Reach.trans {m:Nat} {a b c:St} (h:Reach m a b) (k:Reach m b c):Reach m a c:=fun G ac w hR=>by
  obtain ⟨G1,h1,h2⟩:=h G ac w hR
  obtain ⟨G2,h3,h4⟩:=k G1 ac w h2
  exact ⟨G2,h1.trans h3,h4⟩
theorem PickL.reach {π:List Nat} {m n:Nat} {st:St} {env:List (Nat×AC)} {objs:List AObj} (h:PickL π m n st env objs):Reach m st (mkSt n env objs):=fun G a w hR=>by
  obtain ⟨π',h1,h2⟩:=h.ok
  exact ⟨G.pick π',SubM.pick h1,hR.pick h2⟩
theorem AWP.reach {m:Nat} {c:Code} {Q:Exit→St→Prop} {st st' : St} (hp:Reach m st st') (h:AWP P m c Q st'):AWP P m c Q st:=fun G a w hR=>by
  obtain ⟨G',h1,h2⟩:=hp G a w hR
  exact z167 (h G' a w h2) fun ex a' w' hq=>hq.trans h1 (Le.refl w)
theorem z1077 {α : Type} {m n : Nat} {env : List (Nat × AC)} {objs : List AObj} {body : Code} {Q : Exit → St → Prop} (I : α → List (Nat × AC) × List AObj) (ok : α → Prop) (μ : α → Nat) (x0 : α) (h0 : ok x0) (hinit : Reach m (mkSt n env objs) (mkSt n (I x0).1 (I x0).2))
    (round:∀ x,ok x→AWP P m body (z452 (fun st'=>∃ y,ok y∧μ y < μ x∧Reach m st' (mkSt n (I y).1 (I y).2)) Q) (mkSt n (I x).1 (I x).2)):AWP P m (.loop body) Q (mkSt n env objs):=fun G a w hR=>by
  let J:Act→World→Nat→Prop:=fun a' w' k=>∃ x,ok x∧μ x=k∧∃ G',SubM m G G'∧Le w w'∧Rel G' (mkSt n (I x).1 (I x).2) a' w'
  refine z817 (fun a' w'=>∃ k,J a' w' k) (fun a' w'=>z483 (J a' w')) ?_ ?_
  · obtain ⟨G',h1,h2⟩:=hinit G a w hR
    exact ⟨_,x0,h0,rfl,G',h1,Le.refl w,h2⟩
  · rintro a' w' ⟨k,hk⟩
    obtain ⟨⟨x,hx,hμ,G',hs,hl,hR'⟩,_⟩:=z191 hk
    refine z167 (round x hx G' a' w' hR') fun ex a'' w'' hq=>?_
    cases ex with
    | normal =>
      obtain ⟨G'',st'',h1,h2,⟨y,hy,hlt,hp⟩,h4⟩:=hq
      obtain ⟨G3,h5,h6⟩:=hp G'' a'' w'' h4
      have hJ' : J a'' w'' (μ y):=⟨y,hy,rfl,G3,(hs.trans h1).trans h5,hl.trans h2,h6⟩
      refine ⟨⟨_,hJ'⟩,?_⟩
      have:=(z191 hJ').2
      omega
    | _=>exact hq.trans hs hl
noncomputable def Ghost.seal_ (G:Ghost) (h:Nat→Option Obj) (π Bn:List Nat):Ghost:={ G.sub h π Bn with U:=G.U }
structure SealL (π Bn:List Nat) (m n:Nat) (st:St) (env:List (Nat×AC)) (objs:List AObj):Prop where
  n:st.n=n
  nodup:z189 π=true
  dis:∀ o∈π,o ∉ Bn
  fix:z239 m 0 π=true
  alive:∀ o∈π,z165 (st.objs o)=true
  env:z499 (fun s x=>bor st.objs π Bn (st.env s)=x) env
  obj:π.map (z79 st.objs π Bn)=objs
theorem SealL.reach {π Bn:List Nat} {m n:Nat} {st:St} {env:List (Nat×AC)} {objs:List AObj} (h:SealL π Bn m n st env objs):Reach m st (mkSt n env objs):=fun G a w hR=>by
  have hn:=z152 h.nodup
  have hW:=z1086 (Bn:=Bn) hR.wf hn h.dis h.alive
  rw [h.obj] at hW
  have hbor:=z364 (π:=π) (Bn:=Bn) hR.wf
  have hW' : Wf (G.seal_ (hp w) π Bn) (z36 objs) w:=by
    refine ⟨hW.hS,hR.wf.hU,fun b x hu=>?_,fun b p hk=>?_,fun o=>?_⟩
    · have hu:G.U b=some x:=hu
      cases hkb:G.κ b with
      | none=>show (G.sub (hp w) π Bn).S b=none;simp [Ghost.sub,hkb];exact hR.wf.su b x hu
      | some p=>have:=(hR.wf.sk b p hkb).2.1;rw [hu] at this;cases this
    · have hk' : (G.sub (hp w) π Bn).κ b=some p:=hk
      obtain ⟨h1,_,h3⟩:=hW.sk b p hk'
      refine ⟨h1,?_,h3⟩
      show G.U b=none
      cases hkb:G.κ b with
      | none=>simp [Ghost.sub,hkb] at hk'
      | some q=>exact (hR.wf.sk b q hkb).2.1
    · refine z180 (G:=G.sub (hp w) π Bn) (h:=hp w) (fun _ _ e=>e) (fun _ _ e=>e) rfl (fun b p _ hk=>⟨hk,rfl⟩) (hW.objs o)
  refine ⟨G.seal_ (hp w) π Bn,⟨⟨fun b x e=>hbor.S b x e,rfl⟩,fun o t ho e=>?_⟩,⟨hW',fun s=>?_,by show _=n;rw [← h.n];exact hR.size,hR.defers.mono (fun b x e=>hbor.S b x e)⟩⟩
  · have:=z136 m 0 π h.fix o ho
    rw [Nat.zero_add] at this
    exact sub_ι (w:=w) (Bn:=Bn) (z181 hn this) e
  · rcases z241 env _ h.env s with he|he
    · show V _ _ none (z81 env s) _
      rw [he];simp [V]
    · show V _ _ none (z81 env s) _
      rw [← he]
      have:=V_bor _ hbor _ (hR.env s)
      exact z109 (G:=G.sub (hp w) π Bn) (G':=G.seal_ (hp w) π Bn) (fun _ _ e=>e) (fun _ _ e=>e) this
theorem z292 {objs:Nat→AObj} {π Bn:List Nat} {o w len:Nat} {es:List (List AC)} (ho:objs o=.cells w es) (h1:idx π o=none) (h2:inB Bn o=true) (hl:es.length=len):bor objs π Bn (.sref o 0 len)=.list w len (z66 es):=by
  simp only [bor,h1,h2,ho]
  rw [if_pos (by omega)]
  rw [List.drop_zero,List.take_of_length_le (by rw [z171];simp [hl])]
theorem z653 {es:List (List AC)} (h:∀ e∈es,∀ x∈e,x.unown=x):z66 es=es:=by
  rw [z171]
  conv=>rhs;rw [← List.map_id es]
  refine List.map_congr_left fun e he=>?_
  conv=>rhs;rw [id,← List.map_id e]
  exact List.map_congr_left fun x hx=>h e he x hx
noncomputable def Ghost.absorb (G:Ghost) (o q pos:Nat):Ghost:={ G with κ:=fun b=>match G.κ b with
  | some (q',p)=>if q'=q then some (o,p++[pos]) else some (q',p)
  | none=>none }
theorem z942 (x:AC) {G:Ghost} {h:Nat→Option Obj} {l:Loc} {v:Value} (hf:x.flat=true) (hv:V G h l x v):V G.bare h l x v:=by
  cases x<;>first|(cases hf;done)|(simp only [V] at hv ⊢<;>exact hv)|simp only [V]
theorem z733 {G:Ghost} {h:Nat→Option Obj} {l:Loc} {w:Nat} {es:List (List AC)} {c:Array Value} {off:Nat} (hf:Flat es) (hc:VLL G h l w es c off):VLL G.bare h l w es c off:=by
  rw [z62] at hc ⊢
  intro i e he
  obtain ⟨h1,h2⟩:=hc i e he
  refine ⟨h1,?_⟩
  rw [z58] at h2 ⊢
  intro j x hx
  obtain ⟨v,hv1,hv2⟩:=h2 j x hx
  exact ⟨v,hv1,z942 x (z217.1 (hf e (List.mem_of_getElem? he)) x (List.mem_of_getElem? hx)) hv2⟩
theorem absorb_S {G:Ghost} {o q pos:Nat} : ∀ b x,G.S b=some x→(G.absorb o q pos).S b=some x:=fun _ _ e=>e
theorem Wf.absorb {G : Ghost} {objs : Nat → AObj} {w : World} (hW : Wf G objs w) {o q k j wd wd2 n : Nat} {es es2 : List (List AC)} {e : List AC} (ho : objs o = .cells wd es) (he : es[k]? = some e) (hj : e[j]? = some (.sref q 0 n)) (hq : objs q = .cells wd2 es2) (hn : es2.length = n) (hoq : o ≠ q) (hfl : Flat es2) :
    Wf (G.absorb o q (k * wd+j)) (upd (upd objs o (.cells wd (es.set k (e.set j (.own wd2 es2))))) q .dead) w:=by
  obtain ⟨b,c,el,hι,hκ,hb,hc⟩:=hW.obj ho he
  have hκ' : ∀ b' p,p.1≠q→G.κ b'=some p→(G.absorb o q (k * wd+j)).κ b'=some p:=by
    rintro b' ⟨q',p⟩ hne hk
    simp only [Ghost.absorb,hk,if_neg hne]
  have hκq:∀ b' p,p.1=q→G.κ b'=some p→(G.absorb o q (k * wd+j)).κ b'=some (o,p.2++[k * wd+j]):=by
    rintro b' ⟨q',p⟩ rfl hk
    simp only [Ghost.absorb,hk,if_true]
  refine ⟨hW.hS,hW.hU,hW.su,fun b' p hk=>?_,fun o'=>?_⟩
  · cases hkb:G.κ b' with
    | none=>simp [Ghost.absorb,hkb] at hk
    | some p'=>exact hW.sk b' p' hkb
  · by_cases h1:o'=q
    · subst h1;rw [z28];trivial
    · rw [z43 _ _ h1]
      by_cases h2:o'=o
      · subst h2
        rw [z28]
        refine .inr ⟨b,c.size,c,el,hι,hκ' b (o',[]) (by simpa using h1) hκ,hb,rfl,?_⟩
        have hkl:k < es.length:=by
          rcases Nat.lt_or_ge k es.length with h|h
          · exact h
          · rw [List.getElem?_eq_none h] at he;cases he
        have hmv:∀ (x:AC) (pos:Nat) (v:Value),V G (hp w) (some (o',[pos])) x v→V (G.absorb o' q (k * wd+j)) (hp w) (some (o',[pos])) x v:=fun x pos v hv=>by
          have:=z250 x G (G.absorb o' q (k * wd+j)) (hp w) (hp w) id (fun p=>p.1=o') (fun _ _ e=>e) (fun _ _ e=>e) (fun _ _ _=>rfl) (fun _ _ _ h=>h) (fun b' p hp hk=>⟨hκ' b' p (by rw [hp];exact h1) hk,rfl⟩) (some (o',[pos])) v (fun p hp=>by cases hp;rfl) hv
          simpa using this
        rw [z62] at hc ⊢
        intro i e' he'
        by_cases hik:i=k
        · subst hik
          rw [List.getElem?_set_self hkl] at he'
          cases he'
          obtain ⟨h3,h4⟩:=hc i e he
          refine ⟨by simpa using h3,?_⟩
          rw [z58] at h4 ⊢
          intro jj x hx
          by_cases hjj:jj=j
          · subst hjj
            have hjl:jj < e.length:=by
              rcases Nat.lt_or_ge jj e.length with h|h
              · exact h
              · rw [List.getElem?_eq_none h] at hj;cases hj
            rw [List.getElem?_set_self hjl] at hx
            cases hx
            obtain ⟨v,hv1,hv2⟩:=h4 jj _ hj
            refine ⟨v,hv1,?_⟩
            simp only [V] at hv2
            obtain ⟨cap,hcap,hv2⟩:=hv2
            simp only [V,Loc.cell,Option.map_some]
            rcases hv2 with ⟨h5,ad,rfl⟩|⟨b2,s2,w2,h5,h6,rfl⟩
            · have hn0:n=0:=by omega
              subst hn0
              have:es2=[]:=List.eq_nil_of_length_eq_zero hn
              subst this
              exact ⟨ad,0,rfl,Nat.le_refl _,.inl ⟨rfl,rfl⟩⟩
            · have hobq:=hW.objs q
              rw [hq] at hobq
              rcases hobq with ⟨_,h7⟩|⟨b3,s3,c3,el3,h7,h8,h9,h10,h11⟩
              · rw [h5] at h7;cases h7
              · rw [h5] at h7;cases h7
                rw [Nat.zero_mul]
                refine ⟨some ⟨b2,0,none⟩,cap,by rw [hn],by omega,.inr ⟨b2,c3,el3,(o',[i * wd+jj]),rfl,by rw [Nat.zero_add],by have:=hκq b2 (q,[]) rfl h8;simpa using this,h9,by rw [h10];simpa using h6,?_⟩⟩
                have:=z158 es2 G.bare (G.absorb o' q (i * wd+jj)).bare (hp w) (hp w) (fun p=>(o',p.2++[i * wd+jj])) (fun p=>p.1=q) (fun _ _ e=>e) (fun _ _ e=>e) (fun _ _ _=>rfl) (fun _ _ _ h=>h) (fun b' p hp hk=>⟨hκq b' p hp hk,rfl⟩) (some (q,[])) wd2 c3 0 (fun p hp _=>by cases hp;rfl) (z733 hfl h11)
                simpa [Nat.zero_add] using this
          · rw [List.getElem?_set_ne (Ne.symm hjj)] at hx
            obtain ⟨v,hv1,hv2⟩:=h4 jj x hx
            exact ⟨v,hv1,by simpa [Loc.cell] using hmv x _ v (by simpa [Loc.cell] using hv2)⟩
        · rw [List.getElem?_set_ne (Ne.symm hik)] at he'
          obtain ⟨h3,h4⟩:=hc i e' he'
          refine ⟨h3,?_⟩
          rw [z58] at h4 ⊢
          intro jj x hx
          obtain ⟨v,hv1,hv2⟩:=h4 jj x hx
          exact ⟨v,hv1,by simpa [Loc.cell] using hmv x _ v (by simpa [Loc.cell] using hv2)⟩
      · rw [z43 _ _ h2]
        exact z180 absorb_S (fun _ _ e=>e) rfl (fun b' p hp hk=>⟨hκ' b' p (by rw [hp];exact h1) hk,rfl⟩) (hW.objs o')
end Go.Gl

namespace Go.Gl
open Go.RowKit Go.WideShapes Go.ChangeShapes
variable {P:Program}
def z336 (w:Nat→Option Obj):Ghost:={ S:=w,U:=fun _=>none,ι:=fun _=>none,κ:=fun _=>none }
theorem Wf.start (W:World):Wf (z336 (hp W)) (z36 []) W where
  hS _ _ h:=h
  hU _ _ h:=by cases h
  su _ _ h:=by cases h
  sk _ _ h:=by cases h
  objs o:=by
    show ObjRel _ _ o (z36 [] o)
    have:z36 [] o=.fresh:=by simp [z36,z63]
    rw [this];rfl
def CellsV (h:Nat→Option Obj):List AC→List Value→Prop
  | [],[]=>True
  | x::xs,v::vs=>V (z336 h) h none x v∧CellsV h xs vs
  | _,_=>False
theorem CellsV.length {h:Nat→Option Obj} : {xs:List AC}→{vs:List Value}→CellsV h xs vs→xs.length=vs.length
  | [],[],_=>rfl
  | _::_,_::_,h=>by simp [h.2.length]
  | [],_::_,h=>h.elim
  | _::_,[],h=>h.elim
theorem CellsV.append {h:Nat→Option Obj} : {xs xs' : List AC}→{vs vs' : List Value}→CellsV h xs vs→CellsV h xs' vs'→CellsV h (xs++xs') (vs++vs')
  | [],_,[],_,_,k=>k
  | _::_,_,_::_,_,h,k=>⟨h.1,h.2.append k⟩
  | [],_,_::_,_,h,_=>h.elim
  | _::_,_,[],_,h,_=>h.elim
theorem CellsV.get {h:Nat→Option Obj} : {xs:List AC}→{vs:List Value}→CellsV h xs vs→∀ (j:Nat) (x:AC),xs[j]?=some x→∃ v,vs[j]?=some v∧V (z336 h) h none x v
  | [],_,_,j,x,e=>by cases e
  | x::xs,v::vs,k,0,y,e=>by cases e;exact ⟨v,rfl,k.1⟩
  | x::xs,v::vs,k,j+1,y,e=>by simpa using k.2.get j y (by simpa using e)
  | _::_,[],k,_,_,_=>k.elim
theorem CellsV.VL {h:Nat→Option Obj} {xs:List AC} {vs:List Value} (k:CellsV h xs vs) {c:Array Value} {off:Nat} (hc:∀ j,j < vs.length→c[off+j]?=vs[j]?):Go.Gl.VL (z336 h) h none xs c off:=by
  rw [z58]
  intro j x hx
  obtain ⟨v,hv,hV⟩:=k.get j x hx
  refine ⟨v,?_,by simpa [Loc.cell] using hV⟩
  have:j < vs.length:=by
    rcases Nat.lt_or_ge j vs.length with h|h
    · exact h
    · rw [List.getElem?_eq_none h] at hv;cases hv
  rw [hc j this,hv]
mutual
def AC.wt (x:AC):Nat:=match x with
  | .list _ _ es=>AC.wtLL es+1
  | .raw _=>1
  | .any=>1
  | .pt _=>1
  | .sref ..=>1
  | .ptr ..=>1
  | .mref _=>1
  | .own ..=>1
  | .fn ..=>1
  | .agg _=>1
  | .tup _=>1
termination_by structural x
def AC.wtL (xs:List AC):Nat:=match xs with
  | []=>0
  | x::xs=>AC.wt x+AC.wtL xs
termination_by structural xs
def AC.wtLL (es:List (List AC)):Nat:=match es with
  | []=>0
  | e::es=>AC.wtL e+AC.wtLL es
termination_by structural es
end
def z503 {H:Type} (b:DataW H→Nat):List (DataW H)→Nat
  | []=>0
  | d::r=>b d+z503 b r
structure Bulk {H:Type} (b:DataW H→Nat):Prop where
  lit:∀ l,1≤b (.lit l)
  nil:1≤b .nil
  slice:∀ es sp,z503 b es+1≤b (.slice es sp)
  agg:∀ ps,z503 b ps≤b (.agg ps)
theorem z944 {H:Type} {b:DataW H→Nat} : (es:List (List AC))→(ds:List (DataW H))→(∀ (i:Nat) (e:List AC),es[i]?=some e→∃ d,ds[i]?=some d∧AC.wtL e≤b d)→AC.wtLL es≤z503 b ds
  | [],_,_=>Nat.zero_le _
  | e::es,[],h=>by obtain ⟨d,hd,_⟩:=h 0 e rfl;cases hd
  | e::es,d::ds,h=>by
    obtain ⟨d',hd,h1⟩:=h 0 e rfl
    cases hd
    have:=z944 es ds fun i e' he=>h (i+1) e' (by simpa using he)
    simp only [AC.wtLL,z503]
    omega
def Opens (P:Program) (t:TypeId) (R:List AC→Prop) (k:Nat):Prop:=∀ (H:Type) (enc:TypeId×Value→H) (b:DataW H→Nat) (_:Bulk b) (W:World) (cs:List Value) (x:DataW H×List MemPlace),
  DataW.trod enc P W 0 (fun _=>true) true k t cs=some x→∃ xs,R xs∧CellsV (hp W) xs cs∧AC.wtL xs≤b x.1
theorem Opens.imp {t:TypeId} {R R' : List AC→Prop} {k:Nat} (h:Opens P t R k) (hi:∀ xs,R xs→R' xs):Opens P t R' k:=fun H enc b hB W cs x hx=>by
  obtain ⟨xs,h1,h2⟩:=h H enc b hB W cs x hx
  exact ⟨xs,hi _ h1,h2⟩
theorem z998 {t:TypeId} {q:IntKind} (ht:P.underlying t=some (.int q)) (k:Nat):Opens P t (fun xs=>∃ n,xs=[.raw (.int q n)]∧(Lit.int q n).wf=true) k:=fun H enc b hB W cs x hx=>by
  cases k with
  | zero=>simp [DataW.trod] at hx
  | succ k =>
    unfold DataW.trod at hx
    rw [ht] at hx
    split at hx<;>simp_all
    next n _ =>
      obtain ⟨⟨rfl,h⟩,rfl⟩:=hx
      exact ⟨_,⟨_,rfl,h⟩,by simp [CellsV,V],by simpa [AC.wtL,AC.wt] using hB.lit _⟩
theorem z895 {t:TypeId} {R:List AC→Prop} : Opens P t R 0:=fun H enc b hB W cs x hx=>by simp [DataW.trod] at hx
theorem z501 {α:Type} {p:Nat→α→Prop} : ∀ (n:Nat),(∀ i,i < n→∃ a,p i a)→∃ l:List α,l.length=n∧∀ i a,l[i]?=some a→p i a
  | 0,_=>⟨[],rfl,fun i a h=>by cases h⟩
  | n+1,h=>by
    obtain ⟨l,h1,h2⟩:=z501 n fun i hi=>h i (by omega)
    obtain ⟨a,ha⟩:=h n (by omega)
    refine ⟨l++[a],by simp [h1],fun i b hb=>?_⟩
    by_cases hi:i < l.length
    · exact h2 i b (by rwa [List.getElem?_append_left hi] at hb)
    · rw [List.getElem?_append_right (by omega)] at hb
      obtain rfl:i=n:=by
        have:=(List.getElem?_eq_some_iff.1 hb).1
        simp at this
        omega
      simp [h1] at hb
      exact hb ▸ ha
theorem z775 {t e : TypeId} {R : List AC → Prop} {n : Nat} (ht : P.underlying t = some (.slice e)) (hc : P.cellsOf e = n) (hn : 0 < n) {k : Nat} (h : Opens P e R k) :
    Opens P t (fun xs=>∃ es,xs=[.list n es.length es]∧es.length≤maxLen∧∀ y∈es,R y) (k+1):=fun H enc b hB W cs x hx=>by
  rcases DataW.trod_slice ht hx with ⟨rfl,rfl⟩|⟨a,len,cap,elems,rest,m,hm,rfl,rfl,hb,hl,hmx,hlen,hel,_,_⟩
  · refine ⟨_,⟨[],rfl,by simp [maxLen],fun y hy=>by cases hy⟩,⟨?_,trivial⟩,by simpa [AC.wtL,AC.wt,AC.wtLL] using hB.nil⟩
    simp only [V]
    exact ⟨none,0,rfl,Nat.le_refl _,by simp,.inl (by simp)⟩
  · obtain rfl:k=m:=by omega
    have hcell:∀ (ad:Addr) v,W.cell? ad=some v→ad.spot=none∧∃ c el fz,W.heap[ad.block]?=some (.cells c el fz)∧c[ad.off]?=some v:=by
      intro ad v hv
      simp only [World.cell?] at hv
      split at hv
      · next c el fz hh =>
        cases hsp:ad.spot with
        | none=>exact ⟨rfl,c,el,fz,hh,by simpa [hsp] using hv⟩
        | some _=>simp [hsp] at hv
      · cases hv
    have elem:∀ i,i < len→∃ (cs:List Value) (y:List AC),R y∧CellsV (hp W) y cs∧(∃ d,(elems.map (·.1))[i]?=some d∧AC.wtL y≤b d)∧cs.length=n∧∀ j,j < n→W.cell? ((a.add (i * n)).add j)=cs[j]?:=by
      intro i hi
      have h1:=hel i hi
      rw [hc,List.getElem?_eq_getElem (by omega),Option.bind_eq_some_iff] at h1
      obtain ⟨cs,h2,h3⟩:=h1
      obtain ⟨y,hy,hcy,hwt⟩:=h H enc b hB W cs _ h3
      obtain ⟨_,hcl,hcg⟩:=World.cells?_some h2
      exact ⟨cs,y,hy,hcy,⟨_,by rw [List.getElem?_map,List.getElem?_eq_getElem (by omega)];rfl,hwt⟩,hcl,hcg⟩
    rcases Nat.eq_zero_or_pos len with rfl|hpos
    · refine ⟨_,⟨[],rfl,by simp [maxLen],fun y hy=>by cases hy⟩,⟨?_,trivial⟩,by
        have:=hB.slice (elems.map (·.1)) (rest.map (·.1))
        simp [AC.wtL,AC.wt,AC.wtLL]
        omega⟩
      simp only [V]
      exact ⟨some a,cap,rfl,Nat.zero_le _,by simp,.inl (by simp)⟩
    · obtain ⟨hsp,c,el,fz,hblk⟩:a.spot=none∧∃ c el fz,W.heap[a.block]?=some (.cells c el fz):=by
        obtain ⟨cs,y,_,_,_,hcl,hcg⟩:=elem 0 hpos
        have:=hcg 0 hn
        rw [List.getElem?_eq_getElem (by omega)] at this
        obtain ⟨h1,c,el,fz,h2,_⟩:=hcell _ _ this
        exact ⟨by simpa [Addr.add] using h1,c,el,fz,by simpa [Addr.add] using h2⟩
      have hadd:∀ i j,((a.add i).add j)=⟨a.block,a.off+(i+j),none⟩:=by
        intro i j
        obtain ⟨b,o,sp⟩:=a
        simp only at hsp
        subst hsp
        simp only [Addr.add]
        split<;>split<;>simp_all [Nat.add_assoc]
      obtain ⟨es,hes,hget⟩:=z501 (p:=fun i y=>(R y∧∃ d,(elems.map (·.1))[i]?=some d∧AC.wtL y≤b d)∧y.length=n∧VL (z336 (hp W)) (hp W) none y c (a.off+i * n)) len (fun i hi=>by
        obtain ⟨cs,y,hy,hcy,hwt,hcl,hcg⟩:=elem i hi
        refine ⟨y,⟨hy,hwt⟩,by rw [hcy.length,hcl],hcy.VL fun j hj=>?_⟩
        have h1:=hcg j (by omega)
        rw [List.getElem?_eq_getElem hj] at h1 ⊢
        rw [hadd] at h1
        obtain ⟨_,c',_,_,h2,h3⟩:=hcell _ _ h1
        rw [hblk] at h2
        cases h2
        rw [← h3,Nat.add_assoc])
      refine ⟨_,⟨es,rfl,by omega,fun y hy=>?_⟩,⟨?_,trivial⟩,?_⟩
      · obtain ⟨i,hi⟩:=List.getElem?_of_mem hy
        exact (hget i y hi).1.1
      · simp only [V]
        obtain ⟨bk,o,sp⟩:=a
        simp only at hsp
        subst hsp
        refine ⟨some ⟨bk,o,none⟩,cap,by rw [hes],by omega,trivial,.inr ⟨bk,o,c,el,fz,rfl,hblk,?_⟩⟩
        rw [z62]
        exact fun i e he=>(hget i e he).2
      · have:=hB.slice (elems.map (·.1)) (rest.map (·.1))
        have:=z944 es (elems.map (·.1)) fun i e he=>(hget i e he).1.2
        simp [AC.wtL,AC.wt]
        omega
def ArgOk (P:Program) (t:TypeId) (R:AC→Nat→Prop):Prop:=∀ (H:Type) (enc:TypeId×Value→H) (b:DataW H→Nat) (_:Bulk b) (W:World) (r:_root_.Go.Reach) (b0:Nat) (v:Value) (d:DataW H) (ps:List MemPlace),
  Value.okWide P W r b0 t v→DataW.Trod enc P W 0 (fun _=>true) true t v d ps→∃ x m,R x m∧V (z336 (hp W)) (hp W) none x v∧m≤b d
theorem z810 {t e:TypeId} {R:List AC→Prop} (ht:P.underlying t=some (.slice e)) (h:∀ k,Opens P t R k):ArgOk P t fun x m=>R [x]∧m=AC.wt x:=fun H enc b hB W r b0 v d ps hv ⟨k,hk⟩=>by
  obtain ⟨a,len,cap,rfl⟩:=okWide_slice ht hv
  obtain ⟨xs,h1,h2,h3⟩:=h k H enc b hB W _ _ hk
  have hl:=h2.length
  match xs,hl with
  | [x],_=>exact ⟨x,_,⟨h1,rfl⟩,h2.1,by simpa [AC.wtL] using h3⟩
def ArgsOk (P:Program):List TypeId→(List AC→Nat→Prop)→Prop
  | [],R=>R [] 0
  | t::ts,R=>∃ R1 R2,ArgOk P t R1∧ArgsOk P ts R2∧∀ a m as n,R1 a m→R2 as n→R (a::as) (m+n)
theorem z413 {H : Type} {enc : TypeId × Value → H} {b : DataW H → Nat} (hB : Bulk b) {W : World} {r : _root_.Go.Reach} {b0 : Nat} : (ts : List TypeId) → (vs : List Value) → (ds : List (DataW H)) → (ps : List MemPlace) → (R : List AC → Nat → Prop) → ArgsOk P ts R → 
    (∀ (j:Nat) t v,ts[j]?=some t→vs[j]?=some v→Value.okWide P W r b0 t v)→DataW.TrodAll enc P W 0 (fun _=>true) true ts vs ds ps→∃ xs m,R xs m∧CellsV (hp W) xs vs∧m≤z503 b ds
  | [],[],[],_,R,h,_,_=>⟨[],0,h,trivial,Nat.zero_le _⟩
  | t::ts,v::vs,d::ds,_,R,⟨R1,R2,h1,h2,h3⟩,hv,⟨p,q,h4,h5,_⟩=>by
    obtain ⟨x,m,hx,hV,hm⟩:=h1 H enc b hB W r b0 v d p (hv 0 t v rfl rfl) h4
    obtain ⟨xs,n,hxs,hVs,hn⟩:=z413 hB ts vs ds q R2 h2 (fun j t' v' e e'=>hv (j+1) t' v' (by simpa using e) (by simpa using e')) h5
    exact ⟨x::xs,m+n,h3 x m xs n hx hxs,⟨hV,hVs⟩,by simp only [z503];omega⟩
end Go.Gl

namespace Go.Gl
open Go.RowKit Go.WideShapes Go.ChangeShapes
variable {P:Program}
theorem below_of {G' : Ghost} {W W' : World} {o:Nat→AObj} (hle:Le W W') (hs:(z336 (hp W)).Sub G') (hw:Wf G' o W'):Below W.heap.size W W' where
  os:=hle.os
  tape:=hle.tape
  output:=hle.output
  size:=hle.size
  block k hk:=by
    have h1:(z336 (hp W)).S k=some W.heap[k]:=by show W.heap[k]?=_;rw [Array.getElem?_eq_getElem hk]
    rw [hw.hS k _ (hs.S k _ h1),Array.getElem?_eq_getElem hk]
theorem z334 {H : Type} {enc : TypeId × Value → H} {W W' : World} (hl : laidOutB P = true) (hb : Below W.heap.size W W') {sp : Nat → Bool} : (ts : List TypeId) → (vs : List Value) → (ds : List (DataW H)) → (ps : List MemPlace) →
    (∀ t∈ts,P.readableRec t=true∧t < P.types.size)→(∀ p∈ps,p.block < W.heap.size)→(∀ p∈ps,sp p.block=true) →
    DataW.TrodAll enc P W 0 (fun _=>true) true ts vs ds ps→DataW.TrodAll enc P W' 0 sp true ts vs ds ps
  | [],[],[],_,_,_,_,h=>h
  | t::ts,v::vs,d::ds,_,ht,hlt,hs,⟨p,q,h1,h2,e⟩=>by
    subst e
    exact ⟨p,q,WideElems.Trod_stays hl (ht t (by simp)).1 (ht t (by simp)).2 h1 (fun x hx=>hb.same (hlt x (by simp [hx]))) (fun x hx=>hs x (by simp [hx])),
      z334 hl hb ts vs ds q (fun t h=>ht t (by simp [h])) (fun x hx=>hlt x (by simp [hx])) (fun x hx=>hs x (by simp [hx])) h2,rfl⟩
theorem post_of_below' {H : Type} {enc : TypeId × Value → H} {f : Func} {s : ChangeSpec} {apart fresh handsOn z78 : Bool} {W W' : World} {args : Array Value} {v : Value} {ds gs : List (DataW H)} {before pa pv : List MemPlace}
    (hW:DataW.Whole enc P f.params.toList s.vars apart W args.toList ds gs before)
    (hres:∀ (b:Nat) (sp:Nat→Bool) (hd:Bool),DataW.TrodAll enc P W' b sp hd f.resultTypes.toList (v.resultList f.resultTypes.size) (s.fn H (ds++gs)).results [])
    (hargs:∀ sp:Nat→Bool,(∀ p∈before,sp p.block=true)→DataW.TrodAll enc P W' 0 sp true f.params.toList args.toList (s.fn H (ds++gs)).args pa)
    (hvars:∀ sp:Nat→Bool,(∀ p∈before,sp p.block=true)→DataW.TrodVars enc P W' sp s.vars (s.fn H (ds++gs)).vars pv)
    (hps:before=pa++pv) (hb:Below W.heap.size W W')
    (hok:∀ (j:Nat) (t:TypeId) (r:Value),f.resultTypes[j]?=some t→(v.resultList f.resultTypes.size)[j]?=some r→Value.okWide P W' .any 0 t r) :
    s.post enc P f apart fresh handsOn z78 W args v W':=by
  have hlt:∀ p∈before,p.block < W.heap.size:=fun p hp=>hW.lt p hp
  have hold:∀ p∈before,(fun b=>decide (b < W.heap.size)) p.block=true:=fun p hp=>by simpa using hlt p hp
  refine ⟨ds,gs,before,[],pa,pv,hW,hres _ _ _,hargs _ hold,hvars _ hold,World.keptBut_mono (fun p hp=>⟨hp,?_⟩) (hb.frame (·∈before)),fun _=>?_⟩
  · rw [hps,List.mem_append] at hp
    exact Or.inr hp
  · obtain ⟨_,_,_,_,_,hz,hn⟩:=hW
    refine ⟨hok,_,_,([]++pa)++pv,⟨[]++pa,pv,trodAll_append (hargs _ (fun _ _=>rfl)) (hres _ _ _),hvars _ (fun _ _=>rfl),rfl,?_,?_⟩,?_⟩
    · intro b off hp
      have hin:MemPlace.cell b off∈before:=by rw [hps];simpa using hp
      rw [hb.frozen (hlt _ hin)]
      exact hz b off hin
    · intro ha
      have:=hn ha
      rw [hps] at this
      simpa using this
    · intro p hp _
      rw [hps]
      simpa using hp
theorem z606 {H : Type} {enc : TypeId × Value → H} {f : FuncId} {fn : Func} {s : ChangeSpec} {W : World} {args : Array Value} {ds gs : List (DataW H)} {before : List MemPlace} {R : List AC → Nat → Prop} {tb : TypeId} {r : _root_.Go.Reach} {b0 : Nat} {apart fresh handsOn z78 : Bool}
    {b:DataW H→Nat} (hB:Bulk b) (hl:laidOutB P=true) (hts:∀ t∈fn.params.toList,P.readableRec t=true∧t < P.types.size)
    (hvars:s.vars=[]) (hsp:∀ ds:List (DataW H),ds.length=fn.params.size→s.fn H ds={ results:=[.lit (.bool true)],args:=ds }) (hres:fn.resultTypes=#[tb]) (hbool:P.underlying tb=some .bool)
    (hargs:ArgsOk P fn.params.toList R) (hC:∀ xs m,R xs m→m≤z503 b ds→CallsA P f xs [] (.bool true) [])
    (hval:∀ (j:Nat) t v,fn.params[j]?=some t→args[j]?=some v→Value.okWide P W r b0 t v)
    (hW:DataW.Whole enc P fn.params.toList s.vars apart W args.toList ds gs before) :
    Calls P f args W fun e W'=>∃ v,e=.returned v∧s.post enc P fn apart fresh handsOn z78 W args v W':=by
  have hW0:=hW
  obtain ⟨p,q,hA,hV,rfl,hz,hn⟩:=hW
  rw [hvars] at hV
  obtain ⟨rfl,rfl⟩:gs=[]∧q=[]:=by
    cases gs with
    | nil=>exact ⟨rfl,hV⟩
    | cons _ _=>exact hV.elim
  obtain ⟨xs,m,hR,hcs,hm⟩:=z413 hB _ _ _ _ _ hargs (fun j t v e e'=>hval j t v (by simpa using e) (by simpa using e')) hA
  have hlen:ds.length=fn.params.size:=by
    have:∀ (ts:List TypeId) (vs:List Value) (ds:List (DataW H)) (ps:List MemPlace),DataW.TrodAll enc P W 0 (fun _=>true) true ts vs ds ps→ds.length=ts.length:=by
      intro ts
      induction ts with
      | nil=>intro vs ds ps h;rw [(trodAll_nil h).2.1];rfl
      | cons t ts ih =>
        intro vs ds ps h
        obtain ⟨v,vs1,d,ds1,a,b,rfl,rfl,rfl,h1,h2⟩:=trodAll_cons h
        simp [ih _ _ _ h2]
    simpa using this _ _ _ _ hA
  have hsp':=hsp (ds++[]) (by simpa using hlen)
  obtain ⟨_,hcall⟩:=hC xs m hR hm
  refine (hcall (z336 (hp W)) W args (Wf.start W) (by simpa using hcs.length.symm) (hcs.VL fun j _=>by simp)).mono fun e W' ⟨G',v,he,hs,_,hle,hw,hv⟩=>?_
  subst he
  have hv:v=.bool true:=by simpa [V] using hv
  subst hv
  have hb:=below_of hle hs hw
  refine ⟨_,rfl,post_of_below' (pa:=p) (pv:=[]) hW0 (fun _ _ _=>?_) (fun sp hsp=>?_) (fun sp _=>?_) rfl hb (ok_one hres rfl (okWide_bool_mk hbool _))⟩
  · rw [hsp',hres]
    exact trodAll_mk1 (shut_bool hbool _)
  · rw [hsp']
    simp only [List.append_nil] at hsp ⊢
    exact z334 hl hb _ _ _ _ hts (fun x hx=>hW0.lt x (by simp [hx])) hsp hA
  · rw [hsp',hvars]
    rfl
theorem z450 {α:Type} {f:α→List AC} (h:∀ a,∀ x∈f a,x.unown=x) (l:List α):z66 (l.map f)=l.map f :=
  z653 fun e he x hx=>by
    obtain ⟨a,_,rfl⟩:=List.mem_map.1 he
    exact h a x hx
theorem bor_seal {objs:Nat→AObj} {π Bn:List Nat} {o w len:Nat} {es L:List (List AC)} (ho:objs o=.cells w es) (h1:idx π o=none) (h2:inB Bn o=true) (he:es=L) (hu:z66 L=L) (hl:L.length=len):bor objs π Bn (.sref o 0 len)=.list w len L:=by
  subst he
  rw [z292 ho h1 h2 hl,hu]
end Go.Gl

namespace Go.Gl
variable {P:Program}
theorem z82 {b:Bool} {A B:Prop} (h1:b=false→A) (h2:b=true→B):vcIf (!b) A B:=by
  cases b
  · exact h1 rfl
  · exact h2 rfl
theorem z54 {m:Nat} {st:St} {res r:AC} (hm:z239 m 0 []=true) (hu:res.under 0=true) (h:r=res):z48 m st res [] r :=
  ⟨[],List.nodup_nil,hm,hu,ACle.of_eq (by rw [z213 res hu,h]),trivial⟩
theorem z676 {m:Nat} {st:St} {res r:AC} (hm:z239 m 0 []=true) (hu:res.under 0=true) (h:ACle r res):z48 m st res [] r :=
  ⟨[],List.nodup_nil,hm,hu,by rw [z213 res hu];exact h,trivial⟩
theorem z27 {m:Nat} {st:St} {b c:Bool} (hm:z239 m 0 []=true) (h:c=b):z48 m st (.raw (.bool c)) [] (.raw (.bool b)):=z54 hm rfl (by rw [h])
theorem z592 {m:Nat} {st:St} {b c:Int} (hm:z239 m 0 []=true) (h:c=b):z48 m st (.raw (.int .i64 c)) [] (.raw (.int .i64 b)):=z54 hm rfl (by rw [h])
theorem z105 {m:Nat} {st:St} {res r:AC} {objs' : List AObj} (π:List Nat) (h1:π.Nodup) (h2:z239 m 0 π=true) (h3:res.under π.length=true) (h4:r=res.ren (z63 0 π)) (h5:z479 (fun o x=>z138 π.length x∧st.objs o=z125 (z63 0 π) x) 0 π objs'):z48 m st res objs' r :=
  ⟨π,h1,h2,h3,ACle.of_eq h4,h5⟩
theorem z24 {M w:Nat} {r:Nat→Nat} {x:AObj} {e:List AC} (h:z124 M e=true) (hx:x=.cells w [renL r e]):z138 M (.cells w [e])∧x=z125 r (.cells w [e]) :=
  ⟨fun y hy=>by rw [List.mem_singleton.1 hy];exact h,by rw [hx];rfl⟩
def idxS {α σ:Type} (p:α→σ→Bool) (nx:α→σ→σ) (l:List α) (s:σ) (k:Nat):Int×σ:=match l with
  | []=>(-1,s)
  | x::r=>if p x s then (k,nx x s) else idxS p nx r (nx x s) (k+1)
def z52 {α:Type} (I:α→List (Nat×AC)×List AObj) (ok:α→Prop) (μ:α→Nat) (x:α) (m n:Nat) (st:St):Prop:=∃ y π,ok y∧μ y < μ x∧PickL π m n st (I y).1 (I y).2
theorem z78 {α:Type} {I:α→List (Nat×AC)×List AObj} {ok:α→Prop} {μ:α→Nat} {x:α} {m n:Nat} {st:St} (y:α) (π:List Nat) (h1:ok y) (h2:μ y < μ x) (h3:PickL π m n st (I y).1 (I y).2):z52 I ok μ x m n st:=⟨y,π,h1,h2,h3⟩
theorem z90 {α : Type} {m n : Nat} {env : List (Nat × AC)} {objs : List AObj} {body : Code} {Q : Exit → St → Prop} (I : α → List (Nat × AC) × List AObj) (ok : α → Prop) (μ : α → Nat) (x0 : α) (h0 : ok x0) (hinit : ∃ π, PickL π m n (mkSt n env objs) (I x0).1 (I x0).2)
    (round:∀ x,ok x→AWP P m body (z452 (fun st'=>z52 I ok μ x m n st') Q) (mkSt n (I x).1 (I x).2)):AWP P m (.loop body) Q (mkSt n env objs) :=
  z634 I ok μ x0 h0 hinit round
theorem z11 {α:Type} {f:α→List AC} {l:List α} {i:Nat} {K:List AC→Prop} (h:i < l.length) (k:∀ h:i < l.length,K (f (l[i]'h))):∃ e,(l.map f)[(i:Int).toNat]?=some e∧K e:=⟨_,z317 _ _ _ h,k h⟩
theorem z127 {α:Type} {a:α} {K:α→Prop} (k:K a):∃ e,some a=some e∧K e:=⟨a,rfl,k⟩
theorem z142 {α:Type} (p:α→Bool) (l:List α) (k:Nat) (h:k < l.length):(l.drop k).all p=(p l[k] && (l.drop (k+1)).all p):=by
  rw [List.drop_eq_getElem_cons h,List.all_cons]
theorem z137 {α:Type} (p:α→Bool) (l:List α) (k:Nat) (h:l.length≤k):(l.drop k).all p=true:=by
  rw [List.drop_eq_nil_of_le h];rfl
theorem z858 {α:Type} (p:α→Bool) (l:List α) (k:Nat) (h:k < l.length):(l.drop k).any p=(p l[k] || (l.drop (k+1)).any p):=by
  rw [List.drop_eq_getElem_cons h,List.any_cons]
theorem z713 {α:Type} (p:α→Bool) (l:List α) (k:Nat) (h:l.length≤k):(l.drop k).any p=false:=by
  rw [List.drop_eq_nil_of_le h];rfl
theorem z795 {α:Type} {f:α→List AC} {l:List α} {i:Nat} {K:List AC→Prop} (h:i < l.length) (k:∀ h:i < l.length,K (f (l[i]'h))):∃ e,(l.map f)[i]?=some e∧K e:=⟨_,z317 _ _ _ h,k h⟩
theorem z862 {P:Program} {st:St} {K:OpK} {f:FuncId} {first caps args args0:List AC} {res:AC} (Bn:List Nat) (h:CallsA P f args0 [] res []) (hb:borL st.objs [] Bn (first++(args++caps))=args0) (hu:res.under 0=true) (hpl:res.plain=true) (hn:z189 Bn=true) (k:z354 res fun r=>K r (Bn.map st.rd)):z31 P st (.fn (.func f) first caps) args K:=by
  refine z721 [] Bn h hb rfl (by simp) hu (by simp) (.inr ⟨hpl,by simp⟩) (Nat.le_refl _) ?_
  rw [z98]
  show z67 (z189 ([]++[]++Bn)) _
  rw [List.nil_append,List.nil_append,hn]
  show renK _ _ _
  rw [z471]
  rw [z117] at k
  show K (res.ren (z63 0 [])) _
  rw [z213 res hu]
  exact k
def z734 (M:Nat) (r:Nat→Nat) (x y:AObj):Prop:=z333 M x∧z125 r x=y
theorem z25 {M w:Nat} {r:Nat→Nat} {es:List (List AC)} (h:Flat es):z734 M r (.cells w es) (.cells w es) :=
  ⟨fun e he=>z321 (h e he) M,h.ren r⟩
theorem z20 {M w:Nat} {r:Nat→Nat} {e e' : List AC} (h:z124 M e=true) (he:renL r e=e'):z734 M r (.cells w [e]) (.cells w [e']) :=
  ⟨fun x hx=>by rw [List.mem_singleton.1 hx];exact h,by simp [z125,he]⟩
theorem z593 {M:Nat} {r:Nat→Nat} : z734 M r .dead .dead:=⟨trivial,rfl⟩
def ObjsRen (M:Nat) (r:Nat→Nat):List AObj→List AObj→Prop
  | [],ys=>ys=[]
  | x::xs,ys=>∃ y zs,ys=y::zs∧z734 M r x y∧ObjsRen M r xs zs
theorem z15 {M:Nat} {r:Nat→Nat} : ObjsRen M r [] []:=rfl
theorem z14 {M:Nat} {r:Nat→Nat} {x y:AObj} {xs ys:List AObj} (h:z734 M r x y) (k:ObjsRen M r xs ys):ObjsRen M r (x::xs) (y::ys):=⟨y,ys,rfl,h,k⟩
theorem ObjsRen.spec {M:Nat} {r:Nat→Nat} : ∀ {xs ys:List AObj},ObjsRen M r xs ys→(∀ x∈xs,z333 M x)∧xs.map (z125 r)=ys:=by
  intro xs
  induction xs with
  | nil=>intro ys h;cases h;exact ⟨by simp,rfl⟩
  | cons x xs ih =>
    rintro ys ⟨y,zs,rfl,⟨h1,h2⟩,h3⟩
    obtain ⟨h4,h5⟩:=ih h3
    refine ⟨fun z hz=>?_,by rw [List.map_cons,h2,h5]⟩
    rcases List.mem_cons.1 hz with rfl|hz
    · exact h1
    · exact h4 z hz
theorem z86 {objs:Nat→AObj} {π Bn:List Nat} {o w:Nat} {es:List (List AC)} (ho:objs o=.cells w es) (h:Flat es):z79 objs π Bn o=.cells w es:=by
  simp only [z79,ho,AObj.cells.injEq,true_and]
  conv=>rhs;rw [← List.map_id es]
  refine List.map_congr_left fun e he=>?_
  conv=>rhs;rw [id,← List.map_id e]
  refine List.map_congr_left fun x hx=>?_
  have:=z217.1 (h e he) x hx
  cases x<;>first|rfl|simp [AC.flat] at this
def PassOk (objs:Nat→AObj) (π Bn:List Nat):List Nat→List AObj→Prop
  | [],ys=>ys=[]
  | o::os,ys=>∃ y zs,ys=y::zs∧z79 objs π Bn o=y∧PassOk objs π Bn os zs
theorem z4 {objs:Nat→AObj} {π Bn:List Nat} : PassOk objs π Bn [] []:=rfl
theorem z5 {objs:Nat→AObj} {π Bn:List Nat} {o:Nat} {os:List Nat} {y:AObj} {ys:List AObj} (h:z79 objs π Bn o=y) (k:PassOk objs π Bn os ys):PassOk objs π Bn (o::os) (y::ys):=⟨y,ys,rfl,h,k⟩
theorem PassOk.spec {objs:Nat→AObj} {π Bn:List Nat} : ∀ {os:List Nat} {ys:List AObj},PassOk objs π Bn os ys→os.map (z79 objs π Bn)=ys:=by
  intro os
  induction os with
  | nil=>intro ys h;cases h;rfl
  | cons o os ih =>
    rintro ys ⟨y,zs,rfl,h1,h2⟩
    rw [List.map_cons,h1,ih h2]
def PlainObjs:List AObj→Prop
  | []=>True
  | x::xs=>z283 x∧PlainObjs xs
theorem PlainObjs.spec:∀ {xs:List AObj},PlainObjs xs→∀ x∈xs,z283 x:=by
  intro xs
  induction xs with
  | nil=>intro _ x hx;cases hx
  | cons y xs ih =>
    intro h x hx
    rcases List.mem_cons.1 hx with rfl|hx
    · exact h.1
    · exact ih h.2 x hx
theorem z229 {α:Type} {f:α→List AC} (h:∀ a,z166 (f a)=true) (l:List α):z200 (l.map f)=true:=by
  induction l with
  | nil=>rfl
  | cons a l ih=>simp only [List.map_cons,z200,h a,ih]
def allN (p:Nat→Bool):List Nat→Bool
  | []=>true
  | x::xs=>match p x with
    | true=>allN p xs
    | false=>false
theorem z223 {p:Nat→Bool} {l:List Nat} (h:allN p l=true):∀ x∈l,p x=true:=by
  induction l with
  | nil=>intro x hx;cases hx
  | cons y l ih =>
    intro x hx
    simp only [allN] at h
    split at h
    · rename_i hy
      rcases List.mem_cons.1 hx with rfl|hx
      · exact hy
      · exact ih h x hx
    · cases h
theorem z8 {st : St} {K : OpK} {f : FuncId} {first caps args args0 : List AC} {objs0 objs1 objs1' : List AObj} {res : AC} (π Bn ν : List Nat) (h : CallsA P f args0 objs0 res objs1) (hb : borL st.objs π Bn (first ++ (args ++ caps)) = args0) (hp : PassOk st.objs π Bn π objs0)
    (hc:allN (fun o=>z165 (st.objs o)) π=true) (hf:allN (fun o=>z318 (st.objs o)) ν=true) (hn:z189 (π++ν++Bn)=true) (hl:Nat.beq objs1.length (π++ν).length=true) (hu:res.under objs1.length=true)
    (ho:ObjsRen objs1.length (z63 0 (π++ν)) objs1 objs1') (hpl:Bn=[]∨(res.plain=true∧PlainObjs objs1))
    (k:renK (z63 0 (π++ν)) res fun res1=>K res1 (z196 st (π++ν) objs1'++Bn.map st.rd)):z31 P st (.fn (.func f) first caps) args K:=by
  rw [z471] at k
  obtain ⟨h1,h2⟩:=ho.spec
  exact ⟨⟨π,Bn,ν,args0,objs0,res,objs1,res.ren (z63 0 (π++ν)),objs1'⟩,⟨h,hb,hp.spec,z152 hn,z223 hc,z223 hf,Nat.eq_of_beq_eq_true hl,rfl,h2,hu,h1,hpl.imp id fun h=>⟨h.1,h.2.spec⟩⟩,k⟩
end Go.Gl

namespace Go.Gl
variable {P:Program} {G:Ghost} {objs:Nat→AObj} {w:World} {π Bn:List Nat}
theorem z339 (hW0 : Wf G objs w) (hn : π.Nodup) (hd : ∀ o ∈ π, o ∉ Bn) (ha : ∀ o ∈ π, z165 (objs o) = true) :
    Wf (G.seal_ (hp w) π Bn) (z36 (π.map (z79 objs π Bn))) w∧G.Sub (G.seal_ (hp w) π Bn)∧(∀ o i t,idx π o=some i→G.ι o=some t→(G.seal_ (hp w) π Bn).ι i=some t) ∧
      ∀ x v,V G (hp w) none x v→V (G.seal_ (hp w) π Bn) (hp w) none (bor objs π Bn x) v:=by
  have hW:=z1086 (Bn:=Bn) hW0 hn hd ha
  have hbor:=z364 (π:=π) (Bn:=Bn) hW0
  refine ⟨⟨hW.hS,hW0.hU,fun b x hu=>?_,fun b p hk=>?_,fun o=>?_⟩,⟨fun b x e=>hbor.S b x e,rfl⟩,fun o i t hi e=>sub_ι (w:=w) (Bn:=Bn) hi e,fun x v hv=>?_⟩
  · have hu:G.U b=some x:=hu
    cases hkb:G.κ b with
    | none=>show (G.sub (hp w) π Bn).S b=none;simp [Ghost.sub,hkb];exact hW0.su b x hu
    | some p=>have:=(hW0.sk b p hkb).2.1;rw [hu] at this;cases this
  · have hk' : (G.sub (hp w) π Bn).κ b=some p:=hk
    obtain ⟨h1,_,h3⟩:=hW.sk b p hk'
    refine ⟨h1,?_,h3⟩
    show G.U b=none
    cases hkb:G.κ b with
    | none=>simp [Ghost.sub,hkb] at hk'
    | some q=>exact (hW0.sk b q hkb).2.1
  · exact z180 (G:=G.sub (hp w) π Bn) (h:=hp w) (fun _ _ e=>e) (fun _ _ e=>e) rfl (fun b p _ hk=>⟨hk,rfl⟩) (hW.objs o)
  · exact z109 (G:=G.sub (hp w) π Bn) (G':=G.seal_ (hp w) π Bn) (fun _ _ e=>e) (fun _ _ e=>e) (V_bor _ hbor _ hv)
theorem CallsA.lend {f : FuncId} {args : List AC} {objs objs1 objs2 : List AObj} {res res2 : AC} (h : CallsA P f args objs res objs1) (π Bn : List Nat) (hn : z189 (π ++ Bn) = true) (ha : allN (fun o => z165 (z36 objs1 o)) π = true)
    (hf:z239 objs.length 0 π=true) (hr:bor (z36 objs1) π Bn res=res2) (hp' : PassOk (z36 objs1) π Bn π objs2):CallsA P f args objs res2 objs2:=by
  refine ⟨h.1,fun G w vs hW hs hv=>(h.2 G w vs hW hs hv).mono ?_⟩
  rintro e w' ⟨G',v,rfl,h1,h2,h3,h4,h5⟩
  have hnd:=z152 hn
  obtain ⟨k1,k2,k3,k4⟩:=z339 (π:=π) (Bn:=Bn) h4 (List.nodup_append.1 hnd).1 (fun o ho hb=>(List.nodup_append.1 hnd).2.2 o ho o hb rfl) (z223 ha)
  refine ⟨_,v,rfl,h1.trans k2,fun o t ho e=>?_,h3,by rw [← hp'.spec];exact k1,by rw [← hr];exact k4 _ _ h5⟩
  have:=z136 objs.length 0 π hf o ho
  rw [Nat.zero_add] at this
  exact k3 o o t (z181 (List.nodup_append.1 hnd).1 this) (h2 o t ho e)
theorem CallsA.keep {f:FuncId} {args:List AC} {w n:Nat} {es:List (List AC)} (h:CallsA P f args [] (.sref 0 0 n) [.cells w es]) (hu:z66 es=es) (hl:es.length=n):CallsA P f args [] (.list w n es) [] :=
  h.lend [] [0] rfl rfl rfl (bor_seal rfl rfl rfl rfl hu hl) z4
theorem get_fill {α:Type} {f:α→List AC} {l:List α} {z:List AC} {k:Nat} {K:List AC→Prop} (h:k < l.length) (kk:K z):∃ e,((l.take k).map f++List.replicate (l.length - k) z)[(k:Int).toNat+0]?=some e∧K e :=
  ⟨z,fill_get _ _ _ _ h,kk⟩
theorem obj_fill {α : Type} {M w : Nat} {r : Nat → Nat} {f : α → List AC} {l : List α} {z e : List AC} {k j : Nat} {x : AObj} (hk : k < l.length) (hx : x = .cells w (((l.take k).map f ++ List.replicate (l.length - k) z).set j e)) (hj : j = k) (he : e = f l[k]) (hf : ∀ a, z322 (f a) = true) (hz : z322 z = true) :
    z138 M (.cells w ((l.take (k+1)).map f++List.replicate (l.length - (k+1)) z))∧x=z125 r (.cells w ((l.take (k+1)).map f++List.replicate (l.length - (k+1)) z)):=by
  subst hj he
  exact z40 (by rw [hx,fill_set _ _ _ _ hk]) (z99 (z6 hf) (z65 hz))
theorem fill_end {α:Type} (f:α→List AC) (l:List α) (z:List AC) (k:Nat) (h:k=l.length):(l.take k).map f++List.replicate (l.length - k) z=l.map f:=by
  subst h;simp
theorem obj_app {α : Type} {M w : Nat} {r : Nat → Nat} {f : α → List AC} {l : List α} {e : List AC} {k : Nat} {x : AObj} (hk : k < l.length) (n : Nat) (hx : x = .cells w (((l.take k).map f).take n ++ [e])) (hn : n = k) (he : e = f l[k]) (hf : ∀ a, z322 (f a) = true) :
    z138 M (.cells w ((l.take (k+1)).map f))∧x=z125 r (.cells w ((l.take (k+1)).map f)):=by
  subst hn he
  refine z40 ?_ (z6 hf)
  rw [hx,List.take_succ_eq_append_getElem hk,List.map_append,List.take_of_length_le (by simp;omega)]
  rfl
theorem z470 {m:Nat} {st:St} {o n w:Nat} {es es' : List (List AC)} (hm:z239 m 0 [o]=true) (hf:Flat es) (ho:st.objs o=.cells w es') (he:es'=es):z48 m st (.sref 0 0 n) [.cells w es] (.sref o 0 n) :=
  ⟨[o],by simp,hm,rfl,ACle.refl _,⟨z40 (by rw [ho,he]) hf,trivial⟩⟩
theorem z154 {α:Type} (f:α→Value) (l:List α):z66 (l.map fun a=>[AC.raw (f a)])=l.map fun a=>[AC.raw (f a)] :=
  z450 (fun a x hx=>by cases hx with|head=>rfl|tail _ h=>cases h) l
end Go.Gl

namespace Go.Gl
variable {P:Program}
noncomputable def Ghost.expose (G:Ghost) (q b0 size wd2:Nat):Ghost:={ G with κ:=fun b=>if b=b0 then some (q,[]) else G.κ b,ι:=fun o=>if o=q then some (b0,size,wd2) else G.ι o }
def z900:List AC→Bool
  | []=>true
  | x::xs=>match x.flat && !x.isOwn with
    | true=>z900 xs
    | false=>false
theorem z688 {xs:List AC} : z900 xs=true↔∀ x∈xs,x.flat=true∧x.isOwn=false:=by
  induction xs with
  | nil=>simp [z900]
  | cons x xs ih =>
    simp only [z900]
    cases h:(x.flat && !x.isOwn)<;>simp_all
def Leaf (es:List (List AC)):Prop:=∀ e∈es,z900 e=true
theorem Leaf.flat {es:List (List AC)} (h:Leaf es):Flat es:=fun e he=>z217.2 fun x hx=>(z688.1 (h e he) x hx).1
theorem z231 {α:Type} {f:α→List AC} (h:∀ a,z900 (f a)=true) (l:List α):Leaf (l.map f):=by
  intro x hx
  obtain ⟨a,_,rfl⟩:=List.mem_map.1 hx
  exact h a
theorem VLL_leaf {G G' : Ghost} {h:Nat→Option Obj} {l l' : Loc} {w:Nat} {es:List (List AC)} {c:Array Value} {off:Nat} (hf:Leaf es) (hS:∀ b x,G.S b=some x→G'.S b=some x) (hc:VLL G.bare h l w es c off):VLL G' h l' w es c off:=by
  rw [z62] at hc ⊢
  intro i e he
  obtain ⟨h1,h2⟩:=hc i e he
  refine ⟨h1,?_⟩
  rw [z58] at h2 ⊢
  intro j x hx
  obtain ⟨v,hv1,hv2⟩:=h2 j x hx
  have:=(z688.1 (hf e (List.mem_of_getElem? he)) x (List.mem_of_getElem? hx)).2
  exact ⟨v,hv1,V_at (z109 (G:=G.bare) (G':=G') hS (fun _ _ e=>by cases e) (z1088 this hv2))⟩
theorem Wf.expose {G : Ghost} {objs : Nat → AObj} {w : World} (hW : Wf G objs w) {o q k j wd wd2 : Nat} {es es2 : List (List AC)} {e : List AC} (ho : objs o = .cells wd es) (he : es[k]? = some e) (hj : e[j]? = some (.own wd2 es2)) (hq : objs q = .fresh) (hfl : Leaf es2) :
    ∃ G',(∀ b x,G.S b=some x→G'.S b=some x)∧G'.U=G.U∧(∀ o t,G.ι o=some t→G'.ι o=some t)∧Wf G' (upd (upd objs o (.cells wd (es.set k (e.set j (.sref q 0 es2.length))))) q (.cells wd2 es2)) w:=by
  have hoq:o≠q:=by rintro rfl;rw [ho] at hq;cases hq
  obtain ⟨b,c,el,hι,hκ,hb,hc⟩:=hW.obj ho he
  have hιq:G.ι q=none:=by have:=hW.objs q;rw [hq] at this;exact this
  have hkl:k < es.length:=(List.getElem?_eq_some_iff.1 he).1
  have hjl:j < e.length:=(List.getElem?_eq_some_iff.1 hj).1
  rw [z62] at hc
  obtain ⟨hek,hcv⟩:=hc k e he
  rw [z58] at hcv
  obtain ⟨v0,hv0,hv0'⟩:=hcv j _ hj
  simp only [V,Loc.cell,Option.map_some] at hv0'
  obtain ⟨a,cap,rfl,hcap,hown⟩:=hv0'
  rcases hown with ⟨hes,hcap0⟩|⟨b0,c0,el0,p,ha,hp,hκ0,hb0,hsz,hc0⟩
  · -- no block
    subst hes hcap0
    refine ⟨G,fun _ _ e=>e,rfl,fun _ _ e=>e,hW.hS,hW.hU,hW.su,hW.sk,fun o'=>?_⟩
    by_cases h1:o'=q
    · subst h1;rw [z28];exact .inl ⟨rfl,hιq⟩
    · rw [z43 _ _ h1]
      by_cases h2:o'=o
      · subst h2
        rw [z28]
        refine .inr ⟨b,c.size,c,el,hι,hκ,hb,rfl,?_⟩
        rw [z62]
        intro i e' he'
        by_cases hik:i=k
        · subst hik
          rw [List.getElem?_set_self hkl] at he'
          cases he'
          refine ⟨by simpa using hek,?_⟩
          rw [z58]
          intro jj x hx
          by_cases hjj:jj=j
          · subst hjj
            rw [List.getElem?_set_self hjl] at hx
            cases hx
            exact ⟨_,hv0,by simp only [V];exact ⟨0,Nat.le_refl _,.inl ⟨rfl,a,rfl⟩⟩⟩
          · rw [List.getElem?_set_ne (Ne.symm hjj)] at hx
            exact hcv jj x hx
        · rw [List.getElem?_set_ne (Ne.symm hik)] at he'
          exact hc i e' he'
      · rw [z43 _ _ h2];exact hW.objs o'
  · subst ha
    cases hp
    have hS:∀ b' x,G.S b'=some x→(G.expose q b0 c0.size wd2).S b'=some x:=fun _ _ e=>e
    have hιs:∀ o' t,G.ι o'=some t→(G.expose q b0 c0.size wd2).ι o'=some t:=fun o' t e=>by
      by_cases h:o'=q
      · subst h;rw [hιq] at e;cases e
      · simp only [Ghost.expose,if_neg h];exact e
    have hκ' : ∀ b' p',p'≠(o,[0+k * wd+j])→G.κ b'=some p'→(G.expose q b0 c0.size wd2).κ b'=some p':=fun b' p' hne hk=>by
      have:b'≠b0:=by rintro rfl;rw [hκ0] at hk;cases hk;exact hne rfl
      simp only [Ghost.expose,if_neg this];exact hk
    refine ⟨G.expose q b0 c0.size wd2,hS,rfl,hιs,hW.hS,hW.hU,hW.su,fun b' p' hk=>?_,fun o'=>?_⟩
    · by_cases h:b'=b0
      · subst h;exact hW.sk _ _ hκ0
      · simp only [Ghost.expose,if_neg h] at hk;exact hW.sk _ _ hk
    · by_cases h1:o'=q
      · subst h1
        rw [z28]
        refine .inr ⟨b0,c0.size,c0,el0,by simp [Ghost.expose],by simp [Ghost.expose],hb0,rfl,?_⟩
        exact VLL_leaf hfl hS hc0
      · rw [z43 _ _ h1]
        by_cases h2:o'=o
        · subst h2
          rw [z28]
          refine .inr ⟨b,c.size,c,el,hιs _ _ hι,hκ' b (o',[]) (by simp) hκ,hb,rfl,?_⟩
          have hmv:∀ (x:AC) (pos:Nat) (v:Value),pos≠0+k * wd+j→V G (hp w) (some (o',[pos])) x v→V (G.expose q b0 c0.size wd2) (hp w) (some (o',[pos])) x v:=fun x pos v hne hv=>by
            have:=z250 x G (G.expose q b0 c0.size wd2) (hp w) (hp w) id (fun p=>p.2.getLast?=some pos) hS hιs (fun _ _ _=>rfl) (fun o'' j' q' h=>by
              cases q' with
              | nil=>simp at h
              | cons y ys=>rw [List.getLast?_cons_cons];exact h) (fun b' p hp hk=>⟨hκ' b' p (by rintro rfl;simp at hp;exact hne (by omega)) hk,rfl⟩) (some (o',[pos])) v (fun p hp=>by cases hp;rfl) hv
            simpa using this
          rw [z62]
          intro i e' he'
          by_cases hik:i=k
          · subst hik
            rw [List.getElem?_set_self hkl] at he'
            cases he'
            refine ⟨by simpa using hek,?_⟩
            rw [z58]
            intro jj x hx
            by_cases hjj:jj=j
            · subst hjj
              rw [List.getElem?_set_self hjl] at hx
              cases hx
              refine ⟨_,hv0,?_⟩
              simp only [V]
              exact ⟨cap,by omega,.inr ⟨b0,c0.size,wd2,by simp [Ghost.expose],by simpa using hsz,by simp⟩⟩
            · rw [List.getElem?_set_ne (Ne.symm hjj)] at hx
              obtain ⟨v,hv1,hv2⟩:=hcv jj x hx
              exact ⟨v,hv1,by simpa [Loc.cell] using hmv x _ v (by omega) (by simpa [Loc.cell] using hv2)⟩
          · rw [List.getElem?_set_ne (Ne.symm hik)] at he'
            obtain ⟨h3,h4⟩:=hc i e' he'
            refine ⟨h3,?_⟩
            rw [z58] at h4 ⊢
            intro jj x hx
            obtain ⟨v,hv1,hv2⟩:=h4 jj x hx
            have hjw:jj < wd:=by rw [← h3];exact (List.getElem?_eq_some_iff.1 hx).1
            have hne:0+i * wd+jj≠0+k * wd+j:=by
              intro heq
              have hj' : j < wd:=by rw [← hek];exact hjl
              rcases Nat.lt_or_gt_of_ne hik with hlt|hlt
              · have:(i+1) * wd≤k * wd:=Nat.mul_le_mul_right _ hlt
                rw [Nat.add_mul] at this;omega
              · have:(k+1) * wd≤i * wd:=Nat.mul_le_mul_right _ hlt
                rw [Nat.add_mul] at this;omega
            exact ⟨v,hv1,by simpa [Loc.cell] using hmv x _ v hne (by simpa [Loc.cell] using hv2)⟩
        · rw [z43 _ _ h2]
          exact z180 hS (fun _ _ e=>hιs _ _ e) (by simp [Ghost.expose,h1]) (fun b' p hp hk=>⟨hκ' b' p (by rintro rfl;exact h2 hp.symm) hk,rfl⟩) (hW.objs o')
def LocLe (x y:AC):Prop:=∀ (G:Ghost) (h:Nat→Option Obj) (l:Loc) (v:Value),V G h l x v→V G h l y v
theorem z600 {w:Nat} : LocLe .nils (.own w []):=fun G h l v hv=>by
  simp only [V] at hv ⊢
  exact ⟨none,0,hv,Nat.le_refl _,.inl ⟨trivial,rfl⟩⟩
theorem LocLe.refl (x:AC):LocLe x x:=fun _ _ _ _ h=>h
theorem Reach.weaken {m n : Nat} {env : List (Nat × AC)} {objs objs' : List AObj} (o : Nat) {wd : Nat} {es es' : List (List AC)} (ho : z36 objs o = .cells wd es) (hl : es'.length = es.length)
    (hr:∀ (i:Nat) (e' : List AC),es'[i]?=some e'→∃ e:List AC,es[i]?=some e∧e'.length=e.length∧∀ (j:Nat) (x' : AC),e'[j]?=some x'→∃ x,e[j]?=some x∧LocLe x x')
    (hk:z275 objs [⟨o,.dead,.cells wd es'⟩] fun l=>l=objs'):Reach m (mkSt n env objs) (mkSt n env objs'):=fun G a w hR=>by
  obtain ⟨l,rfl,hl'⟩:=z118 hk
  refine ⟨G,SubM.refl m G,⟨?_,hR.env,hR.size,hR.defers⟩⟩
  show Wf G (z36 l) w
  rw [hl']
  refine ⟨hR.wf.hS,hR.wf.hU,hR.wf.su,hR.wf.sk,fun o'=>?_⟩
  show ObjRel G (hp w) o' (upd (z36 objs) o (.cells wd es') o')
  by_cases h:o'=o
  · subst h
    rw [z28]
    have:=hR.wf.objs o'
    rw [show (mkSt n env objs).objs o'=.cells wd es from ho] at this
    rcases this with ⟨h1,h2⟩|⟨b,size,c,el,h1,h2,h3,h4,h5⟩
    · subst h1
      exact .inl ⟨List.eq_nil_of_length_eq_zero (by simpa using hl),h2⟩
    · refine .inr ⟨b,size,c,el,h1,h2,h3,h4,?_⟩
      rw [z62] at h5 ⊢
      intro i e' he'
      obtain ⟨e,he,hle,hx⟩:=hr i e' he'
      obtain ⟨h6,h7⟩:=h5 i e he
      refine ⟨by rw [hle,h6],?_⟩
      rw [z58] at h7 ⊢
      intro j x' hx'
      obtain ⟨x,hx1,hx2⟩:=hx j x' hx'
      obtain ⟨v,hv1,hv2⟩:=h7 j x hx1
      exact ⟨v,hv1,hx2 _ _ _ _ hv2⟩
  · rw [z43 _ _ h];exact hR.wf.objs o'
theorem z314 {N w:Nat} : ∀ (i:Nat) (e' : List AC),(List.replicate N [AC.own w []])[i]?=some e'→∃ e,(List.replicate N [AC.nils])[i]?=some e∧e'.length=e.length∧∀ (j:Nat) (x' : AC),e'[j]?=some x'→∃ x,e[j]?=some x∧LocLe x x':=by
  intro i e' he
  rw [List.getElem?_replicate] at he ⊢
  split at he
  · rename_i hi
    cases he
    refine ⟨_,if_pos hi,rfl,fun j x' hx=>?_⟩
    match j,hx with
    | 0,hx=>cases hx;exact ⟨_,rfl,z600⟩
    | j+1,hx=>simp at hx
  · cases he
theorem z146 (id:Nat) {m:Nat} {ops:Array Oper} {d:Bool} {Q:Exit→St→Prop} {st:St} (h:AWP P m (.region id ops d) Q st):AWP P m (.region id ops d) Q st:=h
theorem z112 (id:Nat) {m:Nat} {ops:Array Oper} {d:Bool} {c:Code} {Q:Exit→St→Prop} {st:St} (h:AWP P m (.seq (.region id ops d) c) Q st):AWP P m (.seq (.region id ops d) c) Q st:=h
theorem z619 {es:List (List AC)} {i n:Nat} {r:List AC} {K:List AC→Prop} (h:n=i) (hi:i < es.length) (k:K r):∃ e,(es.set i r)[n]?=some e∧K e :=
  ⟨r,by subst h;exact List.getElem?_set_self hi,k⟩
theorem z69 {α:Type} {f:α→List AC} {l:List α} {x:Int} {K:List AC→Prop} (h:x.toNat < l.length) (k:∀ h:x.toNat < l.length,K (f (l[x.toNat]'h))):∃ e,(l.map f)[x.toNat]?=some e∧K e:=⟨_,z317 _ _ _ h,k h⟩
theorem z342 {m:Nat} {st:St} {o n n' w:Nat} {es es' : List (List AC)} (hm:z239 m 0 [o]=true) (hf:Flat es) (hn:n'=n) (ho:st.objs o=.cells w es') (he:es'=es):z48 m st (.sref 0 0 n) [.cells w es] (.sref o 0 n'):=by
  subst hn;exact z470 hm hf ho he
theorem Reach.expose {m n : Nat} {env : List (Nat × AC)} {objs objs' : List AObj} (o k j : Nat) {wd wd2 : Nat} {es es2 : List (List AC)} {e : List AC} (ho : z36 objs o = .cells wd es) (he : es[k]? = some e) (hj : e[j]? = some (.own wd2 es2)) (hfl : Leaf es2)
    (hk:z275 objs [⟨o,.dead,.cells wd (es.set k (e.set j (.sref objs.length 0 es2.length)))⟩,⟨objs.length,.fresh,.cells wd2 es2⟩] fun l=>l=objs'):Reach m (mkSt n env objs) (mkSt n env objs'):=fun G a w hR=>by
  obtain ⟨l,rfl,hl⟩:=z118 hk
  obtain ⟨G',h1,h2,h3,h4⟩:=hR.wf.expose (q:=objs.length) ho he hj (z61 (Nat.le_refl _)) hfl
  refine ⟨G',⟨⟨h1,h2⟩,fun o t _ e=>h3 o t e⟩,⟨?_,fun s=>z109 h1 h3 (hR.env s),hR.size,hR.defers.mono h1⟩⟩
  show Wf G' (z36 l) w
  rw [hl];exact h4
theorem Reach.absorb {m n : Nat} {env : List (Nat × AC)} {objs objs' : List AObj} (o q k j : Nat) {wd wd2 len : Nat} {es es2 : List (List AC)} {e : List AC} (ho : z36 objs o = .cells wd es) (he : es[k]? = some e) (hj : e[j]? = some (.sref q 0 len)) (hq : z36 objs q = .cells wd2 es2) (hn : es2.length = len) (hoq : Nat.beq o q = false) (hfl : Flat es2)
    (hk:z275 objs [⟨o,.dead,.cells wd (es.set k (e.set j (.own wd2 es2)))⟩,⟨q,.dead,.dead⟩] fun l=>l=objs'):Reach m (mkSt n env objs) (mkSt n env objs'):=fun G a w hR=>by
  obtain ⟨l,rfl,hl⟩:=z118 hk
  have h4:=hR.wf.absorb (o:=o) (q:=q) ho he hj hq hn (by rintro rfl;rw [Nat.beq_refl] at hoq;cases hoq) hfl
  refine ⟨G.absorb o q (k * wd+j),⟨⟨fun _ _ e=>e,rfl⟩,fun o t _ e=>e⟩,⟨?_,fun s=>z109 (G:=G) (G':=G.absorb o q (k * wd+j)) (fun _ _ e=>e) (fun _ _ e=>e) (hR.env s),hR.size,hR.defers.mono (fun _ _ e=>e)⟩⟩
  show Wf _ (z36 l) w
  rw [hl];exact h4
end Go.Gl

namespace Go.Gl
variable {P:Program}
mutual
theorem V_mvD (x : AC) (G G' : Ghost) (h h' : Nat → Option Obj) (f : Nat × List Nat → Nat × List Nat) (D : Nat × List Nat → Prop) (hS : ∀ b x, G.S b = some x → G'.S b = some x) (hι : ∀ o t, G.ι o = some t → G'.ι o = some t)
    (hf:∀ o j q,D (o,q)→f (o,j::q)=((f (o,q)).1,j::(f (o,q)).2)) (hD:∀ o j q,D (o,q)→D (o,j::q))
    (hκ:∀ b p,D p→G.κ b=some p→G'.κ b=some (f p)∧h' b=h b) (l:Loc) (v:Value) (hl:∀ p,l=some p→D p) (hv:V G h l x v):V G' h' (l.map f) x v:=by
  have hb:∀ b p,False→G.bare.κ b=some p→G'.bare.κ b=some (id p)∧h' b=h b:=fun _ _ h=>h.elim
  match x with
  | .any=>simp [V]
  | .raw _=>simpa [V] using hv
  | .list w n es =>
    simp only [V] at hv ⊢
    obtain ⟨a,cap,rfl,hcap,hn,hv⟩:=hv
    refine ⟨a,cap,rfl,hcap,hn,hv.imp id ?_⟩
    rintro ⟨b,off,c,el,fz,rfl,hb',hc⟩
    exact ⟨b,off,c,el,fz,rfl,hS _ _ hb',z639 es G.bare G'.bare h h' id (fun _=>False) hS (fun _ _ e=>e) (fun _ _ _ _=>rfl) (fun _ _ _ h=>h) hb none w c off (by simp) hc⟩
  | .pt cs =>
    simp only [V] at hv ⊢
    obtain ⟨b,off,c,el,fz,rfl,hb',hc⟩:=hv
    exact ⟨b,off,c,el,fz,rfl,hS _ _ hb',z516 cs G.bare G'.bare h h' id (fun _=>False) hS (fun _ _ e=>e) (fun _ _ _ _=>rfl) (fun _ _ _ h=>h) hb none c off (by simp) hc⟩
  | .sref o off len =>
    simp only [V] at hv ⊢
    obtain ⟨cap,hc,hv⟩:=hv
    refine ⟨cap,hc,hv.imp id ?_⟩
    rintro ⟨b,size,w,hb,h2⟩
    exact ⟨b,size,w,hι _ _ hb,h2⟩
  | .ptr o i off =>
    simp only [V] at hv ⊢
    obtain ⟨b,size,w,hb,h2⟩:=hv
    exact ⟨b,size,w,hι _ _ hb,h2⟩
  | .mref o =>
    simp only [V] at hv ⊢
    obtain ⟨b,size,w,hb,h2⟩:=hv
    exact ⟨b,size,w,hι _ _ hb,h2⟩
  | .own w es =>
    simp only [V] at hv ⊢
    obtain ⟨a,cap,rfl,hcap,hv⟩:=hv
    refine ⟨a,cap,rfl,hcap,hv.imp id ?_⟩
    rintro ⟨b,c,el,p,rfl,rfl,hk,hb,hs,hc⟩
    obtain ⟨hk',hh'⟩:=hκ b p (hl p rfl) hk
    exact ⟨b,c,el,f p,rfl,rfl,hk',by rw [hh',hb],hs,z639 es G.bare G'.bare h h' f D hS (fun _ _ e=>e) hf hD hκ (some p) w c 0 hl hc⟩
  | .fn g first caps =>
    simp only [V] at hv ⊢
    obtain ⟨xs,ys,rfl,h1,h2,h3,h4⟩:=hv
    exact ⟨xs,ys,rfl,h1,h2,z516 first G G' h h' f D hS hι hf hD hκ none xs 0 (by simp) h3,z516 caps G G' h h' f D hS hι hf hD hκ none ys 0 (by simp) h4⟩
  | .agg cs =>
    simp only [V] at hv ⊢
    obtain ⟨c,rfl,h1,h3⟩:=hv
    exact ⟨c,rfl,h1,z516 cs G G' h h' f D hS hι hf hD hκ none c 0 (by simp) h3⟩
  | .tup cs =>
    simp only [V] at hv ⊢
    obtain ⟨c,rfl,h1,h3⟩:=hv
    exact ⟨c,rfl,h1,z516 cs G G' h h' f D hS hι hf hD hκ none c 0 (by simp) h3⟩
termination_by structural x
theorem z516 (xs : List AC) (G G' : Ghost) (h h' : Nat → Option Obj) (f : Nat × List Nat → Nat × List Nat) (D : Nat × List Nat → Prop) (hS : ∀ b x, G.S b = some x → G'.S b = some x) (hι : ∀ o t, G.ι o = some t → G'.ι o = some t)
    (hf:∀ o j q,D (o,q)→f (o,j::q)=((f (o,q)).1,j::(f (o,q)).2)) (hD:∀ o j q,D (o,q)→D (o,j::q))
    (hκ:∀ b p,D p→G.κ b=some p→G'.κ b=some (f p)∧h' b=h b) (l:Loc) (c:Array Value) (off:Nat) (hl:∀ p,l=some p→D p) (hv:VL G h l xs c off):VL G' h' (l.map f) xs c off:=by
  match xs with
  | []=>simp [VL]
  | x::xs =>
    simp only [VL] at hv ⊢
    obtain ⟨⟨v,hv1,hv2⟩,hv3⟩:=hv
    refine ⟨⟨v,hv1,?_⟩,z516 xs G G' h h' f D hS hι hf hD hκ l c (off+1) hl hv3⟩
    have:=V_mvD x G G' h h' f D hS hι hf hD hκ (l.cell off) v (by
      intro p hp
      cases l with
      | none=>simp [Loc.cell] at hp
      | some q=>simp [Loc.cell] at hp;subst hp;exact hD _ _ _ (hl q rfl)) hv2
    cases l with
    | none=>exact this
    | some q =>
      simp only [Loc.cell,Option.map_some] at this ⊢
      rw [hf q.1 off q.2 (hl q rfl)] at this
      exact this
termination_by structural xs
theorem z639 (es : List (List AC)) (G G' : Ghost) (h h' : Nat → Option Obj) (f : Nat × List Nat → Nat × List Nat) (D : Nat × List Nat → Prop) (hS : ∀ b x, G.S b = some x → G'.S b = some x) (hι : ∀ o t, G.ι o = some t → G'.ι o = some t)
    (hf:∀ o j q,D (o,q)→f (o,j::q)=((f (o,q)).1,j::(f (o,q)).2)) (hD:∀ o j q,D (o,q)→D (o,j::q))
    (hκ:∀ b p,D p→G.κ b=some p→G'.κ b=some (f p)∧h' b=h b) (l:Loc) (w:Nat) (c:Array Value) (off:Nat) (hl:∀ p,l=some p→D p) (hv:VLL G h l w es c off):VLL G' h' (l.map f) w es c off:=by
  match es with
  | []=>simp [VLL]
  | e::es =>
    simp only [VLL] at hv ⊢
    obtain ⟨h1,h2,h3⟩:=hv
    exact ⟨h1,z516 e G G' h h' f D hS hι hf hD hκ l c off hl h2,z639 es G G' h h' f D hS hι hf hD hκ l w c (off+w) hl h3⟩
termination_by structural es
end
def z623 (κ:Nat→Option (Nat×List Nat)) (o q pos:Nat) (b:Nat):Option (Nat×List Nat):=match κ b with
  | some (o',p)=>if o'=o∧p.getLast?=some pos then some (q,p.dropLast) else some (o',p)
  | none=>none
noncomputable def Ghost.exposeD (G:Ghost) (o q pos b0 size wd2:Nat):Ghost:={ G with κ:=z623 G.κ o q pos,ι:=fun o'=>if o'=q then some (b0,size,wd2) else G.ι o' }
theorem Wf.exposeD {G : Ghost} {objs : Nat → AObj} {w : World} (hW : Wf G objs w) {o q k j wd wd2 : Nat} {es es2 : List (List AC)} {e : List AC} (ho : objs o = .cells wd es) (he : es[k]? = some e) (hj : e[j]? = some (.own wd2 es2)) (hq : objs q = .fresh) :
    ∃ G',(∀ b x,G.S b=some x→G'.S b=some x)∧G'.U=G.U∧(∀ o t,G.ι o=some t→G'.ι o=some t)∧Wf G' (upd (upd objs o (.cells wd (es.set k (e.set j (.sref q 0 es2.length))))) q (.cells wd2 es2)) w:=by
  have hoq:o≠q:=by rintro rfl;rw [ho] at hq;cases hq
  obtain ⟨b,c,el,hι,hκ,hb,hc⟩:=hW.obj ho he
  have hιq:G.ι q=none:=by have:=hW.objs q;rw [hq] at this;exact this
  have hkl:k < es.length:=(List.getElem?_eq_some_iff.1 he).1
  have hjl:j < e.length:=(List.getElem?_eq_some_iff.1 hj).1
  rw [z62] at hc
  obtain ⟨hek,hcv⟩:=hc k e he
  rw [z58] at hcv
  obtain ⟨v0,hv0,hv0'⟩:=hcv j _ hj
  simp only [V,Loc.cell,Option.map_some] at hv0'
  obtain ⟨a,cap,rfl,hcap,hown⟩:=hv0'
  rcases hown with ⟨hes,hcap0⟩|⟨b0,c0,el0,p,ha,hp,hκ0,hb0,hsz,hc0⟩
  · -- no block
    subst hes hcap0
    refine ⟨G,fun _ _ e=>e,rfl,fun _ _ e=>e,hW.hS,hW.hU,hW.su,hW.sk,fun o'=>?_⟩
    by_cases h1:o'=q
    · subst h1;rw [z28];exact .inl ⟨rfl,hιq⟩
    · rw [z43 _ _ h1]
      by_cases h2:o'=o
      · subst h2
        rw [z28]
        refine .inr ⟨b,c.size,c,el,hι,hκ,hb,rfl,?_⟩
        rw [z62]
        intro i e' he'
        by_cases hik:i=k
        · subst hik
          rw [List.getElem?_set_self hkl] at he'
          cases he'
          refine ⟨by simpa using hek,?_⟩
          rw [z58]
          intro jj x hx
          by_cases hjj:jj=j
          · subst hjj
            rw [List.getElem?_set_self hjl] at hx
            cases hx
            exact ⟨_,hv0,by simp only [V];exact ⟨0,Nat.le_refl _,.inl ⟨rfl,a,rfl⟩⟩⟩
          · rw [List.getElem?_set_ne (Ne.symm hjj)] at hx
            exact hcv jj x hx
        · rw [List.getElem?_set_ne (Ne.symm hik)] at he'
          exact hc i e' he'
      · rw [z43 _ _ h2];exact hW.objs o'
  · subst ha
    cases hp
    rw [Nat.zero_add] at hκ0
    have hS:∀ b' x,G.S b'=some x→(G.exposeD o q (k * wd+j) b0 c0.size wd2).S b'=some x:=fun _ _ e=>e
    have hιs:∀ o' t,G.ι o'=some t→(G.exposeD o q (k * wd+j) b0 c0.size wd2).ι o'=some t:=fun o' t e=>by
      by_cases h:o'=q
      · subst h;rw [hιq] at e;cases e
      · simp only [Ghost.exposeD,if_neg h];exact e
    have hκ' : ∀ b' p',¬(p'.1=o∧p'.2.getLast?=some (k * wd+j))→G.κ b'=some p'→(G.exposeD o q (k * wd+j) b0 c0.size wd2).κ b'=some p':=fun b' p' hne hk=>by
      obtain ⟨p1,p2⟩:=p'
      simp only [Ghost.exposeD,z623,hk,if_neg hne]
    have hκm:∀ b' p',p'.1=o∧p'.2.getLast?=some (k * wd+j)→G.κ b'=some p'→(G.exposeD o q (k * wd+j) b0 c0.size wd2).κ b'=some (q,p'.2.dropLast):=fun b' p' hne hk=>by
      obtain ⟨p1,p2⟩:=p'
      simp only [Ghost.exposeD,z623,hk,if_pos hne]
    refine ⟨G.exposeD o q (k * wd+j) b0 c0.size wd2,hS,rfl,hιs,hW.hS,hW.hU,hW.su,fun b' p' hk=>?_,fun o'=>?_⟩
    · cases hkb:G.κ b' with
      | none=>simp [Ghost.exposeD,z623,hkb] at hk
      | some p=>exact hW.sk _ _ hkb
    · by_cases h1:o'=q
      · subst h1
        rw [z28]
        refine .inr ⟨b0,c0.size,c0,el0,by simp [Ghost.exposeD],by have:=hκm b0 (o,[k * wd+j]) ⟨rfl,rfl⟩ hκ0;simpa using this,hb0,rfl,?_⟩
        have:=z639 es2 G.bare (G.exposeD o o' (k * wd+j) b0 c0.size wd2) (hp w) (hp w) (fun p=>(o',p.2.dropLast)) (fun p=>p.1=o∧p.2.getLast?=some (k * wd+j)) hS (fun _ _ e=>by cases e)
          (fun o1 j1 q1 h=>by
            cases q1 with
            | nil=>simp at h
            | cons y ys=>simp [List.dropLast_cons_of_ne_nil])
          (fun o1 j1 q1 h=>by
            cases q1 with
            | nil=>simp at h
            | cons y ys=>simpa using h)
          (fun b' p hp hk=>⟨hκm b' p hp hk,rfl⟩) (some (o,[0+k * wd+j])) wd2 c0 0 (fun p hp=>by cases hp;simp) hc0
        simpa using this
      · rw [z43 _ _ h1]
        by_cases h2:o'=o
        · subst h2
          rw [z28]
          refine .inr ⟨b,c.size,c,el,hιs _ _ hι,hκ' b (o',[]) (by simp) hκ,hb,rfl,?_⟩
          have hmv:∀ (x:AC) (pos:Nat) (v:Value),pos≠0+k * wd+j→V G (hp w) (some (o',[pos])) x v→V (G.exposeD o' q (k * wd+j) b0 c0.size wd2) (hp w) (some (o',[pos])) x v:=fun x pos v hne hv=>by
            have:=z250 x G (G.exposeD o' q (k * wd+j) b0 c0.size wd2) (hp w) (hp w) id (fun p=>p.2.getLast?=some pos) hS hιs (fun _ _ _=>rfl) (fun o'' j' q' h=>by
              cases q' with
              | nil=>simp at h
              | cons y ys=>simpa using h) (fun b' p hp hk=>⟨hκ' b' p (by rintro ⟨_,h⟩;rw [hp] at h;cases h;exact hne (by omega)) hk,rfl⟩) (some (o',[pos])) v (fun p hp=>by cases hp;rfl) hv
            simpa using this
          rw [z62]
          intro i e' he'
          by_cases hik:i=k
          · subst hik
            rw [List.getElem?_set_self hkl] at he'
            cases he'
            refine ⟨by simpa using hek,?_⟩
            rw [z58]
            intro jj x hx
            by_cases hjj:jj=j
            · subst hjj
              rw [List.getElem?_set_self hjl] at hx
              cases hx
              refine ⟨_,hv0,?_⟩
              simp only [V]
              exact ⟨cap,by omega,.inr ⟨b0,c0.size,wd2,by simp [Ghost.exposeD],by simpa using hsz,by simp⟩⟩
            · rw [List.getElem?_set_ne (Ne.symm hjj)] at hx
              obtain ⟨v,hv1,hv2⟩:=hcv jj x hx
              exact ⟨v,hv1,by simpa [Loc.cell] using hmv x _ v (by omega) (by simpa [Loc.cell] using hv2)⟩
          · rw [List.getElem?_set_ne (Ne.symm hik)] at he'
            obtain ⟨h3,h4⟩:=hc i e' he'
            refine ⟨h3,?_⟩
            rw [z58] at h4 ⊢
            intro jj x hx
            obtain ⟨v,hv1,hv2⟩:=h4 jj x hx
            have hjw:jj < wd:=by rw [← h3];exact (List.getElem?_eq_some_iff.1 hx).1
            have hne:0+i * wd+jj≠0+k * wd+j:=by
              intro heq
              have hj' : j < wd:=by rw [← hek];exact hjl
              rcases Nat.lt_or_gt_of_ne hik with hlt|hlt
              · have:(i+1) * wd≤k * wd:=Nat.mul_le_mul_right _ hlt
                rw [Nat.add_mul] at this;omega
              · have:(k+1) * wd≤i * wd:=Nat.mul_le_mul_right _ hlt
                rw [Nat.add_mul] at this;omega
            exact ⟨v,hv1,by simpa [Loc.cell] using hmv x _ v hne (by simpa [Loc.cell] using hv2)⟩
        · rw [z43 _ _ h2]
          exact z180 hS (fun _ _ e=>hιs _ _ e) (by simp [Ghost.exposeD,h1]) (fun b' p hp hk=>⟨hκ' b' p (by rintro ⟨h,_⟩;exact h2 (hp.symm.trans h)) hk,rfl⟩) (hW.objs o')
theorem Reach.exposeD {m n : Nat} {env : List (Nat × AC)} {objs objs' : List AObj} (o k j : Nat) {wd wd2 : Nat} {es es2 : List (List AC)} {e : List AC} (ho : z36 objs o = .cells wd es) (he : es[k]? = some e) (hj : e[j]? = some (.own wd2 es2))
    (hk:z275 objs [⟨o,.dead,.cells wd (es.set k (e.set j (.sref objs.length 0 es2.length)))⟩,⟨objs.length,.fresh,.cells wd2 es2⟩] fun l=>l=objs'):Reach m (mkSt n env objs) (mkSt n env objs'):=fun G a w hR=>by
  obtain ⟨l,rfl,hl⟩:=z118 hk
  obtain ⟨G',h1,h2,h3,h4⟩:=hR.wf.exposeD (q:=objs.length) ho he hj (z61 (Nat.le_refl _))
  refine ⟨G',⟨⟨h1,h2⟩,fun o t _ e=>h3 o t e⟩,⟨?_,fun s=>z109 h1 h3 (hR.env s),hR.size,hR.defers.mono h1⟩⟩
  show Wf G' (z36 l) w
  rw [hl];exact h4
end Go.Gl

namespace Go.Gl
variable {P:Program} {st:St} {K:OpK} {f:FuncId} {first caps args args0:List AC} {objs0 objs1 objs1' : List AObj} {res:AC}
def addN (l:List Nat) (x:Nat):List Nat:=match inB l x with
  | true=>l
  | false=>l++[x]
mutual
def namesA (acc:List Nat) (x:AC):List Nat:=match x with
  | .sref o _ _=>addN acc o
  | .ptr o _ _=>addN acc o
  | .mref o=>addN acc o
  | .fn _ a b=>z201 (z201 acc a) b
  | .agg cs=>z201 acc cs
  | .tup cs=>z201 acc cs
  | _=>acc
termination_by structural x
def z201 (acc:List Nat) (xs:List AC):List Nat:=match xs with
  | []=>acc
  | x::xs=>z201 (namesA acc x) xs
termination_by structural xs
end
def z162:Nat→Nat→List Nat
  | _,0=>[]
  | s,n+1=>s::z162 (s+1) n
theorem z1068 (h : CallsA P f args0 [] res objs1) (hb : borL st.objs [] (z201 [] (first ++ (args ++ caps))) (first ++ (args ++ caps)) = args0)
    (hf:allN (fun o=>z318 (st.objs o)) (z162 st.next objs1.length)=true) (hn:z189 (z162 st.next objs1.length++z201 [] (first++(args++caps)))=true) (hl:Nat.beq objs1.length (z162 st.next objs1.length).length=true) (hu:res.under objs1.length=true)
    (ho:ObjsRen objs1.length (z63 0 (z162 st.next objs1.length)) objs1 objs1') (hpl:z201 [] (first++(args++caps))=[]∨(res.plain=true∧PlainObjs objs1))
    (k:renK (z63 0 (z162 st.next objs1.length)) res fun res1=>K res1 (z196 st (z162 st.next objs1.length) objs1'++(z201 [] (first++(args++caps))).map st.rd)):z31 P st (.fn (.func f) first caps) args K :=
  z8 [] (z201 [] (first++(args++caps))) (z162 st.next objs1.length) h hb z4 rfl hf hn hl hu ho hpl k
end Go.Gl

namespace Go.Gl
open Go.Sort
variable {P:Program}
end Go.Gl

namespace Go.Gl
theorem z409 {α:Type} (f:α→Nat) {l:List α} {a:α} (h:a∈l):f a≤(l.map f).sum:=by
  induction l with
  | nil=>cases h
  | cons b l ih =>
    simp only [List.map_cons,List.sum_cons]
    cases h with
    | head=>omega
    | tail _ h=>have:=ih h;omega
inductive Tree where
  | mk (kind val:Int) (kids:List Tree)
def Tree.kind:Tree→Int | .mk k _ _=>k
def Tree.val:Tree→Int | .mk _ v _=>v
def Tree.kids:Tree→List Tree | .mk _ _ l=>l
mutual
def Tree.cs:Tree→List AC
  | .mk k v l=>[.int k,.int v,.list 3 l.length (Tree.css l)]
def Tree.css:List Tree→List (List AC)
  | []=>[]
  | t::l=>Tree.cs t::Tree.css l
end
mutual
def Tree.sz:Tree→Nat
  | .mk _ _ l=>Tree.szs l
def Tree.szs:List Tree→Nat
  | []=>0
  | t::l=>1+Tree.sz t+Tree.szs l
end
mutual
def Tree.mx:Tree→Prop
  | .mk _ _ l=>l.length≤maxLen∧Tree.mxs l
def Tree.mxs (l:List Tree):Prop:=match l with
  | []=>True
  | t::r=>Tree.mx t∧Tree.mxs r
end
theorem Tree.css_eq (l:List Tree):Tree.css l=l.map Tree.cs:=by
  induction l with
  | nil=>simp [Tree.css]
  | cons t l ih=>simp [Tree.css,ih]
def Tree.cs' (t:Tree):List AC:=[.int t.kind,.int t.val,.list 3 t.kids.length (t.kids.map Tree.cs)]
theorem Tree.cs_eq:Tree.cs=Tree.cs':=by
  funext t
  cases t with
  | mk k v l=>simp [Tree.cs,Tree.cs',Tree.css_eq,Tree.kind,Tree.val,Tree.kids]
theorem Tree.szs_eq (l:List Tree):Tree.szs l=l.length+(l.map Tree.sz).sum:=by
  induction l with
  | nil=>simp [Tree.szs]
  | cons t l ih=>simp [Tree.szs,ih];omega
theorem Tree.sz_eq (t:Tree):t.sz=t.kids.length+(t.kids.map Tree.sz).sum:=by
  cases t with
  | mk k v l=>simp only [Tree.sz,Tree.kids,Tree.szs_eq]
theorem Tree.mxs_iff (l:List Tree):Tree.mxs l↔∀ t∈l,t.mx:=by
  induction l with
  | nil=>simp [Tree.mxs]
  | cons t l ih=>simp [Tree.mxs,ih]
theorem Tree.mx_iff (t:Tree):t.mx↔t.kids.length≤maxLen∧∀ u∈t.kids,u.mx:=by
  cases t with
  | mk k v l=>simp only [Tree.mx,Tree.kids,Tree.mxs_iff]
theorem Tree.lst_eq (l:List Tree):AC.list 3 l.length (l.map Tree.cs)=AC.list 3 l.length (l.map Tree.cs'):=by rw [Tree.cs_eq]
noncomputable instance:DecidableEq Tree:=Classical.typeDecidableEq Tree
theorem Tree.ext {a b:Tree} (h1:a.kind=b.kind) (h2:a.val=b.val) (h3:a.kids=b.kids):a=b:=by
  cases a;cases b;simp_all [Tree.kind,Tree.val,Tree.kids]
theorem Tree.ind {p:Tree→Prop} (h:∀ t,(∀ u∈t.kids,p u)→p t) (t:Tree):p t :=
  Tree.rec (motive_1:=p) (motive_2:=fun l=>∀ u∈l,p u) (fun _ _ _ ih=>h _ ih) (fun _ h=>by cases h) (fun _ _ h1 h2 u hu=>by
    cases hu with
    | head=>exact h1
    | tail _ h=>exact h2 u h) t
end Go.Gl

namespace Go.Gl
variable {P:Program} {T:Tab}
inductive F2 {α β:Type} (R:α→β→Prop):List α→List β→Prop
  | nil:F2 R [] []
  | cons {x:α} {y:β} {xs:List α} {ys:List β} : R x y→F2 R xs ys→F2 R (x::xs) (y::ys)
theorem VL_le {xs ys:List AC} (h:F2 LocLe xs ys):∀ {G:Ghost} {hh:Nat→Option Obj} {l:Loc} {c:Array Value} {off:Nat},VL G hh l xs c off→VL G hh l ys c off:=by
  induction h with
  | nil=>intro G hh l c off _;simp [VL]
  | cons h1 _ ih =>
    intro G hh l c off hv
    simp only [VL] at hv ⊢
    obtain ⟨⟨v,hv1,hv2⟩,hv3⟩:=hv
    exact ⟨⟨v,hv1,h1 _ _ _ _ hv2⟩,ih hv3⟩
theorem z184 {α β:Type} {R:α→β→Prop} {xs:List α} {ys:List β} (h:F2 R xs ys):xs.length=ys.length:=by
  induction h with
  | nil=>rfl
  | cons _ _ ih=>simp [ih]
theorem VLL_le {w:Nat} {xs ys:List (List AC)} (h:F2 (F2 LocLe) xs ys):∀ {G:Ghost} {hh:Nat→Option Obj} {l:Loc} {c:Array Value} {off:Nat},VLL G hh l w xs c off→VLL G hh l w ys c off:=by
  induction h with
  | nil=>intro G hh l c off _;simp [VLL]
  | cons h1 _ ih =>
    intro G hh l c off hv
    simp only [VLL] at hv ⊢
    obtain ⟨hv1,hv2,hv3⟩:=hv
    exact ⟨by rw [← z184 h1,hv1],VL_le h1 hv2,ih hv3⟩
theorem LocLe.trans {x y z:AC} (h:LocLe x y) (k:LocLe y z):LocLe x z:=fun G hh l v hv=>k G hh l v (h G hh l v hv)
theorem LocLe.of_eq {x y:AC} (h:x=y):LocLe x y:=h ▸ LocLe.refl x
theorem z53 {w:Nat} : LocLe .nils (.list w 0 []):=fun G h l v hv=>by
  simp only [V] at hv ⊢
  exact ⟨none,0,hv,Nat.le_refl _,rfl,.inl trivial⟩
theorem z44 {xs ys:List AC} (h:F2 LocLe xs ys):LocLe (.agg xs) (.agg ys):=fun G hh l v hv=>by
  simp only [V] at hv ⊢
  obtain ⟨c,rfl,h1,h2⟩:=hv
  exact ⟨c,rfl,by rw [h1,z184 h],VL_le h h2⟩
theorem z95 {xs ys:List AC} (h:F2 LocLe xs ys):LocLe (.tup xs) (.tup ys):=fun G hh l v hv=>by
  simp only [V] at hv ⊢
  obtain ⟨c,rfl,h1,h2⟩:=hv
  exact ⟨c,rfl,by rw [h1,z184 h],VL_le h h2⟩
theorem z80 {w n n' : Nat} {xs ys:List (List AC)} (hn:n=n') (h:F2 (F2 LocLe) xs ys):LocLe (.list w n xs) (.list w n' ys):=fun G hh l v hv=>by
  subst hn
  simp only [V] at hv ⊢
  obtain ⟨a,cap,rfl,h1,h2,h3⟩:=hv
  refine ⟨a,cap,rfl,h1,by rw [← z184 h,h2],?_⟩
  rcases h3 with rfl|⟨b,off,c,el,fz,h4,h5,h6⟩
  · cases h;exact .inl rfl
  · exact .inr ⟨b,off,c,el,fz,h4,h5,VLL_le h h6⟩
theorem z267 (xs:List AC):F2 LocLe xs xs:=by
  induction xs with
  | nil=>exact .nil
  | cons x xs ih=>exact .cons (LocLe.refl x) ih
theorem z12 (xs:List (List AC)):F2 (F2 LocLe) xs xs:=by
  induction xs with
  | nil=>exact .nil
  | cons x xs ih=>exact .cons (z267 x) ih
theorem z29 {xs ys:List (List AC)} (h:xs=ys):F2 (F2 LocLe) xs ys:=h ▸ z12 xs
theorem node_le' {k v:Int} {x:AC} {l:List Tree} (h:LocLe x (.list 3 l.length (l.map Tree.cs))):F2 LocLe [.int k,.int v,x] (Tree.cs' (.mk k v l)) :=
  .cons (LocLe.refl _) (.cons (LocLe.refl _) (.cons h .nil))
def ObjLe:AObj→AObj→Prop
  | .cells w es,.cells w' es'=>w=w'∧F2 (F2 LocLe) es es'
  | .dead,.dead=>True
  | .mp d es,.mp d' es'=>d=d'∧es=es'
  | _,_=>False
theorem ObjLe.mk {w:Nat} {es es' : List (List AC)} (h:F2 (F2 LocLe) es es'):ObjLe (.cells w es) (.cells w es'):=⟨rfl,h⟩
theorem ObjLe.box {w:Nat} {e e' : List AC} (h:F2 LocLe e e'):ObjLe (.cells w [e]) (.cells w [e']):=⟨rfl,.cons h .nil⟩
theorem ObjRel.le {G:Ghost} {h:Nat→Option Obj} {o:Nat} {x y:AObj} (hl:ObjLe x y) (hx:ObjRel G h o x):ObjRel G h o y:=by
  cases x with
  | fresh=>exact hl.elim
  | mp d es =>
    cases y with
    | mp d' es'=>obtain ⟨rfl,rfl⟩:=hl;exact hx
    | _=>exact hl.elim
  | dead =>
    cases y with
    | dead=>exact hx
    | _=>exact hl.elim
  | cells w es =>
    cases y with
    | cells w' es' =>
      obtain ⟨rfl,hl⟩:=hl
      rcases hx with ⟨h1,h2⟩|⟨b,size,c,el,h1,h2,h3,h4,h5⟩
      · subst h1;cases hl;exact .inl ⟨rfl,h2⟩
      · exact .inr ⟨b,size,c,el,h1,h2,h3,h4,VLL_le hl h5⟩
    | _=>exact hl.elim
theorem Wf.le {G:Ghost} {objs objs' : List AObj} {w:World} (h:Wf G (z36 objs) w) (hl:F2 ObjLe objs objs'):Wf G (z36 objs') w:=by
  refine ⟨h.hS,h.hU,h.su,h.sk,fun o=>?_⟩
  have ho:=h.objs o
  have key:∀ {xs ys:List AObj} (k:Nat),F2 ObjLe xs ys→ObjLe (z36 xs k) (z36 ys k)∨z36 xs k=z36 ys k:=by
    intro xs ys k hf
    induction hf generalizing k with
    | nil=>exact .inr rfl
    | cons h1 _ ih =>
      cases k with
      | zero=>exact .inl h1
      | succ k=>exact ih k
  rcases key o hl with h1|h1
  · exact ObjRel.le h1 ho
  · show ObjRel G (hp w) o (z36 objs' o)
    rw [← h1];exact ho
theorem CallsA.arg {f:FuncId} {args args0:List AC} {objs objs' : List AObj} {res:AC} (h:CallsA P f args objs res objs') (hl:F2 LocLe args0 args):CallsA P f args0 objs res objs' :=
  ⟨h.1,fun G w vs hW hs hv=>h.2 G w vs hW (by rw [← z184 hl,hs]) (VL_le hl hv)⟩
theorem CallsA.res {f:FuncId} {args:List AC} {objs objs' : List AObj} {res res' : AC} (h:CallsA P f args objs res objs') (hl:LocLe res res'):CallsA P f args objs res' objs' :=
  ⟨h.1,fun G w vs hW hs hv=>(h.2 G w vs hW hs hv).mono fun e w' ⟨G',v,h1,h2,h3,h4,h5,h6⟩=>⟨G',v,h1,h2,h3,h4,h5,hl _ _ _ _ h6⟩⟩
def RetS (m:Nat) (o:Nat→AObj) (res:AC) (objs' : List AObj) (r:AC):Prop :=
  ∀ (G:Ghost) (w:World) (v:Value),Wf G o w→V G (hp w) none r v→∃ G',SubM m G G'∧Wf G' (z36 objs') w∧V G' (hp w) none res v
theorem RetS.of {m:Nat} {st:St} {res:AC} {objs' : List AObj} {r:AC} (h:z48 m st res objs' r):RetS m st.objs res objs' r:=fun G w v hW hV=>by
  obtain ⟨π,hn,hf,hu,hr,ho⟩:=h
  obtain ⟨ho1,ho2⟩:=z260 0 π objs' ho
  have hpick:Wf (G.pick π) (z36 objs') w:=hW.pick hn (fun i o hio=>⟨(ho2 i o hio).2,(ho2 i o hio).1⟩) (fun i hi=>z61 (by omega))
  exact ⟨G.pick π,SubM.pick (fun i hi=>by have:=z136 m 0 π hf i hi;simpa using this),hpick,z773 _ hu (hr _ _ _ hV)⟩
theorem RetS.lay (π Bn : List Nat) {m : Nat} {o : Nat → AObj} {res : AC} {objs' : List AObj} {r : AC} (hn : z189 (π ++ Bn) = true) (ha : allN (fun x => z165 (o x)) π = true) (hf : z239 m 0 π = true)
    (h:RetS m (z36 (π.map (z79 o π Bn))) res objs' (bor o π Bn r)):RetS m o res objs' r:=fun G w v hW hV=>by
  have hnd:=z152 hn
  obtain ⟨k1,k2,k3,k4⟩:=z339 (π:=π) (Bn:=Bn) hW (List.nodup_append.1 hnd).1 (fun o ho hb=>(List.nodup_append.1 hnd).2.2 o ho o hb rfl) (z223 ha)
  obtain ⟨G',h1,h2,h3⟩:=h _ w v k1 (k4 _ _ hV)
  refine ⟨G',SubM.trans ⟨k2,fun o t ho e=>?_⟩ h1,h2,h3⟩
  have:=z136 m 0 π hf o ho
  rw [Nat.zero_add] at this
  exact k3 o o t (z181 (List.nodup_append.1 hnd).1 this) e
theorem RetS.done {m:Nat} {objs objs' : List AObj} {res r:AC} (h1:LocLe r res) (h2:F2 ObjLe objs objs'):RetS m (z36 objs) res objs' r:=fun G w v hW hV =>
  ⟨G,SubM.refl m G,hW.le h2,h1 _ _ _ _ hV⟩
def RetSQ (T:Tab) (rs:List ResultVar) (m:Nat) (res:AC) (objs' : List AObj) (ex:Exit) (st:St):Prop:=match ex with
  | .normal=>z370 T st rs fun xs=>RetS m st.objs res objs' (z295 xs)
  | .ret=>z370 T st rs fun xs=>RetS m st.objs res objs' (z295 xs)
  | _=>False
theorem rets_ok (hT : z113 P T) {fn : Func} {m : Nat} {res : AC} {objs' : List AObj} {G : Ghost} {st : St} {a : Act} {w : World} (hR : Rel G st a w) (h : z370 T st fn.results.toList fun xs => RetS m st.objs res objs' (z295 xs)) :
    ∃ v G',(results fn a.tmps).run P w=.ok v w∧SubM m G G'∧Wf G' (z36 objs') w∧V G' (hp w) none res v:=by
  obtain ⟨xs,vs,h1,h2,h3,_,h4⟩:=z993 hT hR _ _ h
  have hres:(results fn a.tmps).run P w=.ok (if h:vs.toArray.size=1 then vs.toArray[0] else .tuple vs.toArray) w:=by
    rw [z380,Array.mapM_eq_mapM_toList]
    simp [h1]
  have hV:V G (hp w) none (z295 xs) (if h:vs.toArray.size=1 then vs.toArray[0] else .tuple vs.toArray):=by
    by_cases hl:vs.length=1
    · obtain ⟨v,rfl⟩:=List.length_eq_one_iff.1 hl
      obtain ⟨x,rfl⟩:=List.length_eq_one_iff.1 (h2 ▸ hl)
      obtain ⟨v',hv1,hv2⟩:=h3 0 x (by simp)
      simp at hv1;subst hv1
      simpa [z295] using hv2
    · rw [dif_neg (by simpa using hl)]
      have:z295 xs=.tup xs:=by
        unfold z295
        split
        · simp at h2;exact absurd h2 hl
        · rfl
      rw [this]
      simp only [V]
      refine ⟨_,rfl,by simp [h2],z58.2 fun j x hx=>?_⟩
      obtain ⟨v,hv1,hv2⟩:=h3 j x hx
      exact ⟨v,by simpa using hv1,hv2⟩
  obtain ⟨G',h5,h6,h7⟩:=h4 G w _ hR.wf hV
  exact ⟨_,G',hres,h5,h6,h7⟩
theorem z10 (hT : z113 P T) {f : FuncId} {fn : Func} {c : Code} (hf : P.funcs[f]? = some fn) (hb : fn.body = some c) (hn : (fn.name == "runtime.NumGoroutine") = false) {args : List AC} {objs : List AObj} {res : AC} {objs' : List AObj}
    (n:Nat) (hnt:fn.ntmps=n) (hl:args.length≤n) (h:AWP P objs.length c (RetSQ T fn.results.toList objs.length res objs') (mkSt n (z155 0 args) objs)):CallsA P f args objs res objs':=by
  subst hnt
  refine ⟨⟨fn,c,hf,hn,hb⟩,fun G w vs hW hs hv=>?_⟩
  refine z412 hf hb (z167 (h G.split { tmps:=vs++Array.replicate (fn.ntmps - vs.size) undef,defers:=[] } w ⟨hW.split,fun s=>z399 (G:=G) (fun _ _ _ _ e=>z374 e) (fun _ _ e=>e) (h:=hp w) (h':=hp w) ?_,by show _=fn.ntmps;simp;omega,Marks.nil _⟩) fun ex a' w' hq=>?_)
  · show V G (hp w) none (z81 (z155 0 args) s) _
    rw [z316]
    by_cases hsl:s < args.length
    · have hx:args[s]?=some args[s]:=List.getElem?_eq_getElem hsl
      obtain ⟨v,hv1,hv2⟩:=z58.1 hv s _ hx
      rw [Nat.zero_add] at hv1
      rw [z55 hx]
      have:(vs++Array.replicate (fn.ntmps - vs.size) undef).getD s undef=v:=by
        rw [Array.getD_eq_getD_getElem?,Array.getElem?_append,if_pos (by omega),hv1];rfl
      rw [this];exact hv2
    · rw [z61 (by omega)];simp [V]
  · obtain ⟨G',st',h1,h2,h3,h4⟩:=hq
    obtain ⟨Ds,d1,d2,d3,d4,d5,d6⟩:=z482 hW h1.1 h4
    have h1' : SubM objs.length G (G.join G' Ds):=⟨d4,fun o t ho e=>by rw [d5];exact h1.2 o t ho e⟩
    have key:(z370 T st' fn.results.toList fun xs=>RetS objs.length st'.objs res objs' (z295 xs))→LeavesInM Fence.wide 0 P fn a'.tmps (fun e w'=>∃ G'' v',e=.returned v'∧G.Sub G''∧(∀ o t,o < objs.length→G.ι o=some t→G''.ι o=some t)∧Le w w'∧Wf G'' (z36 objs') w'∧V G'' (hp w') none res v') a'.defers .returning w':=by
      intro hr
      obtain ⟨v,G'',h5,h6,h7,h8⟩:=rets_ok hT d6 hr
      have h9:=h1'.trans h6
      rw [d1]
      exact z263 Ds w' d2 d3 ⟨v,h5,G'',v,rfl,h9.1,h9.2,h2.trans (z577 Ds w'),h7,h8⟩
    cases ex with
    | normal=>exact key h3
    | ret=>exact key h3
    | _=>exact h3.elim
def envLe (f:Nat→AC):List (Nat×AC)→Prop
  | []=>True
  | (s,x)::r=>LocLe (f s) x∧envLe f r
theorem z920 {f:Nat→AC} {env:List (Nat×AC)} (h:envLe f env) (s:Nat):LocLe (f s) (z81 env s):=by
  induction env with
  | nil=>exact fun G hh l v _=>by simp [z81,V]
  | cons y env ih =>
    obtain ⟨s',x⟩:=y
    obtain ⟨h1,h2⟩:=h
    simp only [z81]
    cases hb:Nat.beq s s' with
    | true=>rw [Nat.eq_of_beq_eq_true hb];exact h1
    | false=>exact ih h2
theorem SealW.reach (π Bn : List Nat) {m n : Nat} {st : St} {env : List (Nat × AC)} {objs : List AObj} (hst : st.n = n) (hn : z189 (π ++ Bn) = true) (ha : allN (fun x => z165 (st.objs x)) π = true) (hf : z239 m 0 π = true)
    (he:envLe (fun s=>bor st.objs π Bn (st.env s)) env) (ho:F2 ObjLe (π.map (z79 st.objs π Bn)) objs):Reach m st (mkSt n env objs):=fun G a w hR=>by
  have hnd:=z152 hn
  obtain ⟨k1,k2,k3,k4⟩:=z339 (π:=π) (Bn:=Bn) hR.wf (List.nodup_append.1 hnd).1 (fun o ho hb=>(List.nodup_append.1 hnd).2.2 o ho o hb rfl) (z223 ha)
  refine ⟨_,⟨k2,fun o t ho e=>?_⟩,⟨k1.le ho,fun s=>?_,by rw [hR.size,hst];rfl,hR.defers.mono k2.S⟩⟩
  · have:=z136 m 0 π hf o ho
    rw [Nat.zero_add] at this
    exact k3 o o t (z181 (List.nodup_append.1 hnd).1 this) e
  · exact z920 he s _ _ _ _ (k4 _ _ (hR.env s))
theorem z46 {q:Nat} : LocLe .nils (.sref q 0 0):=fun G h l v hv=>by
  simp only [V] at hv ⊢
  exact ⟨0,Nat.le_refl _,.inl ⟨rfl,none,hv⟩⟩
theorem Reach.empty (w:Nat) {m n:Nat} {env:List (Nat×AC)} {objs:List AObj} (_hm:Nat.ble m objs.length=true):Reach m (mkSt n env objs) (mkSt n env (objs++[.cells w []])):=fun G a wd hR=>by
  refine ⟨G,SubM.refl m G,⟨⟨hR.wf.hS,hR.wf.hU,hR.wf.su,hR.wf.sk,fun o=>?_⟩,hR.env,hR.size,hR.defers⟩⟩
  show ObjRel G (hp wd) o (z63 .fresh (objs++[.cells w []]) o)
  have ho:ObjRel G (hp wd) o (z63 .fresh objs o):=hR.wf.objs o
  rcases Nat.lt_trichotomy o objs.length with h|h|h
  · have h1:(objs++[AObj.cells w []])[o]?=some objs[o]:=by rw [List.getElem?_append_left h,List.getElem?_eq_getElem h]
    rw [z55 h1]
    rwa [z55 (List.getElem?_eq_getElem h)] at ho
  · subst h
    rw [z55 (x:=AObj.cells w []) (by simp)]
    rw [z61 (Nat.le_refl _)] at ho
    exact .inl ⟨rfl,ho⟩
  · rw [z61 (by simp;omega)]
    rwa [z61 (by omega)] at ho
def z57 {α:Type} (I:α→List (Nat×AC)×List AObj) (ok:α→Prop) (μ:α→Nat) (x:α) (m n:Nat) (st:St):Prop:=∃ y,ok y∧μ y < μ x∧Reach m st (mkSt n (I y).1 (I y).2)
theorem z23 {α:Type} {I:α→List (Nat×AC)×List AObj} {ok:α→Prop} {μ:α→Nat} {x:α} {m n:Nat} {st:St} (y:α) (h1:ok y) (h2:μ y < μ x) (h3:Reach m st (mkSt n (I y).1 (I y).2)):z57 I ok μ x m n st:=⟨y,h1,h2,h3⟩
theorem z64 {α : Type} {m n : Nat} {env : List (Nat × AC)} {objs : List AObj} {body : Code} {Q : Exit → St → Prop} (I : α → List (Nat × AC) × List AObj) (ok : α → Prop) (μ : α → Nat) (x0 : α) (h0 : ok x0) (hinit : Reach m (mkSt n env objs) (mkSt n (I x0).1 (I x0).2))
    (round:∀ x,ok x→AWP P m body (z452 (fun st'=>z57 I ok μ x m n st') Q) (mkSt n (I x).1 (I x).2)):AWP P m (.loop body) Q (mkSt n env objs):=z1077 I ok μ x0 h0 hinit round
theorem z13 {objs:Nat→AObj} {π Bn:List Nat} {o w:Nat} {es es' : List (List AC)} (ho:objs o=.cells w es) (hf:Flat es) (h:F2 (F2 LocLe) es es'):ObjLe (z79 objs π Bn o) (.cells w es'):=by
  rw [z86 ho hf];exact ⟨rfl,h⟩
theorem z41 {α:Type} {f:α→List AC} (h:∀ a,z246 (f a)=f a) (l:List α):z66 (l.map f)=l.map f:=by
  induction l with
  | nil=>rfl
  | cons a l ih=>simp only [List.map_cons,z66,h a,ih]
theorem z22 {a:List (List AC)} (h:Flat a) (n:Nat):Flat (a.take n):=fun e he=>h e (List.mem_of_mem_take he)
theorem z1050 {a:List (List AC)} (h:Flat a) (n:Nat) {e:List AC} (he:z322 e=true):Flat (a.set n e):=fun x hx=>by
  rcases List.mem_or_eq_of_mem_set hx with h1|rfl
  · exact h x h1
  · exact he
theorem z104 {α:Type} {f:α→List AC} {l:List α} {k n:Nat} {e:List AC} (hn:n=k) (hk:k < l.length) (he:F2 LocLe e (f (l[k]'hk))):F2 (F2 LocLe) (((l.take k).map f).take n++[e]) ((l.take (k+1)).map f):=by
  subst hn
  rw [List.take_succ_eq_append_getElem hk,List.map_append,List.take_of_length_le (by simp;omega)]
  have:∀ (a:List (List AC)) {b c:List AC},F2 LocLe b c→F2 (F2 LocLe) (a++[b]) (a++[c]):=fun a b c h=>by
    induction a with
    | nil=>exact .cons h .nil
    | cons x a ih=>exact .cons (z267 x) ih
  exact this _ he
theorem z96 {a b:Int} (h:a=b):LocLe (.int a) (.int b):=h ▸ LocLe.refl _
theorem end_le {α:Type} {w k:Nat} {f:α→List AC} {l:List α} (h:k=l.length):LocLe (.list w k ((l.take k).map f)) (.list w l.length (l.map f)):=by
  subst h;rw [List.take_length];exact LocLe.refl _
theorem z491 {k:Nat} {l:List Tree} (h:k=l.length):LocLe (.list 3 k ((l.take k).map Tree.cs')) (.list 3 l.length (l.map Tree.cs)):=by
  rw [Tree.cs_eq];exact end_le h
theorem z355 {l:List Tree} : F2 (F2 LocLe) (l.map Tree.cs') (l.map Tree.cs):=by rw [Tree.cs_eq];exact z12 _
theorem Wf.empty {G:Ghost} {objs:List AObj} {wd:World} (w:Nat) (h:Wf G (z36 objs) wd):Wf G (z36 (objs++[.cells w []])) wd:=by
  refine ⟨h.hS,h.hU,h.su,h.sk,fun o=>?_⟩
  show ObjRel G (hp wd) o (z63 .fresh (objs++[.cells w []]) o)
  have ho:ObjRel G (hp wd) o (z63 .fresh objs o):=h.objs o
  rcases Nat.lt_trichotomy o objs.length with h|h|h
  · have h1:(objs++[AObj.cells w []])[o]?=some objs[o]:=by rw [List.getElem?_append_left h,List.getElem?_eq_getElem h]
    rw [z55 h1]
    rwa [z55 (List.getElem?_eq_getElem h)] at ho
  · subst h
    rw [z55 (x:=AObj.cells w []) (by simp)]
    rw [z61 (Nat.le_refl _)] at ho
    exact .inl ⟨rfl,ho⟩
  · rw [z61 (by simp;omega)]
    rwa [z61 (by omega)] at ho
theorem RetS.empty (w:Nat) {m:Nat} {objs:List AObj} {res:AC} {objs' : List AObj} {r:AC} (h:RetS m (z36 (objs++[.cells w []])) res objs' r):RetS m (z36 objs) res objs' r:=fun G wd v hW hV=>h G wd v (hW.empty w) hV
theorem CallsA.settle {f : FuncId} {args : List AC} {objs objs1 objs2 : List AObj} {res res2 : AC} (h : CallsA P f args objs res objs1) (π Bn : List Nat) (hn : z189 (π ++ Bn) = true) (ha : allN (fun o => z165 (z36 objs1 o)) π = true)
    (hf:z239 objs.length 0 π=true) (hr:LocLe (bor (z36 objs1) π Bn res) res2) (ho:F2 ObjLe (π.map (z79 (z36 objs1) π Bn)) objs2):CallsA P f args objs res2 objs2:=by
  refine ⟨h.1,fun G w vs hW hs hv=>(h.2 G w vs hW hs hv).mono ?_⟩
  rintro e w' ⟨G',v,rfl,h1,h2,h3,h4,h5⟩
  have hnd:=z152 hn
  obtain ⟨k1,k2,k3,k4⟩:=z339 (π:=π) (Bn:=Bn) h4 (List.nodup_append.1 hnd).1 (fun o ho hb=>(List.nodup_append.1 hnd).2.2 o ho o hb rfl) (z223 ha)
  refine ⟨_,v,rfl,h1.trans k2,fun o t ho e=>?_,h3,k1.le ho,hr _ _ _ _ (k4 _ _ h5)⟩
  have:=z136 objs.length 0 π hf o ho
  rw [Nat.zero_add] at this
  exact k3 o o t (z181 (List.nodup_append.1 hnd).1 this) (h2 o t ho e)
theorem nils_of {l:List Tree} (h:l=[]):LocLe .nils (.list 3 l.length (l.map Tree.cs)):=by subst h;exact z53
theorem z262 {α:Type} {w n:Nat} {f:α→List AC} {l:List α} (h:n=l.length):LocLe (.list w n (l.map f)) (.list w l.length (l.map f)):=by subst h;exact LocLe.refl _
def borX (objs:Nat→AObj) (π Bn:List Nat) (x:AC):AC:=match x with
  | .own w' es'=>.own w' es'
  | x=>bor objs π Bn x
theorem z345 {objs:Nat→AObj} {π Bn:List Nat} {o w:Nat} {es:List (List AC)} (ho:objs o=.cells w es):z79 objs π Bn o=.cells w (es.map (·.map (borX objs π Bn))):=by
  simp only [z79,ho];rfl
theorem z722 {objs:Nat→AObj} {π Bn:List Nat} {es:List (List AC)} (h:Flat es):es.map (·.map (borX objs π Bn))=es:=by
  have:=z86 (objs:=fun _=>.cells 0 es) (π:=π) (Bn:=Bn) (o:=0) rfl h
  conv=>rhs;rw [← List.map_id es]
  refine List.map_congr_left fun e he=>?_
  conv=>rhs;rw [id,← List.map_id e]
  refine List.map_congr_left fun x hx=>?_
  have:=z217.1 (h e he) x hx
  cases x<;>first|rfl|simp [AC.flat] at this
theorem z35 {objs:Nat→AObj} {π Bn:List Nat} {o w:Nat} {A L:List (List AC)} {e:List AC} (ho:objs o=.cells w (A++[e])) (hf:Flat A) (h:F2 (F2 LocLe) (A++[e.map (borX objs π Bn)]) L):ObjLe (z79 objs π Bn o) (.cells w L):=by
  rw [z345 ho,List.map_append,z722 hf]
  exact ⟨rfl,h⟩
theorem z42 {objs:Nat→AObj} {π Bn:List Nat} {o w i:Nat} {A L:List (List AC)} {e:List AC} (ho:objs o=.cells w (A.set i e)) (hf:Flat A) (h:F2 (F2 LocLe) (A.set i (e.map (borX objs π Bn))) L):ObjLe (z79 objs π Bn o) (.cells w L):=by
  rw [z345 ho,List.map_set,z722 hf]
  exact ⟨rfl,h⟩
theorem z620 {A:List (List AC)} {x y:List AC} {k:Nat} (hk:A.length=k) (hA:Flat A) (hy:z322 y=true):Flat ((A++[x]).set k y):=by
  subst hk
  intro e he
  rw [List.set_append_right _ _ (Nat.le_refl _)] at he
  simp only [Nat.sub_self,List.set_cons_zero,List.mem_append,List.mem_singleton] at he
  rcases he with h|rfl
  · exact hA e h
  · exact hy
theorem z761 {A L:List (List AC)} {x y:List AC} {k:Nat} (hk:A.length=k) (h:F2 (F2 LocLe) (A++[y]) L):F2 (F2 LocLe) ((A++[x]).set k y) L:=by
  subst hk
  rw [List.set_append_right _ _ (Nat.le_refl _)]
  simpa using h
theorem z45 {objs:Nat→AObj} {π Bn:List Nat} {o w n:Nat} {es L:List (List AC)} {y:AC} (h1:idx π o=none) (h2:inB Bn o=true) (ho:objs o=.cells w es) (hu:z66 es=L) (hl:es.length=n) (h:LocLe (.list w n L) y):LocLe (bor objs π Bn (.sref o 0 n)) y:=by
  rw [z292 ho h1 h2 hl,hu];exact h
theorem z176 {a b a' b' : List (List AC)} (h:z66 a=a') (k:z66 b=b'):z66 (a++b)=a'++b':=by
  subst h k
  induction a with
  | nil=>rfl
  | cons e a ih=>simp only [List.cons_append,z66,ih]
theorem z278 {a a' : List (List AC)} (h:z66 a=a') (n:Nat):z66 (a.take n)=a'.take n:=by
  subst h
  induction a generalizing n with
  | nil=>simp [z66]
  | cons e a ih =>
    cases n with
    | zero=>rfl
    | succ n=>simp only [List.take_succ_cons,z66,ih]
theorem z822 {a a' : List (List AC)} (h:z66 a=a') (n:Nat) (e:List AC):z66 (a.set n e)=a'.set n (z246 e):=by
  subst h
  induction a generalizing n with
  | nil=>simp [z66]
  | cons x a ih =>
    cases n with
    | zero=>rfl
    | succ n=>simp only [List.set_cons_succ,z66,ih]
theorem z188 {α:Type} {f:α→List AC} {l:List α} {i j:Nat} {e:List AC} {x:α} (hj:j=i) (he:F2 LocLe e (f x)):F2 (F2 LocLe) ((l.map f).set j e) ((l.set i x).map f):=by
  subst hj
  rw [List.map_set]
  have:∀ (l:List (List AC)) (j:Nat) {e e' : List AC},F2 LocLe e e'→F2 (F2 LocLe) (l.set j e) (l.set j e'):=fun l=>by
    induction l with
    | nil=>intro j _ _ _;exact .nil
    | cons x l ih =>
      intro j e e' h
      cases j with
      | zero=>exact .cons h (z12 _)
      | succ j=>exact .cons (z267 _) (ih j h)
  exact this _ _ he
theorem z70 {α:Type} {f:α→List AC} {l:List α} {n:Nat} {e:List AC} {x:α} (hn:l.length≤n) (he:F2 LocLe e (f x)):F2 (F2 LocLe) ((l.map f).take n++[e]) ((l++[x]).map f):=by
  rw [List.take_of_length_le (by simpa using hn),List.map_append]
  have:∀ (a:List (List AC)) {b c:List AC},F2 LocLe b c→F2 (F2 LocLe) (a++[b]) (a++[c]):=fun a b c h=>by
    induction a with
    | nil=>exact .cons h .nil
    | cons x a ih=>exact .cons (z267 x) ih
  exact this _ he
theorem RetS.mid (π Bn : List Nat) (objs1 : List AObj) (r1 : AC) {m : Nat} {o : Nat → AObj} {res : AC} {objs' : List AObj} {r : AC} (hn : z189 (π ++ Bn) = true) (ha : allN (fun x => z165 (o x)) π = true) (hf : z239 m 0 π = true)
    (hr:LocLe (bor o π Bn r) r1) (ho:F2 ObjLe (π.map (z79 o π Bn)) objs1) (h:RetS m (z36 objs1) res objs' r1):RetS m o res objs' r :=
  RetS.lay π Bn hn ha hf fun G w v hW hV=>h G w v (hW.le ho) (hr _ _ _ _ hV)
theorem z854 (a:List (List AC)) {b c:List AC} (h:F2 LocLe b c):F2 (F2 LocLe) (a++[b]) (a++[c]):=by
  induction a with
  | nil=>exact .cons h .nil
  | cons x a ih=>exact .cons (z267 x) ih
theorem app2_le {A:List (List AC)} {n:Nat} {e e' : List AC} (hn:A.length≤n) (h:F2 LocLe e e'):F2 (F2 LocLe) (A.take n++[e]) (A++[e']):=by
  rw [List.take_of_length_le hn];exact z854 A h
theorem app3_le {α:Type} {f:α→List AC} {l:List α} {e:List AC} {x:α} (h:F2 LocLe e (f x)):F2 (F2 LocLe) (l.map f++[e]) ((l++[x]).map f):=by
  rw [List.map_append];exact z854 _ h
theorem z996 {objs:Nat→AObj} {π Bn:List Nat} {o w i j:Nat} {A L:List (List AC)} {e x:List AC} (ho:objs o=.cells w ((A.set i x).set j e)) (hj:j=i) (hf:Flat A) (h:F2 (F2 LocLe) (A.set i (e.map (borX objs π Bn))) L):ObjLe (z79 objs π Bn o) (.cells w L):=by
  subst hj
  rw [List.set_set] at ho
  exact z42 ho hf h
theorem set2_le {A:List (List AC)} {i j:Nat} {e e' : List AC} (hj:j=i) (he:F2 LocLe e e'):F2 (F2 LocLe) (A.set j e) (A.set i e'):=by
  subst hj
  induction A generalizing j with
  | nil=>exact .nil
  | cons x l ih =>
    cases j with
    | zero=>exact .cons he (z12 _)
    | succ j=>exact .cons (z267 _) ih
theorem z39 {o n n' : Nat} (h:n=n'):LocLe (.sref o 0 n) (.sref o 0 n'):=h ▸ LocLe.refl _
theorem appL_le {α:Type} {f:α→List AC} {l l2:List α} {n:Nat} (hn:l.length≤n):F2 (F2 LocLe) ((l.map f).take n++l2.map f) ((l++l2).map f):=by
  rw [List.take_of_length_le (by simpa using hn),List.map_append];exact z12 _
def cat {α:Type} (n:Nat) (f:Nat→List α):List α:=(List.range n).flatMap f
theorem z861 {α:Type} (f:Nat→List α):cat 0 f=[]:=rfl
theorem z361 {α:Type} (n:Nat) (f:Nat→List α):cat (n+1) f=cat n f++f n:=by
  unfold cat;rw [List.range_succ,List.flatMap_append];simp
theorem z605 {α:Type} {n:Nat} {f:Nat→List α} {x:α} (h:x∈cat n f):∃ i,i < n∧x∈f i:=by
  unfold cat at h
  obtain ⟨i,hi,hx⟩:=List.mem_flatMap.1 h
  exact ⟨i,List.mem_range.1 hi,hx⟩
theorem z630 {α:Type} {n c:Nat} {f:Nat→List α} (h:∀ i,i < n→(f i).length≤c):(cat n f).length≤n * c:=by
  induction n with
  | zero=>simp [cat]
  | succ n ih =>
    rw [z361,List.length_append,Nat.add_mul]
    have:=ih fun i hi=>h i (by omega)
    have:=h n (by omega)
    omega
theorem z75 {objs:Nat→AObj} {π Bn:List Nat} {o w n:Nat} {es L:List (List AC)} {y:AC} (h1:idx π o=none) (h2:inB Bn o=true) (ho:objs o=.cells w es) (hu:z66 es=L) (hl:es.length=n) (h:LocLe (.list w n L) y):LocLe (borX objs π Bn (.sref o 0 n)) y:=z45 h1 h2 ho hu hl h
end Go.Gl

namespace Go.Gl
def build (N:Nat) (ps:List (Nat×Int)):List (List Int):=(List.range N).map fun r=>(ps.filter (fun p=>p.1 == r)).map (·.2)
theorem z83 (N:Nat) (ps:List (Nat×Int)):(build N ps).length=N:=by simp [build]
theorem z504 {N:Nat} {ps:List (Nat×Int)} {i:Nat} (h:i < (build N ps).length):(build N ps)[i]=(ps.filter (fun p=>p.1 == i)).map (·.2):=by
  simp [build]
theorem z930 {N:Nat} {ps:List (Nat×Int)} {i:Nat} {v:Int} (h:i < (build N ps).length):build N (ps++[(i,v)])=(build N ps).set i ((build N ps)[i]++[v]):=by
  apply List.ext_getElem (by simp [build])
  intro j h1 h2
  rw [List.getElem_set]
  simp only [z504]
  by_cases hj:i=j
  · subst hj;rw [if_pos rfl];simp
  · rw [if_neg hj];simp [hj]
theorem z1070 (N:Nat):build N []=List.replicate N []:=by
  apply List.ext_getElem (by simp [build])
  intro j h1 h2
  simp [z504]
def ownRow (r:List Int):List AC:=[.own 1 (r.map fun n=>[AC.raw (.int .i64 n)])]
theorem z986 {N : Nat} {ps : List (Nat × Int)} {i : Nat} {v : Int} {a b : List AC} (h : i < (build N ps).length) :
    ((((build N ps).map ownRow).set i a).set i b).set i (ownRow ((build N ps)[i]++[v]))=(build N (ps++[(i,v)])).map ownRow:=by
  rw [List.set_set,List.set_set,z930 h,List.map_set]
theorem rows_push' {N : Nat} {ps : List (Nat × Int)} {i n len : Nat} {v : Int} {a b : List AC} (h : i < (build N ps).length) (hn : n = i) (hl : len = (build N ps)[i].length) :
    ((((build N ps).map ownRow).set i a).set n b).set i [.own 1 ((((build N ps)[i].map fun n=>[AC.raw (.int .i64 n)]).take len)++[[AC.raw (.int .i64 v)]])]=(build N (ps++[(i,v)])).map ownRow:=by
  subst hn hl
  rw [← z986 h (a:=a) (b:=b)]
  congr 1
  simp only [ownRow]
  rw [List.take_of_length_le (by simp),List.map_append]
  rfl
theorem z1041 {es:List (List AC)} {i n:Nat} {r:List AC} (h:n=i) (hi:i < es.length):(es.set n r)[i]?=some r:=by
  subst h;exact List.getElem?_set_self hi
theorem z238 {α β:Type} {f:α→List β} {c:Nat} : ∀ (l:List α),(∀ x∈l,(f x).length≤c)→(l.flatMap f).length≤l.length * c:=by
  intro l
  induction l with
  | nil=>intro _;simp
  | cons x l ih =>
    intro h
    have h1:=h x (by simp)
    have h2:=ih fun y hy=>h y (by simp [hy])
    rw [List.flatMap_cons,List.length_append,List.length_cons,Nat.add_mul]
    omega
theorem z559 {α β:Type} {f g:α→List β} : ∀ {l:List α},(∀ x∈l,f x=g x)→l.flatMap f=l.flatMap g:=by
  intro l
  induction l with
  | nil=>intro _;rfl
  | cons x l ih =>
    intro h
    rw [List.flatMap_cons,List.flatMap_cons,h x (by simp),ih fun y hy=>h y (by simp [hy])]
theorem z273 {N:Nat} {ps:List (Nat×Int)} {i:Nat} (h:i < (build N ps).length):(build N ps)[i].length≤ps.length:=by
  rw [z504,List.length_map]
  exact List.length_filter_le _ _
theorem z834 (N:Nat):(build N []).map ownRow=List.replicate N [.own 1 []]:=by
  rw [z1070,List.map_replicate];rfl
theorem z19 {α:Type} {l:List α} {i:Nat} {d:α} (h:i < l.length):l.getD i d=l[i]:=by
  rw [List.getD_eq_getElem?_getD,List.getElem?_eq_getElem h];rfl
theorem z128 {a b A B:Int} (h1:0≤a) (h2:a≤A) (h3:0≤b) (h4:b≤B):0≤a * b∧a * b≤A * B :=
  ⟨Int.mul_nonneg h1 h3,Int.mul_le_mul h2 h4 h3 (by omega)⟩
theorem z163 {α β:Type} (f:α→List β) (l:List α) (k:Nat) (h:k < l.length):(l.drop k).flatMap f=f l[k]++(l.drop (k+1)).flatMap f:=by
  rw [List.drop_eq_getElem_cons h,List.flatMap_cons]
theorem z107 {α β:Type} (f:α→List β) (l:List α) (k:Nat) (h:l.length≤k):(l.drop k).flatMap f=[]:=by
  rw [List.drop_eq_nil_of_le h];rfl
section gen
variable {α:Type}
def z103 (N:Nat) (ps:List (Nat×α)):List (List α):=(List.range N).map fun r=>(ps.filter (fun p=>p.1 == r)).map (·.2)
theorem z143 (N:Nat) (ps:List (Nat×α)):(z103 N ps).length=N:=by simp [z103]
theorem z291 {N:Nat} {ps:List (Nat×α)} {i:Nat} (h:i < (z103 N ps).length):(z103 N ps)[i]=(ps.filter (fun p=>p.1 == i)).map (·.2):=by
  simp [z103]
theorem z807 {N:Nat} {ps:List (Nat×α)} {i:Nat} {v:α} (h:i < (z103 N ps).length):z103 N (ps++[(i,v)])=(z103 N ps).set i ((z103 N ps)[i]++[v]):=by
  apply List.ext_getElem (by simp [z103])
  intro j h1 h2
  rw [List.getElem_set]
  simp only [z291]
  by_cases hj:i=j
  · subst hj;rw [if_pos rfl];simp
  · rw [if_neg hj];simp [hj]
theorem z931 (N:Nat):z103 N ([]:List (Nat×α))=List.replicate N []:=by
  apply List.ext_getElem (by simp [z103])
  intro j h1 h2
  simp [z291]
def ownG (w:Nat) (f:α→List AC) (r:List α):List AC:=[.own w (r.map f)]
theorem z890 {w : Nat} {f : α → List AC} {N : Nat} {ps : List (Nat × α)} {i n len : Nat} {v : α} {a b e : List AC} (h : i < (z103 N ps).length) (hn : n = i) (hl : len = (z103 N ps)[i].length) (he : e = f v) :
    ((((z103 N ps).map (ownG w f)).set i a).set n b).set i [.own w ((((z103 N ps)[i].map f).take len)++[e])]=(z103 N (ps++[(i,v)])).map (ownG w f):=by
  subst hn hl he
  rw [List.set_set,List.set_set,z807 h,List.map_set]
  congr 1
  simp only [ownG]
  rw [List.take_of_length_le (by simp),List.map_append]
  rfl
theorem z987 (w:Nat) (f:α→List AC) (N:Nat):(z103 N []).map (ownG w f)=List.replicate N [.own w []]:=by
  rw [z931,List.map_replicate];rfl
theorem z632 {N:Nat} {ps:List (Nat×α)} {i:Nat} (h:i < (z103 N ps).length):(z103 N ps)[i].length≤ps.length:=by
  rw [z291,List.length_map]
  exact List.length_filter_le _ _
theorem z767 {w:Nat} {f:α→List AC} (hf:∀ a,∀ x∈f a,x.unown=x) (l:List (List α)):z66 (l.map (ownG w f))=l.map fun r=>[AC.list w r.length (r.map f)]:=by
  rw [z171,List.map_map]
  refine List.map_congr_left fun r _=>?_
  show [AC.list w _ (z66 _)]=_
  rw [z450 hf]
  simp
end gen
end Go.Gl

namespace Go.Gl
def z300 (k:Int):Int:=if k=1∨k=2 then 0 else if k=3 then 1 else if 4≤k∧k≤9 then 2 else -1
def z385 (k:Int):Int:=if k=1 then 3 else if k=2 then 2 else 0
mutual
def Tree.walkE (t:Tree) (d n:Int):Int×Bool:=match t with
  | .mk k v l=>if d≤6∧n+1≤15∧0≤v∧v≤z385 k∧(l.length:Int)=z300 k then Tree.walkEs l (d+1) (n+1) else (n+1,false)
def Tree.walkEs (l:List Tree) (d n:Int):Int×Bool:=match l with
  | []=>(n,true)
  | t::r=>if (Tree.walkE t d n).2 then Tree.walkEs r d (Tree.walkE t d n).1 else ((Tree.walkE t d n).1,false)
end
mutual
def Tree.shape (t:Tree) (d:Int):Bool:=match t with
  | .mk k v l=>decide (1≤d∧(l.length:Int)=z300 k∧0≤v∧v≤z385 k) && Tree.shapes l (d - 1)
def Tree.shapes (l:List Tree) (d:Int):Bool:=match l with
  | []=>true
  | t::r=>Tree.shape t d && Tree.shapes r d
end
mutual
def Tree.count (t:Tree) (d:Int):Int:=match t with
  | .mk _ _ l=>if 0 < d then 1+Tree.counts l (d - 1) else 1
def Tree.counts (l:List Tree) (d:Int):Int:=match l with
  | []=>0
  | t::r=>Tree.count t d+Tree.counts r d
end
theorem Tree.rec2 {p:Tree→Prop} {q:List Tree→Prop} (h:∀ k v l,q l→p (.mk k v l)) (h0:q []) (h1:∀ t r,p t→q r→q (t::r)):(∀ t,p t)∧∀ l,q l :=
  ⟨fun t=>Tree.rec (motive_1:=p) (motive_2:=q) (fun k v l ih=>h k v l ih) h0 (fun _ _ a b=>h1 _ _ a b) t,
   fun l=>Tree.rec_1 (motive_1:=p) (motive_2:=q) (fun k v l ih=>h k v l ih) h0 (fun _ _ a b=>h1 _ _ a b) l⟩
theorem Tree.count_pos:(∀ (t:Tree) d,1≤t.count d)∧∀ (l:List Tree) d,0≤Tree.counts l d:=by
  refine Tree.rec2 (p:=fun t=>∀ d,1≤t.count d) (q:=fun l=>∀ d,0≤Tree.counts l d) ?_ ?_ ?_
  · intro k v l ih d
    have:=ih (d - 1)
    simp only [Tree.count];split<;>omega
  · intro d;simp [Tree.counts]
  · intro t r h1 h2 d
    have:=h1 d;have:=h2 d
    simp only [Tree.counts];omega
theorem Tree.walkE_spec : (∀ (t : Tree) d n, 0 ≤ n → n ≤ 15 → ((t.walkE d n).2 = true ↔ t.shape (7 - d) = true ∧ n + t.count (7 - d) ≤ 15) ∧ ((t.walkE d n).2 = true → (t.walkE d n).1 = n + t.count (7 - d)) ∧ n ≤ (t.walkE d n).1 ∧ (t.walkE d n).1 ≤ 16) ∧
    ∀ (l:List Tree) d n,0≤n→n≤15→((Tree.walkEs l d n).2=true↔Tree.shapes l (7 - d)=true∧n+Tree.counts l (7 - d)≤15)∧((Tree.walkEs l d n).2=true→(Tree.walkEs l d n).1=n+Tree.counts l (7 - d))∧n≤(Tree.walkEs l d n).1∧(Tree.walkEs l d n).1≤16:=by
  refine Tree.rec2 ?_ ?_ ?_
  · intro k v l ih d n h0 h1
    simp only [Tree.walkE,Tree.shape,Tree.count,Bool.and_eq_true,decide_eq_true_eq]
    have hc:=Tree.count_pos.2 l (7 - d - 1)
    by_cases hb:d≤6∧n+1≤15∧0≤v∧v≤z385 k∧(l.length:Int)=z300 k
    · rw [if_pos hb,if_pos (by omega)]
      have:=ih (d+1) (n+1) (by omega) hb.2.1
      rw [show 7 - (d+1)=7 - d - 1 by omega] at this
      obtain ⟨a1,a2,a3,a4⟩:=this
      refine ⟨?_,?_,by omega,by omega⟩
      · rw [a1]
        constructor
        · rintro ⟨b1,b2⟩;exact ⟨⟨⟨by omega,hb.2.2.2.2,hb.2.2.1,hb.2.2.2.1⟩,b1⟩,by omega⟩
        · rintro ⟨b1,b2⟩;exact ⟨b1.2,by omega⟩
      · intro h;rw [a2 h];omega
    · rw [if_neg hb]
      refine ⟨⟨by simp,?_⟩,by simp,by simp only;omega,by simp only;omega⟩
      rintro ⟨⟨⟨b1,b2,b3,b4⟩,b5⟩,b6⟩
      rw [if_pos (by omega)] at b6
      exact absurd ⟨by omega,by omega,b3,b4,b2⟩ hb
  · intro d n h0 h1
    simp [Tree.walkEs,Tree.shapes,Tree.counts];omega
  · intro t r iht ihr d n h0 h1
    simp only [Tree.walkEs,Tree.shapes,Tree.counts,Bool.and_eq_true]
    obtain ⟨a1,a2,a3,a4⟩:=iht d n h0 h1
    have hc:=Tree.count_pos.2 r (7 - d)
    by_cases hb:(t.walkE d n).2=true
    · rw [if_pos hb]
      have e:=a2 hb
      obtain ⟨b1,b2,b3,b4⟩:=ihr d (t.walkE d n).1 (by omega) (by rw [e];exact (a1.1 hb).2)
      refine ⟨?_,fun h=>by rw [b2 h,e];omega,by omega,b4⟩
      rw [b1,e]
      exact ⟨fun h=>⟨⟨(a1.1 hb).1,h.1⟩,by omega⟩,fun h=>⟨h.1.2,by omega⟩⟩
    · rw [if_neg hb]
      refine ⟨⟨by simp,fun h=>absurd (a1.2 ⟨h.1.1,by omega⟩) hb⟩,by simp,a3,a4⟩
theorem Tree.walkE_eq (t:Tree) (d n:Int):t.walkE d n=if d≤6∧n+1≤15∧0≤t.val∧t.val≤z385 t.kind∧(t.kids.length:Int)=z300 t.kind then Tree.walkEs t.kids (d+1) (n+1) else (n+1,false):=by
  cases t;rfl
theorem Tree.walkEs_idx (d:Int) (l:List Tree):∀ n k,Tree.walkEs l d n=((idxS (fun (x:Tree) s=>!(x.walkE d s).2) (fun x s=>(x.walkE d s).1) l n k).2,!decide (0≤(idxS (fun (x:Tree) s=>!(x.walkE d s).2) (fun x s=>(x.walkE d s).1) l n k).1)):=by
  induction l with
  | nil=>intro n k;simp [Tree.walkEs,idxS]
  | cons t l ih =>
    intro n k
    simp only [Tree.walkEs,idxS]
    cases h:(t.walkE d n).2
    · simp
    · simp only [if_true,Bool.not_true,Bool.false_eq_true,if_false];exact ih _ _
def Tree.exprB (t:Tree):Bool:=(t.walkE 1 0).2
theorem Tree.exprB_eq (t:Tree):t.exprB=(t.shape 6 && decide (t.count 6≤15)):=by
  have h:=(Tree.walkE_spec.1 t 1 0 (by omega) (by omega)).1
  rw [show (7:Int) - 1=6 by omega,Int.zero_add] at h
  rw [Bool.eq_iff_iff,Bool.and_eq_true,decide_eq_true_eq]
  exact h
def b2i (b:Bool):Int:=if b then 1 else 0
mutual
def Tree.ev (v:List Int) (t:Tree):Int:=match t with
  | .mk k x l=>if k=1 then x else if k=2 then v.getD x.toNat 0 else match Tree.evs v l with
    | [a]=>b2i (decide (a=0))
    | [a,b]=>if k=4 then b2i (decide (a≠0∧b≠0)) else if k=5 then b2i (decide (a≠0∨b≠0)) else if k=6 then b2i (decide (a=b)) else if k=7 then b2i (decide (a < b)) else if k=8 then (a+b) % 4 else (a - b+4) % 4
    | _=>0
def Tree.evs (v:List Int) (l:List Tree):List Int:=match l with
  | []=>[]
  | t::r=>Tree.ev v t::Tree.evs v r
end
def Tree.good (t:Tree):Prop:=∃ d,t.shape d=true
theorem Tree.shapes_iff (l:List Tree) (d:Int):Tree.shapes l d=true↔∀ t∈l,t.shape d=true:=by
  induction l with
  | nil=>simp [Tree.shapes]
  | cons t l ih=>simp [Tree.shapes,ih]
theorem Tree.good_of {t:Tree} (h:t.exprB=true):t.good:=by
  rw [Tree.exprB_eq,Bool.and_eq_true] at h
  exact ⟨_,h.1⟩
theorem Tree.good_iff {t:Tree} (h:t.good):(t.kids.length:Int)=z300 t.kind∧0≤t.val∧t.val≤z385 t.kind∧∀ u∈t.kids,u.good:=by
  obtain ⟨d,h⟩:=h
  cases t with
  | mk k v l =>
    simp only [Tree.shape,Bool.and_eq_true,decide_eq_true_eq] at h
    exact ⟨h.1.2.1,h.1.2.2.1,h.1.2.2.2,fun u hu=>⟨_,(Tree.shapes_iff _ _).1 h.2 u hu⟩⟩
theorem z724 (b:Bool):0≤b2i b∧b2i b≤3:=by unfold b2i;split<;>omega
def ValsOk (v:List Int):Prop:=v.length=3∧∀ x∈v,0≤x∧x≤3
theorem ValsOk.get {v:List Int} (h:ValsOk v) (i:Nat):0≤v.getD i 0∧v.getD i 0≤3:=by
  rw [List.getD_eq_getElem?_getD]
  by_cases hi:i < v.length
  · rw [List.getElem?_eq_getElem hi]
    exact h.2 _ (List.getElem_mem _)
  · rw [List.getElem?_eq_none (by omega)];simp
theorem Tree.ev_range {v:List Int} (hv:ValsOk v) (t:Tree):t.good→0≤t.ev v∧t.ev v≤3:=by
  induction t using Tree.ind with|h t ih=>?_
  intro hg
  obtain ⟨h1,h2,h3,h4⟩:=Tree.good_iff hg
  cases t with
  | mk k x l =>
    simp only [Tree.kind,Tree.val,Tree.kids] at *
    simp only [Tree.ev]
    split
    · rename_i hk;subst hk;simp [z385] at h3;omega
    split
    · exact hv.get _
    · split
      · exact z724 _
      · rename_i a b hab
        repeat (first|(split;· first|exact z724 _|omega)|omega)
      · omega
end Go.Gl

namespace Go.Gl
mutual
def Tree.co:Tree→List AC
  | .mk k v l=>[.int k,.int v,.own 3 (Tree.cos l)]
def Tree.cos:List Tree→List (List AC)
  | []=>[]
  | t::l=>Tree.co t::Tree.cos l
end
def marks (k:Int) (n:Nat):List Int:=(List.range n).map fun i:Nat=>k+i
theorem z16 {es:List (List AC)} {i n:Nat} {r:List AC} {K:List AC→Prop} (h:n=i) (hg:es[i]?=some r) (k:K r):∃ e,es[n]?=some e∧K e:=⟨r,by rw [h];exact hg,k⟩
end Go.Gl

namespace Go.Gl
theorem z363 {objs:Nat→AObj} {π Bn:List Nat} {o w n:Nat} {es L:List (List AC)} (ho:objs o=.cells w es) (h1:idx π o=none) (h2:inB Bn o=true) (hl:es.length=n) (hu:z66 es=L):bor objs π Bn (.sref o 0 n)=.list w n L:=by
  rw [z292 ho h1 h2 hl,hu]
theorem z84 {objs:Nat→AObj} {π Bn:List Nat} : borL objs π Bn []=[]:=rfl
theorem z60 {objs:Nat→AObj} {π Bn:List Nat} {x y:AC} {xs ys:List AC} (h:bor objs π Bn x=y) (k:borL objs π Bn xs=ys):borL objs π Bn (x::xs)=y::ys:=by
  simp only [borL,h,k]
section
variable {P:Program}
theorem CallsA.keepT {f:FuncId} {args:List AC} {w n:Nat} {es L:List (List AC)} {y:AC} (h:CallsA P f args [] (.tup [.sref 0 0 n,y]) [.cells w es]) (hu:z66 es=L) (hl:es.length=n) (hy:bor (z36 [.cells w es]) [] [0] y=y):CallsA P f args [] (.tup [.list w n L,y]) []:=by
  refine h.lend [] [0] rfl rfl rfl ?_ z4
  have:=z363 (objs:=z36 [.cells w es]) (π:=[]) (Bn:=[0]) (o:=0) rfl rfl rfl hl hu
  simp only [bor,borL] at this hy ⊢
  rw [this,hy]
theorem Wf.phantoms {G:Ghost} {w0:World} (hW:Wf G (z36 []) w0) {l:List AObj} (h:∀ x∈l,∃ w,x=.cells w []):Wf G (z36 l) w0:=by
  refine ⟨hW.hS,hW.hU,hW.su,hW.sk,fun o=>?_⟩
  have hι:G.ι o=none:=by
    have:=hW.objs o
    have e:z36 [] o=.fresh:=by simp [z36,z63]
    rw [e] at this;exact this
  show ObjRel G (hp w0) o (z36 l o)
  rcases Nat.lt_or_ge o l.length with h1|h1
  · obtain ⟨w,hw⟩:=h _ (List.getElem_mem h1)
    have:z36 l o=.cells w []:=by
      rw [← hw];unfold z36;exact z55 (List.getElem?_eq_getElem h1)
    rw [this];exact .inl ⟨rfl,hι⟩
  · have:z36 l o=.fresh:=z61 h1
    rw [this];exact hι
theorem CallsA.nils {f:FuncId} {args:List AC} {res res' : AC} {l:List AObj} (h:CallsA P f args [] res []) (hl:∀ x∈l,∃ w,x=.cells w []) (hr:ACle res res'):CallsA P f args [] res' l:=by
  refine ⟨h.1,fun G w vs hW hs hv=>(h.2 G w vs hW hs hv).mono ?_⟩
  rintro e w' ⟨G',v,rfl,h1,h2,h3,h4,h5⟩
  exact ⟨G',v,rfl,h1,h2,h3,h4.phantoms hl,hr _ _ _ h5⟩
end
theorem z841 {o:Nat} : ACle .nils (.sref o 0 0):=fun G h v hv=>by
  simp only [V] at hv ⊢
  exact ⟨0,Nat.le_refl _,.inl ⟨rfl,none,hv⟩⟩
end Go.Gl

namespace Go.Gl
inductive RP (rows:List (List Int)) (ini:List Int):Int→Prop
  | base {x:Int} : x∈ini→RP rows ini x
  | step {x y:Int} : RP rows ini x→y∈rows.getD x.toNat []→RP rows ini y
def InN (N:Nat) (l:List Int):Prop:=∀ x∈l,0≤x∧x < N
def mkB (N:Nat) (S:List Int):List Bool:=(List.range N).map fun v:Nat=>decide ((v:Int)∈S)
theorem mkB_len (N:Nat) (S:List Int):(mkB N S).length=N:=by simp [mkB]
theorem z601 (N:Nat):mkB N []=List.replicate N false:=by
  apply List.ext_getElem (by simp [mkB])
  intro i h1 h2
  simp [mkB]
theorem mkB_get {N:Nat} {S:List Int} {v:Int} (h0:0≤v) (h1:v < N):(mkB N S)[v.toNat]?=some (decide (v∈S)):=by
  unfold mkB
  rw [List.getElem?_map,List.getElem?_range (by omega)]
  simp [Int.toNat_of_nonneg h0]
theorem mkB_set {N:Nat} {S S' : List Int} {v:Int} (h0:0≤v) (h1:v < N) (hs:∀ x,x∈S'↔x∈S∨x=v):(mkB N S).set v.toNat true=mkB N S':=by
  apply List.ext_getElem (by simp [mkB])
  intro i h2 h3
  rw [List.getElem_set]
  simp only [mkB,List.getElem_map,List.getElem_range]
  have:=hs i
  by_cases h:v.toNat=i
  · rw [if_pos h]
    have:(i:Int)=v:=by omega
    symm;rw [decide_eq_true_eq];exact (hs i).2 (.inr this)
  · rw [if_neg h]
    have h4:¬ (i:Int)=v:=by omega
    simp only [decide_eq_decide]
    rw [this];simp [h4]
section
variable {enc:Bool→List AC}
theorem z236 {N n:Nat} {S:List Int} {v:Int} {K:List AC→Prop} (h:n=v.toNat) (h0:0≤v) (h1:v < N) (k:K (enc (decide (v∈S)))):∃ e,((mkB N S).map enc)[n]?=some e∧K e :=
  ⟨_,by rw [h,List.getElem?_map,mkB_get h0 h1];rfl,k⟩
theorem z313 {N n:Nat} {S S' : List Int} {v:Int} (h:n=v.toNat) (h0:0≤v) (h1:v < N) (hs:∀ x,x∈S'↔x∈S∨x=v):((mkB N S).map enc).set n (enc true)=(mkB N S').map enc:=by
  rw [h,← mkB_set h0 h1 hs,List.map_set]
end
noncomputable instance {rows:List (List Int)} {ini:List Int} {x:Int} : Decidable (RP rows ini x):=Classical.propDecidable _
noncomputable def z100 (rows:List (List Int)) (ini:List Int):List Bool:=(List.range rows.length).map fun v:Nat=>decide (RP rows ini v)
theorem z678 {rows:List (List Int)} {ini S:List Int} (h:∀ v:Nat,v < rows.length→((v:Int)∈S↔RP rows ini v)):mkB rows.length S=z100 rows ini:=by
  unfold mkB z100
  refine List.map_congr_left fun v hv=>?_
  simp only [decide_eq_decide]
  exact h v (List.mem_range.1 hv)
theorem z89 (rows:List (List Int)) (ini:List Int):(z100 rows ini).length=rows.length:=by simp [z100]
def cntU:Nat→List Int→Nat
  | 0,_=>0
  | n+1,S=>cntU n S+(if (n:Int)∈S then 0 else 1)
theorem cntU_le {S S' : List Int} (h:∀ x∈S,x∈S') (n:Nat):cntU n S'≤cntU n S:=by
  induction n with
  | zero=>exact Nat.le_refl _
  | succ n ih =>
    simp only [cntU]
    by_cases h1:(n:Int)∈S
    · rw [if_pos h1,if_pos (h _ h1)];omega
    · rw [if_neg h1];split<;>omega
theorem cntU_lt {S S' : List Int} {v:Int} (h:∀ x∈S,x∈S') (hv:v ∉ S) (hv' : v∈S') (n:Nat) (h0:0≤v) (h1:v < n):cntU n S'+1≤cntU n S:=by
  induction n with
  | zero=>omega
  | succ n ih =>
    simp only [cntU]
    by_cases h2:v=n
    · subst h2
      rw [if_pos hv',if_neg hv]
      have:=cntU_le h n
      omega
    · have:=ih (by omega)
      by_cases h3:(n:Int)∈S
      · rw [if_pos h3,if_pos (h _ h3)];omega
      · rw [if_neg h3];split<;>omega
theorem z926 (n:Nat) (S:List Int):cntU n S≤n:=by
  induction n with
  | zero=>exact Nat.le_refl _
  | succ n ih=>simp only [cntU];split<;>omega
def z149 (out:List Int) (v:Int):List Int:=if v∈out then out else out++[v]
def z72 (out l:List Int):List Int:=l.foldl z149 out
def bfs (rows:List (List Int)) (ini:List Int):Nat→List Int
  | 0=>z72 [] ini
  | i+1=>if h:i < (bfs rows ini i).length then z72 (bfs rows ini i) (rows.getD ((bfs rows ini i)[i]).toNat []) else bfs rows ini i
def bfsL (rows:List (List Int)) (ini:List Int):List Int:=bfs rows ini rows.length
theorem z645 {out:List Int} {v x:Int} : x∈z149 out v↔x∈out∨x=v:=by
  unfold z149;split
  · rename_i h
    constructor
    · exact .inl
    · rintro (h1|rfl)<;>assumption
  · simp
theorem z204 {out l:List Int} {x:Int} : x∈z72 out l↔x∈out∨x∈l:=by
  unfold z72
  induction l generalizing out with
  | nil=>simp
  | cons v l ih=>rw [List.foldl_cons,ih,z645];simp [or_assoc]
theorem z740 {out:List Int} {v:Int} (h:out.Nodup):(z149 out v).Nodup:=by
  unfold z149;split
  · exact h
  · rename_i hv
    rw [List.nodup_append]
    exact ⟨h,by simp,fun a ha b hb=>by rintro rfl;rw [List.mem_singleton.1 hb] at ha;exact hv ha⟩
theorem z133 {out l:List Int} (h:out.Nodup):(z72 out l).Nodup:=by
  unfold z72
  induction l generalizing out with
  | nil=>exact h
  | cons v l ih=>exact ih (z740 h)
theorem z446 (out:List Int) (v:Int):∃ t,z149 out v=out++t:=by
  unfold z149;split
  · exact ⟨[],by simp⟩
  · exact ⟨_,rfl⟩
theorem z368 (out l:List Int):∃ t,z72 out l=out++t:=by
  unfold z72
  induction l generalizing out with
  | nil=>exact ⟨[],by simp⟩
  | cons v l ih =>
    obtain ⟨t,ht⟩:=z446 out v
    obtain ⟨t',ht'⟩:=ih (z149 out v)
    exact ⟨t++t',by rw [List.foldl_cons,ht',ht,List.append_assoc]⟩
theorem z739 (out l:List Int) (v:Int):z72 out (l++[v])=z149 (z72 out l) v:=by simp [z72]
theorem z225 {out l:List Int} {k:Nat} (h:k < l.length):z72 out (l.take (k+1))=z149 (z72 out (l.take k)) l[k]:=by
  rw [List.take_succ_eq_append_getElem h,z739]
theorem z135:∀ (N:Nat) (l:List Int),l.Nodup→InN N l→l.length≤N
  | 0,l,_,h=>by
    cases l with
    | nil=>exact Nat.le_refl _
    | cons a l=>have:=h a (by simp);omega
  | N+1,l,hn,h=>by
    by_cases hN:(N:Int)∈l
    · have h1:=z135 N (l.erase N) (hn.erase _) fun x hx=>by
        have h2:=(hn.mem_erase_iff).1 hx
        have h3:=h x h2.2
        have h4:=h2.1
        omega
      rw [List.length_erase_of_mem hN] at h1
      have:0 < l.length:=List.length_pos_of_mem hN
      omega
    · have h1:=z135 N l hn fun x hx=>by
        have h3:=h x hx
        have h4:x≠N:=by rintro rfl;exact hN hx
        omega
      omega
theorem z205 {N:Nat} {out l:List Int} (h:InN N out) (hl:InN N l):InN N (z72 out l):=fun x hx=>by
  rcases z204.1 hx with h1|h1
  · exact h x h1
  · exact hl x h1
section
variable {rows:List (List Int)} {ini:List Int}
theorem z178 {N:Nat} (hr:∀ r∈rows,InN N r) (v:Int):InN N (rows.getD v.toNat []):=by
  by_cases h:v.toNat < rows.length
  · rw [z19 h];exact hr _ (List.getElem_mem _)
  · rw [List.getD_eq_getElem?_getD,List.getElem?_eq_none (by omega)];intro x hx;cases hx
theorem z365 {N:Nat} (hr:∀ r∈rows,InN N r) (hi:InN N ini) (i:Nat):InN N (bfs rows ini i):=by
  induction i with
  | zero=>exact z205 (fun x hx=>by cases hx) hi
  | succ i ih =>
    rw [bfs];split
    · exact z205 ih (z178 hr _)
    · exact ih
theorem z508 (i:Nat):(bfs rows ini i).Nodup:=by
  induction i with
  | zero=>exact z133 (by simp)
  | succ i ih =>
    rw [bfs];split
    · exact z133 ih
    · exact ih
theorem z245 (hr:∀ r∈rows,InN rows.length r) (hi:InN rows.length ini) (i:Nat):(bfs rows ini i).length≤rows.length :=
  z135 _ _ (z508 i) (z365 hr hi i)
theorem z723 {i j:Nat} (h:(bfs rows ini i).length≤i) (hij:i≤j):bfs rows ini j=bfs rows ini i:=by
  induction j with
  | zero => obtain rfl : i = 0 := by omega
            rfl
  | succ j ih =>
    rcases Nat.lt_or_ge j i with h1|h1
    · obtain rfl:i=j+1:=by omega
      rfl
    · have e:=ih h1
      rw [bfs,dif_neg (by rw [e];omega),e]
theorem z1072 (i:Nat):∃ t,bfs rows ini (i+1)=bfs rows ini i++t:=by
  rw [bfs];split
  · exact z368 _ _
  · exact ⟨[],by simp⟩
theorem bfs_RP (i:Nat):∀ x∈bfs rows ini i,RP rows ini x:=by
  induction i with
  | zero =>
    intro x hx
    rcases z204.1 hx with h|h
    · cases h
    · exact .base h
  | succ i ih =>
    intro x hx
    rw [bfs] at hx
    split at hx
    · rcases z204.1 hx with h|h
      · exact ih x h
      · exact .step (ih _ (List.getElem_mem _)) h
    · exact ih x hx
theorem z934 (i:Nat):∀ k,k < i→∀ h:k < (bfs rows ini i).length,∀ y∈rows.getD ((bfs rows ini i)[k]).toNat [],y∈bfs rows ini i:=by
  induction i with
  | zero=>intro k hk;omega
  | succ i ih =>
    intro k hk h y hy
    obtain ⟨t,ht⟩:=z1072 (rows:=rows) (ini:=ini) i
    by_cases hkl:k < (bfs rows ini i).length
    · have e:(bfs rows ini (i+1))[k]=(bfs rows ini i)[k]:=by
        simp only [ht,List.getElem_append_left hkl]
      rw [e] at hy
      rcases Nat.lt_or_ge k i with h1|h1
      · rw [ht];exact List.mem_append_left _ (ih k h1 hkl y hy)
      · obtain rfl:k=i:=by omega
        rw [bfs,dif_pos hkl]
        exact z204.2 (.inr hy)
    · rcases Nat.lt_or_ge i (bfs rows ini i).length with h1|h1
      · omega
      · have e:bfs rows ini (i+1)=bfs rows ini i:=z723 h1 (by omega)
        rw [e] at h;omega
theorem z132 (hr:∀ r∈rows,InN rows.length r) (hi:InN rows.length ini) (x:Int):x∈bfsL rows ini↔RP rows ini x:=by
  refine ⟨bfs_RP _ x,fun h=>?_⟩
  have hl:=z245 hr hi rows.length
  induction h with
  | base h =>
    have:∀ i,∀ x∈ini,x∈bfs rows ini i:=by
      intro i
      induction i with
      | zero=>intro x hx;exact z204.2 (.inr hx)
      | succ i ih =>
        intro x hx
        obtain ⟨t,ht⟩:=z1072 (rows:=rows) (ini:=ini) i
        rw [ht];exact List.mem_append_left _ (ih x hx)
    exact this _ _ h
  | step h1 h2 ih =>
    obtain ⟨k,hk,rfl⟩:=List.mem_iff_getElem.1 ih
    exact z934 _ k (Nat.lt_of_lt_of_le hk hl) hk _ h2
theorem z865 {i:Nat} (hr:∀ r∈rows,InN rows.length r) (hi:InN rows.length ini) (h:(bfs rows ini i).length≤i) (hil:i≤rows.length):bfs rows ini i=bfsL rows ini:=(z723 h hil).symm
theorem z933 (hr:∀ r∈rows,InN rows.length r) (hi:InN rows.length ini):mkB rows.length (bfsL rows ini)=z100 rows ini:=z678 fun v _=>z132 hr hi v
theorem RP.in {x:Int} (hr:∀ r∈rows,InN rows.length r) (hi:InN rows.length ini) (h:RP rows ini x):0≤x∧x < rows.length:=by
  induction h with
  | base h=>exact hi _ h
  | step _ h2 _=>exact z178 hr _ _ h2
end
theorem z240 {r:Nat→Nat} {o o' a n n' : Nat} (h:n=n') (ho:o=r o'):AC.sref o a n=(AC.sref o' a n').ren r:=by rw [h,ho];rfl
end Go.Gl

namespace Go.Gl
section
variable {K K' : Type} [DecidableEq K] [DecidableEq K'] {κ:Nat→K} {κ' : Nat→K'}
end
end Go.Gl

namespace Go.Gl
def arityB (k:Int):Int:=if k=1∨k=2 then 0 else if k=3∨k=6∨k=8∨k=9∨k=11 then 1 else if k=4∨k=5∨k=7∨k=10 then 2 else -1
def mostB (k:Int):Int:=if k=2 then 2 else 0
mutual
def Tree.walkB (t:Tree) (d n:Int):Int×Bool:=match t with
  | .mk k v l=>if d≤6∧n+1≤12∧0≤v∧v≤mostB k∧(l.length:Int)=arityB k then Tree.walkBs l (d+1) (n+1) else (n+1,false)
def Tree.walkBs (l:List Tree) (d n:Int):Int×Bool:=match l with
  | []=>(n,true)
  | t::r=>if (Tree.walkB t d n).2 then Tree.walkBs r d (Tree.walkB t d n).1 else ((Tree.walkB t d n).1,false)
end
mutual
def Tree.shapeB (t:Tree) (d:Int):Bool:=match t with
  | .mk k v l=>decide (1≤d∧(l.length:Int)=arityB k∧0≤v∧v≤mostB k) && Tree.shapeBBs l (d - 1)
def Tree.shapeBBs (l:List Tree) (d:Int):Bool:=match l with
  | []=>true
  | t::r=>Tree.shapeB t d && Tree.shapeBBs r d
end
end Go.Gl

namespace Go.Gl
def ordB (s a b:Bool):Prop:=a=b∨a=s
theorem ordB.refl (s a:Bool):ordB s a a:=.inl rfl
theorem ordB.trans {s a b c:Bool} (h:ordB s a b) (k:ordB s b c):ordB s a c:=by
  unfold ordB at *
  cases s<;>cases a<;>cases b<;>cases c<;>simp_all
def gB (S:List Bool) (i:Nat):Bool:=S.getD i false
structure FixR (s:Bool) (H:Nat→List Bool→Bool) (n:Nat) (R:List Bool):Prop where
  len:R.length=n
  fix:∀ i,i < n→gB R i=H i R
  least:∀ T:List Bool,T.length=n→(∀ i,i < n→ordB s (H i T) (gB T i))→∀ i,i < n→ordB s (gB R i) (gB T i)
def MonoB (s:Bool) (H:Nat→List Bool→Bool) (n:Nat):Prop:=∀ (S T:List Bool),S.length=n→T.length=n→(∀ j,j < n→ordB s (gB S j) (gB T j))→∀ i,i < n→ordB s (H i S) (H i T)
open Classical in
noncomputable def lim (s:Bool) (H:Nat→List Bool→Bool) (n:Nat):List Bool:=if h:∃ R,FixR s H n R then h.choose else []
def cntS (s:Bool) (S:List Bool):Nat:=(S.filter fun b=>b == s).length
theorem z850 {S:List Bool} {i j:Nat} {b:Bool} (hi:i < S.length):gB (S.set i b) j=if j=i then b else gB S j:=by
  unfold gB
  by_cases h:j=i
  · subst h
    rw [if_pos rfl,z19 (by simpa using hi)];simp
  · rw [if_neg h]
    simp only [List.getD_eq_getElem?_getD]
    rw [List.getElem?_set_ne (Ne.symm h)]
theorem cntS_set {s:Bool} {S:List Bool} {i:Nat} (hi:i < S.length) (h:gB S i=s):cntS s (S.set i (!s))+1=cntS s S:=by
  unfold gB at h
  rw [z19 hi] at h
  induction S generalizing i with
  | nil=>simp at hi
  | cons a S ih =>
    cases i with
    | zero =>
      simp only [List.getElem_cons_zero] at h
      subst h
      simp [cntS,List.filter_cons]
    | succ i =>
      have:=ih (i:=i) (by simpa using hi) (by simpa using h)
      unfold cntS at this ⊢
      rw [List.set_cons_succ,List.filter_cons,List.filter_cons]
      split<;>(try simp only [List.length_cons])<;>omega
structure Way (s:Bool) (H:Nat→List Bool→Bool) (n:Nat) (S:List Bool):Prop where
  len:S.length=n
  below:∀ T:List Bool,T.length=n→(∀ i,i < n→ordB s (H i T) (gB T i))→∀ i,i < n→ordB s (gB S i) (gB T i)
  post:∀ i,i < n→ordB s (gB S i) (H i S)
theorem Way.start {s:Bool} {H:Nat→List Bool→Bool} {n:Nat} : Way s H n (List.replicate n s):=by
  have e:∀ i,i < n→gB (List.replicate n s) i=s:=fun i hi=>by unfold gB;rw [z19 (by simpa using hi)];simp
  exact ⟨by simp,fun T _ _ i hi=>.inr (e i hi),fun i hi=>.inr (e i hi)⟩
theorem Way.put {s:Bool} {H:Nat→List Bool→Bool} {n:Nat} (hm:MonoB s H n) {S:List Bool} (h:Way s H n S) {i:Nat} (hi:i < n) {v:Bool} (h1:ordB s (gB S i) v) (h2:ordB s v (H i S)):Way s H n (S.set i v)∧(v≠gB S i→cntS s (S.set i v)+1=cntS s S):=by
  have hil:i < S.length:=by rw [h.len];exact hi
  have hle:∀ j,j < n→ordB s (gB S j) (gB (S.set i v) j):=fun j _=>by
    rw [z850 hil];split
    · rename_i e;subst e;exact h1
    · exact ordB.refl _ _
  have hH:=hm S (S.set i v) h.len (by simp [h.len]) hle
  refine ⟨⟨by simp [h.len],fun T hT hc j hj=>?_,fun j hj=>?_⟩,fun hne=>?_⟩
  · rw [z850 hil];split
    · rename_i e;subst e
      exact h2.trans ((hm S T h.len hT (h.below T hT hc) j hj).trans (hc j hj))
    · exact h.below T hT hc j hj
  · rw [z850 hil];split
    · rename_i e;subst e;exact h2.trans (hH j hj)
    · exact (h.post j hj).trans (hH j hj)
  · have hs:gB S i=s:=by
      rcases h1 with e|e
      · exact absurd e.symm hne
      · exact e
    have hv:v=!s:=by
      cases v<;>cases s<;>simp_all
    rw [hv];exact cntS_set hil hs
def nxB (g:List (List Int)) (ev:Bool) (i:Nat) (S:List Bool):Bool:=if ev then (g.getD i []).all (fun t=>gB S t.toNat) else (g.getD i []).any (fun t=>gB S t.toNat)
end Go.Gl

namespace Go.Gl
theorem Way.step {s:Bool} {H:Nat→List Bool→Bool} {n:Nat} (hm:MonoB s H n) {S S' : List Bool} (h:Way s H n S') (hS:S.length=n) (hle:∀ j,j < n→ordB s (gB S j) (gB S' j)) {i:Nat} (hi:i < n) (hv:H i S=!s) (hg:gB S' i=s):Way s H n (S'.set i (!s))∧cntS s (S'.set i (!s))+1=cntS s S'∧∀ j,j < n→ordB s (gB S j) (gB (S'.set i (!s)) j):=by
  have hil:i < S'.length:=by rw [h.len];exact hi
  have h2:ordB s (!s) (H i S'):=by
    have:=hm S S' hS h.len hle i hi
    rwa [hv] at this
  have hp:=h.put hm hi (v:=!s) (.inr hg) h2
  refine ⟨hp.1,hp.2 (by rw [hg];cases s<;>simp),fun j hj=>?_⟩
  rw [z850 hil]
  split
  · rename_i e
    subst e
    have:=hle j hj
    rw [hg] at this
    rcases this with e|e
    · exact .inr e
    · exact .inr e
  · exact hle j hj
def unH (g:List (List Int)) (ev:Bool) (a b:List Bool) (i:Nat) (S:List Bool):Bool:=gB b i || (gB a i && nxB g ev i S)
def alH (g:List (List Int)) (ev:Bool) (a:List Bool) (i:Nat) (S:List Bool):Bool:=gB a i && nxB g ev i S
def nxL (g:List (List Int)) (ev:Bool) (n:Nat) (S:List Bool):List Bool:=(List.range n).map fun i=>nxB g ev i S
def hasB (ℓ a:Int):Bool:=decide (((((ℓ / 2 ^ a.toNat).toNat &&& (1:Int).toNat:Nat):Int))=1)
def ptB (L:List Int) (k v:Int) (a b:List Bool) (i:Nat):Bool:=if k=2 then hasB (L.getD i 0) v else if k=3 then !gB a i else if k=4 then gB a i && gB b i else if k=5 then gB a i || gB b i else true
noncomputable def opB (g:List (List Int)) (n:Nat) (L:List Int) (k v:Int) (ks:List (List Bool)):List Bool :=
  if k=6 then nxL g false n (ks.getD 0 []) else if k=9 then nxL g true n (ks.getD 0 [])
  else if k=7 then lim false (unH g false (ks.getD 0 []) (ks.getD 1 [])) n else if k=10 then lim false (unH g true (ks.getD 0 []) (ks.getD 1 [])) n
  else if k=8 then lim true (alH g false (ks.getD 0 [])) n else if k=11 then lim true (alH g true (ks.getD 0 [])) n
  else (List.range n).map (ptB L k v (ks.getD 0 []) (ks.getD 1 []))
mutual
noncomputable def Tree.satB (g:List (List Int)) (n:Nat) (L:List Int) (t:Tree):List Bool:=match t with
  | .mk k v l=>opB g n L k v (Tree.satBs g n L l)
noncomputable def Tree.satBs (g:List (List Int)) (n:Nat) (L:List Int) (l:List Tree):List (List Bool):=match l with
  | []=>[]
  | t::r=>Tree.satB g n L t::Tree.satBs g n L r
end
theorem Way.now {g:List (List Int)} {ev:Bool} {a:List Bool} {n:Nat} (ha:a.length=n):Way true (alH g ev a) n a:=by
  refine ⟨ha,fun T hT h i hi=>?_,fun i hi=>?_⟩
  · have:=h i hi
    unfold alH ordB at this
    unfold ordB
    revert this
    cases gB a i<;>cases gB T i<;>simp
  · unfold alH ordB
    cases gB a i<;>simp
end Go.Gl

namespace Go.Gl
section
variable {g:List (List Int)} {n:Nat} (L:List Int)
variable (hr:∀ r∈g,InN n r)
include hr
end
end Go.Gl

namespace Go.Gl
theorem z808 {a b:Bool} (h:a=b):LocLe (.bool a) (.bool b):=h ▸ LocLe.refl _
end Go.Gl

namespace Go.Gl
def mvF (o n:Nat) (p:Nat×List Nat):Nat×List Nat:=if p.1=o then (n,p.2) else p
noncomputable def Ghost.rnm (G:Ghost) (o n:Nat):Ghost:={ G with ι:=fun x=>if x=n then G.ι o else G.ι x,κ:=fun b=>(G.κ b).map (mvF o n) }
theorem mvF_cons (o n o' j:Nat) (q:List Nat):mvF o n (o',j::q)=((mvF o n (o',q)).1,j::(mvF o n (o',q)).2):=by
  unfold mvF;dsimp only;split<;>rfl
theorem Wf.rnm {G : Ghost} {objs : Nat → AObj} {w : World} (hW : Wf G objs w) {o n wd : Nat} {es : List (List AC)} (ho : objs o = .cells wd es) (hn : objs n = .fresh) :
    Wf (G.rnm o n) (upd (upd objs n (.cells wd es)) o .dead) w∧∀ x t,G.ι x=some t→(G.rnm o n).ι x=some t:=by
  have hιn:G.ι n=none:=by have:=hW.objs n;rw [hn] at this;exact this
  have hon:o≠n:=fun e=>by rw [e,hn] at ho;cases ho
  have hι:∀ x t,G.ι x=some t→(G.rnm o n).ι x=some t:=fun x t e=>by
    show (if x=n then G.ι o else G.ι x)=some t
    by_cases h:x=n
    · rw [h,hιn] at e;cases e
    · rw [if_neg h];exact e
  have hmv:∀ (es:List (List AC)) (l:Loc) (wd:Nat) (c:Array Value),VLL G (hp w) l wd es c 0→VLL (G.rnm o n) (hp w) (l.map (mvF o n)) wd es c 0:=fun es l wd c hv =>
    z158 es G (G.rnm o n) (hp w) (hp w) (mvF o n) (fun _=>True) (fun _ _ e=>e) hι (fun a b c=>mvF_cons o n a b c) (fun _ _ _ h=>h) (fun b p _ hk=>⟨by show (G.κ b).map (mvF o n)=_;rw [hk];rfl,rfl⟩) l wd c 0 (fun _ _ _=>trivial) hv
  refine ⟨⟨hW.hS,hW.hU,hW.su,fun b p hk=>?_,fun x=>?_⟩,hι⟩
  · have hk:(G.κ b).map (mvF o n)=some p:=hk
    cases h:G.κ b with
    | none=>rw [h] at hk;cases hk
    | some p'=>exact hW.sk b p' h
  · by_cases h1:x=o
    · subst h1;rw [z28];trivial
    · rw [z43 _ _ h1]
      by_cases h2:x=n
      · subst h2
        rw [z28]
        have h:=hW.objs o
        rw [ho] at h
        have hx:(G.rnm o x).ι x=G.ι o:=by show (if x=x then G.ι o else G.ι x)=_;rw [if_pos rfl]
        rcases h with ⟨a,b⟩|⟨b,size,c,el,a1,a2,a3,a4,a5⟩
        · exact .inl ⟨a,by rw [hx];exact b⟩
        · refine .inr ⟨b,size,c,el,by rw [hx];exact a1,?_,a3,a4,?_⟩
          · show (G.κ b).map (mvF o x)=_;rw [a2];unfold mvF;simp
          · have:=hmv es (some (o,[])) wd c a5
            have e:Option.map (mvF o x) (some (o,[]))=some (x,[]):=by unfold mvF;simp
            rwa [e] at this
      · rw [z43 _ _ h2]
        have h:=hW.objs x
        have hx:(G.rnm o n).ι x=G.ι x:=by show (if x=n then G.ι o else G.ι x)=_;rw [if_neg h2]
        cases hc:objs x with
        | fresh=>rw [hc] at h;show (G.rnm o n).ι x=none;rw [hx];exact h
        | dead=>trivial
        | mp d es' =>
          rw [hc] at h
          obtain ⟨b,size,wx,c,ck,a1,a2,a3⟩:=h
          refine ⟨b,size,wx,c,ck,by rw [hx];exact a1,?_,a3⟩
          show (G.κ b).map (mvF o n)=_;rw [a2];unfold mvF;simp [h1]
        | cells wd' es' =>
          rw [hc] at h
          rcases h with ⟨a,b⟩|⟨b,size,c,el,a1,a2,a3,a4,a5⟩
          · exact .inl ⟨a,by rw [hx];exact b⟩
          · refine .inr ⟨b,size,c,el,by rw [hx];exact a1,?_,a3,a4,?_⟩
            · show (G.κ b).map (mvF o n)=_;rw [a2];unfold mvF;simp [h1]
            · have:=hmv es' (some (x,[])) wd' c a5
              have e:Option.map (mvF o n) (some (x,[]))=some (x,[]):=by unfold mvF;simp [h1]
              rwa [e] at this
def rnS (o n:Nat) (x:AC):AC:=match x with
  | .sref k off len=>.sref (cond (Nat.beq k o) n k) off len
  | x=>x
theorem rnS_V {G:Ghost} {h:Nat→Option Obj} {o n:Nat} (hι:∀ x t,G.ι x=some t→(G.rnm o n).ι x=some t) {x:AC} {v:Value} (hv:V G h none x v):V (G.rnm o n) h none (rnS o n x) v:=by
  cases x with
  | sref k off len =>
    simp only [rnS,V] at hv ⊢
    obtain ⟨cap,h1,h2⟩:=hv
    refine ⟨cap,h1,h2.imp id ?_⟩
    rintro ⟨b,size,w,a1,a2⟩
    refine ⟨b,size,w,?_,a2⟩
    cases hk:Nat.beq k o with
    | true =>
      have:=Nat.eq_of_beq_eq_true hk
      subst this
      show (if n=n then G.ι k else _)=_
      rw [if_pos rfl];exact a1
    | false=>exact hι k _ a1
  | _=>exact z109 (G:=G) (G':=G.rnm o n) (fun _ _ e=>e) hι hv
theorem rnS_env (o n:Nat) (env:List (Nat×AC)) (s:Nat):z81 (env.map fun p=>(p.1,rnS o n p.2)) s=rnS o n (z81 env s):=by
  induction env with
  | nil=>rfl
  | cons p env ih =>
    obtain ⟨k,x⟩:=p
    simp only [List.map_cons,z81]
    cases Nat.beq s k
    · exact ih
    · rfl
theorem Reach.rnm (o:Nat) {m n wd:Nat} {env:List (Nat×AC)} {objs:List AObj} {es:List (List AC)} (ho:z36 objs o=.cells wd es):Reach m (mkSt n env objs) (mkSt n (env.map fun p=>(p.1,rnS o objs.length p.2)) (objs.set o .dead++[.cells wd es])):=fun G a w hR=>by
  have hol:o < objs.length:=by
    rcases Nat.lt_or_ge o objs.length with h|h
    · exact h
    · have:z36 objs o=.fresh:=z61 h
      rw [this] at ho;cases ho
  have hn:z36 objs objs.length=.fresh:=z61 (Nat.le_refl _)
  obtain ⟨h1,h2⟩:=hR.wf.rnm (o:=o) (n:=objs.length) ho hn
  refine ⟨G.rnm o objs.length,⟨⟨fun _ _ e=>e,rfl⟩,fun x t _ e=>h2 x t e⟩,⟨?_,fun s=>by
    show V _ _ none (z81 (env.map fun p=>(p.1,rnS o objs.length p.2)) s) _
    rw [rnS_env];exact rnS_V h2 (hR.env s),hR.size,hR.defers.mono (fun _ _ e=>e)⟩⟩
  show Wf _ (z36 (objs.set o .dead++[.cells wd es])) w
  have e:z36 (objs.set o .dead++[.cells wd es])=upd (upd (z36 objs) objs.length (.cells wd es)) o .dead:=by
    funext x
    by_cases h1:x=o
    · subst h1
      rw [z28]
      exact z55 (by rw [List.getElem?_append_left (by simpa using hol),List.getElem?_set_self hol])
    · rw [z43 _ _ h1]
      rcases Nat.lt_trichotomy x objs.length with h|h|h
      · rw [z43 _ _ (by omega)]
        have:z36 objs x=objs[x]:=z55 (List.getElem?_eq_getElem h)
        rw [this]
        exact z55 (by rw [List.getElem?_append_left (by simpa using h),List.getElem?_set_ne (by omega),List.getElem?_eq_getElem h])
      · subst h
        rw [z28]
        exact z55 (by simp)
      · rw [z43 _ _ (by omega)]
        have:z36 objs x=.fresh:=z61 (by omega)
        rw [this]
        exact z61 (by simp;omega)
  rw [e];exact h1
end Go.Gl

namespace Go.Gl
theorem Reach.trunc {m n : Nat} {env : List (Nat × AC)} {objs objs' : List AObj} (o k : Nat) {wd : Nat} {es : List (List AC)} (ho : z36 objs o = .cells wd es)
    (hk:z275 objs [⟨o,.dead,.cells wd (es.take k)⟩] fun l=>l=objs'):Reach m (mkSt n env objs) (mkSt n env objs'):=fun G a w hR=>by
  obtain ⟨l,rfl,hl'⟩:=z118 hk
  refine ⟨G,SubM.refl m G,⟨?_,hR.env,hR.size,hR.defers⟩⟩
  show Wf G (z36 l) w
  rw [hl']
  refine ⟨hR.wf.hS,hR.wf.hU,hR.wf.su,hR.wf.sk,fun o'=>?_⟩
  show ObjRel G (hp w) o' (upd (z36 objs) o (.cells wd (es.take k)) o')
  by_cases h:o'=o
  · subst h
    rw [z28]
    have:=hR.wf.objs o'
    rw [show (mkSt n env objs).objs o'=.cells wd es from ho] at this
    rcases this with ⟨h1,h2⟩|⟨b,size,c,el,h1,h2,h3,h4,h5⟩
    · subst h1
      exact .inl ⟨by simp,h2⟩
    · refine .inr ⟨b,size,c,el,h1,h2,h3,h4,?_⟩
      rw [z62] at h5 ⊢
      intro i e' he'
      rw [List.getElem?_take] at he'
      split at he'
      · exact h5 i e' he'
      · cases he'
  · rw [z43 _ _ h];exact hR.wf.objs o'
theorem RetS.absorb {m : Nat} {objs objs' : List AObj} {res r : AC} (o q k j : Nat) {wd wd2 len : Nat} {es es2 : List (List AC)} {e : List AC} (ho : z36 objs o = .cells wd es) (he : es[k]? = some e) (hj : e[j]? = some (.sref q 0 len)) (hq : z36 objs q = .cells wd2 es2) (hn : es2.length = len) (hoq : Nat.beq o q = false) (hfl : Flat es2)
    (hk:z275 objs [⟨o,.dead,.cells wd (es.set k (e.set j (.own wd2 es2)))⟩,⟨q,.dead,.dead⟩] fun l=>RetS m (z36 l) res objs' r):RetS m (z36 objs) res objs' r:=fun G w v hW hV=>by
  obtain ⟨l,hl,hl'⟩:=z118 hk
  have h4:=hW.absorb (o:=o) (q:=q) ho he hj hq hn (by rintro rfl;rw [Nat.beq_refl] at hoq;cases hoq) hfl
  have h5:Wf (G.absorb o q (k * wd+j)) (z36 l) w:=by rw [hl'];exact h4
  obtain ⟨G',h1,h2,h3⟩:=hl _ w v h5 (z109 (G:=G) (G':=G.absorb o q (k * wd+j)) (fun _ _ e=>e) (fun _ _ e=>e) hV)
  have h6:SubM m G (G.absorb o q (k * wd+j)):=⟨⟨fun _ _ e=>e,rfl⟩,fun _ _ _ e=>e⟩
  exact ⟨G',h6.trans h1,h2,h3⟩
theorem RetS.trunc {m : Nat} {objs objs' : List AObj} {res r : AC} (o k : Nat) {wd : Nat} {es : List (List AC)} (ho : z36 objs o = .cells wd es)
    (hk:z275 objs [⟨o,.dead,.cells wd (es.take k)⟩] fun l=>RetS m (z36 l) res objs' r):RetS m (z36 objs) res objs' r:=fun G w v hW hV=>by
  obtain ⟨l,hl,hl'⟩:=z118 hk
  refine hl G w v ?_ hV
  rw [hl']
  refine ⟨hW.hS,hW.hU,hW.su,hW.sk,fun o'=>?_⟩
  show ObjRel G (hp w) o' (upd (z36 objs) o (.cells wd (es.take k)) o')
  by_cases h:o'=o
  · subst h
    rw [z28]
    have:=hW.objs o'
    rw [ho] at this
    rcases this with ⟨h1,h2⟩|⟨b,size,c,el,h1,h2,h3,h4,h5⟩
    · subst h1
      exact .inl ⟨by simp,h2⟩
    · refine .inr ⟨b,size,c,el,h1,h2,h3,h4,?_⟩
      rw [z62] at h5 ⊢
      intro i e' he'
      rw [List.getElem?_take] at he'
      split at he'
      · exact h5 i e' he'
      · cases he'
  · rw [z43 _ _ h];exact hW.objs o'
end Go.Gl

