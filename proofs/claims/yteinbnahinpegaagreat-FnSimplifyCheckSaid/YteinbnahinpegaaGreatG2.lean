/- A part of the proofs over this program: GlQ, GlR, GlS, GlT, GlU, GlW, GlX, GlY, GlZ, GlZ1, GlAA, D1, GlRS, D3, D2, D4, D5, D6, D7, D8, D9, D10, D12, GlRT, GlRV, GlRW, GlRX, GlRY. -/
import Derived.Test.YteinbnahinpegaaGreatG1
import Derived.Below
import Derived.ChangeSame
import Derived.ChangeArms
import Derived.WideKeyArgs
import Derived.OpenShut
import Derived.Sort.Grow
import Derived.Lib.SlicesCompact
set_option linter.all false
namespace Go.Gl
variable {P:Program} {T:Tab}
def z826 (ops:Array Oper) (o:Oper) (fp:List Ch):Acc:=⟨z537 ops o,o.dst.toList,fp.map (·.o),z132 o.op⟩
def z579 (ops:Array Oper) (o:Oper):Acc:=⟨z537 ops o,o.dst.toList,[],false⟩
def z307 (T:Tab) (P:Program) (ops:Array Oper) (n:Nat) (env:List (Nat×AC)) (objs:List AObj) (l:List Oper) (accs:List Acc) (K:LK):Prop:=match l with
 |[]=>z40 ops accs=true∧K env objs
 |o::rest=>z76 (z1049 o n) (match o.guard with
  |none=>vcOp T P (mkSt n env objs) o.op fun res fp=>z773 o.dst env objs res fp fun env objs=>z307 T P ops n env objs rest (accs++[z826 ops o fp]) K
  |some (j,want)=>match z606 ops j with
   |some d=>z76 (Nat.blt d n) (match z113 env d with
    |.raw (.bool b) => vcG b fun b => z512 b want (vcOp T P (mkSt n ((d, .raw (.bool b)) :: env) objs) o.op fun res fp => z773 o.dst ((d, .raw (.bool b)) :: env) objs res fp fun env objs => z307 T P ops n env objs rest (accs ++ [z826 ops o fp]) K)
      (z329 o.dst .gone ((d,.raw (.bool b))::env) fun env=>z307 T P ops n env objs rest (accs++[z579 ops o]) K)
    |.raw (.tuple _)=>z329 o.dst .gone env fun env=>z307 T P ops n env objs rest (accs++[z579 ops o]) K
    |_=>False)
   |none=>False)
theorem z27 {ops:Array Oper} {accs:List Acc} {K:Prop} (h:z40 ops accs=true) (k:K):z40 ops accs=true∧K:=⟨h,k⟩
def wr1E (o:Oper) (r:StepR):List (Nat×AC):=match o.dst with
 |some d=>[(d,match r.skip with
  |true=>.gone
  |false=>r.res)]
 |none=>[]
def wr1O (o:Oper) (r:StepR):List (Nat×AObj):=match r.skip,z132 o.op with
 |false,true=>r.fp.map fun c=>(c.o,c.post)
 |_,_=>[]
def acc1 (ops:Array Oper) (o:Oper) (r:StepR):Acc:=match r.skip with
 |true=>z579 ops o
 |false=>z826 ops o r.fp
inductive Chain (P:Program) (ops:Array Oper) (n:Nat):(Nat→AC)→(Nat→AObj)→List Oper→List StepR→(Nat→AC)→(Nat→AObj)→Prop
 |nil (e:Nat→AC) (ob:Nat→AObj):Chain P ops n e ob [] [] e ob
 |cons {e : Nat → AC} {ob : Nat → AObj} {o : Oper} {r : StepR} {l : List Oper} {rs : List StepR} {e' : Nat → AC} {ob' : Nat → AObj} (h : StepOk P ops n e ob o r)
   (t:Chain P ops n (apW e (wr1E o r)) (apW ob (wr1O o r)) l rs e' ob'):Chain P ops n e ob (o::l) (r::rs) e' ob'
theorem chain_of (hT : z135 P T) {ops : Array Oper} {n : Nat} : ∀ (l : List Oper) (env : List (Nat × AC)) (objs : List AObj) (accs : List Acc) (K : LK), z307 T P ops n env objs l accs K →
  ∃ rs env' objs',Chain P ops n (z113 env) (z47 objs) l rs (z113 env') (z47 objs')∧z40 ops (accs++(l.zip rs).map fun p=>acc1 ops p.1 p.2)=true∧rs.length=l.length∧K env' objs':=by
 intro l
 induction l with
 |nil =>
  intro env objs accs K h
  obtain ⟨h1,h2⟩:=h
  exact ⟨[],env,objs,.nil _ _,by simpa using h1,rfl,h2⟩
 |cons o rest ih =>
  intro env objs accs K h
  simp only [z307] at h
  obtain ⟨hd,h⟩:=z32 h
  have run : ∀ env, (match o.guard with | none => True | some (j, want) => ∃ d b, z606 ops j = some d ∧ d < n ∧ z113 env d = .raw (.bool b) ∧ (b == want) = true) →
    (vcOp T P (mkSt n env objs) o.op fun res fp=>z773 o.dst env objs res fp fun env objs=>z307 T P ops n env objs rest (accs++[z826 ops o fp]) K) →
    ∃ rs env' objs',Chain P ops n (z113 env) (z47 objs) (o::rest) rs (z113 env') (z47 objs')∧z40 ops (accs++((o::rest).zip rs).map fun p=>acc1 ops p.1 p.2)=true∧rs.length=(o::rest).length∧K env' objs':=by
   intro env hg hv
   obtain ⟨res,fp,hO,hfp,hk⟩:=z935 hT hv
   obtain ⟨env1,objs1,h1,h2,h3⟩:=z622 (n:=n) hk
   obtain ⟨rs,env',objs',h4,h5,h6,h7⟩:=ih _ _ _ _ h1
   have h2' : z113 env1=apW (z113 env) (wr1E o ⟨false,(mkSt n env objs).reads o.op.operands.toList,fp,res⟩):=by
    have:z113 env1=z465 (z113 env) o.dst res:=h2
    rw [this];unfold wr1E z465
    cases o.dst<;>rfl
   have h3' : z47 objs1=apW (z47 objs) (wr1O o ⟨false,(mkSt n env objs).reads o.op.operands.toList,fp,res⟩):=by
    have:z47 objs1=z88 (z47 objs) fp:=h3
    rw [this];unfold wr1O
    cases hw:z132 o.op with
    |true=>exact (apW_fp _ _).symm
    |false=>exact z148 _ _ fun c hc=>⟨(hfp c hc).1,(hfp c hc).2 hw⟩
   rw [h2',h3'] at h4
   refine ⟨⟨false,(mkSt n env objs).reads o.op.operands.toList,fp,res⟩::rs,env',objs',.cons ⟨z455 (st:=mkSt n env objs) hd,by simp [St.reads,Function.comp_def],fun _=>⟨hO,fun p hp=>?_,fun c hc=>hfp c hc⟩,?_⟩ h4,?_,by simp [h6],h7⟩
   ·simp only [St.reads,y57] at hp
    obtain ⟨t,_,rfl⟩:=hp;rfl
   ·split
    ·rfl
    ·rename_i j want hgd
     rw [hgd] at hg
     obtain ⟨d,b,g1,g2,g3,g4⟩:=hg
     exact ⟨d,g1,g2,.inl ⟨b,g3,by rw [g4];rfl⟩⟩
   ·simpa [acc1] using h5
  have skp : ∀ env, (∀ r : StepR, r.skip = true → match o.guard with
    |none=>r.skip=false
    |some (j,want)=>∃ d,z606 ops j=some d∧d < n∧((∃ b,z113 env d=.raw (.bool b)∧r.skip=!(b == want))∨∃ t,z113 env d=.raw (.tuple t)∧r.skip=true)) →
    (z329 o.dst .gone env fun env=>z307 T P ops n env objs rest (accs++[z579 ops o]) K) →
    ∃ rs env' objs',Chain P ops n (z113 env) (z47 objs) (o::rest) rs (z113 env') (z47 objs')∧z40 ops (accs++((o::rest).zip rs).map fun p=>acc1 ops p.1 p.2)=true∧rs.length=(o::rest).length∧K env' objs':=by
   intro env hgd hv
   have hsk:∃ env1,z113 env1=apW (z113 env) (wr1E o ⟨true,(mkSt n env objs).reads o.op.operands.toList,[],.gone⟩)∧z307 T P ops n env1 objs rest (accs++[z579 ops o]) K:=by
    unfold z329 at hv
    cases hdst:o.dst with
    |none=>rw [hdst] at hv;exact ⟨env,by simp [wr1E,hdst,apW],hv⟩
    |some d'=>rw [hdst] at hv;exact ⟨_,by simp [wr1E,hdst,apW,z350],hv⟩
   obtain ⟨env1,he1,hv⟩:=hsk
   obtain ⟨rs,env',objs',h4,h5,h6,h7⟩:=ih _ _ _ _ hv
   rw [he1] at h4
   refine ⟨⟨true,(mkSt n env objs).reads o.op.operands.toList,[],.gone⟩::rs,env',objs',.cons ⟨z455 (st:=mkSt n env objs) hd,by simp [St.reads,Function.comp_def],(by intro h;cases h),hgd _ rfl⟩ h4,?_,by simp [h6],h7⟩
   simpa [acc1] using h5
  split at h
  ·rename_i hg
   exact run env (by rw [hg];trivial) h
  ·rename_i j want hg
   split at h
   ·rename_i d hdj
    obtain ⟨hn,h⟩:=z32 h
    have hn:d < n:=by simpa [Nat.blt_eq] using hn
    split at h
    ·rename_i b hb
     have he:=z968 hb
     have hb' : z113 ((d,.raw (.bool b))::env) d=.raw (.bool b):=by rw [he];exact hb
     rw [← he]
     rcases z385 (z651 h) with ⟨rfl,hv⟩|⟨hne,hv⟩
     ·exact run _ (by rw [hg];exact ⟨d,b,hdj,hn,hb',by simp⟩) hv
     ·exact skp _ (fun r hr=>by rw [hg];exact ⟨d,hdj,hn,.inl ⟨b,hb',by rw [hr];cases b<;>cases want<;>simp_all⟩⟩) hv
    ·rename_i t hb
     exact skp env (fun r hr=>by rw [hg];exact ⟨d,hdj,hn,.inr ⟨t,hb,hr⟩⟩) h
    ·exact h.elim
   ·exact h.elim
theorem z615 {α:Type} (wr:Nat→List (Nat×α)) (f:Nat→α):∀ i,runX wr f (fun _=>true) (i+1)=runX (fun k=>wr (k+1)) (apW f (wr 0)) (fun _=>true) i:=by
 intro i
 induction i with
 |zero=>rfl
 |succ i ih=>rw [z366 (wr:=wr) (X:=fun _=>true) rfl,ih];rfl
theorem z1240 {ops : Array Oper} {n : Nat} {e : Nat → AC} {ob : Nat → AObj} {l : List Oper} {rs : List StepR} {e' : Nat → AC} {ob' : Nat → AObj} (h : Chain P ops n e ob l rs e' ob') :
    ∀ (O:Nat→Oper) (R:Nat→StepR),(∀ i o,l[i]?=some o→O i=o)→(∀ i r,rs[i]?=some r→R i=r) →
      (∀ i,i < l.length→StepOk P ops n (runX (wrE O R) e (fun _=>true) i) (runX (wrO O R) ob (fun _=>true) i) (O i) (R i))∧runX (wrE O R) e (fun _=>true) l.length=e'∧runX (wrO O R) ob (fun _=>true) l.length=ob':=by
  induction h with
  | nil e ob=>intro O R _ _;exact ⟨fun i hi=>by simp at hi,rfl,rfl⟩
  | @cons e ob o r l rs e' ob' hs t ih =>
    intro O R hO hR
    have h0:O 0=o:=hO 0 o (by simp)
    have hr0:R 0=r:=hR 0 r (by simp)
    obtain ⟨h1,h2,h3⟩:=ih (fun k=>O (k+1)) (fun k=>R (k+1)) (fun i o' h=>hO (i+1) o' (by simpa using h)) (fun i r' h=>hR (i+1) r' (by simpa using h))
    have hE:∀ i,runX (wrE O R) e (fun _=>true) (i+1)=runX (wrE (fun k=>O (k+1)) fun k=>R (k+1)) (apW e (wr1E o r)) (fun _=>true) i:=fun i=>by
      rw [z615]
      have:wrE O R 0=wr1E o r:=by rw [← h0,← hr0];rfl
      rw [this];rfl
    have hOb:∀ i,runX (wrO O R) ob (fun _=>true) (i+1)=runX (wrO (fun k=>O (k+1)) fun k=>R (k+1)) (apW ob (wr1O o r)) (fun _=>true) i:=fun i=>by
      rw [z615]
      have:wrO O R 0=wr1O o r:=by rw [← h0,← hr0];rfl
      rw [this];rfl
    refine ⟨fun i hi=>?_,?_,?_⟩
    · cases i with
      | zero=>rw [h0,hr0];exact hs
      | succ i=>rw [hE,hOb];exact h1 i (by simpa using hi)
    · simp only [y55];rw [hE];exact h2
    · simp only [y55];rw [hOb];exact h3
theorem z909 {ops:Array Oper} {x y:Oper} {r s:StepR} {ord:Prop} (h:z486 (acc1 ops x r) (acc1 ops y s)=true→ord):Apart ops x y r s ord:=by
 have hw:∀ (o:Oper) (r:StepR),(acc1 ops o r).rt=z537 ops o∧(acc1 ops o r).wt=o.dst.toList:=fun o r=>by
  unfold acc1;split<;>exact ⟨rfl,rfl⟩
 have c1:z319 (acc1 ops x r).wt (acc1 ops y s).rt=true→z486 (acc1 ops x r) (acc1 ops y s)=true:=fun h=>by unfold z486;rw [h]
 have c2:z319 (acc1 ops x r).wt (acc1 ops y s).wt=true→z486 (acc1 ops x r) (acc1 ops y s)=true:=fun h=>by unfold z486;rw [h];cases z319 (acc1 ops x r).wt (acc1 ops y s).rt<;>rfl
 have c3:z319 (acc1 ops x r).rt (acc1 ops y s).wt=true→z486 (acc1 ops x r) (acc1 ops y s)=true:=fun h=>by unfold z486;rw [h];cases z319 (acc1 ops x r).wt (acc1 ops y s).rt<;>cases z319 (acc1 ops x r).wt (acc1 ops y s).wt<;>rfl
 have c4:((acc1 ops x r).ow || (acc1 ops y s).ow)=true→z319 (acc1 ops x r).oa (acc1 ops y s).oa=true→z486 (acc1 ops x r) (acc1 ops y s)=true:=fun h h'=>by unfold z486;rw [h,h'];cases z319 (acc1 ops x r).wt (acc1 ops y s).rt<;>cases z319 (acc1 ops x r).wt (acc1 ops y s).wt<;>cases z319 (acc1 ops x r).rt (acc1 ops y s).wt<;>rfl
 refine ⟨fun d h1 h2=>h (c1 ?_),fun d h1 h2=>h (c2 ?_),fun d h1 h2=>h (c3 ?_),fun c c' hr hs hc hc' he ho=>h (c4 ?_ ?_)⟩
 ·rw [(hw x r).2,(hw y s).1];exact z493 (x:=d) (by simp [h1]) h2
 ·rw [(hw x r).2,(hw y s).2];exact z493 (x:=d) (by simp [h1]) (by simp [h2])
 ·rw [(hw x r).1,(hw y s).2];exact z493 (x:=d) h1 (by simp [h2])
 ·unfold acc1;rw [hr,hs];simpa [z826] using ho
 ·unfold acc1;rw [hr,hs]
  exact z493 (x:=c.o) (List.mem_map.2 ⟨c,hc,rfl⟩) (List.mem_map.2 ⟨c',hc',he.symm⟩)
theorem awp_draw (hT : z135 P T) (hM : P.follows .mixedOrders = true) {m id n : Nat} {ops : Array Oper} {Q : Exit → St → Prop} {env : List (Nat × AC)} {objs : List AObj}
    (h:z307 T P ops n env objs ops.toList [] fun env objs=>Q .normal (mkSt n env objs)):AWP P m (.region id ops true) Q (mkSt n env objs):=fun G a w hR ro hro=>by
  obtain ⟨rs,env',objs',hch,hok,hlen,hK⟩:=chain_of hT _ _ _ _ _ h
  rw [List.nil_append] at hok
  have hlen:rs.length=ops.size:=by simpa using hlen
  have hO:∀ (i:Nat) (o:Oper),ops.toList[i]?=some o→ops.toList.getD i default=o:=fun i o h=>by rw [y65,h];rfl
  have hRr:∀ (i:Nat) (r:StepR),rs[i]?=some r→rs.getD i default=r:=fun i r h=>by rw [y65,h];rfl
  obtain ⟨h1,h2,h3⟩:=z1240 hch (fun i=>ops.toList.getD i default) (fun i=>rs.getD i default) hO hRr
  rw [Array.length_toList] at h1 h2 h3
  unfold z40 at hok
  split at hok
  · rename_i bs hbs
    obtain ⟨_,hb2,hb3⟩:=z823 ops.toList [] bs hbs
    have hoi:∀ i,i < ops.size→ops.toList[i]?=some (ops.toList.getD i default):=fun i hi=>by
      rw [y65,y42 (by simpa using hi)];rfl
    have hri:∀ i,i < ops.size→rs[i]?=some (rs.getD i default):=fun i hi=>by
      rw [y65,y42 (by omega)];rfl
    have hacc:∀ i,i < ops.size→((ops.toList.zip rs).map fun p=>acc1 ops p.1 p.2)[i]?=some (acc1 ops (ops.toList.getD i default) (rs.getD i default)):=fun i hi=>by
      have:=List.getElem?_zip_eq_some (z:=(ops.toList.getD i default,rs.getD i default)).2 ⟨hoi i hi,hri i hi⟩
      rw [y48,this];rfl
    have H:RegOk P ops n (z113 env) (z47 objs) (fun i=>ops.toList.getD i default) (fun i=>rs.getD i default) (fun i j=>(bs.getD j 0).testBit i=true):=by
      refine ⟨fun i hi=>by simpa using hoi i hi,h1,fun i j hij hj=>?_,fun i j hj ho=>?_,fun j hj e he hb=>?_⟩
      · refine z909 fun hc=>?_
        exact z1014 _ [] (by simpa using hok) i j _ _ hij (by simp) (by simpa using hacc i (by omega)) (by simpa using hacc j hj) hc
      · obtain ⟨hbl,bs',hbj,hbq⟩:=hb3 j _ (hoi j hj)
        simp only [y56,Nat.zero_add] at hbl hbj hbq
        have ho:(bs.getD j 0).testBit i=true:=ho
        rw [y65,hbj] at ho
        obtain ⟨e,he,hb,hor⟩:=z705 _ ho
        have hlt:=z327 _ hbl e he hb
        refine ⟨e,by simpa using he,hb,hlt,hor.imp (fun h=>h) fun h=>?_⟩
        rw [← hbq e.on hlt];exact h
      · obtain ⟨hbl,_⟩:=hb3 j _ (hoi j hj)
        simp only [y56,Nat.zero_add] at hbl
        exact z327 _ hbl e (by simpa using he) hb
    refine wpIn_region_any hM ?_
    have hgd:∀ i,(Array.replicate ops.size false).getD i false=false:=fun i=>by
      rw [y78]
      by_cases hi:i < ops.size
      · rw [Array.getElem?_replicate,if_pos hi];rfl
      · rw [Array.getElem?_replicate,if_neg hi];rfl
    have hnone:∀ {α:Type} (wr:Nat→List (Nat×α)) (f:Nat→α) (k:Nat),runX wr f (fun i=>(Array.replicate ops.size false).getD i false) k=f:=by
      intro α wr f k
      induction k with
      | zero=>rfl
      | succ k ih=>rw [z466 (hgd k),ih]
    refine z1267 (ro:=ro) hro (next:=objs.length) (m:=m) (G0:=G) (w0:=w) H (fun G' a' w' hs hl hR'=>?_) ops.size _ G a _ (by simp) (by
      refine Nat.le_trans List.countP_le_length ?_
      simp) (fun j hj hXj=>by
        have h0:(Array.replicate ops.size false).getD j false=true:=hXj
        rw [hgd j] at h0;cases h0) (SubM.refl m G) ⟨rfl,rfl,rfl,y49 _⟩ ?_
    · exact ⟨G',mkSt n env' objs',hs,hl,hK,hR'.same h2.symm h3.symm rfl⟩
    · rw [hnone,hnone]
      exact ⟨⟨hR.wf.hS,hR.wf.hU,hR.wf.su,hR.wf.sk,hR.wf.objs⟩,hR.env,hR.size,hR.defers⟩
  · cases hok
def vcS (T:Tab) (P:Program) (m:Nat) (c:Code) (n:Nat) (env:List (Nat×AC)) (objs:List AObj) (Q:Exit→St→Prop):Prop:=match c with
 |.region _ ops true=>z307 T P ops n env objs ops.toList [] fun env objs=>Q .normal (mkSt n env objs)
 |.seq a b=>vcS T P m a n env objs (z655 (AWP P m b Q) Q)
 |c=>vc1 T P m c n env objs Q
def isStep:Code→Bool
 |.region ..=>true
 |.seq a _=>isStep a
 |.cond ..=>true
 |.block ..=>true
 |.skip=>true
 |.ret=>true
 |.exit _=>true
 |_=>false
structure Ok (P:Program) (T:Tab):Prop where
 tab:z135 P T
 mixed:P.follows .mixedOrders=true
theorem y6 (hT:Ok P T) {m:Nat} (c:Code) (n:Nat) (env:List (Nat×AC)) (objs:List AObj) (Q:Exit→St→Prop) (_hc:isStep c=true) (h:vcS T P m c n env objs Q):AWP P m c Q (mkSt n env objs):=by
 induction c generalizing Q with
 |region id ops draw=>cases draw with
  |true=>exact awp_draw hT.tab hT.mixed h
  |false=>exact AWP.step hT.tab _ n env objs Q h
 |seq a b iha _=>exact z1258 (iha _ _hc h)
 |_=>exact AWP.step hT.tab _ n env objs Q h
end Go.Gl
namespace Go.Gl
variable {P:Program} {T:Tab} {st:St} {K:OpK}
theorem z703 {α : Type} (f : α → List AC) (l : List α) (z : List AC) (k : Nat) (h : k < l.length) :
    ((l.take k).map f++List.replicate (l.length - k) z).set k (f l[k])=(l.take (k+1)).map f++List.replicate (l.length - (k+1)) z:=by
  apply List.ext_getElem?
  intro i
  have e1:min k l.length=k:=by omega
  have e2:min (k+1) l.length=k+1:=by omega
  simp only [List.getElem?_set,List.getElem?_append,y46,y45,y48,List.getElem?_take,List.getElem?_replicate,y44,y43,e1,e2]
  by_cases h1:k=i
  · subst h1
    rw [if_pos rfl,if_pos (by omega),if_pos (by omega),if_pos (by omega),y42 h]
    rfl
  · rw [if_neg h1]
    by_cases h2:i < k
    · have h3:i < k+1:=by omega
      simp [h2,h3]
    · have h3:¬ i < k+1:=by omega
      rw [if_neg h2,if_neg h3]
      by_cases h4:i - k < l.length - k
      · have h5:i - (k+1) < l.length - (k+1):=by omega
        rw [if_pos h4,if_pos h5]
      · have h5:¬ i - (k+1) < l.length - (k+1):=by omega
        rw [if_neg h4,if_neg h5]
theorem fill_get {α : Type} (f : α → List AC) (l : List α) (z : List AC) (k : Nat) (h : k < l.length) :
    ((l.take k).map f++List.replicate (l.length - k) z)[k]?=some z:=by
  rw [y64 (by simp;omega),List.getElem?_replicate,if_pos (by simp;omega)]
theorem z545 {α:Type} (f:α→List AC) (l:List α) (i:Nat) (h:i < l.length):(l.map f)[i]?=some (f l[i]):=by simp [h]
theorem z35 {p:Prop} [Decidable p] {A B:Prop} (h1:¬ p→A) (h2:p→B):vcIf (!decide p) A B:=by
 by_cases h:p
 ·rw [y79 h];exact h2 h
 ·rw [y80 h];exact h1 h
def z900:AObj→Prop
 |.cells _ es=>Flat es
 |.dead=>True
 |.mp _ _=>True
 |.fresh=>False
theorem z899 {x:AObj} (h:z900 x) (r:Nat→Nat):z126 r x=x:=by
 cases x with
 |cells w es=>exact Flat.ren h r
 |_=>rfl
theorem z700 {x:AObj} (h:z900 x) (M:Nat):z277 M x:=by
 cases x with
 |cells w es=>exact fun e he=>z381 (h e he) M
 |dead=>trivial
 |mp _ _=>trivial
 |fresh=>exact h.elim
def newsK (st:St) (k:Nat) (q:Nat) (K:List Nat→Prop):Prop:=match k with
 |0=>K []
 |k+1=>match st.objs q with
  |.fresh=>newsK st k (q+1) fun ν=>K (q::ν)
  |_=>False
theorem z1020 {k q:Nat} {K:List Nat→Prop} (h:newsK st k q K):∃ ν,K ν∧ν.length=k∧∀ o∈ν,z380 (st.objs o)=true:=by
 induction k generalizing q K with
 |zero=>exact ⟨[],h,rfl,by simp⟩
 |succ k ih =>
  simp only [newsK] at h
  split at h
  ·rename_i hq
   obtain ⟨ν,h1,h2,h3⟩:=ih h
   refine ⟨q::ν,h1,by simp [h2],fun o ho=>?_⟩
   rcases List.mem_cons.1 ho with rfl|ho
   ·rw [hq];rfl
   ·exact h3 o ho
  ·exact h.elim
def z226:List Nat→Bool
 |[]=>true
 |x::xs=>match inB xs x with
  |true=>false
  |false=>z226 xs
theorem z180 {l:List Nat} (h:z226 l=true):l.Nodup:=by
 induction l with
 |nil=>exact List.nodup_nil
 |cons x xs ih =>
  simp only [z226] at h
  split at h
  ·cases h
  ·rename_i hb
   refine List.nodup_cons.2 ⟨fun hm=>?_,ih h⟩
   rw [z286.2 hm] at hb;cases hb
mutual
def renK (r:Nat→Nat) (x:AC) (K:AC→Prop):Prop:=match x with
 |.any=>K .any
 |.raw v=>K (.raw v)
 |.list w n es=>K (.list w n es)
 |.pt cs=>K (.pt cs)
 |.sref o off len=>z233 (r o) fun q=>K (.sref q off len)
 |.ptr o i off=>z233 (r o) fun q=>K (.ptr q i off)
 |.mref o=>z233 (r o) fun q=>K (.mref q)
 |.own w es=>K (.own w es)
 |.fn f a b=>z862 r a fun a'=>z862 r b fun b'=>K (.fn f a' b')
 |.agg cs=>z862 r cs fun cs'=>K (.agg cs')
 |.tup cs=>z862 r cs fun cs'=>K (.tup cs')
termination_by structural x
def z862 (r:Nat→Nat) (xs:List AC) (K:List AC→Prop):Prop:=match xs with
 |[]=>K []
 |x::xs=>renK r x fun x'=>z862 r xs fun r'=>K (x'::r')
termination_by structural xs
end
mutual
theorem z536 (r:Nat→Nat) (x:AC) (K:AC→Prop):renK r x K=K (x.ren r):=by
 match x with
 |.any=>rfl
 |.raw _=>rfl
 |.list ..=>rfl
 |.pt _=>rfl
 |.sref ..=>simp only [renK,z116,AC.ren]
 |.ptr ..=>simp only [renK,z116,AC.ren]
 |.mref _=>simp only [renK,z116,AC.ren]
 |.own ..=>rfl
 |.fn f a b=>simp only [renK,AC.ren];rw [z398 r a];rw [z398 r b]
 |.agg cs=>simp only [renK,AC.ren];rw [z398 r cs]
 |.tup cs=>simp only [renK,AC.ren];rw [z398 r cs]
termination_by structural x
theorem z398 (r:Nat→Nat) (xs:List AC) (K:List AC→Prop):z862 r xs K=K (renL r xs):=by
 match xs with
 |[]=>rfl
 |x::xs=>simp only [z862,renL];rw [z536 r x];rw [z398 r xs]
termination_by structural xs
end
theorem z813 {f : FuncId} {first caps args args0 : List AC} {objs0 objs1 : List AObj} {res : AC} (π Bn : List Nat) (h : CallsA P f args0 objs0 res objs1) (hb : borL st.objs π Bn (first ++ (args ++ caps)) = args0) (hp : π.map (z81 st.objs π Bn) = objs0)
    (hπ:∀ o∈π,z169 (st.objs o)=true) (hu:res.under objs1.length=true) (hf:∀ x∈objs1,z900 x) (hpl:Bn=[]∨(res.plain=true∧∀ x∈objs1,z341 x)) (hlen:π.length≤objs1.length)
    (k:z233 st.next fun q=>newsK st (objs1.length - π.length) q fun ν=>z76 (z226 (π++ν++Bn)) (renK (z65 0 (π++ν)) res fun res1=>K res1 (z191 st (π++ν) objs1++Bn.map st.rd))):z18 P st (.fn (.func f) first caps) args K:=by
  rw [z116] at k
  obtain ⟨ν,k,h1,h2⟩:=z1020 k
  obtain ⟨h3,k⟩:=z32 k
  rw [z536] at k
  have hmap:objs1.map (z126 (z65 0 (π++ν)))=objs1:=by
    conv=>rhs;rw [← List.map_id objs1]
    exact List.map_congr_left fun x hx=>z899 (hf x hx) _
  refine ⟨⟨π,Bn,ν,args0,objs0,res,objs1,res.ren (z65 0 (π++ν)),objs1⟩,⟨h,hb,hp,z180 h3,hπ,h2,?_,rfl,hmap,hu,fun x hx=>z700 (hf x hx) _,hpl⟩,?_⟩
  · simp [h1];omega
  · exact k
mutual
theorem z260 (x:AC) {r:Nat→Nat} (h:x.under 0=true):x.ren r=x:=by
 match x with
 |.any=>rfl
 |.raw _=>rfl
 |.list ..=>rfl
 |.pt _=>rfl
 |.sref ..=>simp [AC.under,Nat.blt_eq] at h
 |.ptr ..=>simp [AC.under,Nat.blt_eq] at h
 |.mref _=>simp [AC.under,Nat.blt_eq] at h
 |.own ..=>rfl
 |.fn f a b =>
  simp only [AC.under] at h
  cases h1:z138 0 a<;>rw [h1] at h
  ·simp at h
  ·simp only [AC.ren];rw [z223 a h1];rw [z223 b h]
 |.agg cs=>simp only [AC.under] at h;simp only [AC.ren];rw [z223 cs h]
 |.tup cs=>simp only [AC.under] at h;simp only [AC.ren];rw [z223 cs h]
termination_by structural x
theorem z223 (xs:List AC) {r:Nat→Nat} (h:z138 0 xs=true):renL r xs=xs:=by
 match xs with
 |[]=>rfl
 |x::xs =>
  simp only [z138] at h
  cases h1:x.under 0<;>rw [h1] at h
  ·simp at h
  ·simp only [renL];rw [z260 x h1];rw [z223 xs h]
termination_by structural xs
end
theorem z8 {f:FuncId} {first caps args args0:List AC} {res:AC} (h:CallsA P f args0 [] res []) (hb:borL st.objs [] [] (first++(args++caps))=args0) (hu:res.under 0=true) (k:z416 res fun r=>K r []):z18 P st (.fn (.func f) first caps) args K:=by
 refine z813 [] [] h hb rfl (by simp) hu (by simp) (.inl rfl) (y49 _) ?_
 rw [z116]
 show z76 true _
 rw [z536]
 rw [z141] at k
 show K (res.ren (z65 0 [])) []
 rw [z260 res hu]
 exact k
end Go.Gl
namespace Go.Gl
variable {P:Program} {T:Tab}
def Reach (m:Nat) (st st' : St):Prop:=∀ G a w,Rel G st a w→∃ G',SubM m G G'∧Rel G' st' a w
theorem Reach.trans {m:Nat} {a b c:St} (h:Reach m a b) (k:Reach m b c):Reach m a c:=fun G ac w hR=>by
 obtain ⟨G1,h1,h2⟩:=h G ac w hR
 obtain ⟨G2,h3,h4⟩:=k G1 ac w h2
 exact ⟨G2,h1.trans h3,h4⟩
theorem PickL.reach {π:List Nat} {m n:Nat} {st:St} {env:List (Nat×AC)} {objs:List AObj} (h:PickL π m n st env objs):Reach m st (mkSt n env objs):=fun G a w hR=>by
 obtain ⟨π',h1,h2⟩:=h.ok
 exact ⟨G.pick π',SubM.pick h1,hR.pick h2⟩
theorem AWP.reach {m:Nat} {c:Code} {Q:Exit→St→Prop} {st st' : St} (hp:Reach m st st') (h:AWP P m c Q st'):AWP P m c Q st:=fun G a w hR=>by
 obtain ⟨G',h1,h2⟩:=hp G a w hR
 exact z200 (h G' a w h2) fun ex a' w' hq=>hq.trans h1 (Le.refl w)
theorem z1259 {α : Type} {m n : Nat} {env : List (Nat × AC)} {objs : List AObj} {body : Code} {Q : Exit → St → Prop} (I : α → List (Nat × AC) × List AObj) (ok : α → Prop) (μ : α → Nat) (x0 : α) (h0 : ok x0) (hinit : Reach m (mkSt n env objs) (mkSt n (I x0).1 (I x0).2))
    (round:∀ x,ok x→AWP P m body (z655 (fun st'=>∃ y,ok y∧μ y < μ x∧Reach m st' (mkSt n (I y).1 (I y).2)) Q) (mkSt n (I x).1 (I x).2)):AWP P m (.loop body) Q (mkSt n env objs):=fun G a w hR=>by
  let J:Act→World→Nat→Prop:=fun a' w' k=>∃ x,ok x∧μ x=k∧∃ G',SubM m G G'∧Le w w'∧Rel G' (mkSt n (I x).1 (I x).2) a' w'
  refine z919 (fun a' w'=>∃ k,J a' w' k) (fun a' w'=>z547 (J a' w')) ?_ ?_
  · obtain ⟨G',h1,h2⟩:=hinit G a w hR
    exact ⟨_,x0,h0,rfl,G',h1,Le.refl w,h2⟩
  · rintro a' w' ⟨k,hk⟩
    obtain ⟨⟨x,hx,hμ,G',hs,hl,hR'⟩,_⟩:=z242 hk
    refine z200 (round x hx G' a' w' hR') fun ex a'' w'' hq=>?_
    cases ex with
    | normal =>
      obtain ⟨G'',st'',h1,h2,⟨y,hy,hlt,hp⟩,h4⟩:=hq
      obtain ⟨G3,h5,h6⟩:=hp G'' a'' w'' h4
      have hJ' : J a'' w'' (μ y):=⟨y,hy,rfl,G3,(hs.trans h1).trans h5,hl.trans h2,h6⟩
      refine ⟨⟨_,hJ'⟩,?_⟩
      have:=(z242 hJ').2
      omega
    | _=>exact hq.trans hs hl
noncomputable def Ghost.seal_ (G:Ghost) (h:Nat→Option Obj) (π Bn:List Nat):Ghost:={ G.sub h π Bn with U:=G.U }
structure SealL (π Bn:List Nat) (m n:Nat) (st:St) (env:List (Nat×AC)) (objs:List AObj):Prop where
 n:st.n=n
 nodup:z226 π=true
 dis:∀ o∈π,o ∉ Bn
 fix:z267 m 0 π=true
 alive:∀ o∈π,z169 (st.objs o)=true
 env:z804 (fun s x=>bor st.objs π Bn (st.env s)=x) env
 obj:π.map (z81 st.objs π Bn)=objs
theorem SealL.reach {π Bn:List Nat} {m n:Nat} {st:St} {env:List (Nat×AC)} {objs:List AObj} (h:SealL π Bn m n st env objs):Reach m st (mkSt n env objs):=fun G a w hR=>by
 have hn:=z180 h.nodup
 have hW:=z1269 (Bn:=Bn) hR.wf hn h.dis h.alive
 rw [h.obj] at hW
 have hbor:=z431 (π:=π) (Bn:=Bn) hR.wf
 have hW' : Wf (G.seal_ (hp w) π Bn) (z47 objs) w:=by
  refine ⟨hW.hS,hR.wf.hU,fun b x hu=>?_,fun b p hk=>?_,fun o=>?_⟩
  ·have hu:G.U b=some x:=hu
   cases hkb:G.κ b with
   |none=>show (G.sub (hp w) π Bn).S b=none;simp [Ghost.sub,hkb];exact hR.wf.su b x hu
   |some p=>have:=(hR.wf.sk b p hkb).2.1;rw [hu] at this;cases this
  ·have hk' : (G.sub (hp w) π Bn).κ b=some p:=hk
   obtain ⟨h1,_,h3⟩:=hW.sk b p hk'
   refine ⟨h1,?_,h3⟩
   show G.U b=none
   cases hkb:G.κ b with
   |none=>simp [Ghost.sub,hkb] at hk'
   |some q=>exact (hR.wf.sk b q hkb).2.1
  ·refine z225 (G:=G.sub (hp w) π Bn) (h:=hp w) (fun _ _ e=>e) (fun _ _ e=>e) rfl (fun b p _ hk=>⟨hk,rfl⟩) (hW.objs o)
 refine ⟨G.seal_ (hp w) π Bn,⟨⟨fun b x e=>hbor.S b x e,rfl⟩,fun o t ho e=>?_⟩,⟨hW',fun s=>?_,by show _=n;rw [← h.n];exact hR.size,hR.defers.mono (fun b x e=>hbor.S b x e)⟩⟩
 ·have:=z161 m 0 π h.fix o ho
  rw [Nat.zero_add] at this
  exact sub_ι (w:=w) (Bn:=Bn) (z230 hn this) e
 ·rcases z382 env _ h.env s with he|he
  ·show V _ _ none (z113 env s) _
   rw [he];simp [V]
  ·show V _ _ none (z113 env s) _
   rw [← he]
   have:=V_bor _ hbor _ (hR.env s)
   exact z149 (G:=G.sub (hp w) π Bn) (G':=G.seal_ (hp w) π Bn) (fun _ _ e=>e) (fun _ _ e=>e) this
theorem z244 {objs:Nat→AObj} {π Bn:List Nat} {o w len:Nat} {es:List (List AC)} (ho:objs o=.cells w es) (h1:idx π o=none) (h2:inB Bn o=true) (hl:es.length=len):bor objs π Bn (.sref o 0 len)=.list w len (z80 es):=by
 simp only [bor,h1,h2,ho]
 rw [if_pos (by omega)]
 rw [List.drop_zero,y54 (by rw [z208];simp [hl])]
theorem z730 {es:List (List AC)} (h:∀ e∈es,∀ x∈e,x.unown=x):z80 es=es:=by
 rw [z208]
 conv=>rhs;rw [← List.map_id es]
 refine List.map_congr_left fun e he=>?_
 conv=>rhs;rw [id,← List.map_id e]
 exact List.map_congr_left fun x hx=>h e he x hx
noncomputable def Ghost.absorb (G:Ghost) (o q pos:Nat):Ghost:={ G with κ:=fun b=>match G.κ b with
 |some (q',p)=>if q'=q then some (o,p++[pos]) else some (q',p)
 |none=>none }
theorem z1068 (x:AC) {G:Ghost} {h:Nat→Option Obj} {l:Loc} {v:Value} (hf:x.flat=true) (hv:V G h l x v):V G.bare h l x v:=by
 cases x<;>first|(cases hf;done)|(simp only [V] at hv ⊢<;>exact hv)|simp only [V]
theorem z831 {G:Ghost} {h:Nat→Option Obj} {l:Loc} {w:Nat} {es:List (List AC)} {c:Array Value} {off:Nat} (hf:Flat es) (hc:VLL G h l w es c off):VLL G.bare h l w es c off:=by
 rw [z74] at hc ⊢
 intro i e he
 obtain ⟨h1,h2⟩:=hc i e he
 refine ⟨h1,?_⟩
 rw [z70] at h2 ⊢
 intro j x hx
 obtain ⟨v,hv1,hv2⟩:=h2 j x hx
 exact ⟨v,hv1,z1068 x (z266.1 (hf e (List.mem_of_getElem? he)) x (List.mem_of_getElem? hx)) hv2⟩
theorem absorb_S {G:Ghost} {o q pos:Nat} : ∀ b x,G.S b=some x→(G.absorb o q pos).S b=some x:=fun _ _ e=>e
theorem Wf.absorb {G : Ghost} {objs : Nat → AObj} {w : World} (hW : Wf G objs w) {o q k j wd wd2 n : Nat} {es es2 : List (List AC)} {e : List AC} (ho : objs o = .cells wd es) (he : es[k]? = some e) (hj : e[j]? = some (.sref q 0 n)) (hq : objs q = .cells wd2 es2) (hn : es2.length = n) (hoq : o ≠ q) (hfl : Flat es2) :
    Wf (G.absorb o q (k * wd+j)) (upd (upd objs o (.cells wd (es.set k (e.set j (.own wd2 es2))))) q .dead) w:=by
  obtain ⟨b,c,el,hι,hκ,hb,hc⟩:=hW.obj ho he
  have hκ' : ∀ b' p,p.1≠q→G.κ b'=some p→(G.absorb o q (k * wd+j)).κ b'=some p:=by
    rintro b' ⟨q',p⟩ hne hk
    simp only [Ghost.absorb,hk,if_neg hne]
  have hκq:∀ b' p,p.1=q→G.κ b'=some p→(G.absorb o q (k * wd+j)).κ b'=some (o,p.2++[k * wd+j]):=by
    rintro b' ⟨q',p⟩ rfl hk
    simp only [Ghost.absorb,hk,if_true]
  refine ⟨hW.hS,hW.hU,hW.su,fun b' p hk=>?_,fun o'=>?_⟩
  · cases hkb:G.κ b' with
    | none=>simp [Ghost.absorb,hkb] at hk
    | some p'=>exact hW.sk b' p' hkb
  · by_cases h1:o'=q
    · subst h1;rw [z36];trivial
    · rw [z52 _ _ h1]
      by_cases h2:o'=o
      · subst h2
        rw [z36]
        refine .inr ⟨b,c.size,c,el,hι,hκ' b (o',[]) (by simpa using h1) hκ,hb,rfl,?_⟩
        have hkl:k < es.length:=by
          rcases y67 k es.length with h|h
          · exact h
          · rw [y66 h] at he;cases he
        have hmv:∀ (x:AC) (pos:Nat) (v:Value),V G (hp w) (some (o',[pos])) x v→V (G.absorb o' q (k * wd+j)) (hp w) (some (o',[pos])) x v:=fun x pos v hv=>by
          have:=z302 x G (G.absorb o' q (k * wd+j)) (hp w) (hp w) id (fun p=>p.1=o') (fun _ _ e=>e) (fun _ _ e=>e) (fun _ _ _=>rfl) (fun _ _ _ h=>h) (fun b' p hp hk=>⟨hκ' b' p (by rw [hp];exact h1) hk,rfl⟩) (some (o',[pos])) v (fun p hp=>by cases hp;rfl) hv
          simpa using this
        rw [z74] at hc ⊢
        intro i e' he'
        by_cases hik:i=k
        · subst hik
          rw [List.getElem?_set_self hkl] at he'
          cases he'
          obtain ⟨h3,h4⟩:=hc i e he
          refine ⟨by simpa using h3,?_⟩
          rw [z70] at h4 ⊢
          intro jj x hx
          by_cases hjj:jj=j
          · subst hjj
            have hjl:jj < e.length:=by
              rcases y67 jj e.length with h|h
              · exact h
              · rw [y66 h] at hj;cases hj
            rw [List.getElem?_set_self hjl] at hx
            cases hx
            obtain ⟨v,hv1,hv2⟩:=h4 jj _ hj
            refine ⟨v,hv1,?_⟩
            simp only [V] at hv2
            obtain ⟨cap,hcap,hv2⟩:=hv2
            simp only [V,Loc.cell,Option.map_some]
            rcases hv2 with ⟨h5,ad,rfl⟩|⟨b2,s2,w2,h5,h6,rfl⟩
            · have hn0:n=0:=by omega
              subst hn0
              have:es2=[]:=y71 hn
              subst this
              exact ⟨ad,0,rfl,y49 _,.inl ⟨rfl,rfl⟩⟩
            · have hobq:=hW.objs q
              rw [hq] at hobq
              rcases hobq with ⟨_,h7⟩|⟨b3,s3,c3,el3,h7,h8,h9,h10,h11⟩
              · rw [h5] at h7;cases h7
              · rw [h5] at h7;cases h7
                rw [Nat.zero_mul]
                refine ⟨some ⟨b2,0,none⟩,cap,by rw [hn],by omega,.inr ⟨b2,c3,el3,(o',[i * wd+jj]),rfl,by rw [Nat.zero_add],by have:=hκq b2 (q,[]) rfl h8;simpa using this,h9,by rw [h10];simpa using h6,?_⟩⟩
                have:=z190 es2 G.bare (G.absorb o' q (i * wd+jj)).bare (hp w) (hp w) (fun p=>(o',p.2++[i * wd+jj])) (fun p=>p.1=q) (fun _ _ e=>e) (fun _ _ e=>e) (fun _ _ _=>rfl) (fun _ _ _ h=>h) (fun b' p hp hk=>⟨hκq b' p hp hk,rfl⟩) (some (q,[])) wd2 c3 0 (fun p hp _=>by cases hp;rfl) (z831 hfl h11)
                simpa [Nat.zero_add] using this
          · rw [List.getElem?_set_ne (Ne.symm hjj)] at hx
            obtain ⟨v,hv1,hv2⟩:=h4 jj x hx
            exact ⟨v,hv1,by simpa [Loc.cell] using hmv x _ v (by simpa [Loc.cell] using hv2)⟩
        · rw [List.getElem?_set_ne (Ne.symm hik)] at he'
          obtain ⟨h3,h4⟩:=hc i e' he'
          refine ⟨h3,?_⟩
          rw [z70] at h4 ⊢
          intro jj x hx
          obtain ⟨v,hv1,hv2⟩:=h4 jj x hx
          exact ⟨v,hv1,by simpa [Loc.cell] using hmv x _ v (by simpa [Loc.cell] using hv2)⟩
      · rw [z52 _ _ h2]
        exact z225 absorb_S (fun _ _ e=>e) rfl (fun b' p hp hk=>⟨hκ' b' p (by rw [hp];exact h1) hk,rfl⟩) (hW.objs o')
abbrev y82 := @AWP.reach
end Go.Gl
namespace Go.Gl
open Go.RowKit Go.WideShapes Go.ChangeShapes
variable {P:Program}
def z391 (w:Nat→Option Obj):Ghost:={ S:=w,U:=fun _=>none,ι:=fun _=>none,κ:=fun _=>none }
theorem Wf.start (W:World):Wf (z391 (hp W)) (z47 []) W where
 hS _ _ h:=h
 hU _ _ h:=by cases h
 su _ _ h:=by cases h
 sk _ _ h:=by cases h
 objs o:=by
  show ObjRel _ _ o (z47 [] o)
  have:z47 [] o=.fresh:=by simp [z47,z65]
  rw [this];rfl
def CellsV (h:Nat→Option Obj):List AC→List Value→Prop
 |[],[]=>True
 |x::xs,v::vs=>V (z391 h) h none x v∧CellsV h xs vs
 |_,_=>False
theorem CellsV.length {h:Nat→Option Obj} : {xs:List AC}→{vs:List Value}→CellsV h xs vs→xs.length=vs.length
 |[],[],_=>rfl
 |_::_,_::_,h=>by simp [h.2.length]
 |[],_::_,h=>h.elim
 |_::_,[],h=>h.elim
theorem CellsV.append {h:Nat→Option Obj} : {xs xs' : List AC}→{vs vs' : List Value}→CellsV h xs vs→CellsV h xs' vs'→CellsV h (xs++xs') (vs++vs')
 |[],_,[],_,_,k=>k
 |_::_,_,_::_,_,h,k=>⟨h.1,h.2.append k⟩
 |[],_,_::_,_,h,_=>h.elim
 |_::_,_,[],_,h,_=>h.elim
theorem CellsV.get {h:Nat→Option Obj} : {xs:List AC}→{vs:List Value}→CellsV h xs vs→∀ (j:Nat) (x:AC),xs[j]?=some x→∃ v,vs[j]?=some v∧V (z391 h) h none x v
 |[],_,_,j,x,e=>by cases e
 |x::xs,v::vs,k,0,y,e=>by cases e;exact ⟨v,rfl,k.1⟩
 |x::xs,v::vs,k,j+1,y,e=>by simpa using k.2.get j y (by simpa using e)
 |_::_,[],k,_,_,_=>k.elim
theorem CellsV.VL {h:Nat→Option Obj} {xs:List AC} {vs:List Value} (k:CellsV h xs vs) {c:Array Value} {off:Nat} (hc:∀ j,j < vs.length→c[off+j]?=vs[j]?):Go.Gl.VL (z391 h) h none xs c off:=by
 rw [z70]
 intro j x hx
 obtain ⟨v,hv,hV⟩:=k.get j x hx
 refine ⟨v,?_,by simpa [Loc.cell] using hV⟩
 have:j < vs.length:=by
  rcases y67 j vs.length with h|h
  ·exact h
  ·rw [y66 h] at hv;cases hv
 rw [hc j this,hv]
mutual
def AC.wt (x:AC):Nat:=match x with
 |.list _ _ es=>AC.wtLL es+1
 |.raw _=>1
 |.any=>1
 |.pt _=>1
 |.sref ..=>1
 |.ptr ..=>1
 |.mref _=>1
 |.own ..=>1
 |.fn ..=>1
 |.agg _=>1
 |.tup _=>1
termination_by structural x
def AC.wtL (xs:List AC):Nat:=match xs with
 |[]=>0
 |x::xs=>AC.wt x+AC.wtL xs
termination_by structural xs
def AC.wtLL (es:List (List AC)):Nat:=match es with
 |[]=>0
 |e::es=>AC.wtL e+AC.wtLL es
termination_by structural es
end
def z570 {H:Type} (b:DataW H→Nat):List (DataW H)→Nat
 |[]=>0
 |d::r=>b d+z570 b r
structure Bulk {H:Type} (b:DataW H→Nat):Prop where
 lit:∀ l,1≤b (.lit l)
 nil:1≤b .nil
 slice:∀ es sp,z570 b es+1≤b (.slice es sp)
 agg:∀ ps,z570 b ps≤b (.agg ps)
theorem z1070 {H:Type} {b:DataW H→Nat} : (es:List (List AC))→(ds:List (DataW H))→(∀ (i:Nat) (e:List AC),es[i]?=some e→∃ d,ds[i]?=some d∧AC.wtL e≤b d)→AC.wtLL es≤z570 b ds
 |[],_,_=>y50 _
 |e::es,[],h=>by obtain ⟨d,hd,_⟩:=h 0 e rfl;cases hd
 |e::es,d::ds,h=>by
  obtain ⟨d',hd,h1⟩:=h 0 e rfl
  cases hd
  have:=z1070 es ds fun i e' he=>h (i+1) e' (by simpa using he)
  simp only [AC.wtLL,z570]
  omega
def Opens (P:Program) (t:TypeId) (R:List AC→Prop) (k:Nat):Prop:=∀ (H:Type) (enc:TypeId×Value→H) (b:DataW H→Nat) (_:Bulk b) (W:World) (cs:List Value) (x:DataW H×List MemPlace),
 DataW.trod enc P W 0 (fun _=>true) true k t cs=some x→∃ xs,R xs∧CellsV (hp W) xs cs∧AC.wtL xs≤b x.1
theorem Opens.imp {t:TypeId} {R R' : List AC→Prop} {k:Nat} (h:Opens P t R k) (hi:∀ xs,R xs→R' xs):Opens P t R' k:=fun H enc b hB W cs x hx=>by
 obtain ⟨xs,h1,h2⟩:=h H enc b hB W cs x hx
 exact ⟨xs,hi _ h1,h2⟩
theorem z1145 {t:TypeId} {q:IntKind} (ht:P.underlying t=some (.int q)) (k:Nat):Opens P t (fun xs=>∃ n,xs=[.raw (.int q n)]∧(Lit.int q n).wf=true) k:=fun H enc b hB W cs x hx=>by
 cases k with
 |zero=>simp [DataW.trod] at hx
 |succ k =>
  unfold DataW.trod at hx
  rw [ht] at hx
  split at hx<;>simp_all
  next n _ =>
   obtain ⟨⟨rfl,h⟩,rfl⟩:=hx
   exact ⟨_,⟨_,rfl,h⟩,by simp [CellsV,V],by simpa [AC.wtL,AC.wt] using hB.lit _⟩
theorem z1015 {t:TypeId} {R:List AC→Prop} : Opens P t R 0:=fun H enc b hB W cs x hx=>by simp [DataW.trod] at hx
theorem z567 {α:Type} {p:Nat→α→Prop} : ∀ (n:Nat),(∀ i,i < n→∃ a,p i a)→∃ l:List α,l.length=n∧∀ i a,l[i]?=some a→p i a
 |0,_=>⟨[],rfl,fun i a h=>by cases h⟩
 |n+1,h=>by
  obtain ⟨l,h1,h2⟩:=z567 n fun i hi=>h i (by omega)
  obtain ⟨a,ha⟩:=h n (by omega)
  refine ⟨l++[a],by simp [h1],fun i b hb=>?_⟩
  by_cases hi:i < l.length
  ·exact h2 i b (by rwa [y63 hi] at hb)
  ·rw [y64 (by omega)] at hb
   obtain rfl:i=n:=by
    have:=(List.getElem?_eq_some_iff.1 hb).1
    simp at this
    omega
   simp [h1] at hb
   exact hb ▸ ha
theorem z870 {t e : TypeId} {R : List AC → Prop} {n : Nat} (ht : P.underlying t = some (.slice e)) (hc : P.cellsOf e = n) (hn : 0 < n) {k : Nat} (h : Opens P e R k) :
    Opens P t (fun xs=>∃ es,xs=[.list n es.length es]∧es.length≤maxLen∧∀ y∈es,R y) (k+1):=fun H enc b hB W cs x hx=>by
  rcases DataW.trod_slice ht hx with ⟨rfl,rfl⟩|⟨a,len,cap,elems,rest,m,hm,rfl,rfl,hb,hl,hmx,hlen,hel,_,_⟩
  · refine ⟨_,⟨[],rfl,by simp [maxLen],fun y hy=>by cases hy⟩,⟨?_,trivial⟩,by simpa [AC.wtL,AC.wt,AC.wtLL] using hB.nil⟩
    simp only [V]
    exact ⟨none,0,rfl,y49 _,by simp,.inl (by simp)⟩
  · obtain rfl:k=m:=by omega
    have hcell:∀ (ad:Addr) v,W.cell? ad=some v→ad.spot=none∧∃ c el fz,W.heap[ad.block]?=some (.cells c el fz)∧c[ad.off]?=some v:=by
      intro ad v hv
      simp only [World.cell?] at hv
      split at hv
      · next c el fz hh =>
        cases hsp:ad.spot with
        | none=>exact ⟨rfl,c,el,fz,hh,by simpa [hsp] using hv⟩
        | some _=>simp [hsp] at hv
      · cases hv
    have elem:∀ i,i < len→∃ (cs:List Value) (y:List AC),R y∧CellsV (hp W) y cs∧(∃ d,(elems.map (·.1))[i]?=some d∧AC.wtL y≤b d)∧cs.length=n∧∀ j,j < n→W.cell? ((a.add (i * n)).add j)=cs[j]?:=by
      intro i hi
      have h1:=hel i hi
      rw [hc,y42 (by omega),Option.bind_eq_some_iff] at h1
      obtain ⟨cs,h2,h3⟩:=h1
      obtain ⟨y,hy,hcy,hwt⟩:=h H enc b hB W cs _ h3
      obtain ⟨_,hcl,hcg⟩:=World.cells?_some h2
      exact ⟨cs,y,hy,hcy,⟨_,by rw [y48,y42 (by omega)];rfl,hwt⟩,hcl,hcg⟩
    rcases Nat.eq_zero_or_pos len with rfl|hpos
    · refine ⟨_,⟨[],rfl,by simp [maxLen],fun y hy=>by cases hy⟩,⟨?_,trivial⟩,by
        have:=hB.slice (elems.map (·.1)) (rest.map (·.1))
        simp [AC.wtL,AC.wt,AC.wtLL]
        omega⟩
      simp only [V]
      exact ⟨some a,cap,rfl,y50 _,by simp,.inl (by simp)⟩
    · obtain ⟨hsp,c,el,fz,hblk⟩:a.spot=none∧∃ c el fz,W.heap[a.block]?=some (.cells c el fz):=by
        obtain ⟨cs,y,_,_,_,hcl,hcg⟩:=elem 0 hpos
        have:=hcg 0 hn
        rw [y42 (by omega)] at this
        obtain ⟨h1,c,el,fz,h2,_⟩:=hcell _ _ this
        exact ⟨by simpa [Addr.add] using h1,c,el,fz,by simpa [Addr.add] using h2⟩
      have hadd:∀ i j,((a.add i).add j)=⟨a.block,a.off+(i+j),none⟩:=by
        intro i j
        obtain ⟨b,o,sp⟩:=a
        simp only at hsp
        subst hsp
        simp only [Addr.add]
        split<;>split<;>simp_all [Nat.add_assoc]
      obtain ⟨es,hes,hget⟩:=z567 (p:=fun i y=>(R y∧∃ d,(elems.map (·.1))[i]?=some d∧AC.wtL y≤b d)∧y.length=n∧VL (z391 (hp W)) (hp W) none y c (a.off+i * n)) len (fun i hi=>by
        obtain ⟨cs,y,hy,hcy,hwt,hcl,hcg⟩:=elem i hi
        refine ⟨y,⟨hy,hwt⟩,by rw [hcy.length,hcl],hcy.VL fun j hj=>?_⟩
        have h1:=hcg j (by omega)
        rw [y42 hj] at h1 ⊢
        rw [hadd] at h1
        obtain ⟨_,c',_,_,h2,h3⟩:=hcell _ _ h1
        rw [hblk] at h2
        cases h2
        rw [← h3,Nat.add_assoc])
      refine ⟨_,⟨es,rfl,by omega,fun y hy=>?_⟩,⟨?_,trivial⟩,?_⟩
      · obtain ⟨i,hi⟩:=List.getElem?_of_mem hy
        exact (hget i y hi).1.1
      · simp only [V]
        obtain ⟨bk,o,sp⟩:=a
        simp only at hsp
        subst hsp
        refine ⟨some ⟨bk,o,none⟩,cap,by rw [hes],by omega,trivial,.inr ⟨bk,o,c,el,fz,rfl,hblk,?_⟩⟩
        rw [z74]
        exact fun i e he=>(hget i e he).2
      · have:=hB.slice (elems.map (·.1)) (rest.map (·.1))
        have:=z1070 es (elems.map (·.1)) fun i e he=>(hget i e he).1.2
        simp [AC.wtL,AC.wt]
        omega
def ArgOk (P:Program) (t:TypeId) (R:AC→Nat→Prop):Prop:=∀ (H:Type) (enc:TypeId×Value→H) (b:DataW H→Nat) (_:Bulk b) (W:World) (r:_root_.Go.Reach) (b0:Nat) (v:Value) (d:DataW H) (ps:List MemPlace),
 Value.okWide P W r b0 t v→DataW.Trod enc P W 0 (fun _=>true) true t v d ps→∃ x m,R x m∧V (z391 (hp W)) (hp W) none x v∧m≤b d
theorem z913 {t e:TypeId} {R:List AC→Prop} (ht:P.underlying t=some (.slice e)) (h:∀ k,Opens P t R k):ArgOk P t fun x m=>R [x]∧m=AC.wt x:=fun H enc b hB W r b0 v d ps hv ⟨k,hk⟩=>by
 obtain ⟨a,len,cap,rfl⟩:=okWide_slice ht hv
 obtain ⟨xs,h1,h2,h3⟩:=h k H enc b hB W _ _ hk
 have hl:=h2.length
 match xs,hl with
 |[x],_=>exact ⟨x,_,⟨h1,rfl⟩,h2.1,by simpa [AC.wtL] using h3⟩
def ArgsOk (P:Program):List TypeId→(List AC→Nat→Prop)→Prop
 |[],R=>R [] 0
 |t::ts,R=>∃ R1 R2,ArgOk P t R1∧ArgsOk P ts R2∧∀ a m as n,R1 a m→R2 as n→R (a::as) (m+n)
theorem z476 {H : Type} {enc : TypeId × Value → H} {b : DataW H → Nat} (hB : Bulk b) {W : World} {r : _root_.Go.Reach} {b0 : Nat} : (ts : List TypeId) → (vs : List Value) → (ds : List (DataW H)) → (ps : List MemPlace) → (R : List AC → Nat → Prop) → ArgsOk P ts R → 
  (∀ (j:Nat) t v,ts[j]?=some t→vs[j]?=some v→Value.okWide P W r b0 t v)→DataW.TrodAll enc P W 0 (fun _=>true) true ts vs ds ps→∃ xs m,R xs m∧CellsV (hp W) xs vs∧m≤z570 b ds
 |[],[],[],_,R,h,_,_=>⟨[],0,h,trivial,y50 _⟩
 |t::ts,v::vs,d::ds,_,R,⟨R1,R2,h1,h2,h3⟩,hv,⟨p,q,h4,h5,_⟩=>by
  obtain ⟨x,m,hx,hV,hm⟩:=h1 H enc b hB W r b0 v d p (hv 0 t v rfl rfl) h4
  obtain ⟨xs,n,hxs,hVs,hn⟩:=z476 hB ts vs ds q R2 h2 (fun j t' v' e e'=>hv (j+1) t' v' (by simpa using e) (by simpa using e')) h5
  exact ⟨x::xs,m+n,h3 x m xs n hx hxs,⟨hV,hVs⟩,by simp only [z570];omega⟩
end Go.Gl
namespace Go.Gl
open Go.RowKit Go.WideShapes Go.ChangeShapes
variable {P:Program}
theorem below_of {G' : Ghost} {W W' : World} {o:Nat→AObj} (hle:Le W W') (hs:(z391 (hp W)).Sub G') (hw:Wf G' o W'):Below W.heap.size W W' where
 os:=hle.os
 tape:=hle.tape
 output:=hle.output
 size:=hle.size
 block k hk:=by
  have h1:(z391 (hp W)).S k=some W.heap[k]:=by show W.heap[k]?=_;rw [Array.getElem?_eq_getElem hk]
  rw [hw.hS k _ (hs.S k _ h1),Array.getElem?_eq_getElem hk]
theorem z387 {H : Type} {enc : TypeId × Value → H} {W W' : World} (hl : laidOutB P = true) (hb : Below W.heap.size W W') {sp : Nat → Bool} : (ts : List TypeId) → (vs : List Value) → (ds : List (DataW H)) → (ps : List MemPlace) →
  (∀ t∈ts,P.readableRec t=true∧t < P.types.size)→(∀ p∈ps,p.block < W.heap.size)→(∀ p∈ps,sp p.block=true) →
  DataW.TrodAll enc P W 0 (fun _=>true) true ts vs ds ps→DataW.TrodAll enc P W' 0 sp true ts vs ds ps
 |[],[],[],_,_,_,_,h=>h
 |t::ts,v::vs,d::ds,_,ht,hlt,hs,⟨p,q,h1,h2,e⟩=>by
  subst e
  exact ⟨p,q,WideElems.Trod_stays hl (ht t (by simp)).1 (ht t (by simp)).2 h1 (fun x hx=>hb.same (hlt x (by simp [hx]))) (fun x hx=>hs x (by simp [hx])),
   z387 hl hb ts vs ds q (fun t h=>ht t (by simp [h])) (fun x hx=>hlt x (by simp [hx])) (fun x hx=>hs x (by simp [hx])) h2,rfl⟩
theorem post_of_below' {H : Type} {enc : TypeId × Value → H} {f : Func} {s : ChangeSpec} {apart fresh handsOn z92 : Bool} {W W' : World} {args : Array Value} {v : Value} {ds gs : List (DataW H)} {before pa pv : List MemPlace}
    (hW:DataW.Whole enc P f.params.toList s.vars apart W args.toList ds gs before)
    (hres:∀ (b:Nat) (sp:Nat→Bool) (hd:Bool),DataW.TrodAll enc P W' b sp hd f.resultTypes.toList (v.resultList f.resultTypes.size) (s.fn H (ds++gs)).results [])
    (hargs:∀ sp:Nat→Bool,(∀ p∈before,sp p.block=true)→DataW.TrodAll enc P W' 0 sp true f.params.toList args.toList (s.fn H (ds++gs)).args pa)
    (hvars:∀ sp:Nat→Bool,(∀ p∈before,sp p.block=true)→DataW.TrodVars enc P W' sp s.vars (s.fn H (ds++gs)).vars pv)
    (hps:before=pa++pv) (hb:Below W.heap.size W W')
    (hok:∀ (j:Nat) (t:TypeId) (r:Value),f.resultTypes[j]?=some t→(v.resultList f.resultTypes.size)[j]?=some r→Value.okWide P W' .any 0 t r) :
    s.post enc P f apart fresh handsOn z92 W args v W':=by
  have hlt:∀ p∈before,p.block < W.heap.size:=fun p hp=>hW.lt p hp
  have hold:∀ p∈before,(fun b=>decide (b < W.heap.size)) p.block=true:=fun p hp=>by simpa using hlt p hp
  refine ⟨ds,gs,before,[],pa,pv,hW,hres _ _ _,hargs _ hold,hvars _ hold,World.keptBut_mono (fun p hp=>⟨hp,?_⟩) (hb.frame (·∈before)),fun _=>?_⟩
  · rw [hps,y51] at hp
    exact Or.inr hp
  · obtain ⟨_,_,_,_,_,hz,hn⟩:=hW
    refine ⟨hok,_,_,([]++pa)++pv,⟨[]++pa,pv,trodAll_append (hargs _ (fun _ _=>rfl)) (hres _ _ _),hvars _ (fun _ _=>rfl),rfl,?_,?_⟩,?_⟩
    · intro b off hp
      have hin:MemPlace.cell b off∈before:=by rw [hps];simpa using hp
      rw [hb.frozen (hlt _ hin)]
      exact hz b off hin
    · intro ha
      have:=hn ha
      rw [hps] at this
      simpa using this
    · intro p hp _
      rw [hps]
      simpa using hp
theorem law_post {H : Type} {enc : TypeId × Value → H} {f : FuncId} {fn : Func} {s : ChangeSpec} {W : World} {args : Array Value} {ds gs : List (DataW H)} {before : List MemPlace} {R : List AC → Nat → Prop} {tb : TypeId} {r : _root_.Go.Reach} {b0 : Nat} {apart fresh handsOn z92 : Bool}
    {b:DataW H→Nat} (hB:Bulk b) (hl:laidOutB P=true) (hts:∀ t∈fn.params.toList,P.readableRec t=true∧t < P.types.size)
    (hvars:s.vars=[]) (hsp:∀ ds:List (DataW H),ds.length=fn.params.size→s.fn H ds={ results:=[.lit (.bool true)],args:=ds }) (hres:fn.resultTypes=#[tb]) (hbool:P.underlying tb=some .bool)
    (hargs:ArgsOk P fn.params.toList R) (hC:∀ xs m,R xs m→m≤z570 b ds→CallsA P f xs [] (.bool true) [])
    (hval:∀ (j:Nat) t v,fn.params[j]?=some t→args[j]?=some v→Value.okWide P W r b0 t v)
    (hW:DataW.Whole enc P fn.params.toList s.vars apart W args.toList ds gs before) :
    Calls P f args W fun e W'=>∃ v,e=.returned v∧s.post enc P fn apart fresh handsOn z92 W args v W':=by
  have hW0:=hW
  obtain ⟨p,q,hA,hV,rfl,hz,hn⟩:=hW
  rw [hvars] at hV
  obtain ⟨rfl,rfl⟩:gs=[]∧q=[]:=by
    cases gs with
    | nil=>exact ⟨rfl,hV⟩
    | cons _ _=>exact hV.elim
  obtain ⟨xs,m,hR,hcs,hm⟩:=z476 hB _ _ _ _ _ hargs (fun j t v e e'=>hval j t v (by simpa using e) (by simpa using e')) hA
  have hlen:ds.length=fn.params.size:=by
    have:∀ (ts:List TypeId) (vs:List Value) (ds:List (DataW H)) (ps:List MemPlace),DataW.TrodAll enc P W 0 (fun _=>true) true ts vs ds ps→ds.length=ts.length:=by
      intro ts
      induction ts with
      | nil=>intro vs ds ps h;rw [(trodAll_nil h).2.1];rfl
      | cons t ts ih =>
        intro vs ds ps h
        obtain ⟨v,vs1,d,ds1,a,b,rfl,rfl,rfl,h1,h2⟩:=trodAll_cons h
        simp [ih _ _ _ h2]
    simpa using this _ _ _ _ hA
  have hsp':=hsp (ds++[]) (by simpa using hlen)
  obtain ⟨_,hcall⟩:=hC xs m hR hm
  refine (hcall (z391 (hp W)) W args (Wf.start W) (by simpa using hcs.length.symm) (hcs.VL fun j _=>by simp)).mono fun e W' ⟨G',v,he,hs,_,hle,hw,hv⟩=>?_
  subst he
  have hv:v=.bool true:=by simpa [V] using hv
  subst hv
  have hb:=below_of hle hs hw
  refine ⟨_,rfl,post_of_below' (pa:=p) (pv:=[]) hW0 (fun _ _ _=>?_) (fun sp hsp=>?_) (fun sp _=>?_) rfl hb (ok_one hres rfl (okWide_bool_mk hbool _))⟩
  · rw [hsp',hres]
    exact trodAll_mk1 (shut_bool hbool _)
  · rw [hsp']
    simp only [y62] at hsp ⊢
    exact z387 hl hb _ _ _ _ hts (fun x hx=>hW0.lt x (by simp [hx])) hsp hA
  · rw [hsp',hvars]
    rfl
theorem z375 {α:Type} {f:α→List AC} (h:∀ a,∀ x∈f a,x.unown=x) (l:List α):z80 (l.map f)=l.map f :=
 z730 fun e he x hx=>by
  obtain ⟨a,_,rfl⟩:=List.mem_map.1 he
  exact h a x hx
theorem bor_seal {objs:Nat→AObj} {π Bn:List Nat} {o w len:Nat} {es L:List (List AC)} (ho:objs o=.cells w es) (h1:idx π o=none) (h2:inB Bn o=true) (he:es=L) (hu:z80 L=L) (hl:L.length=len):bor objs π Bn (.sref o 0 len)=.list w len L:=by
 subst he
 rw [z244 ho h1 h2 hl,hu]
end Go.Gl
namespace Go.Gl
variable {P:Program}
theorem z217 {p:Prop} [Decidable p] {F:Bool→Prop} (h1:p→F true) (h2:¬ p→F false):vcG (decide p) F :=
 z298 (fun h=>h1 (of_decide_eq_true h)) (fun h=>h2 (of_decide_eq_false h))
theorem z163 {p:Prop} [Decidable p] {F:Bool→Prop} (h1:¬ p→F true) (h2:p→F false):vcG (!decide p) F:=by
 by_cases h:p
 ·rw [y79 h];exact h2 h
 ·rw [y80 h];exact h1 h
theorem z216 {b:Bool} {F:Bool→Prop} (h1:b=false→F true) (h2:b=true→F false):vcG (!b) F:=by
 cases b
 ·exact h1 rfl
 ·exact h2 rfl
theorem z82 {b:Bool} {A B:Prop} (h1:b=false→A) (h2:b=true→B):vcIf (!b) A B:=by
 cases b
 ·exact h1 rfl
 ·exact h2 rfl
theorem z67 {m:Nat} {st:St} {res r:AC} (hm:z267 m 0 []=true) (hu:res.under 0=true) (h:r=res):z38 m st res [] r :=
 ⟨[],List.nodup_nil,hm,hu,y5 (by rw [z260 res hu,h]),trivial⟩
theorem ret_le {m:Nat} {st:St} {res r:AC} (hm:z267 m 0 []=true) (hu:res.under 0=true) (h:ACle r res):z38 m st res [] r :=
 ⟨[],List.nodup_nil,hm,hu,by rw [z260 res hu];exact h,trivial⟩
theorem z34 {m:Nat} {st:St} {b c:Bool} (hm:z267 m 0 []=true) (h:c=b):z38 m st (.raw (.bool c)) [] (.raw (.bool b)):=z67 hm rfl (by rw [h])
theorem z670 {m:Nat} {st:St} {b c:Int} (hm:z267 m 0 []=true) (h:c=b):z38 m st (.raw (.int .i64 c)) [] (.raw (.int .i64 b)):=z67 hm rfl (by rw [h])
theorem z117 {m:Nat} {st:St} {res r:AC} {objs' : List AObj} (π:List Nat) (h1:π.Nodup) (h2:z267 m 0 π=true) (h3:res.under π.length=true) (h4:r=res.ren (z65 0 π)) (h5:z539 (fun o x=>z164 π.length x∧st.objs o=z126 (z65 0 π) x) 0 π objs'):z38 m st res objs' r :=
 ⟨π,h1,h2,h3,y5 h4,h5⟩
theorem z43 {M w:Nat} {r:Nat→Nat} {x:AObj} {e:List AC} (h:z138 M e=true) (hx:x=.cells w [renL r e]):z164 M (.cells w [e])∧x=z126 r (.cells w [e]) :=
 ⟨fun y hy=>by rw [List.mem_singleton.1 hy];exact h,by rw [hx];rfl⟩
def idxS {α σ:Type} (p:α→σ→Bool) (nx:α→σ→σ) (l:List α) (s:σ) (k:Nat):Int×σ:=match l with
 |[]=>(-1,s)
 |x::r=>if p x s then (k,nx x s) else idxS p nx r (nx x s) (k+1)
def z41 {α:Type} (I:α→List (Nat×AC)×List AObj) (ok:α→Prop) (μ:α→Nat) (x:α) (m n:Nat) (st:St):Prop:=∃ y π,ok y∧μ y < μ x∧PickL π m n st (I y).1 (I y).2
theorem z92 {α:Type} {I:α→List (Nat×AC)×List AObj} {ok:α→Prop} {μ:α→Nat} {x:α} {m n:Nat} {st:St} (y:α) (π:List Nat) (h1:ok y) (h2:μ y < μ x) (h3:PickL π m n st (I y).1 (I y).2):z41 I ok μ x m n st:=⟨y,π,h1,h2,h3⟩
theorem z111 {α : Type} {m n : Nat} {env : List (Nat × AC)} {objs : List AObj} {body : Code} {Q : Exit → St → Prop} (I : α → List (Nat × AC) × List AObj) (ok : α → Prop) (μ : α → Nat) (x0 : α) (h0 : ok x0) (hinit : ∃ π, PickL π m n (mkSt n env objs) (I x0).1 (I x0).2)
    (round:∀ x,ok x→AWP P m body (z655 (fun st'=>z41 I ok μ x m n st') Q) (mkSt n (I x).1 (I x).2)):AWP P m (.loop body) Q (mkSt n env objs) :=
  z982 I ok μ x0 h0 hinit round
theorem z13 {α:Type} {f:α→List AC} {l:List α} {i:Nat} {K:List AC→Prop} (h:i < l.length) (k:∀ h:i < l.length,K (f (l[i]'h))):∃ e,(l.map f)[(i:Int).toNat]?=some e∧K e:=⟨_,z545 _ _ _ h,k h⟩
theorem z107 {α:Type} {a:α} {K:α→Prop} (k:K a):∃ e,some a=some e∧K e:=⟨a,rfl,k⟩
theorem z207 {α:Type} (p:α→Bool) (l:List α) (k:Nat) (h:k < l.length):(l.drop k).all p=(p l[k] && (l.drop (k+1)).all p):=by
 rw [y77 h,List.all_cons]
theorem z195 {α:Type} (p:α→Bool) (l:List α) (k:Nat) (h:l.length≤k):(l.drop k).all p=true:=by
 rw [y81 h];rfl
theorem z972 {α:Type} (p:α→Bool) (l:List α) (k:Nat) (h:k < l.length):(l.drop k).any p=(p l[k] || (l.drop (k+1)).any p):=by
 rw [y77 h,List.any_cons]
theorem z807 {α:Type} (p:α→Bool) (l:List α) (k:Nat) (h:l.length≤k):(l.drop k).any p=false:=by
 rw [y81 h];rfl
theorem z171 {α:Type} {f:α→List AC} {l:List α} {i:Nat} {K:List AC→Prop} (h:i < l.length) (k:∀ h:i < l.length,K (f (l[i]'h))):∃ e,(l.map f)[i]?=some e∧K e:=⟨_,z545 _ _ _ h,k h⟩
theorem z979 {P:Program} {st:St} {K:OpK} {f:FuncId} {first caps args args0:List AC} {res:AC} (Bn:List Nat) (h:CallsA P f args0 [] res []) (hb:borL st.objs [] Bn (first++(args++caps))=args0) (hu:res.under 0=true) (hpl:res.plain=true) (hn:z226 Bn=true) (k:z416 res fun r=>K r (Bn.map st.rd)):z18 P st (.fn (.func f) first caps) args K:=by
 refine z813 [] Bn h hb rfl (by simp) hu (by simp) (.inr ⟨hpl,by simp⟩) (y49 _) ?_
 rw [z116]
 show z76 (z226 ([]++[]++Bn)) _
 rw [List.nil_append,List.nil_append,hn]
 show renK _ _ _
 rw [z536]
 rw [z141] at k
 show K (res.ren (z65 0 [])) _
 rw [z260 res hu]
 exact k
def z642 (M:Nat) (r:Nat→Nat) (x y:AObj):Prop:=z277 M x∧z126 r x=y
theorem z30 {M w:Nat} {r:Nat→Nat} {es:List (List AC)} (h:Flat es):z642 M r (.cells w es) (.cells w es) :=
 ⟨fun e he=>z381 (h e he) M,h.ren r⟩
theorem z58 {M w:Nat} {r:Nat→Nat} {e e' : List AC} (h:z138 M e=true) (he:renL r e=e'):z642 M r (.cells w [e]) (.cells w [e']) :=
 ⟨fun x hx=>by rw [List.mem_singleton.1 hx];exact h,by simp [z126,he]⟩
theorem z671 {M:Nat} {r:Nat→Nat} : z642 M r .dead .dead:=⟨trivial,rfl⟩
def ObjsRen (M:Nat) (r:Nat→Nat):List AObj→List AObj→Prop
 |[],ys=>ys=[]
 |x::xs,ys=>∃ y zs,ys=y::zs∧z642 M r x y∧ObjsRen M r xs zs
theorem z23 {M:Nat} {r:Nat→Nat} : ObjsRen M r [] []:=rfl
theorem z19 {M:Nat} {r:Nat→Nat} {x y:AObj} {xs ys:List AObj} (h:z642 M r x y) (k:ObjsRen M r xs ys):ObjsRen M r (x::xs) (y::ys):=⟨y,ys,rfl,h,k⟩
theorem ObjsRen.spec {M:Nat} {r:Nat→Nat} : ∀ {xs ys:List AObj},ObjsRen M r xs ys→(∀ x∈xs,z277 M x)∧xs.map (z126 r)=ys:=by
 intro xs
 induction xs with
 |nil=>intro ys h;cases h;exact ⟨by simp,rfl⟩
 |cons x xs ih =>
  rintro ys ⟨y,zs,rfl,⟨h1,h2⟩,h3⟩
  obtain ⟨h4,h5⟩:=ih h3
  refine ⟨fun z hz=>?_,by rw [List.map_cons,h2,h5]⟩
  rcases List.mem_cons.1 hz with rfl|hz
  ·exact h1
  ·exact h4 z hz
theorem z89 {objs:Nat→AObj} {π Bn:List Nat} {o w:Nat} {es:List (List AC)} (ho:objs o=.cells w es) (h:Flat es):z81 objs π Bn o=.cells w es:=by
 simp only [z81,ho,AObj.cells.injEq,true_and]
 conv=>rhs;rw [← List.map_id es]
 refine List.map_congr_left fun e he=>?_
 conv=>rhs;rw [id,← List.map_id e]
 refine List.map_congr_left fun x hx=>?_
 have:=z266.1 (h e he) x hx
 cases x<;>first|rfl|simp [AC.flat] at this
def PassOk (objs:Nat→AObj) (π Bn:List Nat):List Nat→List AObj→Prop
 |[],ys=>ys=[]
 |o::os,ys=>∃ y zs,ys=y::zs∧z81 objs π Bn o=y∧PassOk objs π Bn os zs
theorem z62 {objs:Nat→AObj} {π Bn:List Nat} : PassOk objs π Bn [] []:=rfl
theorem z71 {objs:Nat→AObj} {π Bn:List Nat} {o:Nat} {os:List Nat} {y:AObj} {ys:List AObj} (h:z81 objs π Bn o=y) (k:PassOk objs π Bn os ys):PassOk objs π Bn (o::os) (y::ys):=⟨y,ys,rfl,h,k⟩
theorem PassOk.spec {objs:Nat→AObj} {π Bn:List Nat} : ∀ {os:List Nat} {ys:List AObj},PassOk objs π Bn os ys→os.map (z81 objs π Bn)=ys:=by
 intro os
 induction os with
 |nil=>intro ys h;cases h;rfl
 |cons o os ih =>
  rintro ys ⟨y,zs,rfl,h1,h2⟩
  rw [List.map_cons,h1,ih h2]
def PlainObjs:List AObj→Prop
 |[]=>True
 |x::xs=>z341 x∧PlainObjs xs
theorem PlainObjs.spec:∀ {xs:List AObj},PlainObjs xs→∀ x∈xs,z341 x:=by
 intro xs
 induction xs with
 |nil=>intro _ x hx;cases hx
 |cons y xs ih =>
  intro h x hx
  rcases List.mem_cons.1 hx with rfl|hx
  ·exact h.1
  ·exact ih h.2 x hx
theorem z121 {α:Type} {f:α→List AC} (h:∀ a,z198 (f a)=true) (l:List α):z251 (l.map f)=true:=by
 induction l with
 |nil=>rfl
 |cons a l ih=>simp only [List.map_cons,z251,h a,ih]
def allN (p:Nat→Bool):List Nat→Bool
 |[]=>true
 |x::xs=>match p x with
  |true=>allN p xs
  |false=>false
theorem z274 {p:Nat→Bool} {l:List Nat} (h:allN p l=true):∀ x∈l,p x=true:=by
 induction l with
 |nil=>intro x hx;cases hx
 |cons y l ih =>
  intro x hx
  simp only [allN] at h
  split at h
  ·rename_i hy
   rcases List.mem_cons.1 hx with rfl|hx
   ·exact hy
   ·exact ih h x hx
  ·cases h
theorem z125 {st : St} {K : OpK} {f : FuncId} {first caps args args0 : List AC} {objs0 objs1 objs1' : List AObj} {res : AC} (π Bn ν : List Nat) (h : CallsA P f args0 objs0 res objs1) (hb : borL st.objs π Bn (first ++ (args ++ caps)) = args0) (hp : PassOk st.objs π Bn π objs0)
    (hc:allN (fun o=>z169 (st.objs o)) π=true) (hf:allN (fun o=>z380 (st.objs o)) ν=true) (hn:z226 (π++ν++Bn)=true) (hl:Nat.beq objs1.length (π++ν).length=true) (hu:res.under objs1.length=true)
    (ho:ObjsRen objs1.length (z65 0 (π++ν)) objs1 objs1') (hpl:Bn=[]∨(res.plain=true∧PlainObjs objs1))
    (k:renK (z65 0 (π++ν)) res fun res1=>K res1 (z191 st (π++ν) objs1'++Bn.map st.rd)):z18 P st (.fn (.func f) first caps) args K:=by
  rw [z536] at k
  obtain ⟨h1,h2⟩:=ho.spec
  exact ⟨⟨π,Bn,ν,args0,objs0,res,objs1,res.ren (z65 0 (π++ν)),objs1'⟩,⟨h,hb,hp.spec,z180 hn,z274 hc,z274 hf,Nat.eq_of_beq_eq_true hl,rfl,h2,hu,h1,hpl.imp id fun h=>⟨h.1,h.2.spec⟩⟩,k⟩
end Go.Gl
namespace Go.Gl
variable {P:Program} {G:Ghost} {objs:Nat→AObj} {w:World} {π Bn:List Nat}
theorem z395 (hW0 : Wf G objs w) (hn : π.Nodup) (hd : ∀ o ∈ π, o ∉ Bn) (ha : ∀ o ∈ π, z169 (objs o) = true) :
    Wf (G.seal_ (hp w) π Bn) (z47 (π.map (z81 objs π Bn))) w∧G.Sub (G.seal_ (hp w) π Bn)∧(∀ o i t,idx π o=some i→G.ι o=some t→(G.seal_ (hp w) π Bn).ι i=some t) ∧
      ∀ x v,V G (hp w) none x v→V (G.seal_ (hp w) π Bn) (hp w) none (bor objs π Bn x) v:=by
  have hW:=z1269 (Bn:=Bn) hW0 hn hd ha
  have hbor:=z431 (π:=π) (Bn:=Bn) hW0
  refine ⟨⟨hW.hS,hW0.hU,fun b x hu=>?_,fun b p hk=>?_,fun o=>?_⟩,⟨fun b x e=>hbor.S b x e,rfl⟩,fun o i t hi e=>sub_ι (w:=w) (Bn:=Bn) hi e,fun x v hv=>?_⟩
  · have hu:G.U b=some x:=hu
    cases hkb:G.κ b with
    | none=>show (G.sub (hp w) π Bn).S b=none;simp [Ghost.sub,hkb];exact hW0.su b x hu
    | some p=>have:=(hW0.sk b p hkb).2.1;rw [hu] at this;cases this
  · have hk' : (G.sub (hp w) π Bn).κ b=some p:=hk
    obtain ⟨h1,_,h3⟩:=hW.sk b p hk'
    refine ⟨h1,?_,h3⟩
    show G.U b=none
    cases hkb:G.κ b with
    | none=>simp [Ghost.sub,hkb] at hk'
    | some q=>exact (hW0.sk b q hkb).2.1
  · exact z225 (G:=G.sub (hp w) π Bn) (h:=hp w) (fun _ _ e=>e) (fun _ _ e=>e) rfl (fun b p _ hk=>⟨hk,rfl⟩) (hW.objs o)
  · exact z149 (G:=G.sub (hp w) π Bn) (G':=G.seal_ (hp w) π Bn) (fun _ _ e=>e) (fun _ _ e=>e) (V_bor _ hbor _ hv)
theorem CallsA.lend {f : FuncId} {args : List AC} {objs objs1 objs2 : List AObj} {res res2 : AC} (h : CallsA P f args objs res objs1) (π Bn : List Nat) (hn : z226 (π ++ Bn) = true) (ha : allN (fun o => z169 (z47 objs1 o)) π = true)
    (hf:z267 objs.length 0 π=true) (hr:bor (z47 objs1) π Bn res=res2) (hp' : PassOk (z47 objs1) π Bn π objs2):CallsA P f args objs res2 objs2:=by
  refine ⟨h.1,fun G w vs hW hs hv=>(h.2 G w vs hW hs hv).mono ?_⟩
  rintro e w' ⟨G',v,rfl,h1,h2,h3,h4,h5⟩
  have hnd:=z180 hn
  obtain ⟨k1,k2,k3,k4⟩:=z395 (π:=π) (Bn:=Bn) h4 (List.nodup_append.1 hnd).1 (fun o ho hb=>(List.nodup_append.1 hnd).2.2 o ho o hb rfl) (z274 ha)
  refine ⟨_,v,rfl,h1.trans k2,fun o t ho e=>?_,h3,by rw [← hp'.spec];exact k1,by rw [← hr];exact k4 _ _ h5⟩
  have:=z161 objs.length 0 π hf o ho
  rw [Nat.zero_add] at this
  exact k3 o o t (z230 (List.nodup_append.1 hnd).1 this) (h2 o t ho e)
theorem CallsA.keep {f:FuncId} {args:List AC} {w n:Nat} {es:List (List AC)} (h:CallsA P f args [] (.sref 0 0 n) [.cells w es]) (hu:z80 es=es) (hl:es.length=n):CallsA P f args [] (.list w n es) [] :=
 h.lend [] [0] rfl rfl rfl (bor_seal rfl rfl rfl rfl hu hl) z62
theorem z124 {α:Type} {f:α→List AC} {l:List α} {z:List AC} {k:Nat} {K:List AC→Prop} (h:k < l.length) (kk:K z):∃ e,((l.take k).map f++List.replicate (l.length - k) z)[(k:Int).toNat+0]?=some e∧K e :=
 ⟨z,fill_get _ _ _ _ h,kk⟩
theorem z945 {α : Type} {M w : Nat} {r : Nat → Nat} {f : α → List AC} {l : List α} {z e : List AC} {k j : Nat} {x : AObj} (hk : k < l.length) (hx : x = .cells w (((l.take k).map f ++ List.replicate (l.length - k) z).set j e)) (hj : j = k) (he : e = f l[k]) (hf : ∀ a, z325 (f a) = true) (hz : z325 z = true) :
    z164 M (.cells w ((l.take (k+1)).map f++List.replicate (l.length - (k+1)) z))∧x=z126 r (.cells w ((l.take (k+1)).map f++List.replicate (l.length - (k+1)) z)):=by
  subst hj he
  exact z37 (by rw [hx,z703 _ _ _ _ hk]) (z90 (z6 hf) (z54 hz))
theorem z966 {α:Type} (f:α→List AC) (l:List α) (z:List AC) (k:Nat) (h:k=l.length):(l.take k).map f++List.replicate (l.length - k) z=l.map f:=by
 subst h;simp
theorem obj_app {α : Type} {M w : Nat} {r : Nat → Nat} {f : α → List AC} {l : List α} {e : List AC} {k : Nat} {x : AObj} (hk : k < l.length) (n : Nat) (hx : x = .cells w (((l.take k).map f).take n ++ [e])) (hn : n = k) (he : e = f l[k]) (hf : ∀ a, z325 (f a) = true) :
    z164 M (.cells w ((l.take (k+1)).map f))∧x=z126 r (.cells w ((l.take (k+1)).map f)):=by
  subst hn he
  refine z37 ?_ (z6 hf)
  rw [hx,y47 hk,y61,y54 (by simp;omega)]
  rfl
theorem z535 {m:Nat} {st:St} {o n w:Nat} {es es' : List (List AC)} (hm:z267 m 0 [o]=true) (hf:Flat es) (ho:st.objs o=.cells w es') (he:es'=es):z38 m st (.sref 0 0 n) [.cells w es] (.sref o 0 n) :=
 ⟨[o],by simp,hm,rfl,ACle.refl _,⟨z37 (by rw [ho,he]) hf,trivial⟩⟩
theorem z212 {α:Type} (f:α→Value) (l:List α):z80 (l.map fun a=>[AC.raw (f a)])=l.map fun a=>[AC.raw (f a)] :=
 z375 (fun a x hx=>by cases hx with|head=>rfl|tail _ h=>cases h) l
end Go.Gl
namespace Go.Gl
variable {P:Program}
noncomputable def Ghost.expose (G:Ghost) (q b0 size wd2:Nat):Ghost:={ G with κ:=fun b=>if b=b0 then some (q,[]) else G.κ b,ι:=fun o=>if o=q then some (b0,size,wd2) else G.ι o }
def z1022:List AC→Bool
 |[]=>true
 |x::xs=>match x.flat && !x.isOwn with
  |true=>z1022 xs
  |false=>false
theorem z778 {xs:List AC} : z1022 xs=true↔∀ x∈xs,x.flat=true∧x.isOwn=false:=by
 induction xs with
 |nil=>simp [z1022]
 |cons x xs ih =>
  simp only [z1022]
  cases h:(x.flat && !x.isOwn)<;>simp_all
def Leaf (es:List (List AC)):Prop:=∀ e∈es,z1022 e=true
theorem Leaf.flat {es:List (List AC)} (h:Leaf es):Flat es:=fun e he=>z266.2 fun x hx=>(z778.1 (h e he) x hx).1
theorem z168 {α:Type} {f:α→List AC} (h:∀ a,z1022 (f a)=true) (l:List α):Leaf (l.map f):=by
 intro x hx
 obtain ⟨a,_,rfl⟩:=List.mem_map.1 hx
 exact h a
theorem VLL_leaf {G G' : Ghost} {h:Nat→Option Obj} {l l' : Loc} {w:Nat} {es:List (List AC)} {c:Array Value} {off:Nat} (hf:Leaf es) (hS:∀ b x,G.S b=some x→G'.S b=some x) (hc:VLL G.bare h l w es c off):VLL G' h l' w es c off:=by
 rw [z74] at hc ⊢
 intro i e he
 obtain ⟨h1,h2⟩:=hc i e he
 refine ⟨h1,?_⟩
 rw [z70] at h2 ⊢
 intro j x hx
 obtain ⟨v,hv1,hv2⟩:=h2 j x hx
 have:=(z778.1 (hf e (List.mem_of_getElem? he)) x (List.mem_of_getElem? hx)).2
 exact ⟨v,hv1,V_at (z149 (G:=G.bare) (G':=G') hS (fun _ _ e=>by cases e) (z1271 this hv2))⟩
theorem Wf.expose {G : Ghost} {objs : Nat → AObj} {w : World} (hW : Wf G objs w) {o q k j wd wd2 : Nat} {es es2 : List (List AC)} {e : List AC} (ho : objs o = .cells wd es) (he : es[k]? = some e) (hj : e[j]? = some (.own wd2 es2)) (hq : objs q = .fresh) (hfl : Leaf es2) :
    ∃ G',(∀ b x,G.S b=some x→G'.S b=some x)∧G'.U=G.U∧(∀ o t,G.ι o=some t→G'.ι o=some t)∧Wf G' (upd (upd objs o (.cells wd (es.set k (e.set j (.sref q 0 es2.length))))) q (.cells wd2 es2)) w:=by
  have hoq:o≠q:=by rintro rfl;rw [ho] at hq;cases hq
  obtain ⟨b,c,el,hι,hκ,hb,hc⟩:=hW.obj ho he
  have hιq:G.ι q=none:=by have:=hW.objs q;rw [hq] at this;exact this
  have hkl:k < es.length:=(List.getElem?_eq_some_iff.1 he).1
  have hjl:j < e.length:=(List.getElem?_eq_some_iff.1 hj).1
  rw [z74] at hc
  obtain ⟨hek,hcv⟩:=hc k e he
  rw [z70] at hcv
  obtain ⟨v0,hv0,hv0'⟩:=hcv j _ hj
  simp only [V,Loc.cell,Option.map_some] at hv0'
  obtain ⟨a,cap,rfl,hcap,hown⟩:=hv0'
  rcases hown with ⟨hes,hcap0⟩|⟨b0,c0,el0,p,ha,hp,hκ0,hb0,hsz,hc0⟩
  · -- no block
    subst hes hcap0
    refine ⟨G,fun _ _ e=>e,rfl,fun _ _ e=>e,hW.hS,hW.hU,hW.su,hW.sk,fun o'=>?_⟩
    by_cases h1:o'=q
    · subst h1;rw [z36];exact .inl ⟨rfl,hιq⟩
    · rw [z52 _ _ h1]
      by_cases h2:o'=o
      · subst h2
        rw [z36]
        refine .inr ⟨b,c.size,c,el,hι,hκ,hb,rfl,?_⟩
        rw [z74]
        intro i e' he'
        by_cases hik:i=k
        · subst hik
          rw [List.getElem?_set_self hkl] at he'
          cases he'
          refine ⟨by simpa using hek,?_⟩
          rw [z70]
          intro jj x hx
          by_cases hjj:jj=j
          · subst hjj
            rw [List.getElem?_set_self hjl] at hx
            cases hx
            exact ⟨_,hv0,by simp only [V];exact ⟨0,y49 _,.inl ⟨rfl,a,rfl⟩⟩⟩
          · rw [List.getElem?_set_ne (Ne.symm hjj)] at hx
            exact hcv jj x hx
        · rw [List.getElem?_set_ne (Ne.symm hik)] at he'
          exact hc i e' he'
      · rw [z52 _ _ h2];exact hW.objs o'
  · subst ha
    cases hp
    have hS:∀ b' x,G.S b'=some x→(G.expose q b0 c0.size wd2).S b'=some x:=fun _ _ e=>e
    have hιs:∀ o' t,G.ι o'=some t→(G.expose q b0 c0.size wd2).ι o'=some t:=fun o' t e=>by
      by_cases h:o'=q
      · subst h;rw [hιq] at e;cases e
      · simp only [Ghost.expose,if_neg h];exact e
    have hκ' : ∀ b' p',p'≠(o,[0+k * wd+j])→G.κ b'=some p'→(G.expose q b0 c0.size wd2).κ b'=some p':=fun b' p' hne hk=>by
      have:b'≠b0:=by rintro rfl;rw [hκ0] at hk;cases hk;exact hne rfl
      simp only [Ghost.expose,if_neg this];exact hk
    refine ⟨G.expose q b0 c0.size wd2,hS,rfl,hιs,hW.hS,hW.hU,hW.su,fun b' p' hk=>?_,fun o'=>?_⟩
    · by_cases h:b'=b0
      · subst h;exact hW.sk _ _ hκ0
      · simp only [Ghost.expose,if_neg h] at hk;exact hW.sk _ _ hk
    · by_cases h1:o'=q
      · subst h1
        rw [z36]
        refine .inr ⟨b0,c0.size,c0,el0,by simp [Ghost.expose],by simp [Ghost.expose],hb0,rfl,?_⟩
        exact VLL_leaf hfl hS hc0
      · rw [z52 _ _ h1]
        by_cases h2:o'=o
        · subst h2
          rw [z36]
          refine .inr ⟨b,c.size,c,el,hιs _ _ hι,hκ' b (o',[]) (by simp) hκ,hb,rfl,?_⟩
          have hmv:∀ (x:AC) (pos:Nat) (v:Value),pos≠0+k * wd+j→V G (hp w) (some (o',[pos])) x v→V (G.expose q b0 c0.size wd2) (hp w) (some (o',[pos])) x v:=fun x pos v hne hv=>by
            have:=z302 x G (G.expose q b0 c0.size wd2) (hp w) (hp w) id (fun p=>p.2.getLast?=some pos) hS hιs (fun _ _ _=>rfl) (fun o'' j' q' h=>by
              cases q' with
              | nil=>simp at h
              | cons y ys=>rw [List.getLast?_cons_cons];exact h) (fun b' p hp hk=>⟨hκ' b' p (by rintro rfl;simp at hp;exact hne (by omega)) hk,rfl⟩) (some (o',[pos])) v (fun p hp=>by cases hp;rfl) hv
            simpa using this
          rw [z74]
          intro i e' he'
          by_cases hik:i=k
          · subst hik
            rw [List.getElem?_set_self hkl] at he'
            cases he'
            refine ⟨by simpa using hek,?_⟩
            rw [z70]
            intro jj x hx
            by_cases hjj:jj=j
            · subst hjj
              rw [List.getElem?_set_self hjl] at hx
              cases hx
              refine ⟨_,hv0,?_⟩
              simp only [V]
              exact ⟨cap,by omega,.inr ⟨b0,c0.size,wd2,by simp [Ghost.expose],by simpa using hsz,by simp⟩⟩
            · rw [List.getElem?_set_ne (Ne.symm hjj)] at hx
              obtain ⟨v,hv1,hv2⟩:=hcv jj x hx
              exact ⟨v,hv1,by simpa [Loc.cell] using hmv x _ v (by omega) (by simpa [Loc.cell] using hv2)⟩
          · rw [List.getElem?_set_ne (Ne.symm hik)] at he'
            obtain ⟨h3,h4⟩:=hc i e' he'
            refine ⟨h3,?_⟩
            rw [z70] at h4 ⊢
            intro jj x hx
            obtain ⟨v,hv1,hv2⟩:=h4 jj x hx
            have hjw:jj < wd:=by rw [← h3];exact (List.getElem?_eq_some_iff.1 hx).1
            have hne:0+i * wd+jj≠0+k * wd+j:=by
              intro heq
              have hj' : j < wd:=by rw [← hek];exact hjl
              rcases Nat.lt_or_gt_of_ne hik with hlt|hlt
              · have:(i+1) * wd≤k * wd:=Nat.mul_le_mul_right _ hlt
                rw [Nat.add_mul] at this;omega
              · have:(k+1) * wd≤i * wd:=Nat.mul_le_mul_right _ hlt
                rw [Nat.add_mul] at this;omega
            exact ⟨v,hv1,by simpa [Loc.cell] using hmv x _ v hne (by simpa [Loc.cell] using hv2)⟩
        · rw [z52 _ _ h2]
          exact z225 hS (fun _ _ e=>hιs _ _ e) (by simp [Ghost.expose,h1]) (fun b' p hp hk=>⟨hκ' b' p (by rintro rfl;exact h2 hp.symm) hk,rfl⟩) (hW.objs o')
def LocLe (x y:AC):Prop:=∀ (G:Ghost) (h:Nat→Option Obj) (l:Loc) (v:Value),V G h l x v→V G h l y v
theorem z683 {w:Nat} : LocLe .nils (.own w []):=fun G h l v hv=>by
 simp only [V] at hv ⊢
 exact ⟨none,0,hv,y49 _,.inl ⟨trivial,rfl⟩⟩
theorem LocLe.refl (x:AC):LocLe x x:=fun _ _ _ _ h=>h
theorem Reach.weaken {m n : Nat} {env : List (Nat × AC)} {objs objs' : List AObj} (o : Nat) {wd : Nat} {es es' : List (List AC)} (ho : z47 objs o = .cells wd es) (hl : es'.length = es.length)
    (hr:∀ (i:Nat) (e' : List AC),es'[i]?=some e'→∃ e:List AC,es[i]?=some e∧e'.length=e.length∧∀ (j:Nat) (x' : AC),e'[j]?=some x'→∃ x,e[j]?=some x∧LocLe x x')
    (hk:z333 objs [⟨o,.dead,.cells wd es'⟩] fun l=>l=objs'):Reach m (mkSt n env objs) (mkSt n env objs'):=fun G a w hR=>by
  obtain ⟨l,rfl,hl'⟩:=z143 hk
  refine ⟨G,SubM.refl m G,⟨?_,hR.env,hR.size,hR.defers⟩⟩
  show Wf G (z47 l) w
  rw [hl']
  refine ⟨hR.wf.hS,hR.wf.hU,hR.wf.su,hR.wf.sk,fun o'=>?_⟩
  show ObjRel G (hp w) o' (upd (z47 objs) o (.cells wd es') o')
  by_cases h:o'=o
  · subst h
    rw [z36]
    have:=hR.wf.objs o'
    rw [show (mkSt n env objs).objs o'=.cells wd es from ho] at this
    rcases this with ⟨h1,h2⟩|⟨b,size,c,el,h1,h2,h3,h4,h5⟩
    · subst h1
      exact .inl ⟨y71 (by simpa using hl),h2⟩
    · refine .inr ⟨b,size,c,el,h1,h2,h3,h4,?_⟩
      rw [z74] at h5 ⊢
      intro i e' he'
      obtain ⟨e,he,hle,hx⟩:=hr i e' he'
      obtain ⟨h6,h7⟩:=h5 i e he
      refine ⟨by rw [hle,h6],?_⟩
      rw [z70] at h7 ⊢
      intro j x' hx'
      obtain ⟨x,hx1,hx2⟩:=hx j x' hx'
      obtain ⟨v,hv1,hv2⟩:=h7 j x hx1
      exact ⟨v,hv1,hx2 _ _ _ _ hv2⟩
  · rw [z52 _ _ h];exact hR.wf.objs o'
theorem z221 {N w:Nat} : ∀ (i:Nat) (e' : List AC),(List.replicate N [AC.own w []])[i]?=some e'→∃ e,(List.replicate N [AC.nils])[i]?=some e∧e'.length=e.length∧∀ (j:Nat) (x' : AC),e'[j]?=some x'→∃ x,e[j]?=some x∧LocLe x x':=by
 intro i e' he
 rw [List.getElem?_replicate] at he ⊢
 split at he
 ·rename_i hi
  cases he
  refine ⟨_,if_pos hi,rfl,fun j x' hx=>?_⟩
  match j,hx with
  |0,hx=>cases hx;exact ⟨_,rfl,z683⟩
  |j+1,hx=>simp at hx
 ·cases he
theorem z122 (id:Nat) {m:Nat} {ops:Array Oper} {d:Bool} {Q:Exit→St→Prop} {st:St} (h:AWP P m (.region id ops d) Q st):AWP P m (.region id ops d) Q st:=h
theorem z96 (id:Nat) {m:Nat} {ops:Array Oper} {d:Bool} {c:Code} {Q:Exit→St→Prop} {st:St} (h:AWP P m (.seq (.region id ops d) c) Q st):AWP P m (.seq (.region id ops d) c) Q st:=h
theorem z289 {es:List (List AC)} {i n:Nat} {r:List AC} {K:List AC→Prop} (h:n=i) (hi:i < es.length) (k:K r):∃ e,(es.set i r)[n]?=some e∧K e :=
 ⟨r,by subst h;exact List.getElem?_set_self hi,k⟩
theorem z79 {α:Type} {f:α→List AC} {l:List α} {x:Int} {K:List AC→Prop} (h:x.toNat < l.length) (k:∀ h:x.toNat < l.length,K (f (l[x.toNat]'h))):∃ e,(l.map f)[x.toNat]?=some e∧K e:=⟨_,z545 _ _ _ h,k h⟩
theorem z133 {m:Nat} {st:St} {o n n' w:Nat} {es es' : List (List AC)} (hm:z267 m 0 [o]=true) (hf:Flat es) (hn:n'=n) (ho:st.objs o=.cells w es') (he:es'=es):z38 m st (.sref 0 0 n) [.cells w es] (.sref o 0 n'):=by
 subst hn;exact z535 hm hf ho he
theorem Reach.expose {m n : Nat} {env : List (Nat × AC)} {objs objs' : List AObj} (o k j : Nat) {wd wd2 : Nat} {es es2 : List (List AC)} {e : List AC} (ho : z47 objs o = .cells wd es) (he : es[k]? = some e) (hj : e[j]? = some (.own wd2 es2)) (hfl : Leaf es2)
    (hk:z333 objs [⟨o,.dead,.cells wd (es.set k (e.set j (.sref objs.length 0 es2.length)))⟩,⟨objs.length,.fresh,.cells wd2 es2⟩] fun l=>l=objs'):Reach m (mkSt n env objs) (mkSt n env objs'):=fun G a w hR=>by
  obtain ⟨l,rfl,hl⟩:=z143 hk
  obtain ⟨G',h1,h2,h3,h4⟩:=hR.wf.expose (q:=objs.length) ho he hj (z78 (y49 _)) hfl
  refine ⟨G',⟨⟨h1,h2⟩,fun o t _ e=>h3 o t e⟩,⟨?_,fun s=>z149 h1 h3 (hR.env s),hR.size,hR.defers.mono h1⟩⟩
  show Wf G' (z47 l) w
  rw [hl];exact h4
theorem Reach.absorb {m n : Nat} {env : List (Nat × AC)} {objs objs' : List AObj} (o q k j : Nat) {wd wd2 len : Nat} {es es2 : List (List AC)} {e : List AC} (ho : z47 objs o = .cells wd es) (he : es[k]? = some e) (hj : e[j]? = some (.sref q 0 len)) (hq : z47 objs q = .cells wd2 es2) (hn : es2.length = len) (hoq : Nat.beq o q = false) (hfl : Flat es2)
    (hk:z333 objs [⟨o,.dead,.cells wd (es.set k (e.set j (.own wd2 es2)))⟩,⟨q,.dead,.dead⟩] fun l=>l=objs'):Reach m (mkSt n env objs) (mkSt n env objs'):=fun G a w hR=>by
  obtain ⟨l,rfl,hl⟩:=z143 hk
  have h4:=hR.wf.absorb (o:=o) (q:=q) ho he hj hq hn (by rintro rfl;rw [Nat.beq_refl] at hoq;cases hoq) hfl
  refine ⟨G.absorb o q (k * wd+j),⟨⟨fun _ _ e=>e,rfl⟩,fun o t _ e=>e⟩,⟨?_,fun s=>z149 (G:=G) (G':=G.absorb o q (k * wd+j)) (fun _ _ e=>e) (fun _ _ e=>e) (hR.env s),hR.size,hR.defers.mono (fun _ _ e=>e)⟩⟩
  show Wf _ (z47 l) w
  rw [hl];exact h4
abbrev y83 := @LocLe.refl
end Go.Gl
namespace Go.Gl
variable {P:Program}
mutual
theorem V_mvD (x : AC) (G G' : Ghost) (h h' : Nat → Option Obj) (f : Nat × List Nat → Nat × List Nat) (D : Nat × List Nat → Prop) (hS : ∀ b x, G.S b = some x → G'.S b = some x) (hι : ∀ o t, G.ι o = some t → G'.ι o = some t)
    (hf:∀ o j q,D (o,q)→f (o,j::q)=((f (o,q)).1,j::(f (o,q)).2)) (hD:∀ o j q,D (o,q)→D (o,j::q))
    (hκ:∀ b p,D p→G.κ b=some p→G'.κ b=some (f p)∧h' b=h b) (l:Loc) (v:Value) (hl:∀ p,l=some p→D p) (hv:V G h l x v):V G' h' (l.map f) x v:=by
  have hb:∀ b p,False→G.bare.κ b=some p→G'.bare.κ b=some (id p)∧h' b=h b:=fun _ _ h=>h.elim
  match x with
  | .any=>simp [V]
  | .raw _=>simpa [V] using hv
  | .list w n es =>
    simp only [V] at hv ⊢
    obtain ⟨a,cap,rfl,hcap,hn,hv⟩:=hv
    refine ⟨a,cap,rfl,hcap,hn,hv.imp id ?_⟩
    rintro ⟨b,off,c,el,fz,rfl,hb',hc⟩
    exact ⟨b,off,c,el,fz,rfl,hS _ _ hb',z719 es G.bare G'.bare h h' id (fun _=>False) hS (fun _ _ e=>e) (fun _ _ _ _=>rfl) (fun _ _ _ h=>h) hb none w c off (by simp) hc⟩
  | .pt cs =>
    simp only [V] at hv ⊢
    obtain ⟨b,off,c,el,fz,rfl,hb',hc⟩:=hv
    exact ⟨b,off,c,el,fz,rfl,hS _ _ hb',z580 cs G.bare G'.bare h h' id (fun _=>False) hS (fun _ _ e=>e) (fun _ _ _ _=>rfl) (fun _ _ _ h=>h) hb none c off (by simp) hc⟩
  | .sref o off len =>
    simp only [V] at hv ⊢
    obtain ⟨cap,hc,hv⟩:=hv
    refine ⟨cap,hc,hv.imp id ?_⟩
    rintro ⟨b,size,w,hb,h2⟩
    exact ⟨b,size,w,hι _ _ hb,h2⟩
  | .ptr o i off =>
    simp only [V] at hv ⊢
    obtain ⟨b,size,w,hb,h2⟩:=hv
    exact ⟨b,size,w,hι _ _ hb,h2⟩
  | .mref o =>
    simp only [V] at hv ⊢
    obtain ⟨b,size,w,hb,h2⟩:=hv
    exact ⟨b,size,w,hι _ _ hb,h2⟩
  | .own w es =>
    simp only [V] at hv ⊢
    obtain ⟨a,cap,rfl,hcap,hv⟩:=hv
    refine ⟨a,cap,rfl,hcap,hv.imp id ?_⟩
    rintro ⟨b,c,el,p,rfl,rfl,hk,hb,hs,hc⟩
    obtain ⟨hk',hh'⟩:=hκ b p (hl p rfl) hk
    exact ⟨b,c,el,f p,rfl,rfl,hk',by rw [hh',hb],hs,z719 es G.bare G'.bare h h' f D hS (fun _ _ e=>e) hf hD hκ (some p) w c 0 hl hc⟩
  | .fn g first caps =>
    simp only [V] at hv ⊢
    obtain ⟨xs,ys,rfl,h1,h2,h3,h4⟩:=hv
    exact ⟨xs,ys,rfl,h1,h2,z580 first G G' h h' f D hS hι hf hD hκ none xs 0 (by simp) h3,z580 caps G G' h h' f D hS hι hf hD hκ none ys 0 (by simp) h4⟩
  | .agg cs =>
    simp only [V] at hv ⊢
    obtain ⟨c,rfl,h1,h3⟩:=hv
    exact ⟨c,rfl,h1,z580 cs G G' h h' f D hS hι hf hD hκ none c 0 (by simp) h3⟩
  | .tup cs =>
    simp only [V] at hv ⊢
    obtain ⟨c,rfl,h1,h3⟩:=hv
    exact ⟨c,rfl,h1,z580 cs G G' h h' f D hS hι hf hD hκ none c 0 (by simp) h3⟩
termination_by structural x
theorem z580 (xs : List AC) (G G' : Ghost) (h h' : Nat → Option Obj) (f : Nat × List Nat → Nat × List Nat) (D : Nat × List Nat → Prop) (hS : ∀ b x, G.S b = some x → G'.S b = some x) (hι : ∀ o t, G.ι o = some t → G'.ι o = some t)
    (hf:∀ o j q,D (o,q)→f (o,j::q)=((f (o,q)).1,j::(f (o,q)).2)) (hD:∀ o j q,D (o,q)→D (o,j::q))
    (hκ:∀ b p,D p→G.κ b=some p→G'.κ b=some (f p)∧h' b=h b) (l:Loc) (c:Array Value) (off:Nat) (hl:∀ p,l=some p→D p) (hv:VL G h l xs c off):VL G' h' (l.map f) xs c off:=by
  match xs with
  | []=>simp [VL]
  | x::xs =>
    simp only [VL] at hv ⊢
    obtain ⟨⟨v,hv1,hv2⟩,hv3⟩:=hv
    refine ⟨⟨v,hv1,?_⟩,z580 xs G G' h h' f D hS hι hf hD hκ l c (off+1) hl hv3⟩
    have:=V_mvD x G G' h h' f D hS hι hf hD hκ (l.cell off) v (by
      intro p hp
      cases l with
      | none=>simp [Loc.cell] at hp
      | some q=>simp [Loc.cell] at hp;subst hp;exact hD _ _ _ (hl q rfl)) hv2
    cases l with
    | none=>exact this
    | some q =>
      simp only [Loc.cell,Option.map_some] at this ⊢
      rw [hf q.1 off q.2 (hl q rfl)] at this
      exact this
termination_by structural xs
theorem z719 (es : List (List AC)) (G G' : Ghost) (h h' : Nat → Option Obj) (f : Nat × List Nat → Nat × List Nat) (D : Nat × List Nat → Prop) (hS : ∀ b x, G.S b = some x → G'.S b = some x) (hι : ∀ o t, G.ι o = some t → G'.ι o = some t)
    (hf:∀ o j q,D (o,q)→f (o,j::q)=((f (o,q)).1,j::(f (o,q)).2)) (hD:∀ o j q,D (o,q)→D (o,j::q))
    (hκ:∀ b p,D p→G.κ b=some p→G'.κ b=some (f p)∧h' b=h b) (l:Loc) (w:Nat) (c:Array Value) (off:Nat) (hl:∀ p,l=some p→D p) (hv:VLL G h l w es c off):VLL G' h' (l.map f) w es c off:=by
  match es with
  | []=>simp [VLL]
  | e::es =>
    simp only [VLL] at hv ⊢
    obtain ⟨h1,h2,h3⟩:=hv
    exact ⟨h1,z580 e G G' h h' f D hS hι hf hD hκ l c off hl h2,z719 es G G' h h' f D hS hι hf hD hκ l w c (off+w) hl h3⟩
termination_by structural es
end
def z704 (κ:Nat→Option (Nat×List Nat)) (o q pos:Nat) (b:Nat):Option (Nat×List Nat):=match κ b with
 |some (o',p)=>if o'=o∧p.getLast?=some pos then some (q,p.dropLast) else some (o',p)
 |none=>none
noncomputable def Ghost.exposeD (G:Ghost) (o q pos b0 size wd2:Nat):Ghost:={ G with κ:=z704 G.κ o q pos,ι:=fun o'=>if o'=q then some (b0,size,wd2) else G.ι o' }
theorem Wf.exposeD {G : Ghost} {objs : Nat → AObj} {w : World} (hW : Wf G objs w) {o q k j wd wd2 : Nat} {es es2 : List (List AC)} {e : List AC} (ho : objs o = .cells wd es) (he : es[k]? = some e) (hj : e[j]? = some (.own wd2 es2)) (hq : objs q = .fresh) :
    ∃ G',(∀ b x,G.S b=some x→G'.S b=some x)∧G'.U=G.U∧(∀ o t,G.ι o=some t→G'.ι o=some t)∧Wf G' (upd (upd objs o (.cells wd (es.set k (e.set j (.sref q 0 es2.length))))) q (.cells wd2 es2)) w:=by
  have hoq:o≠q:=by rintro rfl;rw [ho] at hq;cases hq
  obtain ⟨b,c,el,hι,hκ,hb,hc⟩:=hW.obj ho he
  have hιq:G.ι q=none:=by have:=hW.objs q;rw [hq] at this;exact this
  have hkl:k < es.length:=(List.getElem?_eq_some_iff.1 he).1
  have hjl:j < e.length:=(List.getElem?_eq_some_iff.1 hj).1
  rw [z74] at hc
  obtain ⟨hek,hcv⟩:=hc k e he
  rw [z70] at hcv
  obtain ⟨v0,hv0,hv0'⟩:=hcv j _ hj
  simp only [V,Loc.cell,Option.map_some] at hv0'
  obtain ⟨a,cap,rfl,hcap,hown⟩:=hv0'
  rcases hown with ⟨hes,hcap0⟩|⟨b0,c0,el0,p,ha,hp,hκ0,hb0,hsz,hc0⟩
  · -- no block
    subst hes hcap0
    refine ⟨G,fun _ _ e=>e,rfl,fun _ _ e=>e,hW.hS,hW.hU,hW.su,hW.sk,fun o'=>?_⟩
    by_cases h1:o'=q
    · subst h1;rw [z36];exact .inl ⟨rfl,hιq⟩
    · rw [z52 _ _ h1]
      by_cases h2:o'=o
      · subst h2
        rw [z36]
        refine .inr ⟨b,c.size,c,el,hι,hκ,hb,rfl,?_⟩
        rw [z74]
        intro i e' he'
        by_cases hik:i=k
        · subst hik
          rw [List.getElem?_set_self hkl] at he'
          cases he'
          refine ⟨by simpa using hek,?_⟩
          rw [z70]
          intro jj x hx
          by_cases hjj:jj=j
          · subst hjj
            rw [List.getElem?_set_self hjl] at hx
            cases hx
            exact ⟨_,hv0,by simp only [V];exact ⟨0,y49 _,.inl ⟨rfl,a,rfl⟩⟩⟩
          · rw [List.getElem?_set_ne (Ne.symm hjj)] at hx
            exact hcv jj x hx
        · rw [List.getElem?_set_ne (Ne.symm hik)] at he'
          exact hc i e' he'
      · rw [z52 _ _ h2];exact hW.objs o'
  · subst ha
    cases hp
    rw [Nat.zero_add] at hκ0
    have hS:∀ b' x,G.S b'=some x→(G.exposeD o q (k * wd+j) b0 c0.size wd2).S b'=some x:=fun _ _ e=>e
    have hιs:∀ o' t,G.ι o'=some t→(G.exposeD o q (k * wd+j) b0 c0.size wd2).ι o'=some t:=fun o' t e=>by
      by_cases h:o'=q
      · subst h;rw [hιq] at e;cases e
      · simp only [Ghost.exposeD,if_neg h];exact e
    have hκ' : ∀ b' p',¬(p'.1=o∧p'.2.getLast?=some (k * wd+j))→G.κ b'=some p'→(G.exposeD o q (k * wd+j) b0 c0.size wd2).κ b'=some p':=fun b' p' hne hk=>by
      obtain ⟨p1,p2⟩:=p'
      simp only [Ghost.exposeD,z704,hk,if_neg hne]
    have hκm:∀ b' p',p'.1=o∧p'.2.getLast?=some (k * wd+j)→G.κ b'=some p'→(G.exposeD o q (k * wd+j) b0 c0.size wd2).κ b'=some (q,p'.2.dropLast):=fun b' p' hne hk=>by
      obtain ⟨p1,p2⟩:=p'
      simp only [Ghost.exposeD,z704,hk,if_pos hne]
    refine ⟨G.exposeD o q (k * wd+j) b0 c0.size wd2,hS,rfl,hιs,hW.hS,hW.hU,hW.su,fun b' p' hk=>?_,fun o'=>?_⟩
    · cases hkb:G.κ b' with
      | none=>simp [Ghost.exposeD,z704,hkb] at hk
      | some p=>exact hW.sk _ _ hkb
    · by_cases h1:o'=q
      · subst h1
        rw [z36]
        refine .inr ⟨b0,c0.size,c0,el0,by simp [Ghost.exposeD],by have:=hκm b0 (o,[k * wd+j]) ⟨rfl,rfl⟩ hκ0;simpa using this,hb0,rfl,?_⟩
        have:=z719 es2 G.bare (G.exposeD o o' (k * wd+j) b0 c0.size wd2) (hp w) (hp w) (fun p=>(o',p.2.dropLast)) (fun p=>p.1=o∧p.2.getLast?=some (k * wd+j)) hS (fun _ _ e=>by cases e)
          (fun o1 j1 q1 h=>by
            cases q1 with
            | nil=>simp at h
            | cons y ys=>simp [List.dropLast_cons_of_ne_nil])
          (fun o1 j1 q1 h=>by
            cases q1 with
            | nil=>simp at h
            | cons y ys=>simpa using h)
          (fun b' p hp hk=>⟨hκm b' p hp hk,rfl⟩) (some (o,[0+k * wd+j])) wd2 c0 0 (fun p hp=>by cases hp;simp) hc0
        simpa using this
      · rw [z52 _ _ h1]
        by_cases h2:o'=o
        · subst h2
          rw [z36]
          refine .inr ⟨b,c.size,c,el,hιs _ _ hι,hκ' b (o',[]) (by simp) hκ,hb,rfl,?_⟩
          have hmv:∀ (x:AC) (pos:Nat) (v:Value),pos≠0+k * wd+j→V G (hp w) (some (o',[pos])) x v→V (G.exposeD o' q (k * wd+j) b0 c0.size wd2) (hp w) (some (o',[pos])) x v:=fun x pos v hne hv=>by
            have:=z302 x G (G.exposeD o' q (k * wd+j) b0 c0.size wd2) (hp w) (hp w) id (fun p=>p.2.getLast?=some pos) hS hιs (fun _ _ _=>rfl) (fun o'' j' q' h=>by
              cases q' with
              | nil=>simp at h
              | cons y ys=>simpa using h) (fun b' p hp hk=>⟨hκ' b' p (by rintro ⟨_,h⟩;rw [hp] at h;cases h;exact hne (by omega)) hk,rfl⟩) (some (o',[pos])) v (fun p hp=>by cases hp;rfl) hv
            simpa using this
          rw [z74]
          intro i e' he'
          by_cases hik:i=k
          · subst hik
            rw [List.getElem?_set_self hkl] at he'
            cases he'
            refine ⟨by simpa using hek,?_⟩
            rw [z70]
            intro jj x hx
            by_cases hjj:jj=j
            · subst hjj
              rw [List.getElem?_set_self hjl] at hx
              cases hx
              refine ⟨_,hv0,?_⟩
              simp only [V]
              exact ⟨cap,by omega,.inr ⟨b0,c0.size,wd2,by simp [Ghost.exposeD],by simpa using hsz,by simp⟩⟩
            · rw [List.getElem?_set_ne (Ne.symm hjj)] at hx
              obtain ⟨v,hv1,hv2⟩:=hcv jj x hx
              exact ⟨v,hv1,by simpa [Loc.cell] using hmv x _ v (by omega) (by simpa [Loc.cell] using hv2)⟩
          · rw [List.getElem?_set_ne (Ne.symm hik)] at he'
            obtain ⟨h3,h4⟩:=hc i e' he'
            refine ⟨h3,?_⟩
            rw [z70] at h4 ⊢
            intro jj x hx
            obtain ⟨v,hv1,hv2⟩:=h4 jj x hx
            have hjw:jj < wd:=by rw [← h3];exact (List.getElem?_eq_some_iff.1 hx).1
            have hne:0+i * wd+jj≠0+k * wd+j:=by
              intro heq
              have hj' : j < wd:=by rw [← hek];exact hjl
              rcases Nat.lt_or_gt_of_ne hik with hlt|hlt
              · have:(i+1) * wd≤k * wd:=Nat.mul_le_mul_right _ hlt
                rw [Nat.add_mul] at this;omega
              · have:(k+1) * wd≤i * wd:=Nat.mul_le_mul_right _ hlt
                rw [Nat.add_mul] at this;omega
            exact ⟨v,hv1,by simpa [Loc.cell] using hmv x _ v hne (by simpa [Loc.cell] using hv2)⟩
        · rw [z52 _ _ h2]
          exact z225 hS (fun _ _ e=>hιs _ _ e) (by simp [Ghost.exposeD,h1]) (fun b' p hp hk=>⟨hκ' b' p (by rintro ⟨h,_⟩;exact h2 (hp.symm.trans h)) hk,rfl⟩) (hW.objs o')
theorem Reach.exposeD {m n : Nat} {env : List (Nat × AC)} {objs objs' : List AObj} (o k j : Nat) {wd wd2 : Nat} {es es2 : List (List AC)} {e : List AC} (ho : z47 objs o = .cells wd es) (he : es[k]? = some e) (hj : e[j]? = some (.own wd2 es2))
    (hk:z333 objs [⟨o,.dead,.cells wd (es.set k (e.set j (.sref objs.length 0 es2.length)))⟩,⟨objs.length,.fresh,.cells wd2 es2⟩] fun l=>l=objs'):Reach m (mkSt n env objs) (mkSt n env objs'):=fun G a w hR=>by
  obtain ⟨l,rfl,hl⟩:=z143 hk
  obtain ⟨G',h1,h2,h3,h4⟩:=hR.wf.exposeD (q:=objs.length) ho he hj (z78 (y49 _))
  refine ⟨G',⟨⟨h1,h2⟩,fun o t _ e=>h3 o t e⟩,⟨?_,fun s=>z149 h1 h3 (hR.env s),hR.size,hR.defers.mono h1⟩⟩
  show Wf G' (z47 l) w
  rw [hl];exact h4
end Go.Gl
namespace Go.Gl
variable {P:Program} {st:St} {K:OpK} {f:FuncId} {first caps args args0:List AC} {objs0 objs1 objs1' : List AObj} {res:AC}
def addN (l:List Nat) (x:Nat):List Nat:=match inB l x with
 |true=>l
 |false=>l++[x]
mutual
def namesA (acc:List Nat) (x:AC):List Nat:=match x with
 |.sref o _ _=>addN acc o
 |.ptr o _ _=>addN acc o
 |.mref o=>addN acc o
 |.fn _ a b=>z542 (z542 acc a) b
 |.agg cs=>z542 acc cs
 |.tup cs=>z542 acc cs
 |_=>acc
termination_by structural x
def z542 (acc:List Nat) (xs:List AC):List Nat:=match xs with
 |[]=>acc
 |x::xs=>z542 (namesA acc x) xs
termination_by structural xs
end
end Go.Gl
namespace Go.Gl
open Go.Sort
variable {P:Program}
theorem hp_put {w : World} {b : Nat} {n : Nat} {r : Array Int} {os : Array Obj} {c : Array Value} {el : TypeId} (hb : hp w b = some (.cells c el (0, 0))) :
    hp (grow (putRow (Value.int .i64) (Sort.ahead w n) b 0 r) os) b=some (.cells (putCells (Value.int .i64) 0 r c) el (0,0)):=by
  have hlt:b < w.heap.size:=(Array.getElem?_eq_some_iff.1 (show w.heap[b]?=_ from hb)).1
  have hb' : w.heap[b]=.cells c el (0,0):=(Array.getElem?_eq_some_iff.1 (show w.heap[b]?=_ from hb)).2
  show (w.heap.modify b (onCells (putCells (Value.int .i64) 0 r))++os)[b]?=_
  rw [Array.getElem?_append_left (by simpa using hlt),Array.getElem?_eq_getElem (by simpa using hlt),Array.getElem_modify]
  simp [hb',onCells]
theorem hp_old {w : World} {b k : Nat} {n : Nat} {r : Array Int} {os : Array Obj} {x : Obj} (hk : k ≠ b) (hx : w.heap[k]? = some x) :
    (grow (putRow (Value.int .i64) (Sort.ahead w n) b 0 r) os).heap[k]?=some x:=by
  have hlt:k < w.heap.size:=(Array.getElem?_eq_some_iff.1 hx).1
  have hx' : w.heap[k]=x:=(Array.getElem?_eq_some_iff.1 hx).2
  show (w.heap.modify b (onCells (putCells (Value.int .i64) 0 r))++os)[k]?=_
  rw [Array.getElem?_append_left (by simpa using hlt),Array.getElem?_eq_getElem (by simpa using hlt),Array.getElem_modify,if_neg (Ne.symm hk),hx']
theorem z370 {f : FuncId} {l r l' : List Int} {res : AC} (hlen : r.length = l.length) (hpos : 0 < l.length) (hl' : ∀ (i : Nat) (x : Int), l'[i]? = some x → r[i]? = some x) (hf : z833 P f)
    (hc:∀ (blk cap:Nat) (w:World),Holds (Value.int .i64) w blk 0 l.toArray→blk < w.heap.size→l.length≤cap→Calls P f #[.slice (some ⟨blk,0,none⟩) l.length cap] w fun e w' =>
      ∃ v,e=.returned v∧(∃ n os,w'=grow (putRow (Value.int .i64) (Sort.ahead w n) blk 0 r.toArray) os)∧∀ (G:Ghost) (h:Nat→Option Obj) (size:Nat),G.ι 0=some (blk,size,1)→cap≤size→V G h none res v) :
    CallsA P f [.sref 0 0 l.length] [.cells 1 (l.map fun n=>[AC.int n])] res [.cells 1 (l'.map fun n=>[AC.int n])]:=by
  refine ⟨hf,fun G w vs hW hs hv=>?_⟩
  simp only [VL] at hv
  obtain ⟨⟨v,hv1,hv2⟩,_⟩:=hv
  obtain rfl:vs=#[v]:=by
    apply Array.ext_getElem?
    intro i
    rcases i with _|i
    · rw [hv1];rfl
    · rw [Array.getElem?_eq_none (by simp at hs;omega),Array.getElem?_eq_none (by simp)]
  simp only [V] at hv2
  obtain ⟨cap,hcap,hv2⟩:=hv2
  have ho:=hW.objs 0
  have e0:z47 [.cells 1 (l.map fun n=>[AC.int n])] 0=.cells 1 (l.map fun n=>[AC.int n]):=rfl
  rw [e0] at ho
  rcases hv2 with ⟨rfl,_⟩|⟨b,size,wd,hι,hsz,rfl⟩
  · omega
  rcases ho with ⟨h0,_⟩|⟨b',size',c,el,h1,h2,h3,h4,h5⟩
  · have:=congrArg List.length h0
    simp at this
    rw [this] at hpos;simp at hpos
  rw [hι] at h1
  cases h1
  rw [z74] at h5
  have hcell:∀ j (hj:j < l.length),c[j]?=some (.int .i64 l[j]):=fun j hj=>by
    obtain ⟨_,h6⟩:=h5 j [AC.int l[j]] (by rw [y48,y42 hj];rfl)
    rw [z70] at h6
    obtain ⟨u,hu,hV⟩:=h6 0 _ rfl
    simp only [V] at hV
    subst hV
    simpa using hu
  have hbw:w.heap[b]?=some (.cells c el (0,0)):=h3
  have hblt:b < w.heap.size:=(Array.getElem?_eq_some_iff.1 hbw).1
  have hH:Holds (Value.int .i64) w b 0 l.toArray:=fun j hj=>by
    have hj' : j < l.length:=by simpa using hj
    refine ⟨?_,by simp [World.frozen?,hbw]⟩
    simp only [World.cell?,hbw,Nat.zero_add]
    simpa [hj'] using hcell j hj'
  have hcsz:l.length≤c.size:=by
    have:=hcell (l.length - 1) (by omega)
    have:=(Array.getElem?_eq_some_iff.1 this).1
    omega
  rw [Nat.zero_mul]
  refine (hc b cap w hH hblt hcap).mono ?_
  rintro e w' ⟨v',rfl,⟨n,os,rfl⟩,hres⟩
  refine ⟨G,v',rfl,Ghost.Sub.refl G,fun _ _ _ h=>h,⟨rfl,rfl,rfl,?_⟩,⟨fun k x hk=>?_,fun k x hk=>?_,hW.su,fun k p hk=>?_,fun o=>?_⟩,hres G _ size hι (by simpa using hsz)⟩
  · show _≤(w.heap.modify b _++os).size
    simp
  · have hk2:=hW.hS k x hk
    refine hp_old ?_ hk2
    rintro rfl
    rw [(hW.sk _ _ h2).1] at hk;cases hk
  · have hk2:=hW.hU k x hk
    refine hp_old ?_ hk2
    rintro rfl
    rw [(hW.sk _ _ h2).2.1] at hk;cases hk
  · obtain ⟨s1,s2,s3⟩:=hW.sk k p hk
    refine ⟨s1,s2,?_⟩
    show k < (w.heap.modify b _++os).size
    simp;omega
  · rcases o with _|o
    · refine .inr ⟨b,size,putCells (Value.int .i64) 0 r.toArray c,el,hι,h2,hp_put h3,by simp [putCells,h4],?_⟩
      rw [z74]
      intro i e he
      rw [y48] at he
      cases hx:l'[i]? with
      | none=>rw [hx] at he;cases he
      | some x =>
        rw [hx] at he
        cases he
        have hr:=hl' i x hx
        have hil:i < r.length:=(List.getElem?_eq_some_iff.1 hr).1
        refine ⟨rfl,?_⟩
        rw [z70]
        intro j y hy
        match j,hy with
        | 0,hy =>
          cases hy
          refine ⟨.int .i64 x,?_,by simp [V]⟩
          have hr2:r[i]=x:=(List.getElem?_eq_some_iff.1 hr).2
          have hic:i < c.size:=by omega
          simp [putCells,hil,hr2,hic]
        | j+1,hy=>simp at hy
    · have h6:=hW.objs (o+1)
      exact h6
end Go.Gl
namespace Go.Gl
theorem z472 {α:Type} (f:α→Nat) {l:List α} {a:α} (h:a∈l):f a≤(l.map f).sum:=by
 induction l with
 |nil=>cases h
 |cons b l ih =>
  simp only [List.map_cons,List.sum_cons]
  cases h with
  |head=>omega
  |tail _ h=>have:=ih h;omega
inductive Tree where
 |mk (kind val:Int) (kids:List Tree)
def Tree.kind:Tree→Int | .mk k _ _=>k
def Tree.val:Tree→Int | .mk _ v _=>v
def Tree.kids:Tree→List Tree | .mk _ _ l=>l
mutual
def Tree.cs:Tree→List AC
 |.mk k v l=>[.int k,.int v,.list 3 l.length (Tree.css l)]
def Tree.css:List Tree→List (List AC)
 |[]=>[]
 |t::l=>Tree.cs t::Tree.css l
end
mutual
def Tree.sz:Tree→Nat
 |.mk _ _ l=>Tree.szs l
def Tree.szs:List Tree→Nat
 |[]=>0
 |t::l=>1+Tree.sz t+Tree.szs l
end
mutual
def Tree.mx:Tree→Prop
 |.mk _ _ l=>l.length≤maxLen∧Tree.mxs l
def Tree.mxs (l:List Tree):Prop:=match l with
 |[]=>True
 |t::r=>Tree.mx t∧Tree.mxs r
end
theorem Tree.css_eq (l:List Tree):Tree.css l=l.map Tree.cs:=by
 induction l with
 |nil=>simp [Tree.css]
 |cons t l ih=>simp [Tree.css,ih]
def Tree.cs' (t:Tree):List AC:=[.int t.kind,.int t.val,.list 3 t.kids.length (t.kids.map Tree.cs)]
theorem y18:Tree.cs=Tree.cs':=by
 funext t
 cases t with
 |mk k v l=>simp [Tree.cs,Tree.cs',Tree.css_eq,Tree.kind,Tree.val,Tree.kids]
theorem Tree.szs_eq (l:List Tree):Tree.szs l=l.length+(l.map Tree.sz).sum:=by
 induction l with
 |nil=>simp [Tree.szs]
 |cons t l ih=>simp [Tree.szs,ih];omega
theorem y36 (t:Tree):t.sz=t.kids.length+(t.kids.map Tree.sz).sum:=by
 cases t with
 |mk k v l=>simp only [Tree.sz,Tree.kids,Tree.szs_eq]
theorem Tree.mxs_iff (l:List Tree):Tree.mxs l↔∀ t∈l,t.mx:=by
 induction l with
 |nil=>simp [Tree.mxs]
 |cons t l ih=>simp [Tree.mxs,ih]
theorem y28 (t:Tree):t.mx↔t.kids.length≤maxLen∧∀ u∈t.kids,u.mx:=by
 cases t with
 |mk k v l=>simp only [Tree.mx,Tree.kids,Tree.mxs_iff]
theorem Tree.lst_eq (l:List Tree):AC.list 3 l.length (l.map Tree.cs)=AC.list 3 l.length (l.map Tree.cs'):=by rw [y18]
noncomputable instance:DecidableEq Tree:=Classical.typeDecidableEq Tree
theorem Tree.ext {a b:Tree} (h1:a.kind=b.kind) (h2:a.val=b.val) (h3:a.kids=b.kids):a=b:=by
 cases a;cases b;simp_all [Tree.kind,Tree.val,Tree.kids]
theorem y27 {p:Tree→Prop} (h:∀ t,(∀ u∈t.kids,p u)→p t) (t:Tree):p t :=
 Tree.rec (motive_1:=p) (motive_2:=fun l=>∀ u∈l,p u) (fun _ _ _ ih=>h _ ih) (fun _ h=>by cases h) (fun _ _ h1 h2 u hu=>by
  cases hu with
  |head=>exact h1
  |tail _ h=>exact h2 u h) t
variable {P:Program} {T:Tab}
inductive F2 {α β:Type} (R:α→β→Prop):List α→List β→Prop
 |nil:F2 R [] []
 |cons {x:α} {y:β} {xs:List α} {ys:List β} : R x y→F2 R xs ys→F2 R (x::xs) (y::ys)
theorem VL_le {xs ys:List AC} (h:F2 LocLe xs ys):∀ {G:Ghost} {hh:Nat→Option Obj} {l:Loc} {c:Array Value} {off:Nat},VL G hh l xs c off→VL G hh l ys c off:=by
 induction h with
 |nil=>intro G hh l c off _;simp [VL]
 |cons h1 _ ih =>
  intro G hh l c off hv
  simp only [VL] at hv ⊢
  obtain ⟨⟨v,hv1,hv2⟩,hv3⟩:=hv
  exact ⟨⟨v,hv1,h1 _ _ _ _ hv2⟩,ih hv3⟩
theorem z234 {α β:Type} {R:α→β→Prop} {xs:List α} {ys:List β} (h:F2 R xs ys):xs.length=ys.length:=by
 induction h with
 |nil=>rfl
 |cons _ _ ih=>simp [ih]
theorem VLL_le {w:Nat} {xs ys:List (List AC)} (h:F2 (F2 LocLe) xs ys):∀ {G:Ghost} {hh:Nat→Option Obj} {l:Loc} {c:Array Value} {off:Nat},VLL G hh l w xs c off→VLL G hh l w ys c off:=by
 induction h with
 |nil=>intro G hh l c off _;simp [VLL]
 |cons h1 _ ih =>
  intro G hh l c off hv
  simp only [VLL] at hv ⊢
  obtain ⟨hv1,hv2,hv3⟩:=hv
  exact ⟨by rw [← z234 h1,hv1],VL_le h1 hv2,ih hv3⟩
theorem LocLe.trans {x y z:AC} (h:LocLe x y) (k:LocLe y z):LocLe x z:=fun G hh l v hv=>k G hh l v (h G hh l v hv)
theorem y11 {x y:AC} (h:x=y):LocLe x y:=h ▸ y83 x
theorem z63 {w:Nat} : LocLe .nils (.list w 0 []):=fun G h l v hv=>by
 simp only [V] at hv ⊢
 exact ⟨none,0,hv,y49 _,rfl,.inl trivial⟩
theorem z57 {xs ys:List AC} (h:F2 LocLe xs ys):LocLe (.agg xs) (.agg ys):=fun G hh l v hv=>by
 simp only [V] at hv ⊢
 obtain ⟨c,rfl,h1,h2⟩:=hv
 exact ⟨c,rfl,by rw [h1,z234 h],VL_le h h2⟩
theorem z156 {xs ys:List AC} (h:F2 LocLe xs ys):LocLe (.tup xs) (.tup ys):=fun G hh l v hv=>by
 simp only [V] at hv ⊢
 obtain ⟨c,rfl,h1,h2⟩:=hv
 exact ⟨c,rfl,by rw [h1,z234 h],VL_le h h2⟩
theorem z97 {w n n' : Nat} {xs ys:List (List AC)} (hn:n=n') (h:F2 (F2 LocLe) xs ys):LocLe (.list w n xs) (.list w n' ys):=fun G hh l v hv=>by
 subst hn
 simp only [V] at hv ⊢
 obtain ⟨a,cap,rfl,h1,h2,h3⟩:=hv
 refine ⟨a,cap,rfl,h1,by rw [← z234 h,h2],?_⟩
 rcases h3 with rfl|⟨b,off,c,el,fz,h4,h5,h6⟩
 ·cases h;exact .inl rfl
 ·exact .inr ⟨b,off,c,el,fz,h4,h5,VLL_le h h6⟩
theorem z326 (xs:List AC):F2 LocLe xs xs:=by
 induction xs with
 |nil=>exact .nil
 |cons x xs ih=>exact .cons (y83 x) ih
theorem z10 (xs:List (List AC)):F2 (F2 LocLe) xs xs:=by
 induction xs with
 |nil=>exact .nil
 |cons x xs ih=>exact .cons (z326 x) ih
theorem z21 {xs ys:List (List AC)} (h:xs=ys):F2 (F2 LocLe) xs ys:=h ▸ z10 xs
theorem node_le' {k v:Int} {x:AC} {l:List Tree} (h:LocLe x (.list 3 l.length (l.map Tree.cs))):F2 LocLe [.int k,.int v,x] (Tree.cs' (.mk k v l)) :=
 .cons (y83 _) (.cons (y83 _) (.cons h .nil))
def ObjLe:AObj→AObj→Prop
 |.cells w es,.cells w' es'=>w=w'∧F2 (F2 LocLe) es es'
 |.dead,.dead=>True
 |.mp d es,.mp d' es'=>d=d'∧es=es'
 |_,_=>False
theorem ObjLe.mk {w:Nat} {es es' : List (List AC)} (h:F2 (F2 LocLe) es es'):ObjLe (.cells w es) (.cells w es'):=⟨rfl,h⟩
theorem ObjLe.box {w:Nat} {e e' : List AC} (h:F2 LocLe e e'):ObjLe (.cells w [e]) (.cells w [e']):=⟨rfl,.cons h .nil⟩
theorem ObjRel.le {G:Ghost} {h:Nat→Option Obj} {o:Nat} {x y:AObj} (hl:ObjLe x y) (hx:ObjRel G h o x):ObjRel G h o y:=by
 cases x with
 |fresh=>exact hl.elim
 |mp d es =>
  cases y with
  |mp d' es'=>obtain ⟨rfl,rfl⟩:=hl;exact hx
  |_=>exact hl.elim
 |dead =>
  cases y with
  |dead=>exact hx
  |_=>exact hl.elim
 |cells w es =>
  cases y with
  |cells w' es' =>
   obtain ⟨rfl,hl⟩:=hl
   rcases hx with ⟨h1,h2⟩|⟨b,size,c,el,h1,h2,h3,h4,h5⟩
   ·subst h1;cases hl;exact .inl ⟨rfl,h2⟩
   ·exact .inr ⟨b,size,c,el,h1,h2,h3,h4,VLL_le hl h5⟩
  |_=>exact hl.elim
theorem Wf.le {G:Ghost} {objs objs' : List AObj} {w:World} (h:Wf G (z47 objs) w) (hl:F2 ObjLe objs objs'):Wf G (z47 objs') w:=by
 refine ⟨h.hS,h.hU,h.su,h.sk,fun o=>?_⟩
 have ho:=h.objs o
 have key:∀ {xs ys:List AObj} (k:Nat),F2 ObjLe xs ys→ObjLe (z47 xs k) (z47 ys k)∨z47 xs k=z47 ys k:=by
  intro xs ys k hf
  induction hf generalizing k with
  |nil=>exact .inr rfl
  |cons h1 _ ih =>
   cases k with
   |zero=>exact .inl h1
   |succ k=>exact ih k
 rcases key o hl with h1|h1
 ·exact ObjRel.le h1 ho
 ·show ObjRel G (hp w) o (z47 objs' o)
  rw [← h1];exact ho
theorem CallsA.arg {f:FuncId} {args args0:List AC} {objs objs' : List AObj} {res:AC} (h:CallsA P f args objs res objs') (hl:F2 LocLe args0 args):CallsA P f args0 objs res objs' :=
 ⟨h.1,fun G w vs hW hs hv=>h.2 G w vs hW (by rw [← z234 hl,hs]) (VL_le hl hv)⟩
theorem CallsA.res {f:FuncId} {args:List AC} {objs objs' : List AObj} {res res' : AC} (h:CallsA P f args objs res objs') (hl:LocLe res res'):CallsA P f args objs res' objs' :=
 ⟨h.1,fun G w vs hW hs hv=>(h.2 G w vs hW hs hv).mono fun e w' ⟨G',v,h1,h2,h3,h4,h5,h6⟩=>⟨G',v,h1,h2,h3,h4,h5,hl _ _ _ _ h6⟩⟩
def RetS (m:Nat) (o:Nat→AObj) (res:AC) (objs' : List AObj) (r:AC):Prop :=
 ∀ (G:Ghost) (w:World) (v:Value),Wf G o w→V G (hp w) none r v→∃ G',SubM m G G'∧Wf G' (z47 objs') w∧V G' (hp w) none res v
theorem RetS.of {m:Nat} {st:St} {res:AC} {objs' : List AObj} {r:AC} (h:z38 m st res objs' r):RetS m st.objs res objs' r:=fun G w v hW hV=>by
 obtain ⟨π,hn,hf,hu,hr,ho⟩:=h
 obtain ⟨ho1,ho2⟩:=z316 0 π objs' ho
 have hpick:Wf (G.pick π) (z47 objs') w:=hW.pick hn (fun i o hio=>⟨(ho2 i o hio).2,(ho2 i o hio).1⟩) (fun i hi=>z78 (by omega))
 exact ⟨G.pick π,SubM.pick (fun i hi=>by have:=z161 m 0 π hf i hi;simpa using this),hpick,z868 _ hu (hr _ _ _ hV)⟩
theorem y14 (π Bn : List Nat) {m : Nat} {o : Nat → AObj} {res : AC} {objs' : List AObj} {r : AC} (hn : z226 (π ++ Bn) = true) (ha : allN (fun x => z169 (o x)) π = true) (hf : z267 m 0 π = true)
    (h:RetS m (z47 (π.map (z81 o π Bn))) res objs' (bor o π Bn r)):RetS m o res objs' r:=fun G w v hW hV=>by
  have hnd:=z180 hn
  obtain ⟨k1,k2,k3,k4⟩:=z395 (π:=π) (Bn:=Bn) hW (List.nodup_append.1 hnd).1 (fun o ho hb=>(List.nodup_append.1 hnd).2.2 o ho o hb rfl) (z274 ha)
  obtain ⟨G',h1,h2,h3⟩:=h _ w v k1 (k4 _ _ hV)
  refine ⟨G',SubM.trans ⟨k2,fun o t ho e=>?_⟩ h1,h2,h3⟩
  have:=z161 m 0 π hf o ho
  rw [Nat.zero_add] at this
  exact k3 o o t (z230 (List.nodup_append.1 hnd).1 this) e
theorem RetS.done {m:Nat} {objs objs' : List AObj} {res r:AC} (h1:LocLe r res) (h2:F2 ObjLe objs objs'):RetS m (z47 objs) res objs' r:=fun G w v hW hV =>
 ⟨G,SubM.refl m G,hW.le h2,h1 _ _ _ _ hV⟩
def RetSQ (T:Tab) (rs:List ResultVar) (m:Nat) (res:AC) (objs' : List AObj) (ex:Exit) (st:St):Prop:=match ex with
 |.normal=>z437 T st rs fun xs=>RetS m st.objs res objs' (z358 xs)
 |.ret=>z437 T st rs fun xs=>RetS m st.objs res objs' (z358 xs)
 |_=>False
theorem rets_ok (hT : z135 P T) {fn : Func} {m : Nat} {res : AC} {objs' : List AObj} {G : Ghost} {st : St} {a : Act} {w : World} (hR : Rel G st a w) (h : z437 T st fn.results.toList fun xs => RetS m st.objs res objs' (z358 xs)) :
    ∃ v G',(results fn a.tmps).run P w=.ok v w∧SubM m G G'∧Wf G' (z47 objs') w∧V G' (hp w) none res v:=by
  obtain ⟨xs,vs,h1,h2,h3,_,h4⟩:=z1127 hT hR _ _ h
  have hres:(results fn a.tmps).run P w=.ok (if h:vs.toArray.size=1 then vs.toArray[0] else .tuple vs.toArray) w:=by
    rw [z616,Array.mapM_eq_mapM_toList]
    simp [h1]
  have hV:V G (hp w) none (z358 xs) (if h:vs.toArray.size=1 then vs.toArray[0] else .tuple vs.toArray):=by
    by_cases hl:vs.length=1
    · obtain ⟨v,rfl⟩:=List.length_eq_one_iff.1 hl
      obtain ⟨x,rfl⟩:=List.length_eq_one_iff.1 (h2 ▸ hl)
      obtain ⟨v',hv1,hv2⟩:=h3 0 x (by simp)
      simp at hv1;subst hv1
      simpa [z358] using hv2
    · rw [dif_neg (by simpa using hl)]
      have:z358 xs=.tup xs:=by
        unfold z358
        split
        · simp at h2;exact absurd h2 hl
        · rfl
      rw [this]
      simp only [V]
      refine ⟨_,rfl,by simp [h2],z70.2 fun j x hx=>?_⟩
      obtain ⟨v,hv1,hv2⟩:=h3 j x hx
      exact ⟨v,by simpa using hv1,hv2⟩
  obtain ⟨G',h5,h6,h7⟩:=h4 G w _ hR.wf hV
  exact ⟨_,G',hres,h5,h6,h7⟩
theorem z12 (hT : z135 P T) {f : FuncId} {fn : Func} {c : Code} (hf : P.funcs[f]? = some fn) (hb : fn.body = some c) (hn : (fn.name == "runtime.NumGoroutine") = false) {args : List AC} {objs : List AObj} {res : AC} {objs' : List AObj}
    (n:Nat) (hnt:fn.ntmps=n) (hl:args.length≤n) (h:AWP P objs.length c (RetSQ T fn.results.toList objs.length res objs') (mkSt n (z204 0 args) objs)):CallsA P f args objs res objs':=by
  subst hnt
  refine ⟨⟨fn,c,hf,hn,hb⟩,fun G w vs hW hs hv=>?_⟩
  refine z473 hf hb (z200 (h G.split { tmps:=vs++Array.replicate (fn.ntmps - vs.size) undef,defers:=[] } w ⟨hW.split,fun s=>z915 (G:=G) (fun _ _ _ _ e=>z661 e) (fun _ _ e=>e) (h:=hp w) (h':=hp w) ?_,by show _=fn.ntmps;simp;omega,Marks.nil _⟩) fun ex a' w' hq=>?_)
  · show V G (hp w) none (z113 (z204 0 args) s) _
    rw [z540]
    by_cases hsl:s < args.length
    · have hx:args[s]?=some args[s]:=y42 hsl
      obtain ⟨v,hv1,hv2⟩:=z70.1 hv s _ hx
      rw [Nat.zero_add] at hv1
      rw [z72 hx]
      have:(vs++Array.replicate (fn.ntmps - vs.size) undef).getD s undef=v:=by
        rw [y78,Array.getElem?_append,if_pos (by omega),hv1];rfl
      rw [this];exact hv2
    · rw [z78 (by omega)];simp [V]
  · obtain ⟨G',st',h1,h2,h3,h4⟩:=hq
    obtain ⟨Ds,d1,d2,d3,d4,d5,d6⟩:=z776 hW h1.1 h4
    have h1' : SubM objs.length G (G.join G' Ds):=⟨d4,fun o t ho e=>by rw [d5];exact h1.2 o t ho e⟩
    have key:(z437 T st' fn.results.toList fun xs=>RetS objs.length st'.objs res objs' (z358 xs))→LeavesInM Fence.wide 0 P fn a'.tmps (fun e w'=>∃ G'' v',e=.returned v'∧G.Sub G''∧(∀ o t,o < objs.length→G.ι o=some t→G''.ι o=some t)∧Le w w'∧Wf G'' (z47 objs') w'∧V G'' (hp w') none res v') a'.defers .returning w':=by
      intro hr
      obtain ⟨v,G'',h5,h6,h7,h8⟩:=rets_ok hT d6 hr
      have h9:=h1'.trans h6
      rw [d1]
      exact z471 Ds w' d2 d3 ⟨v,h5,G'',v,rfl,h9.1,h9.2,h2.trans (z929 Ds w'),h7,h8⟩
    cases ex with
    | normal=>exact key h3
    | ret=>exact key h3
    | _=>exact h3.elim
def envLe (f:Nat→AC):List (Nat×AC)→Prop
 |[]=>True
 |(s,x)::r=>LocLe (f s) x∧envLe f r
theorem z1046 {f:Nat→AC} {env:List (Nat×AC)} (h:envLe f env) (s:Nat):LocLe (f s) (z113 env s):=by
 induction env with
 |nil=>exact fun G hh l v _=>by simp [z113,V]
 |cons y env ih =>
  obtain ⟨s',x⟩:=y
  obtain ⟨h1,h2⟩:=h
  simp only [z113]
  cases hb:Nat.beq s s' with
  |true=>rw [Nat.eq_of_beq_eq_true hb];exact h1
  |false=>exact ih h2
theorem SealW.reach (π Bn : List Nat) {m n : Nat} {st : St} {env : List (Nat × AC)} {objs : List AObj} (hst : st.n = n) (hn : z226 (π ++ Bn) = true) (ha : allN (fun x => z169 (st.objs x)) π = true) (hf : z267 m 0 π = true)
    (he:envLe (fun s=>bor st.objs π Bn (st.env s)) env) (ho:F2 ObjLe (π.map (z81 st.objs π Bn)) objs):Reach m st (mkSt n env objs):=fun G a w hR=>by
  have hnd:=z180 hn
  obtain ⟨k1,k2,k3,k4⟩:=z395 (π:=π) (Bn:=Bn) hR.wf (List.nodup_append.1 hnd).1 (fun o ho hb=>(List.nodup_append.1 hnd).2.2 o ho o hb rfl) (z274 ha)
  refine ⟨_,⟨k2,fun o t ho e=>?_⟩,⟨k1.le ho,fun s=>?_,by rw [hR.size,hst];rfl,hR.defers.mono k2.S⟩⟩
  · have:=z161 m 0 π hf o ho
    rw [Nat.zero_add] at this
    exact k3 o o t (z230 (List.nodup_append.1 hnd).1 this) e
  · exact z1046 he s _ _ _ _ (k4 _ _ (hR.env s))
theorem z56 {q:Nat} : LocLe .nils (.sref q 0 0):=fun G h l v hv=>by
 simp only [V] at hv ⊢
 exact ⟨0,y49 _,.inl ⟨rfl,none,hv⟩⟩
theorem Reach.empty (w:Nat) {m n:Nat} {env:List (Nat×AC)} {objs:List AObj} (_hm:Nat.ble m objs.length=true):Reach m (mkSt n env objs) (mkSt n env (objs++[.cells w []])):=fun G a wd hR=>by
 refine ⟨G,SubM.refl m G,⟨⟨hR.wf.hS,hR.wf.hU,hR.wf.su,hR.wf.sk,fun o=>?_⟩,hR.env,hR.size,hR.defers⟩⟩
 show ObjRel G (hp wd) o (z65 .fresh (objs++[.cells w []]) o)
 have ho:ObjRel G (hp wd) o (z65 .fresh objs o):=hR.wf.objs o
 rcases Nat.lt_trichotomy o objs.length with h|h|h
 ·have h1:(objs++[AObj.cells w []])[o]?=some objs[o]:=by rw [y63 h,y42 h]
  rw [z72 h1]
  rwa [z72 (y42 h)] at ho
 ·subst h
  rw [z72 (x:=AObj.cells w []) (by simp)]
  rw [z78 (y49 _)] at ho
  exact .inl ⟨rfl,ho⟩
 ·rw [z78 (by simp;omega)]
  rwa [z78 (by omega)] at ho
def z42 {α:Type} (I:α→List (Nat×AC)×List AObj) (ok:α→Prop) (μ:α→Nat) (x:α) (m n:Nat) (st:St):Prop:=∃ y,ok y∧μ y < μ x∧Reach m st (mkSt n (I y).1 (I y).2)
theorem z29 {α:Type} {I:α→List (Nat×AC)×List AObj} {ok:α→Prop} {μ:α→Nat} {x:α} {m n:Nat} {st:St} (y:α) (h1:ok y) (h2:μ y < μ x) (h3:Reach m st (mkSt n (I y).1 (I y).2)):z42 I ok μ x m n st:=⟨y,h1,h2,h3⟩
theorem z69 {α : Type} {m n : Nat} {env : List (Nat × AC)} {objs : List AObj} {body : Code} {Q : Exit → St → Prop} (I : α → List (Nat × AC) × List AObj) (ok : α → Prop) (μ : α → Nat) (x0 : α) (h0 : ok x0) (hinit : Reach m (mkSt n env objs) (mkSt n (I x0).1 (I x0).2))
    (round:∀ x,ok x→AWP P m body (z655 (fun st'=>z42 I ok μ x m n st') Q) (mkSt n (I x).1 (I x).2)):AWP P m (.loop body) Q (mkSt n env objs):=z1259 I ok μ x0 h0 hinit round
theorem z11 {objs:Nat→AObj} {π Bn:List Nat} {o w:Nat} {es es' : List (List AC)} (ho:objs o=.cells w es) (hf:Flat es) (h:F2 (F2 LocLe) es es'):ObjLe (z81 objs π Bn o) (.cells w es'):=by
 rw [z89 ho hf];exact ⟨rfl,h⟩
theorem z48 {α:Type} {f:α→List AC} (h:∀ a,z299 (f a)=f a) (l:List α):z80 (l.map f)=l.map f:=by
 induction l with
 |nil=>rfl
 |cons a l ih=>simp only [List.map_cons,z80,h a,ih]
theorem z25 {a:List (List AC)} (h:Flat a) (n:Nat):Flat (a.take n):=fun e he=>h e (List.mem_of_mem_take he)
theorem z1215 {a:List (List AC)} (h:Flat a) (n:Nat) {e:List AC} (he:z325 e=true):Flat (a.set n e):=fun x hx=>by
 rcases List.mem_or_eq_of_mem_set hx with h1|rfl
 ·exact h x h1
 ·exact he
theorem z130 {α:Type} {f:α→List AC} {l:List α} {k n:Nat} {e:List AC} (hn:n=k) (hk:k < l.length) (he:F2 LocLe e (f (l[k]'hk))):F2 (F2 LocLe) (((l.take k).map f).take n++[e]) ((l.take (k+1)).map f):=by
 subst hn
 rw [y47 hk,y61,y54 (by simp;omega)]
 have:∀ (a:List (List AC)) {b c:List AC},F2 LocLe b c→F2 (F2 LocLe) (a++[b]) (a++[c]):=fun a b c h=>by
  induction a with
  |nil=>exact .cons h .nil
  |cons x a ih=>exact .cons (z326 x) ih
 exact this _ he
theorem z160 {a b:Int} (h:a=b):LocLe (.int a) (.int b):=h ▸ y83 _
theorem end_le {α:Type} {w k:Nat} {f:α→List AC} {l:List α} (h:k=l.length):LocLe (.list w k ((l.take k).map f)) (.list w l.length (l.map f)):=by
 subst h;rw [y53];exact y83 _
theorem z553 {k:Nat} {l:List Tree} (h:k=l.length):LocLe (.list 3 k ((l.take k).map Tree.cs')) (.list 3 l.length (l.map Tree.cs)):=by
 rw [y18];exact end_le h
theorem z419 {l:List Tree} : F2 (F2 LocLe) (l.map Tree.cs') (l.map Tree.cs):=by rw [y18];exact z10 _
theorem Wf.empty {G:Ghost} {objs:List AObj} {wd:World} (w:Nat) (h:Wf G (z47 objs) wd):Wf G (z47 (objs++[.cells w []])) wd:=by
 refine ⟨h.hS,h.hU,h.su,h.sk,fun o=>?_⟩
 show ObjRel G (hp wd) o (z65 .fresh (objs++[.cells w []]) o)
 have ho:ObjRel G (hp wd) o (z65 .fresh objs o):=h.objs o
 rcases Nat.lt_trichotomy o objs.length with h|h|h
 ·have h1:(objs++[AObj.cells w []])[o]?=some objs[o]:=by rw [y63 h,y42 h]
  rw [z72 h1]
  rwa [z72 (y42 h)] at ho
 ·subst h
  rw [z72 (x:=AObj.cells w []) (by simp)]
  rw [z78 (y49 _)] at ho
  exact .inl ⟨rfl,ho⟩
 ·rw [z78 (by simp;omega)]
  rwa [z78 (by omega)] at ho
theorem RetS.empty (w:Nat) {m:Nat} {objs:List AObj} {res:AC} {objs' : List AObj} {r:AC} (h:RetS m (z47 (objs++[.cells w []])) res objs' r):RetS m (z47 objs) res objs' r:=fun G wd v hW hV=>h G wd v (hW.empty w) hV
theorem y7 {f : FuncId} {args : List AC} {objs objs1 objs2 : List AObj} {res res2 : AC} (h : CallsA P f args objs res objs1) (π Bn : List Nat) (hn : z226 (π ++ Bn) = true) (ha : allN (fun o => z169 (z47 objs1 o)) π = true)
    (hf:z267 objs.length 0 π=true) (hr:LocLe (bor (z47 objs1) π Bn res) res2) (ho:F2 ObjLe (π.map (z81 (z47 objs1) π Bn)) objs2):CallsA P f args objs res2 objs2:=by
  refine ⟨h.1,fun G w vs hW hs hv=>(h.2 G w vs hW hs hv).mono ?_⟩
  rintro e w' ⟨G',v,rfl,h1,h2,h3,h4,h5⟩
  have hnd:=z180 hn
  obtain ⟨k1,k2,k3,k4⟩:=z395 (π:=π) (Bn:=Bn) h4 (List.nodup_append.1 hnd).1 (fun o ho hb=>(List.nodup_append.1 hnd).2.2 o ho o hb rfl) (z274 ha)
  refine ⟨_,v,rfl,h1.trans k2,fun o t ho e=>?_,h3,k1.le ho,hr _ _ _ _ (k4 _ _ h5)⟩
  have:=z161 objs.length 0 π hf o ho
  rw [Nat.zero_add] at this
  exact k3 o o t (z230 (List.nodup_append.1 hnd).1 this) (h2 o t ho e)
theorem nils_of {l:List Tree} (h:l=[]):LocLe .nils (.list 3 l.length (l.map Tree.cs)):=by subst h;exact z63
theorem z367 {α:Type} {w n:Nat} {f:α→List AC} {l:List α} (h:n=l.length):LocLe (.list w n (l.map f)) (.list w l.length (l.map f)):=by subst h;exact y83 _
def borX (objs:Nat→AObj) (π Bn:List Nat) (x:AC):AC:=match x with
 |.own w' es'=>.own w' es'
 |x=>bor objs π Bn x
theorem z282 {objs:Nat→AObj} {π Bn:List Nat} {o w:Nat} {es:List (List AC)} (ho:objs o=.cells w es):z81 objs π Bn o=.cells w (es.map (·.map (borX objs π Bn))):=by
 simp only [z81,ho];rfl
theorem z815 {objs:Nat→AObj} {π Bn:List Nat} {es:List (List AC)} (h:Flat es):es.map (·.map (borX objs π Bn))=es:=by
 have:=z89 (objs:=fun _=>.cells 0 es) (π:=π) (Bn:=Bn) (o:=0) rfl h
 conv=>rhs;rw [← List.map_id es]
 refine List.map_congr_left fun e he=>?_
 conv=>rhs;rw [id,← List.map_id e]
 refine List.map_congr_left fun x hx=>?_
 have:=z266.1 (h e he) x hx
 cases x<;>first|rfl|simp [AC.flat] at this
theorem z33 {objs:Nat→AObj} {π Bn:List Nat} {o w:Nat} {A L:List (List AC)} {e:List AC} (ho:objs o=.cells w (A++[e])) (hf:Flat A) (h:F2 (F2 LocLe) (A++[e.map (borX objs π Bn)]) L):ObjLe (z81 objs π Bn o) (.cells w L):=by
 rw [z282 ho,y61,z815 hf]
 exact ⟨rfl,h⟩
theorem z50 {objs:Nat→AObj} {π Bn:List Nat} {o w i:Nat} {A L:List (List AC)} {e:List AC} (ho:objs o=.cells w (A.set i e)) (hf:Flat A) (h:F2 (F2 LocLe) (A.set i (e.map (borX objs π Bn))) L):ObjLe (z81 objs π Bn o) (.cells w L):=by
 rw [z282 ho,List.map_set,z815 hf]
 exact ⟨rfl,h⟩
theorem z417 {A:List (List AC)} {x y:List AC} {k:Nat} (hk:A.length=k) (hA:Flat A) (hy:z325 y=true):Flat ((A++[x]).set k y):=by
 subst hk
 intro e he
 rw [List.set_append_right _ _ (y49 _)] at he
 simp only [Nat.sub_self,List.set_cons_zero,y51,y52] at he
 rcases he with h|rfl
 ·exact hA e h
 ·exact hy
theorem z524 {A L:List (List AC)} {x y:List AC} {k:Nat} (hk:A.length=k) (h:F2 (F2 LocLe) (A++[y]) L):F2 (F2 LocLe) ((A++[x]).set k y) L:=by
 subst hk
 rw [List.set_append_right _ _ (y49 _)]
 simpa using h
theorem z55 {objs:Nat→AObj} {π Bn:List Nat} {o w n:Nat} {es L:List (List AC)} {y:AC} (h1:idx π o=none) (h2:inB Bn o=true) (ho:objs o=.cells w es) (hu:z80 es=L) (hl:es.length=n) (h:LocLe (.list w n L) y):LocLe (bor objs π Bn (.sref o 0 n)) y:=by
 rw [z244 ho h1 h2 hl,hu];exact h
theorem z219 {a b a' b' : List (List AC)} (h:z80 a=a') (k:z80 b=b'):z80 (a++b)=a'++b':=by
 subst h k
 induction a with
 |nil=>rfl
 |cons e a ih=>simp only [List.cons_append,z80,ih]
theorem z336 {a a' : List (List AC)} (h:z80 a=a') (n:Nat):z80 (a.take n)=a'.take n:=by
 subst h
 induction a generalizing n with
 |nil=>simp [z80]
 |cons e a ih =>
  cases n with
  |zero=>rfl
  |succ n=>simp only [List.take_succ_cons,z80,ih]
theorem z924 {a a' : List (List AC)} (h:z80 a=a') (n:Nat) (e:List AC):z80 (a.set n e)=a'.set n (z299 e):=by
 subst h
 induction a generalizing n with
 |nil=>simp [z80]
 |cons x a ih =>
  cases n with
  |zero=>rfl
  |succ n=>simp only [List.set_cons_succ,z80,ih]
theorem z468 {α:Type} {f:α→List AC} {l:List α} {i j:Nat} {e:List AC} {x:α} (hj:j=i) (he:F2 LocLe e (f x)):F2 (F2 LocLe) ((l.map f).set j e) ((l.set i x).map f):=by
 subst hj
 rw [List.map_set]
 have:∀ (l:List (List AC)) (j:Nat) {e e' : List AC},F2 LocLe e e'→F2 (F2 LocLe) (l.set j e) (l.set j e'):=fun l=>by
  induction l with
  |nil=>intro j _ _ _;exact .nil
  |cons x l ih =>
   intro j e e' h
   cases j with
   |zero=>exact .cons h (z10 _)
   |succ j=>exact .cons (z326 _) (ih j h)
 exact this _ _ he
theorem z77 {α:Type} {f:α→List AC} {l:List α} {n:Nat} {e:List AC} {x:α} (hn:l.length≤n) (he:F2 LocLe e (f x)):F2 (F2 LocLe) ((l.map f).take n++[e]) ((l++[x]).map f):=by
 rw [y54 (by simpa using hn),y61]
 have:∀ (a:List (List AC)) {b c:List AC},F2 LocLe b c→F2 (F2 LocLe) (a++[b]) (a++[c]):=fun a b c h=>by
  induction a with
  |nil=>exact .cons h .nil
  |cons x a ih=>exact .cons (z326 x) ih
 exact this _ he
theorem RetS.mid (π Bn : List Nat) (objs1 : List AObj) (r1 : AC) {m : Nat} {o : Nat → AObj} {res : AC} {objs' : List AObj} {r : AC} (hn : z226 (π ++ Bn) = true) (ha : allN (fun x => z169 (o x)) π = true) (hf : z267 m 0 π = true)
    (hr:LocLe (bor o π Bn r) r1) (ho:F2 ObjLe (π.map (z81 o π Bn)) objs1) (h:RetS m (z47 objs1) res objs' r1):RetS m o res objs' r :=
  y14 π Bn hn ha hf fun G w v hW hV=>h G w v (hW.le ho) (hr _ _ _ _ hV)
theorem z967 (a:List (List AC)) {b c:List AC} (h:F2 LocLe b c):F2 (F2 LocLe) (a++[b]) (a++[c]):=by
 induction a with
 |nil=>exact .cons h .nil
 |cons x a ih=>exact .cons (z326 x) ih
theorem app2_le {A:List (List AC)} {n:Nat} {e e' : List AC} (hn:A.length≤n) (h:F2 LocLe e e'):F2 (F2 LocLe) (A.take n++[e]) (A++[e']):=by
 rw [y54 hn];exact z967 A h
theorem app3_le {α:Type} {f:α→List AC} {l:List α} {e:List AC} {x:α} (h:F2 LocLe e (f x)):F2 (F2 LocLe) (l.map f++[e]) ((l++[x]).map f):=by
 rw [y61];exact z967 _ h
theorem z761 {objs:Nat→AObj} {π Bn:List Nat} {o w i j:Nat} {A L:List (List AC)} {e x:List AC} (ho:objs o=.cells w ((A.set i x).set j e)) (hj:j=i) (hf:Flat A) (h:F2 (F2 LocLe) (A.set i (e.map (borX objs π Bn))) L):ObjLe (z81 objs π Bn o) (.cells w L):=by
 subst hj
 rw [List.set_set] at ho
 exact z50 ho hf h
theorem set2_le {A:List (List AC)} {i j:Nat} {e e' : List AC} (hj:j=i) (he:F2 LocLe e e'):F2 (F2 LocLe) (A.set j e) (A.set i e'):=by
 subst hj
 induction A generalizing j with
 |nil=>exact .nil
 |cons x l ih =>
  cases j with
  |zero=>exact .cons he (z10 _)
  |succ j=>exact .cons (z326 _) ih
theorem z44 {o n n' : Nat} (h:n=n'):LocLe (.sref o 0 n) (.sref o 0 n'):=h ▸ y83 _
theorem z1265 {α:Type} {f:α→List AC} {l l2:List α} {n:Nat} (hn:l.length≤n):F2 (F2 LocLe) ((l.map f).take n++l2.map f) ((l++l2).map f):=by
 rw [y54 (by simpa using hn),y61];exact z10 _
def cat {α:Type} (n:Nat) (f:Nat→List α):List α:=(List.range n).flatMap f
theorem z978 {α:Type} (f:Nat→List α):cat 0 f=[]:=rfl
theorem z429 {α:Type} (n:Nat) (f:Nat→List α):cat (n+1) f=cat n f++f n:=by
 unfold cat;rw [y59,List.flatMap_append];simp
theorem z687 {α:Type} {n:Nat} {f:Nat→List α} {x:α} (h:x∈cat n f):∃ i,i < n∧x∈f i:=by
 unfold cat at h
 obtain ⟨i,hi,hx⟩:=List.mem_flatMap.1 h
 exact ⟨i,List.mem_range.1 hi,hx⟩
theorem z711 {α:Type} {n c:Nat} {f:Nat→List α} (h:∀ i,i < n→(f i).length≤c):(cat n f).length≤n * c:=by
 induction n with
 |zero=>simp [cat]
 |succ n ih =>
  rw [z429,y44,Nat.add_mul]
  have:=ih fun i hi=>h i (by omega)
  have:=h n (by omega)
  omega
theorem z93 {objs:Nat→AObj} {π Bn:List Nat} {o w n:Nat} {es L:List (List AC)} {y:AC} (h1:idx π o=none) (h2:inB Bn o=true) (ho:objs o=.cells w es) (hu:z80 es=L) (hl:es.length=n) (h:LocLe (.list w n L) y):LocLe (borX objs π Bn (.sref o 0 n)) y:=z55 h1 h2 ho hu hl h
abbrev y84 := @ObjLe.mk
abbrev y85 := @ObjLe.box
abbrev y86 := @Reach.empty
abbrev y87 := @RetS.empty
end Go.Gl
namespace Go.Gl
def build (N:Nat) (ps:List (Nat×Int)):List (List Int):=(List.range N).map fun r=>(ps.filter (fun p=>p.1 == r)).map (·.2)
theorem z142 (N:Nat) (ps:List (Nat×Int)):(build N ps).length=N:=by simp [build]
theorem z430 {N:Nat} {ps:List (Nat×Int)} {i:Nat} (h:i < (build N ps).length):(build N ps)[i]=(ps.filter (fun p=>p.1 == i)).map (·.2):=by
 simp [build]
theorem z1057 {N:Nat} {ps:List (Nat×Int)} {i:Nat} {v:Int} (h:i < (build N ps).length):build N (ps++[(i,v)])=(build N ps).set i ((build N ps)[i]++[v]):=by
 apply y72 (by simp [build])
 intro j h1 h2
 rw [List.getElem_set]
 simp only [z430]
 by_cases hj:i=j
 ·subst hj;rw [if_pos rfl];simp
 ·rw [if_neg hj];simp [hj]
theorem z1244 (N:Nat):build N []=List.replicate N []:=by
 apply y72 (by simp [build])
 intro j h1 h2
 simp [z430]
def z114 (r:List Int):List AC:=[.own 1 (r.map fun n=>[AC.raw (.int .i64 n)])]
theorem z1124 {N : Nat} {ps : List (Nat × Int)} {i : Nat} {v : Int} {a b : List AC} (h : i < (build N ps).length) :
    ((((build N ps).map z114).set i a).set i b).set i (z114 ((build N ps)[i]++[v]))=(build N (ps++[(i,v)])).map z114:=by
  rw [List.set_set,List.set_set,z1057 h,List.map_set]
theorem rows_push' {N : Nat} {ps : List (Nat × Int)} {i n len : Nat} {v : Int} {a b : List AC} (h : i < (build N ps).length) (hn : n = i) (hl : len = (build N ps)[i].length) :
    ((((build N ps).map z114).set i a).set n b).set i [.own 1 ((((build N ps)[i].map fun n=>[AC.raw (.int .i64 n)]).take len)++[[AC.raw (.int .i64 v)]])]=(build N (ps++[(i,v)])).map z114:=by
  subst hn hl
  rw [← z1124 h (a:=a) (b:=b)]
  congr 1
  simp only [z114]
  rw [y54 (by simp),y61]
  rfl
theorem z629 {es:List (List AC)} {i n:Nat} {r:List AC} (h:n=i) (hi:i < es.length):(es.set n r)[i]?=some r:=by
 subst h;exact List.getElem?_set_self hi
theorem z291 {α β:Type} {f:α→List β} {c:Nat} : ∀ (l:List α),(∀ x∈l,(f x).length≤c)→(l.flatMap f).length≤l.length * c:=by
 intro l
 induction l with
 |nil=>intro _;simp
 |cons x l ih =>
  intro h
  have h1:=h x (by simp)
  have h2:=ih fun y hy=>h y (by simp [hy])
  rw [List.flatMap_cons,y44,y55,Nat.add_mul]
  omega
theorem z631 {α β:Type} {f g:α→List β} : ∀ {l:List α},(∀ x∈l,f x=g x)→l.flatMap f=l.flatMap g:=by
 intro l
 induction l with
 |nil=>intro _;rfl
 |cons x l ih =>
  intro h
  rw [List.flatMap_cons,List.flatMap_cons,h x (by simp),ih fun y hy=>h y (by simp [hy])]
theorem z474 {N:Nat} {ps:List (Nat×Int)} {i:Nat} (h:i < (build N ps).length):(build N ps)[i].length≤ps.length:=by
 rw [z430,y46]
 exact List.length_filter_le _ _
theorem rows_nil (N:Nat):(build N []).map z114=List.replicate N [.own 1 []]:=by
 rw [z1244,List.map_replicate];rfl
theorem z20 {α:Type} {l:List α} {i:Nat} {d:α} (h:i < l.length):l.getD i d=l[i]:=by
 rw [y65,y42 h];rfl
theorem z318 {a b A B:Int} (h1:0≤a) (h2:a≤A) (h3:0≤b) (h4:b≤B):0≤a * b∧a * b≤A * B :=
 ⟨Int.mul_nonneg h1 h3,Int.mul_le_mul h2 h4 h3 (by omega)⟩
theorem z421 {α β:Type} (f:α→List β) (l:List α) (k:Nat) (h:k < l.length):(l.drop k).flatMap f=f l[k]++(l.drop (k+1)).flatMap f:=by
 rw [y77 h,List.flatMap_cons]
theorem z206 {α β:Type} (f:α→List β) (l:List α) (k:Nat) (h:l.length≤k):(l.drop k).flatMap f=[]:=by
 rw [y81 h];rfl
section gen
variable {α:Type}
def z98 (N:Nat) (ps:List (Nat×α)):List (List α):=(List.range N).map fun r=>(ps.filter (fun p=>p.1 == r)).map (·.2)
theorem z100 (N:Nat) (ps:List (Nat×α)):(z98 N ps).length=N:=by simp [z98]
theorem z271 {N:Nat} {ps:List (Nat×α)} {i:Nat} (h:i < (z98 N ps).length):(z98 N ps)[i]=(ps.filter (fun p=>p.1 == i)).map (·.2):=by
 simp [z98]
theorem z912 {N:Nat} {ps:List (Nat×α)} {i:Nat} {v:α} (h:i < (z98 N ps).length):z98 N (ps++[(i,v)])=(z98 N ps).set i ((z98 N ps)[i]++[v]):=by
 apply y72 (by simp [z98])
 intro j h1 h2
 rw [List.getElem_set]
 simp only [z271]
 by_cases hj:i=j
 ·subst hj;rw [if_pos rfl];simp
 ·rw [if_neg hj];simp [hj]
theorem z1058 (N:Nat):z98 N ([]:List (Nat×α))=List.replicate N []:=by
 apply y72 (by simp [z98])
 intro j h1 h2
 simp [z271]
def ownG (w:Nat) (f:α→List AC) (r:List α):List AC:=[.own w (r.map f)]
theorem z445 {w : Nat} {f : α → List AC} {N : Nat} {ps : List (Nat × α)} {i n len : Nat} {v : α} {a b e : List AC} (h : i < (z98 N ps).length) (hn : n = i) (hl : len = (z98 N ps)[i].length) (he : e = f v) :
    ((((z98 N ps).map (ownG w f)).set i a).set n b).set i [.own w ((((z98 N ps)[i].map f).take len)++[e])]=(z98 N (ps++[(i,v)])).map (ownG w f):=by
  subst hn hl he
  rw [List.set_set,List.set_set,z912 h,List.map_set]
  congr 1
  simp only [ownG]
  rw [y54 (by simp),y61]
  rfl
theorem z532 (w:Nat) (f:α→List AC) (N:Nat):(z98 N []).map (ownG w f)=List.replicate N [.own w []]:=by
 rw [z1058,List.map_replicate];rfl
theorem z296 {N:Nat} {ps:List (Nat×α)} {i:Nat} (h:i < (z98 N ps).length):(z98 N ps)[i].length≤ps.length:=by
 rw [z271,y46]
 exact List.length_filter_le _ _
theorem z377 {w:Nat} {f:α→List AC} (hf:∀ a,∀ x∈f a,x.unown=x) (l:List (List α)):z80 (l.map (ownG w f))=l.map fun r=>[AC.list w r.length (r.map f)]:=by
 rw [z208,List.map_map]
 refine List.map_congr_left fun r _=>?_
 show [AC.list w _ (z80 _)]=_
 rw [z375 hf]
 simp
end gen
end Go.Gl
namespace Go.Gl
def z361 (k:Int):Int:=if k=1∨k=2 then 0 else if k=3 then 1 else if 4≤k∧k≤9 then 2 else -1
def z450 (k:Int):Int:=if k=1 then 3 else if k=2 then 2 else 0
mutual
def Tree.walkE (t:Tree) (d n:Int):Int×Bool:=match t with
 |.mk k v l=>if d≤6∧n+1≤15∧0≤v∧v≤z450 k∧(l.length:Int)=z361 k then Tree.walkEs l (d+1) (n+1) else (n+1,false)
def Tree.walkEs (l:List Tree) (d n:Int):Int×Bool:=match l with
 |[]=>(n,true)
 |t::r=>if (Tree.walkE t d n).2 then Tree.walkEs r d (Tree.walkE t d n).1 else ((Tree.walkE t d n).1,false)
end
mutual
def Tree.shape (t:Tree) (d:Int):Bool:=match t with
 |.mk k v l=>decide (1≤d∧(l.length:Int)=z361 k∧0≤v∧v≤z450 k) && Tree.shapes l (d - 1)
def Tree.shapes (l:List Tree) (d:Int):Bool:=match l with
 |[]=>true
 |t::r=>Tree.shape t d && Tree.shapes r d
end
mutual
def Tree.count (t:Tree) (d:Int):Int:=match t with
 |.mk _ _ l=>if 0 < d then 1+Tree.counts l (d - 1) else 1
def Tree.counts (l:List Tree) (d:Int):Int:=match l with
 |[]=>0
 |t::r=>Tree.count t d+Tree.counts r d
end
theorem Tree.rec2 {p:Tree→Prop} {q:List Tree→Prop} (h:∀ k v l,q l→p (.mk k v l)) (h0:q []) (h1:∀ t r,p t→q r→q (t::r)):(∀ t,p t)∧∀ l,q l :=
  ⟨fun t=>Tree.rec (motive_1:=p) (motive_2:=q) (fun k v l ih=>h k v l ih) h0 (fun _ _ a b=>h1 _ _ a b) t,
   fun l=>Tree.rec_1 (motive_1:=p) (motive_2:=q) (fun k v l ih=>h k v l ih) h0 (fun _ _ a b=>h1 _ _ a b) l⟩
theorem Tree.count_pos:(∀ (t:Tree) d,1≤t.count d)∧∀ (l:List Tree) d,0≤Tree.counts l d:=by
 refine Tree.rec2 (p:=fun t=>∀ d,1≤t.count d) (q:=fun l=>∀ d,0≤Tree.counts l d) ?_ ?_ ?_
 ·intro k v l ih d
  have:=ih (d - 1)
  simp only [Tree.count];split<;>omega
 ·intro d;simp [Tree.counts]
 ·intro t r h1 h2 d
  have:=h1 d;have:=h2 d
  simp only [Tree.counts];omega
theorem Tree.walkE_spec : (∀ (t : Tree) d n, 0 ≤ n → n ≤ 15 → ((t.walkE d n).2 = true ↔ t.shape (7 - d) = true ∧ n + t.count (7 - d) ≤ 15) ∧ ((t.walkE d n).2 = true → (t.walkE d n).1 = n + t.count (7 - d)) ∧ n ≤ (t.walkE d n).1 ∧ (t.walkE d n).1 ≤ 16) ∧
  ∀ (l:List Tree) d n,0≤n→n≤15→((Tree.walkEs l d n).2=true↔Tree.shapes l (7 - d)=true∧n+Tree.counts l (7 - d)≤15)∧((Tree.walkEs l d n).2=true→(Tree.walkEs l d n).1=n+Tree.counts l (7 - d))∧n≤(Tree.walkEs l d n).1∧(Tree.walkEs l d n).1≤16:=by
 refine Tree.rec2 ?_ ?_ ?_
 ·intro k v l ih d n h0 h1
  simp only [Tree.walkE,Tree.shape,Tree.count,y68,decide_eq_true_eq]
  have hc:=Tree.count_pos.2 l (7 - d - 1)
  by_cases hb:d≤6∧n+1≤15∧0≤v∧v≤z450 k∧(l.length:Int)=z361 k
  ·rw [if_pos hb,if_pos (by omega)]
   have:=ih (d+1) (n+1) (by omega) hb.2.1
   rw [show 7 - (d+1)=7 - d - 1 by omega] at this
   obtain ⟨a1,a2,a3,a4⟩:=this
   refine ⟨?_,?_,by omega,by omega⟩
   ·rw [a1]
    constructor
    ·rintro ⟨b1,b2⟩;exact ⟨⟨⟨by omega,hb.2.2.2.2,hb.2.2.1,hb.2.2.2.1⟩,b1⟩,by omega⟩
    ·rintro ⟨b1,b2⟩;exact ⟨b1.2,by omega⟩
   ·intro h;rw [a2 h];omega
  ·rw [if_neg hb]
   refine ⟨⟨by simp,?_⟩,by simp,by simp only;omega,by simp only;omega⟩
   rintro ⟨⟨⟨b1,b2,b3,b4⟩,b5⟩,b6⟩
   rw [if_pos (by omega)] at b6
   exact absurd ⟨by omega,by omega,b3,b4,b2⟩ hb
 ·intro d n h0 h1
  simp [Tree.walkEs,Tree.shapes,Tree.counts];omega
 ·intro t r iht ihr d n h0 h1
  simp only [Tree.walkEs,Tree.shapes,Tree.counts,y68]
  obtain ⟨a1,a2,a3,a4⟩:=iht d n h0 h1
  have hc:=Tree.count_pos.2 r (7 - d)
  by_cases hb:(t.walkE d n).2=true
  ·rw [if_pos hb]
   have e:=a2 hb
   obtain ⟨b1,b2,b3,b4⟩:=ihr d (t.walkE d n).1 (by omega) (by rw [e];exact (a1.1 hb).2)
   refine ⟨?_,fun h=>by rw [b2 h,e];omega,by omega,b4⟩
   rw [b1,e]
   exact ⟨fun h=>⟨⟨(a1.1 hb).1,h.1⟩,by omega⟩,fun h=>⟨h.1.2,by omega⟩⟩
  ·rw [if_neg hb]
   refine ⟨⟨by simp,fun h=>absurd (a1.2 ⟨h.1.1,by omega⟩) hb⟩,by simp,a3,a4⟩
theorem y37 (t:Tree) (d n:Int):t.walkE d n=if d≤6∧n+1≤15∧0≤t.val∧t.val≤z450 t.kind∧(t.kids.length:Int)=z361 t.kind then Tree.walkEs t.kids (d+1) (n+1) else (n+1,false):=by
 cases t;rfl
theorem y38 (d:Int) (l:List Tree):∀ n k,Tree.walkEs l d n=((idxS (fun (x:Tree) s=>!(x.walkE d s).2) (fun x s=>(x.walkE d s).1) l n k).2,!decide (0≤(idxS (fun (x:Tree) s=>!(x.walkE d s).2) (fun x s=>(x.walkE d s).1) l n k).1)):=by
 induction l with
 |nil=>intro n k;simp [Tree.walkEs,idxS]
 |cons t l ih =>
  intro n k
  simp only [Tree.walkEs,idxS]
  cases h:(t.walkE d n).2
  ·simp
  ·simp only [if_true,Bool.not_true,Bool.false_eq_true,if_false];exact ih _ _
def Tree.exprB (t:Tree):Bool:=(t.walkE 1 0).2
theorem y20 (t:Tree):t.exprB=(t.shape 6 && decide (t.count 6≤15)):=by
 have h:=(Tree.walkE_spec.1 t 1 0 (by omega) (by omega)).1
 rw [show (7:Int) - 1=6 by omega,Int.zero_add] at h
 rw [Bool.eq_iff_iff,y68,decide_eq_true_eq]
 exact h
def b2i (b:Bool):Int:=if b then 1 else 0
mutual
def Tree.ev (v:List Int) (t:Tree):Int:=match t with
 |.mk k x l=>if k=1 then x else if k=2 then v.getD x.toNat 0 else match Tree.evs v l with
  |[a]=>b2i (decide (a=0))
  |[a,b]=>if k=4 then b2i (decide (a≠0∧b≠0)) else if k=5 then b2i (decide (a≠0∨b≠0)) else if k=6 then b2i (decide (a=b)) else if k=7 then b2i (decide (a < b)) else if k=8 then (a+b) % 4 else (a - b+4) % 4
  |_=>0
def Tree.evs (v:List Int) (l:List Tree):List Int:=match l with
 |[]=>[]
 |t::r=>Tree.ev v t::Tree.evs v r
end
def Tree.good (t:Tree):Prop:=∃ d,t.shape d=true
theorem y32 (l:List Tree) (d:Int):Tree.shapes l d=true↔∀ t∈l,t.shape d=true:=by
 induction l with
 |nil=>simp [Tree.shapes]
 |cons t l ih=>simp [Tree.shapes,ih]
theorem y26 {t:Tree} (h:t.exprB=true):t.good:=by
 rw [y20,y68] at h
 exact ⟨_,h.1⟩
theorem y25 {t:Tree} (h:t.good):(t.kids.length:Int)=z361 t.kind∧0≤t.val∧t.val≤z450 t.kind∧∀ u∈t.kids,u.good:=by
 obtain ⟨d,h⟩:=h
 cases t with
 |mk k v l =>
  simp only [Tree.shape,y68,decide_eq_true_eq] at h
  exact ⟨h.1.2.1,h.1.2.2.1,h.1.2.2.2,fun u hu=>⟨_,(y32 _ _).1 h.2 u hu⟩⟩
theorem z817 (b:Bool):0≤b2i b∧b2i b≤3:=by unfold b2i;split<;>omega
def ValsOk (v:List Int):Prop:=v.length=3∧∀ x∈v,0≤x∧x≤3
theorem ValsOk.get {v:List Int} (h:ValsOk v) (i:Nat):0≤v.getD i 0∧v.getD i 0≤3:=by
 rw [y65]
 by_cases hi:i < v.length
 ·rw [y42 hi]
  exact h.2 _ (y41 _)
 ·rw [y66 (by omega)];simp
theorem y19 {v:List Int} (hv:ValsOk v) (t:Tree):t.good→0≤t.ev v∧t.ev v≤3:=by
 induction t using y27 with|h t ih=>?_
 intro hg
 obtain ⟨h1,h2,h3,h4⟩:=y25 hg
 cases t with
 |mk k x l =>
  simp only [Tree.kind,Tree.val,Tree.kids] at *
  simp only [Tree.ev]
  split
  ·rename_i hk;subst hk;simp [z450] at h3;omega
  split
  ·exact hv.get _
  ·split
   ·exact z817 _
   ·rename_i a b hab
    repeat (first|(split;· first|exact z817 _|omega)|omega)
   ·omega
mutual
def Tree.co:Tree→List AC
 |.mk k v l=>[.int k,.int v,.own 3 (Tree.cos l)]
def Tree.cos:List Tree→List (List AC)
 |[]=>[]
 |t::l=>Tree.co t::Tree.cos l
end
theorem Tree.cos_eq (l:List Tree):Tree.cos l=l.map Tree.co:=by
 induction l with
 |nil=>simp [Tree.cos]
 |cons t l ih=>simp [Tree.cos,ih]
def Tree.co' (t:Tree):List AC:=[.int t.kind,.int t.val,.own 3 (t.kids.map Tree.co)]
theorem Tree.co_eq:Tree.co=Tree.co':=by
 funext t
 cases t with
 |mk k v l=>simp [Tree.co,Tree.co',Tree.cos_eq,Tree.kind,Tree.val,Tree.kids]
theorem y17 (t:Tree):z325 (Tree.co t)=true:=by rw [Tree.co_eq];rfl
def marks (k:Int) (n:Nat):List Int:=(List.range n).map fun i:Nat=>k+i
theorem z1220 {α : Type} {f : α → List AC} {l : List α} {z : List AC} {k n : Nat} {e1 e2 : List AC} (h : k < l.length) (hn : n = k) (he : e2 = f l[k]) :
    (((l.take k).map f++List.replicate (l.length - k) z).set n e1).set k e2=(l.take (k+1)).map f++List.replicate (l.length - (k+1)) z:=by
  subst hn he
  rw [List.set_set,z703 _ _ _ _ h]
theorem fill_len {α:Type} {f:α→List AC} {l:List α} {z:List AC} {k:Nat} (h:k≤l.length):((l.take k).map f++List.replicate (l.length - k) z).length=l.length:=by
 simp;omega
theorem z14 {es:List (List AC)} {i n:Nat} {r:List AC} {K:List AC→Prop} (h:n=i) (hg:es[i]?=some r) (k:K r):∃ e,es[n]?=some e∧K e:=⟨r,by rw [h];exact hg,k⟩
theorem z1226 {r:Nat→Nat} {a b:Int} (h:a=b):AC.int a=(AC.int b).ren r:=by rw [h];rfl
def numF (same:Nat→Nat→Bool):Nat→List Int×Nat
 |0=>([],0)
 |i+1=>match (List.range i).find? (same i) with
  |some k=>((numF same i).1++[(numF same i).1.getD k 0],(numF same i).2)
  |none=>((numF same i).1++[((numF same i).2:Int)],(numF same i).2+1)
theorem z118 (same:Nat→Nat→Bool) (n:Nat):(numF same n).1.length=n:=by
 induction n with
 |zero=>rfl
 |succ i ih=>simp only [numF];split<;>simp [ih]
theorem z680 {same:Nat→Nat→Bool} {i n:Nat} (h:i≤n):(numF same n).1.take i=(numF same i).1:=by
  induction n with
  | zero => obtain rfl : i = 0 := by omega
            rfl
  | succ n ih =>
    rcases y67 n i with h1|h1
    · obtain rfl:i=n+1:=by omega
      rw [y54 (by rw [z118];omega)]
    · have hl:=z118 same n
      rw [← ih h1]
      simp only [numF]
      split<;>rw [List.take_append_of_le_length (by omega)]
theorem z873 {same:Nat→Nat→Bool} {i k n:Nat} (h:k < i) (hi:i≤n):(numF same i).1.getD k 0=(numF same n).1[k]'(by rw [z118];omega):=by
 rw [z20 (by rw [z118];exact h)]
 simp only [← z680 hi,List.getElem_take]
theorem z872 (same:Nat→Nat→Bool) (n:Nat):(∀ x∈(numF same n).1,0≤x∧x < (numF same n).2)∧(numF same n).2≤n:=by
 induction n with
 |zero=>exact ⟨fun x hx=>(by cases hx),y49 _⟩
 |succ i ih =>
  obtain ⟨h1,h2⟩:=ih
  simp only [numF]
  split
  ·rename_i k hk
   have hki:k < i:=List.mem_range.1 (List.mem_of_find?_eq_some hk)
   have:=h1 _ (y41 (l:=(numF same i).1) (n:=k) (by rw [z118];exact hki))
   rw [z20 (by rw [z118];exact hki)]
   refine ⟨fun x hx=>?_,by dsimp only;omega⟩
   rcases List.mem_append.1 hx with hx|hx
   ·exact h1 x hx
   ·rw [List.mem_singleton.1 hx];exact this
  ·refine ⟨fun x hx=>?_,by dsimp only;omega⟩
   rcases List.mem_append.1 hx with hx|hx
   ·have:=h1 x hx
    dsimp only;omega
   ·rw [List.mem_singleton.1 hx];dsimp only;omega
theorem z801 {p:Nat→Bool} {i:Nat} (h:∀ j,j < i→p j=false):(List.range i).find? p=none:=by
 rw [List.find?_eq_none]
 intro x hx
 rw [h x (List.mem_range.1 hx)];simp
theorem z1217 {p:Nat→Bool} {i k:Nat} (hk:k < i) (h:p k=true) (hn:∀ j,j < k→p j=false):(List.range i).find? p=some k:=by
 induction i with
 |zero=>omega
 |succ i ih =>
  rw [y59,List.find?_append]
  rcases y67 k i with h1|h1
  ·rw [ih h1];rfl
  ·obtain rfl:k=i:=by omega
   rw [z801 hn]
   simp [h]
theorem z404 {same:Nat→Nat→Bool} {i n:Nat} (hi:i < n):∃ h:i < (numF same n).1.length,(numF same (i+1)).1=(numF same i).1++[(numF same n).1[i]]:=by
 have hl:i < (numF same n).1.length:=by rw [z118];exact hi
 refine ⟨hl,?_⟩
 rw [← z680 (i:=i+1) (n:=n) hi,← z680 (i:=i) (n:=n) (by omega),y47 hl]
theorem z317 {same:Nat→Nat→Bool} {i n:Nat} (hi:i < n) (h:∀ j,j < i→same i j=false):(numF same n).1[i]'(by rw [z118];exact hi)=(numF same i).2∧(numF same (i+1)).2=(numF same i).2+1:=by
 obtain ⟨hl,h1⟩:=z404 (same:=same) hi
 simp only [numF,z801 h] at h1 ⊢
 have:=List.append_cancel_left h1
 exact ⟨(List.cons.inj this).1.symm,trivial⟩
theorem z263 {same:Nat→Nat→Bool} {i k n:Nat} (hi:i < n) (hk:k < i) (hs:same i k=true) (h:∀ j,j < k→same i j=false):(numF same n).1[i]'(by rw [z118];exact hi)=(numF same n).1[k]'(by rw [z118];omega)∧(numF same (i+1)).2=(numF same i).2:=by
 obtain ⟨hl,h1⟩:=z404 (same:=same) hi
 simp only [numF,z1217 hk hs h] at h1 ⊢
 have:=List.append_cancel_left h1
 exact ⟨by rw [← (List.cons.inj this).1,z873 (n:=n) hk (by omega)],trivial⟩
theorem numF_lt' {same:Nat→Nat→Bool} {i k n:Nat} (hi:i≤n) (hk:k < i):0≤(numF same n).1[k]'(by rw [z118];omega)∧(numF same n).1[k]'(by rw [z118];omega) < (numF same i).2:=by
 rw [← z873 hk hi]
 refine (z872 same i).1 _ ?_
 rw [z20 (by rw [z118];exact hk)]
 exact y41 _
theorem z1017 {s1 s2:Nat→Nat→Bool} {n:Nat} (h:∀ i k,k < i→i < n→s1 i k=s2 i k):numF s1 n=numF s2 n:=by
 induction n with
 |zero=>rfl
 |succ i ih =>
  have e:=ih fun a b h1 h2=>h a b h1 (by omega)
  have:(List.range i).find? (s1 i)=(List.range i).find? (s2 i):=by
   have:∀ l:List Nat,(∀ x∈l,x < i)→l.find? (s1 i)=l.find? (s2 i):=by
    intro l
    induction l with
    |nil=>intro _;rfl
    |cons x l ih2 =>
     intro hx
     rw [List.find?_cons,List.find?_cons,h i x (hx x (by simp)) (by omega),ih2 fun y hy=>hx y (by simp [hy])]
   exact this _ fun x hx=>List.mem_range.1 hx
  simp only [numF,e,this]
theorem z965 {es:List (List AC)} {i:Nat} {e:List AC} (h:Flat es) (he:z325 e=true):Flat (es.set i e):=by
 intro x hx
 rcases List.mem_or_eq_of_mem_set hx with hx|rfl
 ·exact h x hx
 ·exact he
theorem fill_got {α:Type} {f:α→List AC} {l:List α} {z e:List AC} {i k:Nat} (hk:k < i) (hi:i < l.length):(((l.take i).map f++List.replicate (l.length - i) z).set i e)[k]?=some (f l[k]):=by
 rw [List.getElem?_set_ne (by omega),y63 (by simp;omega)]
 rw [y48,List.getElem?_take,if_pos hk,y42 (by omega)];rfl
theorem app_last {A:List (List AC)} {e:List AC} {i:Nat} (h:A.length=i):(A++[e])[i]?=some e:=by
 subst h;simp
theorem app_len {α:Type} {f:α→List AC} {l:List α} {i n:Nat} (hi:i≤l.length) (hn:n=i):(((l.take i).map f).take n).length=i:=by
 subst hn;simp;omega
theorem z353 {objs:Nat→AObj} {π Bn:List Nat} {o w n:Nat} {es L:List (List AC)} (ho:objs o=.cells w es) (h1:idx π o=none) (h2:inB Bn o=true) (hl:es.length=n) (hu:z80 es=L):bor objs π Bn (.sref o 0 n)=.list w n L:=by
 rw [z244 ho h1 h2 hl,hu]
theorem bor_agg {objs:Nat→AObj} {π Bn:List Nat} {xs ys:List AC} (h:borL objs π Bn xs=ys):bor objs π Bn (.agg xs)=.agg ys:=by
 simp only [bor,h]
theorem z87 {objs:Nat→AObj} {π Bn:List Nat} : borL objs π Bn []=[]:=rfl
theorem z60 {objs:Nat→AObj} {π Bn:List Nat} {x y:AC} {xs ys:List AC} (h:bor objs π Bn x=y) (k:borL objs π Bn xs=ys):borL objs π Bn (x::xs)=y::ys:=by
 simp only [borL,h,k]
section
variable {P:Program}
theorem Wf.phantoms {G:Ghost} {w0:World} (hW:Wf G (z47 []) w0) {l:List AObj} (h:∀ x∈l,∃ w,x=.cells w []):Wf G (z47 l) w0:=by
 refine ⟨hW.hS,hW.hU,hW.su,hW.sk,fun o=>?_⟩
 have hι:G.ι o=none:=by
  have:=hW.objs o
  have e:z47 [] o=.fresh:=by simp [z47,z65]
  rw [e] at this;exact this
 show ObjRel G (hp w0) o (z47 l o)
 rcases y67 o l.length with h1|h1
 ·obtain ⟨w,hw⟩:=h _ (y41 h1)
  have:z47 l o=.cells w []:=by
   rw [← hw];unfold z47;exact z72 (y42 h1)
  rw [this];exact .inl ⟨rfl,hι⟩
 ·have:z47 l o=.fresh:=z78 h1
  rw [this];exact hι
theorem CallsA.nils {f:FuncId} {args:List AC} {res res' : AC} {l:List AObj} (h:CallsA P f args [] res []) (hl:∀ x∈l,∃ w,x=.cells w []) (hr:ACle res res'):CallsA P f args [] res' l:=by
 refine ⟨h.1,fun G w vs hW hs hv=>(h.2 G w vs hW hs hv).mono ?_⟩
 rintro e w' ⟨G',v,rfl,h1,h2,h3,h4,h5⟩
 exact ⟨G',v,rfl,h1,h2,h3,h4.phantoms hl,hr _ _ _ h5⟩
end
theorem z684 {o:Nat} : ACle .nils (.sref o 0 0):=fun G h v hv=>by
 simp only [V] at hv ⊢
 exact ⟨0,y49 _,.inl ⟨rfl,none,hv⟩⟩
end Go.Gl
namespace Go.Gl
inductive RP (rows:List (List Int)) (ini:List Int):Int→Prop
 |base {x:Int} : x∈ini→RP rows ini x
 |step {x y:Int} : RP rows ini x→y∈rows.getD x.toNat []→RP rows ini y
def InN (N:Nat) (l:List Int):Prop:=∀ x∈l,0≤x∧x < N
def mkB (N:Nat) (S:List Int):List Bool:=(List.range N).map fun v:Nat=>decide ((v:Int)∈S)
theorem z877 (N:Nat):mkB N []=List.replicate N false:=by
 apply y72 (by simp [mkB])
 intro i h1 h2
 simp [mkB]
theorem mkB_get {N:Nat} {S:List Int} {v:Int} (h0:0≤v) (h1:v < N):(mkB N S)[v.toNat]?=some (decide (v∈S)):=by
 unfold mkB
 rw [y48,List.getElem?_range (by omega)]
 simp [Int.toNat_of_nonneg h0]
theorem mkB_set {N:Nat} {S S' : List Int} {v:Int} (h0:0≤v) (h1:v < N) (hs:∀ x,x∈S'↔x∈S∨x=v):(mkB N S).set v.toNat true=mkB N S':=by
 apply y72 (by simp [mkB])
 intro i h2 h3
 rw [List.getElem_set]
 simp only [mkB,List.getElem_map,List.getElem_range]
 have:=hs i
 by_cases h:v.toNat=i
 ·rw [if_pos h]
  have:(i:Int)=v:=by omega
  symm;rw [decide_eq_true_eq];exact (hs i).2 (.inr this)
 ·rw [if_neg h]
  have h4:¬ (i:Int)=v:=by omega
  simp only [decide_eq_decide]
  rw [this];simp [h4]
section
variable {enc:Bool→List AC}
theorem z323 {N n:Nat} {S:List Int} {v:Int} {K:List AC→Prop} (h:n=v.toNat) (h0:0≤v) (h1:v < N) (k:K (enc (decide (v∈S)))):∃ e,((mkB N S).map enc)[n]?=some e∧K e :=
 ⟨_,by rw [h,y48,mkB_get h0 h1];rfl,k⟩
theorem z525 {N n:Nat} {S S' : List Int} {v:Int} (h:n=v.toNat) (h0:0≤v) (h1:v < N) (hs:∀ x,x∈S'↔x∈S∨x=v):((mkB N S).map enc).set n (enc true)=(mkB N S').map enc:=by
 rw [h,← mkB_set h0 h1 hs,List.map_set]
end
noncomputable instance {rows:List (List Int)} {ini:List Int} {x:Int} : Decidable (RP rows ini x):=Classical.propDecidable _
noncomputable def z241 (rows:List (List Int)) (ini:List Int):List Bool:=(List.range rows.length).map fun v:Nat=>decide (RP rows ini v)
theorem z1133 {rows:List (List Int)} {ini S:List Int} (h:∀ v:Nat,v < rows.length→((v:Int)∈S↔RP rows ini v)):mkB rows.length S=z241 rows ini:=by
 unfold mkB z241
 refine List.map_congr_left fun v hv=>?_
 simp only [decide_eq_decide]
 exact h v (List.mem_range.1 hv)
theorem z340 (rows:List (List Int)) (ini:List Int):(z241 rows ini).length=rows.length:=by simp [z241]
def cntU:Nat→List Int→Nat
 |0,_=>0
 |n+1,S=>cntU n S+(if (n:Int)∈S then 0 else 1)
theorem cntU_le {S S' : List Int} (h:∀ x∈S,x∈S') (n:Nat):cntU n S'≤cntU n S:=by
 induction n with
 |zero=>exact y49 _
 |succ n ih =>
  simp only [cntU]
  by_cases h1:(n:Int)∈S
  ·rw [if_pos h1,if_pos (h _ h1)];omega
  ·rw [if_neg h1];split<;>omega
theorem z1237 {S S' : List Int} {v:Int} (h:∀ x∈S,x∈S') (hv:v ∉ S) (hv' : v∈S') (n:Nat) (h0:0≤v) (h1:v < n):cntU n S'+1≤cntU n S:=by
 induction n with
 |zero=>omega
 |succ n ih =>
  simp only [cntU]
  by_cases h2:v=n
  ·subst h2
   rw [if_pos hv',if_neg hv]
   have:=cntU_le h n
   omega
  ·have:=ih (by omega)
   by_cases h3:(n:Int)∈S
   ·rw [if_pos h3,if_pos (h _ h3)];omega
   ·rw [if_neg h3];split<;>omega
theorem z634 (n:Nat) (S:List Int):cntU n S≤n:=by
 induction n with
 |zero=>exact y49 _
 |succ n ih=>simp only [cntU];split<;>omega
def z134 (out:List Int) (v:Int):List Int:=if v∈out then out else out++[v]
def z75 (out l:List Int):List Int:=l.foldl z134 out
def bfs (rows:List (List Int)) (ini:List Int):Nat→List Int
 |0=>z75 [] ini
 |i+1=>if h:i < (bfs rows ini i).length then z75 (bfs rows ini i) (rows.getD ((bfs rows ini i)[i]).toNat []) else bfs rows ini i
def bfsL (rows:List (List Int)) (ini:List Int):List Int:=bfs rows ini rows.length
theorem z509 {out:List Int} {v x:Int} : x∈z134 out v↔x∈out∨x=v:=by
 unfold z134;split
 ·rename_i h
  constructor
  ·exact .inl
  ·rintro (h1|rfl)<;>assumption
 ·simp
theorem z178 {out l:List Int} {x:Int} : x∈z75 out l↔x∈out∨x∈l:=by
 unfold z75
 induction l generalizing out with
 |nil=>simp
 |cons v l ih=>rw [List.foldl_cons,ih,z509];simp [or_assoc]
theorem z836 {out:List Int} {v:Int} (h:out.Nodup):(z134 out v).Nodup:=by
 unfold z134;split
 ·exact h
 ·rename_i hv
  rw [y73]
  exact ⟨h,by simp,fun a ha b hb=>by rintro rfl;rw [List.mem_singleton.1 hb] at ha;exact hv ha⟩
theorem z155 {out l:List Int} (h:out.Nodup):(z75 out l).Nodup:=by
 unfold z75
 induction l generalizing out with
 |nil=>exact h
 |cons v l ih=>exact ih (z836 h)
theorem z508 (out:List Int) (v:Int):∃ t,z134 out v=out++t:=by
 unfold z134;split
 ·exact ⟨[],by simp⟩
 ·exact ⟨_,rfl⟩
theorem z436 (out l:List Int):∃ t,z75 out l=out++t:=by
 unfold z75
 induction l generalizing out with
 |nil=>exact ⟨[],by simp⟩
 |cons v l ih =>
  obtain ⟨t,ht⟩:=z508 out v
  obtain ⟨t',ht'⟩:=ih (z134 out v)
  exact ⟨t++t',by rw [List.foldl_cons,ht',ht,List.append_assoc]⟩
theorem z372 (out l:List Int) (v:Int):z75 out (l++[v])=z134 (z75 out l) v:=by simp [z75]
theorem z276 {out l:List Int} {k:Nat} (h:k < l.length):z75 out (l.take (k+1))=z134 (z75 out (l.take k)) l[k]:=by
 rw [y47 h,z372]
theorem z199:∀ (N:Nat) (l:List Int),l.Nodup→InN N l→l.length≤N
 |0,l,_,h=>by
  cases l with
  |nil=>exact y49 _
  |cons a l=>have:=h a (by simp);omega
 |N+1,l,hn,h=>by
  by_cases hN:(N:Int)∈l
  ·have h1:=z199 N (l.erase N) (hn.erase _) fun x hx=>by
    have h2:=(hn.mem_erase_iff).1 hx
    have h3:=h x h2.2
    have h4:=h2.1
    omega
   rw [List.length_erase_of_mem hN] at h1
   have:0 < l.length:=List.length_pos_of_mem hN
   omega
  ·have h1:=z199 N l hn fun x hx=>by
    have h3:=h x hx
    have h4:x≠N:=by rintro rfl;exact hN hx
    omega
   omega
theorem z254 {N:Nat} {out l:List Int} (h:InN N out) (hl:InN N l):InN N (z75 out l):=fun x hx=>by
 rcases z178.1 hx with h1|h1
 ·exact h x h1
 ·exact hl x h1
section
variable {rows:List (List Int)} {ini:List Int}
theorem z301 {N:Nat} (hr:∀ r∈rows,InN N r) (v:Int):InN N (rows.getD v.toNat []):=by
 by_cases h:v.toNat < rows.length
 ·rw [z20 h];exact hr _ (y41 _)
 ·rw [y65,y66 (by omega)];intro x hx;cases hx
theorem z432 {N:Nat} (hr:∀ r∈rows,InN N r) (hi:InN N ini) (i:Nat):InN N (bfs rows ini i):=by
 induction i with
 |zero=>exact z254 (fun x hx=>by cases hx) hi
 |succ i ih =>
  rw [bfs];split
  ·exact z254 ih (z301 hr _)
  ·exact ih
theorem z573 (i:Nat):(bfs rows ini i).Nodup:=by
 induction i with
 |zero=>exact z155 (by simp)
 |succ i ih =>
  rw [bfs];split
  ·exact z155 ih
  ·exact ih
theorem z458 (hr:∀ r∈rows,InN rows.length r) (hi:InN rows.length ini) (i:Nat):(bfs rows ini i).length≤rows.length :=
 z199 _ _ (z573 i) (z432 hr hi i)
theorem z816 {i j:Nat} (h:(bfs rows ini i).length≤i) (hij:i≤j):bfs rows ini j=bfs rows ini i:=by
  induction j with
  | zero => obtain rfl : i = 0 := by omega
            rfl
  | succ j ih =>
    rcases y67 j i with h1|h1
    · obtain rfl:i=j+1:=by omega
      rfl
    · have e:=ih h1
      rw [bfs,dif_neg (by rw [e];omega),e]
theorem z1254 (i:Nat):∃ t,bfs rows ini (i+1)=bfs rows ini i++t:=by
 rw [bfs];split
 ·exact z436 _ _
 ·exact ⟨[],by simp⟩
theorem bfs_RP (i:Nat):∀ x∈bfs rows ini i,RP rows ini x:=by
 induction i with
 |zero =>
  intro x hx
  rcases z178.1 hx with h|h
  ·cases h
  ·exact .base h
 |succ i ih =>
  intro x hx
  rw [bfs] at hx
  split at hx
  ·rcases z178.1 hx with h|h
   ·exact ih x h
   ·exact .step (ih _ (y41 _)) h
  ·exact ih x hx
theorem z1060 (i:Nat):∀ k,k < i→∀ h:k < (bfs rows ini i).length,∀ y∈rows.getD ((bfs rows ini i)[k]).toNat [],y∈bfs rows ini i:=by
 induction i with
 |zero=>intro k hk;omega
 |succ i ih =>
  intro k hk h y hy
  obtain ⟨t,ht⟩:=z1254 (rows:=rows) (ini:=ini) i
  by_cases hkl:k < (bfs rows ini i).length
  ·have e:(bfs rows ini (i+1))[k]=(bfs rows ini i)[k]:=by
    simp only [ht,List.getElem_append_left hkl]
   rw [e] at hy
   rcases y67 k i with h1|h1
   ·rw [ht];exact List.mem_append_left _ (ih k h1 hkl y hy)
   ·obtain rfl:k=i:=by omega
    rw [bfs,dif_pos hkl]
    exact z178.2 (.inr hy)
  ·rcases y67 i (bfs rows ini i).length with h1|h1
   ·omega
   ·have e:bfs rows ini (i+1)=bfs rows ini i:=z816 h1 (by omega)
    rw [e] at h;omega
theorem z237 (hr:∀ r∈rows,InN rows.length r) (hi:InN rows.length ini) (x:Int):x∈bfsL rows ini↔RP rows ini x:=by
 refine ⟨bfs_RP _ x,fun h=>?_⟩
 have hl:=z458 hr hi rows.length
 induction h with
 |base h =>
  have:∀ i,∀ x∈ini,x∈bfs rows ini i:=by
   intro i
   induction i with
   |zero=>intro x hx;exact z178.2 (.inr hx)
   |succ i ih =>
    intro x hx
    obtain ⟨t,ht⟩:=z1254 (rows:=rows) (ini:=ini) i
    rw [ht];exact List.mem_append_left _ (ih x hx)
  exact this _ _ h
 |step h1 h2 ih =>
  obtain ⟨k,hk,rfl⟩:=List.mem_iff_getElem.1 ih
  exact z1060 _ k (Nat.lt_of_lt_of_le hk hl) hk _ h2
theorem z980 {i:Nat} (hr:∀ r∈rows,InN rows.length r) (hi:InN rows.length ini) (h:(bfs rows ini i).length≤i) (hil:i≤rows.length):bfs rows ini i=bfsL rows ini:=(z816 h hil).symm
theorem RP.in {x:Int} (hr:∀ r∈rows,InN rows.length r) (hi:InN rows.length ini) (h:RP rows ini x):0≤x∧x < rows.length:=by
 induction h with
 |base h=>exact hi _ h
 |step _ h2 _=>exact z301 hr _ _ h2
end
theorem z174 {r:Nat→Nat} {o o' a n n' : Nat} (h:n=n') (ho:o=r o'):AC.sref o a n=(AC.sref o' a n').ren r:=by rw [h,ho];rfl
end Go.Gl
namespace Go.Gl
def Asc (l:List Int):Prop:=l.Pairwise (· < ·)
theorem z575:∀ {a b:List Int},Asc a→Asc b→(∀ x,x∈a↔x∈b)→a=b
 |[],b,_,_,h=>by
  cases b with
  |nil=>rfl
  |cons y b=>have:=(h y).2 (by simp);cases this
 |x::a,[],_,_,h=>by have:=(h x).1 (by simp);cases this
 |x::a,y::b,ha,hb,h=>by
  have ha1:=List.pairwise_cons.1 ha
  have hb1:=List.pairwise_cons.1 hb
  have hxy:x=y:=by
   rcases List.mem_cons.1 ((h x).1 (by simp)) with e|hx
   ·exact e
   ·rcases List.mem_cons.1 ((h y).2 (by simp)) with e|hy
    ·exact e.symm
    ·have:=hb1.1 x hx;have:=ha1.1 y hy;omega
  subst hxy
  rw [z575 ha1.2 hb1.2 fun z=>?_]
  constructor
  ·intro hz
   rcases List.mem_cons.1 ((h z).1 (by simp [hz])) with e|hz'
   ·subst e;have:=ha1.1 z hz;omega
   ·exact hz'
  ·intro hz
   rcases List.mem_cons.1 ((h z).2 (by simp [hz])) with e|hz'
   ·subst e;have:=hb1.1 z hz;omega
   ·exact hz'
def insS (l:List Int) (n:Int):List Int:=match l with
 |[]=>[n]
 |x::r=>if x=n then x::r else if n < x then n::x::r else x::insS r n
theorem z696 {l:List Int} {n x:Int} : x∈insS l n↔x∈l∨x=n:=by
 induction l with
 |nil=>simp [insS]
 |cons y r ih =>
  rw [insS]
  split
  ·rename_i h;subst h;simp
   intro h;left;exact h
  ·split
   ·simp;constructor
    ·rintro (h|h|h)<;>simp [h]
    ·rintro ((h|h)|h)<;>simp [h]
   ·rw [List.mem_cons,ih];simp [or_assoc]
theorem z957 {l:List Int} {n:Int} (h:Asc l):Asc (insS l n):=by
 induction l with
 |nil=>simp [insS,Asc]
 |cons y r ih =>
  have h1:=List.pairwise_cons.1 h
  rw [insS]
  split
  ·exact h
  ·split
   ·refine List.pairwise_cons.2 ⟨fun z hz=>?_,h⟩
    rcases List.mem_cons.1 hz with rfl|hz
    ·assumption
    ·have:=h1.1 z hz;omega
   ·refine List.pairwise_cons.2 ⟨fun z hz=>?_,ih h1.2⟩
    rcases z696.1 hz with hz|rfl
    ·exact h1.1 z hz
    ·omega
theorem insS_len (l:List Int) (n:Int):(insS l n).length≤l.length+1:=by
 induction l with
 |nil=>simp [insS]
 |cons y r ih =>
  rw [insS]
  split
  ·simp
  ·split
   ·simp
   ·simp;exact ih
theorem insS_old {l:List Int} {n:Int} (h:Asc l) (hn:n∈l):insS l n=l :=
 z575 (z957 h) h fun x=>by
  rw [z696]
  constructor
  ·rintro (h|rfl)<;>assumption
  ·exact .inl
theorem z565 {z:List Int} (hs:z.Pairwise (·≤·)):∀ m,m≤z.length→Asc (Lib.compactUpTo z.toArray m)∧(∀ x,x∈Lib.compactUpTo z.toArray m↔x∈z.take m)∧(∀ h:0 < m,∀ x∈Lib.compactUpTo z.toArray m,∀ h2:m - 1 < z.length,x≤z[m - 1]):=by
 intro m
 induction m with
 |zero=>intro _;exact ⟨by simp [Lib.compactUpTo,Asc],by simp [Lib.compactUpTo],fun h=>by omega⟩
 |succ m ih =>
  intro hm
  obtain ⟨h1,h2,h3⟩:=ih (by omega)
  have hml:m < z.length:=by omega
  have hm0:z.toArray[m]! = z[m]:=by simp [hml]
  rw [Lib.compactUpTo_succ]
  by_cases hk:Lib.keeps z.toArray m=true
  ·rw [if_pos hk,hm0]
   have hlt:∀ x∈Lib.compactUpTo z.toArray m,x < z[m]:=by
    intro x hx
    rcases Nat.eq_zero_or_pos m with rfl|hp
    ·simp [Lib.compactUpTo] at hx
    ·have h4:=h3 hp x hx (by omega)
     have h5:z[m - 1]≤z[m]:=List.pairwise_iff_getElem.1 hs (m - 1) m (by omega) hml (by omega)
     have h6:z[m - 1]≠z[m]:=by
      unfold Lib.keeps at hk
      rw [decide_eq_true_eq] at hk
      rcases hk with h|h
      ·omega
      ·rw [hm0] at h
       have:z.toArray[m - 1]! = z[m - 1]:=by simp [show m - 1 < z.length by omega]
       rw [this] at h
       exact fun e=>h e.symm
     omega
   refine ⟨List.pairwise_append.2 ⟨h1,by simp,fun a ha b hb=>by rw [List.mem_singleton.1 hb];exact hlt a ha⟩,fun x=>?_,fun _ x hx h7=>?_⟩
   ·rw [y51,h2,y52,y47 hml,y51,y52]
   ·simp only [Nat.add_sub_cancel]
    rcases List.mem_append.1 hx with hx|hx
    ·have:=hlt x hx;omega
    ·rw [List.mem_singleton.1 hx];exact Int.le_refl _
  ·rw [if_neg hk,y62]
   have hp:0 < m∧z[m - 1]'(by omega)=z[m]:=by
    unfold Lib.keeps at hk
    rw [decide_eq_true_eq,not_or,Decidable.not_not,hm0] at hk
    refine ⟨by omega,?_⟩
    have:z.toArray[m - 1]! = z[m - 1]'(by omega):=by simp [show m - 1 < z.length by omega]
    rw [this] at hk
    exact hk.2.symm
   refine ⟨h1,fun x=>?_,fun _ x hx h7=>?_⟩
   ·rw [h2,y47 hml,y51,y52]
    constructor
    ·exact .inl
    ·rintro (h|rfl)
     ·exact h
     ·rw [← hp.2]
      rw [List.mem_take_iff_getElem]
      exact ⟨m - 1,by omega,rfl⟩
   ·simp only [Nat.add_sub_cancel]
    have:=h3 hp.1 x hx (by omega)
    rw [hp.2] at this;exact this
def z279 (l:List Int):List Int:=Lib.compact (l.mergeSort fun x y=>decide (x≤y))
theorem z522 (l:List Int):(l.mergeSort fun x y=>decide (x≤y)).Pairwise (·≤·):=by
 have:=List.pairwise_mergeSort (le:=fun x y:Int=>decide (x≤y)) (fun a b c h1 h2=>by simp only [decide_eq_true_eq] at *;omega) (fun a b=>by simp only [Bool.or_eq_true,decide_eq_true_eq];omega) l
 simpa using this
theorem z312 (l:List Int):Asc (z279 l):=(z565 (z522 l) _ (y49 _)).1
theorem z165 {l:List Int} {x:Int} : x∈z279 l↔x∈l:=by
 unfold z279 Lib.compact
 rw [(z565 (z522 l) _ (y49 _)).2.1,y53,List.mem_mergeSort]
theorem z630 {l:List Int} {out:List Int} (h:Asc out):Asc (l.foldl insS out)∧∀ x,x∈l.foldl insS out↔x∈out∨x∈l:=by
 induction l generalizing out with
 |nil=>exact ⟨h,fun x=>by simp⟩
 |cons n l ih =>
  obtain ⟨h1,h2⟩:=ih (z957 (n:=n) h)
  exact ⟨h1,fun x=>by rw [List.foldl_cons,h2,z696];simp [or_assoc]⟩
theorem sortD_eq (l:List Int):l.foldl insS []=z279 l:=by
 obtain ⟨h1,h2⟩:=z630 (l:=l) (out:=[]) (by simp [Asc])
 exact z575 h1 (z312 l) fun x=>by rw [h2,z165];simp
theorem z604 (l out:List Int):(l.foldl insS out).length≤out.length+l.length:=by
 induction l generalizing out with
 |nil=>simp
 |cons n l ih =>
  have:=ih (insS out n)
  have:=insS_len out n
  simp only [List.foldl_cons,y55];omega
def numK {K:Type} [DecidableEq K] (κ:Nat→K) (n:Nat):List Int×Nat:=numF (fun i k=>decide (κ k=κ i)) n
section
variable {K K' : Type} [DecidableEq K] [DecidableEq K'] {κ:Nat→K} {κ' : Nat→K'}
theorem z701 {p:Nat→Bool} {i:Nat} : (∀ j,j < i→p j=false)∨∃ k,k < i∧p k=true∧∀ j,j < k→p j=false:=by
 induction i with
 |zero=>exact .inl fun j hj=>by omega
 |succ i ih =>
  rcases ih with h|⟨k,h1,h2,h3⟩
  ·cases hp:p i with
   |true=>exact .inr ⟨i,by omega,hp,h⟩
   |false =>
    refine .inl fun j hj=>?_
    rcases y67 j i with h1|h1
    ·exact h j h1
    ·obtain rfl:j=i:=by omega
     exact hp
  ·exact .inr ⟨k,by omega,h2,h3⟩
theorem z343 (n:Nat):(numK κ n).1.length=n:=z118 _ _
theorem numK_iff {n:Nat} : ∀ (i:Nat) (hi:i≤n) (a b:Nat) (ha:a < i) (hb:b < i),(numK κ n).1[a]'(by rw [z343];omega)=(numK κ n).1[b]'(by rw [z343];omega)↔κ a=κ b:=by
 intro i
 induction i with
 |zero=>intro _ a b ha;omega
 |succ i ih =>
  intro hi a b ha hb
  have ih':=ih (by omega)
  have key:∀ b (hb:b < i),(numK κ n).1[i]'(by rw [z343];omega)=(numK κ n).1[b]'(by rw [z343];omega)↔κ i=κ b:=by
   intro b hb
   rcases z701 (p:=fun k=>decide (κ k=κ i)) (i:=i) with h|⟨k,h1,h2,h3⟩
   ·have e:=(z317 (same:=fun i k=>decide (κ k=κ i)) (n:=n) (i:=i) (by omega) h).1
    have hl:=numF_lt' (same:=fun i k=>decide (κ k=κ i)) (i:=i) (k:=b) (n:=n) (by omega) hb
    have hk:κ b≠κ i:=by simpa using h b hb
    constructor
    ·intro h5
     exfalso
     unfold numK at h5
     rw [e] at h5
     omega
    ·intro h5;exact absurd h5.symm hk
   ·have e:=(z263 (same:=fun i k=>decide (κ k=κ i)) (n:=n) (i:=i) (by omega) h1 h2 h3).1
    have hk:κ k=κ i:=by simpa using h2
    have h6:=ih' k b h1 hb
    unfold numK at h6 ⊢
    rw [e,h6,hk]
  rcases y67 a i with h1|h1
  ·rcases y67 b i with h2|h2
   ·exact ih' a b h1 h2
   ·obtain rfl:b=i:=by omega
    rw [eq_comm,key a h1,eq_comm]
  ·obtain rfl:a=i:=by omega
   rcases y67 b a with h2|h2
   ·exact key b h2
   ·obtain rfl:b=a:=by omega
    simp
end
end Go.Gl
namespace Go.Gl
def arityB (k:Int):Int:=if k=1∨k=2 then 0 else if k=3∨k=6∨k=8∨k=9∨k=11 then 1 else if k=4∨k=5∨k=7∨k=10 then 2 else -1
def mostB (k:Int):Int:=if k=2 then 2 else 0
mutual
def Tree.walkB (t:Tree) (d n:Int):Int×Bool:=match t with
 |.mk k v l=>if d≤6∧n+1≤12∧0≤v∧v≤mostB k∧(l.length:Int)=arityB k then Tree.walkBs l (d+1) (n+1) else (n+1,false)
def Tree.walkBs (l:List Tree) (d n:Int):Int×Bool:=match l with
 |[]=>(n,true)
 |t::r=>if (Tree.walkB t d n).2 then Tree.walkBs r d (Tree.walkB t d n).1 else ((Tree.walkB t d n).1,false)
end
mutual
def Tree.shapeB (t:Tree) (d:Int):Bool:=match t with
 |.mk k v l=>decide (1≤d∧(l.length:Int)=arityB k∧0≤v∧v≤mostB k) && Tree.shapeBBs l (d - 1)
def Tree.shapeBBs (l:List Tree) (d:Int):Bool:=match l with
 |[]=>true
 |t::r=>Tree.shapeB t d && Tree.shapeBBs r d
end
def ordB (s a b:Bool):Prop:=a=b∨a=s
theorem ordB.refl (s a:Bool):ordB s a a:=.inl rfl
theorem ordB.trans {s a b c:Bool} (h:ordB s a b) (k:ordB s b c):ordB s a c:=by
 unfold ordB at *
 cases s<;>cases a<;>cases b<;>cases c<;>simp_all
theorem ordB.antisymm {s a b:Bool} (h:ordB s a b) (k:ordB s b a):a=b:=by
 unfold ordB at *
 cases s<;>cases a<;>cases b<;>simp_all
def gB (S:List Bool) (i:Nat):Bool:=S.getD i false
structure FixR (s:Bool) (H:Nat→List Bool→Bool) (n:Nat) (R:List Bool):Prop where
 len:R.length=n
 fix:∀ i,i < n→gB R i=H i R
 least:∀ T:List Bool,T.length=n→(∀ i,i < n→ordB s (H i T) (gB T i))→∀ i,i < n→ordB s (gB R i) (gB T i)
def MonoB (s:Bool) (H:Nat→List Bool→Bool) (n:Nat):Prop:=∀ (S T:List Bool),S.length=n→T.length=n→(∀ j,j < n→ordB s (gB S j) (gB T j))→∀ i,i < n→ordB s (H i S) (H i T)
open Classical in
noncomputable def lim (s:Bool) (H:Nat→List Bool→Bool) (n:Nat):List Bool:=if h:∃ R,FixR s H n R then h.choose else []
def cntS (s:Bool) (S:List Bool):Nat:=(S.filter fun b=>b == s).length
theorem z961 {S:List Bool} {i j:Nat} {b:Bool} (hi:i < S.length):gB (S.set i b) j=if j=i then b else gB S j:=by
 unfold gB
 by_cases h:j=i
 ·subst h
  rw [if_pos rfl,z20 (by simpa using hi)];simp
 ·rw [if_neg h]
  simp only [y65]
  rw [List.getElem?_set_ne (Ne.symm h)]
theorem cntS_set {s:Bool} {S:List Bool} {i:Nat} (hi:i < S.length) (h:gB S i=s):cntS s (S.set i (!s))+1=cntS s S:=by
 unfold gB at h
 rw [z20 hi] at h
 induction S generalizing i with
 |nil=>simp at hi
 |cons a S ih =>
  cases i with
  |zero =>
   simp only [List.getElem_cons_zero] at h
   subst h
   simp [cntS,List.filter_cons]
  |succ i =>
   have:=ih (i:=i) (by simpa using hi) (by simpa using h)
   unfold cntS at this ⊢
   rw [List.set_cons_succ,List.filter_cons,List.filter_cons]
   split<;>(try simp only [y55])<;>omega
structure Way (s:Bool) (H:Nat→List Bool→Bool) (n:Nat) (S:List Bool):Prop where
 len:S.length=n
 below:∀ T:List Bool,T.length=n→(∀ i,i < n→ordB s (H i T) (gB T i))→∀ i,i < n→ordB s (gB S i) (gB T i)
 post:∀ i,i < n→ordB s (gB S i) (H i S)
theorem Way.start {s:Bool} {H:Nat→List Bool→Bool} {n:Nat} : Way s H n (List.replicate n s):=by
 have e:∀ i,i < n→gB (List.replicate n s) i=s:=fun i hi=>by unfold gB;rw [z20 (by simpa using hi)];simp
 exact ⟨by simp,fun T _ _ i hi=>.inr (e i hi),fun i hi=>.inr (e i hi)⟩
theorem Way.put {s:Bool} {H:Nat→List Bool→Bool} {n:Nat} (hm:MonoB s H n) {S:List Bool} (h:Way s H n S) {i:Nat} (hi:i < n) {v:Bool} (h1:ordB s (gB S i) v) (h2:ordB s v (H i S)):Way s H n (S.set i v)∧(v≠gB S i→cntS s (S.set i v)+1=cntS s S):=by
 have hil:i < S.length:=by rw [h.len];exact hi
 have hle:∀ j,j < n→ordB s (gB S j) (gB (S.set i v) j):=fun j _=>by
  rw [z961 hil];split
  ·rename_i e;subst e;exact h1
  ·exact ordB.refl _ _
 have hH:=hm S (S.set i v) h.len (by simp [h.len]) hle
 refine ⟨⟨by simp [h.len],fun T hT hc j hj=>?_,fun j hj=>?_⟩,fun hne=>?_⟩
 ·rw [z961 hil];split
  ·rename_i e;subst e
   exact h2.trans ((hm S T h.len hT (h.below T hT hc) j hj).trans (hc j hj))
  ·exact h.below T hT hc j hj
 ·rw [z961 hil];split
  ·rename_i e;subst e;exact h2.trans (hH j hj)
  ·exact (h.post j hj).trans (hH j hj)
 ·have hs:gB S i=s:=by
   rcases h1 with e|e
   ·exact absurd e.symm hne
   ·exact e
  have hv:v=!s:=by
   cases v<;>cases s<;>simp_all
  rw [hv];exact cntS_set hil hs
def nxB (g:List (List Int)) (ev:Bool) (i:Nat) (S:List Bool):Bool:=if ev then (g.getD i []).all (fun t=>gB S t.toNat) else (g.getD i []).any (fun t=>gB S t.toNat)
end Go.Gl
namespace Go.Gl
theorem Way.step {s:Bool} {H:Nat→List Bool→Bool} {n:Nat} (hm:MonoB s H n) {S S' : List Bool} (h:Way s H n S') (hS:S.length=n) (hle:∀ j,j < n→ordB s (gB S j) (gB S' j)) {i:Nat} (hi:i < n) (hv:H i S=!s) (hg:gB S' i=s):Way s H n (S'.set i (!s))∧cntS s (S'.set i (!s))+1=cntS s S'∧∀ j,j < n→ordB s (gB S j) (gB (S'.set i (!s)) j):=by
 have hil:i < S'.length:=by rw [h.len];exact hi
 have h2:ordB s (!s) (H i S'):=by
  have:=hm S S' hS h.len hle i hi
  rwa [hv] at this
 have hp:=h.put hm hi (v:=!s) (.inr hg) h2
 refine ⟨hp.1,hp.2 (by rw [hg];cases s<;>simp),fun j hj=>?_⟩
 rw [z961 hil]
 split
 ·rename_i e
  subst e
  have:=hle j hj
  rw [hg] at this
  rcases this with e|e
  ·exact .inr e
  ·exact .inr e
 ·exact hle j hj
def unH (g:List (List Int)) (ev:Bool) (a b:List Bool) (i:Nat) (S:List Bool):Bool:=gB b i || (gB a i && nxB g ev i S)
def alH (g:List (List Int)) (ev:Bool) (a:List Bool) (i:Nat) (S:List Bool):Bool:=gB a i && nxB g ev i S
def nxL (g:List (List Int)) (ev:Bool) (n:Nat) (S:List Bool):List Bool:=(List.range n).map fun i=>nxB g ev i S
def hasB (ℓ a:Int):Bool:=decide (((((ℓ / 2 ^ a.toNat).toNat &&& (1:Int).toNat:Nat):Int))=1)
def ptB (L:List Int) (k v:Int) (a b:List Bool) (i:Nat):Bool:=if k=2 then hasB (L.getD i 0) v else if k=3 then !gB a i else if k=4 then gB a i && gB b i else if k=5 then gB a i || gB b i else true
noncomputable def opB (g:List (List Int)) (n:Nat) (L:List Int) (k v:Int) (ks:List (List Bool)):List Bool :=
 if k=6 then nxL g false n (ks.getD 0 []) else if k=9 then nxL g true n (ks.getD 0 [])
 else if k=7 then lim false (unH g false (ks.getD 0 []) (ks.getD 1 [])) n else if k=10 then lim false (unH g true (ks.getD 0 []) (ks.getD 1 [])) n
 else if k=8 then lim true (alH g false (ks.getD 0 [])) n else if k=11 then lim true (alH g true (ks.getD 0 [])) n
 else (List.range n).map (ptB L k v (ks.getD 0 []) (ks.getD 1 []))
mutual
noncomputable def Tree.satB (g:List (List Int)) (n:Nat) (L:List Int) (t:Tree):List Bool:=match t with
 |.mk k v l=>opB g n L k v (Tree.satBs g n L l)
noncomputable def Tree.satBs (g:List (List Int)) (n:Nat) (L:List Int) (l:List Tree):List (List Bool):=match l with
 |[]=>[]
 |t::r=>Tree.satB g n L t::Tree.satBs g n L r
end
theorem Way.now {g:List (List Int)} {ev:Bool} {a:List Bool} {n:Nat} (ha:a.length=n):Way true (alH g ev a) n a:=by
 refine ⟨ha,fun T hT h i hi=>?_,fun i hi=>?_⟩
 ·have:=h i hi
  unfold alH ordB at this
  unfold ordB
  revert this
  cases gB a i<;>cases gB T i<;>simp
 ·unfold alH ordB
  cases gB a i<;>simp
theorem rowInN {g:List (List Int)} {n:Nat} (hr:∀ r∈g,InN n r) (i:Nat):InN n (g.getD i []):=by
 by_cases hi:i < g.length
 ·rw [z20 hi];exact hr _ (y41 _)
 ·rw [y65,y66 (by omega)];intro x hx;cases hx
section
variable {g:List (List Int)} {n:Nat} (L:List Int)
variable (hr:∀ r∈g,InN n r)
include hr
end
end Go.Gl
namespace Go.Gl
theorem bool_le {a b:Bool} (h:a=b):LocLe (.bool a) (.bool b):=h ▸ y83 _
def mvF (o n:Nat) (p:Nat×List Nat):Nat×List Nat:=if p.1=o then (n,p.2) else p
noncomputable def Ghost.rnm (G:Ghost) (o n:Nat):Ghost:={ G with ι:=fun x=>if x=n then G.ι o else G.ι x,κ:=fun b=>(G.κ b).map (mvF o n) }
theorem mvF_cons (o n o' j:Nat) (q:List Nat):mvF o n (o',j::q)=((mvF o n (o',q)).1,j::(mvF o n (o',q)).2):=by
 unfold mvF;dsimp only;split<;>rfl
theorem Wf.rnm {G : Ghost} {objs : Nat → AObj} {w : World} (hW : Wf G objs w) {o n wd : Nat} {es : List (List AC)} (ho : objs o = .cells wd es) (hn : objs n = .fresh) :
    Wf (G.rnm o n) (upd (upd objs n (.cells wd es)) o .dead) w∧∀ x t,G.ι x=some t→(G.rnm o n).ι x=some t:=by
  have hιn:G.ι n=none:=by have:=hW.objs n;rw [hn] at this;exact this
  have hon:o≠n:=fun e=>by rw [e,hn] at ho;cases ho
  have hι:∀ x t,G.ι x=some t→(G.rnm o n).ι x=some t:=fun x t e=>by
    show (if x=n then G.ι o else G.ι x)=some t
    by_cases h:x=n
    · rw [h,hιn] at e;cases e
    · rw [if_neg h];exact e
  have hmv:∀ (es:List (List AC)) (l:Loc) (wd:Nat) (c:Array Value),VLL G (hp w) l wd es c 0→VLL (G.rnm o n) (hp w) (l.map (mvF o n)) wd es c 0:=fun es l wd c hv =>
    z190 es G (G.rnm o n) (hp w) (hp w) (mvF o n) (fun _=>True) (fun _ _ e=>e) hι (fun a b c=>mvF_cons o n a b c) (fun _ _ _ h=>h) (fun b p _ hk=>⟨by show (G.κ b).map (mvF o n)=_;rw [hk];rfl,rfl⟩) l wd c 0 (fun _ _ _=>trivial) hv
  refine ⟨⟨hW.hS,hW.hU,hW.su,fun b p hk=>?_,fun x=>?_⟩,hι⟩
  · have hk:(G.κ b).map (mvF o n)=some p:=hk
    cases h:G.κ b with
    | none=>rw [h] at hk;cases hk
    | some p'=>exact hW.sk b p' h
  · by_cases h1:x=o
    · subst h1;rw [z36];trivial
    · rw [z52 _ _ h1]
      by_cases h2:x=n
      · subst h2
        rw [z36]
        have h:=hW.objs o
        rw [ho] at h
        have hx:(G.rnm o x).ι x=G.ι o:=by show (if x=x then G.ι o else G.ι x)=_;rw [if_pos rfl]
        rcases h with ⟨a,b⟩|⟨b,size,c,el,a1,a2,a3,a4,a5⟩
        · exact .inl ⟨a,by rw [hx];exact b⟩
        · refine .inr ⟨b,size,c,el,by rw [hx];exact a1,?_,a3,a4,?_⟩
          · show (G.κ b).map (mvF o x)=_;rw [a2];unfold mvF;simp
          · have:=hmv es (some (o,[])) wd c a5
            have e:Option.map (mvF o x) (some (o,[]))=some (x,[]):=by unfold mvF;simp
            rwa [e] at this
      · rw [z52 _ _ h2]
        have h:=hW.objs x
        have hx:(G.rnm o n).ι x=G.ι x:=by show (if x=n then G.ι o else G.ι x)=_;rw [if_neg h2]
        cases hc:objs x with
        | fresh=>rw [hc] at h;show (G.rnm o n).ι x=none;rw [hx];exact h
        | dead=>trivial
        | mp d es' =>
          rw [hc] at h
          obtain ⟨b,size,wx,c,ck,a1,a2,a3⟩:=h
          refine ⟨b,size,wx,c,ck,by rw [hx];exact a1,?_,a3⟩
          show (G.κ b).map (mvF o n)=_;rw [a2];unfold mvF;simp [h1]
        | cells wd' es' =>
          rw [hc] at h
          rcases h with ⟨a,b⟩|⟨b,size,c,el,a1,a2,a3,a4,a5⟩
          · exact .inl ⟨a,by rw [hx];exact b⟩
          · refine .inr ⟨b,size,c,el,by rw [hx];exact a1,?_,a3,a4,?_⟩
            · show (G.κ b).map (mvF o n)=_;rw [a2];unfold mvF;simp [h1]
            · have:=hmv es' (some (x,[])) wd' c a5
              have e:Option.map (mvF o n) (some (x,[]))=some (x,[]):=by unfold mvF;simp [h1]
              rwa [e] at this
def rnS (o n:Nat) (x:AC):AC:=match x with
 |.sref k off len=>.sref (cond (Nat.beq k o) n k) off len
 |x=>x
theorem rnS_V {G:Ghost} {h:Nat→Option Obj} {o n:Nat} (hι:∀ x t,G.ι x=some t→(G.rnm o n).ι x=some t) {x:AC} {v:Value} (hv:V G h none x v):V (G.rnm o n) h none (rnS o n x) v:=by
 cases x with
 |sref k off len =>
  simp only [rnS,V] at hv ⊢
  obtain ⟨cap,h1,h2⟩:=hv
  refine ⟨cap,h1,h2.imp id ?_⟩
  rintro ⟨b,size,w,a1,a2⟩
  refine ⟨b,size,w,?_,a2⟩
  cases hk:Nat.beq k o with
  |true =>
   have:=Nat.eq_of_beq_eq_true hk
   subst this
   show (if n=n then G.ι k else _)=_
   rw [if_pos rfl];exact a1
  |false=>exact hι k _ a1
 |_=>exact z149 (G:=G) (G':=G.rnm o n) (fun _ _ e=>e) hι hv
theorem rnS_env (o n:Nat) (env:List (Nat×AC)) (s:Nat):z113 (env.map fun p=>(p.1,rnS o n p.2)) s=rnS o n (z113 env s):=by
 induction env with
 |nil=>rfl
 |cons p env ih =>
  obtain ⟨k,x⟩:=p
  simp only [List.map_cons,z113]
  cases Nat.beq s k
  ·exact ih
  ·rfl
theorem Reach.rnm (o:Nat) {m n wd:Nat} {env:List (Nat×AC)} {objs:List AObj} {es:List (List AC)} (ho:z47 objs o=.cells wd es):Reach m (mkSt n env objs) (mkSt n (env.map fun p=>(p.1,rnS o objs.length p.2)) (objs.set o .dead++[.cells wd es])):=fun G a w hR=>by
 have hol:o < objs.length:=by
  rcases y67 o objs.length with h|h
  ·exact h
  ·have:z47 objs o=.fresh:=z78 h
   rw [this] at ho;cases ho
 have hn:z47 objs objs.length=.fresh:=z78 (y49 _)
 obtain ⟨h1,h2⟩:=hR.wf.rnm (o:=o) (n:=objs.length) ho hn
 refine ⟨G.rnm o objs.length,⟨⟨fun _ _ e=>e,rfl⟩,fun x t _ e=>h2 x t e⟩,⟨?_,fun s=>by
  show V _ _ none (z113 (env.map fun p=>(p.1,rnS o objs.length p.2)) s) _
  rw [rnS_env];exact rnS_V h2 (hR.env s),hR.size,hR.defers.mono (fun _ _ e=>e)⟩⟩
 show Wf _ (z47 (objs.set o .dead++[.cells wd es])) w
 have e:z47 (objs.set o .dead++[.cells wd es])=upd (upd (z47 objs) objs.length (.cells wd es)) o .dead:=by
  funext x
  by_cases h1:x=o
  ·subst h1
   rw [z36]
   exact z72 (by rw [y63 (by simpa using hol),List.getElem?_set_self hol])
  ·rw [z52 _ _ h1]
   rcases Nat.lt_trichotomy x objs.length with h|h|h
   ·rw [z52 _ _ (by omega)]
    have:z47 objs x=objs[x]:=z72 (y42 h)
    rw [this]
    exact z72 (by rw [y63 (by simpa using h),List.getElem?_set_ne (by omega),y42 h])
   ·subst h
    rw [z36]
    exact z72 (by simp)
   ·rw [z52 _ _ (by omega)]
    have:z47 objs x=.fresh:=z78 (by omega)
    rw [this]
    exact z78 (by simp;omega)
 rw [e];exact h1
theorem Reach.trunc {m n : Nat} {env : List (Nat × AC)} {objs objs' : List AObj} (o k : Nat) {wd : Nat} {es : List (List AC)} (ho : z47 objs o = .cells wd es)
    (hk:z333 objs [⟨o,.dead,.cells wd (es.take k)⟩] fun l=>l=objs'):Reach m (mkSt n env objs) (mkSt n env objs'):=fun G a w hR=>by
  obtain ⟨l,rfl,hl'⟩:=z143 hk
  refine ⟨G,SubM.refl m G,⟨?_,hR.env,hR.size,hR.defers⟩⟩
  show Wf G (z47 l) w
  rw [hl']
  refine ⟨hR.wf.hS,hR.wf.hU,hR.wf.su,hR.wf.sk,fun o'=>?_⟩
  show ObjRel G (hp w) o' (upd (z47 objs) o (.cells wd (es.take k)) o')
  by_cases h:o'=o
  · subst h
    rw [z36]
    have:=hR.wf.objs o'
    rw [show (mkSt n env objs).objs o'=.cells wd es from ho] at this
    rcases this with ⟨h1,h2⟩|⟨b,size,c,el,h1,h2,h3,h4,h5⟩
    · subst h1
      exact .inl ⟨by simp,h2⟩
    · refine .inr ⟨b,size,c,el,h1,h2,h3,h4,?_⟩
      rw [z74] at h5 ⊢
      intro i e' he'
      rw [List.getElem?_take] at he'
      split at he'
      · exact h5 i e' he'
      · cases he'
  · rw [z52 _ _ h];exact hR.wf.objs o'
theorem RetS.absorb {m : Nat} {objs objs' : List AObj} {res r : AC} (o q k j : Nat) {wd wd2 len : Nat} {es es2 : List (List AC)} {e : List AC} (ho : z47 objs o = .cells wd es) (he : es[k]? = some e) (hj : e[j]? = some (.sref q 0 len)) (hq : z47 objs q = .cells wd2 es2) (hn : es2.length = len) (hoq : Nat.beq o q = false) (hfl : Flat es2)
    (hk:z333 objs [⟨o,.dead,.cells wd (es.set k (e.set j (.own wd2 es2)))⟩,⟨q,.dead,.dead⟩] fun l=>RetS m (z47 l) res objs' r):RetS m (z47 objs) res objs' r:=fun G w v hW hV=>by
  obtain ⟨l,hl,hl'⟩:=z143 hk
  have h4:=hW.absorb (o:=o) (q:=q) ho he hj hq hn (by rintro rfl;rw [Nat.beq_refl] at hoq;cases hoq) hfl
  have h5:Wf (G.absorb o q (k * wd+j)) (z47 l) w:=by rw [hl'];exact h4
  obtain ⟨G',h1,h2,h3⟩:=hl _ w v h5 (z149 (G:=G) (G':=G.absorb o q (k * wd+j)) (fun _ _ e=>e) (fun _ _ e=>e) hV)
  have h6:SubM m G (G.absorb o q (k * wd+j)):=⟨⟨fun _ _ e=>e,rfl⟩,fun _ _ _ e=>e⟩
  exact ⟨G',h6.trans h1,h2,h3⟩
theorem RetS.trunc {m : Nat} {objs objs' : List AObj} {res r : AC} (o k : Nat) {wd : Nat} {es : List (List AC)} (ho : z47 objs o = .cells wd es)
    (hk:z333 objs [⟨o,.dead,.cells wd (es.take k)⟩] fun l=>RetS m (z47 l) res objs' r):RetS m (z47 objs) res objs' r:=fun G w v hW hV=>by
  obtain ⟨l,hl,hl'⟩:=z143 hk
  refine hl G w v ?_ hV
  rw [hl']
  refine ⟨hW.hS,hW.hU,hW.su,hW.sk,fun o'=>?_⟩
  show ObjRel G (hp w) o' (upd (z47 objs) o (.cells wd (es.take k)) o')
  by_cases h:o'=o
  · subst h
    rw [z36]
    have:=hW.objs o'
    rw [ho] at this
    rcases this with ⟨h1,h2⟩|⟨b,size,c,el,h1,h2,h3,h4,h5⟩
    · subst h1
      exact .inl ⟨by simp,h2⟩
    · refine .inr ⟨b,size,c,el,h1,h2,h3,h4,?_⟩
      rw [z74] at h5 ⊢
      intro i e' he'
      rw [List.getElem?_take] at he'
      split at he'
      · exact h5 i e' he'
      · cases he'
  · rw [z52 _ _ h];exact hW.objs o'
variable {P:Program} {T:Tab}
def intsG (l:List Int):AC:=.list 1 l.length (l.map fun x=>[AC.int x])
theorem z252 (w:World) (x:Obj) (b:Nat) (hb:b < w.heap.size):(w.alloc x).heap[b]?=w.heap[b]?:=by
 show (w.heap.push x)[b]?=_
 rw [Array.getElem?_push,if_neg (by omega)]
theorem upd_upd {α:Type} (f:Nat→α) (l:Nat) (x y:α):upd (upd f l x) l y=upd f l y:=by
 funext b
 by_cases h:b=l
 ·subst h;rw [z36,z36]
 ·rw [z52 _ _ h,z52 _ _ h,z52 _ _ h]
theorem Le.putObj (w:World) (l:Nat) (x:Obj):Le w (w.putObj l x):=⟨rfl,rfl,rfl,by simp [World.putObj]⟩
theorem Wf.enter {G:Ghost} {objs:Nat→AObj} {w:World} (h:Wf G objs w) (x y:Obj):Wf { G with S:=upd G.S w.heap.size (some x),U:=upd G.U (w.heap.size+1) (some y) } objs ((w.alloc x).alloc y):=by
 have hlt:∀ b z,w.heap[b]?=some z→b < w.heap.size:=fun b z e=>(Array.getElem?_eq_some_iff.1 e).1
 have hx:((w.alloc x).alloc y).heap[w.heap.size]?=some x:=by
  rw [z252 _ _ _ (by simp)];exact World.alloc_heap_new w x
 have hy:((w.alloc x).alloc y).heap[w.heap.size+1]?=some y:=by
  have:=World.alloc_heap_new (w.alloc x) y;rwa [World.size_alloc] at this
 have hold:∀ b,b < w.heap.size→((w.alloc x).alloc y).heap[b]?=w.heap[b]?:=fun b hb=>by
  rw [z252 _ _ _ (by simp;omega),z252 _ _ _ hb]
 have hsn:∀ b,w.heap.size≤b→G.S b=none∧G.U b=none:=fun b hb=>by
  constructor
  ·cases e:G.S b with
   |none=>rfl
   |some z=>have:=hlt _ _ (h.hS b z e);omega
  ·cases e:G.U b with
   |none=>rfl
   |some z=>have:=hlt _ _ (h.hU b z e);omega
 refine ⟨fun b z e=>?_,fun b z e=>?_,fun b z e=>?_,fun b p e=>?_,fun o=>?_⟩
 ·by_cases hb:b=w.heap.size
  ·subst hb
   simp only [z36] at e
   cases e;exact hx
  ·simp only [z52 _ _ hb] at e
   have:=h.hS b z e
   rw [hold b (hlt _ _ this)];exact this
 ·by_cases hb:b=w.heap.size+1
  ·subst hb
   simp only [z36] at e
   cases e;exact hy
  ·simp only [z52 _ _ hb] at e
   have:=h.hU b z e
   rw [hold b (hlt _ _ this)];exact this
 ·by_cases hb:b=w.heap.size+1
  ·subst hb
   show upd G.S w.heap.size (some x) (w.heap.size+1)=none
   rw [z52 _ _ (by omega)];exact (hsn _ (by omega)).1
  ·simp only [z52 _ _ hb] at e
   have:=hlt _ _ (h.hU b z e)
   show upd G.S w.heap.size (some x) b=none
   rw [z52 _ _ (by omega)];exact h.su b z e
 ·obtain ⟨h1,h2,h3⟩:=h.sk b p e
  refine ⟨?_,?_,by simp;omega⟩
  ·show upd G.S w.heap.size (some x) b=none
   rw [z52 _ _ (by omega)];exact h1
  ·show upd G.U (w.heap.size+1) (some y) b=none
   rw [z52 _ _ (by omega)];exact h2
 ·refine y12 (G:=G) (G':={ G with S:=upd G.S w.heap.size (some x),U:=upd G.U (w.heap.size+1) (some y) }) (h:=hp w) (fun b c el fz e=>?_) rfl (fun b p e=>⟨e,?_⟩) (h.objs o)
  ·have:=hlt _ _ (h.hS b _ e)
   show upd G.S w.heap.size (some x) b=_
   rw [z52 _ _ (by omega)];exact e
  ·exact hold b (h.sk b p e).2.2
def EndR {α:Type} (M:Nat) (L:List Int) (rest:α→List AObj) (ok:Nat→α→Prop) (k:Nat) (st' : St):Prop:=∃ y,ok k y∧Reach M st' (mkSt st'.n [] (AObj.cells 1 [[intsG L]]::rest y))
theorem EndR.mk {α:Type} {M:Nat} {L:List Int} {rest:α→List AObj} {ok:Nat→α→Prop} {k n:Nat} {env:List (Nat×AC)} {objs:List AObj} (y:α) (h:ok k y) (hr:Reach M (mkSt n env objs) (mkSt n [] (AObj.cells 1 [[intsG L]]::rest y))):EndR M L rest ok k (mkSt n env objs):=⟨y,h,hr⟩
theorem AWP.at_ {m:Nat} {c:Code} {Q:Exit→St→Prop} {st:St} (h:AWP P m c Q st) {G:Ghost} {a:Act} {w:World} (hR:Rel G st a w):c.wpIn Fence.wide 0 P (PostA m G w Q) a w:=h G a w hR none (.inl rfl)
end Go.Gl
namespace Go.Gl
variable {P:Program}
def andB (a b:Bool):Bool:=match a with
 |true=>b
 |false=>false
theorem z176 {a b:Bool} (h:andB a b=true):a=true∧b=true:=by
 cases a
 ·cases h
 ·exact ⟨rfl,h⟩
def z1056 (st:St) (π Bn ν:List Nat) (n:Nat) (res:AC):Bool:=andB (allN (fun o=>z169 (st.objs o)) π) (andB (allN (fun o=>z380 (st.objs o)) ν) (andB (z226 (π++ν++Bn)) (andB (Nat.beq n (π++ν).length) (res.under n))))
def undB (M:Nat):List AObj→Bool
 |[]=>true
 |.cells _ es::r=>andB (es.all (z138 M)) (undB M r)
 |.dead::r=>undB M r
 |.mp _ _::r=>undB M r
 |.fresh::_=>false
theorem z386 {M:Nat} : ∀ {xs:List AObj},undB M xs=true→∀ x∈xs,z277 M x
 |[],_,x,hx=>by cases hx
 |y::r,h,x,hx=>by
  cases y with
  |fresh=>cases h
  |dead=>rcases List.mem_cons.1 hx with rfl|hx;exact trivial;exact z386 (xs:=r) h x hx
  |mp a b=>rcases List.mem_cons.1 hx with rfl|hx;exact trivial;exact z386 (xs:=r) h x hx
  |cells w es =>
   obtain ⟨h1,h2⟩:=z176 h
   rcases List.mem_cons.1 hx with rfl|hx
   ·exact fun e he=>(List.all_eq_true.1 h1) e he
   ·exact z386 h2 x hx
theorem z403 {objs:Nat→AObj} {π Bn:List Nat} : ∀ {os:List Nat} {ys:List AObj},os.map (z81 objs π Bn)=ys→PassOk objs π Bn os ys
 |[],_,h=>h.symm
 |_::os,_,h=>⟨_,os.map (z81 objs π Bn),h.symm,rfl,z403 rfl⟩
theorem z619 {M:Nat} {r:Nat→Nat} : ∀ {xs:List AObj},(∀ x∈xs,z277 M x)→ObjsRen M r xs (xs.map (z126 r))
 |[],_=>rfl
 |x::xs,h=>⟨z126 r x,xs.map (z126 r),rfl,⟨h x (by simp),rfl⟩,z619 fun y hy=>h y (y70 _ hy)⟩
variable {st:St} {K:OpK} {f:FuncId} {first caps args args0:List AC} {objs0 objs1 objs1' : List AObj} {res:AC}
theorem z814 (π Bn ν : List Nat) (h : CallsA P f args0 objs0 res objs1) (hb : borL st.objs π Bn (first ++ (args ++ caps)) = args0) (hp : PassOk st.objs π Bn π objs0) (hc : z1056 st π Bn ν objs1.length res = true)
    (ho:ObjsRen objs1.length (z65 0 (π++ν)) objs1 objs1') (hpl:Bn=[]∨(res.plain=true∧PlainObjs objs1)) (k:renK (z65 0 (π++ν)) res fun res1=>K res1 (z191 st (π++ν) objs1'++Bn.map st.rd)):z18 P st (.fn (.func f) first caps) args K:=by
  obtain ⟨h1,h2⟩:=z176 hc
  obtain ⟨h2,h3⟩:=z176 h2
  obtain ⟨h3,h4⟩:=z176 h3
  obtain ⟨h4,h5⟩:=z176 h4
  exact z125 π Bn ν h hb hp h1 h2 h3 h4 h5 ho hpl k
theorem z120 (π Bn ν : List Nat) (h : CallsA P f args0 objs0 res objs1) (hb : borL st.objs π Bn (first ++ (args ++ caps)) = args0) (hp : π.map (z81 st.objs π Bn) = objs0) (hc : z1056 st π Bn ν objs1.length res = true)
    (ho:ObjsRen objs1.length (z65 0 (π++ν)) objs1 objs1') (hpl:Bn=[]∨(res.plain=true∧PlainObjs objs1)) (k:renK (z65 0 (π++ν)) res fun res1=>K res1 (z191 st (π++ν) objs1'++Bn.map st.rd)):z18 P st (.fn (.func f) first caps) args K :=
  z814 π Bn ν h hb (z403 hp) hc ho hpl k
theorem z175 (π ν : List Nat) (h : CallsA P f args0 objs0 res objs1) (hb : borL st.objs π [] (first ++ (args ++ caps)) = args0) (hp : PassOk st.objs π [] π objs0) (hc : z1056 st π [] ν objs1.length res = true)
    (ho:ObjsRen objs1.length (z65 0 (π++ν)) objs1 objs1') (k:renK (z65 0 (π++ν)) res fun res1=>K res1 (z191 st (π++ν) objs1'++List.map st.rd [])):z18 P st (.fn (.func f) first caps) args K :=
  z814 π [] ν h hb hp hc ho (.inl rfl) k
theorem z15 (π ν : List Nat) (h : CallsA P f args0 objs0 res objs1) (hb : borL st.objs π [] (first ++ (args ++ caps)) = args0) (hp : π.map (z81 st.objs π []) = objs0) (hc : z1056 st π [] ν objs1.length res = true)
    (ho:ObjsRen objs1.length (z65 0 (π++ν)) objs1 objs1') (k:renK (z65 0 (π++ν)) res fun res1=>K res1 (z191 st (π++ν) objs1'++List.map st.rd [])):z18 P st (.fn (.func f) first caps) args K :=
  z814 π [] ν h hb (z403 hp) hc ho (.inl rfl) k
theorem call_PB (π ν : List Nat) (h : CallsA P f args0 objs0 res objs1) (hb : borL st.objs π [] (first ++ (args ++ caps)) = args0) (hp : PassOk st.objs π [] π objs0) (hc : andB (undB objs1.length objs1) (z1056 st π [] ν objs1.length res) = true)
    (k:renK (z65 0 (π++ν)) res fun res1=>K res1 (z191 st (π++ν) (objs1.map (z126 (z65 0 (π++ν))))++List.map st.rd [])):z18 P st (.fn (.func f) first caps) args K :=
  z175 π ν h hb hp (z176 hc).2 (z619 (z386 (z176 hc).1)) k
theorem z31 (π ν : List Nat) (h : CallsA P f args0 objs0 res objs1) (hb : borL st.objs π [] (first ++ (args ++ caps)) = args0) (hp : π.map (z81 st.objs π []) = objs0) (hc : andB (undB objs1.length objs1) (z1056 st π [] ν objs1.length res) = true)
    (k:renK (z65 0 (π++ν)) res fun res1=>K res1 (z191 st (π++ν) (objs1.map (z126 (z65 0 (π++ν))))++List.map st.rd [])):z18 P st (.fn (.func f) first caps) args K :=
  call_PB π ν h hb (z403 hp) hc k
def layB (m:Nat) (o:Nat→AObj) (π Bn:List Nat):Bool:=andB (z226 (π++Bn)) (andB (allN (fun x=>z169 (o x)) π) (z267 m 0 π))
theorem swR (π Bn : List Nat) {m n : Nat} {st : St} {env : List (Nat × AC)} {objs : List AObj} (hst : st.n = n) (hc : layB m st.objs π Bn = true)
    (h:envLe (fun s=>bor st.objs π Bn (st.env s)) env∧F2 ObjLe (π.map (z81 st.objs π Bn)) objs):Reach m st (mkSt n env objs):=by
  obtain ⟨h1,h2⟩:=z176 hc
  obtain ⟨h2,h3⟩:=z176 h2
  exact SealW.reach π Bn hst h1 h2 h3 h.1 h.2
theorem rsL (π Bn:List Nat) {m:Nat} {o:Nat→AObj} {res:AC} {objs' : List AObj} {r:AC} (hc:layB m o π Bn=true) (h:RetS m (z47 (π.map (z81 o π Bn))) res objs' (bor o π Bn r)):RetS m o res objs' r:=by
 obtain ⟨h1,h2⟩:=z176 hc
 obtain ⟨h2,h3⟩:=z176 h2
 exact y14 π Bn h1 h2 h3 h
theorem rsD (π Bn:List Nat) {m:Nat} {o:Nat→AObj} {res:AC} {objs' : List AObj} {r:AC} (hc:layB m o π Bn=true) (h:LocLe (bor o π Bn r) res∧F2 ObjLe (π.map (z81 o π Bn)) objs'):RetS m o res objs' r :=
 rsL π Bn hc (RetS.done h.1 h.2)
end Go.Gl
