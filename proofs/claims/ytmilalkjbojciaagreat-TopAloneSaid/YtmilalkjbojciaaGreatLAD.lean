/- Part AD: what it needs. No condition. -/
import Derived.Test.YtmilalkjbojciaaGreatLAA
import Derived.Test.YtmilalkjbojciaaGreatLAC
import Derived.RecoverIn
import Derived.Test.YtmilalkjbojciaaGreatLAB
set_option maxRecDepth 100000
set_option maxHeartbeats 8000000
open Go.Proofs.Tryz
namespace Go.Proofs.YtmilalkjbojciaaGreat.Sep
section
open Go.RowKit Mem Reg
def Xh(P:Program)(l:List Oper)(Q:Exit→Act→World→Prop)(S S2:World→Prop)(z:Nat):Nat→Array Bool→Act→World→Prop
 |0,listed,a,w=>Region.ready .any l.toArray listed=[]∧Q .normal a w
 |k+1,listed,a,w=>(Region.ready .any l.toArray listed=[]→Q .normal a w) ∧
  ∀i∈Region.ready .any l.toArray listed,wpOp P l.toArray Q i (λa' w'=>(i≠z→S w'∧Xh P l Q S S2 z k (listed.setIfInBounds i true) a' w')∧(i=z→S2 w'∧wpAnyH P .any l.toArray Q S2 k (listed.setIfInBounds i true) a' w')) a w
theorem J9{P:Program}{l:List Oper}{Q:Exit→Act→World→Prop}{S S2:World→Prop}{z:Nat}:∀(k:Nat) (listed:Array Bool) (a:Act) (w:World),Xh P l Q S S2 z k listed a w→wpAny P .any l.toArray Q k listed a w
 |0,_,_,_,h=>h
 |k+1,_,_,_,h=>⟨h.1,λi hi=>wpOp_mono (λa' w' h'=>by
   by_cases hz:i=z
   ·exact wpAny_of_held _ _ _ _ (h'.2 hz).2
   ·exact J9 k _ a' w' (h'.1 hz).2) (h.2 i hi)⟩
theorem GH{P:Program}{l:List Oper}{Q:Exit→Act→World→Prop}{S:World→Prop}{z:Nat}(hz:l.length≤z):∀(k:Nat) (listed:Array Bool) (a:Act) (w:World),Rp P l Q S z k listed a w→wpAnyH P .any l.toArray Q S k listed a w
 |0,_,_,_,h=>h
 |k+1,listed,_,_,h=>⟨h.1,λi hi=>wpOp_mono (λa' w' h'=>by
   have hne:i≠z:=by
    rintro rfl;obtain⟨_,o,ho,_⟩:=mem_ready.1 hi;rw[aCu (by simpa using hz)] at ho;cases ho
   exact⟨(h'.1 hne).1,GH hz k _ a' w' (h'.1 hne).2⟩) (h.2 i hi)⟩
theorem YieldsIf.mono{P:Program}{ops:Array Oper}{S S':World→Prop}{o:Oper}{v:Value}{a:Act}(h:YieldsIf P ops S o v a)(hs:∀u,S' u→S u):YieldsIf P ops S' o v a:=by
 rcases h with⟨h1,h2⟩|h
 ·exact .inl ⟨h1,λu hu=>h2 u (hs u hu)⟩
 ·exact .inr h
theorem DK{P:Program}{l:List Oper}{Q:Exit→Act→World→Prop}{S S2 S3:World→Prop}{z i:Nat}{oi:Oper}{v:Value}(hi:l.toArray[i]?=some oi)(hsel:∀(j:Nat) (o:Oper) cs b,l.toArray[j]?=some o→o.op≠.select cs b)
  (hQ:∀c a w,Q (.panic c) (a.put oi.dst v) w→Q (.panic c) a w) (hs3:∀u,S u→S3 u) (hz:late l z i=true∨∀u,S2 u→S3 u) (hne:i≠z) :
  ∀(k:Nat) (listed:Array Bool) (a:Act) (w:World),kX l listed →
   (∀j oj,l.toArray[j]?=some oj→j≠i→listed.getD j true=false→(∀e∈oj.after,Region.binds .any e=true→e.on≠i)→oi.apart l.toArray oj=true) →
   i∈Region.ready .any l.toArray listed→YieldsIf P l.toArray S3 oi v a→S w →
   Xh P l Q S S2 z k (listed.setIfInBounds i true) (a.put oi.dst v) w→Xh P l Q S S2 z (k+1) listed a w:=by
 intro k
 induction k with
 |zero =>
  intro listed a w _ _ hr hy hS h;refine⟨λh0=>(by rw[h0] at hr;cases hr),λj hj=>?_⟩;by_cases hji:j=i
  ·subst hji;exact(YieldsIf.mono hy hs3).wpOp hi hS ⟨λ_=>⟨hS,h⟩,λe=>absurd e hne⟩
  ·have:=ready_mono hj hji;rw[h.1] at this;cases this
 |succ k ih =>
  intro listed a w hcl hfree hr hy hS h;refine⟨λh0=>(by rw[h0] at hr;cases hr),λj hj=>?_⟩;by_cases hji:j=i
  ·subst hji;exact(YieldsIf.mono hy hs3).wpOp hi hS ⟨λ_=>⟨hS,h⟩,λe=>absurd e hne⟩
  ·have h1:=h.2 j (ready_mono hj hji);obtain⟨hjun,oj,hoj,hall⟩:=mem_ready.1 hj;have hnot:∀e∈oj.after,Region.binds .any e=true→e.on≠i:=λe he hb heq=>by
    have h1:=hall e he hb;have h0:=(mem_ready.1 hr).1;rw[heq] at h1;rcases Nat.lt_or_ge i listed.size with h'|h'
    ·simp[h'] at h0 h1;rw[h0] at h1;cases h1
    ·simp[aCu h'] at h1
   have h2:=wpOp_putIf hoj (hfree j oj hoj hji hjun hnot) (λcs b=>hsel i oi cs b hi) (λcs b=>hsel j oj cs b hoj) hQ hy h1;have hfree':∀m om,l.toArray[m]?=some om→m≠i→(listed.setIfInBounds j true).getD m true=false→(∀e∈om.after,Region.binds .any e=true→e.on≠i)→oi.apart l.toArray om=true:=λm om hm hmi hun hno=>by
    refine hfree m om hm hmi ?_ hno;by_cases hjm:j=m
    ·subst hjm;exact hjun
    ·rw[getD_set_ne true hjm] at hun;exact hun
   refine wpOp_mono (λa' w' h3=>⟨λhjz=>⟨(h3.2.1 hjz).1,ih (listed.setIfInBounds j true) a' w' (hcl.set hj) hfree' (ready_mono hr (aFh hji)) h3.1 (h3.2.1 hjz).1 ?_⟩,λhjz=>?_⟩) h2
   ·rw[aFm _ _ hji];exact(h3.2.1 hjz).2
   ·rcases hz with hz|hz
    ·exact absurd hj (hjz▸GR hz hne hcl hr)
    ·have h4:=h3.2.2 hjz;refine⟨h4.1,wpAnyH_first hi hsel hQ k (listed.setIfInBounds j true) a' w' hfree' (ready_mono hr (aFh hji)) (YieldsIf.mono h3.1 hz) h4.1 ?_⟩;rw[aFm _ _ hji];exact h4.2
section
variable {P:Program} {N:Nat} {E:Env} {F:Nat→Value} {H:List aL} {Q:QF} {z:Nat} {Hk Hk2:List aL}
structure Dt(P:Program)(N:Nat)(E:Env)(z:Nat)(l:List Oper)(Q:QF)(Hk Hk2:List aL)(todo:Td)(F:Nat→Value)(H:List aL):Prop where
 get:∀listed a u,kX l listed→Region.noSelect l.toArray=true→sO l l.length listed todo=true→qX E N F a→St E H u→St E Hk u→Xh P l (lift N E Q) (St E Hk) (St E Hk2) z todo.len listed a u
theorem C.Kp{id:Nat}{l:List Oper}(z:Nat)(todo:Td)(Hk Hk2:List aL)(hm:P.follows .mixedOrders=true)(hchk:(Region.noSelect l.toArray&&Nat.beq todo.len l.length&&sO l l.length (Array.replicate l.length false) todo)=true)(hk:aB E H Hk)(h:Dt P N E z l Q Hk Hk2 todo F H):C P N E (.region id l.toArray true) Q F H:=by
 simp only[aAv] at hchk;obtain⟨⟨h1,h2⟩,h3⟩:=hchk;have h2:=aCz h2;refine⟨λa w ha hw=>?_⟩;have:=h.get _ a w.drew (kX.start l) h1 h3 ha hw.drew (hk _ hw.drew);rw[h2] at this;exact wp_region_any hm (J9 _ _ _ _ (by simpa using this))
theorem Dt.take{i:Nat}{todo:Td}{l:List Oper}{d:Nat}{op:Op}{ty:TypeId}{pos:String}{af:Array Edge}{gd:Option (Nat×Bool)}{v:Value}(hi:nth l i=some ⟨some d,op,ty,pos,af,gd⟩)(hd:d<N)(hne:Nat.beq i z=false)(hg:rE l N F true gd)
  (hy:qB P E Hk (ev F) ⟨some d,op,ty,pos,af,gd⟩ v) (hy2:qB P E Hk2 (ev F) ⟨some d,op,ty,pos,af,gd⟩ v) (h:Dt P N E z l Q Hk Hk2 todo (pT F d v) H):Dt P N E z l Q Hk Hk2 (.one i false todo) F H:=by
 refine⟨λlisted a u hcl hs hc ha hu hk=>?_⟩;simp only[sO,cond_false,aAv] at hc;refine DK (S3:=λu=>St E Hk u∨St E Hk2 u) ((eX l i).symm.trans hi) (aQw hs) (λc a w h=>wT h) (λ_ h=>.inl h) (.inr λ_ h=>.inr h) (by rintro rfl;rw[aFw] at hne;cases hne) _ _ _ _ hcl (Region.free_spec ((eX l i).symm.trans hi) hc.1.1.1.1) (by simpa using hc.1.1.1.2)
  (.inl ⟨hg.wanted (o:=⟨some d,op,ty,pos,af,gd⟩) ha,λu hu=>by rw[ha.eval];exact hu.elim (hy u) (hy2 u)⟩) hk ?_
 exact h.get _ _ u (hcl.set (by simpa using hc.1.1.1.2)) hs hc.2 (ha.put hd v) hu hk
theorem Dt.kL{i:Nat}{todo:Td}{l:List Oper}{d:Nat}{op:Op}{ty:TypeId}{pos:String}{af:Array Edge}{gd:Option (Nat×Bool)}{v:Value}(hi:nth l i=some ⟨some d,op,ty,pos,af,gd⟩)(hd:d<N)(hne:Nat.beq i z=false)(hl:late l z i=true)(hg:rE l N F true gd)
  (hy:qB P E Hk (ev F) ⟨some d,op,ty,pos,af,gd⟩ v) (h:Dt P N E z l Q Hk Hk2 todo (pT F d v) H):Dt P N E z l Q Hk Hk2 (.one i false todo) F H:=by
 refine⟨λlisted a u hcl hs hc ha hu hk=>?_⟩;simp only[sO,cond_false,aAv] at hc;refine DK (S3:=St E Hk) ((eX l i).symm.trans hi) (aQw hs) (λc a w h=>wT h) (λ_ h=>h) (.inl hl) (by rintro rfl;rw[aFw] at hne;cases hne) _ _ _ _ hcl (Region.free_spec ((eX l i).symm.trans hi) hc.1.1.1.1) (by simpa using hc.1.1.1.2)
  (.inl ⟨hg.wanted (o:=⟨some d,op,ty,pos,af,gd⟩) ha,λu hu=>by rw[ha.eval];exact hy u hu⟩) hk ?_
 exact h.get _ _ u (hcl.set (by simpa using hc.1.1.1.2)) hs hc.2 (ha.put hd v) hu hk
theorem Dt.Aw{i:Nat}{todo:Td}{l:List Oper}{d:Option Nat}{op:Op}{ty:TypeId}{pos:String}{af:Array Edge}{gd:Option (Nat×Bool)}{K:Value→List aL→Prop}(hi:nth l i=some ⟨d,op,ty,pos,af,gd⟩)(hd:∀k,d=some k→k<N)(hne:Nat.beq i z=false)(hg:rE l N F true gd)
  (h:gK P N E F H ⟨d,op,ty,pos,af,gd⟩ K) (hk:∀v H',K v H'→aB E H' Hk∧Dt P N E z l Q Hk Hk2 todo (DJ F d v) H'):Dt P N E z l Q Hk Hk2 (.one i true todo) F H:=by
 refine⟨λlisted a u hcl hs hc ha hu hku=>?_⟩;simp only[sO,cond_true,aAv,beq_iff_eq] at hc;have hnz:i≠z:=by rintro rfl;rw[aFw] at hne;cases hne
 refine⟨λh0=>absurd (hc.1▸h0) (by simp),?_⟩;rw[hc.1];intro j hj;obtain rfl:j=i:=by simpa using hj
 have hi':l.toArray[j]?=some _:=(eX l j).symm.trans hi;unfold wpOp;simp only[hi',hg.wanted (o:=⟨d,op,ty,pos,af,gd⟩) ha,if_true];refine .inl (h a u ha hu _ _ ?_);intro v H' u' hA hu';obtain⟨hcv,hdt⟩:=hk v H' hA;refine⟨λ_=>⟨hcv u' hu',hdt.get _ _ u' (hcl.set (by rw[hc.1];simp)) hs hc.2 ?_ hu' (hcv u' hu')⟩,λe=>absurd e hnz⟩;cases d with
 |none=>exact ha
 |some k=>exact ha.put (hd k rfl) v
theorem Dt.We{todo:Td}{l:List Oper}{d:Option Nat}{op:Op}{ty:TypeId}{pos:String}{af:Array Edge}{gd:Option (Nat×Bool)}{K:Value→List aL→Prop}(hi:nth l z=some ⟨d,op,ty,pos,af,gd⟩)(hd:∀k,d=some k→k<N)(hg:rE l N F true gd)
  (h:gK P N E F H ⟨d,op,ty,pos,af,gd⟩ K) (hk:∀v H',K v H'→aB E H' Hk2∧Dr P N E l.length l Q Hk2 todo (DJ F d v) H'):Dt P N E z l Q Hk Hk2 (.one z true todo) F H:=by
 refine⟨λlisted a u hcl hs hc ha hu hku=>?_⟩;simp only[sO,cond_true,aAv,beq_iff_eq] at hc;refine⟨λh0=>absurd (hc.1▸h0) (by simp),?_⟩;rw[hc.1];intro j hj;obtain rfl:j=z:=by simpa using hj
 have hi':l.toArray[j]?=some _:=(eX l j).symm.trans hi;unfold wpOp;simp only[hi',hg.wanted (o:=⟨d,op,ty,pos,af,gd⟩) ha,if_true];refine .inl (h a u ha hu _ _ ?_);intro v H' u' hA hu';obtain⟨hcv,hdr⟩:=hk v H' hA;refine⟨λe=>absurd rfl e,λ_=>⟨hcv u' hu',GH (aAf _) _ _ _ _ (hdr.get _ _ u' (hcl.set (by rw[hc.1];simp)) hs hc.2 ?_ hu' (hcv u' hu'))⟩⟩;cases d with
 |none=>exact ha
 |some k=>exact ha.put (hd k rfl) v
end
section
variable {P:Program} {N:Nat} {E:Env} {Q:QF} {F:Nat→Value} {H R:List aL}
def Z3(v:Value):List PanicEntry:=[{ v,recovered:=false }]
theorem CV{f:FuncId}{fn:Func}{ops:List Operand}{tys:Array TypeId}{Hp:List aL}{vs:List Value}{Q1:Ending→List aL→Prop}{o:Oper}(ho:o.op=.call { callee:=.value (.func f),args:=ops.toArray,argTypes:=tys })(hvs:AO F ops=vs)
  (hfn:P.funcs[f]?=some fn) (hname:(fn.name == "runtime.NumGoroutine")=false) (hbody:fn.body.isNone=false)
  (hp:cS Hp H R) (h:∀M,Sub E R M→aK P M f vs.toArray Hp Q1) {Kw:Act→World→Prop} {Q':Exit→Act→World→Prop} {a:Act} {u:World} (ha:qX E N F a) (hu:St E H u)
  (hr:∀v H' u',Q1 (.returned v) H'→St E (H'++R) u'→Kw (a.put o.dst v) u')
  (hc:∀c H' u',Q1 (.panicked c) H'→St E (H'++R) u'→Q' (.panic c) a u')
  (hno:∀H',¬Q1 .outgrown H'):o.wp P a u Kw Q':=by
 subst hvs;obtain⟨M,hds,hE,hst,hback⟩:=(hu.aV hp).enter;unfold Oper.wp;have hx:(execOp a.eval o).run P u=.ok (.enter f (AO F ops).toArray) u:=by
  have h1:¬fn.name = "runtime.NumGoroutine" := by simpa using hname
  have h2:¬fn.body=none:=by intro h;rw[h] at hbody;cases hbody
  rw[ha.eval,AB];simp[execOp,ho,resolve,ev,Deferred.ofValue,invoke,callFunc,hfn,h1,h2]
 rw[hx];refine(h M hE hds u hst).mono ?_;rintro e w' ⟨H',h3,h4⟩;cases e with
 |returned v=>exact hr v H' w' h4 (hback H' w' h3)
 |panicked c=>exact hc c H' w' h4 (hback H' w' h3)
 |outgrown=>exact(hno H' h4).elim
theorem V.e9{ρ:Operand→Value}{x:Operand}{v:Value}{t:TypeId}{u:World}{o:Oper}(ho:o.op=.makeInterface t x)(hx:ρ x=v)(ht:P.concrete t=true):(execOp ρ o).run P u=.ok (.value (.iface t v)) u:=by
 simp[execOp,ho,hx,run_makeInterface u t v ht]
theorem L.panic{x:Operand}{v:Value}{t:TypeId}{ops rest:List Oper}{d:Option Nat}{ty:TypeId}{pos:String}{af:Array Edge}
  (hx:ev F x=.iface t v) (hq:Q (.panic (Z3 (.iface t v))) (λ_=>undef) H):L P N E ops Q (⟨d,.panic x,ty,pos,af,none⟩::rest) F H:=by
 refine⟨λa w ha hw=>wpList_plain rfl λK hK=>?_⟩;unfold Oper.wp;have hx:(execOp a.eval ⟨d,.panic x,ty,pos,af,none⟩).run P w=.halt (.panic (.iface t v)) w:=by
  rw[ha.eval];simp[execOp,Instr.panic,hx]
 rw[hx];exact⟨ha.defers,H,hw,hq⟩
end
structure xD(P:Program)(N:Nat)(E:Env)(ops:List Oper)(Qw:Exit→Act→World→Prop)(l:List Oper)(F:Nat→Value)(H:List aL):Prop where
 get:∀a w,qX E N F a→St E H w→wpListIn (fz none) 0 P ops.toArray Qw l a w
section
variable {P:Program} {N:Nat} {E:Env} {Q:QF} {Qw:Exit→Act→World→Prop} {F:Nat→Value} {H R:List aL}
theorem WJ.Zd{id:Nat}{ops:List Oper}{y:Code}(h:xD P N E ops (Exit.then (λa w=>y.wpIn (fz none) 0 P Qw a w) Qw) ops F H):WJ P N E (.seq (.region id ops.toArray false) y) Qw F H :=
 ⟨λa w ha hw=>wpIn_seq (wpIn_region_lit (h.get a w ha hw))⟩
theorem xD.nil{ops:List Oper}{y:Code}(h:WJ P N E y Qw F H):xD P N E ops (Exit.then (λa w=>y.wpIn (fz none) 0 P Qw a w) Qw) [] F H:=⟨λa w ha hw=>h.get a w ha hw⟩
theorem xD.Yd{ops rest:List Oper}{d:Nat}{op:Op}{ty:TypeId}{pos:String}{af:Array Edge}{v:Value}(hd:d<N)(hdf:∀c,op≠.defer c)
  (hy:qB P E H (ev F) ⟨some d,op,ty,pos,af,none⟩ v) (h:xD P N E ops Qw rest (pT F d v) H):xD P N E ops Qw (⟨some d,op,ty,pos,af,none⟩::rest) F H:=by
 refine⟨λa w ha hw=>?_⟩;refine wpListIn_plain rfl λK hK=>Cs hdf ?_;unfold Oper.wp;rw[ha.eval,hy w hw];exact hK _ _ (h.get _ w (ha.put hd v) hw)
theorem xD.YV{ops rest:List Oper}{d f:Nat}{xs:List Operand}{vs:List Value}{ty:TypeId}{pos:String}{af:Array Edge}(hd:d<N)(hx:KV F xs vs)
  (h:xD P N E ops Qw rest (pT F d (.func (.func f) #[] vs.toArray)) H):xD P N E ops Qw (⟨some d,.makeFunc (.func f) #[] xs.toArray,ty,pos,af,none⟩::rest) F H :=
 xD.Yd hd (λ_=>by simp) (λu _=>V.Tt rfl rfl hx) h
theorem xD.defer{ops rest:List Oper}{f:Nat}{vs:List Value}{x:Operand}{tys:Array TypeId}{ty:TypeId}{pos:String}{af:Array Edge}(hx:ev F x=.func (.func f) #[] vs.toArray)
  (h:xD P N (E.jU ({ target:=.fn (.func f) vs.toArray,args:=#[] }::E.ds)) ops Qw rest F H):xD P N E ops Qw (⟨none,.defer { callee:=.value x,args:=#[],argTypes:=tys },ty,pos,af,none⟩::rest) F H:=by
 refine⟨λa w ha hw=>?_⟩;refine wpListIn_plain rfl λK hK=>?_;have hr:(execOp a.eval ⟨none,.defer { callee:=.value x,args:=#[],argTypes:=tys },ty,pos,af,none⟩).run P w=.ok (.defer { target:=.fn (.func f) vs.toArray,args:=#[] }) w:=by
  rw[ha.eval];simp[execOp,resolve,hx,Deferred.ofValue]
 refine⟨λ_ _=>trivial,?_⟩;rw[show(fz none).round=none from rfl,Oper.semAt_none,hr,Oper.uponIn_defer];refine hK _ _ (h.get _ w ⟨?_,ha.size,ha.get⟩ hw.jU);show _::a.defers=_::E.ds;rw[ha.defers]
theorem xD.Wx{f:FuncId}{fn:Func}{args:List Operand}{tys:Array TypeId}{Hp:List aL}{Q1:Ending→List aL→Prop}{ops rest:List Oper}{d:Nat}{ty:TypeId}{pos:String}{af:Array Edge}(hd:d<N)
  (hfn:P.funcs[f]?=some fn) (hname:(fn.name == "runtime.NumGoroutine")=false) (hbody:fn.body.isNone=false)
  (hp:cS Hp H R) (h:∀M,Sub E R M→aK P M f (AO F args).toArray Hp Q1) (hno:∀H',¬Q1 .outgrown H')
  (hc:∀c H',Q1 (.panicked c) H'→∀a w,qX E N F a→St E (H'++R) w→Qw (.panic c) a w)
  (hk:∀v H',Q1 (.returned v) H'→xD P N E ops Qw rest (pT F d v) (H'++R)) :
  xD P N E ops Qw (⟨some d,.call { callee:=.value (.func f),args:=args.toArray,argTypes:=tys },ty,pos,af,none⟩::rest) F H:=by
 refine⟨λa w ha hw=>?_⟩;refine wpListIn_plain rfl λK hK=>Cs (λ_=>by simp) ?_;exact CV rfl rfl hfn hname hbody hp h ha hw (λv H' u' hq hu'=>hK _ _ ((hk v H' hq).get _ u' (ha.put hd v) hu')) (λc H' u' hq hu'=>hc c H' hq a u' ha hu') hno
structure Lv(P:Program)(N:Nat)(E:Env)(fn:Func)(W:Ending→List aL→Prop)(ds:List Deferred)(u:FrameMode)(F:Nat→Value)(H:List aL):Prop where
 get:∀a w,qX (E.jU ds) N F a→St (E.jU ds) H w→LeavesIn (fz none) 0 P fn a.tmps (λe w'=>∃H',St E H' w'∧W e H') a.defers u w
def N4(P:Program)(E:Env)(f:FuncId)(args:Array Value)(u:FrameMode)(H:List aL)(R:Ending→FrameMode→List aL→Prop):Prop :=
 E.ds=[]→∀w,St E H w→CallsDIn (fz none) 0 P f args u w λe u' w'=>∃H',St E H' w'∧R e u' H'
theorem Lv.one{fn:Func}{W:Ending→List aL→Prop}{f:Nat}{vs:List Value}{u:FrameMode}{Hp:List aL}{R1:Ending→FrameMode→List aL→Prop}(hu:u≠.run)(hfn:∃g,P.funcs[f]?=some g∧(g.name == "runtime.NumGoroutine")=false∧g.body.isNone=false)
  (hp:cS Hp H R) (h:∀M,Sub E R M→N4 P M f vs.toArray u Hp R1)
  (hk:∀e u' H',R1 e u' H'→(∃v,e=.returned v)∧Go.settle u'=.returning∧gF P E fn W .ret F (H'++R)):Lv P N E fn W [{ target:=.fn (.func f) vs.toArray,args:=#[] }] u F H:=by
 refine⟨λa w ha hw=>?_⟩;obtain⟨g,h1,h2,h3⟩:=hfn;rw[ha.defers];refine leavesIn_cons (f:=f) (args:=vs.toArray) hu (λh=>by cases h) ?_ (λ_ _=>trivial) ?_
 ·have h1':¬g.name = "runtime.NumGoroutine" := by simpa using h2
  have h2':¬g.body=none:=by intro h;rw[h] at h3;cases h3
  simp[invoke,callFunc,h1,h1',h2']
 ·obtain⟨M,hds,hE,hst,hback⟩:=(hw.JC.aV hp).enter;refine(h M hE hds w hst).mono ?_;rintro e u' w' ⟨H',hs,hr⟩;obtain⟨⟨v,rfl⟩,hu',v2,H2,k1,k2,k3⟩:=hk e u' H' hr;have hs2:=hback H' w' hs;show LeavesIn _ _ _ _ _ _ [] (Go.settle u') w';rw[hu'];refine⟨v2,?_,H2,k2 _ hs2,k3⟩;rw[show results fn a.tmps=yC fn F from pV ha];exact k1 _ hs2
theorem Xb{f:FuncId}{fn:Func}{c:Code}{args:Array Value}{W:Ending→List aL→Prop}(hf:P.funcs[f]?=some fn)(hb:fn.body=some c)(hn:fn.ntmps=N)(ha:args.size≤N)
  (h:E.ds=[]→WJ P N E c (bodyPostDIn (fz none) 0 P fn λe w'=>∃H',St E H' w'∧W e H') (Jr args) H):aK P E f args H W:=by
 intro hds w hw;refine qC (n:=0) (callsIn_of_wp_defers hf hb trivial ((h hds).get _ w ?_ hw));refine⟨hds.symm,by simp;omega,λi=>?_⟩;simp only[Jr,Fl,aBb,aEe,aBy,aEo,aDt];split
 ·rfl
 ·rename_i h;rw[aCu o_];split<;>rfl
def Zx(P:Program)(N:Nat)(E:Env)(fn:Func)(W:Ending→List aL→Prop)(ds:List Deferred):QF
 | .normal,F,H | .ret,F,H=>Lv P N E fn W ds .returning F H
 |_,_,_=>False
theorem WJ.l7{fn:Func}{tail:Code}{W:Ending→List aL→Prop}{ds:List Deferred}(h:C P N (E.jU ds) tail (Zx P N E fn W ds) F H) :
  WJ P N (E.jU ds) tail (bodyPostDIn (fz none) 0 P fn λe w'=>∃H',St E H' w'∧W e H') F H:=by
 refine⟨λa w ha hw=>wpIn_mono ((wpIn_wide (n:=0)).2 (h.get a w ha hw)) ?_⟩;intro e a w hq;cases e with
 |normal=>obtain⟨F,H,hr,hs,hp⟩:=hq;exact hp.get a w hr hs
 |ret=>obtain⟨F,H,hr,hs,hp⟩:=hq;exact hp.get a w hr hs
 |exit id=>obtain⟨_,_,_,_,h⟩:=hq;exact h.elim
 |panic c=>obtain⟨_,_,_,h⟩:=hq;exact h.elim
 |_=>exact hq.elim
def asked:FrameMode→Value×FrameMode
 | .panicking ({ v,recovered:=false,goexit:=false }::older)=>(v,.panicking ({ v,recovered:=true }::older))
 |u=>(.nilIface,u)
theorem Ur{f:FuncId}{fn:Func}{id d1 d2:Nat}{ty ty2:TypeId}{pos pos2:String}{af af2:Array Edge}{tys:Array TypeId}{y:Code}{args:Array Value}{u:FrameMode}{W:Ending→List aL→Prop}(hf:P.funcs[f]?=some fn)
  (hb:fn.body=some (.seq (.region id #[⟨some d1,.call { callee:=.builtin .recover,args:=#[],argTypes:=tys },ty,pos,af,none⟩,⟨some d2,.assign (.tmp d1),ty2,pos2,af2,none⟩] false) y)) (hn:fn.ntmps=N) (ha:args.size≤N) (hd1:d1<N) (hd2:d2<N)
  (h:C P N E y (gF P E fn W) (pT (pT (Jr args) d1 (asked u).1) d2 (asked u).1) H):N4 P E f args u H (λe u' H'=>u'=(asked u).2∧W e H'):=by
 intro hds w hw;have hr:qX E N (Jr args) { tmps:=args++Array.replicate (fn.ntmps - args.size) undef,defers:=[] }:=by
  refine⟨hds.symm,by simp;omega,λi=>?_⟩;simp only[Jr,Fl,aBb,aEe,aBy,aEo,aDt];split
  ·rfl
  ·rename_i h;rw[aCu o_];split<;>rfl
 have hr1:=(hr.put hd1 (asked u).1).put hd2 (asked u).1;refine callsDIn_of_wpSIn hf hb trivial λc₀ cs hu=>?_;apply wpSIn_seq;apply wpSIn_region;have key:∀(K:Value→List Frame→Prop),K (asked u).1 ({ c₀ with mode:=(asked u).2 }::cs)→(match recoverD (c₀::cs) with
  |some (v,cs')=>K v cs'
  |none=>K .nilIface (c₀::cs)):=by
  intro K hK;subst hu;have e:recoverD (c₀::cs)=(match c₀.mode with
   | .panicking ({ v,recovered:=false,goexit:=false }::older)=>some (v,{ c₀ with mode:=.panicking ({ v,recovered:=true }::older) }::cs)
   |_=>none):=rfl
  rw[e];unfold asked at hK;split at hK
  ·exact hK
  ·exact hK
 simp only[wpOpsSIn,show(#[(⟨some d1,.call { callee:=.builtin .recover,args:=#[],argTypes:=tys },ty,pos,af,none⟩:Oper),⟨some d2,.assign (.tmp d1),ty2,pos2,af2,none⟩]).size=2 from rfl,show List.range 2=[0,1] from rfl];simp[go_sem,execOp];have hlt:d1<args.size+(fn.ntmps - args.size):=o_;simp only[hlt,if_true];refine key (λv cs'=>Code.wpSIn (fz none) 0 P y (bodyPostS P fn c₀ cs λe u' w'=>∃H',St E H' w'∧u'=(asked u).2∧W e H')
  { tmps:=((args++Array.replicate (fn.ntmps - args.size) undef).setIfInBounds d1 v).setIfInBounds d2 v,defers:=[] } cs' w) ?_
 refine wpSIn_of_wpIn rfl ((wpIn_wide (n:=0)).2 (wp_mono (h.get _ w hr1 hw) ?_));intro e a' w' hq;cases e with
 |normal=>obtain⟨F',H',k1,k2,v,H1,k3,k4,k5⟩:=hq;exact⟨k1.defers.trans hds,_,rfl,v,by rw[pV k1];exact k3 _ k2,H1,k4 _ k2,rfl,k5⟩
 |ret=>obtain⟨F',H',k1,k2,v,H1,k3,k4,k5⟩:=hq;exact⟨k1.defers.trans hds,_,rfl,v,by rw[pV k1];exact k3 _ k2,H1,k4 _ k2,rfl,k5⟩
 |exit id=>obtain⟨_,_,_,_,h⟩:=hq;exact h.elim
 |panic c=>obtain⟨k1,H',k2,k3⟩:=hq;exact⟨k1.trans hds,_,rfl,H',k2,rfl,k3⟩
 |_=>exact hq.elim
end
end
section
structure O8 where
 a0:Int
 a1:Int
 a2:Int
 a3:Int
 a4:Int
 a5:Int
 a6:Int
 a7:Int
def O8.get(x:O8)(i:Int):Int:=if i=0 then x.a0 else if i=1 then x.a1 else if i=2 then x.a2 else if i=3 then x.a3 else if i=4 then x.a4 else if i=5 then x.a5 else if i=6 then x.a6 else x.a7
def O8.set(x:O8)(i v:Int):O8:=if i=0 then { x with a0:=v } else if i=1 then { x with a1:=v } else if i=2 then { x with a2:=v } else if i=3 then { x with a3:=v } else if i=4 then { x with a4:=v } else if i=5 then { x with a5:=v } else if i=6 then { x with a6:=v } else { x with a7:=v }
theorem O8.gs(x:O8):x.get 0=x.a0∧x.get 1=x.a1∧x.get 2=x.a2∧x.get 3=x.a3∧x.get 4=x.a4∧x.get 5=x.a5∧x.get 6=x.a6∧x.get 7=x.a7:=⟨rfl,rfl,rfl,rfl,rfl,rfl,rfl,rfl⟩
theorem O8.ss(x:O8)(v:Int):x.set 0 v=⟨v,x.a1,x.a2,x.a3,x.a4,x.a5,x.a6,x.a7⟩∧x.set 1 v=⟨x.a0,v,x.a2,x.a3,x.a4,x.a5,x.a6,x.a7⟩∧x.set 2 v=⟨x.a0,x.a1,v,x.a3,x.a4,x.a5,x.a6,x.a7⟩∧x.set 3 v=⟨x.a0,x.a1,x.a2,v,x.a4,x.a5,x.a6,x.a7⟩∧x.set 4 v=⟨x.a0,x.a1,x.a2,x.a3,v,x.a5,x.a6,x.a7⟩∧x.set 5 v=⟨x.a0,x.a1,x.a2,x.a3,x.a4,v,x.a6,x.a7⟩∧x.set 6 v=⟨x.a0,x.a1,x.a2,x.a3,x.a4,x.a5,v,x.a7⟩∧x.set 7 v=⟨x.a0,x.a1,x.a2,x.a3,x.a4,x.a5,x.a6,v⟩:=⟨rfl,rfl,rfl,rfl,rfl,rfl,rfl,rfl⟩
def O8.BH(x:O8)(hi:Int):Prop:=(0≤x.a0∧x.a0≤hi)∧(0≤x.a1∧x.a1≤hi)∧(0≤x.a2∧x.a2≤hi)∧(0≤x.a3∧x.a3≤hi)∧(0≤x.a4∧x.a4≤hi)∧(0≤x.a5∧x.a5≤hi)∧(0≤x.a6∧x.a6≤hi)∧(0≤x.a7∧x.a7≤hi)
theorem oV{i:Int}(h:0≤i∧i≤7):i=0∨i=1∨i=2∨i=3∨i=4∨i=5∨i=6∨i=7:=o_
abbrev Y7:O8:=⟨0,0,0,0,0,0,0,0⟩
structure Bk where
 fP:O8
 mO:O8
 eO:O8
 aH:List dD
abbrev sY:Bk:=⟨Y7,Y7,Y7,[]⟩
def Bk.ok(b:Bk):Prop:=b.fP.BH 1099511627776∧b.mO.BH 1073741824∧b.eO.BH 1099511627776
abbrev Bk.cs(b:Bk)(A:Option Addr)(n c:Nat):List Value:=[.int .i64 b.fP.a0,.int .i64 b.fP.a1,.int .i64 b.fP.a2,.int .i64 b.fP.a3,.int .i64 b.fP.a4,.int .i64 b.fP.a5,.int .i64 b.fP.a6,.int .i64 b.fP.a7,.int .i64 b.mO.a0,.int .i64 b.mO.a1,.int .i64 b.mO.a2,.int .i64 b.mO.a3,.int .i64 b.mO.a4,.int .i64 b.mO.a5,.int .i64 b.mO.a6,.int .i64 b.mO.a7,.int .i64 b.eO.a0,.int .i64 b.eO.a1,.int .i64 b.eO.a2,.int .i64 b.eO.a3,.int .i64 b.eO.a4,.int .i64 b.eO.a5,.int .i64 b.eO.a6,.int .i64 b.eO.a7,.slice A n c]
def eight(i:Int):Bool:=decide (0≤i∧i≤7)
def nF(b:Bk)(i n:Int):Bk×Int:=if (0≤i∧i≤7)∧0≤n∧n≤1099511627776 then(if b.fP.get i+n≤1099511627776 then({ b with fP:=b.fP.set i (b.fP.get i+n) },0) else(sY,7)) else(sY,4)
def jB(b:Bk)(i n:Int):Bk×Int:=if (0≤i∧i≤7)∧0≤n∧n≤1099511627776 then(if b.fP.get i<n then(sY,11) else({ b with fP:=b.fP.set i (b.fP.get i - n) },0)) else(sY,4)
def Aj(b:Bk)(i n:Int):Bool:=decide ((jB b i n).2=0)
def mF(b:Bk)(i n:Int):Bk×Int:=if (0≤i∧i≤7)∧0≤n∧n≤1073741824 then({ b with mO:=b.mO.set i n },0) else(sY,4)
def mY(b:Bk)(i n:Int):Int×Int:=if (0≤i∧i≤7)∧0≤n∧n≤1099511627776 then(if n*b.mO.get i≤1099511627776 then(n*b.mO.get i,0) else(0,7)) else(0,4)
def jT(b:Bk)(i n:Int):Bk×Int:=if (0≤i∧i≤7)∧0≤n∧n≤1099511627776 then(if b.eO.get i+n≤1099511627776 then({ b with eO:=b.eO.set i (b.eO.get i+n) },0) else(sY,7)) else(sY,4)
def sN(b:Bk)(i n:Int):Bk×Int:=if (0≤i∧i≤7)∧0≤n∧n≤1099511627776 then(if b.eO.get i<n then(sY,11) else({ b with eO:=b.eO.set i (b.eO.get i - n) },0)) else(sY,4)
def zS(a b:bJ):Bool:=decide (a.seq<b.seq∨a.seq=b.seq∧a.rep<b.rep)
def fA(b:Bk)(a:bJ):Int:=place (λo=>decide (o.id=a)) b.aH
def lK(b:Bk)(o:dD):Bk:=if 0≤fA b o.id then { b with aH:=b.aH.set (fA b o.id).toNat o }
 else { b with aH:=b.aH.take (behind (λx=>zS x.id o.id) b.aH)++[o]++b.aH.drop (behind (λx=>zS x.id o.id) b.aH) }
def wH(b:Bk)(o:dD):Bk×Int:=if 0≤fA b o.id then(sY,9) else if 32≤b.aH.length then(sY,3) else(lK b o,0)
def vL(b:Bk)(a:bJ):Option dD:=if 0≤fA b a then b.aH[(fA b a).toNat]? else none
abbrev UR:dD:=⟨⟨0,0⟩,0,0,0,0,0⟩
def FT(b:Bk)(a:bJ)(st:List Int):dD×Int:=match vL b a with
 |none=>(UR,14)
 |some o=>if st.contains o.state then(o,0) else(UR,9)
structure Wk where
 b:Bk
 out:List cQ
 ref:bJ
abbrev Wr:=Except Int Wk
def Wk.iQ(w:Wk)(r:Bk×Int):Wr:=if r.2=0 then .ok { w with b:=r.1 } else .error r.2
def Wk.tell(w:Wk)(kind a n:Int):Wk:={ w with out:=w.out++[⟨kind,a,n,w.ref⟩] }
def Wk.put(w:Wk)(o:dD)(st:Int):Wk:={ w with b:=lK w.b { o with state:=st } }
def Wk.order(w:Wk)(a:bJ)(st:List Int):Except Int (Wk×dD):=if (FT w.b a st).2=0 then .ok ({ w with ref:=a },(FT w.b a st).1) else .error (FT w.b a st).2
def C9(p:Bool)(k:Int)(r:Wr):Wr:=if p then r else .error k
def oI(b:Bk)(c:aX):Int:=if !Aj b c.b c.n&&decide (c.ref.seq=1)&&Aj b c.ref.rep c.n then c.ref.rep else c.b
def Wk.place(w:Wk)(c:aX):Wr:=C9 (eight c.a&&eight c.b&&decide (1≤c.n∧c.n≤1000)) 4 do
 let w1 ←w.iQ (wH w.b ⟨c.id,c.a,oI w.b c,c.n,0,1⟩)
 let w2 ←w1.iQ (jB w1.b (oI w.b c) c.n)
 return ({ w2 with ref:=c.id }.tell 1 (oI w.b c) c.n).tell 7 c.a 1
def Wk.J6(w:Wk)(c:aX):Wr:=C9 (decide (1≤c.n∧c.n≤1000)) 4 do
 let (w1,o) ←w.order c.ref [1]
 let w2 ←if 0≤c.n - o.iN then w1.iQ (jB w1.b o.item (c.n - o.iN)) else w1.iQ (nF w1.b o.item (o.iN - c.n))
 return (w2.put { o with iN:=c.n } 1).tell 2 o.item c.n
def Wk.cancel(w:Wk)(c:aX):Wr:=do
 let (w1,o) ←w.order c.ref [1,2]
 let w2 ←w1.iQ (nF w1.b o.item o.iN)
 let w3:=w2.tell 3 o.item o.iN
 let w4 ←if o.state=2 then(do let x ←w3.iQ (jT w3.b o.cC o.cost);return x.tell 10 o.cC o.cost) else .ok w3
 return (w4.put o 4).tell 7 o.cC 2
def Wk.Y2(w:Wk)(c:aX):Wr:=do
 let (w1,o) ←w.order c.ref [1]
 if (mY w1.b o.item o.iN).2≠0 then .error (mY w1.b o.item o.iN).2 else
 let k:=(mY w1.b o.item o.iN).1
 let w2 ←w1.iQ (sN w1.b o.cC k)
 return ((w2.put { o with cost:=k } 2).tell 4 o.cC k).tell 9 o.cC k
def Wk.Qn(w:Wk)(c:aX):Wr:=do
 let (w1,o) ←w.order c.ref [2]
 return ((((w1.put o 3).tell 5 o.item o.iN).tell 6 o.item o.iN).tell 11 o.item o.iN).tell 7 o.cC 3
def Wk.Er(w:Wk)(c:aX):Wr:=do
 let (w1,o) ←w.order c.ref [3]
 let w2 ←w1.iQ (jT w1.b o.cC o.cost)
 return (w2.put o 5).tell 10 o.cC o.cost
def Wk.do(w:Wk)(c:aX):Wr :=
 if c.kind=1 then C9 (decide (1≤c.n)) 4 (w.iQ (nF w.b c.a c.n))
 else if c.kind=2 then C9 (decide (1≤c.n)) 4 (do let x ←w.iQ (jT w.b c.a c.n);return x.tell 8 c.a c.n)
 else if c.kind=3 then w.place c
 else if c.kind=4 then w.J6 c
 else if c.kind=5 then w.cancel c
 else if c.kind=6 then w.Y2 c
 else if c.kind=7 then w.Qn c
 else if c.kind=8 then w.Er c
 else if c.kind=9 then w.iQ (mF w.b c.a c.n)
 else .error 12
structure Out where
 code:Int
 zM:List cQ
def C0(b:Bk)(c:aX):Bk×Out:=match Wk.do ⟨b,[],⟨0,0⟩⟩ c with
 | .ok w=>(w.b,⟨0,w.out⟩)
 | .error k=>(b,⟨k,[]⟩)
def gH(b:Bk):List aX→Bk×List Out
 | []=>(b,[])
 |c::l=>((gH (C0 b c).1 l).1,(C0 b c).2::(gH (C0 b c).1 l).2)
end
section
open Go.RowKit Reg
open Mem hiding Rd
def small(n:Int):Bool:=decide (0≤n∧n≤255)
theorem MF:Rec prog 90 [.int .i64 0,.int .i64 0,.int .i64 0,.slice none 0 0] [(0,2),(2,1),(3,1)]:=⟨q_,q_⟩
instance aPp:cL 90 [.int .i64 0,.int .i64 0,.int .i64 0,.slice none 0 0] [(0,2),(2,1),(3,1)]:=⟨MF⟩
section
variable {α:Type} {T:Ty α} {P:Program} {N:Nat} {E:Env} {F:Nat→Value} {ρ:Operand→Value} {H H' R:List aL} {o:Oper} {A:Option Addr} {n c k:Nat} {l:List α} {cs cs':List Value}
def D7(T:Ty α)(A:Option Addr)(n c:Nat)(l:List α)(k:Nat)(cs:List Value):aL where
 holds F w:=n=l.length∧k<n∧n≤c∧c≤maxLen∧cs.length=T.size∧∃g cur,A=some ⟨g,0,none⟩∧(∀b,F b↔b=g)∧w.heap[g]?=some (.cells cur T.tid (0,0))∧cur.size=c*T.size∧cur.toList.take (n*T.size)=T.bT (l.take k)++cs++T.bT (l.drop (k+1))
 loc:=by
  rintro F w w' ⟨h0,h1,h2,h3,h4,g,cur,h5,h6,h7,h8⟩ hk;exact⟨h0,h1,h2,h3,h4,g,cur,h5,h6,(hk _ ((h6 _).2 rfl)).trans h7,h8⟩
 lt:=by
  rintro F w b ⟨h0,h1,h2,h3,h4,g,cur,h5,h6,h7,h8⟩ hb;rw[(h6 _).1 hb];exact(aBv.1 h7).1
theorem IM{e:α}(he:l[k]?=some e):T.bT l=T.bT (l.take k)++T.enc e++T.bT (l.drop (k+1)):=by
 obtain⟨hk,rfl⟩:=aAd.1 he;rw[aAb,←T.eW,←aAm hk,←T.iU,aAx]
theorem aB.D7{e:α}(he:l[k]?=some e)(hr:dT (own T A n c l) [Sep.D7 T A n c l k (T.enc e)] H H'):aB E H H':=λw hw =>
 hw.jX hr rfl rfl rfl (aAf _) (G:=λ_=>False) (λ_ _ _=>rfl) λF1 h1=>by
  have hk:=(aAd.1 he).1;obtain⟨h0,⟨h2,_⟩|⟨g,cur,h2,h3,h4,h5,h6,h7,h8⟩⟩:=h1
  ·omega
  ·exact⟨F1,⟨F1,λ_=>False,λb=>by simp,λ_ _ h=>h,⟨h0,by omega,h5,h6,T.dR e,g,cur,h2,h3,h4,h7,by rw[h8];exact IM he⟩,λ_ h=>h⟩,λb hb=>.inl hb,λb _ hb=>hb.elim⟩
theorem aB.YT{e:α}{l':List α}(hl:l.set k e=l')(hr:dT (Sep.D7 T A n c l k (T.enc e)) [own T A n c l'] H H'):aB E H H':=λw hw =>
 hw.jX hr rfl rfl rfl (aAf _) (G:=λ_=>False) (λ_ _ _=>rfl) λF1 h1=>by
  subst hl;obtain⟨h0,h1,h2,h3,h4,g,cur,h5,h6,h7,h8,h9⟩:=h1;refine⟨F1,⟨F1,λ_=>False,λb=>by simp,λ_ _ h=>h,⟨by rw[aAt];exact h0,.inr ⟨g,cur,h5,h6,h7,h2,h3,h8,?_⟩⟩,λ_ h=>h⟩,λb hb=>.inl hb,λb _ hb=>hb.elim⟩;rw[h9,T.Bo o_,T.nX,T.gD]
theorem Cells.D7(h:Has (Sep.D7 T A n c l k cs) H R){q:Nat}(hq:q=k*T.size):Cells E H ((ad A).add q) cs:=by
 subst hq;intro w hw j u hu;obtain⟨F0,h1,_⟩:=hw.has h;obtain⟨h0,h1,h2,h3,h4,g,cur,rfl,h6,h7,h8,h9⟩:=h1;have hj:=(aAd.1 hu).1;show w.cell? (((⟨g,0,none⟩:Addr).add (k*T.size)).add j)=_;rw[fB,fB,aCa,cell_of_row _ _ _ _ _ _ h7];have hlen:(T.bT (l.take k)).length=k*T.size:=by rw[T.bM,aAg,aBr o_]
 have hkn:(k+1)*T.size≤n*T.size:=aBa _ h1;rw[aDb,aDq] at hkn;have e1:(cur.toList.take (n*T.size))[k*T.size+j]?=some u:=by
  rw[h9,aAb,aBc o_,hlen,aEw,aBp hj,hu]
 rw[aEd] at e1;split at e1
 ·simpa using e1
 ·cases e1
theorem Cell.D7(h:Has (Sep.D7 T A n c l k cs) H R){q j:Nat}(hq:q=k*T.size){v:Value}(hv:cs[j]?=some v):Cell E H (((ad A).add q).add j) v:=λw hw=>Cells.D7 h hq w hw j v hv
theorem Y.Xx{t:TypeId}{x:Operand}{q j:Nat}{v:Value}{d:TypeDesc}(ho:o.op=.load t x)(hx:ρ x=.pointer (some (((ad A).add q).add j)))(ht:P.underlying t=some d)(hd:lT d=false)(h:Has (Sep.D7 T A n c l k cs) H R)(hq:q=k*T.size)(hv:cs[j]?=some v):qB P E H ρ o v :=
 Y.load ho hx ht hd (Cell.D7 h hq hv)
theorem Y.Ue{t:TypeId}{x:Operand}{q j m:Nat}{vs:List Value}{d:TypeDesc}{ti:TypeInfo}(ho:o.op=.load t x)(hx:ρ x=.pointer (some (((ad A).add q).add j)))(ht:P.underlying t=some d)(hd:lT d=true)(hi:P.info? t=some ti)(hm:ti.size=m)
  (h:Has (Sep.D7 T A n c l k cs) H R) (hq:q=k*T.size) (hs:Fm cs j m vs):qB P E H ρ o (.agg vs.toArray) :=
 Y.xE ho hx ht hd hi (hm.trans hs.eq.1.symm) λw hw i u hu=>by
  rw[jI];exact Cells.D7 h hq w hw (j+i) u (hs.eq.2 i u hu)
theorem S.TA{t:TypeId}{x y:Operand}{q j:Nat}{v:Value}{ti:TypeInfo}(ho:o.op=.store t x y)(hx:ev F x=.pointer (some (((ad A).add q).add j)))(hy:ev F y=v)(h1:v.oneCell'=true)(hi:prog.info? t=some ti)(hs:ti.size=1)(hq:q=k*T.size)
  (hr:dT (Sep.D7 T A n c l k cs) [Sep.D7 T A n c l k cs'] H H') (hj:j<cs.length) (hcs:cs.set j v=cs'):gK prog N E F H o λr H1=>r=undef∧H1=H':=by
 subst hcs hq;intro a u ha hu Kw Q' hK;obtain⟨R,hhas,F0,h0⟩:=hu.xO hr;obtain⟨k0,k1,k2,k3,k4,g,cur,rfl,k6,k7,k8,k9⟩:=h0;have hcv:v.cells=#[v]:=by cases v<;>first|rfl|cases h1
 have hlen:(T.bT (l.take k)).length=k*T.size:=by rw[T.bM,aAg,aBr o_]
 have hkn:(k+1)*T.size≤n*T.size:=aBa _ k1;have hnc:n*T.size≤c*T.size:=aBa _ k2;rw[aDb,aDq] at hkn;have e0:((ad (some ⟨g,0,none⟩)).add (k*T.size)).add j=⟨g,k*T.size+j,none⟩:=by show((⟨g,0,none⟩:Addr).add _).add _=_;rw[fB,fB,aCa]
 have hst:=run_storeVar_row (P:=prog) (u:=u) (v:=v) (q:=k*T.size+j) hi (by rw[hcv,hs];rfl) (by rw[hcv];intro x hx;simp at hx;subst hx;exact h1) k7 (by rw[hcv];simp;omega);unfold Oper.wp;rw[ha.eval];have hrun:(execOp (ev F) o).run prog u=.ok .skip (u.setRow g (cur.toList.take (k*T.size+j)++v.cells.toList++cur.toList.drop (k*T.size+j+v.cells.size)).toArray):=by
  simp only[execOp,ho,hx,hy,Instr.storeAt,Instr.sureAddr,e0,aAy,aCc,aAr,hst]
 rw[hrun];refine hK undef _ _ ⟨rfl,rfl⟩ (St.setRow hu hr g _ λF1 j1=>?_);obtain⟨m0,m1,m2,m3,m4,g',cur',m5,m6,m7,m8,m9⟩:=j1;injection m5 with m5;injection m5 with m5 _;subst m5
 rw[k7] at m7;injection m7 with m7;injection m7 with m7 _ _
 subst m7;have hset:cur.toList.take (k*T.size+j)++v.cells.toList++cur.toList.drop (k*T.size+j+v.cells.size)=cur.toList.set (k*T.size+j) v:=by
  rw[hcv,aDg,if_pos (by simp;omega)];simp
 refine⟨(m6 _).2 rfl,m0,m1,m2,m3,by rw[aAt];exact m4,g,_,rfl,m6,setRow_heap u g _ _ _ _ k7,?_,?_⟩
 ·rw[hset];simp;exact k8
 ·rw[hset];show(cur.toList.set (k*T.size+j) v).take (n*T.size)=_;rw[List.take_set,k9,aAb,List.set_append_right _ _ o_,hlen,aEw,List.set_append_left _ _ o_,aAb]
theorem aB.NJ{e:α}(he:l[k]?=some e)(hcs:T.enc e=cs)(hr:dT (own T A n c l) [Sep.D7 T A n c l k cs] H H'):aB E H H':=by subst hcs;exact aB.D7 he hr
theorem aB.V9{e:α}{l':List α}(hcs:T.enc e=cs)(hl:l.set k e=l')(hr:dT (Sep.D7 T A n c l k cs) [own T A n c l'] H H'):aB E H H':=by subst hcs;exact aB.YT hl hr
theorem S.Ia{t:TypeId}{x y:Operand}{q:Nat}{vs:List Value}{ti:TypeInfo}(ho:o.op=.store t x y)(hx:ev F x=.pointer (some ((ad A).add q)))(hy:ev F y=.agg vs.toArray)(h1:vs.all Value.oneCell'=true)(hi:prog.info? t=some ti)(hs:vs.length=ti.size)(hq:q=k*T.size)
  (hr:dT (Sep.D7 T A n c l k cs) [Sep.D7 T A n c l k cs'] H H') (hj:vs.length≤cs.length) (hcs:vs++cs.drop vs.length=cs'):gK prog N E F H o λr H1=>r=undef∧H1=H':=by
 subst hcs hq;intro a u ha hu Kw Q' hK;obtain⟨R,hhas,F0,h0⟩:=hu.xO hr;obtain⟨k0,k1,k2,k3,k4,g,cur,rfl,k6,k7,k8,k9⟩:=h0;have hcv:(Value.agg vs.toArray).cells.toList=vs:=by simp[Value.cells]
 have hcz:(Value.agg vs.toArray).cells.size=vs.length:=by simp[Value.cells]
 have hlen:(T.bT (l.take k)).length=k*T.size:=by rw[T.bM,aAg,aBr o_]
 have hkn:(k+1)*T.size≤n*T.size:=aBa _ k1;have hnc:n*T.size≤c*T.size:=aBa _ k2;rw[aDb,aDq] at hkn;have e0:(ad (some ⟨g,0,none⟩)).add (k*T.size)=⟨g,k*T.size,none⟩:=by show(⟨g,0,none⟩:Addr).add _=_;rw[fB,aCa]
 have hst:=run_storeVar_row (P:=prog) (u:=u) (v:=.agg vs.toArray) (q:=k*T.size) hi (by rw[hcz,hs]) (by rw[hcv];exact aDm.1 h1) k7 (by rw[hcz];omega);rw[hcv,hcz] at hst;unfold Oper.wp;rw[ha.eval];have hrun:(execOp (ev F) o).run prog u=.ok .skip (u.setRow g (cur.toList.take (k*T.size)++vs++cur.toList.drop (k*T.size+vs.length)).toArray):=by
  simp only[execOp,ho,hx,hy,Instr.storeAt,Instr.sureAddr,e0,aAy,aCc,aAr,hst]
 rw[hrun];refine hK undef _ _ ⟨rfl,rfl⟩ (St.setRow hu hr g _ λF1 j1=>?_);obtain⟨m0,m1,m2,m3,m4,g',cur',m5,m6,m7,m8,m9⟩:=j1;injection m5 with m5;injection m5 with m5 _;subst m5
 rw[k7] at m7;injection m7 with m7;injection m7 with m7 _ _
 subst m7;refine⟨(m6 _).2 rfl,m0,m1,m2,m3,by simp;omega,g,_,rfl,m6,setRow_heap u g _ _ _ _ k7,?_,?_⟩
 ·simp;omega
 ·show(cur.toList.take (k*T.size)++vs++cur.toList.drop (k*T.size+vs.length)).take (n*T.size)=_;have hp:cur.toList.take (k*T.size)=T.bT (l.take k):=by
   have:=congrArg (List.take (k*T.size)) k9;rw[aEn,aBr o_,aAb,aBj hlen] at this;exact this
  have hd:(cur.toList.take (n*T.size)).drop (k*T.size+vs.length)=cs.drop vs.length++T.bT (l.drop (k+1)):=by
   rw[k9,aAb,←aBt,aBu hlen,aFa hj]
  have hcl:(cur.toList.take (k*T.size)++vs).length=k*T.size+vs.length:=by rw[aAe,hp,hlen]
  rw[aEt,hcl,aAj o_,←List.drop_take,hd,hp];simp
end
section
variable {E:Env} {X:Type} {f:X→aL} {l:List X} {H R:List aL}
theorem aB.swap{i:Nat}{x x':X}(hx:l[i]?=some x)(hp:cS [f x',aO f l] H R):aB E H (aO f (l.set i x')::R):=by
 have hi:=(aAd.1 hx).1;have h1:aB E H (f x'::aO f l::R):=λw hw=>hw.aV hp;have h2:aB E (f x'::aO f l::R) (f x::aO f (l.eraseIdx i)::f x'::R):=aB.out (f:=f) (l:=l) (Has.aM Has.aN) hx;have h3:aB E (f x::aO f (l.eraseIdx i)::f x'::R) (aO f (l.set i x')::f x::R):=aB.BH (f:=f) (l:=l.eraseIdx i) (i:=i) (x:=x') (.cons (.aM (.aM .aN)) (.cons (.aM .aN) .nil)) (uO hi);have h4:aB E (aO f (l.set i x')::f x::R) (aO f (l.set i x')::R):=λw hw=>(hw.aV (l:=[f x]) (.cons (.aM .aN) .nil)).right;exact h1.trans (h2.trans (h3.trans h4))
end
section
variable {P:Program} {N z:Nat} {E:Env} {Q:QF} {F:Nat→Value} {H:List aL}
theorem zL.val{i:Nat}{todo:Td}{l:List Oper}{Hk:List aL}{d:Nat}{op:Op}{ty:TypeId}{pos:String}{af:Array Edge}{gd:Option (Nat×Bool)}{v:Value}(hi:nth l i=some ⟨some d,op,ty,pos,af,gd⟩)(hd:d<N)(hg:rE l N F true gd)
  (hy:qB P E H (ev F) ⟨some d,op,ty,pos,af,gd⟩ v) (hc:aB E H Hk) (h:Dr P N E z l Q Hk todo (pT F d v) H):zL P N E z l Q Hk i todo F H :=
 zL.go hi (by rintro k ⟨⟩;exact hd) hg (gK.Yd hy ⟨hc,h⟩)
theorem Dr.val{i:Nat}{todo:Td}{l:List Oper}{Hk:List aL}{d:Nat}{op:Op}{ty:TypeId}{pos:String}{af:Array Edge}{gd:Option (Nat×Bool)}{v:Value}(hi:nth l i=some ⟨some d,op,ty,pos,af,gd⟩)(hd:d<N)(hg:rE l N F true gd)
  (hy:qB P E H (ev F) ⟨some d,op,ty,pos,af,gd⟩ v) (hc:aB E H Hk) (h:Dr P N E z l Q Hk todo (pT F d v) H):Dr P N E z l Q Hk (.one i true todo) F H :=
 Dr.all (zL.val hi hd hg hy hc h)
theorem zL.Iq{todo:Td}{l:List Oper}{Hk:List aL}{d:Option Nat}{op:Op}{ty:TypeId}{pos:String}{af:Array Edge}{gd:Option (Nat×Bool)}{K:Value→List aL→Prop}(hi:nth l z=some ⟨d,op,ty,pos,af,gd⟩)(hd:∀k,d=some k→k<N)(hg:rE l N F true gd)
  (h:gK P N E F H ⟨d,op,ty,pos,af,gd⟩ K) (hk:∀v H',K v H'→FU P N E z l Q todo (DJ F d v) H'):zL P N E z l Q Hk z todo F H:=by
 refine⟨λlisted a u hcl hs hc ha hu hk2=>?_⟩;have hi':l.toArray[z]?=some _:=(eX l z).symm.trans hi;unfold wpOp;simp only[hi',hg.wanted (o:=⟨d,op,ty,pos,af,gd⟩) ha,if_true];refine .inl (h a u ha hu _ _ ?_);intro v H' u' hA hu';refine⟨λhz=>absurd rfl hz,λ_=>(hk v H' hA).get _ _ u' hc ?_ hu'⟩;cases d with
 |none=>exact ha
 |some k=>exact ha.put (hd k rfl) v
end
theorem XU{a b:List Value}(h:a=b:=by first|(conv=>lhs;simp only[aAs,aDh,List.drop_succ_cons,aCh,List.drop_nil,aCj,aBq,Nat.reduceAdd])|rfl):a=b:=h
theorem V8{P:Program}{E:Env}{H:List aL}{ρ:Operand→Value}{o:Oper}{v:Value}(h:qB P E H ρ o v:=by first|(apply Y.Xx;exact rfl;exact rfl;exact rfl;exact rfl;exact aS;exact rfl;exact rfl)|(apply Y.loadE0;exact rfl;exact rfl;exact rfl;exact rfl;exact aS;exact rfl;exact rfl)|(apply Y.Ue;exact rfl;exact rfl;exact rfl;exact rfl;exact rfl;exact rfl;exact aS;exact rfl;exact K6)|(apply Y.loadEA0;exact rfl;exact rfl;exact rfl;exact rfl;exact rfl;exact rfl;exact aS;exact rfl;exact K6)):qB P E H ρ o v:=h
theorem Y3{P:Program}{E:Env}{H:List aL}{ρ:Operand→Value}{o:Oper}{v:Value}(h:qB P E H ρ o v:=by first|exact Cw|exact V8|fail):qB P E H ρ o v:=h
theorem Vr{P:Program}{N:Nat}{E:Env}{F:Nat→Value}{H:List aL}{o:Oper}{K:Value→List aL→Prop}(h:gK P N E F H o K:=by first|exact Sy|(apply S.TA;exact rfl;exact rfl;exact eS;exact rfl;exact rfl;exact rfl;exact rfl;exact dH;exact Y4;exact TT)|(apply S.Ia;exact rfl;exact rfl;exact eS;exact rfl;exact rfl;exact rfl;exact rfl;exact dH;exact Y4;exact XU)):gK P N E F H o K:=h
theorem XH{p q:Prop}(hq:q)(h:wA q→p:=by intro h;first|exact Cx h.out|(apply L.val;decide;exact V8;exact h.out)|(apply FU.take;exact rfl;decide;exact bA;exact V8;exact h.out)|(apply Dr.take;exact rfl;decide;exact bA;exact V8;exact h.out)|(apply zL.val;exact rfl;decide;exact bA;exact Y3;exact aA;exact h.out)|(apply Dr.val;exact rfl;decide;exact bA;exact Y3;exact aA;exact h.out)):p:=h ⟨hq⟩
theorem Z1{p q:Prop}(hq:q)(h:wA q→p:=by intro h;first|(apply L.fQ;decide;exact Vr;(first|exact x0 h.out|exact x1 h.out|exact x2 h.out))|(apply L.pX;exact Vr;(first|exact x0 h.out|exact x1 h.out|exact x2 h.out))|(apply Dr.WZ;exact rfl;(· rintro k ⟨⟩<;>decide);exact bA;exact Vr;(first|exact x0 h.out|exact x1 h.out|exact x2 h.out))|(apply Dr.Iq;exact rfl;(· rintro k ⟨⟩<;>decide);exact bA;exact Vr;(first|exact x0 h.out|exact x1 h.out|exact x2 h.out))|(apply zL.Iq;exact rfl;(· rintro k ⟨⟩<;>decide);exact bA;exact Vr;(first|exact x0 h.out|exact x1 h.out|exact x2 h.out))|(apply zL.Aw;exact rfl;(· rintro k ⟨⟩<;>decide);exact bA;exact Vr;(first|(refine y0 ?_ ?_;exact aA;exact h.out)|(refine y1 ?_ ?_;(· intro _;exact aA);exact h.out)|(refine y2 ?_ ?_;(· intro _ _;exact aA);exact h.out)))|(apply Dr.Aw;exact rfl;(· rintro k ⟨⟩<;>decide);exact bA;exact Vr;(first|(refine y0 ?_ ?_;exact aA;exact h.out)|(refine y1 ?_ ?_;(· intro _;exact aA);exact h.out)|(refine y2 ?_ ?_;(· intro _ _;exact aA);exact h.out)))):p:=h ⟨hq⟩
theorem cY{p q:Prop}(hq:q)(h:wA q→p:=by intro h;first|exact w_ h.out|(apply L.val;decide;exact V8;exact h.out)|(apply FU.take;exact rfl;decide;exact bA;exact V8;exact h.out)|(apply Dr.take;exact rfl;decide;exact bA;exact V8;exact h.out)|(apply zL.val;exact rfl;decide;exact bA;exact Y3;exact aA;exact h.out)|(apply Dr.val;exact rfl;decide;exact bA;exact Y3;exact aA;exact h.out)|exact Z1 h.out|(apply gd;exact bG;exact aA;exact h.out)|(apply gk;exact bG;exact h.out)):p:=h ⟨hq⟩
theorem yK(E:Env)(x:bJ):aK prog E 160 #[.agg x.cs.toArray] [] λe H'=>e=.returned (.bool x.may)∧H'=[]:=Gq E x.rep x.seq
section
variable {α:Type} {T:Ty α} {N:Nat} {E:Env} {F:Nat→Value} {H H':List aL} {o:Oper} {A:Option Addr} {n m c:Nat} {l:List α}
theorem DL{F1:Nat→Prop}{u:World}{k:Nat}(h:(own T A n c l).holds F1 u)(hk:k≤n):(own T A k c (l.take k)).holds F1 u:=by
 obtain⟨h0,⟨rfl,h2,h3⟩|⟨g,cur,h2,h3,h4,h5,h6,h7,h8⟩⟩:=h
 ·exact⟨by rw[aAg];omega,.inl ⟨by omega,h2,h3⟩⟩
 ·refine⟨by rw[aAg];omega,.inr ⟨g,cur,h2,h3,h4,by omega,h6,h7,?_⟩⟩;have hle:k*T.size≤n*T.size:=aBa _ hk;rw[←T.nX,←h8,aEn,aBr hle]
theorem S.Oi{s x:Operand}{t:TypeId}{X:Option Addr}{nx cx n':Nat}{l2 l':List α}(ho:o.op=.call { callee:=.builtin .append,args:=#[s,x],argTypes:=#[t,t] })
  (hs:ev F s=.slice A n c) (hx:ev F x=.slice X nx cx) (hn':n+nx=n') (hnm:n≤m) (hr:dT (own T A m c l) [own T A n' c l'] H H') (hrd:kV E H T X nx cx l2) (hl':l.take n++l2=l') (ht:prog.underlying t=some (.slice T.tid)) {by_:Nat} (hbb:T.bytes=by_) (hby:n'*by_≤140737488355328) (h0:0<c) (hroom:n'≤c) (hlen:n'≤140737488355328) :
  gK prog N E F H o λr H1=>r=.slice A n' c∧H1=H':=by
 subst hn' hl' hbb;intro a u ha hu Kw Q' hK;obtain⟨R,hhas⟩:=hr.has;obtain⟨F0,h1,_⟩:=hu.has hhas;have h1:=DL h1 hnm;have hn:=h1.1;obtain⟨ti,hi,hz,hsz,hbt⟩:=T.jA;obtain⟨k0,k1,k2,k3⟩:=hrd u hu;have hcells:∀ad,X=some ad→nx≠0→∀j v,(T.bT l2)[j]?=some v→u.cell? (ad.add j)=some v:=by
  rintro ad rfl hn0;rcases k3 with k3|⟨ad',e,hc⟩
  ·exact absurd k3 hn0
  ·injection e with e;subst e;exact hc
 have hreads:Reads u u.heap.size T.size X nx (T.bT l2):=⟨by rw[T.bM,←k0],λgL=>by
  rcases k3 with k3|⟨ad,e,hc⟩
  ·omega
  ·refine⟨ad,e,?_,hc⟩;have hl:0<(T.bT l2).length:=by rw[T.bM,←k0];exact Nat.mul_pos gL T.gL
   have:=aEk _ _ (hc 0 _ (aAa hl))
   rwa [eQ] at this⟩
 have hsrc:Src prog ti.size t (.slice X nx cx) nx (T.bT l2) u:=by
  have hll:(T.bT l2).length=nx*ti.size:=by rw[T.bM,←k0,hsz]
  cases X with
  |none =>
   have h00:nx=0:=by rcases k3 with k3|⟨_,e,_⟩;exact k3;cases e
   subst h00;have e:T.bT l2=[]:=aBi (by rw[hll,aFx]);rw[e];exact Src.ofNil u ht cx
  |some ad =>
   refine Src.ofSlice u ht ad nx cx _ hll ?_ (T.kS _);by_cases hn0:nx=0
   ·intro j v hv;rw[aCo (by rw[hll,hn0,aFx];exact aAh _)] at hv;cases hv
   ·exact hcells ad rfl hn0
 obtain⟨hown,_⟩:=zC o_ h1;have key:∃v' w',(Builtin.append_ #[t,t] o.type #[.slice A n c,.slice X nx cx]).run prog u=.ok v' w'∧w'.ownsRow 0 T.tid T.size v' (n+nx) (T.bT (l.take n)++T.bT l2)∧u.grownBy w' (Value.ownBlock (.slice A n c)) ∧
   (v'.ownBlock=Value.ownBlock (.slice A n c)∨v'.ownBlock=some u.heap.size):=by
  exact oF u 0 t o.type T.tid ti T.zero T.size T.bytes ht hi hz hsz hbt T.hzero T.gL _ n _ hown u.heap.size X nx cx (T.bT l2) hreads (T.kS _) (by unfold maxLen;omega) hby (aAh _)
 obtain⟨v',w',hrun,hown',hg,hb⟩:=key;have hv:=run_append_cap_room u t t o.type T.tid ti ht hi A n c (.slice X nx cx) nx (T.bT l2) hsrc hroom hrun;subst hv;have hown2:w'.ownsRow 0 T.tid T.size (.slice A (n+nx) c) (n+nx) (T.bT (l.take n++l2)):=by rw[T.iU];exact hown'
 have hO:=Cc (T:=T) (l:=l.take n++l2) (by rw[aAe,←hn,k0]) hown2;unfold Oper.wp;rw[ha.eval];have hx2:(execOp (ev F) o).run prog u=.ok (.value (.slice A (n+nx) c)) w':=by
  unfold execOp;simp only[ho,resolve,invoke,builtin,aAy,aCc,aAr,aEb,aCi,aDo,hs,hx,hrun]
 rw[hx2];refine hK _ _ _ ⟨rfl,rfl⟩ ?_;refine hu.jX hr hg.os hg.tape hg.output hg.size (G:=λb=>Value.ownBlock (.slice A n c)=some b) (λb hlt hne=>hg.block b hlt (λe=>hne e.symm)) λF1 h1=>?_;obtain⟨_,hF⟩:=zC o_ (DL h1 hnm);refine⟨λb=>Value.ownBlock (.slice A (n+nx) c)=some b,⟨λb=>Value.ownBlock (.slice A (n+nx) c)=some b,λ_=>False,λb=>by simp,λ_ _ h=>h,hO,λ_ h=>h⟩,λb hbb=>?_,λb _ hG=>(hF b).2 hG⟩;have e:Value.ownBlock (.slice A (n+nx) c)=Value.ownBlock (.slice A n c):=by cases A<;>rfl
 exact .inl ((hF b).2 (e▸hbb))
theorem S.VU{x:Operand}{t:TypeId}{z:α}{j k:Nat}(ho:o.op=.call { callee:=.builtin .clear,args:=#[x],argTypes:=#[t] })(hx:ev F x=.slice (if c=j then A else A.map (·.add (j*T.size))) k (c - j))
  (ht:prog.underlying t=some (.slice T.tid)) (hz:T.val z=T.zero) (hj:n≤j) (hjk:j+k≤c) (hk:0<k) (hr:dT (own T A n c l) [own T A n c l] H H'):gK prog N E F H o λr H1=>r=.tuple #[]∧H1=H':=by
 intro a u ha hu Kw Q' hK;obtain⟨R,hhas⟩:=hr.has;obtain⟨F0,h1,_⟩:=hu.has hhas;obtain⟨ti,hi,hzz,hsz,hbt⟩:=T.jA;obtain⟨h0,⟨_,h2,_⟩|⟨g,cur,rfl,h3,h4,h5,h6,h7,h8⟩⟩:=h1
 ·omega
 rw[if_neg o_] at hx;have e0:(some (⟨g,0,none⟩:Addr)).map (·.add (j*T.size))=some ⟨g,j*T.size,none⟩:=by show some ((⟨g,0,none⟩:Addr).add _)=_;rw[fB,aCa]
 rw[e0] at hx;have hzc:Builtin.zeroCells T.zero.cells k=madeCells T.zero.cells (k*T.size):=by
  have:=T.hzero;simp[Builtin.zeroCells,madeCells,this]
 have hzl:(Builtin.zeroCells T.zero.cells k).toList=T.bT (List.replicate k z):=by rw[hzc,nN T z hz]
 have hlen:j*T.size+k*T.size≤c*T.size:=by rw[←aDb];exact aBa _ hjk
 have hst:=run_storeCells_at prog g (j*T.size) T.tid (T.bT (List.replicate k z)) 0 cur u h4 (by rw[T.bM,aAz,h7];omega) (T.kS _);unfold Oper.wp;rw[ha.eval];have hk0:k≠0:=o_;have hx2:(execOp (ev F) o).run prog u=.ok (.value (.tuple #[])) (u.setRow g (cur.toList.take (j*T.size+0)++T.bT (List.replicate k z)++cur.toList.drop (j*T.size+0+(T.bT (List.replicate k z)).length)).toArray):=by
  obtain⟨k,rfl⟩:∃k',k=k'+1:=⟨k - 1,by omega⟩
  unfold execOp;simp only[ho,resolve,invoke,builtin,aAy,aCc,aAr,aEb,aCi,aDo,hx];simp[Builtin.clear_,run_underlying ht,zeroValue,typeInfo,hi,hzz,hzl] at hst⊢;simp[hst]
 rw[hx2];refine hK _ _ _ ⟨rfl,rfl⟩ (St.setRow hu hr g _ λF1 k1=>?_);obtain⟨m0,⟨_,m2,_⟩|⟨g',cur',m1,m3,m4,m5,m6,m7,m8⟩⟩:=k1
 ·omega
 injection m1 with m1;injection m1 with m1
 subst m1;rw[h4] at m4;injection m4 with m4;injection m4 with m4 _ _
 subst m4;have hnj:n*T.size≤j*T.size:=aBa _ hj;refine⟨(m3 g).2 rfl,m0,.inr ⟨g,_,rfl,m3,setRow_heap u g _ _ _ _ h4,m5,m6,?_,?_⟩⟩
 ·simp[T.bM];omega
 ·rw[←m8];simp only[aFb,aAb];rw[aCw (by rw[aAg,aDs,h7];omega),aEn,aBr hnj]
end
theorem Y.slice3{P:Program}{E:Env}{H:List aL}{ρ:Operand→Value}{o:Oper}{A:Option Addr}{n c:Nat}{t e:TypeId}{x lo hi mx:Operand}{k k2 k3:IntKind}{i i2 i3:Int}{ti:TypeInfo}{j m q:Nat}(ho:o.op=.slice t x (some lo) (some hi) (some mx))(hx:ρ x=.slice A n c)(hlo:ρ lo=.int k i)(hhi:ρ hi=.int k2 i2)(hmx:ρ mx=.int k3 i3)(ht:P.underlying t=some (.slice e))(he:P.info? e=some ti)(hj:i=j)(hm:i2=m)(hq:i3=q)(hjm:j≤m)(hmq:m≤q)(hqc:q≤c) :
  qB P E H ρ o (.slice (if q=j then A else A.map (·.add (j*ti.size))) (m - j) (q - j)):=by
 intro u hu;subst hj hm hq;simp[execOp,ho,hx,Instr.sliceAt,Instr.slice,Instr.sliceBounds,Instr.sliceBound,asIntOf,run_underlying ht,sizeOf,typeInfo,he,hlo,hhi,hmx,hjm,hmq,hqc]
end
end Go.Proofs.YtmilalkjbojciaaGreat.Sep
namespace Go.Proofs.YtmilalkjbojciaaGreat.Oct
def be(n:Nat)(w:Nat):List UInt8:=(List.range w).map λj=>UInt8.ofNat (n / 2 ^ (8*(w - 1 - j)))
def put(b:List UInt8)(n:Nat)(w:Int):List UInt8:=if w<1∨8<w then b else b++be n w.toNat
theorem aP(n w:Nat):(be n w).length=w:=by simp[be]
def get(l:List UInt8):Nat:=l.foldl (λn b=>n*256+b.toNat) 0
theorem zI(l:List UInt8)(b:UInt8):get (l++[b])=get l*256+b.toNat:=by simp[get]
theorem BY:∀l:List UInt8,get l<256 ^ l.length:=by
 have key:∀(r:List UInt8),get r.reverse<256 ^ r.length:=by
  intro r;induction r with
  |nil=>simp[get]
  |cons x r ih =>
   rw[List.reverse_cons,zI,aAs,Nat.pow_succ];have:=aEr x;omega
 intro l;have:=key l.reverse;simpa using this
theorem KF(n w:Nat):be n (w+1)=be (n / 256) w++[UInt8.ofNat n]:=by
 unfold be;rw[List.range_succ,aBk];congr 1
 ·apply List.map_congr_left;intro j hj;have hj:=List.mem_range.1 hj;congr 1;rw[show(256:Nat)=2 ^ 8 by decide,Nat.div_div_eq_div_mul,←Nat.pow_add];congr 2;omega
 ·simp
theorem FD(w:Nat):∀n,get (be n w)=n % 256 ^ w:=by
 induction w with
 |zero=>intro n;simp[be,get,Nat.mod_one]
 |succ w ih =>
  intro n;rw[KF,zI,ih,Nat.pow_succ,aFy (256 ^ w) 256,Nat.mod_mul];simp;omega
theorem Ec(l:List UInt8):be (get l) l.length=l:=by
 have key:∀(r:List UInt8),be (get r.reverse) r.length=r.reverse:=by
  intro r;induction r with
  |nil=>rfl
  |cons x r ih =>
   rw[List.reverse_cons,aAs,KF,zI];have hx:=aEr x;rw[show(get r.reverse*256+x.toNat) / 256=get r.reverse by omega,ih];congr 2;apply aEg.1;simp
 have:=key l.reverse;simpa using this
theorem Qm(n w k:Nat)(h:k<w):(be n w).take (k+1)=(be n w).take k++[UInt8.ofNat (n / 2 ^ (8*(w - 1 - k)))]:=by
 rw[aAn (by rw[aP];exact h)];simp[be]
theorem OV(m:Nat):UInt8.ofNat ((m:Int) % 256).toNat=UInt8.ofNat m:=by
 apply aEg.1;simp;omega
theorem Eb(n k:Nat):(n:Int) / 2 ^ k=((n / 2 ^ k:Nat):Int):=by simp
end Go.Proofs.YtmilalkjbojciaaGreat.Oct
namespace Go.Proofs.YtmilalkjbojciaaGreat.Sep
open Go.RowKit Reg Oct
open Mem hiding Rd
theorem I5:Rec prog 341 [.bool false,.bool false,.slice none 0 0] [(0,1),(1,1),(2,1)]:=⟨q_,q_⟩
instance S0:cL 341 [.bool false,.bool false,.slice none 0 0] [(0,1),(1,1),(2,1)]:=⟨I5⟩
def Bs(g:Nat):Value:=.pointer (some ⟨g,0,none⟩)
def nx(bad:Bool)(l:List UInt8)(n:Int):Option (List UInt8)×Bool×List UInt8 :=
 if bad then(none,true,l) else if n<0∨(l.length:Int)<n then(none,true,l) else(some (l.take n.toNat),false,l.drop n.toNat)
def wid(k:Int):Int:=if k<1∨8<k then -1 else k
abbrev pC(g:Nat)(made bad:Bool)(A:Option Addr)(n c:Nat):aL:=aJ g 341 [.bool made,.bool bad,.slice A n c]
def nS(A:Option Addr)(n c:Nat)(l:List UInt8)(A':Option Addr)(n' c':Nat)(l':List UInt8):Prop:=∀E,Rd E aU A n c l→Rd E aU A' n' c' l'
theorem nS.refl{A:Option Addr}{n c:Nat}{l:List UInt8}:nS A n c l A n c l:=λ_ h=>h
theorem nS.trans{A B C:Option Addr}{n c m d p q:Nat}{l l' l'':List UInt8}(h:nS A n c l B m d l')(k:nS B m d l' C p q l''):nS A n c l C p q l'':=λE x=>k E (h E x)
theorem lD(E:Env)(A:Option Addr)(n c:Nat)(l:List UInt8)(hr:Rd E aU A n c l)(hl:n≤140737488355300) :
  aK prog E 185 #[.slice A n c] [] λe H'=>∃g A' c',e=.returned (Bs g)∧n≤c'∧c'≤maxLen∧H'=[pC g true false A' n c',own aU A' n c' l]:=by
 refine t_ func185 ntmps185 ?_;repeat first|refine aE ?_|intro
 exact aR rfl aF aA (⟨_,_,_,rfl,by assumption,by assumption,rfl⟩)
theorem mH(E:Env)(g:Nat)(made bad:Bool)(A:Option Addr)(n c:Nat) :
  aK prog E 295 #[Bs g] [pC g made bad A n c] λe H'=>e=.returned (.bool (made && !bad))∧H'=[pC g made bad A n c]:=by
 unfold Bs;refine t_ func295 ntmps295 ?_;cases made;all_goals
  repeat first|refine aE ?_|intro
  exact B7
def OJ(g:Nat)(A:Option Addr)(n c:Nat)(l:List UInt8)(r:Option (List UInt8)×Bool×List UInt8)(e:Ending)(H':List aL):Prop :=
 ∃A' n' c',H'=[pC g true r.2.1 A' n' c']∧nS A n c l A' n' c' r.2.2 ∧
  match r.1 with
  |none=>e=.returned (.tuple #[.slice none 0 0,.bool false])
  |some x=>∃B m d,e=.returned (.tuple #[.slice B m d,.bool true])∧nS A n c l B m d x
theorem GW(E:Env)(g:Nat)(bad:Bool)(A:Option Addr)(n c:Nat)(l:List UInt8)(k:Int)(hr:Rd E aU A n c l) :
  aK prog E 293 #[Bs g,.int .i64 k] [pC g true bad A n c] (OJ g A n c l (nx bad l k)):=by
 have hlen:=hr.len;have hcap:=hr.cap;unfold Bs;refine t_ func293 ntmps293 ?_;repeat first|refine aE ?_|intro
 refine bK (λM=>mH M g true bad A n c) ?_;cases bad
 ·by_cases hk:k<0∨(n:Int)<k
  ·have hx:nx false l k=(none,true,l):=by simp[nx,←hlen,hk]
   rw[hx];rcases hk with hk|hk
   ·repeat first|refine aE ?_|intro
    exact Cz ⟨_,_,_,rfl,.refl,rfl⟩
   ·by_cases hk0:k<0;all_goals
     repeat first|refine aE ?_|intro
     exact Cz ⟨_,_,_,rfl,.refl,rfl⟩
  ·have hx:nx false l k=(some (l.take k.toNat),false,l.drop k.toNat):=by simp[nx,←hlen,hk]
   rw[hx];obtain⟨k,rfl⟩:=aCf (show 0≤k by omega);rw[aAu];repeat first|refine aE ?_|intro
   exact vT rfl aF aF aA (⟨_,_,_,rfl,λE h=>h.from_ o_,_,_,_,rfl,λE h=>h.upto o_ o_ o_⟩)
 ·have hx:nx true l k=(none,true,l):=rfl;rw[hx];repeat first|refine aE ?_|intro
  exact Cz ⟨_,_,_,rfl,.refl,rfl⟩
def tk:Option (List UInt8)→Value
 |none=>.tuple #[.int .u64 0,.bool false]
 |some x=>.tuple #[.int .u64 (get x:Nat),.bool true]
def PL(g:Nat)(A:Option Addr)(n c:Nat)(l:List UInt8)(r:Option (List UInt8)×Bool×List UInt8)(e:Ending)(H':List aL):Prop :=
 ∃A' n' c',H'=[pC g true r.2.1 A' n' c']∧nS A n c l A' n' c' r.2.2∧e=.returned (tk r.1)
theorem Ul(s x:Nat)(hs:s<256 ^ 7)(hx:x<256):Go.bits .or .u64 ((s:Int)*256) (x:Int)=((s*256+x:Nat):Int):=by
 have e:(s:Int)*256=((s*256:Nat):Int):=o_;rw[e,u64_or_nat _ _ o_ o_,nat_join 8 _ _ o_ o_]
theorem Fw{bad:Bool}{l x:List UInt8}{k:Int}(h:(nx bad l k).1=some x):0≤k∧(x.length:Int)=k:=by
 unfold nx at h;split at h
 ·cases h
 ·split at h
  ·cases h
  ·injection h with h
   subst h;rw[aAg];omega
theorem Un(k:Int):wid k≤8:=by unfold wid;split<;>omega
theorem GQ{x:List UInt8}{k:Nat}(hk:k<x.length)(h8:x.length≤8):get (x.take k)<256 ^ 7:=by
 have h1:=BY (x.take k);refine aDe h1 (aDx o_ ?_);rw[aAg];omega
theorem C5{x:List UInt8}{k:Nat}(hk:k<x.length):get (x.take (k+1))=get (x.take k)*256+x[k].toNat:=by
 rw[aAn hk,zI]
theorem iG(E:Env)(g:Nat)(bad:Bool)(A:Option Addr)(n c:Nat)(l:List UInt8)(k:Int)(hr:Rd E aU A n c l) :
  aK prog E 242 #[Bs g,.int .i64 k] [pC g true bad A n c] (PL g A n c l (nx bad l (wid k))):=by
 have hw:wid k=if k<1∨8<k then -1 else k:=rfl
 have hw8:=Un k;refine t_ func242 ntmps242 ?_;iterate 5 (first|refine Cx ?_|refine He ?_|intro _|refine Dr.two ?_ ?_)
 refine C.cut (X:=Unit) (λ_=>[(0,Bs g),(1,.int .i64 (wid k))]) (λ_=>[pC g true bad A n c]) (λ_=>True) ?_ ?_
 ·by_cases h1:k<1
  ·rw[if_pos (.inl h1)] at hw;rw[hw];repeat first|refine aE ?_|intro
   exact⟨(),aD,aB.refl,trivial⟩
  ·by_cases h8:8<k
   ·rw[if_pos (.inr h8)] at hw;rw[hw];repeat first|refine aE ?_|intro
    exact⟨(),aD,aB.refl,trivial⟩
   ·rw[if_neg o_] at hw;rw[hw];repeat first|refine aE ?_|intro
    exact⟨(),aD,aB.refl,trivial⟩
 ·rintro - G -;clear hw;repeat first|refine aE ?_|intro
  refine dX (λM=>GW M g bad A n c l (wid k)) ?_;rintro e H' ⟨A',n',c',rfl,hal,he⟩;obtain⟨B,m,d,x,ok,rfl,hB,hx,htk⟩:∃B m d x ok,e=.returned (.tuple #[.slice B m d,.bool ok])∧Rd E aU B m d x∧x.length≤8∧tk (nx bad l (wid k)).1=.tuple #[.int .u64 (get x:Nat),.bool ok]:=by
   cases hq:(nx bad l (wid k)).1 with
   |none=>rw[hq] at he;exact⟨none,0,0,[],false,he,Rd.nil _ _,by simp,rfl⟩
   |some x =>
    rw[hq] at he;obtain⟨B,m,d,he,hB⟩:=he;have:=Fw hq;exact⟨B,m,d,x,true,he,hB _ hr,by omega,rfl⟩
  have hm:=hB.len;repeat first|refine aE ?_|intro
  refine C.loop (X:=Nat) (λi=>[(7,.bool ok),(8,.int .u64 (get (x.take i):Nat)),(23,.slice B m d),(24,.int .i64 m),(25,.int .i64 i)]) (λ_=>[pC g true (nx bad l (wid k)).2.1 A' n' c']) (λi=>i≤m) (λi=>m - i) 0 aD aB.refl (aAh _) ?_;rintro i G hi;by_cases hlt:i<m
  ·have hxi:x[i]?=some x[i]:=aAa o_;have hb:=aEr x[i];have hg:=GQ (k:=i) o_ hx;have e3:Go.bits .or .u64 ((Oct.get (x.take i):Nat)*256) (x[i].toNat:Int)=((Oct.get (x.take (i+1)):Nat):Int):=by rw[Ul _ _ hg o_,C5 o_]
   repeat first|refine aE ?_|intro
   exact⟨i+1,aD,aB.refl,by omega,by omega⟩
  ·repeat first|refine aE ?_|intro
   obtain rfl:i=m:=o_;have ex:x.take i=x:=aAj o_;rw[ex];exact vT rfl aF aF aA (⟨_,_,_,rfl,hal,by rw[htk]⟩)
end Go.Proofs.YtmilalkjbojciaaGreat.Sep
namespace Go.Proofs.YtmilalkjbojciaaGreat.Dly
open Go.Proofs.YtmilalkjbojciaaGreat.Sep (dF)
def To(m:Int):Nat→Int→Int
 |0,w=>w
 |k+1,w=>min (2*To m k w) m
def wait(base dC n:Int):Int :=
 if n<1 then 0 else To (dF dC 1 64) ((min n 64 - 1).toNat) (min (dF base 1 64) (dF dC 1 64))
def due(base dC n last:Int):Int:=dF last 0 1073741824+wait base dC n
theorem tN(n lo hi:Int)(h:lo≤hi):lo≤dF n lo hi:=by unfold dF;split;omega;split<;>omega
theorem zG(n lo hi:Int)(h:lo≤hi):dF n lo hi≤hi:=by unfold dF;split;omega;split<;>omega
theorem Ip(m w:Int)(h1:1≤w)(h2:w≤m):∀k,1≤To m k w∧To m k w≤m
 |0=>⟨h1,h2⟩
 |k+1=>by have:=Ip m w h1 h2 k;unfold To;omega
theorem Rn(base dC n:Int):0≤wait base dC n∧wait base dC n≤64:=by
 unfold wait;split
 ·omega
 ·have hm1:=tN dC 1 64 o_;have hm2:=zG dC 1 64 o_;have hb1:=tN base 1 64 o_;have:=Ip (dF dC 1 64) (min (dF base 1 64) (dF dC 1 64)) o_ o_ ((min n 64 - 1).toNat);omega
end Go.Proofs.YtmilalkjbojciaaGreat.Dly
namespace Go.Proofs.YtmilalkjbojciaaGreat.Sep
open Go.RowKit Reg Dly
open Mem hiding Rd
section
variable (E:Env)
theorem Hx(n lo hi:Int):aK prog E 65 #[.int .i64 n,.int .i64 lo,.int .i64 hi] [] λe H'=>e=.returned (.int .i64 (dF n lo hi))∧H'=[]:=by
 refine t_ func65 ntmps65 ?_;unfold dF;by_cases h1:n<lo
 ·rw[if_pos h1];repeat first|refine aE ?_|intro
  exact B7
 ·rw[if_neg h1];by_cases h2:hi<n
  ·rw[if_pos h2];repeat first|refine aE ?_|intro
   exact B7
  ·rw[if_neg h2];repeat first|refine aE ?_|intro
   exact B7
theorem YW(base dC n:Int):aK prog E 363 #[.int .i64 base,.int .i64 dC,.int .i64 n] [] λe H'=>e=.returned (.int .i64 (wait base dC n))∧H'=[]:=by
 have hm1:=tN dC 1 64 o_;have hm2:=zG dC 1 64 o_;have hb1:=tN base 1 64 o_;have hb2:=zG base 1 64 o_;have hbd:=Ip (dF dC 1 64) (min (dF base 1 64) (dF dC 1 64)) o_ o_;refine t_ func363 ntmps363 ?_;repeat first|refine aE ?_|intro
 refine bK (λM=>Hx M dC 1 64) ?_;repeat first|refine aE ?_|intro
 refine bK (λM=>Hx M base 1 64) ?_;unfold wait;by_cases h:n<1
 ·rw[if_pos h];repeat first|refine aE ?_|intro
  exact B7
 rw[if_neg h];obtain⟨K,hK⟩:∃K:Nat,K=(min n 64 - 1).toNat:=⟨_,rfl⟩
 have hK2:min n 64 - 1=(K:Int):=o_;have hK3:K≤63:=o_;have hsub:IntKind.i64.wrap (min n 64 - 1)=(K:Int):=by rw[aAq _ o_];exact hK2
 rw[←hK];generalize dF dC 1 64=M_ at *;generalize hw:min (dF base 1 64) M_=w at *;repeat first|refine aE ?_|intro
 try rw[hw]
 refine C.loop (X:=Nat) (λk=>[(1,.int .i64 M_),(7,.int .i64 (To M_ k w)),(18,.int .i64 K),(19,.int .i64 k)]) (λ_=>[]) (λk=>k≤K) (λk=>K - k) 0 aD aB.refl (aAh _) ?_;rintro k G hk;have hb:=hbd k;by_cases hlt:k<K
 ·have hs:min (2*To M_ k w) M_=To M_ (k+1) w:=rfl;repeat first|refine aE ?_|intro
  rw[hs];exact⟨k+1,aD,aB.refl,by omega,by omega⟩
 ·obtain rfl:k=K:=o_;repeat first|refine aE ?_|intro
  exact B7
theorem Ze(base dC n last:Int):aK prog E 326 #[.int .i64 base,.int .i64 dC,.int .i64 n,.int .i64 last] [] λe H'=>e=.returned (.int .i64 (Dly.due base dC n last))∧H'=[]:=by
 have h1:=Rn base dC n;have h2:=tN last 0 1073741824 o_;have h3:=zG last 0 1073741824 o_;refine t_ func326 ntmps326 ?_;unfold Dly.due;repeat first|refine aE ?_|intro
 refine bK (λM=>Hx M last 0 1073741824) ?_;repeat first|refine aE ?_|intro
 refine bK (λM=>YW M base dC n) ?_;repeat first|refine aE ?_|intro
 exact B7
def IP(base dC n last now:Int):Bool:=decide (n<1)||decide (Dly.due base dC n last≤now)
theorem Vg(base dC n last now:Int):aK prog E 370 #[.int .i64 base,.int .i64 dC,.int .i64 n,.int .i64 last,.int .i64 now] [] λe H'=>e=.returned (.bool (IP base dC n last now))∧H'=[]:=by
 refine t_ func370 ntmps370 ?_;unfold IP;by_cases h:n<1
 ·rw[decide_eq_true h];repeat first|refine aE ?_|intro
  exact B7
 ·rw[decide_eq_false h];repeat first|refine aE ?_|intro
  refine bK (λM=>Ze M base dC n last) ?_;repeat first|refine aE ?_|intro
  exact B7
end
end Go.Proofs.YtmilalkjbojciaaGreat.Sep
