/- Part AE: what it needs. No condition. -/
import Derived.Test.YtmilalkjbojciaaGreatOAA
import Derived.Test.YtmilalkjbojciaaGreatOAB
set_option maxRecDepth 100000
set_option maxHeartbeats 8000000
open Go.Proofs.Tryz
namespace Go.Proofs.YtmilalkjbojciaaGreat.Sep
open Go.RowKit Reg
open Mem hiding Rd
section
variable {P:Program} {E:Env} {F:Nat→Value} {H H' R:List aL}
theorem mL{t g:Nat}{ty bt:TypeId}{cs:List Value}{d:TypeDesc}{ti:TypeInfo}(hv:F t=.pointer (some ⟨g,0,none⟩))(ht:P.underlying ty=some d)(hd:lT d=true)(hi:P.info? ty=some ti)(hb:Has (aJ g bt cs) H R)(hm:ti.size=cs.length){w:World}(hw:St E H w) :
  (asAddr (F t)).run P w=.ok ⟨g,0,none⟩ w∧(loadVar ty ⟨g,0,none⟩).run P w=.ok (.agg cs.toArray) w:=by
 have hc:Cells E H ⟨g,0,none⟩ cs:=Cells.aJ hb rfl;rw[hv];exact⟨by simp[asAddr],sS (u:=w) ht hd hi hm (hc w hw)⟩
theorem cI{fn:Func}{Q:Ending→List aL→Prop}{t g:Nat}{ty bt:TypeId}{cs:List Value}{d:TypeDesc}{ti:TypeInfo}(hr:fn.results=#[.cell t ty])(hv:F t=.pointer (some ⟨g,0,none⟩))(ht:P.underlying ty=some d)(hd:lT d=true)(hi:P.info? ty=some ti)(hb:Has (aJ g bt cs) H R)(hm:ti.size=cs.length)
  (hc:aB E H H') (h:Q (.returned (.agg cs.toArray)) H'):gF P E fn Q .ret F H:=by
 refine⟨.agg cs.toArray,H',λw hw=>?_,hc,h⟩;obtain⟨h1,h2⟩:=mL hv ht hd hi hb hm hw;simp[yC,hr,h1,h2]
theorem gS{fn:Func}{Q:Ending→List aL→Prop}{t g u:Nat}{ty bt:TypeId}{cs:List Value}{d:TypeDesc}{ti:TypeInfo}{v:Value}(hr:fn.results=#[.cell t ty,.tmp u])(hv:F t=.pointer (some ⟨g,0,none⟩))(ht:P.underlying ty=some d)(hd:lT d=true)(hi:P.info? ty=some ti)(hb:Has (aJ g bt cs) H R)(hm:ti.size=cs.length)
  (hu:F u=v) (hc:aB E H H') (h:Q (.returned (.tuple #[.agg cs.toArray,v])) H'):gF P E fn Q .ret F H:=by
 refine⟨.tuple #[.agg cs.toArray,v],H',λw hw=>?_,hc,h⟩;subst hu;obtain⟨h1,h2⟩:=mL hv ht hd hi hb hm hw;simp[yC,hr,h1,h2]
end
def Ba{α:Type}(T:Ty α)(e:α)(j:Nat)(v:Value)(e':α):Prop:=j+v.cells.size≤T.size∧(T.enc e).take j++v.cells.toList++(T.enc e).drop (j+v.cells.size)=T.enc e'
theorem Ba.Yu{α:Type}{T:Ty α}{e e':α}{j:Nat}{v:Value}(h1:v.cells=#[v])(hj:j<T.size)(h:(T.enc e).take j++[v]++(T.enc e).drop (j+1)=T.enc e'):Ba T e j v e':=by
 refine⟨by rw[h1];exact hj,?_⟩;rw[h1];exact h
section
variable {α:Type} {T:Ty α} {N:Nat} {E:Env} {F:Nat→Value} {H H' R:List aL} {o:Oper} {A:Option Addr} {n c:Nat} {l:List α}
theorem S.Rv{x y:Operand}{t:TypeId}{q k j:Nat}{v:Value}{e e':α}{ti:TypeInfo}(ho:o.op=.store t x y)(hx:ev F x=.pointer (some (((ad A).add q).add j)))(hy:ev F y=v)(hr:dT (own T A n c l) [own T A n c (l.set k e')] H H')
  (hf:Ba T e j v e') (hq:q=k*T.size) (he:l[k]?=some e) (h1:∀x∈v.cells.toList,x.oneCell'=true)
  (hi:prog.info? t=some ti) (hs:v.cells.size=ti.size):gK prog N E F H o λr H1=>r=undef∧H1=H':=by
 subst hq;exact S.DM (T:=T) (q:=k*T.size+j) ho hx hy (jI _ _ _) h1 hi hs rfl he hf.1 hf.2 hr ⟨rfl,rfl⟩
theorem S.wB{P:Program}{f:FuncId}{fn:Func}{x:Operand}{cs:List Value}{ops:List Operand}{tys:Array TypeId}{Hp:List aL}{vs vs':List Value}{K:Value→List aL→Prop}{Q1:Ending→List aL→Prop}(ho:o.op=.call { callee:=.value x,args:=ops.toArray,argTypes:=tys })(hx:ev F x=.func (.func f) #[] cs.toArray)(hvs:AO F ops=vs)(hv2:vs++cs=vs')
  (hfn:P.funcs[f]?=some fn) (hname:(fn.name == "runtime.NumGoroutine")=false) (hbody:fn.body.isNone=false)
  (hp:cS Hp H R) (h:∀E',Sub E R E'→aK P E' f vs'.toArray Hp Q1) (hQ:∀e H',Q1 e H'→∃v,e=.returned v∧∃H2,wK H' R H2∧K v H2):gK P N E F H o K:=by
 subst hvs hv2;intro a u ha hu Kw Q' hK;obtain⟨E',hds,hE,hst,hback⟩:=(hu.aV hp).enter;unfold Oper.wp;have hr:(execOp a.eval o).run P u=.ok (.enter f (AO F ops++cs).toArray) u:=by
  have h1:¬fn.name = "runtime.NumGoroutine" := by simpa using hname
  have h2:¬fn.body=none:=by intro h;rw[h] at hbody;cases hbody
  rw[ha.eval,AB];simp[execOp,ho,resolve,hx,Deferred.ofValue,invoke,callFunc,hfn,h1,h2]
 rw[hr];refine(h E' hE hds u hst).mono ?_;rintro e w' ⟨H',h3,h4⟩;obtain⟨v,rfl,H2,hcat,h5⟩:=hQ e H' h4;exact hK v _ w' h5 (by rw[hcat.eq];exact hback H' w' h3)
end
end Go.Proofs.YtmilalkjbojciaaGreat.Sep
namespace Go.Proofs.YtmilalkjbojciaaGreat.Sep
open Go.RowKit Mem Reg
def Xh(P:Program)(l:List Oper)(Q:Exit→Act→World→Prop)(S S2:World→Prop)(z:Nat):Nat→Array Bool→Act→World→Prop
 |0,listed,a,w=>Region.ready .any l.toArray listed=[]∧Q .normal a w
 |k+1,listed,a,w=>(Region.ready .any l.toArray listed=[]→Q .normal a w) ∧
  ∀i∈Region.ready .any l.toArray listed,wpOp P l.toArray Q i (λa' w'=>(i≠z→S w'∧Xh P l Q S S2 z k (listed.setIfInBounds i true) a' w')∧(i=z→S2 w'∧wpAnyH P .any l.toArray Q S2 k (listed.setIfInBounds i true) a' w')) a w
theorem J9{P:Program}{l:List Oper}{Q:Exit→Act→World→Prop}{S S2:World→Prop}{z:Nat}:∀(k:Nat) (listed:Array Bool) (a:Act) (w:World),Xh P l Q S S2 z k listed a w→wpAny P .any l.toArray Q k listed a w
 |0,_,_,_,h=>h
 |k+1,_,_,_,h=>⟨h.1,λi hi=>wpOp_mono (λa' w' h'=>by
   by_cases hz:i=z
   ·exact wpAny_of_held _ _ _ _ (h'.2 hz).2
   ·exact J9 k _ a' w' (h'.1 hz).2) (h.2 i hi)⟩
theorem GH{P:Program}{l:List Oper}{Q:Exit→Act→World→Prop}{S:World→Prop}{z:Nat}(hz:l.length≤z):∀(k:Nat) (listed:Array Bool) (a:Act) (w:World),Rp P l Q S z k listed a w→wpAnyH P .any l.toArray Q S k listed a w
 |0,_,_,_,h=>h
 |k+1,listed,_,_,h=>⟨h.1,λi hi=>wpOp_mono (λa' w' h'=>by
   have hne:i≠z:=by
    rintro rfl;obtain⟨_,o,ho,_⟩:=mem_ready.1 hi;rw[aCu (by simpa using hz)] at ho;cases ho
   exact⟨(h'.1 hne).1,GH hz k _ a' w' (h'.1 hne).2⟩) (h.2 i hi)⟩
theorem YieldsIf.mono{P:Program}{ops:Array Oper}{S S':World→Prop}{o:Oper}{v:Value}{a:Act}(h:YieldsIf P ops S o v a)(hs:∀u,S' u→S u):YieldsIf P ops S' o v a:=by
 rcases h with⟨h1,h2⟩|h
 ·exact .inl ⟨h1,λu hu=>h2 u (hs u hu)⟩
 ·exact .inr h
theorem DK{P:Program}{l:List Oper}{Q:Exit→Act→World→Prop}{S S2 S3:World→Prop}{z i:Nat}{oi:Oper}{v:Value}(hi:l.toArray[i]?=some oi)(hsel:∀(j:Nat) (o:Oper) cs b,l.toArray[j]?=some o→o.op≠.select cs b)
  (hQ:∀c a w,Q (.panic c) (a.put oi.dst v) w→Q (.panic c) a w) (hs3:∀u,S u→S3 u) (hz:late l z i=true∨∀u,S2 u→S3 u) (hne:i≠z) :
  ∀(k:Nat) (listed:Array Bool) (a:Act) (w:World),kX l listed →
   (∀j oj,l.toArray[j]?=some oj→j≠i→listed.getD j true=false→(∀e∈oj.after,Region.binds .any e=true→e.on≠i)→oi.apart l.toArray oj=true) →
   i∈Region.ready .any l.toArray listed→YieldsIf P l.toArray S3 oi v a→S w →
   Xh P l Q S S2 z k (listed.setIfInBounds i true) (a.put oi.dst v) w→Xh P l Q S S2 z (k+1) listed a w:=by
 intro k
 induction k with
 |zero =>
  intro listed a w _ _ hr hy hS h;refine⟨λh0=>(by rw[h0] at hr;cases hr),λj hj=>?_⟩;by_cases hji:j=i
  ·subst hji;exact(YieldsIf.mono hy hs3).wpOp hi hS ⟨λ_=>⟨hS,h⟩,λe=>absurd e hne⟩
  ·have:=ready_mono hj hji;rw[h.1] at this;cases this
 |succ k ih =>
  intro listed a w hcl hfree hr hy hS h;refine⟨λh0=>(by rw[h0] at hr;cases hr),λj hj=>?_⟩;by_cases hji:j=i
  ·subst hji;exact(YieldsIf.mono hy hs3).wpOp hi hS ⟨λ_=>⟨hS,h⟩,λe=>absurd e hne⟩
  ·have h1:=h.2 j (ready_mono hj hji);obtain⟨hjun,oj,hoj,hall⟩:=mem_ready.1 hj;have hnot:∀e∈oj.after,Region.binds .any e=true→e.on≠i:=λe he hb heq=>by
    have h1:=hall e he hb;have h0:=(mem_ready.1 hr).1;rw[heq] at h1;rcases Nat.lt_or_ge i listed.size with h'|h'
    ·simp[h'] at h0 h1;rw[h0] at h1;cases h1
    ·simp[aCu h'] at h1
   have h2:=wpOp_putIf hoj (hfree j oj hoj hji hjun hnot) (λcs b=>hsel i oi cs b hi) (λcs b=>hsel j oj cs b hoj) hQ hy h1;have hfree':∀m om,l.toArray[m]?=some om→m≠i→(listed.setIfInBounds j true).getD m true=false→(∀e∈om.after,Region.binds .any e=true→e.on≠i)→oi.apart l.toArray om=true:=λm om hm hmi hun hno=>by
    refine hfree m om hm hmi ?_ hno;by_cases hjm:j=m
    ·subst hjm;exact hjun
    ·rw[getD_set_ne true hjm] at hun;exact hun
   refine wpOp_mono (λa' w' h3=>⟨λhjz=>⟨(h3.2.1 hjz).1,ih (listed.setIfInBounds j true) a' w' (hcl.set hj) hfree' (ready_mono hr (aFh hji)) h3.1 (h3.2.1 hjz).1 ?_⟩,λhjz=>?_⟩) h2
   ·rw[aFm _ _ hji];exact(h3.2.1 hjz).2
   ·rcases hz with hz|hz
    ·exact absurd hj (hjz▸GR hz hne hcl hr)
    ·have h4:=h3.2.2 hjz;refine⟨h4.1,wpAnyH_first hi hsel hQ k (listed.setIfInBounds j true) a' w' hfree' (ready_mono hr (aFh hji)) (YieldsIf.mono h3.1 hz) h4.1 ?_⟩;rw[aFm _ _ hji];exact h4.2
section
variable {P:Program} {N:Nat} {E:Env} {F:Nat→Value} {H:List aL} {Q:QF} {z:Nat} {Hk Hk2:List aL}
structure Dt(P:Program)(N:Nat)(E:Env)(z:Nat)(l:List Oper)(Q:QF)(Hk Hk2:List aL)(todo:Td)(F:Nat→Value)(H:List aL):Prop where
 get:∀listed a u,kX l listed→Region.noSelect l.toArray=true→hU l l.length listed todo=true→qX E N F a→St E H u→St E Hk u→Xh P l (lift N E Q) (St E Hk) (St E Hk2) z todo.len listed a u
theorem C.Kp{id:Nat}{l:List Oper}(z:Nat)(todo:Td)(Hk Hk2:List aL)(hm:P.follows .mixedOrders=true)(hchk:(Region.noSelect l.toArray&&Nat.beq todo.len l.length&&hU l l.length (Array.replicate l.length false) todo)=true)(hk:aB E H Hk)(h:Dt P N E z l Q Hk Hk2 todo F H):C P N E (.region id l.toArray true) Q F H:=by
 simp only[aAv] at hchk;obtain⟨⟨h1,h2⟩,h3⟩:=hchk;have h2:=aCz h2;refine⟨λa w ha hw=>?_⟩;have:=h.get _ a w.drew (kX.start l) h1 h3 ha hw.drew (hk _ hw.drew);rw[h2] at this;exact wp_region_any hm (J9 _ _ _ _ (by simpa using this))
theorem Dt.take{i:Nat}{todo:Td}{l:List Oper}{d:Nat}{op:Op}{ty:TypeId}{pos:String}{af:Array Edge}{gd:Option (Nat×Bool)}{v:Value}(hi:nth l i=some ⟨some d,op,ty,pos,af,gd⟩)(hd:d<N)(hne:Nat.beq i z=false)(hg:rE l N F true gd)
  (hy:qB P E Hk (ev F) ⟨some d,op,ty,pos,af,gd⟩ v) (hy2:qB P E Hk2 (ev F) ⟨some d,op,ty,pos,af,gd⟩ v) (h:Dt P N E z l Q Hk Hk2 todo (pT F d v) H):Dt P N E z l Q Hk Hk2 (.one i false todo) F H:=by
 refine⟨λlisted a u hcl hs hc ha hu hk=>?_⟩;simp only[hU,cond_false,aAv] at hc;refine DK (S3:=λu=>St E Hk u∨St E Hk2 u) ((eX l i).symm.trans hi) (Region.noSelect_spec hs) (λc a w h=>wT h) (λ_ h=>.inl h) (.inr λ_ h=>.inr h) (by rintro rfl;rw[aFw] at hne;cases hne) _ _ _ _ hcl (Region.free_spec ((eX l i).symm.trans hi) hc.1.1.1.1) (by simpa using hc.1.1.1.2)
  (.inl ⟨hg.wanted (o:=⟨some d,op,ty,pos,af,gd⟩) ha,λu hu=>by rw[ha.eval];exact hu.elim (hy u) (hy2 u)⟩) hk ?_
 exact h.get _ _ u (hcl.set (by simpa using hc.1.1.1.2)) hs hc.2 (ha.put hd v) hu hk
theorem Dt.kL{i:Nat}{todo:Td}{l:List Oper}{d:Nat}{op:Op}{ty:TypeId}{pos:String}{af:Array Edge}{gd:Option (Nat×Bool)}{v:Value}(hi:nth l i=some ⟨some d,op,ty,pos,af,gd⟩)(hd:d<N)(hne:Nat.beq i z=false)(hl:late l z i=true)(hg:rE l N F true gd)
  (hy:qB P E Hk (ev F) ⟨some d,op,ty,pos,af,gd⟩ v) (h:Dt P N E z l Q Hk Hk2 todo (pT F d v) H):Dt P N E z l Q Hk Hk2 (.one i false todo) F H:=by
 refine⟨λlisted a u hcl hs hc ha hu hk=>?_⟩;simp only[hU,cond_false,aAv] at hc;refine DK (S3:=St E Hk) ((eX l i).symm.trans hi) (Region.noSelect_spec hs) (λc a w h=>wT h) (λ_ h=>h) (.inl hl) (by rintro rfl;rw[aFw] at hne;cases hne) _ _ _ _ hcl (Region.free_spec ((eX l i).symm.trans hi) hc.1.1.1.1) (by simpa using hc.1.1.1.2)
  (.inl ⟨hg.wanted (o:=⟨some d,op,ty,pos,af,gd⟩) ha,λu hu=>by rw[ha.eval];exact hy u hu⟩) hk ?_
 exact h.get _ _ u (hcl.set (by simpa using hc.1.1.1.2)) hs hc.2 (ha.put hd v) hu hk
theorem Dt.Aw{i:Nat}{todo:Td}{l:List Oper}{d:Option Nat}{op:Op}{ty:TypeId}{pos:String}{af:Array Edge}{gd:Option (Nat×Bool)}{K:Value→List aL→Prop}(hi:nth l i=some ⟨d,op,ty,pos,af,gd⟩)(hd:∀k,d=some k→k<N)(hne:Nat.beq i z=false)(hg:rE l N F true gd)
  (h:gK P N E F H ⟨d,op,ty,pos,af,gd⟩ K) (hk:∀v H',K v H'→aB E H' Hk∧Dt P N E z l Q Hk Hk2 todo (DJ F d v) H'):Dt P N E z l Q Hk Hk2 (.one i true todo) F H:=by
 refine⟨λlisted a u hcl hs hc ha hu hku=>?_⟩;simp only[hU,cond_true,aAv,beq_iff_eq] at hc;have hnz:i≠z:=by rintro rfl;rw[aFw] at hne;cases hne
 refine⟨λh0=>absurd (hc.1▸h0) (by simp),?_⟩;rw[hc.1];intro j hj;obtain rfl:j=i:=by simpa using hj
 have hi':l.toArray[j]?=some _:=(eX l j).symm.trans hi;unfold wpOp;simp only[hi',hg.wanted (o:=⟨d,op,ty,pos,af,gd⟩) ha,if_true];refine .inl (h a u ha hu _ _ ?_);intro v H' u' hA hu';obtain⟨hcv,hdt⟩:=hk v H' hA;refine⟨λ_=>⟨hcv u' hu',hdt.get _ _ u' (hcl.set (by rw[hc.1];simp)) hs hc.2 ?_ hu' (hcv u' hu')⟩,λe=>absurd e hnz⟩;cases d with
 |none=>exact ha
 |some k=>exact ha.put (hd k rfl) v
theorem Dt.We{todo:Td}{l:List Oper}{d:Option Nat}{op:Op}{ty:TypeId}{pos:String}{af:Array Edge}{gd:Option (Nat×Bool)}{K:Value→List aL→Prop}(hi:nth l z=some ⟨d,op,ty,pos,af,gd⟩)(hd:∀k,d=some k→k<N)(hg:rE l N F true gd)
  (h:gK P N E F H ⟨d,op,ty,pos,af,gd⟩ K) (hk:∀v H',K v H'→aB E H' Hk2∧Dr P N E l.length l Q Hk2 todo (DJ F d v) H'):Dt P N E z l Q Hk Hk2 (.one z true todo) F H:=by
 refine⟨λlisted a u hcl hs hc ha hu hku=>?_⟩;simp only[hU,cond_true,aAv,beq_iff_eq] at hc;refine⟨λh0=>absurd (hc.1▸h0) (by simp),?_⟩;rw[hc.1];intro j hj;obtain rfl:j=z:=by simpa using hj
 have hi':l.toArray[j]?=some _:=(eX l j).symm.trans hi;unfold wpOp;simp only[hi',hg.wanted (o:=⟨d,op,ty,pos,af,gd⟩) ha,if_true];refine .inl (h a u ha hu _ _ ?_);intro v H' u' hA hu';obtain⟨hcv,hdr⟩:=hk v H' hA;refine⟨λe=>absurd rfl e,λ_=>⟨hcv u' hu',GH (aAf _) _ _ _ _ (hdr.get _ _ u' (hcl.set (by rw[hc.1];simp)) hs hc.2 ?_ hu' (hcv u' hu'))⟩⟩;cases d with
 |none=>exact ha
 |some k=>exact ha.put (hd k rfl) v
end
end Go.Proofs.YtmilalkjbojciaaGreat.Sep
