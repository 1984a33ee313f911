/- Part AF: what it needs. No condition. -/
import Derived.Test.YtmilalkjbojciaaGreatCAE
set_option linter.all false
set_option maxRecDepth 100000
set_option maxHeartbeats 8000000
open Go.Proofs.Tryz
namespace Go.Proofs.YtmilalkjbojciaaGreat.Sep
variable{P:t!}{Q:Exit->Act->World->Prop}{i:Nat}{l:List Oper}{v:p!}{z:Nat}
section
open Go.RowKit Mem Reg
def IX(P:t!)(l:List Oper)(Q:Exit->Act->World->Prop)(S S2:World->Prop)(z:Nat):Nat->Array Bool->Act->World->Prop
 |0,listed,a,w=>Region.ready .any l.toArray listed=[]/\Q .normal a w
 |k+1,listed,a,w=>(Region.ready .any l.toArray listed=[]->Q .normal a w) /\
  ∀i∈Region.ready .any l.toArray listed,wpOp P l.toArray Q i (λa' w'=>(i≠z->S w'/\IX P l Q S S2 z k (listed.setIfInBounds i true) a' w')/\(i=z->S2 w'/\wpAnyH P .any l.toArray Q S2 k (listed.setIfInBounds i true) a' w')) a w
def Vw{S S2:World->Prop}:∀(k:Nat) (listed:Array Bool) (a:Act) (w:World),IX P l Q S S2 z k listed a w->wpAny P .any l.toArray Q k listed a w
 |0,_,_,_,h=>h
 |k+1,_,_,_,h=>⟨h.1,λi hi=>wpOp_mono (λa' w' h'=>by
   by_cases hz:i=z
   ·exact wpAny_of_held _ _ _ _ (h'.2 hz).2
   ·exact Vw k _ a' w' (h'.1 hz).2) (h.2 i hi)⟩
def Vy{S:World->Prop}(hz:l.length<=z):∀(k:Nat) (listed:Array Bool) (a:Act) (w:World),CS P l Q S z k listed a w->wpAnyH P .any l.toArray Q S k listed a w
 |0,_,_,_,h=>h
 |k+1,listed,_,_,h=>⟨h.1,λi hi=>wpOp_mono (λa' w' h'=>by
   have hne:i≠z:=by
    grind [mem_ready]
   exact⟨(h'.1 hne).1,Vy hz k _ a' w' (h'.1 hne).2⟩) (h.2 i hi)⟩
theorem YieldsIf.mono{b:Array Oper}{S S':World->Prop}{o:Oper}{a:Act}(h:YieldsIf P b S o v a)(e:∀u,S' u->S u):YieldsIf P b S' o v a:=by
 rcases h with⟨c,d⟩|h
 ·exact .inl ⟨c,λu f=>d u (e u f)⟩
 ·exact .inr h
def Vx{S S2 S3:World->Prop}{oi:Oper}(hi:l.toArray[i]?=some oi)(hsel:∀(j:Nat) (o:Oper) cs b,l.toArray[j]?=some o->o.op≠.select cs b)
  (hQ:∀c a w,Q (.panic c) (a.put oi.dst v) w->Q (.panic c) a w) (hs3:∀u,S u->S3 u) (hz:late l z i=true\/∀u,S2 u->S3 u) (hne:i≠z) :
  ∀(k:Nat) (listed:Array Bool) (a:Act) (w:World),vF l listed ->
   (∀j oj,l.toArray[j]?=some oj->j≠i->listed.getD j true=false->(∀e∈oj.after,Region.binds .any e=true->e.on≠i)->oi.apart l.toArray oj=true) ->
   i∈Region.ready .any l.toArray listed->YieldsIf P l.toArray S3 oi v a->S w ->
   IX P l Q S S2 z k (listed.setIfInBounds i true) (a.put oi.dst v) w->IX P l Q S S2 z (k+1) listed a w:=by
 intro k;induction k with
 |zero =>
  intro listed a w _ _ hr hy hS h;refine⟨λh0=>(by grind),λj hj=>?_⟩;by_cases hji:j=i
  ·subst hji;exact(YieldsIf.mono hy hs3).wpOp hi hS ⟨λ_=>⟨hS,h⟩,λe=>i! e hne⟩
  ·have:=ready_mono hj hji;rw[h.1] at this;cases this
 |succ k ih =>
  intro listed a w hcl hfree hr hy hS h;refine⟨λh0=>(by grind),λj hj=>?_⟩;by_cases hji:j=i
  ·subst hji;exact(YieldsIf.mono hy hs3).wpOp hi hS ⟨λ_=>⟨hS,h⟩,λe=>i! e hne⟩
  ·have h1:=h.2 j (ready_mono hj hji);have⟨hjun,oj,hoj,hall⟩:=mem_ready.1 hj;have hnot:∀e∈oj.after,Region.binds .any e=true->e.on≠i:=λe he hb heq=>by
    have h1:=hall e he hb;grind [mem_ready,Nat.lt_or_ge]
   have h2:=wpOp_putIf hoj (hfree j oj hoj hji hjun hnot) (λcs b=>hsel i oi cs b hi) (λcs b=>hsel j oj cs b hoj) hQ hy h1;have hfree':∀m om,l.toArray[m]?=some om->m≠i->(listed.setIfInBounds j true).getD m true=false->(∀e∈om.after,Region.binds .any e=true->e.on≠i)->oi.apart l.toArray om=true:=λm om hm hmi hun hno=>by
    refine hfree m om hm hmi ?_ hno;by_cases hjm:j=m
    ·grind
    ·rw[getD_set_ne true hjm] at hun;exact hun
   refine wpOp_mono (λa' w' h3=>⟨λhjz=>⟨(h3.2.1 hjz).1,ih (listed.setIfInBounds j true) a' w' (hcl.set hj) hfree' (ready_mono hr (xW hji)) h3.1 (h3.2.1 hjz).1 ?_⟩,λhjz=>?_⟩) h2
   ·rw[PE _ _ hji];exact(h3.2.1 hjz).2
   ·rcases hz with hz|hz
    ·exact i! hj (hjz▸SX hz hne hcl hr)
    ·have h4:=h3.2.2 hjz;refine⟨h4.1,wpAnyH_first hi hsel hQ k (listed.setIfInBounds j true) a' w' hfree' (ready_mono hr (xW hji)) (YieldsIf.mono h3.1 hz) h4.1 ?_⟩;rw[PE _ _ hji];exact h4.2
section
variable {P:t!} {N:Nat} {E:Env} {F:Nat->p!} {H:List aG} {Q:QF} {z:Nat} {Hk Hk2:List aG}
structure Dt(P:Program)(N:Nat)(E:Env)(z:Nat)(l:List Oper)(Q:QF)(Hk Hk2:List aG)(todo:Td)(F:Nat->Value)(H:List aG):Prop where
 get:∀listed a u,vF l listed->Region.noSelect l.toArray=true->dH l l.length listed todo=true->gZ E N F a->St E H u->St E Hk u->IX P l (lift N E Q) (St E Hk) (St E Hk2) z todo.len listed a u
def C.Hw{id:Nat}(z:Nat)(b:Td)(Hk Hk2:List aG)(k:P.follows .mixedOrders=true)(c:(Region.noSelect l.toArray&&Nat.beq b.len l.length&&dH l l.length (Array.replicate l.length false) b)=true)(j:aB E H Hk)(h:Dt P N E z l Q Hk Hk2 b F H):C P N E (.region id l.toArray true) Q F H:=by
 simp only[fI] at c;have⟨⟨f,d⟩,g⟩:=c;have d:=Gi d;refine⟨λa w i e=>?_⟩;have:=h.get _ a w.drew (vF.start l) f g i e.drew (j _ e.drew);rw[d] at this;exact wp_region_any k (Vw _ _ _ _ (by simpa using this))
theorem Dt.take{c:Td}{d:Nat}{g:Op}{ty:q!}{b:String}{f:Array Edge}{gd:Option (Nat×Bool)}(hi:nth l i=some ⟨some d,g,ty,b,f,gd⟩)(r:d<N)(t:Nat.beq i z=false)(s:gV l N F true gd)
  (x:gM P E Hk (ev F) ⟨some d,g,ty,b,f,gd⟩ v) (n:gM P E Hk2 (ev F) ⟨some d,g,ty,b,f,gd⟩ v) (h:Dt P N E z l Q Hk Hk2 c (gK F d v) H):Dt P N E z l Q Hk Hk2 (.one i false c) F H:=by
 refine⟨λlisted a u e q k j m p=>?_⟩;simp only[dH,cond_false,fI] at k;refine Vx (S3:=λu=>St E Hk u\/St E Hk2 u) ((nW l i).symm.trans hi) (Region.noSelect_spec q) (λc a w h=>NL h) (λ_ h=>.inl h) (.inr λ_ h=>.inr h) (by grind [Nat.beq_refl]) _ _ _ _ e (Region.free_spec ((nW l i).symm.trans hi) k.1.1.1.1) (by grind)
  (.inl ⟨s.wanted (o:=⟨some d,g,ty,b,f,gd⟩) j,λu m=>by rw[j.eval];exact m.elim (x u) (n u)⟩) p ?_
 exact h.get _ _ u (e.set (by grind)) q k.2 (j.put r v) m p
def Dt.gS{b:Td}{d:Nat}{m:Op}{ty:q!}{c:String}{f:Array Edge}{gd:Option (Nat×Bool)}(hi:nth l i=some ⟨some d,m,ty,c,f,gd⟩)(q:d<N)(t:Nat.beq i z=false)(s:late l z i=true)(r:gV l N F true gd)
  (x:gM P E Hk (ev F) ⟨some d,m,ty,c,f,gd⟩ v) (h:Dt P N E z l Q Hk Hk2 b (gK F d v) H):Dt P N E z l Q Hk Hk2 (.one i false b) F H:=by
 refine⟨λlisted a u e p j g k n=>?_⟩;simp only[dH,cond_false,fI] at j;refine Vx (S3:=St E Hk) ((nW l i).symm.trans hi) (Region.noSelect_spec p) (λc a w h=>NL h) (λ_ h=>h) (.inl s) (by grind [Nat.beq_refl]) _ _ _ _ e (Region.free_spec ((nW l i).symm.trans hi) j.1.1.1.1) (by grind)
  (.inl ⟨r.wanted (o:=⟨some d,m,ty,c,f,gd⟩) g,λu k=>by rw[g.eval];exact x u k⟩) n ?_
 exact h.get _ _ u (e.set (by grind)) p j.2 (g.put q v) k n
def Dt.mK{todo:Td}{d:Option Nat}{op:Op}{ty:q!}{pos:String}{af:Array Edge}{gd:Option (Nat×Bool)}{K:p!->List aG->Prop}(hi:nth l i=some ⟨d,op,ty,pos,af,gd⟩)(hd:∀k,d=some k->k<N)(hne:Nat.beq i z=false)(hg:gV l N F true gd)
  (h:dF P N E F H ⟨d,op,ty,pos,af,gd⟩ K) (hk:∀v H',K v H'->aB E H' Hk/\Dt P N E z l Q Hk Hk2 todo (BQ F d v) H'):Dt P N E z l Q Hk Hk2 (.one i true todo) F H:=by
 refine⟨λlisted a u hcl hs hc ha hu hku=>?_⟩;simp only[dH,cond_true,fI,beq_iff_eq] at hc;have hnz:i≠z:=by rintro rfl;rw[Nat.beq_refl] at hne;cases hne
 refine⟨λh0=>i! (hc.1▸h0) s_,?_⟩;rw[hc.1];intro j hj;obtain rfl:j=i:=by simpa using hj
 have hi':l.toArray[j]?=some _:=(nW l j).symm.trans hi;unfold wpOp;simp only[hi',hg.wanted (o:=⟨d,op,ty,pos,af,gd⟩) ha,if_true];refine .inl (h a u ha hu _ _ ?_);intro v H' u' hA hu';have⟨hcv,hdt⟩:=hk v H' hA;refine⟨λ_=>⟨hcv u' hu',hdt.get _ _ u' (hcl.set (by grind)) hs hc.2 ?_ hu' (hcv u' hu')⟩,λe=>i! e hnz⟩;cases d with
 |none=>exact ha
 |some k=>exact ha.put (hd k rfl) v
def Dt.IK{todo:Td}{d:Option Nat}{op:Op}{ty:q!}{pos:String}{af:Array Edge}{gd:Option (Nat×Bool)}{K:p!->List aG->Prop}(hi:nth l z=some ⟨d,op,ty,pos,af,gd⟩)(hd:∀k,d=some k->k<N)(hg:gV l N F true gd)
  (h:dF P N E F H ⟨d,op,ty,pos,af,gd⟩ K) (hk:∀v H',K v H'->aB E H' Hk2/\Dr P N E l.length l Q Hk2 todo (BQ F d v) H'):Dt P N E z l Q Hk Hk2 (.one z true todo) F H:=by
 refine⟨λlisted a u hcl hs hc ha hu hku=>?_⟩;simp only[dH,cond_true,fI,beq_iff_eq] at hc;refine⟨λh0=>i! (hc.1▸h0) s_,?_⟩;rw[hc.1];intro j hj;obtain rfl:j=z:=by simpa using hj
 have hi':l.toArray[j]?=some _:=(nW l j).symm.trans hi;unfold wpOp;simp only[hi',hg.wanted (o:=⟨d,op,ty,pos,af,gd⟩) ha,if_true];refine .inl (h a u ha hu _ _ ?_);intro v H' u' hA hu';have⟨hcv,hdr⟩:=hk v H' hA;refine⟨λe=>i! rfl e,λ_=>⟨hcv u' hu',Vy (bM _) _ _ _ _ (hdr.get _ _ u' (hcl.set (by grind)) hs hc.2 ?_ hu' (hcv u' hu'))⟩⟩;cases d with
 |none=>exact ha
 |some k=>exact ha.put (hd k rfl) v
end
def aFp(E:Env)(J:List aG):QF
 | .normal,_,H=>Cv E H J
 |_,_,_=>False
section
variable {P:t!} {N:Nat} {E:Env} {Qw:Exit->Act->World->Prop} {F:Nat->p!} {H R:List aG}
def WJ.rg{α σ Y:Type}{g:r!}{ps:List Nat}{assign body tail:Code}{id gf:Nat}{lb:List p!}(enc:α->List p!)(GP:α->List aG)(step:σ->α->σ)(JP:σ->List aG)(s0:σ)(S:σ->α->Y->List (Nat×p!))(JA:σ->α->Y->List aG){Hit:List aG}(Fin:σ->List aG->Prop)(ok:σ->α->Prop)
  (hds:E.ds=[]) (hg:ev F g=.func (.func gf) #[] lb.toArray) (hk:∃fn,P.funcs[gf]?=some fn/\(fn.name == "runtime.NumGoroutine")=false/\fn.body.isNone=false) (hps:∀x,(enc x).length=ps.length) (hN:∀p∈ps,p<N) (hH:aB E H (JP s0++Hit))
  (iter:∀M R' l (J:σ->aG),Sub E R' M->(∀E2 R2 s x,Sub M R2 E2->ok s x->Gm P E2 l (enc x) (J s::GP x) (λe H'=>e=.returned (.bool true)/\H'=[J (step s x)])) ->
   aF P M gf (.func (.yield l) #[] #[]::lb).toArray (J s0::Hit) (λe H'=>(∃v,e=.returned v)/\∃s Hd,Fin s Hd/\H'=J s::Hd))
  (hassign:∀E2 R3 l s x,Sub E R3 E2->E2.ds=[]->ok s x->CI (some l) P N E2 assign (vB (λF' H'=>∃y,rP F' (S s x y)/\aB E2 H' (JA s x y)) (λ_ _ _=>False)) (BP F ps (enc x)) (JP s++GP x))
  (hbody:∀E2 R3 l s x y G,Sub E R3 E2->E2.ds=[]->ok s x->CI (some l) P N E2 body (aFp E2 (JP (step s x))) (AQ (S s x y) G) (JA s x y))
  (hdone:∀D s Hd,Fin s Hd->WJ P N (E.jM [{ target:=.collected D,args:=#[] }]) tail Qw F (kH D::(JP s++Hd))) :
  WJ P N E (.block id (.rangeFunc g ps.toArray assign body)) (Exit.then (λa w=>tail.wpIn (fz none) 0 P Qw a w) Qw) F H:=by
 refine⟨λa w ha hw=>wpIn_block (wpIn_rangeFunc ?_)⟩;intro fn _;have had:a.defers=[]:=ha.defers.trans hds;have⟨rec,hrec⟩:∃rec:LoopState->Option Code->Loop,rec=λst pe=>{ state:=st,pending:=pe,fn,tmps:=a.tmps,params:=ps.toArray,assign,body,defers:=w.heap.size }:=⟨_,rfl⟩
 have⟨W0,hW0⟩:∃W0,w.alloc (.deferred (some []))=W0:=⟨_,rfl⟩;have⟨W1,hW1⟩:∃W1,W0.alloc (.loop (rec .ready none))=W1:=⟨_,rfl⟩;have hz:W0.heap.size=w.heap.size+1:=by rw[<-hW0];simp
 have hs0:St E (kH w.heap.size::(JP s0++Hit)) W0:=by
  rw[<-hW0];exact(hH w hw).newObj λF' h1 h2=>⟨h1,h2⟩
 have hs1:St E (oZ (w.heap.size+1) (rec .ready none)::kH w.heap.size::(JP s0++Hit)) W1:=by
  rw[<-hW1];exact hs0.newObj λF' h1 h2=>⟨λb=>by rw[h1 b,hz],by rw[hz] at h2;exact h2⟩
 let J:σ->aG:=λi=>uK (oZ (w.heap.size+1) (rec .ready none)::JP i)
 have hs2:St E ((J s0::Hit)++[kH w.heap.size]) W1:=by
  have h1:St E (oZ (w.heap.size+1) (rec .ready none)::(JP s0++Hit)++[kH w.heap.size]) W1:=by
   have:=St.swap (l:=oZ (w.heap.size+1) (rec .ready none)::(JP s0++Hit)) (a:=kH w.heap.size) (R:=[]) (E:=E) (w:=W1) (by
    have h2:=St.BO (l:=[oZ (w.heap.size+1) (rec .ready none)]) (a:=kH w.heap.size) (R:=JP s0++Hit) (E:=E) (w:=W1) hs1;simpa using h2)
   grind
  grind [St.uK]
 have⟨M,hds',hE,hst,hback⟩:=hs2.enter;have⟨gn,hf1,hf2,hf3⟩:=hk;refine⟨w.heap.size+1,[{ target:=.collected w.heap.size,args:=#[] }],W1,{ target:=.fn (.func gf) lb.toArray,args:=#[.func (.yield (w.heap.size+1)) #[] #[]] },W1,gf,
  #[.func (.yield (w.heap.size+1)) #[] #[]]++lb.toArray,W1,?_,?_,λ_ _=>trivial,?_,λhh=>(by cases hh),?_⟩
 ·rw[<-hW1,<-hW0,hrec];exact run_enterLoop_outer _ _ _ _ _
 ·rw[ha.eval];simp only[resolve,hg];simp[go_sem,ev]
 ·have h1:¬gn.name = "runtime.NumGoroutine" := by simpa using hf2
  have h2:¬gn.body=none:=by intro h;rw[h] at hf3;cases hf3
  simp[invoke,callFunc,hf1,h1,h2]
 ·have hargs : #[.func (.yield (w.heap.size+1)) #[] #[]]++lb.toArray=(Value.func (.yield (w.heap.size+1)) #[] #[]::lb).toArray:=s_
  rw[hargs];refine MI ((iter M [kH w.heap.size] (w.heap.size+1) J hE ?_ hds' W1 hst).mono ?_)
  ·intro E2 R2 i x hE2 hok hd2 W hW;have hW':St E2 (oZ (w.heap.size+1) (rec .ready none)::(JP i++GP x)++[]) W:=by simpa using St.uK.1 hW
   have hy:=run_yield (P:=P) (args:=(enc x).toArray) (St.lp hW') (by grind);rw[hrec] at hy;refine⟨fn,_,assign,body,hy,roundIn_of_wpIn trivial ?_⟩;have⟨E4,hd4,hE4,hst4,hback4⟩:=(St.swap hW').enter;have hr4:gZ E4 N (BP F ps (enc x)) { tmps:=(ps.toArray.zip (enc x).toArray).foldl (λtmps (t,a)=>tmps.setIfInBounds t a) a.tmps,defers:=[] }:=by
    have h1:=gZ.BP (E:=E4) (vs:=enc x) (F:=F) (t:=a.tmps) hN ⟨rfl,ha.size,ha.get⟩;grind
   refine wpIn_mono ((hassign E4 _ (w.heap.size+1) i x ((hE.trans hE2).trans hE4) hd4 hok).get _ W hr4 hst4) ?_;intro e a1 w1 hq;cases e with
   |normal =>
    have⟨F1,H1,h1,h2,y,h3,h4⟩:=hq;have h6:=St.BO (hback4 _ _ (h4 w1 h2));refine⟨_,run_beginRound h6.lp (by rw[hrec]),?_⟩;have⟨E5,hd5,hE5,hst5,hback5⟩:=(St.swap (h6.Hv (r':={ rec .ready none with state:=.busy }))).enter;have hB:=hbody E5 _ (w.heap.size+1) i x y F1 ((hE.trans hE2).trans hE5) hd5 hok;rw[Ec h3] at hB;refine wpIn_mono (hB.get _ _ ⟨h1.defers.trans (hd4.trans hd5.symm),h1.size,h1.get⟩ hst5) ?_;intro e a2 w2 hq2;cases e with
    |normal =>
     have⟨F2,H2,_,k2,k3⟩:=hq2;have k4:=St.BO (hback5 _ _ (k3.c w2 k2));refine⟨_,_,run_endRound none k4.lp,[J (step i x)],St.uK.2 ?_,rfl,rfl⟩;have k5:=k4.Hv (r':=rec .ready none);rw[hrec] at k5⊢;exact k5
    |exit id'=>have⟨_,_,_,_,h⟩:=hq2;exact h.elim
    |ret=>have⟨_,_,_,_,h⟩:=hq2;exact h.elim
    |panic c=>have⟨_,_,_,h⟩:=hq2;exact h.elim
    |_=>exact hq2.elim
   |ret=>have⟨_,_,_,_,h⟩:=hq;exact h.elim
   |exit id=>have⟨_,_,_,_,h⟩:=hq;exact h.elim
   |panic c=>have⟨_,_,_,h⟩:=hq;exact h.elim
   |_=>exact hq.elim
  ·rintro e w3 ⟨H',h1,⟨v,rfl⟩,s,Hd,hfin,rfl⟩;have h3:=hback _ _ h1;have hpn:∀st pe,(rec st pe).pending=pe:=λ_ _=>by rw[hrec]
   have h4:St E (oZ (w.heap.size+1) (rec .ready none)::(JP s++Hd++[kH w.heap.size])) w3:=by simpa using St.uK.1 h3
   have h5:=run_endLoop (P:=P) h4.lp (by grind);rw[hpn] at h5;refine⟨none,_,h5,?_⟩;have h6:∀o,St (E.jM [{ target:=.collected w.heap.size,args:=#[] }]) (kH w.heap.size::(JP s++Hd)) (w3.putObj (w.heap.size+1) o):=λo=>by simpa using(St.BO (R:=[]) (h4.MU (o:=o))).jM
   exact(hdone w.heap.size s Hd hfin).get _ _ ⟨by simp[had,Env.jM],ha.size,ha.get⟩ (h6 _)
end
end
section
open Go.RowKit Reg
open Mem hiding Rd
theorem EM(b:Bk)(i n:Int)(h:(tX b i n).2=0):(tX b i n).1.bG=b.bG:=by
 unfold tX at h⊢;split at h
 ·split at h
  ·rename_i a e;rw[c! a,c! e]
  ·cases h
 ·cases h
section
variable {N:Nat} {E:Env} {F:Nat->p!} {H R Hp:List aG} {d:Nat} {f:FuncId} {ops:List r!} {tys:Array q!} {ty:q!} {pos:String} {af:Array Edge} {Q:QF} {Q1:Ending->List aG->Prop}
def yA{os:List Oper}{y:List aG}{gd:Option (Nat×Bool)}(hi:nth os z=some ⟨some d,.call { callee:=.value (.func f),args:=ops.toArray,argTypes:=tys },ty,pos,af,gd⟩)(U:d<N)(W:gV os N F true gd)(Z:jT f=true)(hp:fJ Hp H R)
  (s:∀M,Sub E R M->aF prog M f (mI F ops).toArray Hp Q1)
  (p:∀e H',Q1 e H'->(∃v,e=.returned v/\∃h,kE H' R h/\Q .normal (gK F d v) h)\/∃c,e=.panicked c/\∃h,aB E (H'++R) h/\Q (.panic c) (λ_=>undef) h):Dr prog N E z os Q y (.one z true .nil) F H:=by
 have⟨fn,D,J,K⟩:=AK Z;refine Dr.all ⟨λlisted a u P hs O l hu a8=>?_⟩;have q:os.toArray[z]?=some _:=(nW os z).symm.trans hi;unfold wpOp;simp only[q,W.wanted (o:=⟨some d,.call { callee:=.value (.func f),args:=ops.toArray,argTypes:=tys },ty,pos,af,gd⟩) l,if_true];refine .inl (O6 rfl rfl D J K hp s l hu (λv H' u' k j=>?_) (λc H' u' k j=>?_) λH' k=>?_)
 ·rcases p _ _ k with⟨t,b,h,i,r⟩|⟨c,b,_⟩
  ·injection b with b;subst b;exact⟨λhz=>i! rfl hz,λ_=>⟨by simpa [dH] using O,_,h,l.put U v,by rw[i.eq];exact j,r⟩⟩
  ·cases b
 ·rcases p _ _ k with⟨t,b,_⟩|⟨B,b,h,i,r⟩
  ·cases b
  ·injection b with b;subst b;exact⟨l.defers,h,i _ j,r⟩
 ·rcases p _ _ k with⟨t,b,_⟩|⟨B,b,_⟩<;>cases b
end
section
variable (E:Env) (w:Wk) (ch:aI) (g:Nat) (A:n!) (m c:Nat) (X:n!) (n x:Nat)
def aCx(D:m<=1000)(O:n<=900)(hb:w.b.ok):G E 323 [.pointer (some ⟨g,0,none⟩),.agg ch.cs.toArray] (kT g w A m c X n x) (fR (w.Ka ch) (Dn g)):=by
 unfold Wk.Ka;have⟨q,v⟩:∃q,q=qZ w.b ch.ref [3]:=⟨_,rfl⟩;have⟨o,k⟩:=q;rw[show w.order ch.ref [3]=_ from yR v];dsimp only[aI.cs,kT,k!,l!,G];refine p_ func323 ntmps323 ?_;intros;refine mN sD sK aH (λM z=>Hh M w g A m c X n x bK ch.ref.rep ch.ref.seq _ 1 1 [3] bK) ?_;rw[yR v];by_cases h:k=0
 ·rw[c! h];try rw[c! h]
  dsimp only[fR,bind,Except.bind,pure,Except.pure];rintro e p ⟨rfl,rfl⟩;refine .inl ⟨_,rfl,_,bU,?_⟩;have⟨r,t⟩:∃r,r=tX w.b o.dX o.cost:=⟨_,rfl⟩;rw[<-t];have l:=λM=>yM M ⟨w.b,w.out,ch.ref⟩ r g A A m c m c X n x;have a:=λM=>Nu M w.b A m c o.dX o.cost hb;rw[<-t] at a;dsimp only[dM.cs,Wk.cs,Bk.cs,k!,l!] at l a⊢;refine a_ ?_;intros
  refine C.fL 12 (l_ [0,1,2,3,4,5,6,7,8] (g_ 9 (l_ [10,11] (g_ 12 .nil)))) _ q_ q_ aB.refl (a_ ?_);refine y_ a ?_;refine yA rfl sD bB sK aH (λM z=>l M) ?_;unfold Wk.iU;by_cases i:r.2=0
  ·rw[c! i];try rw[c! i]
   have s:r.1.bG=w.b.bG:=by rw[t] at i⊢;exact EM _ _ _ i
   have⟨b,j⟩:∃b,b=lT r.1 ⟨o.id,o.dX,o.item,o.dL,o.cost,5⟩:=⟨_,rfl⟩;have put:=λM=>Ej M ⟨r.1,w.out,ch.ref⟩ o 5 g A m c X n x;have tell:=λM B d=>uA M ⟨b,w.out,ch.ref⟩ 10 o.dX o.cost g B b.bG.length d X n x o_;dsimp only[Wk.put] at put;rw[<-j] at put;dsimp only[Wk.tell,dM.cs,Wk.cs,Bk.cs,k!,l!] at put tell;rw[s] at put;dsimp only[fR,bind,Except.bind,pure,Except.pure];rintro e p ⟨rfl,rfl⟩;refine .inl ⟨_,rfl,_,bU,(a_ ?_)⟩
   refine C_ (λM y=>put M y D) ?_;intro B d K;refine u_ (λM=>tell M B d) ?_;intro u x1 J;unfold Wk.put;dsimp only;rw[<-j];refine gG rfl (H':=[aE g 369 _,own eS B b.bG.length d b.bG,own eT u (n+1) x1 (w.out++[⟨10,o.dX,o.cost,ch.ref⟩])]) ?_ ⟨B,b.bG.length,d,u,n+1,x1,rfl,rfl⟩;exact aB.cC (.cons .aR (.cons (.bJ .aR) (.cons .aR .nil)))
  ·rw[b! i];try rw[b! i]
   dsimp only[fR,bind,Except.bind,pure,Except.pure];rintro e p ⟨rfl,rfl⟩;exact .inr ⟨_,rfl,[],aC,rfl,rfl⟩
 ·rw[b! h];dsimp only[fR,bind,Except.bind,pure,Except.pure];rintro e p ⟨rfl,rfl⟩;exact .inr ⟨_,rfl,[],aC,rfl,rfl⟩
end
end
end Go.Proofs.YtmilalkjbojciaaGreat.Sep
namespace Go.Proofs.YtmilalkjbojciaaGreat.Open
open Go.RowKit Mem Go.ChangeShapes Go.WideShapes Go.ChangeAt Go.Deep
def Sh{H α:Type}(R:DataW H->α->Prop)(d:DataW H)(l:List α)(c:Nat):Prop :=
 (d=.nil/\l=[]/\c=0)\/∃a b,d=.slice a b/\a.length=l.length/\a.length+b.length=c/\∀i (e:i<a.length) (f:i<l.length),R a[i] l[i]
section
variable {H:Type} {enc:q!×p!->H} {W:World} {α:Type}
def cells?_len{w:World}{base:Nat}{a:Addr}{n:Nat}{cs:List p!}(h:w.cells? base a n=some cs):cs.length=n/\∀j u,cs[j]?=some u->w.cell? (a.add j)=some u:=by
 unfold World.cells? at h;split at h
 ·have g:∀(l:List Nat) (cs:List p!),l.mapM (λi=>w.cell? (a.add i))=some cs->cs.length=l.length/\∀(j:Nat) (u:p!) (i:Nat),cs[j]?=some u->l[j]?=some i->w.cell? (a.add i)=some u:=by
   intro l
   induction l with
   |nil=>intro cs h;simp at h;subst h;simp
   |cons x l p =>
    intro cs h;rw[List.mapM_cons] at h;have⟨v,c,e⟩:=Option.bind_eq_some_iff.1 h;have⟨q,k,f⟩:=Option.bind_eq_some_iff.1 e;injection f with f;subst f;have⟨m,o⟩:=p q k;refine⟨by simp[m],λj u i b d=>?_⟩;cases j with
    |zero=>simp at b d;subst b;subst d;exact c
    |succ j=>simp at b d;exact o j u i b d
  have⟨c,e⟩:=g _ _ h;refine⟨by simpa using c,λj u b=>e j u j b ?_⟩;have:j<cs.length:=(cH.1 b).1;rw[List.getElem?_range];simpa using(c▸this:j<(List.range n).length)
 ·cases h
def QQ{Q:Nat->α->Prop}:∀n,(∀i,i<n->∃b,Q i b)->∃l:List α,l.length=n/\∀i (a:i<l.length),Q i l[i]
 |0,_=>⟨[],rfl,λi a=>i! a s_⟩
 |n+1,h=>by
  have⟨l,d,e⟩:=QQ n (λi a=>h i o_);have⟨b,hb⟩:=h n o_;refine⟨l++[b],by simp[d],λi a=>?_⟩;by_cases c:i<l.length
  ·rw[List.getElem_append_left c];exact e i c
  ·have:i=n:=by simp at a;omega
   subst this;rw[List.getElem_append_right o_];simpa [d] using hb
end
def laidOut:laidOutB prog=true:=q_
section
variable {H:Type} {enc:q!×p!->H} {P:t!}
def aBu{f:Func}{s:ChangeSpec}{c fresh d again:Bool}{W m:World}{args:Array p!}{v:p!}{n gs:List (DataW H)}{a pa pv:List MemPlace}
  (u:DataW.Whole enc P f.params.toList s.vars c W args.toList n gs a)
  (l:∀(b:Nat) (sp:Nat->Bool) (y:Bool),DataW.TrodAll enc P m b sp y f.resultTypes.toList (v.resultList f.resultTypes.size) (s.fn H (n++gs)).results [])
  (e:∀sp:Nat->Bool,(∀p∈a,sp p.block=true)->DataW.TrodAll enc P m 0 sp true f.params.toList args.toList (s.fn H (n++gs)).args pa)
  (h:∀sp:Nat->Bool,(∀p∈a,sp p.block=true)->DataW.TrodVars enc P m sp s.vars (s.fn H (n++gs)).vars pv)
  (i:a=pa++pv) (hb:Below W.heap.size W m)
  (w:∀(j:Nat) (t:q!) (r:p!),f.resultTypes[j]?=some t->(v.resultList f.resultTypes.size)[j]?=some r->Value.okWide P m .any 0 t r) :
  s.post enc P f c fresh d again W args v m:=by
 have q:∀p∈a,p.block<W.heap.size:=λp g=>u.lt p g;have k:∀p∈a,(λb=>decide (b<W.heap.size)) p.block=true:=λp g=>by simpa using q p g
 refine⟨n,gs,a,[],pa,pv,u,l _ _ _,e _ k,h _ k,World.keptBut_mono (λp g=>⟨g,?_⟩) (hb.frame (· ∈ a)),λ_=>?_⟩
 ·rw[i,eL] at g;exact Or.inr g
 ·have⟨_,_,_,_,_,A,z⟩:=u;refine⟨w,_,_,([]++pa)++pv,⟨[]++pa,pv,trodAll_append (e _ (λ_ _=>rfl)) (l _ _ _),h _ (λ_ _=>rfl),rfl,?_,?_⟩,?_⟩
  ·intro b off g;have o:MemPlace.cell b off∈a:=by rw[i];simpa using g
   rw[hb.frozen (q _ o)];exact A b off o
  ·intro x;have:=z x;rw[i] at this;simpa using this
  ·intro p g _;rw[i];simpa using g
def Pt{W g:World}(hb:Below W.heap.size W g){sp:Nat->Bool}:∀ {e:List q!} {f:List p!} {ds:List (DataW H)} {ps:List MemPlace},
  (∀t∈e,prog.readableRec t=true/\t<prog.types.size)->DataW.TrodAll enc prog W 0 (λ_=>true) true e f ds ps->(∀x∈ps,x.block<W.heap.size)->(∀x∈ps,sp x.block=true) ->
  DataW.TrodAll enc prog g 0 sp true e f ds ps
 | [],[],[],_,_,h,_,_=>h
 |t::e,v::f,d::ds,ps,i,h,b,c=>by
  obtain⟨p,q,j,k,rfl⟩:=h;refine⟨p,q,?_,Pt hb (λt h=>i t (by simp[h])) k (λx a=>b x (by simp[a])) (λx a=>c x (by simp[a])),rfl⟩;have:=i t s_;exact WideElems.Trod_stays laidOut this.1 this.2 j (λx a=>hb.same (b x (by simp[a]))) (λx a=>c x (by simp[a]))
 | [],_::_,_,_,_,h,_,_=>h.elim
 | [],[],_::_,_,_,h,_,_=>h.elim
 |_::_,[],_,_,_,h,_,_=>h.elim
 |_::_,_::_,[],_,_,h,_,_=>h.elim
def N?{f:Func}{s:ChangeSpec}{b fresh c again:Bool}{W m:World}{args:Array p!}{d:List (DataW H)}{a:List MemPlace}
  (g:DataW.Whole enc prog f.params.toList s.vars b W args.toList d [] a) (r:s.vars=[])
  (u:(s.fn H d).results=[.lit (.bool true)]) (v:(s.fn H d).args=d) (w:(s.fn H d).vars=[])
  (o:f.resultTypes=#[4]) (j:f.params.toList.all (λt=>prog.readableRec t&&decide (t<prog.types.size))=true) (hb:Below W.heap.size W m) :
  s.post enc prog f b fresh c again W args (.bool true) m:=by
 have i:∀p∈a,p.block<W.heap.size:=λp j=>g.lt p j;have h:=g;have⟨p,q,x,n,e,_,_⟩:=h;rw[r] at n;obtain⟨_,rfl⟩:=trodVars_none n;rw[aY] at e;subst e;have k:∀t∈f.params.toList,prog.readableRec t=true/\t<prog.types.size:=λt y=>by
  have:=qR.1 j t y;simpa using this
 refine aBu (pa:=a) (pv:=[]) g (λ_ _ _=>?_) (λsp l=>?_) (λsp _=>?_) s_ hb (ok_one o rfl (okWide_bool_mk underlying4 _))
 ·rw[aY,u,o];exact trodAll_cons_mk (shut_bool underlying4 _) trodAll_mk0
 ·rw[aY,v];exact Pt hb k x i l
 ·rw[aY,w,r];exact rfl
end
end Go.Proofs.YtmilalkjbojciaaGreat.Open
namespace Go.Proofs.YtmilalkjbojciaaGreat.Sep
open Go.RowKit Reg Go.ChangeShapes Go.WideShapes Go.ChangeAt Go.Deep Go.Proofs.YtmilalkjbojciaaGreat.Open
open Mem hiding Rd
def top(W:World):Env:={ w:=W,D:=λb=>b<W.heap.size }
def aHz{P:t!}{f:FuncId}{args:Array p!}{W:World}(h:aF P (top W) f args [] λe _=>e=.returned (.bool true)) :
  Calls P f args W λe b=>e=.returned (.bool true)/\Below W.heap.size W b :=
 (h rfl W ⟨rfl,rfl,rfl,bM _,λ_ h=>h,λ_ _=>rfl,λ_=>False,λ_ h=>h,λ_ _ h=>h⟩).mono λ_ _ ⟨_,a,c⟩=>⟨c,a.os,a.tape,a.output,a.size,a.jQ⟩
section
variable {H:Type} {enc:q!×p!->H} {W:World} {α:Type}
def aPn(T:Ty α)(R:DataW H->α->Prop)(r:prog.cellsOf T.tid=T.size)
  (dec:∀n cs y,cs.length=T.size->DataW.trod enc prog W 0 (λ_=>true) true n T.tid cs=some y->∃a,cs=T.enc a/\R y.1 a)
  {t f:Nat} {cs:List p!} {x:DataW H×List MemPlace} (ht:prog.underlying t=some (.slice T.tid)) (h:DataW.trod enc prog W 0 (λ_=>true) true f t cs=some x) :
  ∃A n c l,cs=[.slice A n c]/\Rd (top W) T A n c l/\Sh R x.1 l c:=by
 rcases open_slice ht h with⟨rfl,rfl⟩|⟨a,len,cap,m,k,D,Pl,rfl,_,U,X,o,rfl,hx⟩
 ·exact⟨none,0,0,[],rfl,Rd.nil _ _,.inl ⟨rfl,rfl,rfl⟩⟩
 ·simp only[if_true] at o;subst o;have aT:∀i,i<m->∃b,R (D i) b/\∀j u,(T.enc b)[j]?=some u->W.cell? (a.add (i*T.size+j))=some u:=by
   intro i F;have⟨M,p,q⟩:=hx i F;rw[r] at p;have⟨O,P⟩:=cells?_len p;obtain⟨b,rfl,Q⟩:=dec _ _ _ O q;refine⟨b,Q,λj u v=>?_⟩;rw[<-Cj];exact P j u v
  have⟨l,w,E⟩:=QQ len (λi F=>aT i o_);subst w;refine⟨some a,l.length,m,l,rfl,⟨rfl,U,X,?_⟩,.inr ⟨_,_,rfl,s_,by simp;omega,?_⟩⟩
  ·by_cases Z:l.length=0
   ·exact .inl Z
   have d:∀j u,(T.cE l)[j]?=some u->W.cell? (a.add j)=some u:=by
    intro j u K;have v:j<l.length*T.size:=by
     have:=(cH.1 K).1;rwa [T.mH] at this
    have J:j / T.size<l.length:=Nat.div_lt_of_lt_mul (by rw[Ir];exact v);have s:=Nat.div_add_mod j T.size;have g:j % T.size<(T.enc l[j / T.size]).length:=by rw[T.vL];exact Nat.mod_lt _ T.fZ
    have z:=T.FO (bS J) (bS g);have e:j / T.size*T.size+j % T.size=j:=by rw[Ir];exact s
    rw[e,K] at z;have B:=(E (j / T.size) J).2 (j % T.size) _ (bS g);rw[e] at B;rw[B,<-z]
   refine .inr ⟨a,rfl,?_,d⟩;have N:0<(T.cE l).length:=by
    rw[T.mH];exact Is o_ T.fZ
   have:=I1 _ _ (d 0 _ (bS N));rwa [Bg] at this
  ·intro i p q;simp at p⊢;exact(E i q).1
def aMa(T:Ty α)(R:DataW H->α->Prop)(e:prog.cellsOf T.tid=T.size)
  (dec:∀n cs y,cs.length=T.size->DataW.trod enc prog W 0 (λ_=>true) true n T.tid cs=some y->∃a,cs=T.enc a/\R y.1 a)
  {t:q!} {v:p!} {d:DataW H} {p:List MemPlace} {base:Nat} (g:prog.underlying t=some (.slice T.tid)) (m:Value.okWide prog W .any base t v) (h:DataW.Trod enc prog W 0 (λ_=>true) true t v d p) :
  ∃A n c l,v=.slice A n c/\Rd (top W) T A n c l/\Sh R d l c:=by
 obtain⟨a,len,cap,rfl⟩:=okWide_slice g m;have⟨f,i⟩:=h;have⟨A,n,c,l,b,j,k⟩:=aPn T R e dec g i;simp[Value.cells] at b;obtain⟨rfl,rfl,rfl⟩:=b;exact⟨_,_,_,l,rfl,j,k⟩
def tP{n:Nat}{t:q!}{k:IntKind}{v:p!}{z:DataW H×List MemPlace}(c:prog.underlying t=some (.int k))(h:DataW.trod enc prog W 0 (λ_=>true) true n t [v]=some z):∃i:Int,v=.int k i/\(Lit.int k i).wf=true:=by
 have⟨i,a,_,b⟩:=DataW.trod_int c h;injection a with a _
 exact⟨i,a,b⟩
def aKr{α:Type}{q:α->Prop}{d:DataW H}{l:List α}{c:Nat}(h:Sh (λ_ a=>q a) d l c):∀x∈l,q x:=by
 rcases h with⟨_,rfl,_⟩|⟨b,f,_,k,_,g⟩
 ·intro x e;cases e
 ·intro x e;obtain⟨i,j,rfl⟩:=oV e;exact g i o_ j
end
end Go.Proofs.YtmilalkjbojciaaGreat.Sep
