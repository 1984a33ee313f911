/- Part AL: what it needs. No condition. -/
import Derived.Test.YtmilalkjbojciaaGreatOAA
import Derived.Test.YtmilalkjbojciaaGreatOAK
import Derived.Test.YtmilalkjbojciaaGreatOAH
set_option maxRecDepth 100000
set_option maxHeartbeats 8000000
open Go.Proofs.Tryz
namespace Go.Proofs.YtmilalkjbojciaaGreat.Sep
open Go.RowKit Reg
open Mem hiding Rd
theorem fS(b:Bk)(i n:Int)(h:(jT b i n).2=0):(jT b i n).1.aH=b.aH:=by
 unfold jT at h⊢;split at h
 ·split at h
  ·rename_i h1 h2;rw[if_pos h1,if_pos h2]
  ·cases h
 ·cases h
section
variable {N:Nat} {E:Env} {F:Nat→Value} {H R Hp:List aL} {d:Nat} {f:FuncId} {ops:List Operand} {tys:Array TypeId} {ty:TypeId} {pos:String} {af:Array Edge} {Q:QF} {Q1:Ending→List aL→Prop}
theorem As{z:Nat}{os:List Oper}{Hk:List aL}{gd:Option (Nat×Bool)}(hi:nth os z=some ⟨some d,.call { callee:=.value (.func f),args:=ops.toArray,argTypes:=tys },ty,pos,af,gd⟩)(hd:d<N)(hg:rE os N F true gd)(hk:xA f=true)(hp:cS Hp H R)
  (law:∀E',Sub E R E'→aK prog E' f (AO F ops).toArray Hp Q1)
  (hQ:∀e H',Q1 e H'→(∃v,e=.returned v∧∃H2,wK H' R H2∧Q .normal (pT F d v) H2)∨∃c,e=.panicked c∧∃H2,aB E (H'++R) H2∧Q (.panic c) (λ_=>undef) H2):Dr prog N E z os Q Hk (.one z true .nil) F H:=by
 obtain⟨fn,h1,h2,h3⟩:=iY hk;refine Dr.all ⟨λlisted a u hcl hs hc ha hu hk2=>?_⟩;have hi':os.toArray[z]?=some _:=(eX os z).symm.trans hi;unfold wpOp;simp only[hi',hg.wanted (o:=⟨some d,.call { callee:=.value (.func f),args:=ops.toArray,argTypes:=tys },ty,pos,af,gd⟩) ha,if_true];refine .inl (CV rfl rfl h1 h2 h3 hp law ha hu (λv H' u' hq hu'=>?_) (λc H' u' hq hu'=>?_) λH' hq=>?_)
 ·rcases hQ _ _ hq with⟨v',he,H2,hc2,hl⟩|⟨c,he,_⟩
  ·injection he with he;subst he
   exact⟨λhz=>absurd rfl hz,λ_=>⟨by simpa [hU] using hc,_,H2,ha.put hd v,by rw[hc2.eq];exact hu',hl⟩⟩
  ·cases he
 ·rcases hQ _ _ hq with⟨v',he,_⟩|⟨c',he,H2,hc2,hl⟩
  ·cases he
  ·injection he with he;subst he
   exact⟨ha.defers,H2,hc2 _ hu',hl⟩
 ·rcases hQ _ _ hq with⟨v',he,_⟩|⟨c',he,_⟩<;>cases he
end
section
variable (E:Env) (w:Wk) (ch:aX) (g:Nat) (A:Option Addr) (m c:Nat) (X:Option Addr) (n x:Nat)
theorem IE(hm:m≤1000)(hn:n≤900)(hb:w.b.ok):G E 323 [.pointer (some ⟨g,0,none⟩),.agg ch.cs.toArray] (xC g w A m c X n x) (oN (w.Er ch) (VF g)):=by
 unfold Wk.Er;obtain⟨q,hq⟩:∃q,q=FT w.b ch.ref [3]:=⟨_,rfl⟩
 obtain⟨o,k⟩:=q;rw[show w.order ch.ref [3]=_ from iF hq];dsimp only[aX.cs,xC,List.cons_append,List.nil_append,G];refine t_ func323 ntmps323 ?_;repeat first|refine v_ ?_|intro
 refine Av sD sK aC (λE' hE=>rH E' w g A m c X n x dB ch.ref.rep ch.ref.seq _ 1 1 [3] dB) ?_;rw[iF hq];by_cases h:k=0
 ·rw[if_pos h];try rw[if_pos h]
  dsimp only[oN,bind,Except.bind,pure,Except.pure];rintro e H' ⟨rfl,rfl⟩;refine .inl ⟨_,rfl,_,bG,?_⟩;obtain⟨r,hr⟩:∃r,r=jT w.b o.cC o.cost:=⟨_,rfl⟩
  rw[←hr];have law:=λE'=>hZ E' ⟨w.b,w.out,ch.ref⟩ r g A A m c m c X n x;have give:=λE'=>wE E' w.b A m c o.cC o.cost hb;rw[←hr] at give;dsimp only[dD.cs,Wk.cs,Bk.cs,List.cons_append,List.nil_append] at law give⊢;repeat first|refine v_ ?_|intro
  refine C.bL 12 (l_ [0,1,2,3,4,5,6,7,8] (g_ 9 (l_ [10,11] (g_ 12 .nil)))) _ q_ q_ aB.refl ?_;repeat first|refine v_ ?_|intro
  refine eJ give ?_;repeat first|refine v_ ?_|intro
  refine As rfl sD bA sK aC (λE' hE=>law E') ?_;unfold Wk.iQ;by_cases h2:r.2=0
  ·rw[if_pos h2];try rw[if_pos h2]
   have hor:r.1.aH=w.b.aH:=by rw[hr] at h2⊢;exact fS _ _ _ h2
   obtain⟨b',hb'⟩:∃b',b'=lK r.1 ⟨o.id,o.cC,o.item,o.iN,o.cost,5⟩:=⟨_,rfl⟩
   have put:=λE'=>oJ E' ⟨r.1,w.out,ch.ref⟩ o 5 g A m c X n x;have tell:=λE' B d=>eP E' ⟨b',w.out,ch.ref⟩ 10 o.cC o.cost g B b'.aH.length d X n x o_;dsimp only[Wk.put] at put;rw[←hb'] at put;dsimp only[Wk.tell,dD.cs,Wk.cs,Bk.cs,List.cons_append,List.nil_append] at put tell;rw[hor] at put;dsimp only[oN,bind,Except.bind,pure,Except.pure];rintro e H' ⟨rfl,rfl⟩;refine .inl ⟨_,rfl,_,bG,?_⟩;repeat first|refine v_ ?_|intro
   refine dX (λ(E':Env) h1=>put E' h1 hm) ?_;rintro e H' ⟨B,d,hd,rfl,rfl⟩;repeat first|refine v_ ?_|intro
   refine bW (λ(E':Env)=>tell E' B d) ?_;rintro e H' ⟨X1,x1,hx1,rfl,rfl⟩;repeat first|refine v_ ?_|intro
   unfold Wk.put;dsimp only;rw[←hb'];refine gO rfl (H':=[aJ g 369 _,own eB B b'.aH.length d b'.aH,own eG X1 (n+1) x1 (w.out++[⟨10,o.cC,o.cost,ch.ref⟩])]) ?_ ⟨B,b'.aH.length,d,X1,n+1,x1,rfl,rfl⟩;exact aB.aV (.cons .aN (.cons (.aM .aN) (.cons .aN .nil)))
  ·rw[if_neg h2];try rw[if_neg h2]
   dsimp only[oN,bind,Except.bind,pure,Except.pure];rintro e H' ⟨rfl,rfl⟩;exact .inr ⟨_,rfl,[],aA,rfl,rfl⟩
 ·rw[if_neg h];dsimp only[oN,bind,Except.bind,pure,Except.pure];rintro e H' ⟨rfl,rfl⟩;exact .inr ⟨_,rfl,[],aA,rfl,rfl⟩
end
end Go.Proofs.YtmilalkjbojciaaGreat.Sep
namespace Go.Proofs.YtmilalkjbojciaaGreat.Sep
open Go.RowKit Mem Reg
def X0(E:Env)(J:List aL):QF
 | .normal,_,H=>Cv E H J
 |_,_,_=>False
section
variable {P:Program} {N:Nat} {E:Env} {Qw:Exit→Act→World→Prop} {F:Nat→Value} {H R:List aL}
theorem WJ.rg{α σ Y:Type}{g:Operand}{ps:List Nat}{assign body tail:Code}{id gf:Nat}{lb:List Value}(enc:α→List Value)(GP:α→List aL)(step:σ→α→σ)(JP:σ→List aL)(s0:σ)(S:σ→α→Y→List (Nat×Value))(JA:σ→α→Y→List aL){Hit:List aL}(Fin:σ→List aL→Prop)(ok:σ→α→Prop)
  (hds:E.ds=[]) (hg:ev F g=.func (.func gf) #[] lb.toArray) (hk:∃fn,P.funcs[gf]?=some fn∧(fn.name == "runtime.NumGoroutine")=false∧fn.body.isNone=false) (hps:∀x,(enc x).length=ps.length) (hN:∀p∈ps,p<N) (hH:aB E H (JP s0++Hit))
  (iter:∀E' R' l (J:σ→aL),Sub E R' E'→(∀E2 R2 s x,Sub E' R2 E2→ok s x→Ps P E2 l (enc x) (J s::GP x) (λe H'=>e=.returned (.bool true)∧H'=[J (step s x)])) →
   aK P E' gf (.func (.yield l) #[] #[]::lb).toArray (J s0::Hit) (λe H'=>(∃v,e=.returned v)∧∃s Hd,Fin s Hd∧H'=J s::Hd))
  (hassign:∀E2 R3 l s x,Sub E R3 E2→E2.ds=[]→ok s x→CI (some l) P N E2 assign (oQ (λF' H'=>∃y,nH F' (S s x y)∧aB E2 H' (JA s x y)) (λ_ _ _=>False)) (QX F ps (enc x)) (JP s++GP x))
  (hbody:∀E2 R3 l s x y G,Sub E R3 E2→E2.ds=[]→ok s x→CI (some l) P N E2 body (X0 E2 (JP (step s x))) (OQ (S s x y) G) (JA s x y))
  (hdone:∀D s Hd,Fin s Hd→WJ P N (E.jU [{ target:=.collected D,args:=#[] }]) tail Qw F (vD D::(JP s++Hd))) :
  WJ P N E (.block id (.rangeFunc g ps.toArray assign body)) (Exit.then (λa w=>tail.wpIn (fz none) 0 P Qw a w) Qw) F H:=by
 refine⟨λa w ha hw=>wpIn_block (wpIn_rangeFunc ?_)⟩;intro fn _;have had:a.defers=[]:=ha.defers.trans hds;obtain⟨rec,hrec⟩:∃rec:LoopState→Option Code→Loop,rec=λst pe=>{ state:=st,pending:=pe,fn,tmps:=a.tmps,params:=ps.toArray,assign,body,defers:=w.heap.size }:=⟨_,rfl⟩
 obtain⟨W0,hW0⟩:∃W0,w.alloc (.deferred (some []))=W0:=⟨_,rfl⟩
 obtain⟨W1,hW1⟩:∃W1,W0.alloc (.loop (rec .ready none))=W1:=⟨_,rfl⟩
 have hz:W0.heap.size=w.heap.size+1:=by rw[←hW0];simp
 have hs0:St E (vD w.heap.size::(JP s0++Hit)) W0:=by
  rw[←hW0];exact(hH w hw).newObj λF' h1 h2=>⟨h1,h2⟩
 have hs1:St E (By (w.heap.size+1) (rec .ready none)::vD w.heap.size::(JP s0++Hit)) W1:=by
  rw[←hW1];exact hs0.newObj λF' h1 h2=>⟨λb=>by rw[h1 b,hz],by rw[hz] at h2;exact h2⟩
 let J:σ→aL:=λi=>I0 (By (w.heap.size+1) (rec .ready none)::JP i)
 have hs2:St E ((J s0::Hit)++[vD w.heap.size]) W1:=by
  have h1:St E (By (w.heap.size+1) (rec .ready none)::(JP s0++Hit)++[vD w.heap.size]) W1:=by
   have:=St.swap (l:=By (w.heap.size+1) (rec .ready none)::(JP s0++Hit)) (a:=vD w.heap.size) (R:=[]) (E:=E) (w:=W1) (by
    have h2:=St.qH (l:=[By (w.heap.size+1) (rec .ready none)]) (a:=vD w.heap.size) (R:=JP s0++Hit) (E:=E) (w:=W1) hs1;simpa using h2)
   simpa using this
  refine St.I0.2 ?_;simpa using h1
 obtain⟨E',hds',hE,hst,hback⟩:=hs2.enter;obtain⟨gn,hf1,hf2,hf3⟩:=hk;refine⟨w.heap.size+1,[{ target:=.collected w.heap.size,args:=#[] }],W1,{ target:=.fn (.func gf) lb.toArray,args:=#[.func (.yield (w.heap.size+1)) #[] #[]] },W1,gf,
  #[.func (.yield (w.heap.size+1)) #[] #[]]++lb.toArray,W1,?_,?_,λ_ _=>trivial,?_,λhh=>(by cases hh),?_⟩
 ·rw[←hW1,←hW0,hrec];exact run_enterLoop_outer _ _ _ _ _
 ·rw[ha.eval];simp only[resolve,hg];simp[go_sem,ev]
 ·have h1:¬gn.name = "runtime.NumGoroutine" := by simpa using hf2
  have h2:¬gn.body=none:=by intro h;rw[h] at hf3;cases hf3
  simp[invoke,callFunc,hf1,h1,h2]
 ·have hargs : #[.func (.yield (w.heap.size+1)) #[] #[]]++lb.toArray=(Value.func (.yield (w.heap.size+1)) #[] #[]::lb).toArray:=by simp
  rw[hargs];refine wS ((iter E' [vD w.heap.size] (w.heap.size+1) J hE ?_ hds' W1 hst).mono ?_)
  ·intro E2 R2 i x hE2 hok hd2 W hW;have hW':St E2 (By (w.heap.size+1) (rec .ready none)::(JP i++GP x)++[]) W:=by simpa using St.I0.1 hW
   have hy:=run_yield (P:=P) (args:=(enc x).toArray) (St.lp hW') (by rw[hrec];simp[hps]);rw[hrec] at hy;refine⟨fn,_,assign,body,hy,roundIn_of_wpIn trivial ?_⟩;obtain⟨E4,hd4,hE4,hst4,hback4⟩:=(St.swap hW').enter;have hr4:qX E4 N (QX F ps (enc x)) { tmps:=(ps.toArray.zip (enc x).toArray).foldl (λtmps (t,a)=>tmps.setIfInBounds t a) a.tmps,defers:=[] }:=by
    have h1:=qX.QX (E:=E4) (vs:=enc x) (F:=F) (t:=a.tmps) hN ⟨rfl,ha.size,ha.get⟩;rw[hd4] at h1;simpa using h1
   refine wpIn_mono ((hassign E4 _ (w.heap.size+1) i x ((hE.trans hE2).trans hE4) hd4 hok).get _ W hr4 hst4) ?_;intro e a1 w1 hq;cases e with
   |normal =>
    obtain⟨F1,H1,h1,h2,y,h3,h4⟩:=hq;have h6:=St.qH (hback4 _ _ (h4 w1 h2));refine⟨_,run_beginRound h6.lp (by rw[hrec]),?_⟩;obtain⟨E5,hd5,hE5,hst5,hback5⟩:=(St.swap (h6.Ft (r':={ rec .ready none with state:=.busy }))).enter;have hB:=hbody E5 _ (w.heap.size+1) i x y F1 ((hE.trans hE2).trans hE5) hd5 hok;rw[oH h3] at hB;refine wpIn_mono (hB.get _ _ ⟨h1.defers.trans (hd4.trans hd5.symm),h1.size,h1.get⟩ hst5) ?_;intro e a2 w2 hq2;cases e with
    |normal =>
     obtain⟨F2,H2,_,k2,k3⟩:=hq2;have k4:=St.qH (hback5 _ _ (k3.c w2 k2));refine⟨_,_,run_endRound none k4.lp,[J (step i x)],St.I0.2 ?_,rfl,rfl⟩;have k5:=k4.Ft (r':=rec .ready none);rw[hrec] at k5⊢;exact k5
    |exit id'=>obtain⟨_,_,_,_,h⟩:=hq2;exact h.elim
    |ret=>obtain⟨_,_,_,_,h⟩:=hq2;exact h.elim
    |panic c=>obtain⟨_,_,_,h⟩:=hq2;exact h.elim
    |_=>exact hq2.elim
   |ret=>obtain⟨_,_,_,_,h⟩:=hq;exact h.elim
   |exit id=>obtain⟨_,_,_,_,h⟩:=hq;exact h.elim
   |panic c=>obtain⟨_,_,_,h⟩:=hq;exact h.elim
   |_=>exact hq.elim
  ·rintro e w3 ⟨H',h1,⟨v,rfl⟩,s,Hd,hfin,rfl⟩;have h3:=hback _ _ h1;have hpn:∀st pe,(rec st pe).pending=pe:=λ_ _=>by rw[hrec]
   have h4:St E (By (w.heap.size+1) (rec .ready none)::(JP s++Hd++[vD w.heap.size])) w3:=by simpa using St.I0.1 h3
   have h5:=run_endLoop (P:=P) h4.lp (by rw[hrec];simp);rw[hpn] at h5;refine⟨none,_,h5,?_⟩;have h6:∀o,St (E.jU [{ target:=.collected w.heap.size,args:=#[] }]) (vD w.heap.size::(JP s++Hd)) (w3.putObj (w.heap.size+1) o):=λo=>by simpa using(St.qH (R:=[]) (h4.Ho (o:=o))).jU
   exact(hdone w.heap.size s Hd hfin).get _ _ ⟨by simp[had,Env.jU],ha.size,ha.get⟩ (h6 _)
end
end Go.Proofs.YtmilalkjbojciaaGreat.Sep
