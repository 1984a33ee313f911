/- Part AM: what it needs. No condition. -/
import Derived.Test.YtmilalkjbojciaaGreatLAA
import Derived.Test.YtmilalkjbojciaaGreatLAF
import Derived.Test.YtmilalkjbojciaaGreatLAC
import Derived.Deep.Slices
import Derived.Deep.CondSized
import Derived.SizedLaws
import Derived.Carry
import Derived.Test.YtmilalkjbojciaaGreatLAD
import Derived.Deep.Fields
set_option maxRecDepth 100000
set_option maxHeartbeats 8000000
open Go.Proofs.Tryz
namespace Go.Proofs.YtmilalkjbojciaaGreat.Sep
section
open Go.RowKit Reg
open Mem hiding Rd
theorem fS(b:Bk)(i n:Int)(h:(jT b i n).2=0):(jT b i n).1.aH=b.aH:=by
 unfold jT at h⊢;split at h
 ·split at h
  ·rename_i h1 h2;rw[if_pos h1,if_pos h2]
  ·cases h
 ·cases h
section
variable {N:Nat} {E:Env} {F:Nat→Value} {H R Hp:List aL} {d:Nat} {f:FuncId} {ops:List Operand} {tys:Array TypeId} {ty:TypeId} {pos:String} {af:Array Edge} {Q:QF} {Q1:Ending→List aL→Prop}
theorem As{z:Nat}{os:List Oper}{Hk:List aL}{gd:Option (Nat×Bool)}(hi:nth os z=some ⟨some d,.call { callee:=.value (.func f),args:=ops.toArray,argTypes:=tys },ty,pos,af,gd⟩)(hd:d<N)(hg:rE os N F true gd)(hk:xA f=true)(hp:cS Hp H R)
  (law:∀M,Sub E R M→aK prog M f (AO F ops).toArray Hp Q1)
  (hQ:∀e H',Q1 e H'→(∃v,e=.returned v∧∃H2,wK H' R H2∧Q .normal (pT F d v) H2)∨∃c,e=.panicked c∧∃H2,aB E (H'++R) H2∧Q (.panic c) (λ_=>undef) H2):Dr prog N E z os Q Hk (.one z true .nil) F H:=by
 obtain⟨fn,h1,h2,h3⟩:=iY hk;refine Dr.all ⟨λlisted a u hcl hs hc ha hu hk2=>?_⟩;have hi':os.toArray[z]?=some _:=(eX os z).symm.trans hi;unfold wpOp;simp only[hi',hg.wanted (o:=⟨some d,.call { callee:=.value (.func f),args:=ops.toArray,argTypes:=tys },ty,pos,af,gd⟩) ha,if_true];refine .inl (CV rfl rfl h1 h2 h3 hp law ha hu (λv H' u' hq hu'=>?_) (λc H' u' hq hu'=>?_) λH' hq=>?_)
 ·rcases hQ _ _ hq with⟨v',he,H2,hc2,hl⟩|⟨c,he,_⟩
  ·injection he with he;subst he
   exact⟨λhz=>absurd rfl hz,λ_=>⟨by simpa [sO] using hc,_,H2,ha.put hd v,by rw[hc2.eq];exact hu',hl⟩⟩
  ·cases he
 ·rcases hQ _ _ hq with⟨v',he,_⟩|⟨c',he,H2,hc2,hl⟩
  ·cases he
  ·injection he with he;subst he
   exact⟨ha.defers,H2,hc2 _ hu',hl⟩
 ·rcases hQ _ _ hq with⟨v',he,_⟩|⟨c',he,_⟩<;>cases he
end
section
variable (E:Env) (w:Wk) (ch:aX) (g:Nat) (A:Option Addr) (m c:Nat) (X:Option Addr) (n x:Nat)
theorem IE(hm:m≤1000)(hn:n≤900)(hb:w.b.ok):G E 323 [.pointer (some ⟨g,0,none⟩),.agg ch.cs.toArray] (xC g w A m c X n x) (oN (w.Er ch) (VF g)):=by
 unfold Wk.Er;obtain⟨q,hq⟩:∃q,q=FT w.b ch.ref [3]:=⟨_,rfl⟩
 obtain⟨o,k⟩:=q;rw[show w.order ch.ref [3]=_ from iF hq];dsimp only[aX.cs,xC,List.cons_append,List.nil_append,G];refine t_ func323 ntmps323 ?_;repeat first|refine v_ ?_|intro
 refine Av sD sK aC (λM hE=>rH M w g A m c X n x dB ch.ref.rep ch.ref.seq _ 1 1 [3] dB) ?_;rw[iF hq];by_cases h:k=0
 ·rw[if_pos h];try rw[if_pos h]
  dsimp only[oN,bind,Except.bind,pure,Except.pure];rintro e H' ⟨rfl,rfl⟩;refine .inl ⟨_,rfl,_,bG,?_⟩;obtain⟨r,hr⟩:∃r,r=jT w.b o.cC o.cost:=⟨_,rfl⟩
  rw[←hr];have law:=λM=>aJy M ⟨w.b,w.out,ch.ref⟩ r g A A m c m c X n x;have give:=λM=>wE M w.b A m c o.cC o.cost hb;rw[←hr] at give;dsimp only[dD.cs,Wk.cs,Bk.cs,List.cons_append,List.nil_append] at law give⊢;repeat first|refine v_ ?_|intro
  refine C.bL 12 (l_ [0,1,2,3,4,5,6,7,8] (g_ 9 (l_ [10,11] (g_ 12 .nil)))) _ q_ q_ aB.refl ?_;repeat first|refine v_ ?_|intro
  refine eJ give ?_;repeat first|refine v_ ?_|intro
  refine As rfl sD bA sK aC (λM hE=>law M) ?_;unfold Wk.iQ;by_cases h2:r.2=0
  ·rw[if_pos h2];try rw[if_pos h2]
   have hor:r.1.aH=w.b.aH:=by rw[hr] at h2⊢;exact fS _ _ _ h2
   obtain⟨b',hb'⟩:∃b',b'=lK r.1 ⟨o.id,o.cC,o.item,o.iN,o.cost,5⟩:=⟨_,rfl⟩
   have put:=λM=>oJ M ⟨r.1,w.out,ch.ref⟩ o 5 g A m c X n x;have tell:=λM B d=>eP M ⟨b',w.out,ch.ref⟩ 10 o.cC o.cost g B b'.aH.length d X n x o_;dsimp only[Wk.put] at put;rw[←hb'] at put;dsimp only[Wk.tell,dD.cs,Wk.cs,Bk.cs,List.cons_append,List.nil_append] at put tell;rw[hor] at put;dsimp only[oN,bind,Except.bind,pure,Except.pure];rintro e H' ⟨rfl,rfl⟩;refine .inl ⟨_,rfl,_,bG,?_⟩;repeat first|refine v_ ?_|intro
   refine dX (λM h1=>put M h1 hm) ?_;rintro e H' ⟨B,d,hd,rfl,rfl⟩;repeat first|refine v_ ?_|intro
   refine bW (λM=>tell M B d) ?_;rintro e H' ⟨X1,x1,hx1,rfl,rfl⟩;repeat first|refine v_ ?_|intro
   unfold Wk.put;dsimp only;rw[←hb'];refine gO rfl (H':=[aJ g 369 _,own eB B b'.aH.length d b'.aH,own eG X1 (n+1) x1 (w.out++[⟨10,o.cC,o.cost,ch.ref⟩])]) ?_ ⟨B,b'.aH.length,d,X1,n+1,x1,rfl,rfl⟩;exact aB.aV (.cons .aN (.cons (.aM .aN) (.cons .aN .nil)))
  ·rw[if_neg h2];try rw[if_neg h2]
   dsimp only[oN,bind,Except.bind,pure,Except.pure];rintro e H' ⟨rfl,rfl⟩;exact .inr ⟨_,rfl,[],aA,rfl,rfl⟩
 ·rw[if_neg h];dsimp only[oN,bind,Except.bind,pure,Except.pure];rintro e H' ⟨rfl,rfl⟩;exact .inr ⟨_,rfl,[],aA,rfl,rfl⟩
end
end
section
open Go.RowKit Mem Reg
def X0(E:Env)(J:List aL):QF
 | .normal,_,H=>Cv E H J
 |_,_,_=>False
section
variable {P:Program} {N:Nat} {E:Env} {Qw:Exit→Act→World→Prop} {F:Nat→Value} {H R:List aL}
theorem WJ.rg{α σ Y:Type}{g:Operand}{ps:List Nat}{assign body tail:Code}{id gf:Nat}{lb:List Value}(enc:α→List Value)(GP:α→List aL)(step:σ→α→σ)(JP:σ→List aL)(s0:σ)(S:σ→α→Y→List (Nat×Value))(JA:σ→α→Y→List aL){Hit:List aL}(Fin:σ→List aL→Prop)(ok:σ→α→Prop)
  (hds:E.ds=[]) (hg:ev F g=.func (.func gf) #[] lb.toArray) (hk:∃fn,P.funcs[gf]?=some fn∧(fn.name == "runtime.NumGoroutine")=false∧fn.body.isNone=false) (hps:∀x,(enc x).length=ps.length) (hN:∀p∈ps,p<N) (hH:aB E H (JP s0++Hit))
  (iter:∀M R' l (J:σ→aL),Sub E R' M→(∀E2 R2 s x,Sub M R2 E2→ok s x→Ps P E2 l (enc x) (J s::GP x) (λe H'=>e=.returned (.bool true)∧H'=[J (step s x)])) →
   aK P M gf (.func (.yield l) #[] #[]::lb).toArray (J s0::Hit) (λe H'=>(∃v,e=.returned v)∧∃s Hd,Fin s Hd∧H'=J s::Hd))
  (hassign:∀E2 R3 l s x,Sub E R3 E2→E2.ds=[]→ok s x→CI (some l) P N E2 assign (oQ (λF' H'=>∃y,nH F' (S s x y)∧aB E2 H' (JA s x y)) (λ_ _ _=>False)) (QX F ps (enc x)) (JP s++GP x))
  (hbody:∀E2 R3 l s x y G,Sub E R3 E2→E2.ds=[]→ok s x→CI (some l) P N E2 body (X0 E2 (JP (step s x))) (OQ (S s x y) G) (JA s x y))
  (hdone:∀D s Hd,Fin s Hd→WJ P N (E.jU [{ target:=.collected D,args:=#[] }]) tail Qw F (vD D::(JP s++Hd))) :
  WJ P N E (.block id (.rangeFunc g ps.toArray assign body)) (Exit.then (λa w=>tail.wpIn (fz none) 0 P Qw a w) Qw) F H:=by
 refine⟨λa w ha hw=>wpIn_block (wpIn_rangeFunc ?_)⟩;intro fn _;have had:a.defers=[]:=ha.defers.trans hds;obtain⟨rec,hrec⟩:∃rec:LoopState→Option Code→Loop,rec=λst pe=>{ state:=st,pending:=pe,fn,tmps:=a.tmps,params:=ps.toArray,assign,body,defers:=w.heap.size }:=⟨_,rfl⟩
 obtain⟨W0,hW0⟩:∃W0,w.alloc (.deferred (some []))=W0:=⟨_,rfl⟩
 obtain⟨W1,hW1⟩:∃W1,W0.alloc (.loop (rec .ready none))=W1:=⟨_,rfl⟩
 have hz:W0.heap.size=w.heap.size+1:=by rw[←hW0];simp
 have hs0:St E (vD w.heap.size::(JP s0++Hit)) W0:=by
  rw[←hW0];exact(hH w hw).newObj λF' h1 h2=>⟨h1,h2⟩
 have hs1:St E (By (w.heap.size+1) (rec .ready none)::vD w.heap.size::(JP s0++Hit)) W1:=by
  rw[←hW1];exact hs0.newObj λF' h1 h2=>⟨λb=>by rw[h1 b,hz],by rw[hz] at h2;exact h2⟩
 let J:σ→aL:=λi=>I0 (By (w.heap.size+1) (rec .ready none)::JP i)
 have hs2:St E ((J s0::Hit)++[vD w.heap.size]) W1:=by
  have h1:St E (By (w.heap.size+1) (rec .ready none)::(JP s0++Hit)++[vD w.heap.size]) W1:=by
   have:=St.swap (l:=By (w.heap.size+1) (rec .ready none)::(JP s0++Hit)) (a:=vD w.heap.size) (R:=[]) (E:=E) (w:=W1) (by
    have h2:=St.qH (l:=[By (w.heap.size+1) (rec .ready none)]) (a:=vD w.heap.size) (R:=JP s0++Hit) (E:=E) (w:=W1) hs1;simpa using h2)
   simpa using this
  refine St.I0.2 ?_;simpa using h1
 obtain⟨M,hds',hE,hst,hback⟩:=hs2.enter;obtain⟨gn,hf1,hf2,hf3⟩:=hk;refine⟨w.heap.size+1,[{ target:=.collected w.heap.size,args:=#[] }],W1,{ target:=.fn (.func gf) lb.toArray,args:=#[.func (.yield (w.heap.size+1)) #[] #[]] },W1,gf,
  #[.func (.yield (w.heap.size+1)) #[] #[]]++lb.toArray,W1,?_,?_,λ_ _=>trivial,?_,λhh=>(by cases hh),?_⟩
 ·rw[←hW1,←hW0,hrec];exact run_enterLoop_outer _ _ _ _ _
 ·rw[ha.eval];simp only[resolve,hg];simp[go_sem,ev]
 ·have h1:¬gn.name = "runtime.NumGoroutine" := by simpa using hf2
  have h2:¬gn.body=none:=by intro h;rw[h] at hf3;cases hf3
  simp[invoke,callFunc,hf1,h1,h2]
 ·have hargs : #[.func (.yield (w.heap.size+1)) #[] #[]]++lb.toArray=(Value.func (.yield (w.heap.size+1)) #[] #[]::lb).toArray:=by simp
  rw[hargs];refine wS ((iter M [vD w.heap.size] (w.heap.size+1) J hE ?_ hds' W1 hst).mono ?_)
  ·intro E2 R2 i x hE2 hok hd2 W hW;have hW':St E2 (By (w.heap.size+1) (rec .ready none)::(JP i++GP x)++[]) W:=by simpa using St.I0.1 hW
   have hy:=run_yield (P:=P) (args:=(enc x).toArray) (St.lp hW') (by rw[hrec];simp[hps]);rw[hrec] at hy;refine⟨fn,_,assign,body,hy,roundIn_of_wpIn trivial ?_⟩;obtain⟨E4,hd4,hE4,hst4,hback4⟩:=(St.swap hW').enter;have hr4:qX E4 N (QX F ps (enc x)) { tmps:=(ps.toArray.zip (enc x).toArray).foldl (λtmps (t,a)=>tmps.setIfInBounds t a) a.tmps,defers:=[] }:=by
    have h1:=qX.QX (E:=E4) (vs:=enc x) (F:=F) (t:=a.tmps) hN ⟨rfl,ha.size,ha.get⟩;rw[hd4] at h1;simpa using h1
   refine wpIn_mono ((hassign E4 _ (w.heap.size+1) i x ((hE.trans hE2).trans hE4) hd4 hok).get _ W hr4 hst4) ?_;intro e a1 w1 hq;cases e with
   |normal =>
    obtain⟨F1,H1,h1,h2,y,h3,h4⟩:=hq;have h6:=St.qH (hback4 _ _ (h4 w1 h2));refine⟨_,run_beginRound h6.lp (by rw[hrec]),?_⟩;obtain⟨E5,hd5,hE5,hst5,hback5⟩:=(St.swap (h6.Ft (r':={ rec .ready none with state:=.busy }))).enter;have hB:=hbody E5 _ (w.heap.size+1) i x y F1 ((hE.trans hE2).trans hE5) hd5 hok;rw[oH h3] at hB;refine wpIn_mono (hB.get _ _ ⟨h1.defers.trans (hd4.trans hd5.symm),h1.size,h1.get⟩ hst5) ?_;intro e a2 w2 hq2;cases e with
    |normal =>
     obtain⟨F2,H2,_,k2,k3⟩:=hq2;have k4:=St.qH (hback5 _ _ (k3.c w2 k2));refine⟨_,_,run_endRound none k4.lp,[J (step i x)],St.I0.2 ?_,rfl,rfl⟩;have k5:=k4.Ft (r':=rec .ready none);rw[hrec] at k5⊢;exact k5
    |exit id'=>obtain⟨_,_,_,_,h⟩:=hq2;exact h.elim
    |ret=>obtain⟨_,_,_,_,h⟩:=hq2;exact h.elim
    |panic c=>obtain⟨_,_,_,h⟩:=hq2;exact h.elim
    |_=>exact hq2.elim
   |ret=>obtain⟨_,_,_,_,h⟩:=hq;exact h.elim
   |exit id=>obtain⟨_,_,_,_,h⟩:=hq;exact h.elim
   |panic c=>obtain⟨_,_,_,h⟩:=hq;exact h.elim
   |_=>exact hq.elim
  ·rintro e w3 ⟨H',h1,⟨v,rfl⟩,s,Hd,hfin,rfl⟩;have h3:=hback _ _ h1;have hpn:∀st pe,(rec st pe).pending=pe:=λ_ _=>by rw[hrec]
   have h4:St E (By (w.heap.size+1) (rec .ready none)::(JP s++Hd++[vD w.heap.size])) w3:=by simpa using St.I0.1 h3
   have h5:=run_endLoop (P:=P) h4.lp (by rw[hrec];simp);rw[hpn] at h5;refine⟨none,_,h5,?_⟩;have h6:∀o,St (E.jU [{ target:=.collected w.heap.size,args:=#[] }]) (vD w.heap.size::(JP s++Hd)) (w3.putObj (w.heap.size+1) o):=λo=>by simpa using(St.qH (R:=[]) (h4.Ho (o:=o))).jU
   exact(hdone w.heap.size s Hd hfin).get _ _ ⟨by simp[had,Env.jU],ha.size,ha.get⟩ (h6 _)
end
end
end Go.Proofs.YtmilalkjbojciaaGreat.Sep
namespace Go.Proofs.YtmilalkjbojciaaGreat.Open
open Go.RowKit Mem Go.ChangeShapes Go.WideShapes Go.ChangeAt Go.Deep
def Sh{H α:Type}(R:DataW H→α→Prop)(d:DataW H)(l:List α)(c:Nat):Prop :=
 (d=.nil∧l=[]∧c=0)∨∃elems spare,d=.slice elems spare∧elems.length=l.length∧elems.length+spare.length=c∧∀i (h1:i<elems.length) (h2:i<l.length),R elems[i] l[i]
section
variable {H:Type} {enc:TypeId×Value→H} {W:World} {α:Type}
theorem cells?_len{w:World}{base:Nat}{a:Addr}{n:Nat}{cs:List Value}(h:w.cells? base a n=some cs):cs.length=n∧∀j u,cs[j]?=some u→w.cell? (a.add j)=some u:=by
 unfold World.cells? at h;split at h
 ·have h2:∀(l:List Nat) (cs:List Value),l.mapM (λi=>w.cell? (a.add i))=some cs→cs.length=l.length∧∀(j:Nat) (u:Value) (i:Nat),cs[j]?=some u→l[j]?=some i→w.cell? (a.add i)=some u:=by
   intro l
   induction l with
   |nil=>intro cs h;simp at h;subst h;simp
   |cons x l ih =>
    intro cs h;rw[List.mapM_cons] at h;obtain⟨v,h3,h4⟩:=Option.bind_eq_some_iff.1 h;obtain⟨vs,h5,h6⟩:=Option.bind_eq_some_iff.1 h4;injection h6 with h6
    subst h6;obtain⟨h7,h8⟩:=ih vs h5;refine⟨by simp[h7],λj u i hj hi=>?_⟩;cases j with
    |zero=>simp at hj hi;subst hj;subst hi;exact h3
    |succ j=>simp at hj hi;exact h8 j u i hj hi
  obtain⟨h3,h4⟩:=h2 _ _ h;refine⟨by simpa using h3,λj u hj=>h4 j u j hj ?_⟩;have:j<cs.length:=(aAd.1 hj).1;rw[List.getElem?_range];simpa using(h3▸this:j<(List.range n).length)
 ·cases h
theorem Ag{Q:Nat→α→Prop}:∀n,(∀i,i<n→∃b,Q i b)→∃l:List α,l.length=n∧∀i (hi:i<l.length),Q i l[i]
 |0,_=>⟨[],rfl,λi hi=>absurd hi (by simp)⟩
 |n+1,h=>by
  obtain⟨l,hl,hq⟩:=Ag n (λi hi=>h i o_);obtain⟨b,hb⟩:=h n o_;refine⟨l++[b],by simp[hl],λi hi=>?_⟩;by_cases hlt:i<l.length
  ·rw[List.getElem_append_left hlt];exact hq i hlt
  ·have:i=n:=by simp at hi;omega
   subst this;rw[List.getElem_append_right o_];simpa [hl] using hb
end
theorem laidOut:laidOutB prog=true:=q_
section
variable {H:Type} {enc:TypeId×Value→H} {P:Program}
theorem C8{f:Func}{s:ChangeSpec}{apart fresh handsOn again:Bool}{W W':World}{args:Array Value}{v:Value}{ds gs:List (DataW H)}{before pa pv:List MemPlace}
  (hW:DataW.Whole enc P f.params.toList s.vars apart W args.toList ds gs before)
  (hres:∀(b:Nat) (sp:Nat→Bool) (hd:Bool),DataW.TrodAll enc P W' b sp hd f.resultTypes.toList (v.resultList f.resultTypes.size) (s.fn H (ds++gs)).results [])
  (hargs:∀sp:Nat→Bool,(∀p∈before,sp p.block=true)→DataW.TrodAll enc P W' 0 sp true f.params.toList args.toList (s.fn H (ds++gs)).args pa)
  (hvars:∀sp:Nat→Bool,(∀p∈before,sp p.block=true)→DataW.TrodVars enc P W' sp s.vars (s.fn H (ds++gs)).vars pv)
  (hps:before=pa++pv) (hb:Below W.heap.size W W')
  (hok:∀(j:Nat) (t:TypeId) (r:Value),f.resultTypes[j]?=some t→(v.resultList f.resultTypes.size)[j]?=some r→Value.okWide P W' .any 0 t r) :
  s.post enc P f apart fresh handsOn again W args v W':=by
 have hlt:∀p∈before,p.block<W.heap.size:=λp hp=>hW.lt p hp;have hold:∀p∈before,(λb=>decide (b<W.heap.size)) p.block=true:=λp hp=>by simpa using hlt p hp
 refine⟨ds,gs,before,[],pa,pv,hW,hres _ _ _,hargs _ hold,hvars _ hold,World.keptBut_mono (λp hp=>⟨hp,?_⟩) (hb.frame (· ∈ before)),λ_=>?_⟩
 ·rw[hps,aBg] at hp;exact Or.inr hp
 ·obtain⟨_,_,_,_,_,hz,hn⟩:=hW;refine⟨hok,_,_,([]++pa)++pv,⟨[]++pa,pv,trodAll_append (hargs _ (λ_ _=>rfl)) (hres _ _ _),hvars _ (λ_ _=>rfl),rfl,?_,?_⟩,?_⟩
  ·intro b off hp;have hin:MemPlace.cell b off∈before:=by rw[hps];simpa using hp
   rw[hb.frozen (hlt _ hin)];exact hz b off hin
  ·intro ha;have:=hn ha;rw[hps] at this;simpa using this
  ·intro p hp _;rw[hps];simpa using hp
theorem DQ{W W':World}(hb:Below W.heap.size W W'){sp:Nat→Bool}:∀ {ts:List TypeId} {vs:List Value} {ds:List (DataW H)} {ps:List MemPlace},
  (∀t∈ts,prog.readableRec t=true∧t<prog.types.size)→DataW.TrodAll enc prog W 0 (λ_=>true) true ts vs ds ps→(∀x∈ps,x.block<W.heap.size)→(∀x∈ps,sp x.block=true) →
  DataW.TrodAll enc prog W' 0 sp true ts vs ds ps
 | [],[],[],_,_,h,_,_=>h
 |t::ts,v::vs,d::ds,ps,ht,h,hlt,hsp=>by
  obtain⟨p,q,h1,h2,rfl⟩:=h;refine⟨p,q,?_,DQ hb (λt h=>ht t (by simp[h])) h2 (λx hx=>hlt x (by simp[hx])) (λx hx=>hsp x (by simp[hx])),rfl⟩;have:=ht t (by simp);exact WideElems.Trod_stays laidOut this.1 this.2 h1 (λx hx=>hb.same (hlt x (by simp[hx]))) (λx hx=>hsp x (by simp[hx]))
 | [],_::_,_,_,_,h,_,_=>h.elim
 | [],[],_::_,_,_,h,_,_=>h.elim
 |_::_,[],_,_,_,h,_,_=>h.elim
 |_::_,_::_,[],_,_,h,_,_=>h.elim
theorem Na{f:Func}{s:ChangeSpec}{apart fresh handsOn again:Bool}{W W':World}{args:Array Value}{ds:List (DataW H)}{before:List MemPlace}
  (hW:DataW.Whole enc prog f.params.toList s.vars apart W args.toList ds [] before) (hv:s.vars=[])
  (h1:(s.fn H ds).results=[.lit (.bool true)]) (h2:(s.fn H ds).args=ds) (h3:(s.fn H ds).vars=[])
  (hr:f.resultTypes=#[4]) (hp:f.params.toList.all (λt=>prog.readableRec t&&decide (t<prog.types.size))=true) (hb:Below W.heap.size W W') :
  s.post enc prog f apart fresh handsOn again W args (.bool true) W':=by
 have hlt:∀p∈before,p.block<W.heap.size:=λp hp=>hW.lt p hp;have hW2:=hW;obtain⟨p,q,hA,hV,hpq,_,_⟩:=hW2;rw[hv] at hV;obtain⟨_,rfl⟩:=trodVars_none hV;rw[aAc] at hpq;subst hpq;have hp':∀t∈f.params.toList,prog.readableRec t=true∧t<prog.types.size:=λt ht=>by
  have:=aDm.1 hp t ht;simpa using this
 refine C8 (pa:=before) (pv:=[]) hW (λ_ _ _=>?_) (λsp hsp=>?_) (λsp _=>?_) (by simp) hb (ok_one hr rfl (okWide_bool_mk underlying4 _))
 ·rw[aAc,h1,hr];exact trodAll_cons_mk (shut_bool underlying4 _) trodAll_mk0
 ·rw[aAc,h2];exact DQ hb hp' hA hlt hsp
 ·rw[aAc,h3,hv];exact rfl
end
end Go.Proofs.YtmilalkjbojciaaGreat.Open
namespace Go.Proofs.YtmilalkjbojciaaGreat.Sep
open Go.RowKit Reg Go.ChangeShapes Go.WideShapes Go.ChangeAt Go.Deep Go.Proofs.YtmilalkjbojciaaGreat.Open
open Mem hiding Rd
def top(W:World):Env:={ w:=W,D:=λb=>b<W.heap.size }
theorem RD{P:Program}{f:FuncId}{args:Array Value}{W:World}(h:aK P (top W) f args [] λe _=>e=.returned (.bool true)) :
  Calls P f args W λe W'=>e=.returned (.bool true)∧Below W.heap.size W W' :=
 (h rfl W ⟨rfl,rfl,rfl,aAf _,λ_ h=>h,λ_ _=>rfl,λ_=>False,λ_ h=>h,λ_ _ h=>h⟩).mono λ_ _ ⟨_,hs,he⟩=>⟨he,hs.os,hs.tape,hs.output,hs.size,hs.lB⟩
section
variable {H:Type} {enc:TypeId×Value→H} {W:World} {α:Type}
theorem TK(T:Ty α)(R:DataW H→α→Prop)(hce:prog.cellsOf T.tid=T.size)
  (dec:∀n cs y,cs.length=T.size→DataW.trod enc prog W 0 (λ_=>true) true n T.tid cs=some y→∃a,cs=T.enc a∧R y.1 a)
  {t fuel:Nat} {cs:List Value} {x:DataW H×List MemPlace} (ht:prog.underlying t=some (.slice T.tid)) (h:DataW.trod enc prog W 0 (λ_=>true) true fuel t cs=some x) :
  ∃A n c l,cs=[.slice A n c]∧Rd (top W) T A n c l∧Sh R x.1 l c:=by
 rcases open_slice ht h with⟨rfl,rfl⟩|⟨a,len,cap,m,k,D,Pl,rfl,_,hl,hm,hmm,rfl,hx⟩
 ·exact⟨none,0,0,[],rfl,Rd.nil _ _,.inl ⟨rfl,rfl,rfl⟩⟩
 ·simp only[if_true] at hmm;subst hmm;have aO:∀i,i<m→∃b,R (D i) b∧∀j u,(T.enc b)[j]?=some u→W.cell? (a.add (i*T.size+j))=some u:=by
   intro i hi;obtain⟨cs',h1,h2⟩:=hx i hi;rw[hce] at h1;obtain⟨h3,h4⟩:=cells?_len h1;obtain⟨b,rfl,hR⟩:=dec _ _ _ h3 h2;refine⟨b,hR,λj u hj=>?_⟩;rw[←jI];exact h4 j u hj
  obtain⟨l,hll,hf⟩:=Ag len (λi hi=>aO i o_);subst hll;refine⟨some a,l.length,m,l,rfl,⟨rfl,hl,hm,?_⟩,.inr ⟨_,_,rfl,by simp,by simp;omega,?_⟩⟩
  ·by_cases hn:l.length=0
   ·exact .inl hn
   have hcell:∀j u,(T.bT l)[j]?=some u→W.cell? (a.add j)=some u:=by
    intro j u hu;have hj:j<l.length*T.size:=by
     have:=(aAd.1 hu).1
     rwa [T.bM] at this
    have hq:j / T.size<l.length:=Nat.div_lt_of_lt_mul (by rw[aFy];exact hj);have hdm:=Nat.div_add_mod j T.size;have hlt:j % T.size<(T.enc l[j / T.size]).length:=by rw[T.dR];exact Nat.mod_lt _ T.gL
    have h5:=T.uK (aAa hq) (aAa hlt);have e:j / T.size*T.size+j % T.size=j:=by rw[aFy];exact hdm
    rw[e,hu] at h5;have h6:=(hf (j / T.size) hq).2 (j % T.size) _ (aAa hlt);rw[e] at h6;rw[h6,←h5]
   refine .inr ⟨a,rfl,?_,hcell⟩;have h0:0<(T.bT l).length:=by
    rw[T.bM];exact Nat.mul_pos o_ T.gL
   have:=aEk _ _ (hcell 0 _ (aAa h0))
   rwa [eQ] at this
  ·intro i h1 h2;simp at h1⊢;exact(hf i h2).1
theorem P8(T:Ty α)(R:DataW H→α→Prop)(hce:prog.cellsOf T.tid=T.size)
  (dec:∀n cs y,cs.length=T.size→DataW.trod enc prog W 0 (λ_=>true) true n T.tid cs=some y→∃a,cs=T.enc a∧R y.1 a)
  {t:TypeId} {v:Value} {d:DataW H} {p:List MemPlace} {base:Nat} (ht:prog.underlying t=some (.slice T.tid)) (hv:Value.okWide prog W .any base t v) (h:DataW.Trod enc prog W 0 (λ_=>true) true t v d p) :
  ∃A n c l,v=.slice A n c∧Rd (top W) T A n c l∧Sh R d l c:=by
 obtain⟨a,len,cap,rfl⟩:=okWide_slice ht hv;obtain⟨fuel,hf⟩:=h;obtain⟨A,n,c,l,hcs,hr,hs⟩:=TK T R hce dec ht hf;simp[Value.cells] at hcs;obtain⟨rfl,rfl,rfl⟩:=hcs;exact⟨_,_,_,l,rfl,hr,hs⟩
theorem gA{n:Nat}{t:TypeId}{k:IntKind}{v:Value}{z:DataW H×List MemPlace}(ht:prog.underlying t=some (.int k))(h:DataW.trod enc prog W 0 (λ_=>true) true n t [v]=some z):∃i:Int,v=.int k i∧(Lit.int k i).wf=true:=by
 obtain⟨i,h1,_,h3⟩:=DataW.trod_int ht h;injection h1 with h1 _
 exact⟨i,h1,h3⟩
theorem Vo{α:Type}{q:α→Prop}{d:DataW H}{l:List α}{c:Nat}(h:Sh (λ_ a=>q a) d l c):∀x∈l,q x:=by
 rcases h with⟨_,rfl,_⟩|⟨elems,spare,_,h1,_,h3⟩
 ·intro x hx;cases hx
 ·intro x hx;obtain⟨i,hi,rfl⟩:=aBm hx;exact h3 i o_ hi
end
end Go.Proofs.YtmilalkjbojciaaGreat.Sep
