/- Part AE: what it needs. No condition. -/
import Derived.Test.YtmilalkjbojciaaGreatRAA
import Derived.Test.YtmilalkjbojciaaGreatRAC
import Derived.RecoverIn
import Derived.Test.YtmilalkjbojciaaGreatRAB
set_option maxRecDepth 100000
set_option maxHeartbeats 8000000
open Go.Proofs.Tryz
namespace Go.Proofs.YtmilalkjbojciaaGreat.Sep
open Go.RowKit Mem Reg
section
variable {P:Program} {N:Nat} {E:Env} {Q:QF} {F:Nat→Value} {H R:List aL}
def Z3(v:Value):List PanicEntry:=[{ v,recovered:=false }]
theorem CV{f:FuncId}{fn:Func}{ops:List Operand}{tys:Array TypeId}{Hp:List aL}{vs:List Value}{Q1:Ending→List aL→Prop}{o:Oper}(ho:o.op=.call { callee:=.value (.func f),args:=ops.toArray,argTypes:=tys })(hvs:AO F ops=vs)
  (hfn:P.funcs[f]?=some fn) (hname:(fn.name == "runtime.NumGoroutine")=false) (hbody:fn.body.isNone=false)
  (hp:cS Hp H R) (h:∀M,Sub E R M→aK P M f vs.toArray Hp Q1) {Kw:Act→World→Prop} {Q':Exit→Act→World→Prop} {a:Act} {u:World} (ha:qX E N F a) (hu:St E H u)
  (hr:∀v H' u',Q1 (.returned v) H'→St E (H'++R) u'→Kw (a.put o.dst v) u')
  (hc:∀c H' u',Q1 (.panicked c) H'→St E (H'++R) u'→Q' (.panic c) a u')
  (hno:∀H',¬Q1 .outgrown H'):o.wp P a u Kw Q':=by
 subst hvs;obtain⟨M,hds,hE,hst,hback⟩:=(hu.aV hp).enter;unfold Oper.wp;have hx:(execOp a.eval o).run P u=.ok (.enter f (AO F ops).toArray) u:=by
  have h1:¬fn.name = "runtime.NumGoroutine" := by simpa using hname
  have h2:¬fn.body=none:=by intro h;rw[h] at hbody;cases hbody
  rw[ha.eval,AB];simp[execOp,ho,resolve,ev,Deferred.ofValue,invoke,callFunc,hfn,h1,h2]
 rw[hx];refine(h M hE hds u hst).mono ?_;rintro e w' ⟨H',h3,h4⟩;cases e with
 |returned v=>exact hr v H' w' h4 (hback H' w' h3)
 |panicked c=>exact hc c H' w' h4 (hback H' w' h3)
 |outgrown=>exact(hno H' h4).elim
theorem V.e9{ρ:Operand→Value}{x:Operand}{v:Value}{t:TypeId}{u:World}{o:Oper}(ho:o.op=.makeInterface t x)(hx:ρ x=v)(ht:P.concrete t=true):(execOp ρ o).run P u=.ok (.value (.iface t v)) u:=by
 simp[execOp,ho,hx,run_makeInterface u t v ht]
theorem L.panic{x:Operand}{v:Value}{t:TypeId}{ops rest:List Oper}{d:Option Nat}{ty:TypeId}{pos:String}{af:Array Edge}
  (hx:ev F x=.iface t v) (hq:Q (.panic (Z3 (.iface t v))) (λ_=>undef) H):L P N E ops Q (⟨d,.panic x,ty,pos,af,none⟩::rest) F H:=by
 refine⟨λa w ha hw=>wpList_plain rfl λK hK=>?_⟩;unfold Oper.wp;have hx:(execOp a.eval ⟨d,.panic x,ty,pos,af,none⟩).run P w=.halt (.panic (.iface t v)) w:=by
  rw[ha.eval];simp[execOp,Instr.panic,hx]
 rw[hx];exact⟨ha.defers,H,hw,hq⟩
end
structure xD(P:Program)(N:Nat)(E:Env)(ops:List Oper)(Qw:Exit→Act→World→Prop)(l:List Oper)(F:Nat→Value)(H:List aL):Prop where
 get:∀a w,qX E N F a→St E H w→wpListIn (fz none) 0 P ops.toArray Qw l a w
section
variable {P:Program} {N:Nat} {E:Env} {Q:QF} {Qw:Exit→Act→World→Prop} {F:Nat→Value} {H R:List aL}
theorem WJ.Zd{id:Nat}{ops:List Oper}{y:Code}(h:xD P N E ops (Exit.then (λa w=>y.wpIn (fz none) 0 P Qw a w) Qw) ops F H):WJ P N E (.seq (.region id ops.toArray false) y) Qw F H :=
 ⟨λa w ha hw=>wpIn_seq (wpIn_region_lit (h.get a w ha hw))⟩
theorem xD.nil{ops:List Oper}{y:Code}(h:WJ P N E y Qw F H):xD P N E ops (Exit.then (λa w=>y.wpIn (fz none) 0 P Qw a w) Qw) [] F H:=⟨λa w ha hw=>h.get a w ha hw⟩
theorem xD.Yd{ops rest:List Oper}{d:Nat}{op:Op}{ty:TypeId}{pos:String}{af:Array Edge}{v:Value}(hd:d<N)(hdf:∀c,op≠.defer c)
  (hy:qB P E H (ev F) ⟨some d,op,ty,pos,af,none⟩ v) (h:xD P N E ops Qw rest (pT F d v) H):xD P N E ops Qw (⟨some d,op,ty,pos,af,none⟩::rest) F H:=by
 refine⟨λa w ha hw=>?_⟩;refine wpListIn_plain rfl λK hK=>Cs hdf ?_;unfold Oper.wp;rw[ha.eval,hy w hw];exact hK _ _ (h.get _ w (ha.put hd v) hw)
theorem xD.YV{ops rest:List Oper}{d f:Nat}{xs:List Operand}{vs:List Value}{ty:TypeId}{pos:String}{af:Array Edge}(hd:d<N)(hx:KV F xs vs)
  (h:xD P N E ops Qw rest (pT F d (.func (.func f) #[] vs.toArray)) H):xD P N E ops Qw (⟨some d,.makeFunc (.func f) #[] xs.toArray,ty,pos,af,none⟩::rest) F H :=
 xD.Yd hd (λ_=>by simp) (λu _=>V.Tt rfl rfl hx) h
theorem xD.defer{ops rest:List Oper}{f:Nat}{vs:List Value}{x:Operand}{tys:Array TypeId}{ty:TypeId}{pos:String}{af:Array Edge}(hx:ev F x=.func (.func f) #[] vs.toArray)
  (h:xD P N (E.jU ({ target:=.fn (.func f) vs.toArray,args:=#[] }::E.ds)) ops Qw rest F H):xD P N E ops Qw (⟨none,.defer { callee:=.value x,args:=#[],argTypes:=tys },ty,pos,af,none⟩::rest) F H:=by
 refine⟨λa w ha hw=>?_⟩;refine wpListIn_plain rfl λK hK=>?_;have hr:(execOp a.eval ⟨none,.defer { callee:=.value x,args:=#[],argTypes:=tys },ty,pos,af,none⟩).run P w=.ok (.defer { target:=.fn (.func f) vs.toArray,args:=#[] }) w:=by
  rw[ha.eval];simp[execOp,resolve,hx,Deferred.ofValue]
 refine⟨λ_ _=>trivial,?_⟩;rw[show(fz none).round=none from rfl,Oper.semAt_none,hr,Oper.uponIn_defer];refine hK _ _ (h.get _ w ⟨?_,ha.size,ha.get⟩ hw.jU);show _::a.defers=_::E.ds;rw[ha.defers]
theorem xD.Wx{f:FuncId}{fn:Func}{args:List Operand}{tys:Array TypeId}{Hp:List aL}{Q1:Ending→List aL→Prop}{ops rest:List Oper}{d:Nat}{ty:TypeId}{pos:String}{af:Array Edge}(hd:d<N)
  (hfn:P.funcs[f]?=some fn) (hname:(fn.name == "runtime.NumGoroutine")=false) (hbody:fn.body.isNone=false)
  (hp:cS Hp H R) (h:∀M,Sub E R M→aK P M f (AO F args).toArray Hp Q1) (hno:∀H',¬Q1 .outgrown H')
  (hc:∀c H',Q1 (.panicked c) H'→∀a w,qX E N F a→St E (H'++R) w→Qw (.panic c) a w)
  (hk:∀v H',Q1 (.returned v) H'→xD P N E ops Qw rest (pT F d v) (H'++R)) :
  xD P N E ops Qw (⟨some d,.call { callee:=.value (.func f),args:=args.toArray,argTypes:=tys },ty,pos,af,none⟩::rest) F H:=by
 refine⟨λa w ha hw=>?_⟩;refine wpListIn_plain rfl λK hK=>Cs (λ_=>by simp) ?_;exact CV rfl rfl hfn hname hbody hp h ha hw (λv H' u' hq hu'=>hK _ _ ((hk v H' hq).get _ u' (ha.put hd v) hu')) (λc H' u' hq hu'=>hc c H' hq a u' ha hu') hno
structure Lv(P:Program)(N:Nat)(E:Env)(fn:Func)(W:Ending→List aL→Prop)(ds:List Deferred)(u:FrameMode)(F:Nat→Value)(H:List aL):Prop where
 get:∀a w,qX (E.jU ds) N F a→St (E.jU ds) H w→LeavesIn (fz none) 0 P fn a.tmps (λe w'=>∃H',St E H' w'∧W e H') a.defers u w
def N4(P:Program)(E:Env)(f:FuncId)(args:Array Value)(u:FrameMode)(H:List aL)(R:Ending→FrameMode→List aL→Prop):Prop :=
 E.ds=[]→∀w,St E H w→CallsDIn (fz none) 0 P f args u w λe u' w'=>∃H',St E H' w'∧R e u' H'
theorem Lv.one{fn:Func}{W:Ending→List aL→Prop}{f:Nat}{vs:List Value}{u:FrameMode}{Hp:List aL}{R1:Ending→FrameMode→List aL→Prop}(hu:u≠.run)(hfn:∃g,P.funcs[f]?=some g∧(g.name == "runtime.NumGoroutine")=false∧g.body.isNone=false)
  (hp:cS Hp H R) (h:∀M,Sub E R M→N4 P M f vs.toArray u Hp R1)
  (hk:∀e u' H',R1 e u' H'→(∃v,e=.returned v)∧Go.settle u'=.returning∧gF P E fn W .ret F (H'++R)):Lv P N E fn W [{ target:=.fn (.func f) vs.toArray,args:=#[] }] u F H:=by
 refine⟨λa w ha hw=>?_⟩;obtain⟨g,h1,h2,h3⟩:=hfn;rw[ha.defers];refine leavesIn_cons (f:=f) (args:=vs.toArray) hu (λh=>by cases h) ?_ (λ_ _=>trivial) ?_
 ·have h1':¬g.name = "runtime.NumGoroutine" := by simpa using h2
  have h2':¬g.body=none:=by intro h;rw[h] at h3;cases h3
  simp[invoke,callFunc,h1,h1',h2']
 ·obtain⟨M,hds,hE,hst,hback⟩:=(hw.JC.aV hp).enter;refine(h M hE hds w hst).mono ?_;rintro e u' w' ⟨H',hs,hr⟩;obtain⟨⟨v,rfl⟩,hu',v2,H2,k1,k2,k3⟩:=hk e u' H' hr;have hs2:=hback H' w' hs;show LeavesIn _ _ _ _ _ _ [] (Go.settle u') w';rw[hu'];refine⟨v2,?_,H2,k2 _ hs2,k3⟩;rw[show results fn a.tmps=yC fn F from pV ha];exact k1 _ hs2
theorem Xb{f:FuncId}{fn:Func}{c:Code}{args:Array Value}{W:Ending→List aL→Prop}(hf:P.funcs[f]?=some fn)(hb:fn.body=some c)(hn:fn.ntmps=N)(ha:args.size≤N)
  (h:E.ds=[]→WJ P N E c (bodyPostDIn (fz none) 0 P fn λe w'=>∃H',St E H' w'∧W e H') (Jr args) H):aK P E f args H W:=by
 intro hds w hw;refine qC (n:=0) (callsIn_of_wp_defers hf hb trivial ((h hds).get _ w ?_ hw));refine⟨hds.symm,by simp;omega,λi=>?_⟩;simp only[Jr,Fl,aBb,aEe,aBy,aEo,aDt];split
 ·rfl
 ·rename_i h;rw[aCu o_];split<;>rfl
def Zx(P:Program)(N:Nat)(E:Env)(fn:Func)(W:Ending→List aL→Prop)(ds:List Deferred):QF
 | .normal,F,H | .ret,F,H=>Lv P N E fn W ds .returning F H
 |_,_,_=>False
theorem WJ.l7{fn:Func}{tail:Code}{W:Ending→List aL→Prop}{ds:List Deferred}(h:C P N (E.jU ds) tail (Zx P N E fn W ds) F H) :
  WJ P N (E.jU ds) tail (bodyPostDIn (fz none) 0 P fn λe w'=>∃H',St E H' w'∧W e H') F H:=by
 refine⟨λa w ha hw=>wpIn_mono ((wpIn_wide (n:=0)).2 (h.get a w ha hw)) ?_⟩;intro e a w hq;cases e with
 |normal=>obtain⟨F,H,hr,hs,hp⟩:=hq;exact hp.get a w hr hs
 |ret=>obtain⟨F,H,hr,hs,hp⟩:=hq;exact hp.get a w hr hs
 |exit id=>obtain⟨_,_,_,_,h⟩:=hq;exact h.elim
 |panic c=>obtain⟨_,_,_,h⟩:=hq;exact h.elim
 |_=>exact hq.elim
def asked:FrameMode→Value×FrameMode
 | .panicking ({ v,recovered:=false,goexit:=false }::older)=>(v,.panicking ({ v,recovered:=true }::older))
 |u=>(.nilIface,u)
theorem Ur{f:FuncId}{fn:Func}{id d1 d2:Nat}{ty ty2:TypeId}{pos pos2:String}{af af2:Array Edge}{tys:Array TypeId}{y:Code}{args:Array Value}{u:FrameMode}{W:Ending→List aL→Prop}(hf:P.funcs[f]?=some fn)
  (hb:fn.body=some (.seq (.region id #[⟨some d1,.call { callee:=.builtin .recover,args:=#[],argTypes:=tys },ty,pos,af,none⟩,⟨some d2,.assign (.tmp d1),ty2,pos2,af2,none⟩] false) y)) (hn:fn.ntmps=N) (ha:args.size≤N) (hd1:d1<N) (hd2:d2<N)
  (h:C P N E y (gF P E fn W) (pT (pT (Jr args) d1 (asked u).1) d2 (asked u).1) H):N4 P E f args u H (λe u' H'=>u'=(asked u).2∧W e H'):=by
 intro hds w hw;have hr:qX E N (Jr args) { tmps:=args++Array.replicate (fn.ntmps - args.size) undef,defers:=[] }:=by
  refine⟨hds.symm,by simp;omega,λi=>?_⟩;simp only[Jr,Fl,aBb,aEe,aBy,aEo,aDt];split
  ·rfl
  ·rename_i h;rw[aCu o_];split<;>rfl
 have hr1:=(hr.put hd1 (asked u).1).put hd2 (asked u).1;refine callsDIn_of_wpSIn hf hb trivial λc₀ cs hu=>?_;apply wpSIn_seq;apply wpSIn_region;have key:∀(K:Value→List Frame→Prop),K (asked u).1 ({ c₀ with mode:=(asked u).2 }::cs)→(match recoverD (c₀::cs) with
  |some (v,cs')=>K v cs'
  |none=>K .nilIface (c₀::cs)):=by
  intro K hK;subst hu;have e:recoverD (c₀::cs)=(match c₀.mode with
   | .panicking ({ v,recovered:=false,goexit:=false }::older)=>some (v,{ c₀ with mode:=.panicking ({ v,recovered:=true }::older) }::cs)
   |_=>none):=rfl
  rw[e];unfold asked at hK;split at hK
  ·exact hK
  ·exact hK
 simp only[wpOpsSIn,show(#[(⟨some d1,.call { callee:=.builtin .recover,args:=#[],argTypes:=tys },ty,pos,af,none⟩:Oper),⟨some d2,.assign (.tmp d1),ty2,pos2,af2,none⟩]).size=2 from rfl,show List.range 2=[0,1] from rfl];simp[go_sem,execOp];have hlt:d1<args.size+(fn.ntmps - args.size):=o_;simp only[hlt,if_true];refine key (λv cs'=>Code.wpSIn (fz none) 0 P y (bodyPostS P fn c₀ cs λe u' w'=>∃H',St E H' w'∧u'=(asked u).2∧W e H')
  { tmps:=((args++Array.replicate (fn.ntmps - args.size) undef).setIfInBounds d1 v).setIfInBounds d2 v,defers:=[] } cs' w) ?_
 refine wpSIn_of_wpIn rfl ((wpIn_wide (n:=0)).2 (wp_mono (h.get _ w hr1 hw) ?_));intro e a' w' hq;cases e with
 |normal=>obtain⟨F',H',k1,k2,v,H1,k3,k4,k5⟩:=hq;exact⟨k1.defers.trans hds,_,rfl,v,by rw[pV k1];exact k3 _ k2,H1,k4 _ k2,rfl,k5⟩
 |ret=>obtain⟨F',H',k1,k2,v,H1,k3,k4,k5⟩:=hq;exact⟨k1.defers.trans hds,_,rfl,v,by rw[pV k1];exact k3 _ k2,H1,k4 _ k2,rfl,k5⟩
 |exit id=>obtain⟨_,_,_,_,h⟩:=hq;exact h.elim
 |panic c=>obtain⟨k1,H',k2,k3⟩:=hq;exact⟨k1.trans hds,_,rfl,H',k2,rfl,k3⟩
 |_=>exact hq.elim
end
end Go.Proofs.YtmilalkjbojciaaGreat.Sep
namespace Go.Proofs.YtmilalkjbojciaaGreat.Sep
open Go.RowKit Reg
open Mem hiding Rd
def small(n:Int):Bool:=decide (0≤n∧n≤255)
theorem MF:Rec prog 90 [.int .i64 0,.int .i64 0,.int .i64 0,.slice none 0 0] [(0,2),(2,1),(3,1)]:=⟨q_,q_⟩
instance Tn:cL 90 [.int .i64 0,.int .i64 0,.int .i64 0,.slice none 0 0] [(0,2),(2,1),(3,1)]:=⟨MF⟩
section
variable {α:Type} {T:Ty α} {P:Program} {N:Nat} {E:Env} {F:Nat→Value} {ρ:Operand→Value} {H H' R:List aL} {o:Oper} {A:Option Addr} {n c k:Nat} {l:List α} {cs cs':List Value}
def D7(T:Ty α)(A:Option Addr)(n c:Nat)(l:List α)(k:Nat)(cs:List Value):aL where
 holds F w:=n=l.length∧k<n∧n≤c∧c≤maxLen∧cs.length=T.size∧∃g cur,A=some ⟨g,0,none⟩∧(∀b,F b↔b=g)∧w.heap[g]?=some (.cells cur T.tid (0,0))∧cur.size=c*T.size∧cur.toList.take (n*T.size)=T.bT (l.take k)++cs++T.bT (l.drop (k+1))
 loc:=by
  rintro F w w' ⟨h0,h1,h2,h3,h4,g,cur,h5,h6,h7,h8⟩ hk;exact⟨h0,h1,h2,h3,h4,g,cur,h5,h6,(hk _ ((h6 _).2 rfl)).trans h7,h8⟩
 lt:=by
  rintro F w b ⟨h0,h1,h2,h3,h4,g,cur,h5,h6,h7,h8⟩ hb;rw[(h6 _).1 hb];exact(aBv.1 h7).1
theorem IM{e:α}(he:l[k]?=some e):T.bT l=T.bT (l.take k)++T.enc e++T.bT (l.drop (k+1)):=by
 obtain⟨hk,rfl⟩:=aAd.1 he;rw[aAb,←T.eW,←aAm hk,←T.iU,aAx]
theorem aB.D7{e:α}(he:l[k]?=some e)(hr:dT (own T A n c l) [Sep.D7 T A n c l k (T.enc e)] H H'):aB E H H':=λw hw =>
 hw.jX hr rfl rfl rfl (aAf _) (G:=λ_=>False) (λ_ _ _=>rfl) λF1 h1=>by
  have hk:=(aAd.1 he).1;obtain⟨h0,⟨h2,_⟩|⟨g,cur,h2,h3,h4,h5,h6,h7,h8⟩⟩:=h1
  ·omega
  ·exact⟨F1,⟨F1,λ_=>False,λb=>by simp,λ_ _ h=>h,⟨h0,by omega,h5,h6,T.dR e,g,cur,h2,h3,h4,h7,by rw[h8];exact IM he⟩,λ_ h=>h⟩,λb hb=>.inl hb,λb _ hb=>hb.elim⟩
theorem aB.YT{e:α}{l':List α}(hl:l.set k e=l')(hr:dT (Sep.D7 T A n c l k (T.enc e)) [own T A n c l'] H H'):aB E H H':=λw hw =>
 hw.jX hr rfl rfl rfl (aAf _) (G:=λ_=>False) (λ_ _ _=>rfl) λF1 h1=>by
  subst hl;obtain⟨h0,h1,h2,h3,h4,g,cur,h5,h6,h7,h8,h9⟩:=h1;refine⟨F1,⟨F1,λ_=>False,λb=>by simp,λ_ _ h=>h,⟨by rw[aAt];exact h0,.inr ⟨g,cur,h5,h6,h7,h2,h3,h8,?_⟩⟩,λ_ h=>h⟩,λb hb=>.inl hb,λb _ hb=>hb.elim⟩;rw[h9,T.Bo o_,T.nX,T.gD]
theorem Cells.D7(h:Has (Sep.D7 T A n c l k cs) H R){q:Nat}(hq:q=k*T.size):Cells E H ((ad A).add q) cs:=by
 subst hq;intro w hw j u hu;obtain⟨F0,h1,_⟩:=hw.has h;obtain⟨h0,h1,h2,h3,h4,g,cur,rfl,h6,h7,h8,h9⟩:=h1;have hj:=(aAd.1 hu).1;show w.cell? (((⟨g,0,none⟩:Addr).add (k*T.size)).add j)=_;rw[fB,fB,aCa,cell_of_row _ _ _ _ _ _ h7];have hlen:(T.bT (l.take k)).length=k*T.size:=by rw[T.bM,aAg,aBr o_]
 have hkn:(k+1)*T.size≤n*T.size:=aBa _ h1;rw[aDb,aDq] at hkn;have e1:(cur.toList.take (n*T.size))[k*T.size+j]?=some u:=by
  rw[h9,aAb,aBc o_,hlen,aEw,aBp hj,hu]
 rw[aEd] at e1;split at e1
 ·simpa using e1
 ·cases e1
theorem Cell.D7(h:Has (Sep.D7 T A n c l k cs) H R){q j:Nat}(hq:q=k*T.size){v:Value}(hv:cs[j]?=some v):Cell E H (((ad A).add q).add j) v:=λw hw=>Cells.D7 h hq w hw j v hv
theorem Y.Xx{t:TypeId}{x:Operand}{q j:Nat}{v:Value}{d:TypeDesc}(ho:o.op=.load t x)(hx:ρ x=.pointer (some (((ad A).add q).add j)))(ht:P.underlying t=some d)(hd:lT d=false)(h:Has (Sep.D7 T A n c l k cs) H R)(hq:q=k*T.size)(hv:cs[j]?=some v):qB P E H ρ o v :=
 Y.load ho hx ht hd (Cell.D7 h hq hv)
theorem Y.Ue{t:TypeId}{x:Operand}{q j m:Nat}{vs:List Value}{d:TypeDesc}{ti:TypeInfo}(ho:o.op=.load t x)(hx:ρ x=.pointer (some (((ad A).add q).add j)))(ht:P.underlying t=some d)(hd:lT d=true)(hi:P.info? t=some ti)(hm:ti.size=m)
  (h:Has (Sep.D7 T A n c l k cs) H R) (hq:q=k*T.size) (hs:Fm cs j m vs):qB P E H ρ o (.agg vs.toArray) :=
 Y.xE ho hx ht hd hi (hm.trans hs.eq.1.symm) λw hw i u hu=>by
  rw[jI];exact Cells.D7 h hq w hw (j+i) u (hs.eq.2 i u hu)
theorem S.TA{t:TypeId}{x y:Operand}{q j:Nat}{v:Value}{ti:TypeInfo}(ho:o.op=.store t x y)(hx:ev F x=.pointer (some (((ad A).add q).add j)))(hy:ev F y=v)(h1:v.oneCell'=true)(hi:prog.info? t=some ti)(hs:ti.size=1)(hq:q=k*T.size)
  (hr:dT (Sep.D7 T A n c l k cs) [Sep.D7 T A n c l k cs'] H H') (hj:j<cs.length) (hcs:cs.set j v=cs'):gK prog N E F H o λr H1=>r=undef∧H1=H':=by
 subst hcs hq;intro a u ha hu Kw Q' hK;obtain⟨R,hhas,F0,h0⟩:=hu.xO hr;obtain⟨k0,k1,k2,k3,k4,g,cur,rfl,k6,k7,k8,k9⟩:=h0;have hcv:v.cells=#[v]:=by cases v<;>first|rfl|cases h1
 have hlen:(T.bT (l.take k)).length=k*T.size:=by rw[T.bM,aAg,aBr o_]
 have hkn:(k+1)*T.size≤n*T.size:=aBa _ k1;have hnc:n*T.size≤c*T.size:=aBa _ k2;rw[aDb,aDq] at hkn;have e0:((ad (some ⟨g,0,none⟩)).add (k*T.size)).add j=⟨g,k*T.size+j,none⟩:=by show((⟨g,0,none⟩:Addr).add _).add _=_;rw[fB,fB,aCa]
 have hst:=run_storeVar_row (P:=prog) (u:=u) (v:=v) (q:=k*T.size+j) hi (by rw[hcv,hs];rfl) (by rw[hcv];intro x hx;simp at hx;subst hx;exact h1) k7 (by rw[hcv];simp;omega);unfold Oper.wp;rw[ha.eval];have hrun:(execOp (ev F) o).run prog u=.ok .skip (u.setRow g (cur.toList.take (k*T.size+j)++v.cells.toList++cur.toList.drop (k*T.size+j+v.cells.size)).toArray):=by
  simp only[execOp,ho,hx,hy,Instr.storeAt,Instr.sureAddr,e0,aAy,aCc,aAr,hst]
 rw[hrun];refine hK undef _ _ ⟨rfl,rfl⟩ (St.setRow hu hr g _ λF1 j1=>?_);obtain⟨m0,m1,m2,m3,m4,g',cur',m5,m6,m7,m8,m9⟩:=j1;injection m5 with m5;injection m5 with m5 _;subst m5
 rw[k7] at m7;injection m7 with m7;injection m7 with m7 _ _
 subst m7;have hset:cur.toList.take (k*T.size+j)++v.cells.toList++cur.toList.drop (k*T.size+j+v.cells.size)=cur.toList.set (k*T.size+j) v:=by
  rw[hcv,aDg,if_pos (by simp;omega)];simp
 refine⟨(m6 _).2 rfl,m0,m1,m2,m3,by rw[aAt];exact m4,g,_,rfl,m6,setRow_heap u g _ _ _ _ k7,?_,?_⟩
 ·rw[hset];simp;exact k8
 ·rw[hset];show(cur.toList.set (k*T.size+j) v).take (n*T.size)=_;rw[List.take_set,k9,aAb,List.set_append_right _ _ o_,hlen,aEw,List.set_append_left _ _ o_,aAb]
theorem aB.NJ{e:α}(he:l[k]?=some e)(hcs:T.enc e=cs)(hr:dT (own T A n c l) [Sep.D7 T A n c l k cs] H H'):aB E H H':=by subst hcs;exact aB.D7 he hr
theorem aB.V9{e:α}{l':List α}(hcs:T.enc e=cs)(hl:l.set k e=l')(hr:dT (Sep.D7 T A n c l k cs) [own T A n c l'] H H'):aB E H H':=by subst hcs;exact aB.YT hl hr
theorem S.Ia{t:TypeId}{x y:Operand}{q:Nat}{vs:List Value}{ti:TypeInfo}(ho:o.op=.store t x y)(hx:ev F x=.pointer (some ((ad A).add q)))(hy:ev F y=.agg vs.toArray)(h1:vs.all Value.oneCell'=true)(hi:prog.info? t=some ti)(hs:vs.length=ti.size)(hq:q=k*T.size)
  (hr:dT (Sep.D7 T A n c l k cs) [Sep.D7 T A n c l k cs'] H H') (hj:vs.length≤cs.length) (hcs:vs++cs.drop vs.length=cs'):gK prog N E F H o λr H1=>r=undef∧H1=H':=by
 subst hcs hq;intro a u ha hu Kw Q' hK;obtain⟨R,hhas,F0,h0⟩:=hu.xO hr;obtain⟨k0,k1,k2,k3,k4,g,cur,rfl,k6,k7,k8,k9⟩:=h0;have hcv:(Value.agg vs.toArray).cells.toList=vs:=by simp[Value.cells]
 have hcz:(Value.agg vs.toArray).cells.size=vs.length:=by simp[Value.cells]
 have hlen:(T.bT (l.take k)).length=k*T.size:=by rw[T.bM,aAg,aBr o_]
 have hkn:(k+1)*T.size≤n*T.size:=aBa _ k1;have hnc:n*T.size≤c*T.size:=aBa _ k2;rw[aDb,aDq] at hkn;have e0:(ad (some ⟨g,0,none⟩)).add (k*T.size)=⟨g,k*T.size,none⟩:=by show(⟨g,0,none⟩:Addr).add _=_;rw[fB,aCa]
 have hst:=run_storeVar_row (P:=prog) (u:=u) (v:=.agg vs.toArray) (q:=k*T.size) hi (by rw[hcz,hs]) (by rw[hcv];exact aDm.1 h1) k7 (by rw[hcz];omega);rw[hcv,hcz] at hst;unfold Oper.wp;rw[ha.eval];have hrun:(execOp (ev F) o).run prog u=.ok .skip (u.setRow g (cur.toList.take (k*T.size)++vs++cur.toList.drop (k*T.size+vs.length)).toArray):=by
  simp only[execOp,ho,hx,hy,Instr.storeAt,Instr.sureAddr,e0,aAy,aCc,aAr,hst]
 rw[hrun];refine hK undef _ _ ⟨rfl,rfl⟩ (St.setRow hu hr g _ λF1 j1=>?_);obtain⟨m0,m1,m2,m3,m4,g',cur',m5,m6,m7,m8,m9⟩:=j1;injection m5 with m5;injection m5 with m5 _;subst m5
 rw[k7] at m7;injection m7 with m7;injection m7 with m7 _ _
 subst m7;refine⟨(m6 _).2 rfl,m0,m1,m2,m3,by simp;omega,g,_,rfl,m6,setRow_heap u g _ _ _ _ k7,?_,?_⟩
 ·simp;omega
 ·show(cur.toList.take (k*T.size)++vs++cur.toList.drop (k*T.size+vs.length)).take (n*T.size)=_;have hp:cur.toList.take (k*T.size)=T.bT (l.take k):=by
   have:=congrArg (List.take (k*T.size)) k9;rw[aEn,aBr o_,aAb,aBj hlen] at this;exact this
  have hd:(cur.toList.take (n*T.size)).drop (k*T.size+vs.length)=cs.drop vs.length++T.bT (l.drop (k+1)):=by
   rw[k9,aAb,←aBt,aBu hlen,aFa hj]
  have hcl:(cur.toList.take (k*T.size)++vs).length=k*T.size+vs.length:=by rw[aAe,hp,hlen]
  rw[aEt,hcl,aAj o_,←List.drop_take,hd,hp];simp
end
section
variable {E:Env} {X:Type} {f:X→aL} {l:List X} {H R:List aL}
theorem aB.swap{i:Nat}{x x':X}(hx:l[i]?=some x)(hp:cS [f x',aO f l] H R):aB E H (aO f (l.set i x')::R):=by
 have hi:=(aAd.1 hx).1;have h1:aB E H (f x'::aO f l::R):=λw hw=>hw.aV hp;have h2:aB E (f x'::aO f l::R) (f x::aO f (l.eraseIdx i)::f x'::R):=aB.out (f:=f) (l:=l) (Has.aM Has.aN) hx;have h3:aB E (f x::aO f (l.eraseIdx i)::f x'::R) (aO f (l.set i x')::f x::R):=aB.BH (f:=f) (l:=l.eraseIdx i) (i:=i) (x:=x') (.cons (.aM (.aM .aN)) (.cons (.aM .aN) .nil)) (uO hi);have h4:aB E (aO f (l.set i x')::f x::R) (aO f (l.set i x')::R):=λw hw=>(hw.aV (l:=[f x]) (.cons (.aM .aN) .nil)).right;exact h1.trans (h2.trans (h3.trans h4))
end
section
variable {P:Program} {N z:Nat} {E:Env} {Q:QF} {F:Nat→Value} {H:List aL}
theorem zL.val{i:Nat}{todo:Td}{l:List Oper}{Hk:List aL}{d:Nat}{op:Op}{ty:TypeId}{pos:String}{af:Array Edge}{gd:Option (Nat×Bool)}{v:Value}(hi:nth l i=some ⟨some d,op,ty,pos,af,gd⟩)(hd:d<N)(hg:rE l N F true gd)
  (hy:qB P E H (ev F) ⟨some d,op,ty,pos,af,gd⟩ v) (hc:aB E H Hk) (h:Dr P N E z l Q Hk todo (pT F d v) H):zL P N E z l Q Hk i todo F H :=
 zL.go hi (by rintro k ⟨⟩;exact hd) hg (gK.Yd hy ⟨hc,h⟩)
theorem Dr.val{i:Nat}{todo:Td}{l:List Oper}{Hk:List aL}{d:Nat}{op:Op}{ty:TypeId}{pos:String}{af:Array Edge}{gd:Option (Nat×Bool)}{v:Value}(hi:nth l i=some ⟨some d,op,ty,pos,af,gd⟩)(hd:d<N)(hg:rE l N F true gd)
  (hy:qB P E H (ev F) ⟨some d,op,ty,pos,af,gd⟩ v) (hc:aB E H Hk) (h:Dr P N E z l Q Hk todo (pT F d v) H):Dr P N E z l Q Hk (.one i true todo) F H :=
 Dr.all (zL.val hi hd hg hy hc h)
theorem zL.Iq{todo:Td}{l:List Oper}{Hk:List aL}{d:Option Nat}{op:Op}{ty:TypeId}{pos:String}{af:Array Edge}{gd:Option (Nat×Bool)}{K:Value→List aL→Prop}(hi:nth l z=some ⟨d,op,ty,pos,af,gd⟩)(hd:∀k,d=some k→k<N)(hg:rE l N F true gd)
  (h:gK P N E F H ⟨d,op,ty,pos,af,gd⟩ K) (hk:∀v H',K v H'→FU P N E z l Q todo (DJ F d v) H'):zL P N E z l Q Hk z todo F H:=by
 refine⟨λlisted a u hcl hs hc ha hu hk2=>?_⟩;have hi':l.toArray[z]?=some _:=(eX l z).symm.trans hi;unfold wpOp;simp only[hi',hg.wanted (o:=⟨d,op,ty,pos,af,gd⟩) ha,if_true];refine .inl (h a u ha hu _ _ ?_);intro v H' u' hA hu';refine⟨λhz=>absurd rfl hz,λ_=>(hk v H' hA).get _ _ u' hc ?_ hu'⟩;cases d with
 |none=>exact ha
 |some k=>exact ha.put (hd k rfl) v
end
theorem XU{a b:List Value}(h:a=b:=by first|(conv=>lhs;simp only[aAs,aDh,List.drop_succ_cons,aCh,List.drop_nil,aCj,aBq,Nat.reduceAdd])|rfl):a=b:=h
theorem V8{P:Program}{E:Env}{H:List aL}{ρ:Operand→Value}{o:Oper}{v:Value}(h:qB P E H ρ o v:=by first|(apply Y.Xx;exact rfl;exact rfl;exact rfl;exact rfl;exact aS;exact rfl;exact rfl)|(apply Y.loadE0;exact rfl;exact rfl;exact rfl;exact rfl;exact aS;exact rfl;exact rfl)|(apply Y.Ue;exact rfl;exact rfl;exact rfl;exact rfl;exact rfl;exact rfl;exact aS;exact rfl;exact K6)|(apply Y.loadEA0;exact rfl;exact rfl;exact rfl;exact rfl;exact rfl;exact rfl;exact aS;exact rfl;exact K6)):qB P E H ρ o v:=h
theorem Y3{P:Program}{E:Env}{H:List aL}{ρ:Operand→Value}{o:Oper}{v:Value}(h:qB P E H ρ o v:=by first|exact Cw|exact V8|fail):qB P E H ρ o v:=h
theorem Vr{P:Program}{N:Nat}{E:Env}{F:Nat→Value}{H:List aL}{o:Oper}{K:Value→List aL→Prop}(h:gK P N E F H o K:=by first|exact Sy|(apply S.TA;exact rfl;exact rfl;exact eS;exact rfl;exact rfl;exact rfl;exact rfl;exact dH;exact Y4;exact TT)|(apply S.Ia;exact rfl;exact rfl;exact eS;exact rfl;exact rfl;exact rfl;exact rfl;exact dH;exact Y4;exact XU)):gK P N E F H o K:=h
theorem XH{p q:Prop}(hq:q)(h:wA q→p:=by intro h;first|exact Cx h.out|(apply L.val;decide;exact V8;exact h.out)|(apply FU.take;exact rfl;decide;exact bA;exact V8;exact h.out)|(apply Dr.take;exact rfl;decide;exact bA;exact V8;exact h.out)|(apply zL.val;exact rfl;decide;exact bA;exact Y3;exact aA;exact h.out)|(apply Dr.val;exact rfl;decide;exact bA;exact Y3;exact aA;exact h.out)):p:=h ⟨hq⟩
theorem Z1{p q:Prop}(hq:q)(h:wA q→p:=by intro h;first|(apply L.fQ;decide;exact Vr;(first|exact x0 h.out|exact x1 h.out|exact x2 h.out))|(apply L.pX;exact Vr;(first|exact x0 h.out|exact x1 h.out|exact x2 h.out))|(apply Dr.WZ;exact rfl;(· rintro k ⟨⟩<;>decide);exact bA;exact Vr;(first|exact x0 h.out|exact x1 h.out|exact x2 h.out))|(apply Dr.Iq;exact rfl;(· rintro k ⟨⟩<;>decide);exact bA;exact Vr;(first|exact x0 h.out|exact x1 h.out|exact x2 h.out))|(apply zL.Iq;exact rfl;(· rintro k ⟨⟩<;>decide);exact bA;exact Vr;(first|exact x0 h.out|exact x1 h.out|exact x2 h.out))|(apply zL.Aw;exact rfl;(· rintro k ⟨⟩<;>decide);exact bA;exact Vr;(first|(refine y0 ?_ ?_;exact aA;exact h.out)|(refine y1 ?_ ?_;(· intro _;exact aA);exact h.out)|(refine y2 ?_ ?_;(· intro _ _;exact aA);exact h.out)))|(apply Dr.Aw;exact rfl;(· rintro k ⟨⟩<;>decide);exact bA;exact Vr;(first|(refine y0 ?_ ?_;exact aA;exact h.out)|(refine y1 ?_ ?_;(· intro _;exact aA);exact h.out)|(refine y2 ?_ ?_;(· intro _ _;exact aA);exact h.out)))):p:=h ⟨hq⟩
theorem cY{p q:Prop}(hq:q)(h:wA q→p:=by intro h;first|exact w_ h.out|(apply L.val;decide;exact V8;exact h.out)|(apply FU.take;exact rfl;decide;exact bA;exact V8;exact h.out)|(apply Dr.take;exact rfl;decide;exact bA;exact V8;exact h.out)|(apply zL.val;exact rfl;decide;exact bA;exact Y3;exact aA;exact h.out)|(apply Dr.val;exact rfl;decide;exact bA;exact Y3;exact aA;exact h.out)|exact Z1 h.out|(apply gd;exact bG;exact aA;exact h.out)|(apply gk;exact bG;exact h.out)):p:=h ⟨hq⟩
theorem yK(E:Env)(x:bJ):aK prog E 160 #[.agg x.cs.toArray] [] λe H'=>e=.returned (.bool x.may)∧H'=[]:=Gq E x.rep x.seq
structure Oc where
 A:Option Addr
 n:Nat
 c:Nat
 b:List UInt8
def vQ:Ty Oc where
 val x:=.slice x.A x.n x.c
 size:=1
 bytes:=24
 tid:=70
 zero:=.slice none 0 0
 hlen _:=rfl
 lJ a u h:=by simp only[Value.cells,aAp] at h;subst h;rfl
 gL:=sD
 hzero:=rfl
 fW:=q_
 nR:=.inr ⟨q_,λ_=>rfl⟩
instance Yx:lL vQ 24:=⟨rfl⟩
def Zl(E:Env)(l:List Oc):Prop:=∀x∈l,Rd E aU x.A x.n x.c x.b
theorem Zl.at_{E:Env}{l:List Oc}(h:Zl E l){i:Nat}{x:Oc}(hx:l[i]?=some x):Rd E aU x.A x.n x.c x.b:=h x (aAi hx)
abbrev uL(x:Oc):aL:=own aU x.A x.n x.c x.b
section
variable {α:Type} {T:Ty α} {N:Nat} {E:Env} {F:Nat→Value} {H H':List aL} {o:Oper} {A:Option Addr} {n m c:Nat} {l:List α}
theorem DL{F1:Nat→Prop}{u:World}{k:Nat}(h:(own T A n c l).holds F1 u)(hk:k≤n):(own T A k c (l.take k)).holds F1 u:=by
 obtain⟨h0,⟨rfl,h2,h3⟩|⟨g,cur,h2,h3,h4,h5,h6,h7,h8⟩⟩:=h
 ·exact⟨by rw[aAg];omega,.inl ⟨by omega,h2,h3⟩⟩
 ·refine⟨by rw[aAg];omega,.inr ⟨g,cur,h2,h3,h4,by omega,h6,h7,?_⟩⟩;have hle:k*T.size≤n*T.size:=aBa _ hk;rw[←T.nX,←h8,aEn,aBr hle]
theorem S.Oi{s x:Operand}{t:TypeId}{X:Option Addr}{nx cx n':Nat}{l2 l':List α}(ho:o.op=.call { callee:=.builtin .append,args:=#[s,x],argTypes:=#[t,t] })
  (hs:ev F s=.slice A n c) (hx:ev F x=.slice X nx cx) (hn':n+nx=n') (hnm:n≤m) (hr:dT (own T A m c l) [own T A n' c l'] H H') (hrd:kV E H T X nx cx l2) (hl':l.take n++l2=l') (ht:prog.underlying t=some (.slice T.tid)) {by_:Nat} (hbb:T.bytes=by_) (hby:n'*by_≤140737488355328) (h0:0<c) (hroom:n'≤c) (hlen:n'≤140737488355328) :
  gK prog N E F H o λr H1=>r=.slice A n' c∧H1=H':=by
 subst hn' hl' hbb;intro a u ha hu Kw Q' hK;obtain⟨R,hhas⟩:=hr.has;obtain⟨F0,h1,_⟩:=hu.has hhas;have h1:=DL h1 hnm;have hn:=h1.1;obtain⟨ti,hi,hz,hsz,hbt⟩:=T.jA;obtain⟨k0,k1,k2,k3⟩:=hrd u hu;have hcells:∀ad,X=some ad→nx≠0→∀j v,(T.bT l2)[j]?=some v→u.cell? (ad.add j)=some v:=by
  rintro ad rfl hn0;rcases k3 with k3|⟨ad',e,hc⟩
  ·exact absurd k3 hn0
  ·injection e with e;subst e;exact hc
 have hreads:Reads u u.heap.size T.size X nx (T.bT l2):=⟨by rw[T.bM,←k0],λgL=>by
  rcases k3 with k3|⟨ad,e,hc⟩
  ·omega
  ·refine⟨ad,e,?_,hc⟩;have hl:0<(T.bT l2).length:=by rw[T.bM,←k0];exact Nat.mul_pos gL T.gL
   have:=aEk _ _ (hc 0 _ (aAa hl))
   rwa [eQ] at this⟩
 have hsrc:Src prog ti.size t (.slice X nx cx) nx (T.bT l2) u:=by
  have hll:(T.bT l2).length=nx*ti.size:=by rw[T.bM,←k0,hsz]
  cases X with
  |none =>
   have h00:nx=0:=by rcases k3 with k3|⟨_,e,_⟩;exact k3;cases e
   subst h00;have e:T.bT l2=[]:=aBi (by rw[hll,aFx]);rw[e];exact Src.ofNil u ht cx
  |some ad =>
   refine Src.ofSlice u ht ad nx cx _ hll ?_ (T.kS _);by_cases hn0:nx=0
   ·intro j v hv;rw[aCo (by rw[hll,hn0,aFx];exact aAh _)] at hv;cases hv
   ·exact hcells ad rfl hn0
 obtain⟨hown,_⟩:=zC o_ h1;have key:∃v' w',(Builtin.append_ #[t,t] o.type #[.slice A n c,.slice X nx cx]).run prog u=.ok v' w'∧w'.ownsRow 0 T.tid T.size v' (n+nx) (T.bT (l.take n)++T.bT l2)∧u.grownBy w' (Value.ownBlock (.slice A n c)) ∧
   (v'.ownBlock=Value.ownBlock (.slice A n c)∨v'.ownBlock=some u.heap.size):=by
  exact oF u 0 t o.type T.tid ti T.zero T.size T.bytes ht hi hz hsz hbt T.hzero T.gL _ n _ hown u.heap.size X nx cx (T.bT l2) hreads (T.kS _) (by unfold maxLen;omega) hby (aAh _)
 obtain⟨v',w',hrun,hown',hg,hb⟩:=key;have hv:=run_append_cap_room u t t o.type T.tid ti ht hi A n c (.slice X nx cx) nx (T.bT l2) hsrc hroom hrun;subst hv;have hown2:w'.ownsRow 0 T.tid T.size (.slice A (n+nx) c) (n+nx) (T.bT (l.take n++l2)):=by rw[T.iU];exact hown'
 have hO:=Cc (T:=T) (l:=l.take n++l2) (by rw[aAe,←hn,k0]) hown2;unfold Oper.wp;rw[ha.eval];have hx2:(execOp (ev F) o).run prog u=.ok (.value (.slice A (n+nx) c)) w':=by
  unfold execOp;simp only[ho,resolve,invoke,builtin,aAy,aCc,aAr,aEb,aCi,aDo,hs,hx,hrun]
 rw[hx2];refine hK _ _ _ ⟨rfl,rfl⟩ ?_;refine hu.jX hr hg.os hg.tape hg.output hg.size (G:=λb=>Value.ownBlock (.slice A n c)=some b) (λb hlt hne=>hg.block b hlt (λe=>hne e.symm)) λF1 h1=>?_;obtain⟨_,hF⟩:=zC o_ (DL h1 hnm);refine⟨λb=>Value.ownBlock (.slice A (n+nx) c)=some b,⟨λb=>Value.ownBlock (.slice A (n+nx) c)=some b,λ_=>False,λb=>by simp,λ_ _ h=>h,hO,λ_ h=>h⟩,λb hbb=>?_,λb _ hG=>(hF b).2 hG⟩;have e:Value.ownBlock (.slice A (n+nx) c)=Value.ownBlock (.slice A n c):=by cases A<;>rfl
 exact .inl ((hF b).2 (e▸hbb))
theorem S.VU{x:Operand}{t:TypeId}{z:α}{j k:Nat}(ho:o.op=.call { callee:=.builtin .clear,args:=#[x],argTypes:=#[t] })(hx:ev F x=.slice (if c=j then A else A.map (·.add (j*T.size))) k (c - j))
  (ht:prog.underlying t=some (.slice T.tid)) (hz:T.val z=T.zero) (hj:n≤j) (hjk:j+k≤c) (hk:0<k) (hr:dT (own T A n c l) [own T A n c l] H H'):gK prog N E F H o λr H1=>r=.tuple #[]∧H1=H':=by
 intro a u ha hu Kw Q' hK;obtain⟨R,hhas⟩:=hr.has;obtain⟨F0,h1,_⟩:=hu.has hhas;obtain⟨ti,hi,hzz,hsz,hbt⟩:=T.jA;obtain⟨h0,⟨_,h2,_⟩|⟨g,cur,rfl,h3,h4,h5,h6,h7,h8⟩⟩:=h1
 ·omega
 rw[if_neg o_] at hx;have e0:(some (⟨g,0,none⟩:Addr)).map (·.add (j*T.size))=some ⟨g,j*T.size,none⟩:=by show some ((⟨g,0,none⟩:Addr).add _)=_;rw[fB,aCa]
 rw[e0] at hx;have hzc:Builtin.zeroCells T.zero.cells k=madeCells T.zero.cells (k*T.size):=by
  have:=T.hzero;simp[Builtin.zeroCells,madeCells,this]
 have hzl:(Builtin.zeroCells T.zero.cells k).toList=T.bT (List.replicate k z):=by rw[hzc,nN T z hz]
 have hlen:j*T.size+k*T.size≤c*T.size:=by rw[←aDb];exact aBa _ hjk
 have hst:=run_storeCells_at prog g (j*T.size) T.tid (T.bT (List.replicate k z)) 0 cur u h4 (by rw[T.bM,aAz,h7];omega) (T.kS _);unfold Oper.wp;rw[ha.eval];have hk0:k≠0:=o_;have hx2:(execOp (ev F) o).run prog u=.ok (.value (.tuple #[])) (u.setRow g (cur.toList.take (j*T.size+0)++T.bT (List.replicate k z)++cur.toList.drop (j*T.size+0+(T.bT (List.replicate k z)).length)).toArray):=by
  obtain⟨k,rfl⟩:∃k',k=k'+1:=⟨k - 1,by omega⟩
  unfold execOp;simp only[ho,resolve,invoke,builtin,aAy,aCc,aAr,aEb,aCi,aDo,hx];simp[Builtin.clear_,run_underlying ht,zeroValue,typeInfo,hi,hzz,hzl] at hst⊢;simp[hst]
 rw[hx2];refine hK _ _ _ ⟨rfl,rfl⟩ (St.setRow hu hr g _ λF1 k1=>?_);obtain⟨m0,⟨_,m2,_⟩|⟨g',cur',m1,m3,m4,m5,m6,m7,m8⟩⟩:=k1
 ·omega
 injection m1 with m1;injection m1 with m1
 subst m1;rw[h4] at m4;injection m4 with m4;injection m4 with m4 _ _
 subst m4;have hnj:n*T.size≤j*T.size:=aBa _ hj;refine⟨(m3 g).2 rfl,m0,.inr ⟨g,_,rfl,m3,setRow_heap u g _ _ _ _ h4,m5,m6,?_,?_⟩⟩
 ·simp[T.bM];omega
 ·rw[←m8];simp only[aFb,aAb];rw[aCw (by rw[aAg,aDs,h7];omega),aEn,aBr hnj]
end
theorem Y.slice3{P:Program}{E:Env}{H:List aL}{ρ:Operand→Value}{o:Oper}{A:Option Addr}{n c:Nat}{t e:TypeId}{x lo hi mx:Operand}{k k2 k3:IntKind}{i i2 i3:Int}{ti:TypeInfo}{j m q:Nat}(ho:o.op=.slice t x (some lo) (some hi) (some mx))(hx:ρ x=.slice A n c)(hlo:ρ lo=.int k i)(hhi:ρ hi=.int k2 i2)(hmx:ρ mx=.int k3 i3)(ht:P.underlying t=some (.slice e))(he:P.info? e=some ti)(hj:i=j)(hm:i2=m)(hq:i3=q)(hjm:j≤m)(hmq:m≤q)(hqc:q≤c) :
  qB P E H ρ o (.slice (if q=j then A else A.map (·.add (j*ti.size))) (m - j) (q - j)):=by
 intro u hu;subst hj hm hq;simp[execOp,ho,hx,Instr.sliceAt,Instr.slice,Instr.sliceBounds,Instr.sliceBound,asIntOf,run_underlying ht,sizeOf,typeInfo,he,hlo,hhi,hmx,hjm,hmq,hqc]
structure gN where
 to:Int
 A:Option Addr
 n:Nat
 c:Nat
 b:List UInt8
 broken:Bool
abbrev gN.cs(x:gN):List Value:=[.int .i64 x.to,.slice x.A x.n x.c,.bool x.broken]
def iC:Ty gN where
 val x:=.agg x.cs.toArray
 size:=3
 bytes:=40
 tid:=168
 zero:=.agg #[.int .i64 0,.slice none 0 0,.bool false]
 hlen _:=rfl
 lJ a u h:=by simp[Value.cells] at h;rcases h with rfl|rfl|rfl<;>rfl
 gL:=sD
 hzero:=rfl
 fW:=q_
 nR:=.inl ⟨q_,λ_=>⟨_,rfl⟩⟩
instance Yk:lL iC 40:=⟨rfl⟩
def V1:gN:=⟨0,none,0,0,[],false⟩
theorem On:Rec prog 168 [.int .i64 0,.slice none 0 0,.bool false] [(0,1),(1,1),(2,1)]:=⟨q_,q_⟩
instance WD:cL 168 [.int .i64 0,.slice none 0 0,.bool false] [(0,1),(1,1),(2,1)]:=⟨On⟩
theorem PM:Rec prog 113 [.slice none 0 0] [(0,1)]:=⟨q_,q_⟩
instance WK:cL 113 [.slice none 0 0] [(0,1)]:=⟨PM⟩
structure fD where
 to:Int
 b:List UInt8
 broken:Bool
abbrev DD(x:gN):aL:=own aU x.A x.n x.c x.b
abbrev wr(g:Nat)(A:Option Addr)(n c:Nat):aL:=aJ g 113 [.slice A n c]
abbrev gN.mark(x:gN)(b:List UInt8):gN:=⟨x.to,x.A,x.n,x.c,b,true⟩
theorem IW(E:Env)(A:Option Addr)(n c:Nat)(l:List UInt8)(hr:Rd E aU A n c l)(hl:n≤140737488355300):aK prog E 156 #[.slice A n c] [] λe H'=>∃A' c',e=.returned (.slice A' n c')∧(n≤c'∧c'≤maxLen)∧H'=[own aU A' n c' l]:=by
 refine t_ func156 ntmps156 ?_;cases A with
 |none =>
  obtain⟨rfl,rfl⟩:=hr.none;repeat first|refine aE ?_|intro
  exact aR rfl aF (aB.nil aU) ⟨_,_,rfl,⟨aAf _,aAh _⟩,rfl⟩
 |some a =>
  repeat first|refine aE ?_|intro
  exact aR rfl aF aA (⟨_,_,rfl,⟨by assumption,by assumption⟩,rfl⟩)
theorem vX{P:Program}{E:Env}{fn:Func}{R:Ending→List aL→Prop}{F:Nat→Value}{H H1:List aL}{e:Ex}(hc:aB E H H1)(h:gF P E fn R e F H1)(hp:∀c,e≠.panic c:=by intro c h;cases h):gF P E fn R e F H:=by
 cases e with
 |panic c=>exact absurd rfl (hp c)
 |normal=>obtain⟨v,H',h1,h2,h3⟩:=h;exact⟨v,H',λw hw=>h1 w (hc w hw),hc.trans h2,h3⟩
 |ret=>obtain⟨v,H',h1,h2,h3⟩:=h;exact⟨v,H',λw hw=>h1 w (hc w hw),hc.trans h2,h3⟩
 |exit id=>exact h
section
variable (E:Env) (g:Nat) (A:Option Addr) (n c:Nat) (ls:List gN)
theorem CN(i:Int)(hn:n≤128)(h:i<0∨n≤i):aK prog E 182 #[.pointer (some ⟨g,0,none⟩),.int .i64 i] [wr g A n c] λr H'=>r=.returned (.pointer none)∧H'=[wr g A n c]:=by
 have hmax:=fX;refine t_ func182 ntmps182 ?_;by_cases h0:i<0
 ·repeat first|refine aE ?_|intro
  exact B7
 ·repeat first|refine aE ?_|intro
  exact B7
theorem sG(i:Nat)(hn:n≤128)(hi:i<n){e:gN}(he:ls[i]?=some e)(hl:n=ls.length):aK prog E 182 #[.pointer (some ⟨g,0,none⟩),.int .i64 i] [wr g A n c,own iC A n c ls] λr H'=>r=.returned (.pointer (some ((ad A).add (i*iC.size))))∧H'=[wr g A n c,own iC A n c ls]:=by
 have hmax:=fX;refine t_ func182 ntmps182 ?_;repeat first|refine aE ?_|intro
 exact B7
def AS(E:Env)(ls:List gN)(X:Option Addr)(nx cx:Nat)(b:List UInt8):Prop:=∀M R,Sub E R M→(∃R',Has (aO DD ls) R R')→Rd M aU X nx cx b
theorem AS.rd{E:Env}{ls:List gN}{X:Option Addr}{nx cx:Nat}{b:List UInt8}(h:Rd E aU X nx cx b):AS E ls X nx cx b:=λ_ _ hE _=>h.sub hE
theorem AS.at_{E:Env}{ls:List gN}{i:Nat}{e:gN}(he:ls[i]?=some e):AS E ls e.A e.n e.c e.b:=λ_ _ hE ⟨_,hh⟩=>Sub.aO hE hh he rfl
def wI(g:Nat)(n:Nat)(ls:List gN)(to:Int)(nx:Nat)(b:List UInt8)(br:Bool):Ending→List aL→Prop:=λr H' =>
 ∃A' c' O co,r=.returned (.bool true)∧(n+1≤c'∧c'≤maxLen)∧H'=[wr g A' (n+1) c',own iC A' (n+1) c' (ls++[⟨to,O,nx,co,b,br⟩]),aO DD (ls++[⟨to,O,nx,co,b,br⟩])]
theorem Cf(X:Option Addr)(nx cx:Nat)(to:Int)(br:Bool)(hn:128≤n)(hm:n≤maxLen):aK prog E 94 #[.pointer (some ⟨g,0,none⟩),.agg #[.int .i64 to,.slice X nx cx,.bool br]] [wr g A n c] λr H'=>r=.returned (.bool false)∧H'=[wr g A n c]:=by
 refine t_ func94 ntmps94 ?_;repeat first|refine aE ?_|intro
 exact B7
theorem QA(X:Option Addr)(nx cx:Nat)(to:Int)(br:Bool)(b:List UInt8)(hn:n<128)(hl:n=ls.length)(hsrc:AS E ls X nx cx b)(hnx:nx≤140737488355300) :
  aK prog E 94 #[.pointer (some ⟨g,0,none⟩),.agg #[.int .i64 to,.slice X nx cx,.bool br]] [wr g A n c,own iC A n c ls,aO DD ls] (wI g n ls to nx b br):=by
 have hmax:=fX;unfold wI;refine t_ func94 ntmps94 ?_;repeat first|refine aE ?_|intro
 rename_i g3;refine cl sD sK aC (λM hE=>IW M X nx cx b (hsrc M _ hE ⟨_,aS⟩) hnx) ?_;rintro r H' ⟨O,co,rfl,⟨hc1,hc2⟩,rfl⟩;repeat first|refine aE ?_|intro
 refine C.bL 10 (l_ [0,1,2,3,4,5] (g_ 6 (g_ 7 (l_ [8,9] (g_ 10 .nil))))) ([wr g A n c,aJ g3 168 [.int .i64 to,.slice O nx co,.bool br]]) q_ q_ aA ?_;repeat first|refine aE ?_|intro
 refine Dr.Aw rfl (by rintro k ⟨⟩<;>decide) bA (S.cB (T:=iC) (e:=⟨to,O,nx,co,b,br⟩) rfl rfl rfl rfl sD) ?_;rintro _ _ ⟨_,rfl,rfl⟩;refine⟨aA,?_⟩;repeat first|refine aE ?_|intro
 rename_i A' c' h1 h2;refine vX (aB.push (f:=DD) (l:=ls) (x:=⟨to,O,nx,co,b,br⟩) aC) ?_;exact jQ ⟨_,_,_,_,rfl,⟨h1,h2⟩,rfl⟩
theorem Mb(to:Int)(X:Option Addr)(nx cx:Nat)(hn:128≤n)(hm:n≤maxLen):aK prog E 30 #[.pointer (some ⟨g,0,none⟩),.int .i64 to,.slice X nx cx] [wr g A n c] λr H'=>r=.returned (.bool false)∧H'=[wr g A n c]:=by
 refine t_ func30 ntmps30 ?_;repeat first|refine aE ?_|intro
 refine bK (λM=>Cf M g A n c X nx cx to false hn hm) ?_;repeat first|refine aE ?_|intro
 exact B7
theorem S6(to:Int)(X:Option Addr)(nx cx:Nat)(b:List UInt8)(hn:n<128)(hl:n=ls.length)(hsrc:Rd E aU X nx cx b)(hnx:nx≤140737488355300) :
  aK prog E 30 #[.pointer (some ⟨g,0,none⟩),.int .i64 to,.slice X nx cx] [wr g A n c,own iC A n c ls,aO DD ls] (wI g n ls to nx b false):=by
 refine t_ func30 ntmps30 ?_;repeat first|refine aE ?_|intro
 refine cl sD sK aC (λM hE=>QA M g A n c ls X nx cx to false b hn hl (AS.rd (hsrc.sub hE)) hnx) ?_;unfold wI;rintro r H' ⟨A',c',O,co,rfl,h1,rfl⟩;repeat first|refine aE ?_|intro
 exact jQ ⟨_,_,_,_,rfl,h1,rfl⟩
theorem Z4(hn:n≤128):aK prog E 35 #[.pointer (some ⟨g,0,none⟩)] [wr g A n c] λr H'=>r=.returned (.int .i64 n)∧H'=[wr g A n c]:=by
 have hmax:=fX;refine t_ func35 ntmps35 ?_;repeat first|refine aE ?_|intro
 exact B7
theorem VN(i:Int)(hn:n≤128)(h:i<0∨n≤i):aK prog E 119 #[.pointer (some ⟨g,0,none⟩),.int .i64 i] [wr g A n c] λr H'=>r=.returned (.int .i64 (-1))∧H'=[wr g A n c]:=by
 refine t_ func119 ntmps119 ?_;repeat first|refine aE ?_|intro
 refine bK (λM=>CN M g A n c i hn h) ?_;repeat first|refine aE ?_|intro
 exact B7
theorem Ri(i:Nat)(hn:n≤128)(hi:i<n){e:gN}(he:ls[i]?=some e)(hl:n=ls.length):aK prog E 119 #[.pointer (some ⟨g,0,none⟩),.int .i64 i] [wr g A n c,own iC A n c ls] λr H'=>r=.returned (.int .i64 e.to)∧H'=[wr g A n c,own iC A n c ls]:=by
 refine t_ func119 ntmps119 ?_;repeat first|refine aE ?_|intro
 refine bK (λM=>sG M g A n c ls i hn hi he hl) ?_;repeat first|refine aE ?_|intro
 exact B7
theorem H7(i:Int)(hn:n≤128)(h:i<0∨n≤i):aK prog E 125 #[.pointer (some ⟨g,0,none⟩),.int .i64 i] [wr g A n c] λr H'=>r=.returned (.bool false)∧H'=[wr g A n c]:=by
 refine t_ func125 ntmps125 ?_;repeat first|refine aE ?_|intro
 refine bK (λM=>CN M g A n c i hn h) ?_;repeat first|refine aE ?_|intro
 exact B7
theorem GM(i:Nat)(hn:n≤128)(hi:i<n){e:gN}(he:ls[i]?=some e)(hl:n=ls.length):aK prog E 125 #[.pointer (some ⟨g,0,none⟩),.int .i64 i] [wr g A n c,own iC A n c ls] λr H'=>r=.returned (.bool e.broken)∧H'=[wr g A n c,own iC A n c ls]:=by
 refine t_ func125 ntmps125 ?_;repeat first|refine aE ?_|intro
 refine bK (λM=>sG M g A n c ls i hn hi he hl) ?_;repeat first|refine aE ?_|intro
 exact B7
theorem Pw(i:Int)(hn:n≤128)(h:i<0∨n≤i):aK prog E 124 #[.pointer (some ⟨g,0,none⟩),.int .i64 i] [wr g A n c] λr H'=>r=.returned (.bool false)∧H'=[wr g A n c]:=by
 refine t_ func124 ntmps124 ?_;repeat first|refine aE ?_|intro
 refine bK (λM=>CN M g A n c i hn h) ?_;repeat first|refine aE ?_|intro
 exact B7
theorem JQ(i:Nat)(hn:n=128)(hi:i<n){e:gN}(he:ls[i]?=some e)(hl:n=ls.length):aK prog E 124 #[.pointer (some ⟨g,0,none⟩),.int .i64 i] [wr g A n c,own iC A n c ls] λr H'=>r=.returned (.bool false)∧H'=[wr g A n c,own iC A n c ls]:=by
 have hmax:=fX;have hn1:n≤128:=o_;have hn2:128≤n:=o_;have hn3:n≤maxLen:=o_;refine t_ func124 ntmps124 ?_;repeat first|refine aE ?_|intro
 refine bK (λM=>sG M g A n c ls i hn1 hi he hl) ?_;repeat first|refine aE ?_|intro
 refine bK (λM=>Cf M g A n c e.A e.n e.c e.to e.broken hn2 hn3) ?_;repeat first|refine aE ?_|intro
 exact B7
theorem Xd(i:Nat)(hn:n<128)(hi:i<n){e:gN}(he:ls[i]?=some e)(hl:n=ls.length)(hnx:e.n≤140737488355300) :
  aK prog E 124 #[.pointer (some ⟨g,0,none⟩),.int .i64 i] [wr g A n c,own iC A n c ls,aO DD ls] (wI g n ls e.to e.n e.b e.broken):=by
 have hn1:n≤128:=o_;refine t_ func124 ntmps124 ?_;repeat first|refine aE ?_|intro
 refine bK (λM=>sG M g A n c ls i hn1 hi he hl) ?_;repeat first|refine aE ?_|intro
 refine bW (λM=>QA M g A n c ls e.A e.n e.c e.to e.broken e.b hn hl (AS.at_ he) hnx) ?_;unfold wI;rintro r H' ⟨A',c',O,co,rfl,h1,rfl⟩;repeat first|refine aE ?_|intro
 exact jQ ⟨_,_,_,_,rfl,h1,rfl⟩
end
end Go.Proofs.YtmilalkjbojciaaGreat.Sep
namespace Go.Proofs.YtmilalkjbojciaaGreat.Oct
def be(n:Nat)(w:Nat):List UInt8:=(List.range w).map λj=>UInt8.ofNat (n / 2 ^ (8*(w - 1 - j)))
def put(b:List UInt8)(n:Nat)(w:Int):List UInt8:=if w<1∨8<w then b else b++be n w.toNat
theorem aP(n w:Nat):(be n w).length=w:=by simp[be]
def get(l:List UInt8):Nat:=l.foldl (λn b=>n*256+b.toNat) 0
theorem zI(l:List UInt8)(b:UInt8):get (l++[b])=get l*256+b.toNat:=by simp[get]
theorem BY:∀l:List UInt8,get l<256 ^ l.length:=by
 have key:∀(r:List UInt8),get r.reverse<256 ^ r.length:=by
  intro r;induction r with
  |nil=>simp[get]
  |cons x r ih =>
   rw[List.reverse_cons,zI,aAs,Nat.pow_succ];have:=aEr x;omega
 intro l;have:=key l.reverse;simpa using this
theorem KF(n w:Nat):be n (w+1)=be (n / 256) w++[UInt8.ofNat n]:=by
 unfold be;rw[List.range_succ,aBk];congr 1
 ·apply List.map_congr_left;intro j hj;have hj:=List.mem_range.1 hj;congr 1;rw[show(256:Nat)=2 ^ 8 by decide,Nat.div_div_eq_div_mul,←Nat.pow_add];congr 2;omega
 ·simp
theorem FD(w:Nat):∀n,get (be n w)=n % 256 ^ w:=by
 induction w with
 |zero=>intro n;simp[be,get,Nat.mod_one]
 |succ w ih =>
  intro n;rw[KF,zI,ih,Nat.pow_succ,aFy (256 ^ w) 256,Nat.mod_mul];simp;omega
theorem aJg(w n m:Nat)(hn:n<256 ^ w)(hm:m<256 ^ w)(h:be n w=be m w):n=m:=by
 have:=congrArg get h;rw[FD,FD,aEc hn,aEc hm] at this;exact this
theorem Ec(l:List UInt8):be (get l) l.length=l:=by
 have key:∀(r:List UInt8),be (get r.reverse) r.length=r.reverse:=by
  intro r;induction r with
  |nil=>rfl
  |cons x r ih =>
   rw[List.reverse_cons,aAs,KF,zI];have hx:=aEr x;rw[show(get r.reverse*256+x.toNat) / 256=get r.reverse by omega,ih];congr 2;apply aEg.1;simp
 have:=key l.reverse;simpa using this
theorem Qm(n w k:Nat)(h:k<w):(be n w).take (k+1)=(be n w).take k++[UInt8.ofNat (n / 2 ^ (8*(w - 1 - k)))]:=by
 rw[aAn (by rw[aP];exact h)];simp[be]
theorem OV(m:Nat):UInt8.ofNat ((m:Int) % 256).toNat=UInt8.ofNat m:=by
 apply aEg.1;simp;omega
theorem Eb(n k:Nat):(n:Int) / 2 ^ k=((n / 2 ^ k:Nat):Int):=by simp
end Go.Proofs.YtmilalkjbojciaaGreat.Oct
namespace Go.Proofs.YtmilalkjbojciaaGreat.Sep
open Go.RowKit Reg Oct
open Mem hiding Rd
theorem I5:Rec prog 341 [.bool false,.bool false,.slice none 0 0] [(0,1),(1,1),(2,1)]:=⟨q_,q_⟩
instance S0:cL 341 [.bool false,.bool false,.slice none 0 0] [(0,1),(1,1),(2,1)]:=⟨I5⟩
def Bs(g:Nat):Value:=.pointer (some ⟨g,0,none⟩)
def nx(bad:Bool)(l:List UInt8)(n:Int):Option (List UInt8)×Bool×List UInt8 :=
 if bad then(none,true,l) else if n<0∨(l.length:Int)<n then(none,true,l) else(some (l.take n.toNat),false,l.drop n.toNat)
def wid(k:Int):Int:=if k<1∨8<k then -1 else k
abbrev pC(g:Nat)(made bad:Bool)(A:Option Addr)(n c:Nat):aL:=aJ g 341 [.bool made,.bool bad,.slice A n c]
def nS(A:Option Addr)(n c:Nat)(l:List UInt8)(A':Option Addr)(n' c':Nat)(l':List UInt8):Prop:=∀E,Rd E aU A n c l→Rd E aU A' n' c' l'
theorem nS.refl{A:Option Addr}{n c:Nat}{l:List UInt8}:nS A n c l A n c l:=λ_ h=>h
theorem nS.trans{A B C:Option Addr}{n c m d p q:Nat}{l l' l'':List UInt8}(h:nS A n c l B m d l')(k:nS B m d l' C p q l''):nS A n c l C p q l'':=λE x=>k E (h E x)
theorem lD(E:Env)(A:Option Addr)(n c:Nat)(l:List UInt8)(hr:Rd E aU A n c l)(hl:n≤140737488355300) :
  aK prog E 185 #[.slice A n c] [] λe H'=>∃g A' c',e=.returned (Bs g)∧n≤c'∧c'≤maxLen∧H'=[pC g true false A' n c',own aU A' n c' l]:=by
 refine t_ func185 ntmps185 ?_;repeat first|refine aE ?_|intro
 exact aR rfl aF aA (⟨_,_,_,rfl,by assumption,by assumption,rfl⟩)
theorem mH(E:Env)(g:Nat)(made bad:Bool)(A:Option Addr)(n c:Nat) :
  aK prog E 295 #[Bs g] [pC g made bad A n c] λe H'=>e=.returned (.bool (made && !bad))∧H'=[pC g made bad A n c]:=by
 unfold Bs;refine t_ func295 ntmps295 ?_;cases made;all_goals
  repeat first|refine aE ?_|intro
  exact B7
def OJ(g:Nat)(A:Option Addr)(n c:Nat)(l:List UInt8)(r:Option (List UInt8)×Bool×List UInt8)(e:Ending)(H':List aL):Prop :=
 ∃A' n' c',H'=[pC g true r.2.1 A' n' c']∧nS A n c l A' n' c' r.2.2 ∧
  match r.1 with
  |none=>e=.returned (.tuple #[.slice none 0 0,.bool false])
  |some x=>∃B m d,e=.returned (.tuple #[.slice B m d,.bool true])∧nS A n c l B m d x
theorem GW(E:Env)(g:Nat)(bad:Bool)(A:Option Addr)(n c:Nat)(l:List UInt8)(k:Int)(hr:Rd E aU A n c l) :
  aK prog E 293 #[Bs g,.int .i64 k] [pC g true bad A n c] (OJ g A n c l (nx bad l k)):=by
 have hlen:=hr.len;have hcap:=hr.cap;unfold Bs;refine t_ func293 ntmps293 ?_;repeat first|refine aE ?_|intro
 refine bK (λM=>mH M g true bad A n c) ?_;cases bad
 ·by_cases hk:k<0∨(n:Int)<k
  ·have hx:nx false l k=(none,true,l):=by simp[nx,←hlen,hk]
   rw[hx];rcases hk with hk|hk
   ·repeat first|refine aE ?_|intro
    exact Cz ⟨_,_,_,rfl,.refl,rfl⟩
   ·by_cases hk0:k<0;all_goals
     repeat first|refine aE ?_|intro
     exact Cz ⟨_,_,_,rfl,.refl,rfl⟩
  ·have hx:nx false l k=(some (l.take k.toNat),false,l.drop k.toNat):=by simp[nx,←hlen,hk]
   rw[hx];obtain⟨k,rfl⟩:=aCf (show 0≤k by omega);rw[aAu];repeat first|refine aE ?_|intro
   exact vT rfl aF aF aA (⟨_,_,_,rfl,λE h=>h.from_ o_,_,_,_,rfl,λE h=>h.upto o_ o_ o_⟩)
 ·have hx:nx true l k=(none,true,l):=rfl;rw[hx];repeat first|refine aE ?_|intro
  exact Cz ⟨_,_,_,rfl,.refl,rfl⟩
def tk:Option (List UInt8)→Value
 |none=>.tuple #[.int .u64 0,.bool false]
 |some x=>.tuple #[.int .u64 (get x:Nat),.bool true]
def PL(g:Nat)(A:Option Addr)(n c:Nat)(l:List UInt8)(r:Option (List UInt8)×Bool×List UInt8)(e:Ending)(H':List aL):Prop :=
 ∃A' n' c',H'=[pC g true r.2.1 A' n' c']∧nS A n c l A' n' c' r.2.2∧e=.returned (tk r.1)
theorem Ul(s x:Nat)(hs:s<256 ^ 7)(hx:x<256):Go.bits .or .u64 ((s:Int)*256) (x:Int)=((s*256+x:Nat):Int):=by
 have e:(s:Int)*256=((s*256:Nat):Int):=o_;rw[e,u64_or_nat _ _ o_ o_,nat_join 8 _ _ o_ o_]
theorem Fw{bad:Bool}{l x:List UInt8}{k:Int}(h:(nx bad l k).1=some x):0≤k∧(x.length:Int)=k:=by
 unfold nx at h;split at h
 ·cases h
 ·split at h
  ·cases h
  ·injection h with h
   subst h;rw[aAg];omega
theorem Un(k:Int):wid k≤8:=by unfold wid;split<;>omega
theorem GQ{x:List UInt8}{k:Nat}(hk:k<x.length)(h8:x.length≤8):get (x.take k)<256 ^ 7:=by
 have h1:=BY (x.take k);refine aDe h1 (aDx o_ ?_);rw[aAg];omega
theorem C5{x:List UInt8}{k:Nat}(hk:k<x.length):get (x.take (k+1))=get (x.take k)*256+x[k].toNat:=by
 rw[aAn hk,zI]
theorem iG(E:Env)(g:Nat)(bad:Bool)(A:Option Addr)(n c:Nat)(l:List UInt8)(k:Int)(hr:Rd E aU A n c l) :
  aK prog E 242 #[Bs g,.int .i64 k] [pC g true bad A n c] (PL g A n c l (nx bad l (wid k))):=by
 have hw:wid k=if k<1∨8<k then -1 else k:=rfl
 have hw8:=Un k;refine t_ func242 ntmps242 ?_;iterate 5 (first|refine Cx ?_|refine He ?_|intro _|refine Dr.two ?_ ?_)
 refine C.cut (X:=Unit) (λ_=>[(0,Bs g),(1,.int .i64 (wid k))]) (λ_=>[pC g true bad A n c]) (λ_=>True) ?_ ?_
 ·by_cases h1:k<1
  ·rw[if_pos (.inl h1)] at hw;rw[hw];repeat first|refine aE ?_|intro
   exact⟨(),aD,aB.refl,trivial⟩
  ·by_cases h8:8<k
   ·rw[if_pos (.inr h8)] at hw;rw[hw];repeat first|refine aE ?_|intro
    exact⟨(),aD,aB.refl,trivial⟩
   ·rw[if_neg o_] at hw;rw[hw];repeat first|refine aE ?_|intro
    exact⟨(),aD,aB.refl,trivial⟩
 ·rintro - G -;clear hw;repeat first|refine aE ?_|intro
  refine dX (λM=>GW M g bad A n c l (wid k)) ?_;rintro e H' ⟨A',n',c',rfl,hal,he⟩;obtain⟨B,m,d,x,ok,rfl,hB,hx,htk⟩:∃B m d x ok,e=.returned (.tuple #[.slice B m d,.bool ok])∧Rd E aU B m d x∧x.length≤8∧tk (nx bad l (wid k)).1=.tuple #[.int .u64 (get x:Nat),.bool ok]:=by
   cases hq:(nx bad l (wid k)).1 with
   |none=>rw[hq] at he;exact⟨none,0,0,[],false,he,Rd.nil _ _,by simp,rfl⟩
   |some x =>
    rw[hq] at he;obtain⟨B,m,d,he,hB⟩:=he;have:=Fw hq;exact⟨B,m,d,x,true,he,hB _ hr,by omega,rfl⟩
  have hm:=hB.len;repeat first|refine aE ?_|intro
  refine C.loop (X:=Nat) (λi=>[(7,.bool ok),(8,.int .u64 (get (x.take i):Nat)),(23,.slice B m d),(24,.int .i64 m),(25,.int .i64 i)]) (λ_=>[pC g true (nx bad l (wid k)).2.1 A' n' c']) (λi=>i≤m) (λi=>m - i) 0 aD aB.refl (aAh _) ?_;rintro i G hi;by_cases hlt:i<m
  ·have hxi:x[i]?=some x[i]:=aAa o_;have hb:=aEr x[i];have hg:=GQ (k:=i) o_ hx;have e3:Go.bits .or .u64 ((Oct.get (x.take i):Nat)*256) (x[i].toNat:Int)=((Oct.get (x.take (i+1)):Nat):Int):=by rw[Ul _ _ hg o_,C5 o_]
   repeat first|refine aE ?_|intro
   exact⟨i+1,aD,aB.refl,by omega,by omega⟩
  ·repeat first|refine aE ?_|intro
   obtain rfl:i=m:=o_;have ex:x.take i=x:=aAj o_;rw[ex];exact vT rfl aF aF aA (⟨_,_,_,rfl,hal,by rw[htk]⟩)
def M4(g:Nat)(A:Option Addr)(n c:Nat)(l:List UInt8)(r:Option (List UInt8)×Bool×List UInt8)(e:Ending)(H':List aL):Prop :=
 ∃A' n' c' B d,H'=[own aU B (r.1.getD []).length d (r.1.getD []),pC g true r.2.1 A' n' c']∧nS A n c l A' n' c' r.2.2∧(r.1.getD []).length≤d∧d≤maxLen∧e=.returned (.tuple #[.slice B (r.1.getD []).length d,.bool r.1.isSome])
theorem kR(E:Env)(g:Nat)(bad:Bool)(A:Option Addr)(n c:Nat)(l:List UInt8)(k:Int)(hr:Rd E aU A n c l)(hl:l.length≤140737488355328) :
  aK prog E 244 #[Bs g,.int .i64 k] [pC g true bad A n c] (M4 g A n c l (nx bad l k)):=by
 refine t_ func244 ntmps244 ?_;repeat first|refine aE ?_|intro
 refine dX (λM=>GW M g bad A n c l k) ?_;rintro e H' ⟨A',n',c',rfl,hal,he⟩;obtain⟨B,m,d,x,ok,rfl,hB,hx,hxl,hok⟩:∃B m d x ok,e=.returned (.tuple #[.slice B m d,.bool ok])∧Rd E aU B m d x∧(nx bad l k).1.getD []=x∧x.length≤l.length∧(nx bad l k).1.isSome=ok:=by
  cases hq:(nx bad l k).1 with
  |none=>rw[hq] at he;exact⟨none,0,0,[],false,he,Rd.nil _ _,rfl,by simp,rfl⟩
  |some x =>
   rw[hq] at he;obtain⟨B,m,d,he,hB⟩:=he;refine⟨B,m,d,x,true,he,hB _ hr,rfl,?_,rfl⟩;unfold nx at hq;split at hq
   ·cases hq
   ·split at hq
    ·cases hq
    ·injection hq with hq;rw[←hq];simp;omega
 have hm:=hB.len;have hn:=hr.len;subst hm hok hx;repeat first|refine aE ?_|intro
 exact vT rfl aF aF aA (⟨_,_,_,_,_,rfl,hal,by assumption,by assumption,rfl⟩)
theorem VE(n i:Nat)(h:i<8):((n:Int)) / 2 ^ min ((8*(i:Int)).toNat) IntKind.u64.bits=((n / 2 ^ (8*i):Nat):Int):=by
 have e:min ((8*(i:Int)).toNat) IntKind.u64.bits=8*i:=by
  have h1:(8*(i:Int)).toNat=8*i:=o_;have h2:IntKind.u64.bits=64:=rfl;rw[h1,h2];omega
 rw[e,Eb]
def uQ(r:List UInt8)(e:Ending)(H':List aL):Prop:=∃A' c',e=.returned (.slice A' r.length c')∧r.length≤c'∧c'≤maxLen∧H'=[own aU A' r.length c' r]
theorem FL(E:Env)(A:Option Addr)(nl cap:Nat)(l:List UInt8)(n:Nat)(w:Int)(hr:Rd E aU A nl cap l)(_hn:n<18446744073709551616)(hl:nl≤140737488355300) :
  aK prog E 154 #[.slice A nl cap,.int .u64 n,.int .i64 w] [] (uQ (Oct.put l n w)):=by
 have hnl:=hr.len;refine t_ func154 ntmps154 ?_;by_cases hw:w<1∨8<w
 ·have hp:Oct.put l n w=l:=by simp[Oct.put,hw]
  rw[hp];subst hnl;by_cases h1:w<1;all_goals
   repeat first|refine aE ?_|intro
   exact aR rfl aF aA (⟨_,_,rfl,by assumption,by assumption,rfl⟩)
 ·have hp:Oct.put l n w=l++be n w.toNat:=by simp[Oct.put,hw]
  rw[hp];obtain⟨w,rfl⟩:=aCf (show 0≤w by omega);rw[aAu];repeat first|refine aE ?_|intro
  refine C.loop (X:=Nat×Option Addr×Nat) (λx=>[(1,.int .u64 n),(7,.slice x.2.1 (nl+x.1) x.2.2),(8,.int .i64 ((w:Int) - 1 - x.1))]) (λx=>[own aU x.2.1 (nl+x.1) x.2.2 (l++(be n w).take x.1)]) (λx=>x.1≤w∧nl+x.1≤x.2.2∧x.2.2≤maxLen) (λx=>w - x.1) (0,_,_) aD (by simp only[aCg,aAc];exact aB.refl) ⟨aAh _,by assumption,by assumption⟩ ?_;rintro⟨k,A',c'⟩ G ⟨hk,hc1,hc2⟩;dsimp only at hk hc1 hc2⊢;by_cases hlt:k<w
  ·obtain⟨i,hi⟩:∃i:Nat,(w:Int) - 1 - k=i:=⟨w - 1 - k,by omega⟩
   have e1:=VE n i o_;have e2:l++(be n w).take k++[UInt8.ofNat (((n / 2 ^ (8*i):Nat):Int) % 256).toNat]=l++(be n w).take (k+1):=by
    rw[Qm n w k hlt,OV,aAb,show w - 1 - k=i by omega]
   rw[hi];repeat first|refine aE ?_|intro
   refine⟨(k+1,_,_),aD,?_,by dsimp only;omega,by dsimp only;omega⟩;dsimp only;rw[e2];exact aB.refl
  ·repeat first|refine aE ?_|intro
   obtain rfl:k=w:=o_;have e:(be n k).take k=be n k:=aAj (by rw[aP];omega);have el:nl+k=(l++be n k).length:=by rw[aAe,aP,hnl]
   rw[e];rw[el] at hc1⊢;exact jQ ⟨_,_,rfl,hc1,hc2,rfl⟩
theorem UC:((prog.info? 70).bind (·.zero)).map (·.cells.toList)=some [.slice none 0 0]:=q_
instance XJ:Bg 70 [.slice none 0 0]:=⟨UC⟩
theorem Xr:((prog.info? 276).bind (·.zero)).map (·.cells.toList)=some [.pointer none]:=q_
instance Yq:Bg 276 [.pointer none]:=⟨Xr⟩
def PW(n':Nat)(l:List UInt8)(e:Ending)(H':List aL):Prop:=∃A' c',e=.returned (.slice A' n' c')∧(n'≤c'∧c'≤maxLen)∧H'=[own aU A' n' c' l]
theorem uQ.w{nl w n' k:Nat}{W:Int}{l:List UInt8}{e:Ending}{H':List aL}(hW:W=w)(hn:nl+w=n')(hw:1≤w∧w≤8)(hnl:nl=l.length)(h:uQ (Oct.put l k W) e H'):PW n' (l++be k w) e H':=by
 have hp:Oct.put l k W=l++be k w:=by
  unfold Oct.put;rw[if_neg o_,hW,aAu]
 have hl:(l++be k w).length=n':=by rw[aAe,aP];omega
 rw[hp] at h;unfold uQ at h;rw[hl] at h;obtain⟨A',c',h1,h2,h3,h4⟩:=h;exact⟨A',c',h1,⟨h2,h3⟩,h4⟩
theorem kY(E:Env)(A:Option Addr)(nl cap n' w:Nat)(l:List UInt8)(k:Nat)(W:Int)(hW:W=w)(hn:nl+w=n')(hw:1≤w∧w≤8)(hr:Rd E aU A nl cap l)(hk:k<18446744073709551616)(hl:nl≤140737488355300) :
  aK prog E 154 #[.slice A nl cap,.int .u64 k,.int .i64 W] [] (PW n' (l++be k w)) :=
 (FL E A nl cap l k W hr hk hl).mono λ_ _ h=>h.w hW hn hw hr.len
end Go.Proofs.YtmilalkjbojciaaGreat.Sep
namespace Go.Proofs.YtmilalkjbojciaaGreat.Sep
open Oct
def bX(l:List UInt8)(i w:Nat):Nat:=get ((l.drop i).take w)
theorem eM(l:List UInt8)(i w:Nat):bX l i w<256 ^ w:=by
 have h:=BY ((l.drop i).take w);have h2:((l.drop i).take w).length≤w:=by simp;omega
 exact aDe h (aDx o_ h2)
theorem uY{l:List UInt8}{i:Nat}(h:i<l.length):bX l i 1=l[i].toNat:=by
 unfold bX;rw[aAm h,aEl,aCg];simp[Oct.get]
theorem dY{l:List UInt8}{i w:Nat}(h:i+w≤l.length):be (bX l i w) w=(l.drop i).take w:=by
 have:=Ec ((l.drop i).take w);rw[show((l.drop i).take w).length=w by simp;omega] at this;exact this
theorem dL{a b:List UInt8}{i w n:Nat}(hi:a.length=i)(hn:n<256 ^ w):bX (a++(be n w++b)) i w=n:=by
 unfold bX;rw[aBu hi,aBj (aP _ _),FD,aEc hn]
def rV(k:Nat):Int:=if k<9223372036854775808 then k else(k:Int) - 18446744073709551616
def GF(n:Int):Nat:=(n % 18446744073709551616).toNat
theorem EV(n:Int):GF n<18446744073709551616:=by unfold GF;omega
theorem KB{k:Nat}(h:k<18446744073709551616):GF (rV k)=k:=by unfold GF rV;split<;>omega
theorem Kj{n:Int}(h:dQ n):rV (GF n)=n:=by unfold GF rV;unfold dQ at h;split<;>omega
theorem Ii{k:Nat}(h:k<18446744073709551616):dQ (rV k):=by unfold rV dQ;split<;>omega
theorem G9(n:Int):IntKind.u64.wrap n=(GF n:Nat):=by
 rw[IntKind.wrap_u64];unfold GF;omega
theorem eZ{n:Int}(h:0≤n)(h2:n≤9223372036854775807):IntKind.u64.wrap n=(n.toNat:Nat):=by
 rw[IntKind.wrap_u64];omega
theorem qZ{k:Nat}(h:k<18446744073709551616):IntKind.i64.wrap (k:Int)=rV k:=by
 rw[IntKind.wrap_i64];unfold rV;split<;>omega
def aX.may(c:aX):Bool:=c.id.may&&decide (1≤c.time∧c.time≤1073741824)&&small c.kind&&small c.a&&small c.b&&small c.ref.rep&&decide (0≤c.ref.seq∧c.ref.seq≤65535)
theorem aX.bY(c:aX):c.may=true↔(0≤c.id.rep∧c.id.rep≤3∧1≤c.id.seq∧c.id.seq≤65535)∧(1≤c.time∧c.time≤1073741824)∧(0≤c.kind∧c.kind≤255)∧(0≤c.a∧c.a≤255)∧(0≤c.b∧c.b≤255)∧(0≤c.ref.rep∧c.ref.rep≤255)∧0≤c.ref.seq∧c.ref.seq≤65535:=by
 simp[aX.may,bJ.may,small,and_assoc]
def aX.put(c:aX):List UInt8:=be c.id.rep.toNat 1++(be c.id.seq.toNat 2++(be c.time.toNat 4++(be c.kind.toNat 1++(be c.a.toNat 1++(be c.b.toNat 1++(be (GF c.n) 8++(be c.ref.rep.toNat 1++(be c.ref.seq.toNat 2++[67]))))))))
theorem aX.bD(c:aX):c.put.length=22:=by simp[aX.put,aP]
def tM(l:List UInt8):aX:=⟨⟨bX l 0 1,bX l 1 2⟩,bX l 3 4,bX l 7 1,bX l 8 1,bX l 9 1,rV (bX l 10 8),⟨bX l 18 1,bX l 19 2⟩⟩
theorem NX(l:List UInt8):(tM l).ok:=by
 have h0:=eM l 0 1;have h1:=eM l 1 2;have h2:=eM l 3 4;have h3:=eM l 7 1;have h4:=eM l 8 1;have h5:=eM l 9 1;have h6:=eM l 10 8;have h7:=eM l 18 1;have h8:=eM l 19 2;have h9:=Ii (k:=bX l 10 8) o_;unfold tM aX.ok bJ.ok;refine⟨⟨?_,?_⟩,?_,?_,?_,?_,h9,?_,?_⟩<;>unfold dQ<;>dsimp only<;>omega
theorem nC(k:Nat):be k 1=[UInt8.ofNat k]:=by
 simp[be,List.range_succ]
theorem Lb{l:List UInt8}(h:l.length=22)(he:l[21]?=some 67):(tM l).put=l:=by
 have e1:l=(l.drop 0).take 1++((l.drop 1).take 2++((l.drop 3).take 4++((l.drop 7).take 1++((l.drop 8).take 1++((l.drop 9).take 1++((l.drop 10).take 8++((l.drop 18).take 1++((l.drop 19).take 2++l.drop 21)))))))):=by
  have step:∀i w,l.drop i=(l.drop i).take w++l.drop (i+w):=λi w=>by rw[←aBt,aAx]
  have h0:=step 0 1;have h1:=step 1 2;have h2:=step 3 4;have h3:=step 7 1;have h4:=step 8 1;have h5:=step 9 1;have h6:=step 10 8;have h7:=step 18 1;have h8:=step 19 2;rw[←h8,←h7,←h6,←h5,←h4,←h3,←h2,←h1,←h0,aCh]
 have e2:l.drop 21=[67]:=by
  obtain⟨h1,h2⟩:=aAd.1 he;rw[aAm h1,h2,aCn o_]
 rw[e2] at e1;have h6:=eM l 10 8;unfold aX.put tM;dsimp only;rw[KB o_];simp only[aAu];rw[dY o_,dY o_,dY o_,dY o_,dY o_,dY o_,dY o_,dY o_,dY o_];exact e1.symm
theorem LL{c:aX}(hm:c.may=true)(hn:dQ c.n):tM c.put=c:=by
 rw[aX.bY] at hm;obtain⟨⟨i0,i1,i2,i3⟩,⟨t0,t1⟩,⟨k0,k1⟩,⟨a0,a1⟩,⟨b0,b1⟩,⟨r0,r1⟩,s0,s1⟩:=hm;have hu:=EV c.n;have f0:bX c.put 0 1=c.id.rep.toNat:=dL (a:=[]) rfl o_;have f1:bX c.put 1 2=c.id.seq.toNat:=by
  unfold aX.put;exact dL (by simp[aP]) o_
 have f2:bX c.put 3 4=c.time.toNat:=by
  unfold aX.put;rw[←aAb];exact dL (by simp[aP]) o_
 have f3:bX c.put 7 1=c.kind.toNat:=by
  unfold aX.put;rw[←aAb,←aAb];exact dL (by simp[aP]) o_
 have f4:bX c.put 8 1=c.a.toNat:=by
  unfold aX.put;rw[←aAb,←aAb,←aAb];exact dL (by simp[aP]) o_
 have f5:bX c.put 9 1=c.b.toNat:=by
  unfold aX.put;rw[←aAb,←aAb,←aAb,←aAb];exact dL (by simp[aP]) o_
 have f6:bX c.put 10 8=GF c.n:=by
  unfold aX.put;rw[←aAb,←aAb,←aAb,←aAb,←aAb];exact dL (by simp[aP]) o_
 have f7:bX c.put 18 1=c.ref.rep.toNat:=by
  unfold aX.put;rw[←aAb,←aAb,←aAb,←aAb,←aAb,←aAb];exact dL (by simp[aP]) o_
 have f8:bX c.put 19 2=c.ref.seq.toNat:=by
  unfold aX.put;rw[←aAb,←aAb,←aAb,←aAb,←aAb,←aAb,←aAb];exact dL (by simp[aP]) o_
 unfold tM;rw[f0,f1,f2,f3,f4,f5,f6,f7,f8,Kj hn];rw[aBn i0,aBn o_,aBn o_,aBn k0,aBn a0,aBn b0,aBn r0,aBn s0]
theorem Pd(c:aX):c.put[21]?=some 67:=by
 unfold aX.put;rw[←aAb,←aAb,←aAb,←aAb,←aAb,←aAb,←aAb,←aAb,aBc (by simp[aP])];simp[aP]
def tT(l:List UInt8):Option aX:=if l.length=22∧l[21]?=some 67∧(tM l).may=true then some (tM l) else none
theorem Du{l:List UInt8}{c:aX}(h:tT l=some c):c=tM l∧c.may=true∧c.put=l∧c.ok:=by
 unfold tT at h;split at h
 ·rename_i hh;injection h with h
  subst h;exact⟨rfl,hh.2.2,Lb hh.1 hh.2.1,NX l⟩
 ·cases h
theorem CJ{c:aX}(hm:c.may=true)(hn:dQ c.n):tT c.put=some c:=by
 unfold tT;rw[LL hm hn,if_pos ⟨c.bD,Pd c,hm⟩]
def jV(s:Bool×List UInt8)(w:Nat):Bool×List UInt8:=(nx s.1 s.2 w).2
def vl(s:Bool×List UInt8)(w:Nat):Nat:=match (nx s.1 s.2 w).1 with|none=>0|some x=>get x
def Ly(s:Bool×List UInt8)(w:Nat):Bool:=(nx s.1 s.2 w).1.isSome
theorem Ai{l:List UInt8}{k:Nat}(h:k≤l.length):nx false l k=(some (l.take k),false,l.drop k):=by
 unfold nx;rw[if_neg (by simp),if_neg o_,aAu]
theorem TW{l:List UInt8}{k:Nat}(h:l.length<k):nx false l k=(none,true,l):=by
 unfold nx;rw[if_neg (by simp),if_pos o_]
theorem iL{l:List UInt8}{i w:Nat}(h:i+w≤l.length):jV (false,l.drop i) w=(false,l.drop (i+w))∧vl (false,l.drop i) w=bX l i w∧Ly (false,l.drop i) w=true:=by
 have h1:nx false (l.drop i) w=_:=Ai (by simp;omega);unfold jV vl Ly;dsimp only;rw[h1,aBt];exact⟨rfl,rfl,rfl⟩
theorem jR(s:Bool×List UInt8)(w:Nat):vl s w<256 ^ w:=by
 unfold vl nx;split
 ·exact Nat.pow_pos o_
 ·rename_i x hx;split at hx
  ·cases hx
  ·split at hx
   ·cases hx
   ·injection hx with hx
    subst hx;have h:=BY (s.2.take (w:Int).toNat);have h2:(s.2.take (w:Int).toNat).length≤w:=by simp;omega
    exact aDe h (aDx o_ h2)
def runs:List Nat→Bool×List UInt8→Bool×List UInt8
 | [],s=>s
 |w::ws,s=>runs ws (jV s w)
theorem Po(ws:List Nat)(l:List UInt8):runs ws (true,l)=(true,l):=by
 induction ws with
 |nil=>rfl
 |cons w ws ih=>exact ih
theorem Hl(ws:List Nat)(w:Nat)(l:List UInt8)(h:l.length<ws.sum+w):vl (runs ws (false,l)) w=0:=by
 induction ws generalizing l with
 |nil =>
  simp at h;unfold runs vl;dsimp only;rw[TW h]
 |cons a ws ih =>
  simp at h;unfold runs;by_cases ha:a≤l.length
  ·have:=(iL (l:=l) (i:=0) (w:=a) o_).1;rw[aCh,aCa] at this;rw[this];exact ih _ (by simp;omega)
  ·have:jV (false,l) a=(true,l):=by
    unfold jV;dsimp only;rw[TW o_]
   rw[this,Po];rfl
theorem Kv(ws:List Nat)(w:Nat)(s:Bool×List UInt8):runs (ws++[w]) s=jV (runs ws s) w:=by
 induction ws generalizing s with
 |nil=>rfl
 |cons a ws ih=>exact ih _
def st(ws:List Nat)(l:List UInt8)(i:Nat):Bool×List UInt8:=runs (ws.take i) (false,l)
def va(ws:List Nat)(l:List UInt8)(i:Nat):Nat:=vl (st ws l i) (ws.getD i 0)
theorem yX{ws:List Nat}{l:List UInt8}{i:Nat}(hi:i≤ws.length)(h:(ws.take i).sum≤l.length):st ws l i=(false,l.drop (ws.take i).sum):=by
 induction i with
 |zero=>simp[st,runs]
 |succ i ih =>
  have e:ws.take (i+1)=ws.take i++[ws[i]]:=aAn o_;have hs:(ws.take (i+1)).sum=(ws.take i).sum+ws[i]:=by rw[e,List.sum_append];simp
  have h1:=ih o_ o_;unfold st at h1⊢;rw[hs,e,Kv,h1,(iL o_).1]
theorem dN{ws:List Nat}{l:List UInt8}{i k w:Nat}(hk:(ws.take i).sum=k)(hw:ws.getD i 0=w)(hi:i≤ws.length)(h:k+w≤l.length):va ws l i=bX l k w:=by
 subst hk hw;unfold va;rw[yX hi o_,(iL h).2.1]
theorem Fj{ws:List Nat}{l:List UInt8}{i:Nat}(h:l.length<(ws.take i).sum+ws.getD i 0):va ws l i=0:=Hl _ _ _ h
theorem Ds(ws:List Nat)(l:List UInt8)(i:Nat):va ws l i<256 ^ ws.getD i 0:=jR _ _
theorem cN{k:Nat}(h:k<9223372036854775808):rV k=k:=if_pos h
abbrev dW:List Nat:=[1,2,4,1,1,1,8,1,2,1]
def wR(l:List UInt8):aX:=⟨⟨va dW l 0,va dW l 1⟩,va dW l 2,va dW l 3,va dW l 4,va dW l 5,rV (va dW l 6),⟨va dW l 7,va dW l 8⟩⟩
theorem G0{l:List UInt8}(h:22≤l.length):wR l=tM l∧va dW l 9=bX l 21 1∧st dW l 10=(false,l.drop 22):=by
 refine⟨?_,dN rfl rfl sD o_,yX sD (by simpa using h)⟩;unfold wR tM;rw[dN (k:=0) (w:=1) rfl rfl sD o_,dN (k:=1) (w:=2) rfl rfl sD o_,dN (k:=3) (w:=4) rfl rfl sD o_,dN (k:=7) (w:=1) rfl rfl sD o_,dN (k:=8) (w:=1) rfl rfl sD o_,
  dN (k:=9) (w:=1) rfl rfl sD o_,dN (k:=10) (w:=8) rfl rfl sD o_,dN (k:=18) (w:=1) rfl rfl sD o_,dN (k:=19) (w:=2) rfl rfl sD o_]
theorem BA{p q:Prop}[Decidable p][Decidable q]{α:Type}{x y:α}(h:p↔q):(if p then x else y)=if q then x else y:=by
 by_cases hp:p
 ·rw[if_pos hp,if_pos (h.1 hp)]
 ·rw[if_neg hp,if_neg (λhq=>hp (h.2 hq))]
theorem N0(l:List UInt8):tT l=if va dW l 9=67∧(!(st dW l 10).1&&(st dW l 10).2.isEmpty)=true∧(wR l).may=true then some (wR l) else none:=by
 by_cases h:22≤l.length
 ·obtain⟨h1,h2,h3⟩:=G0 h;rw[h1,h2,h3];unfold tT;have e1:(bX l 21 1=67)↔l[21]?=some 67:=by
   rw[uY o_,aAa o_];constructor
   ·intro h;rw[show l[21]=67 from aEg.1 h]
   ·intro h;injection h with h;rw[h];rfl
  have e2:((!(false,l.drop 22).1&&(false,l.drop 22).2.isEmpty)=true)↔l.length=22:=by
   simp;omega
  exact BA ⟨λ⟨a,b,c⟩=>⟨e1.2 b,e2.2 a,c⟩,λ⟨a,b,c⟩=>⟨e2.1 b,e1.1 a,c⟩⟩
 ·rw[Fj (i:=9) (by simp;omega),if_neg (by simp)];exact if_neg λ⟨h1,_⟩=>by omega
def Mp(k:Int):Bool:=decide (k=1∨k=2∨k=3∨k=5∨12≤k)
def Pv(k:Int):Bool:=decide (k=3∨7≤k∧k≤10)
def Qg(k:Int):Bool:=decide (k=4∨k=6∨k=10∨k=11∨k=14)
def Ux(k:Int):Bool:=decide (k=1)
def YS(b:Bool)(c:aX):aX:=match b with|true=>⟨⟨0,0⟩,0,c.kind,c.a,c.b,c.n,c.ref⟩|false=>⟨⟨0,0⟩,0,0,0,0,0,⟨0,0⟩⟩
def wG(b:Bool)(n:Int):Int:=match b with|true=>n|false=>0
def cH.bare(x:cH):cH:=⟨x.kind,wG (Mp x.kind) x.r,wG (Pv x.kind) x.i,wG (Qg x.kind) x.n,YS (Ux x.kind) x.c⟩
def cH.Yv(x:cH):List Int:=[x.r,x.i,x.c.kind,x.c.a,x.c.b,x.c.ref.rep]
def cH.check(x:cH):Int :=
 if 1≤x.kind∧x.kind≤15 then
  if x.Yv.all small=true then
   if (0≤x.c.ref.seq∧x.c.ref.seq≤65535)∧0≤x.n∧x.n≤2147483647 then
    if x.bare=x then 0 else 16
   else 4
  else 4
 else 12
theorem cH.bR{x:cH}(h:x.check=0):(1≤x.kind∧x.kind≤15)∧((0≤x.r∧x.r≤255)∧(0≤x.i∧x.i≤255)∧(0≤x.c.kind∧x.c.kind≤255)∧(0≤x.c.a∧x.c.a≤255)∧(0≤x.c.b∧x.c.b≤255)∧0≤x.c.ref.rep∧x.c.ref.rep≤255)∧((0≤x.c.ref.seq∧x.c.ref.seq≤65535)∧0≤x.n∧x.n≤2147483647)∧x.bare=x:=by
 unfold cH.check at h;split at h
 ·rename_i h1;split at h
  ·rename_i h2;split at h
   ·rename_i h3;split at h
    ·rename_i h4;refine⟨h1,?_,h3,h4⟩;simpa [cH.Yv,small] using h2
    ·cases h
   ·cases h
  ·cases h
 ·cases h
end Go.Proofs.YtmilalkjbojciaaGreat.Sep
namespace Go.Proofs.YtmilalkjbojciaaGreat.Crc
def Ug:Nat:=3988292384
def LB(c:Nat):Nat:=if c % 2=1 then(c / 2) ^^^ Ug else c / 2
def bits(c:Nat):Nat→Nat
 |0=>c
 |k+1=>LB (bits c k)
def byte(c x:Nat):Nat:=bits (c ^^^ x) 8
def raw(c:Nat)(l:List UInt8):Nat:=l.foldl (λc x=>byte c x.toNat) c
def more(c:Nat)(l:List UInt8):Nat:=4294967295 ^^^ raw (4294967295 ^^^ c) l
def sum(l:List UInt8):Nat:=more 0 l
theorem zP{a b:Nat}(ha:a<4294967296)(hb:b<4294967296):a ^^^ b<4294967296:=Nat.xor_lt_two_pow (n:=32) ha hb
theorem Qr{c:Nat}(h:c<4294967296):LB c<4294967296:=by
 unfold LB;split
 ·exact zP o_ sD
 ·omega
theorem FG{c:Nat}(h:c<4294967296):∀k,bits c k<4294967296
 |0=>h
 |k+1=>Qr (FG h k)
theorem Rg{c x:Nat}(h:c<4294967296)(hx:x<256):byte c x<4294967296:=FG (zP h o_) 8
theorem Np{c:Nat}(h:c<4294967296):∀l,raw c l<4294967296:=by
 intro l;induction l generalizing c with
 |nil=>exact h
 |cons x l ih=>exact ih (Rg h (aEr x))
theorem KN{c:Nat}(h:c<4294967296)(l:List UInt8):more c l<4294967296:=zP sD (Np (zP sD h) l)
theorem EW(l:List UInt8):sum l<4294967296:=KN sD l
theorem CM(c:Nat)(a b:List UInt8):raw c (a++b)=raw (raw c a) b:=List.foldl_append
theorem PA(c:Nat)(a:List UInt8)(x:UInt8):raw c (a++[x])=byte (raw c a) x.toNat:=by rw[CM];rfl
theorem Kl(a b:Nat):a ^^^ (a ^^^ b)=b:=by rw[←Nat.xor_assoc,Nat.xor_self,Nat.zero_xor]
theorem aHc{a b c:Nat}(h:a ^^^ b=a ^^^ c):b=c:=by rw[←Kl a b,h,Kl]
theorem aHh{a b c:Nat}(h:b ^^^ a=c ^^^ a):b=c:=aHc (a:=a) (by rw[Nat.xor_comm a b,h,Nat.xor_comm])
theorem Gp(c:Nat)(a b:List UInt8):more c (a++b)=more (more c a) b:=by
 unfold more;rw[CM,Kl]
theorem OS(c:Nat):more c []=c:=Kl _ _
theorem aHs{a:Nat}(h:a<2147483648):2147483648≤a ^^^ Ug:=by
 have h1:(a ^^^ Ug).testBit 31=true:=by
  rw[Nat.testBit_xor,Nat.testBit_lt_two_pow (i:=31) o_];decide
 exact Nat.ge_two_pow_of_testBit h1
theorem aIj{a b:Nat}(ha:a<4294967296)(hb:b<4294967296)(h:LB a=LB b):a=b:=by
 unfold LB at h;split at h<;>split at h
 ·have h2:a / 2=b / 2:=aHh h;omega
 ·have:=aHs (a:=a / 2) o_;omega
 ·have:=aHs (a:=b / 2) o_;omega
 ·omega
theorem aHb{a b:Nat}(ha:a<4294967296)(hb:b<4294967296):∀k,bits a k=bits b k→a=b
 |0,h=>h
 |k+1,h=>aHb ha hb k (aIj (FG ha k) (FG hb k) h)
theorem aIv{a b:Nat}(ha:a<4294967296)(hb:b<4294967296)(l:List UInt8)(h:raw a l=raw b l):a=b:=by
 induction l generalizing a b with
 |nil=>exact h
 |cons x l ih =>
  have hx:=aEr x;have h2:=ih (Rg ha hx) (Rg hb hx) h;have h3:=aHb (zP ha o_) (zP hb o_) 8 h2;exact aHh h3
theorem aJc(a b:List UInt8)(x y:UInt8)(h:x≠y):sum (a++x::b)≠sum (a++y::b):=by
 intro he;unfold sum more at he;have h1:=aHc he;have hc:raw (4294967295 ^^^ 0) a<4294967296:=Np sD a;have hx:=aEr x;have hy:=aEr y;rw[CM,CM] at h1;have h2:byte _ x.toNat=byte _ y.toNat:=aIv (Rg hc hx) (Rg hc hy) b h1;have h3:=aHb (zP hc o_) (zP hc o_) 8 h2;exact h (aEg.1 (aHc h3))
end Go.Proofs.YtmilalkjbojciaaGreat.Crc
namespace Go.Proofs.YtmilalkjbojciaaGreat.Crc
open Go.RowKit Mem
theorem YA{c:Nat}(h:c<4294967296):Go.bits .and .u32 (c:Int) 1=((c % 2:Nat):Int):=by
 rw[show(1:Int)=((1:Nat):Int) from rfl,u32_and_nat c 1 h sD,nat_mask1]
theorem T5{c:Nat}(h:c<4294967296):Go.bits .xor .u32 IntKind.u32.max (c:Int)=((4294967295 ^^^ c:Nat):Int):=u32_xor_nat 4294967295 c sD h
theorem QO(c:Nat)(hc:c<4294967296)(A:Option Addr)(n cap B:Nat)(l:List UInt8)(W:World)(hr:Rd Fq W B A n cap l) :
  Calls prog 294 #[.int .u32 (c:Int),.slice A n cap] W λe w'=>e=.returned (.int .u32 (more c l:Nat))∧W=w':=by
 have hn:=hr.cap;have hnl:=Lib.hid hr.len;unfold maxLen at hn;have hx:=T5 hc;have hd:∀l,4294967295 ^^^ raw (4294967295 ^^^ c) l=more c l:=λ_=>rfl;have HD:=Lib.hid hd;clear hd;have hc0:4294967295 ^^^ c<4294967296:=zP sD hc;generalize 4294967295 ^^^ c=c0 at *
 go_enter func294,ntmps294
 go_wp2
 clear hx
 go_loop [5,12] (λt i=>∃k:Nat,k≤n∧i=.int .i64 k∧t=.int .u32 (raw c0 (l.take k):Nat)) (λ_ i=>n - (intOf i).toNat)
 case atStart=>exact⟨0,by omega,rfl,rfl⟩
 case round =>
  obtain⟨k,hk,rfl,rfl⟩:=hrel;have hb:=Np hc0 (l.take k);by_cases hlt:k<n
  ·obtain⟨ad,rfl,_,hl,hcell⟩:=hr.j9 hlt;have hs:raw c0 (l.take (k+1))=byte (raw c0 (l.take k)) l[k].toNat:=by
    rw[aAn hl,PA]
   have HS:=Lib.hid hs;clear hs;have hx:=aEr l[k];generalize hR:raw c0 (l.take k)=R at *;clear hR;generalize l[k].toNat=x at *;have hxx:Go.bits .xor .u32 (R:Int) (x:Int)=((R ^^^ x:Nat):Int):=u32_xor_nat R x hb o_;have hR2:R ^^^ x<4294967296:=zP hb o_;have hby:bits (R ^^^ x) 8=byte R x:=rfl;have HBY:=Lib.hid hby
   clear hby
   generalize hY:R ^^^ x=Y at *;clear hY
   go_wp2
   clear hxx
   go_loop [5,20] (λt i=>∃j:Nat,j≤8∧i=.int .i64 j∧t=.int .u32 (bits Y j:Nat)) (λ_ i=>8 - (intOf i).toNat)
   case atStart=>exact⟨0,by omega,rfl,rfl⟩
   case round =>
    obtain⟨j,hj,rfl,rfl⟩:=hrel;have hbb:=FG hR2 j;have hst:bits Y (j+1)=LB (bits Y j):=rfl;have HST:=Lib.hid hst;clear hst;by_cases h8:j<8
    ·generalize bits Y j=Z at *;have hm:=YA hbb;have hq:(Z:Int) / 2=((Z / 2:Nat):Int):=by simp
     have hp:Go.bits .xor .u32 ((Z:Int) / 2) 3988292384=((Z / 2 ^^^ Ug:Nat):Int):=by
      rw[hq];exact u32_xor_nat (Z / 2) 3988292384 o_ sD
     clear hq;by_cases h1:Z % 2=1
     ·have hs1:LB Z=Z / 2 ^^^ Ug:=if_pos h1;have HS1:=Lib.hid hs1;clear hs1
      go_wp2
      all_goals go_round
      case rel=>exact⟨j+1,by omega,by go_num,J7 (by rw[HST.out,HS1.out])⟩
      case measure=>simp[intOf];omega
     ·have hs1:LB Z=Z / 2:=if_neg h1;have HS1:=Lib.hid hs1;clear hs1 hp
      go_wp2
      all_goals go_round
      case rel=>exact⟨j+1,by omega,by go_num,by rw[HST.out,HS1.out];simp⟩
      case measure=>simp[intOf];omega
    ·obtain rfl:j=8:=o_
     go_wp2
     go_round
     case rel=>exact⟨k+1,by omega,by go_num,J7 (by rw[HS.out,HBY.out])⟩
     case measure=>simp[intOf];omega
  ·obtain rfl:k=n:=o_
   go_wp2
   go_ret
   exact⟨SP (by rw[T5 hb,HD.out,hnl.out,aAo]),rfl⟩
def FK(c:Nat)(ls:List (List UInt8)):Nat:=ls.foldl more c
theorem R9{c:Nat}(h:c<4294967296):∀ls,FK c ls<4294967296:=by
 intro ls;induction ls generalizing c with
 |nil=>exact h
 |cons x l ih=>exact ih (KN h x)
theorem FE(c:Nat)(ls:List (List UInt8)):FK c ls=more c ls.flatten:=by
 induction ls generalizing c with
 |nil=>exact(OS c).symm
 |cons x l ih=>rw[aFs,Gp,←ih];rfl
theorem MK(c:Nat)(ls:List (List UInt8))(x:List UInt8):FK c (ls++[x])=more (FK c ls) x:=by simp[FK]
end Go.Proofs.YtmilalkjbojciaaGreat.Crc
namespace Go.Proofs.YtmilalkjbojciaaGreat.Sep
open Go.RowKit Reg
open Mem hiding Rd
theorem V5{E:Env}{H:List aL}{A:Option Addr}{n c:Nat}{l:List UInt8}{u:World}(h:kV E H aU A n c l)(hu:St E H u):Mem.Rd Fq u u.heap.size A n c l:=by
 obtain⟨h0,h1,h2,h3⟩:=h u hu;refine⟨h0,h1,h2,?_,λhn=>?_⟩
 ·rw[Fq.bM,←h0]
 ·rcases h3 with h3|⟨ad,e,hc⟩
  ·omega
  ·have hl:0<(aU.bT l).length:=by rw[aU.bM,←h0];exact Nat.mul_pos hn aU.gL
   have:=aEk _ _ (hc 0 _ (aAa hl));exact⟨ad,e,by rwa [eQ] at this,hc⟩
theorem Of(E:Env)(s:Nat)(hs:s<4294967296)(A:Option Addr)(n c:Nat)(l:List UInt8)(hr:Rd E aU A n c l) :
  aK prog E 294 #[.int .u32 s,.slice A n c] [] λe H'=>e=.returned (.int .u32 (Crc.more s l:Nat))∧H'=[] :=
 Pu λ_ hw=>Crc.QO s hs A n c _ l _ (V5 (kV.rd hr) hw)
theorem P9(E:Env)(A:Option Addr)(n c:Nat)(l:List Oc)(hr:Rd E vQ A n c l)(hi:Zl E l) :
  aK prog E 245 #[.slice A n c] [] λe H'=>e=.returned (.int .u32 (Crc.sum (l.map (·.b)).flatten:Nat))∧H'=[]:=by
 have hn:=hr.len;have hcap:=hr.cap;have hbig:n≤9223372036854775807:=by unfold maxLen at hcap;omega
 refine t_ func245 ntmps245 ?_;repeat first|refine aE ?_|intro
 refine C.loop (X:=Nat) (λi=>[(3,.int .u32 (Crc.FK 0 ((l.take i).map (·.b)):Nat)),(6,.slice A n c),(7,.int .i64 n),(8,.int .i64 i)]) (λ_=>[]) (λi=>i≤n) (λi=>n - i) 0 aD aB.refl (aAh _) ?_;rintro i G hin;by_cases hlt:i<n
 ·have hx:l[i]?=some l[i]:=aAa o_;have hri:=hi.at_ hx;have hs:=Crc.R9 (c:=0) sD ((l.take i).map (·.b));have e3:Crc.FK 0 ((l.take (i+1)).map (·.b))=Crc.more (Crc.FK 0 ((l.take i).map (·.b))) l[i].b:=by
   rw[aAn o_,aBk,aCi,aDo,Crc.MK]
  generalize l[i]=x at *;repeat first|refine aE ?_|intro
  refine dX (λM=>Of M _ hs x.A x.n x.c x.b) ?_;rintro e H' ⟨rfl,rfl⟩;rw[←e3];repeat first|refine aE ?_|intro
  exact⟨i+1,aD,aB.refl,by omega,by omega⟩
 ·obtain rfl:i=n:=o_;have e4:Crc.FK 0 ((l.take i).map (·.b))=Crc.sum (l.map (·.b)).flatten:=by
   rw[hn,aAo,Crc.FE];rfl
  rw[e4];repeat first|refine aE ?_|intro
  exact B7
theorem Bc(E:Env)(_g:Nat)(A:Option Addr)(n c:Nat)(l:List UInt8)(hr:Rd E aU A n c l)(B:Option Addr)(hB:Rd E vQ B 1 1 [⟨A,n,c,l⟩]) :
  aK prog E 245 #[.slice B 1 1] [] λe H'=>e=.returned (.int .u32 (Crc.sum l:Nat))∧H'=[]:=by
 have h:=P9 E B 1 1 _ hB (λx hx=>by simp at hx;subst hx;exact hr);simpa using h
end Go.Proofs.YtmilalkjbojciaaGreat.Sep
