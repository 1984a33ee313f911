/- Part AI: what it needs. No condition. -/
import Derived.Test.YtmilalkjbojciaaGreatOAA
import Derived.Test.YtmilalkjbojciaaGreatOAG
import Derived.Test.YtmilalkjbojciaaGreatOAH
import Derived.RecoverIn
import Derived.Test.YtmilalkjbojciaaGreatOAB
import Derived.Test.YtmilalkjbojciaaGreatOAD
set_option maxRecDepth 100000
set_option maxHeartbeats 8000000
open Go.Proofs.Tryz
namespace Go.Proofs.YtmilalkjbojciaaGreat.Sep
structure O8 where
 a0:Int
 a1:Int
 a2:Int
 a3:Int
 a4:Int
 a5:Int
 a6:Int
 a7:Int
def O8.get(x:O8)(i:Int):Int:=if i=0 then x.a0 else if i=1 then x.a1 else if i=2 then x.a2 else if i=3 then x.a3 else if i=4 then x.a4 else if i=5 then x.a5 else if i=6 then x.a6 else x.a7
def O8.set(x:O8)(i v:Int):O8:=if i=0 then { x with a0:=v } else if i=1 then { x with a1:=v } else if i=2 then { x with a2:=v } else if i=3 then { x with a3:=v } else if i=4 then { x with a4:=v } else if i=5 then { x with a5:=v } else if i=6 then { x with a6:=v } else { x with a7:=v }
theorem O8.gs(x:O8):x.get 0=x.a0∧x.get 1=x.a1∧x.get 2=x.a2∧x.get 3=x.a3∧x.get 4=x.a4∧x.get 5=x.a5∧x.get 6=x.a6∧x.get 7=x.a7:=⟨rfl,rfl,rfl,rfl,rfl,rfl,rfl,rfl⟩
theorem O8.ss(x:O8)(v:Int):x.set 0 v=⟨v,x.a1,x.a2,x.a3,x.a4,x.a5,x.a6,x.a7⟩∧x.set 1 v=⟨x.a0,v,x.a2,x.a3,x.a4,x.a5,x.a6,x.a7⟩∧x.set 2 v=⟨x.a0,x.a1,v,x.a3,x.a4,x.a5,x.a6,x.a7⟩∧x.set 3 v=⟨x.a0,x.a1,x.a2,v,x.a4,x.a5,x.a6,x.a7⟩∧x.set 4 v=⟨x.a0,x.a1,x.a2,x.a3,v,x.a5,x.a6,x.a7⟩∧x.set 5 v=⟨x.a0,x.a1,x.a2,x.a3,x.a4,v,x.a6,x.a7⟩∧x.set 6 v=⟨x.a0,x.a1,x.a2,x.a3,x.a4,x.a5,v,x.a7⟩∧x.set 7 v=⟨x.a0,x.a1,x.a2,x.a3,x.a4,x.a5,x.a6,v⟩:=⟨rfl,rfl,rfl,rfl,rfl,rfl,rfl,rfl⟩
def O8.BH(x:O8)(hi:Int):Prop:=(0≤x.a0∧x.a0≤hi)∧(0≤x.a1∧x.a1≤hi)∧(0≤x.a2∧x.a2≤hi)∧(0≤x.a3∧x.a3≤hi)∧(0≤x.a4∧x.a4≤hi)∧(0≤x.a5∧x.a5≤hi)∧(0≤x.a6∧x.a6≤hi)∧(0≤x.a7∧x.a7≤hi)
theorem oV{i:Int}(h:0≤i∧i≤7):i=0∨i=1∨i=2∨i=3∨i=4∨i=5∨i=6∨i=7:=by omega
abbrev Y7:O8:=⟨0,0,0,0,0,0,0,0⟩
structure Bk where
 fP:O8
 mO:O8
 eO:O8
 aH:List dD
abbrev sY:Bk:=⟨Y7,Y7,Y7,[]⟩
def Bk.ok(b:Bk):Prop:=b.fP.BH 1099511627776∧b.mO.BH 1073741824∧b.eO.BH 1099511627776
abbrev Bk.cs(b:Bk)(A:Option Addr)(n c:Nat):List Value:=[.int .i64 b.fP.a0,.int .i64 b.fP.a1,.int .i64 b.fP.a2,.int .i64 b.fP.a3,.int .i64 b.fP.a4,.int .i64 b.fP.a5,.int .i64 b.fP.a6,.int .i64 b.fP.a7,.int .i64 b.mO.a0,.int .i64 b.mO.a1,.int .i64 b.mO.a2,.int .i64 b.mO.a3,.int .i64 b.mO.a4,.int .i64 b.mO.a5,.int .i64 b.mO.a6,.int .i64 b.mO.a7,.int .i64 b.eO.a0,.int .i64 b.eO.a1,.int .i64 b.eO.a2,.int .i64 b.eO.a3,.int .i64 b.eO.a4,.int .i64 b.eO.a5,.int .i64 b.eO.a6,.int .i64 b.eO.a7,.slice A n c]
def eight(i:Int):Bool:=decide (0≤i∧i≤7)
def nF(b:Bk)(i n:Int):Bk×Int:=if (0≤i∧i≤7)∧0≤n∧n≤1099511627776 then(if b.fP.get i+n≤1099511627776 then({ b with fP:=b.fP.set i (b.fP.get i+n) },0) else(sY,7)) else(sY,4)
def jB(b:Bk)(i n:Int):Bk×Int:=if (0≤i∧i≤7)∧0≤n∧n≤1099511627776 then(if b.fP.get i<n then(sY,11) else({ b with fP:=b.fP.set i (b.fP.get i - n) },0)) else(sY,4)
def Aj(b:Bk)(i n:Int):Bool:=decide ((jB b i n).2=0)
def mF(b:Bk)(i n:Int):Bk×Int:=if (0≤i∧i≤7)∧0≤n∧n≤1073741824 then({ b with mO:=b.mO.set i n },0) else(sY,4)
def mY(b:Bk)(i n:Int):Int×Int:=if (0≤i∧i≤7)∧0≤n∧n≤1099511627776 then(if n*b.mO.get i≤1099511627776 then(n*b.mO.get i,0) else(0,7)) else(0,4)
def jT(b:Bk)(i n:Int):Bk×Int:=if (0≤i∧i≤7)∧0≤n∧n≤1099511627776 then(if b.eO.get i+n≤1099511627776 then({ b with eO:=b.eO.set i (b.eO.get i+n) },0) else(sY,7)) else(sY,4)
def sN(b:Bk)(i n:Int):Bk×Int:=if (0≤i∧i≤7)∧0≤n∧n≤1099511627776 then(if b.eO.get i<n then(sY,11) else({ b with eO:=b.eO.set i (b.eO.get i - n) },0)) else(sY,4)
def zS(a b:bJ):Bool:=decide (a.seq<b.seq∨a.seq=b.seq∧a.rep<b.rep)
def fA(b:Bk)(a:bJ):Int:=place (λo=>decide (o.id=a)) b.aH
def lK(b:Bk)(o:dD):Bk:=if 0≤fA b o.id then { b with aH:=b.aH.set (fA b o.id).toNat o }
 else { b with aH:=b.aH.take (behind (λx=>zS x.id o.id) b.aH)++[o]++b.aH.drop (behind (λx=>zS x.id o.id) b.aH) }
def wH(b:Bk)(o:dD):Bk×Int:=if 0≤fA b o.id then(sY,9) else if 32≤b.aH.length then(sY,3) else(lK b o,0)
def vL(b:Bk)(a:bJ):Option dD:=if 0≤fA b a then b.aH[(fA b a).toNat]? else none
abbrev UR:dD:=⟨⟨0,0⟩,0,0,0,0,0⟩
def FT(b:Bk)(a:bJ)(st:List Int):dD×Int:=match vL b a with
 |none=>(UR,14)
 |some o=>if st.contains o.state then(o,0) else(UR,9)
structure Wk where
 b:Bk
 out:List cQ
 ref:bJ
abbrev Wr:=Except Int Wk
def Wk.iQ(w:Wk)(r:Bk×Int):Wr:=if r.2=0 then .ok { w with b:=r.1 } else .error r.2
def Wk.tell(w:Wk)(kind a n:Int):Wk:={ w with out:=w.out++[⟨kind,a,n,w.ref⟩] }
def Wk.put(w:Wk)(o:dD)(st:Int):Wk:={ w with b:=lK w.b { o with state:=st } }
def Wk.order(w:Wk)(a:bJ)(st:List Int):Except Int (Wk×dD):=if (FT w.b a st).2=0 then .ok ({ w with ref:=a },(FT w.b a st).1) else .error (FT w.b a st).2
def C9(p:Bool)(k:Int)(r:Wr):Wr:=if p then r else .error k
def oI(b:Bk)(c:aX):Int:=if !Aj b c.b c.n&&decide (c.ref.seq=1)&&Aj b c.ref.rep c.n then c.ref.rep else c.b
def Wk.place(w:Wk)(c:aX):Wr:=C9 (eight c.a&&eight c.b&&decide (1≤c.n∧c.n≤1000)) 4 do
 let w1 ←w.iQ (wH w.b ⟨c.id,c.a,oI w.b c,c.n,0,1⟩)
 let w2 ←w1.iQ (jB w1.b (oI w.b c) c.n)
 return ({ w2 with ref:=c.id }.tell 1 (oI w.b c) c.n).tell 7 c.a 1
def Wk.J6(w:Wk)(c:aX):Wr:=C9 (decide (1≤c.n∧c.n≤1000)) 4 do
 let (w1,o) ←w.order c.ref [1]
 let w2 ←if 0≤c.n - o.iN then w1.iQ (jB w1.b o.item (c.n - o.iN)) else w1.iQ (nF w1.b o.item (o.iN - c.n))
 return (w2.put { o with iN:=c.n } 1).tell 2 o.item c.n
def Wk.cancel(w:Wk)(c:aX):Wr:=do
 let (w1,o) ←w.order c.ref [1,2]
 let w2 ←w1.iQ (nF w1.b o.item o.iN)
 let w3:=w2.tell 3 o.item o.iN
 let w4 ←if o.state=2 then(do let x ←w3.iQ (jT w3.b o.cC o.cost);return x.tell 10 o.cC o.cost) else .ok w3
 return (w4.put o 4).tell 7 o.cC 2
def Wk.Y2(w:Wk)(c:aX):Wr:=do
 let (w1,o) ←w.order c.ref [1]
 if (mY w1.b o.item o.iN).2≠0 then .error (mY w1.b o.item o.iN).2 else
 let k:=(mY w1.b o.item o.iN).1
 let w2 ←w1.iQ (sN w1.b o.cC k)
 return ((w2.put { o with cost:=k } 2).tell 4 o.cC k).tell 9 o.cC k
def Wk.Qn(w:Wk)(c:aX):Wr:=do
 let (w1,o) ←w.order c.ref [2]
 return ((((w1.put o 3).tell 5 o.item o.iN).tell 6 o.item o.iN).tell 11 o.item o.iN).tell 7 o.cC 3
def Wk.Er(w:Wk)(c:aX):Wr:=do
 let (w1,o) ←w.order c.ref [3]
 let w2 ←w1.iQ (jT w1.b o.cC o.cost)
 return (w2.put o 5).tell 10 o.cC o.cost
def Wk.do(w:Wk)(c:aX):Wr :=
 if c.kind=1 then C9 (decide (1≤c.n)) 4 (w.iQ (nF w.b c.a c.n))
 else if c.kind=2 then C9 (decide (1≤c.n)) 4 (do let x ←w.iQ (jT w.b c.a c.n);return x.tell 8 c.a c.n)
 else if c.kind=3 then w.place c
 else if c.kind=4 then w.J6 c
 else if c.kind=5 then w.cancel c
 else if c.kind=6 then w.Y2 c
 else if c.kind=7 then w.Qn c
 else if c.kind=8 then w.Er c
 else if c.kind=9 then w.iQ (mF w.b c.a c.n)
 else .error 12
structure Out where
 code:Int
 zM:List cQ
def C0(b:Bk)(c:aX):Bk×Out:=match Wk.do ⟨b,[],⟨0,0⟩⟩ c with
 | .ok w=>(w.b,⟨0,w.out⟩)
 | .error k=>(b,⟨k,[]⟩)
def gH(b:Bk):List aX→Bk×List Out
 | []=>(b,[])
 |c::l=>((gH (C0 b c).1 l).1,(C0 b c).2::(gH (C0 b c).1 l).2)
end Go.Proofs.YtmilalkjbojciaaGreat.Sep
namespace Go.Proofs.YtmilalkjbojciaaGreat.Sep
open Go.RowKit Mem Reg
section
variable {P:Program} {N:Nat} {E:Env} {Q:QF} {F:Nat→Value} {H R:List aL}
def Z3(v:Value):List PanicEntry:=[{ v,recovered:=false }]
theorem CV{f:FuncId}{fn:Func}{ops:List Operand}{tys:Array TypeId}{Hp:List aL}{vs:List Value}{Q1:Ending→List aL→Prop}{o:Oper}(ho:o.op=.call { callee:=.value (.func f),args:=ops.toArray,argTypes:=tys })(hvs:AO F ops=vs)
  (hfn:P.funcs[f]?=some fn) (hname:(fn.name == "runtime.NumGoroutine")=false) (hbody:fn.body.isNone=false)
  (hp:cS Hp H R) (h:∀E',Sub E R E'→aK P E' f vs.toArray Hp Q1) {Kw:Act→World→Prop} {Q':Exit→Act→World→Prop} {a:Act} {u:World} (ha:qX E N F a) (hu:St E H u)
  (hr:∀v H' u',Q1 (.returned v) H'→St E (H'++R) u'→Kw (a.put o.dst v) u')
  (hc:∀c H' u',Q1 (.panicked c) H'→St E (H'++R) u'→Q' (.panic c) a u')
  (hno:∀H',¬Q1 .outgrown H'):o.wp P a u Kw Q':=by
 subst hvs;obtain⟨E',hds,hE,hst,hback⟩:=(hu.aV hp).enter;unfold Oper.wp;have hx:(execOp a.eval o).run P u=.ok (.enter f (AO F ops).toArray) u:=by
  have h1:¬fn.name = "runtime.NumGoroutine" := by simpa using hname
  have h2:¬fn.body=none:=by intro h;rw[h] at hbody;cases hbody
  rw[ha.eval,AB];simp[execOp,ho,resolve,ev,Deferred.ofValue,invoke,callFunc,hfn,h1,h2]
 rw[hx];refine(h E' hE hds u hst).mono ?_;rintro e w' ⟨H',h3,h4⟩;cases e with
 |returned v=>exact hr v H' w' h4 (hback H' w' h3)
 |panicked c=>exact hc c H' w' h4 (hback H' w' h3)
 |outgrown=>exact(hno H' h4).elim
theorem V.e9{ρ:Operand→Value}{x:Operand}{v:Value}{t:TypeId}{u:World}{o:Oper}(ho:o.op=.makeInterface t x)(hx:ρ x=v)(ht:P.concrete t=true):(execOp ρ o).run P u=.ok (.value (.iface t v)) u:=by
 simp[execOp,ho,hx,run_makeInterface u t v ht]
theorem L.panic{x:Operand}{v:Value}{t:TypeId}{ops rest:List Oper}{d:Option Nat}{ty:TypeId}{pos:String}{af:Array Edge}
  (hx:ev F x=.iface t v) (hq:Q (.panic (Z3 (.iface t v))) (λ_=>undef) H):L P N E ops Q (⟨d,.panic x,ty,pos,af,none⟩::rest) F H:=by
 refine⟨λa w ha hw=>wpList_plain rfl λK hK=>?_⟩;unfold Oper.wp;have hx:(execOp a.eval ⟨d,.panic x,ty,pos,af,none⟩).run P w=.halt (.panic (.iface t v)) w:=by
  rw[ha.eval];simp[execOp,Instr.panic,hx]
 rw[hx];exact⟨ha.defers,H,hw,hq⟩
end
structure xD(P:Program)(N:Nat)(E:Env)(ops:List Oper)(Qw:Exit→Act→World→Prop)(l:List Oper)(F:Nat→Value)(H:List aL):Prop where
 get:∀a w,qX E N F a→St E H w→wpListIn (fz none) 0 P ops.toArray Qw l a w
section
variable {P:Program} {N:Nat} {E:Env} {Q:QF} {Qw:Exit→Act→World→Prop} {F:Nat→Value} {H R:List aL}
theorem WJ.Zd{id:Nat}{ops:List Oper}{y:Code}(h:xD P N E ops (Exit.then (λa w=>y.wpIn (fz none) 0 P Qw a w) Qw) ops F H):WJ P N E (.seq (.region id ops.toArray false) y) Qw F H :=
 ⟨λa w ha hw=>wpIn_seq (wpIn_region_lit (h.get a w ha hw))⟩
theorem xD.nil{ops:List Oper}{y:Code}(h:WJ P N E y Qw F H):xD P N E ops (Exit.then (λa w=>y.wpIn (fz none) 0 P Qw a w) Qw) [] F H:=⟨λa w ha hw=>h.get a w ha hw⟩
theorem xD.Yd{ops rest:List Oper}{d:Nat}{op:Op}{ty:TypeId}{pos:String}{af:Array Edge}{v:Value}(hd:d<N)(hdf:∀c,op≠.defer c)
  (hy:qB P E H (ev F) ⟨some d,op,ty,pos,af,none⟩ v) (h:xD P N E ops Qw rest (pT F d v) H):xD P N E ops Qw (⟨some d,op,ty,pos,af,none⟩::rest) F H:=by
 refine⟨λa w ha hw=>?_⟩;refine wpListIn_plain rfl λK hK=>Cs hdf ?_;unfold Oper.wp;rw[ha.eval,hy w hw];exact hK _ _ (h.get _ w (ha.put hd v) hw)
theorem xD.YV{ops rest:List Oper}{d f:Nat}{xs:List Operand}{vs:List Value}{ty:TypeId}{pos:String}{af:Array Edge}(hd:d<N)(hx:KV F xs vs)
  (h:xD P N E ops Qw rest (pT F d (.func (.func f) #[] vs.toArray)) H):xD P N E ops Qw (⟨some d,.makeFunc (.func f) #[] xs.toArray,ty,pos,af,none⟩::rest) F H :=
 xD.Yd hd (λ_=>by simp) (λu _=>V.Tt rfl rfl hx) h
theorem xD.defer{ops rest:List Oper}{f:Nat}{vs:List Value}{x:Operand}{tys:Array TypeId}{ty:TypeId}{pos:String}{af:Array Edge}(hx:ev F x=.func (.func f) #[] vs.toArray)
  (h:xD P N (E.jU ({ target:=.fn (.func f) vs.toArray,args:=#[] }::E.ds)) ops Qw rest F H):xD P N E ops Qw (⟨none,.defer { callee:=.value x,args:=#[],argTypes:=tys },ty,pos,af,none⟩::rest) F H:=by
 refine⟨λa w ha hw=>?_⟩;refine wpListIn_plain rfl λK hK=>?_;have hr:(execOp a.eval ⟨none,.defer { callee:=.value x,args:=#[],argTypes:=tys },ty,pos,af,none⟩).run P w=.ok (.defer { target:=.fn (.func f) vs.toArray,args:=#[] }) w:=by
  rw[ha.eval];simp[execOp,resolve,hx,Deferred.ofValue]
 refine⟨λ_ _=>trivial,?_⟩;rw[show(fz none).round=none from rfl,Oper.semAt_none,hr,Oper.uponIn_defer];refine hK _ _ (h.get _ w ⟨?_,ha.size,ha.get⟩ hw.jU);show _::a.defers=_::E.ds;rw[ha.defers]
theorem xD.Wx{f:FuncId}{fn:Func}{args:List Operand}{tys:Array TypeId}{Hp:List aL}{Q1:Ending→List aL→Prop}{ops rest:List Oper}{d:Nat}{ty:TypeId}{pos:String}{af:Array Edge}(hd:d<N)
  (hfn:P.funcs[f]?=some fn) (hname:(fn.name == "runtime.NumGoroutine")=false) (hbody:fn.body.isNone=false)
  (hp:cS Hp H R) (h:∀E',Sub E R E'→aK P E' f (AO F args).toArray Hp Q1) (hno:∀H',¬Q1 .outgrown H')
  (hc:∀c H',Q1 (.panicked c) H'→∀a w,qX E N F a→St E (H'++R) w→Qw (.panic c) a w)
  (hk:∀v H',Q1 (.returned v) H'→xD P N E ops Qw rest (pT F d v) (H'++R)) :
  xD P N E ops Qw (⟨some d,.call { callee:=.value (.func f),args:=args.toArray,argTypes:=tys },ty,pos,af,none⟩::rest) F H:=by
 refine⟨λa w ha hw=>?_⟩;refine wpListIn_plain rfl λK hK=>Cs (λ_=>by simp) ?_;exact CV rfl rfl hfn hname hbody hp h ha hw (λv H' u' hq hu'=>hK _ _ ((hk v H' hq).get _ u' (ha.put hd v) hu')) (λc H' u' hq hu'=>hc c H' hq a u' ha hu') hno
structure Lv(P:Program)(N:Nat)(E:Env)(fn:Func)(W:Ending→List aL→Prop)(ds:List Deferred)(u:FrameMode)(F:Nat→Value)(H:List aL):Prop where
 get:∀a w,qX (E.jU ds) N F a→St (E.jU ds) H w→LeavesIn (fz none) 0 P fn a.tmps (λe w'=>∃H',St E H' w'∧W e H') a.defers u w
def N4(P:Program)(E:Env)(f:FuncId)(args:Array Value)(u:FrameMode)(H:List aL)(R:Ending→FrameMode→List aL→Prop):Prop :=
 E.ds=[]→∀w,St E H w→CallsDIn (fz none) 0 P f args u w λe u' w'=>∃H',St E H' w'∧R e u' H'
theorem Lv.one{fn:Func}{W:Ending→List aL→Prop}{f:Nat}{vs:List Value}{u:FrameMode}{Hp:List aL}{R1:Ending→FrameMode→List aL→Prop}(hu:u≠.run)(hfn:∃g,P.funcs[f]?=some g∧(g.name == "runtime.NumGoroutine")=false∧g.body.isNone=false)
  (hp:cS Hp H R) (h:∀E',Sub E R E'→N4 P E' f vs.toArray u Hp R1)
  (hk:∀e u' H',R1 e u' H'→(∃v,e=.returned v)∧Go.settle u'=.returning∧gF P E fn W .ret F (H'++R)):Lv P N E fn W [{ target:=.fn (.func f) vs.toArray,args:=#[] }] u F H:=by
 refine⟨λa w ha hw=>?_⟩;obtain⟨g,h1,h2,h3⟩:=hfn;rw[ha.defers];refine leavesIn_cons (f:=f) (args:=vs.toArray) hu (λh=>by cases h) ?_ (λ_ _=>trivial) ?_
 ·have h1':¬g.name = "runtime.NumGoroutine" := by simpa using h2
  have h2':¬g.body=none:=by intro h;rw[h] at h3;cases h3
  simp[invoke,callFunc,h1,h1',h2']
 ·obtain⟨E',hds,hE,hst,hback⟩:=(hw.JC.aV hp).enter;refine(h E' hE hds w hst).mono ?_;rintro e u' w' ⟨H',hs,hr⟩;obtain⟨⟨v,rfl⟩,hu',v2,H2,k1,k2,k3⟩:=hk e u' H' hr;have hs2:=hback H' w' hs;show LeavesIn _ _ _ _ _ _ [] (Go.settle u') w';rw[hu'];refine⟨v2,?_,H2,k2 _ hs2,k3⟩;rw[show results fn a.tmps=yC fn F from pV ha];exact k1 _ hs2
theorem Xb{f:FuncId}{fn:Func}{c:Code}{args:Array Value}{W:Ending→List aL→Prop}(hf:P.funcs[f]?=some fn)(hb:fn.body=some c)(hn:fn.ntmps=N)(ha:args.size≤N)
  (h:E.ds=[]→WJ P N E c (bodyPostDIn (fz none) 0 P fn λe w'=>∃H',St E H' w'∧W e H') (Jr args) H):aK P E f args H W:=by
 intro hds w hw;refine qC (n:=0) (callsIn_of_wp_defers hf hb trivial ((h hds).get _ w ?_ hw));refine⟨hds.symm,by simp;omega,λi=>?_⟩;simp only[Jr,Fl,aBb,aEe,aBy,aEo,aDt];split
 ·rfl
 ·rename_i h;rw[aCu o_];split<;>rfl
def Zx(P:Program)(N:Nat)(E:Env)(fn:Func)(W:Ending→List aL→Prop)(ds:List Deferred):QF
 | .normal,F,H | .ret,F,H=>Lv P N E fn W ds .returning F H
 |_,_,_=>False
theorem WJ.l7{fn:Func}{tail:Code}{W:Ending→List aL→Prop}{ds:List Deferred}(h:C P N (E.jU ds) tail (Zx P N E fn W ds) F H) :
  WJ P N (E.jU ds) tail (bodyPostDIn (fz none) 0 P fn λe w'=>∃H',St E H' w'∧W e H') F H:=by
 refine⟨λa w ha hw=>wpIn_mono ((wpIn_wide (n:=0)).2 (h.get a w ha hw)) ?_⟩;intro e a w hq;cases e with
 |normal=>obtain⟨F,H,hr,hs,hp⟩:=hq;exact hp.get a w hr hs
 |ret=>obtain⟨F,H,hr,hs,hp⟩:=hq;exact hp.get a w hr hs
 |exit id=>obtain⟨_,_,_,_,h⟩:=hq;exact h.elim
 |panic c=>obtain⟨_,_,_,h⟩:=hq;exact h.elim
 |_=>exact hq.elim
def asked:FrameMode→Value×FrameMode
 | .panicking ({ v,recovered:=false,goexit:=false }::older)=>(v,.panicking ({ v,recovered:=true }::older))
 |u=>(.nilIface,u)
theorem Ur{f:FuncId}{fn:Func}{id d1 d2:Nat}{ty ty2:TypeId}{pos pos2:String}{af af2:Array Edge}{tys:Array TypeId}{y:Code}{args:Array Value}{u:FrameMode}{W:Ending→List aL→Prop}(hf:P.funcs[f]?=some fn)
  (hb:fn.body=some (.seq (.region id #[⟨some d1,.call { callee:=.builtin .recover,args:=#[],argTypes:=tys },ty,pos,af,none⟩,⟨some d2,.assign (.tmp d1),ty2,pos2,af2,none⟩] false) y)) (hn:fn.ntmps=N) (ha:args.size≤N) (hd1:d1<N) (hd2:d2<N)
  (h:C P N E y (gF P E fn W) (pT (pT (Jr args) d1 (asked u).1) d2 (asked u).1) H):N4 P E f args u H (λe u' H'=>u'=(asked u).2∧W e H'):=by
 intro hds w hw;have hr:qX E N (Jr args) { tmps:=args++Array.replicate (fn.ntmps - args.size) undef,defers:=[] }:=by
  refine⟨hds.symm,by simp;omega,λi=>?_⟩;simp only[Jr,Fl,aBb,aEe,aBy,aEo,aDt];split
  ·rfl
  ·rename_i h;rw[aCu o_];split<;>rfl
 have hr1:=(hr.put hd1 (asked u).1).put hd2 (asked u).1;refine callsDIn_of_wpSIn hf hb trivial λc₀ cs hu=>?_;apply wpSIn_seq;apply wpSIn_region;have key:∀(K:Value→List Frame→Prop),K (asked u).1 ({ c₀ with mode:=(asked u).2 }::cs)→(match recoverD (c₀::cs) with
  |some (v,cs')=>K v cs'
  |none=>K .nilIface (c₀::cs)):=by
  intro K hK;subst hu;have e:recoverD (c₀::cs)=(match c₀.mode with
   | .panicking ({ v,recovered:=false,goexit:=false }::older)=>some (v,{ c₀ with mode:=.panicking ({ v,recovered:=true }::older) }::cs)
   |_=>none):=rfl
  rw[e];unfold asked at hK;split at hK
  ·exact hK
  ·exact hK
 simp only[wpOpsSIn,show(#[(⟨some d1,.call { callee:=.builtin .recover,args:=#[],argTypes:=tys },ty,pos,af,none⟩:Oper),⟨some d2,.assign (.tmp d1),ty2,pos2,af2,none⟩]).size=2 from rfl,show List.range 2=[0,1] from rfl];simp[go_sem,execOp];have hlt:d1<args.size+(fn.ntmps - args.size):=by omega
 simp only[hlt,if_true];refine key (λv cs'=>Code.wpSIn (fz none) 0 P y (bodyPostS P fn c₀ cs λe u' w'=>∃H',St E H' w'∧u'=(asked u).2∧W e H')
  { tmps:=((args++Array.replicate (fn.ntmps - args.size) undef).setIfInBounds d1 v).setIfInBounds d2 v,defers:=[] } cs' w) ?_
 refine wpSIn_of_wpIn rfl ((wpIn_wide (n:=0)).2 (wp_mono (h.get _ w hr1 hw) ?_));intro e a' w' hq;cases e with
 |normal=>obtain⟨F',H',k1,k2,v,H1,k3,k4,k5⟩:=hq;exact⟨k1.defers.trans hds,_,rfl,v,by rw[pV k1];exact k3 _ k2,H1,k4 _ k2,rfl,k5⟩
 |ret=>obtain⟨F',H',k1,k2,v,H1,k3,k4,k5⟩:=hq;exact⟨k1.defers.trans hds,_,rfl,v,by rw[pV k1];exact k3 _ k2,H1,k4 _ k2,rfl,k5⟩
 |exit id=>obtain⟨_,_,_,_,h⟩:=hq;exact h.elim
 |panic c=>obtain⟨k1,H',k2,k3⟩:=hq;exact⟨k1.trans hds,_,rfl,H',k2,rfl,k3⟩
 |_=>exact hq.elim
end
end Go.Proofs.YtmilalkjbojciaaGreat.Sep
namespace Go.Proofs.YtmilalkjbojciaaGreat.Sep
open Go.RowKit Reg
open Mem hiding Rd
def small(n:Int):Bool:=decide (0≤n∧n≤255)
theorem MF:Rec prog 90 [.int .i64 0,.int .i64 0,.int .i64 0,.slice none 0 0] [(0,2),(2,1),(3,1)]:=⟨by kernel_rfl,by kernel_rfl⟩
instance Tn:cL 90 [.int .i64 0,.int .i64 0,.int .i64 0,.slice none 0 0] [(0,2),(2,1),(3,1)]:=⟨MF⟩
section
variable {α:Type} {T:Ty α} {P:Program} {N:Nat} {E:Env} {F:Nat→Value} {ρ:Operand→Value} {H H' R:List aL} {o:Oper} {A:Option Addr} {n c k:Nat} {l:List α} {cs cs':List Value}
def D7(T:Ty α)(A:Option Addr)(n c:Nat)(l:List α)(k:Nat)(cs:List Value):aL where
 holds F w:=n=l.length∧k<n∧n≤c∧c≤maxLen∧cs.length=T.size∧∃g cur,A=some ⟨g,0,none⟩∧(∀b,F b↔b=g)∧w.heap[g]?=some (.cells cur T.tid (0,0))∧cur.size=c*T.size∧cur.toList.take (n*T.size)=T.bT (l.take k)++cs++T.bT (l.drop (k+1))
 loc:=by
  rintro F w w' ⟨h0,h1,h2,h3,h4,g,cur,h5,h6,h7,h8⟩ hk;exact⟨h0,h1,h2,h3,h4,g,cur,h5,h6,(hk _ ((h6 _).2 rfl)).trans h7,h8⟩
 lt:=by
  rintro F w b ⟨h0,h1,h2,h3,h4,g,cur,h5,h6,h7,h8⟩ hb;rw[(h6 _).1 hb];exact(aBv.1 h7).1
theorem IM{e:α}(he:l[k]?=some e):T.bT l=T.bT (l.take k)++T.enc e++T.bT (l.drop (k+1)):=by
 obtain⟨hk,rfl⟩:=aAd.1 he;rw[aAb,←T.eW,←aAm hk,←T.iU,aAx]
theorem aB.D7{e:α}(he:l[k]?=some e)(hr:dT (own T A n c l) [Sep.D7 T A n c l k (T.enc e)] H H'):aB E H H':=λw hw =>
 hw.jX hr rfl rfl rfl (aAf _) (G:=λ_=>False) (λ_ _ _=>rfl) λF1 h1=>by
  have hk:=(aAd.1 he).1;obtain⟨h0,⟨h2,_⟩|⟨g,cur,h2,h3,h4,h5,h6,h7,h8⟩⟩:=h1
  ·omega
  ·exact⟨F1,⟨F1,λ_=>False,λb=>by simp,λ_ _ h=>h,⟨h0,by omega,h5,h6,T.dR e,g,cur,h2,h3,h4,h7,by rw[h8];exact IM he⟩,λ_ h=>h⟩,λb hb=>.inl hb,λb _ hb=>hb.elim⟩
theorem aB.YT{e:α}{l':List α}(hl:l.set k e=l')(hr:dT (Sep.D7 T A n c l k (T.enc e)) [own T A n c l'] H H'):aB E H H':=λw hw =>
 hw.jX hr rfl rfl rfl (aAf _) (G:=λ_=>False) (λ_ _ _=>rfl) λF1 h1=>by
  subst hl;obtain⟨h0,h1,h2,h3,h4,g,cur,h5,h6,h7,h8,h9⟩:=h1;refine⟨F1,⟨F1,λ_=>False,λb=>by simp,λ_ _ h=>h,⟨by rw[aAt];exact h0,.inr ⟨g,cur,h5,h6,h7,h2,h3,h8,?_⟩⟩,λ_ h=>h⟩,λb hb=>.inl hb,λb _ hb=>hb.elim⟩;rw[h9,T.Bo o_,T.nX,T.gD]
theorem Cells.D7(h:Has (Sep.D7 T A n c l k cs) H R){q:Nat}(hq:q=k*T.size):Cells E H ((ad A).add q) cs:=by
 subst hq;intro w hw j u hu;obtain⟨F0,h1,_⟩:=hw.has h;obtain⟨h0,h1,h2,h3,h4,g,cur,rfl,h6,h7,h8,h9⟩:=h1;have hj:=(aAd.1 hu).1;show w.cell? (((⟨g,0,none⟩:Addr).add (k*T.size)).add j)=_;rw[fB,fB,aCa,cell_of_row _ _ _ _ _ _ h7];have hlen:(T.bT (l.take k)).length=k*T.size:=by rw[T.bM,aAg,aBr o_]
 have hkn:(k+1)*T.size≤n*T.size:=aBa _ h1;rw[aDb,aDq] at hkn;have e1:(cur.toList.take (n*T.size))[k*T.size+j]?=some u:=by
  rw[h9,aAb,aBc o_,hlen,aEw,aBp hj,hu]
 rw[aEd] at e1;split at e1
 ·simpa using e1
 ·cases e1
theorem Cell.D7(h:Has (Sep.D7 T A n c l k cs) H R){q j:Nat}(hq:q=k*T.size){v:Value}(hv:cs[j]?=some v):Cell E H (((ad A).add q).add j) v:=λw hw=>Cells.D7 h hq w hw j v hv
theorem Y.Xx{t:TypeId}{x:Operand}{q j:Nat}{v:Value}{d:TypeDesc}(ho:o.op=.load t x)(hx:ρ x=.pointer (some (((ad A).add q).add j)))(ht:P.underlying t=some d)(hd:lT d=false)(h:Has (Sep.D7 T A n c l k cs) H R)(hq:q=k*T.size)(hv:cs[j]?=some v):qB P E H ρ o v :=
 Y.load ho hx ht hd (Cell.D7 h hq hv)
theorem Y.Ue{t:TypeId}{x:Operand}{q j m:Nat}{vs:List Value}{d:TypeDesc}{ti:TypeInfo}(ho:o.op=.load t x)(hx:ρ x=.pointer (some (((ad A).add q).add j)))(ht:P.underlying t=some d)(hd:lT d=true)(hi:P.info? t=some ti)(hm:ti.size=m)
  (h:Has (Sep.D7 T A n c l k cs) H R) (hq:q=k*T.size) (hs:Fm cs j m vs):qB P E H ρ o (.agg vs.toArray) :=
 Y.xE ho hx ht hd hi (hm.trans hs.eq.1.symm) λw hw i u hu=>by
  rw[jI];exact Cells.D7 h hq w hw (j+i) u (hs.eq.2 i u hu)
theorem S.TA{t:TypeId}{x y:Operand}{q j:Nat}{v:Value}{ti:TypeInfo}(ho:o.op=.store t x y)(hx:ev F x=.pointer (some (((ad A).add q).add j)))(hy:ev F y=v)(h1:v.oneCell'=true)(hi:prog.info? t=some ti)(hs:ti.size=1)(hq:q=k*T.size)
  (hr:dT (Sep.D7 T A n c l k cs) [Sep.D7 T A n c l k cs'] H H') (hj:j<cs.length) (hcs:cs.set j v=cs'):gK prog N E F H o λr H1=>r=undef∧H1=H':=by
 subst hcs hq;intro a u ha hu Kw Q' hK;obtain⟨R,hhas,F0,h0⟩:=hu.xO hr;obtain⟨k0,k1,k2,k3,k4,g,cur,rfl,k6,k7,k8,k9⟩:=h0;have hcv:v.cells=#[v]:=by cases v<;>first|rfl|cases h1
 have hlen:(T.bT (l.take k)).length=k*T.size:=by rw[T.bM,aAg,aBr o_]
 have hkn:(k+1)*T.size≤n*T.size:=aBa _ k1;have hnc:n*T.size≤c*T.size:=aBa _ k2;rw[aDb,aDq] at hkn;have e0:((ad (some ⟨g,0,none⟩)).add (k*T.size)).add j=⟨g,k*T.size+j,none⟩:=by show((⟨g,0,none⟩:Addr).add _).add _=_;rw[fB,fB,aCa]
 have hst:=run_storeVar_row (P:=prog) (u:=u) (v:=v) (q:=k*T.size+j) hi (by rw[hcv,hs];rfl) (by rw[hcv];intro x hx;simp at hx;subst hx;exact h1) k7 (by rw[hcv];simp;omega);unfold Oper.wp;rw[ha.eval];have hrun:(execOp (ev F) o).run prog u=.ok .skip (u.setRow g (cur.toList.take (k*T.size+j)++v.cells.toList++cur.toList.drop (k*T.size+j+v.cells.size)).toArray):=by
  simp only[execOp,ho,hx,hy,Instr.storeAt,Instr.sureAddr,e0,aAy,aCc,aAr,hst]
 rw[hrun];refine hK undef _ _ ⟨rfl,rfl⟩ (St.setRow hu hr g _ λF1 j1=>?_);obtain⟨m0,m1,m2,m3,m4,g',cur',m5,m6,m7,m8,m9⟩:=j1;injection m5 with m5;injection m5 with m5 _;subst m5
 rw[k7] at m7;injection m7 with m7;injection m7 with m7 _ _
 subst m7;have hset:cur.toList.take (k*T.size+j)++v.cells.toList++cur.toList.drop (k*T.size+j+v.cells.size)=cur.toList.set (k*T.size+j) v:=by
  rw[hcv,aDg,if_pos (by simp;omega)];simp
 refine⟨(m6 _).2 rfl,m0,m1,m2,m3,by rw[aAt];exact m4,g,_,rfl,m6,setRow_heap u g _ _ _ _ k7,?_,?_⟩
 ·rw[hset];simp;exact k8
 ·rw[hset];show(cur.toList.set (k*T.size+j) v).take (n*T.size)=_;rw[List.take_set,k9,aAb,List.set_append_right _ _ o_,hlen,aEw,List.set_append_left _ _ o_,aAb]
theorem aB.NJ{e:α}(he:l[k]?=some e)(hcs:T.enc e=cs)(hr:dT (own T A n c l) [Sep.D7 T A n c l k cs] H H'):aB E H H':=by subst hcs;exact aB.D7 he hr
theorem aB.V9{e:α}{l':List α}(hcs:T.enc e=cs)(hl:l.set k e=l')(hr:dT (Sep.D7 T A n c l k cs) [own T A n c l'] H H'):aB E H H':=by subst hcs;exact aB.YT hl hr
theorem S.Ia{t:TypeId}{x y:Operand}{q:Nat}{vs:List Value}{ti:TypeInfo}(ho:o.op=.store t x y)(hx:ev F x=.pointer (some ((ad A).add q)))(hy:ev F y=.agg vs.toArray)(h1:vs.all Value.oneCell'=true)(hi:prog.info? t=some ti)(hs:vs.length=ti.size)(hq:q=k*T.size)
  (hr:dT (Sep.D7 T A n c l k cs) [Sep.D7 T A n c l k cs'] H H') (hj:vs.length≤cs.length) (hcs:vs++cs.drop vs.length=cs'):gK prog N E F H o λr H1=>r=undef∧H1=H':=by
 subst hcs hq;intro a u ha hu Kw Q' hK;obtain⟨R,hhas,F0,h0⟩:=hu.xO hr;obtain⟨k0,k1,k2,k3,k4,g,cur,rfl,k6,k7,k8,k9⟩:=h0;have hcv:(Value.agg vs.toArray).cells.toList=vs:=by simp[Value.cells]
 have hcz:(Value.agg vs.toArray).cells.size=vs.length:=by simp[Value.cells]
 have hlen:(T.bT (l.take k)).length=k*T.size:=by rw[T.bM,aAg,aBr o_]
 have hkn:(k+1)*T.size≤n*T.size:=aBa _ k1;have hnc:n*T.size≤c*T.size:=aBa _ k2;rw[aDb,aDq] at hkn;have e0:(ad (some ⟨g,0,none⟩)).add (k*T.size)=⟨g,k*T.size,none⟩:=by show(⟨g,0,none⟩:Addr).add _=_;rw[fB,aCa]
 have hst:=run_storeVar_row (P:=prog) (u:=u) (v:=.agg vs.toArray) (q:=k*T.size) hi (by rw[hcz,hs]) (by rw[hcv];exact aDm.1 h1) k7 (by rw[hcz];omega);rw[hcv,hcz] at hst;unfold Oper.wp;rw[ha.eval];have hrun:(execOp (ev F) o).run prog u=.ok .skip (u.setRow g (cur.toList.take (k*T.size)++vs++cur.toList.drop (k*T.size+vs.length)).toArray):=by
  simp only[execOp,ho,hx,hy,Instr.storeAt,Instr.sureAddr,e0,aAy,aCc,aAr,hst]
 rw[hrun];refine hK undef _ _ ⟨rfl,rfl⟩ (St.setRow hu hr g _ λF1 j1=>?_);obtain⟨m0,m1,m2,m3,m4,g',cur',m5,m6,m7,m8,m9⟩:=j1;injection m5 with m5;injection m5 with m5 _;subst m5
 rw[k7] at m7;injection m7 with m7;injection m7 with m7 _ _
 subst m7;refine⟨(m6 _).2 rfl,m0,m1,m2,m3,by simp;omega,g,_,rfl,m6,setRow_heap u g _ _ _ _ k7,?_,?_⟩
 ·simp;omega
 ·show(cur.toList.take (k*T.size)++vs++cur.toList.drop (k*T.size+vs.length)).take (n*T.size)=_;have hp:cur.toList.take (k*T.size)=T.bT (l.take k):=by
   have:=congrArg (List.take (k*T.size)) k9;rw[aEn,aBr o_,aAb,aBj hlen] at this;exact this
  have hd:(cur.toList.take (n*T.size)).drop (k*T.size+vs.length)=cs.drop vs.length++T.bT (l.drop (k+1)):=by
   rw[k9,aAb,←aBt,aBu hlen,aFa hj]
  have hcl:(cur.toList.take (k*T.size)++vs).length=k*T.size+vs.length:=by rw[aAe,hp,hlen]
  rw[aEt,hcl,aAj o_,←List.drop_take,hd,hp];simp
end
section
variable {E:Env} {X:Type} {f:X→aL} {l:List X} {H R:List aL}
theorem aB.swap{i:Nat}{x x':X}(hx:l[i]?=some x)(hp:cS [f x',aO f l] H R):aB E H (aO f (l.set i x')::R):=by
 have hi:=(aAd.1 hx).1;have h1:aB E H (f x'::aO f l::R):=λw hw=>hw.aV hp;have h2:aB E (f x'::aO f l::R) (f x::aO f (l.eraseIdx i)::f x'::R):=aB.out (f:=f) (l:=l) (Has.aM Has.aN) hx;have h3:aB E (f x::aO f (l.eraseIdx i)::f x'::R) (aO f (l.set i x')::f x::R):=aB.BH (f:=f) (l:=l.eraseIdx i) (i:=i) (x:=x') (.cons (.aM (.aM .aN)) (.cons (.aM .aN) .nil)) (uO hi);have h4:aB E (aO f (l.set i x')::f x::R) (aO f (l.set i x')::R):=λw hw=>(hw.aV (l:=[f x]) (.cons (.aM .aN) .nil)).right;exact h1.trans (h2.trans (h3.trans h4))
end
section
variable {P:Program} {N z:Nat} {E:Env} {Q:QF} {F:Nat→Value} {H:List aL}
theorem zL.val{i:Nat}{todo:Td}{l:List Oper}{Hk:List aL}{d:Nat}{op:Op}{ty:TypeId}{pos:String}{af:Array Edge}{gd:Option (Nat×Bool)}{v:Value}(hi:nth l i=some ⟨some d,op,ty,pos,af,gd⟩)(hd:d<N)(hg:rE l N F true gd)
  (hy:qB P E H (ev F) ⟨some d,op,ty,pos,af,gd⟩ v) (hc:aB E H Hk) (h:Dr P N E z l Q Hk todo (pT F d v) H):zL P N E z l Q Hk i todo F H :=
 zL.go hi (by rintro k ⟨⟩;exact hd) hg (gK.Yd hy ⟨hc,h⟩)
theorem Dr.val{i:Nat}{todo:Td}{l:List Oper}{Hk:List aL}{d:Nat}{op:Op}{ty:TypeId}{pos:String}{af:Array Edge}{gd:Option (Nat×Bool)}{v:Value}(hi:nth l i=some ⟨some d,op,ty,pos,af,gd⟩)(hd:d<N)(hg:rE l N F true gd)
  (hy:qB P E H (ev F) ⟨some d,op,ty,pos,af,gd⟩ v) (hc:aB E H Hk) (h:Dr P N E z l Q Hk todo (pT F d v) H):Dr P N E z l Q Hk (.one i true todo) F H :=
 Dr.all (zL.val hi hd hg hy hc h)
theorem zL.Iq{todo:Td}{l:List Oper}{Hk:List aL}{d:Option Nat}{op:Op}{ty:TypeId}{pos:String}{af:Array Edge}{gd:Option (Nat×Bool)}{K:Value→List aL→Prop}(hi:nth l z=some ⟨d,op,ty,pos,af,gd⟩)(hd:∀k,d=some k→k<N)(hg:rE l N F true gd)
  (h:gK P N E F H ⟨d,op,ty,pos,af,gd⟩ K) (hk:∀v H',K v H'→FU P N E z l Q todo (DJ F d v) H'):zL P N E z l Q Hk z todo F H:=by
 refine⟨λlisted a u hcl hs hc ha hu hk2=>?_⟩;have hi':l.toArray[z]?=some _:=(eX l z).symm.trans hi;unfold wpOp;simp only[hi',hg.wanted (o:=⟨d,op,ty,pos,af,gd⟩) ha,if_true];refine .inl (h a u ha hu _ _ ?_);intro v H' u' hA hu';refine⟨λhz=>absurd rfl hz,λ_=>(hk v H' hA).get _ _ u' hc ?_ hu'⟩;cases d with
 |none=>exact ha
 |some k=>exact ha.put (hd k rfl) v
end
theorem XU{a b:List Value}(h:a=b:=by first|(conv=>lhs;simp only[aAs,aDh,List.drop_succ_cons,aCh,List.drop_nil,aCj,aBq,Nat.reduceAdd])|rfl):a=b:=h
theorem V8{P:Program}{E:Env}{H:List aL}{ρ:Operand→Value}{o:Oper}{v:Value}(h:qB P E H ρ o v:=by first|(apply Y.Xx;exact rfl;exact rfl;exact rfl;exact rfl;exact aS;exact rfl;exact rfl)|(apply Y.loadE0;exact rfl;exact rfl;exact rfl;exact rfl;exact aS;exact rfl;exact rfl)|(apply Y.Ue;exact rfl;exact rfl;exact rfl;exact rfl;exact rfl;exact rfl;exact aS;exact rfl;exact K6)|(apply Y.loadEA0;exact rfl;exact rfl;exact rfl;exact rfl;exact rfl;exact rfl;exact aS;exact rfl;exact K6)):qB P E H ρ o v:=h
theorem Y3{P:Program}{E:Env}{H:List aL}{ρ:Operand→Value}{o:Oper}{v:Value}(h:qB P E H ρ o v:=by first|exact Cw|exact V8|fail):qB P E H ρ o v:=h
theorem Vr{P:Program}{N:Nat}{E:Env}{F:Nat→Value}{H:List aL}{o:Oper}{K:Value→List aL→Prop}(h:gK P N E F H o K:=by first|exact Sy|(apply S.TA;exact rfl;exact rfl;exact eS;exact rfl;exact rfl;exact rfl;exact rfl;exact dH;exact Y4;exact TT)|(apply S.Ia;exact rfl;exact rfl;exact eS;exact rfl;exact rfl;exact rfl;exact rfl;exact dH;exact Y4;exact XU)):gK P N E F H o K:=h
theorem XH{p q:Prop}(hq:q)(h:wA q→p:=by intro h;first|exact Cx h.out|(apply L.val;decide;exact V8;exact h.out)|(apply FU.take;exact rfl;decide;exact bA;exact V8;exact h.out)|(apply Dr.take;exact rfl;decide;exact bA;exact V8;exact h.out)|(apply zL.val;exact rfl;decide;exact bA;exact Y3;exact aA;exact h.out)|(apply Dr.val;exact rfl;decide;exact bA;exact Y3;exact aA;exact h.out)):p:=h ⟨hq⟩
theorem Z1{p q:Prop}(hq:q)(h:wA q→p:=by intro h;first|(apply L.fQ;decide;exact Vr;(first|exact x0 h.out|exact x1 h.out|exact x2 h.out))|(apply L.pX;exact Vr;(first|exact x0 h.out|exact x1 h.out|exact x2 h.out))|(apply Dr.WZ;exact rfl;(· rintro k ⟨⟩<;>decide);exact bA;exact Vr;(first|exact x0 h.out|exact x1 h.out|exact x2 h.out))|(apply Dr.Iq;exact rfl;(· rintro k ⟨⟩<;>decide);exact bA;exact Vr;(first|exact x0 h.out|exact x1 h.out|exact x2 h.out))|(apply zL.Iq;exact rfl;(· rintro k ⟨⟩<;>decide);exact bA;exact Vr;(first|exact x0 h.out|exact x1 h.out|exact x2 h.out))|(apply zL.Aw;exact rfl;(· rintro k ⟨⟩<;>decide);exact bA;exact Vr;(first|(refine y0 ?_ ?_;exact aA;exact h.out)|(refine y1 ?_ ?_;(· intro _;exact aA);exact h.out)|(refine y2 ?_ ?_;(· intro _ _;exact aA);exact h.out)))|(apply Dr.Aw;exact rfl;(· rintro k ⟨⟩<;>decide);exact bA;exact Vr;(first|(refine y0 ?_ ?_;exact aA;exact h.out)|(refine y1 ?_ ?_;(· intro _;exact aA);exact h.out)|(refine y2 ?_ ?_;(· intro _ _;exact aA);exact h.out)))):p:=h ⟨hq⟩
theorem cY{p q:Prop}(hq:q)(h:wA q→p:=by intro h;first|exact w_ h.out|(apply L.val;decide;exact V8;exact h.out)|(apply FU.take;exact rfl;decide;exact bA;exact V8;exact h.out)|(apply Dr.take;exact rfl;decide;exact bA;exact V8;exact h.out)|(apply zL.val;exact rfl;decide;exact bA;exact Y3;exact aA;exact h.out)|(apply Dr.val;exact rfl;decide;exact bA;exact Y3;exact aA;exact h.out)|exact Z1 h.out|(apply gd;exact bG;exact aA;exact h.out)|(apply gk;exact bG;exact h.out)):p:=h ⟨hq⟩
theorem yK(E:Env)(x:bJ):aK prog E 160 #[.agg x.cs.toArray] [] λe H'=>e=.returned (.bool x.may)∧H'=[]:=Gq E x.rep x.seq
structure Oc where
 A:Option Addr
 n:Nat
 c:Nat
 b:List UInt8
def vQ:Ty Oc where
 val x:=.slice x.A x.n x.c
 size:=1
 bytes:=24
 tid:=70
 zero:=.slice none 0 0
 hlen _:=rfl
 lJ a u h:=by simp only[Value.cells,aAp] at h;subst h;rfl
 gL:=by decide
 hzero:=rfl
 fW:=by kernel_rfl
 nR:=.inr ⟨by kernel_rfl,λ_=>rfl⟩
instance Yx:lL vQ 24:=⟨rfl⟩
def Zl(E:Env)(l:List Oc):Prop:=∀x∈l,Rd E aU x.A x.n x.c x.b
theorem Zl.at_{E:Env}{l:List Oc}(h:Zl E l){i:Nat}{x:Oc}(hx:l[i]?=some x):Rd E aU x.A x.n x.c x.b:=h x (aAi hx)
abbrev uL(x:Oc):aL:=own aU x.A x.n x.c x.b
section
variable {α:Type} {T:Ty α} {N:Nat} {E:Env} {F:Nat→Value} {H H':List aL} {o:Oper} {A:Option Addr} {n m c:Nat} {l:List α}
theorem DL{F1:Nat→Prop}{u:World}{k:Nat}(h:(own T A n c l).holds F1 u)(hk:k≤n):(own T A k c (l.take k)).holds F1 u:=by
 obtain⟨h0,⟨rfl,h2,h3⟩|⟨g,cur,h2,h3,h4,h5,h6,h7,h8⟩⟩:=h
 ·exact⟨by rw[aAg];omega,.inl ⟨by omega,h2,h3⟩⟩
 ·refine⟨by rw[aAg];omega,.inr ⟨g,cur,h2,h3,h4,by omega,h6,h7,?_⟩⟩;have hle:k*T.size≤n*T.size:=aBa _ hk;rw[←T.nX,←h8,aEn,aBr hle]
theorem S.Oi{s x:Operand}{t:TypeId}{X:Option Addr}{nx cx n':Nat}{l2 l':List α}(ho:o.op=.call { callee:=.builtin .append,args:=#[s,x],argTypes:=#[t,t] })
  (hs:ev F s=.slice A n c) (hx:ev F x=.slice X nx cx) (hn':n+nx=n') (hnm:n≤m) (hr:dT (own T A m c l) [own T A n' c l'] H H') (hrd:kV E H T X nx cx l2) (hl':l.take n++l2=l') (ht:prog.underlying t=some (.slice T.tid)) {by_:Nat} (hbb:T.bytes=by_) (hby:n'*by_≤140737488355328) (h0:0<c) (hroom:n'≤c) (hlen:n'≤140737488355328) :
  gK prog N E F H o λr H1=>r=.slice A n' c∧H1=H':=by
 subst hn' hl' hbb;intro a u ha hu Kw Q' hK;obtain⟨R,hhas⟩:=hr.has;obtain⟨F0,h1,_⟩:=hu.has hhas;have h1:=DL h1 hnm;have hn:=h1.1;obtain⟨ti,hi,hz,hsz,hbt⟩:=T.jA;obtain⟨k0,k1,k2,k3⟩:=hrd u hu;have hcells:∀ad,X=some ad→nx≠0→∀j v,(T.bT l2)[j]?=some v→u.cell? (ad.add j)=some v:=by
  rintro ad rfl hn0;rcases k3 with k3|⟨ad',e,hc⟩
  ·exact absurd k3 hn0
  ·injection e with e;subst e;exact hc
 have hreads:Reads u u.heap.size T.size X nx (T.bT l2):=⟨by rw[T.bM,←k0],λgL=>by
  rcases k3 with k3|⟨ad,e,hc⟩
  ·omega
  ·refine⟨ad,e,?_,hc⟩;have hl:0<(T.bT l2).length:=by rw[T.bM,←k0];exact Nat.mul_pos gL T.gL
   have:=aEk _ _ (hc 0 _ (aAa hl))
   rwa [eQ] at this⟩
 have hsrc:Src prog ti.size t (.slice X nx cx) nx (T.bT l2) u:=by
  have hll:(T.bT l2).length=nx*ti.size:=by rw[T.bM,←k0,hsz]
  cases X with
  |none =>
   have h00:nx=0:=by rcases k3 with k3|⟨_,e,_⟩;exact k3;cases e
   subst h00;have e:T.bT l2=[]:=aBi (by rw[hll,aFx]);rw[e];exact Src.ofNil u ht cx
  |some ad =>
   refine Src.ofSlice u ht ad nx cx _ hll ?_ (T.kS _);by_cases hn0:nx=0
   ·intro j v hv;rw[aCo (by rw[hll,hn0,aFx];exact aAh _)] at hv;cases hv
   ·exact hcells ad rfl hn0
 obtain⟨hown,_⟩:=zC o_ h1;have key:∃v' w',(Builtin.append_ #[t,t] o.type #[.slice A n c,.slice X nx cx]).run prog u=.ok v' w'∧w'.ownsRow 0 T.tid T.size v' (n+nx) (T.bT (l.take n)++T.bT l2)∧u.grownBy w' (Value.ownBlock (.slice A n c)) ∧
   (v'.ownBlock=Value.ownBlock (.slice A n c)∨v'.ownBlock=some u.heap.size):=by
  exact oF u 0 t o.type T.tid ti T.zero T.size T.bytes ht hi hz hsz hbt T.hzero T.gL _ n _ hown u.heap.size X nx cx (T.bT l2) hreads (T.kS _) (by unfold maxLen;omega) hby (aAh _)
 obtain⟨v',w',hrun,hown',hg,hb⟩:=key;have hv:=run_append_cap_room u t t o.type T.tid ti ht hi A n c (.slice X nx cx) nx (T.bT l2) hsrc hroom hrun;subst hv;have hown2:w'.ownsRow 0 T.tid T.size (.slice A (n+nx) c) (n+nx) (T.bT (l.take n++l2)):=by rw[T.iU];exact hown'
 have hO:=Cc (T:=T) (l:=l.take n++l2) (by rw[aAe,←hn,k0]) hown2;unfold Oper.wp;rw[ha.eval];have hx2:(execOp (ev F) o).run prog u=.ok (.value (.slice A (n+nx) c)) w':=by
  unfold execOp;simp only[ho,resolve,invoke,builtin,aAy,aCc,aAr,aEb,aCi,aDo,hs,hx,hrun]
 rw[hx2];refine hK _ _ _ ⟨rfl,rfl⟩ ?_;refine hu.jX hr hg.os hg.tape hg.output hg.size (G:=λb=>Value.ownBlock (.slice A n c)=some b) (λb hlt hne=>hg.block b hlt (λe=>hne e.symm)) λF1 h1=>?_;obtain⟨_,hF⟩:=zC o_ (DL h1 hnm);refine⟨λb=>Value.ownBlock (.slice A (n+nx) c)=some b,⟨λb=>Value.ownBlock (.slice A (n+nx) c)=some b,λ_=>False,λb=>by simp,λ_ _ h=>h,hO,λ_ h=>h⟩,λb hbb=>?_,λb _ hG=>(hF b).2 hG⟩;have e:Value.ownBlock (.slice A (n+nx) c)=Value.ownBlock (.slice A n c):=by cases A<;>rfl
 exact .inl ((hF b).2 (e▸hbb))
theorem S.VU{x:Operand}{t:TypeId}{z:α}{j k:Nat}(ho:o.op=.call { callee:=.builtin .clear,args:=#[x],argTypes:=#[t] })(hx:ev F x=.slice (if c=j then A else A.map (·.add (j*T.size))) k (c - j))
  (ht:prog.underlying t=some (.slice T.tid)) (hz:T.val z=T.zero) (hj:n≤j) (hjk:j+k≤c) (hk:0<k) (hr:dT (own T A n c l) [own T A n c l] H H'):gK prog N E F H o λr H1=>r=.tuple #[]∧H1=H':=by
 intro a u ha hu Kw Q' hK;obtain⟨R,hhas⟩:=hr.has;obtain⟨F0,h1,_⟩:=hu.has hhas;obtain⟨ti,hi,hzz,hsz,hbt⟩:=T.jA;obtain⟨h0,⟨_,h2,_⟩|⟨g,cur,rfl,h3,h4,h5,h6,h7,h8⟩⟩:=h1
 ·omega
 rw[if_neg o_] at hx;have e0:(some (⟨g,0,none⟩:Addr)).map (·.add (j*T.size))=some ⟨g,j*T.size,none⟩:=by show some ((⟨g,0,none⟩:Addr).add _)=_;rw[fB,aCa]
 rw[e0] at hx;have hzc:Builtin.zeroCells T.zero.cells k=madeCells T.zero.cells (k*T.size):=by
  have:=T.hzero;simp[Builtin.zeroCells,madeCells,this]
 have hzl:(Builtin.zeroCells T.zero.cells k).toList=T.bT (List.replicate k z):=by rw[hzc,nN T z hz]
 have hlen:j*T.size+k*T.size≤c*T.size:=by rw[←aDb];exact aBa _ hjk
 have hst:=run_storeCells_at prog g (j*T.size) T.tid (T.bT (List.replicate k z)) 0 cur u h4 (by rw[T.bM,aAz,h7];omega) (T.kS _);unfold Oper.wp;rw[ha.eval];have hk0:k≠0:=by omega
 have hx2:(execOp (ev F) o).run prog u=.ok (.value (.tuple #[])) (u.setRow g (cur.toList.take (j*T.size+0)++T.bT (List.replicate k z)++cur.toList.drop (j*T.size+0+(T.bT (List.replicate k z)).length)).toArray):=by
  obtain⟨k,rfl⟩:∃k',k=k'+1:=⟨k - 1,by omega⟩
  unfold execOp;simp only[ho,resolve,invoke,builtin,aAy,aCc,aAr,aEb,aCi,aDo,hx];simp[Builtin.clear_,run_underlying ht,zeroValue,typeInfo,hi,hzz,hzl] at hst⊢;simp[hst]
 rw[hx2];refine hK _ _ _ ⟨rfl,rfl⟩ (St.setRow hu hr g _ λF1 k1=>?_);obtain⟨m0,⟨_,m2,_⟩|⟨g',cur',m1,m3,m4,m5,m6,m7,m8⟩⟩:=k1
 ·omega
 injection m1 with m1;injection m1 with m1
 subst m1;rw[h4] at m4;injection m4 with m4;injection m4 with m4 _ _
 subst m4;have hnj:n*T.size≤j*T.size:=aBa _ hj;refine⟨(m3 g).2 rfl,m0,.inr ⟨g,_,rfl,m3,setRow_heap u g _ _ _ _ h4,m5,m6,?_,?_⟩⟩
 ·simp[T.bM];omega
 ·rw[←m8];simp only[aFb,aAb];rw[aCw (by rw[aAg,aDs,h7];omega),aEn,aBr hnj]
end
theorem Y.slice3{P:Program}{E:Env}{H:List aL}{ρ:Operand→Value}{o:Oper}{A:Option Addr}{n c:Nat}{t e:TypeId}{x lo hi mx:Operand}{k k2 k3:IntKind}{i i2 i3:Int}{ti:TypeInfo}{j m q:Nat}(ho:o.op=.slice t x (some lo) (some hi) (some mx))(hx:ρ x=.slice A n c)(hlo:ρ lo=.int k i)(hhi:ρ hi=.int k2 i2)(hmx:ρ mx=.int k3 i3)(ht:P.underlying t=some (.slice e))(he:P.info? e=some ti)(hj:i=j)(hm:i2=m)(hq:i3=q)(hjm:j≤m)(hmq:m≤q)(hqc:q≤c) :
  qB P E H ρ o (.slice (if q=j then A else A.map (·.add (j*ti.size))) (m - j) (q - j)):=by
 intro u hu;subst hj hm hq;simp[execOp,ho,hx,Instr.sliceAt,Instr.slice,Instr.sliceBounds,Instr.sliceBound,asIntOf,run_underlying ht,sizeOf,typeInfo,he,hlo,hhi,hmx,hjm,hmq,hqc]
end Go.Proofs.YtmilalkjbojciaaGreat.Sep
