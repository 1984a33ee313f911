/- Part AC: what it needs. No condition. -/
import Derived.Test.YtmilalkjbojciaaGreatCAB
set_option linter.all false
set_option maxRecDepth 100000
set_option maxHeartbeats 8000000
open Go.Proofs.Tryz
namespace Go.Proofs.YtmilalkjbojciaaGreat.Sep
variable{Hp:List aG}{W:Ending->List aG->Prop}{f:FuncId}{v:p!}{vs:List p!}{x:r!}{y:Code}
section
structure O8 where
 a0:Int
 a1:Int
 a2:Int
 a3:Int
 a4:Int
 a5:Int
 a6:Int
 a7:Int
def O8.get(x:O8)(i:Int):Int:=if i=0 then x.a0 else if i=1 then x.a1 else if i=2 then x.a2 else if i=3 then x.a3 else if i=4 then x.a4 else if i=5 then x.a5 else if i=6 then x.a6 else x.a7
def O8.set(x:O8)(i v:Int):O8:=if i=0 then { x with a0:=v } else if i=1 then { x with a1:=v } else if i=2 then { x with a2:=v } else if i=3 then { x with a3:=v } else if i=4 then { x with a4:=v } else if i=5 then { x with a5:=v } else if i=6 then { x with a6:=v } else { x with a7:=v }
def O8.gs(x:O8):x.get 0=x.a0/\x.get 1=x.a1/\x.get 2=x.a2/\x.get 3=x.a3/\x.get 4=x.a4/\x.get 5=x.a5/\x.get 6=x.a6/\x.get 7=x.a7:=⟨rfl,rfl,rfl,rfl,rfl,rfl,rfl,rfl⟩
def O8.ss(x:O8)(v:Int):x.set 0 v=⟨v,x.a1,x.a2,x.a3,x.a4,x.a5,x.a6,x.a7⟩/\x.set 1 v=⟨x.a0,v,x.a2,x.a3,x.a4,x.a5,x.a6,x.a7⟩/\x.set 2 v=⟨x.a0,x.a1,v,x.a3,x.a4,x.a5,x.a6,x.a7⟩/\x.set 3 v=⟨x.a0,x.a1,x.a2,v,x.a4,x.a5,x.a6,x.a7⟩/\x.set 4 v=⟨x.a0,x.a1,x.a2,x.a3,v,x.a5,x.a6,x.a7⟩/\x.set 5 v=⟨x.a0,x.a1,x.a2,x.a3,x.a4,v,x.a6,x.a7⟩/\x.set 6 v=⟨x.a0,x.a1,x.a2,x.a3,x.a4,x.a5,v,x.a7⟩/\x.set 7 v=⟨x.a0,x.a1,x.a2,x.a3,x.a4,x.a5,x.a6,v⟩:=⟨rfl,rfl,rfl,rfl,rfl,rfl,rfl,rfl⟩
def O8.nC(x:O8)(hi:Int):Prop:=(0<=x.a0/\x.a0<=hi)/\(0<=x.a1/\x.a1<=hi)/\(0<=x.a2/\x.a2<=hi)/\(0<=x.a3/\x.a3<=hi)/\(0<=x.a4/\x.a4<=hi)/\(0<=x.a5/\x.a5<=hi)/\(0<=x.a6/\x.a6<=hi)/\(0<=x.a7/\x.a7<=hi)
def zW{i:Int}(h:0<=i/\i<=7):i=0\/i=1\/i=2\/i=3\/i=4\/i=5\/i=6\/i=7:=o_
abbrev NZ:O8:=⟨0,0,0,0,0,0,0,0⟩
structure Bk where
 kQ:O8
 qG:O8
 jB:O8
 bG:List dM
abbrev fY:Bk:=⟨NZ,NZ,NZ,[]⟩
def Bk.ok(b:Bk):Prop:=b.kQ.nC 1099511627776/\b.qG.nC 1073741824/\b.jB.nC 1099511627776
abbrev Bk.cs(b:Bk)(A:n!)(n c:Nat):List p!:=[a! b.kQ.a0,a! b.kQ.a1,a! b.kQ.a2,a! b.kQ.a3,a! b.kQ.a4,a! b.kQ.a5,a! b.kQ.a6,a! b.kQ.a7,a! b.qG.a0,a! b.qG.a1,a! b.qG.a2,a! b.qG.a3,a! b.qG.a4,a! b.qG.a5,a! b.qG.a6,a! b.qG.a7,a! b.jB.a0,a! b.jB.a1,a! b.jB.a2,a! b.jB.a3,a! b.jB.a4,a! b.jB.a5,a! b.jB.a6,a! b.jB.a7,.slice A n c]
def eight(i:Int):Bool:=decide (0<=i/\i<=7)
def tZ(b:Bk)(i n:Int):Bk×Int:=if (0<=i/\i<=7)/\0<=n/\n<=1099511627776 then(if b.kQ.get i+n<=1099511627776 then({ b with kQ:=b.kQ.set i (b.kQ.get i+n) },0) else(fY,7)) else(fY,4)
def sU(b:Bk)(i n:Int):Bk×Int:=if (0<=i/\i<=7)/\0<=n/\n<=1099511627776 then(if b.kQ.get i<n then(fY,11) else({ b with kQ:=b.kQ.set i (b.kQ.get i - n) },0)) else(fY,4)
def DP(b:Bk)(i n:Int):Bool:=decide ((sU b i n).2=0)
def BG(b:Bk)(i n:Int):Bk×Int:=if (0<=i/\i<=7)/\0<=n/\n<=1073741824 then({ b with qG:=b.qG.set i n },0) else(fY,4)
def yY(b:Bk)(i n:Int):Int×Int:=if (0<=i/\i<=7)/\0<=n/\n<=1099511627776 then(if n*b.qG.get i<=1099511627776 then(n*b.qG.get i,0) else(0,7)) else(0,4)
def tX(b:Bk)(i n:Int):Bk×Int:=if (0<=i/\i<=7)/\0<=n/\n<=1099511627776 then(if b.jB.get i+n<=1099511627776 then({ b with jB:=b.jB.set i (b.jB.get i+n) },0) else(fY,7)) else(fY,4)
def yS(b:Bk)(i n:Int):Bk×Int:=if (0<=i/\i<=7)/\0<=n/\n<=1099511627776 then(if b.jB.get i<n then(fY,11) else({ b with jB:=b.jB.set i (b.jB.get i - n) },0)) else(fY,4)
def Fb(a b:aL):Bool:=decide (a.seq<b.seq\/a.seq=b.seq/\a.rep<b.rep)
def nX(b:Bk)(a:aL):Int:=place (λo=>decide (o.id=a)) b.bG
def lT(b:Bk)(o:dM):Bk:=if 0<=nX b o.id then { b with bG:=b.bG.set (nX b o.id).toNat o }
 else { b with bG:=b.bG.take (behind (λx=>Fb x.id o.id) b.bG)++[o]++b.bG.drop (behind (λx=>Fb x.id o.id) b.bG) }
def uU(b:Bk)(o:dM):Bk×Int:=if 0<=nX b o.id then(fY,9) else if 32<=b.bG.length then(fY,3) else(lT b o,0)
def Aw(b:Bk)(a:aL):Option dM:=if 0<=nX b a then b.bG[(nX b a).toNat]? else none
abbrev Nc:dM:=⟨⟨0,0⟩,0,0,0,0,0⟩
def qZ(b:Bk)(a:aL)(st:List Int):dM×Int:=match Aw b a with
 |none=>(Nc,14)
 |some o=>if st.contains o.state then(o,0) else(Nc,9)
structure Wk where
 b:Bk
 out:List bE
 ref:aL
abbrev Wr:=Except Int Wk
def Wk.iU(w:Wk)(r:Bk×Int):Wr:=if r.2=0 then .ok { w with b:=r.1 } else .error r.2
def Wk.tell(w:Wk)(b a n:Int):Wk:={ w with out:=w.out++[⟨b,a,n,w.ref⟩] }
def Wk.put(w:Wk)(o:dM)(st:Int):Wk:={ w with b:=lT w.b { o with state:=st } }
def Wk.order(w:Wk)(a:aL)(st:List Int):Except Int (Wk×dM):=if (qZ w.b a st).2=0 then .ok ({ w with ref:=a },(qZ w.b a st).1) else .error (qZ w.b a st).2
def Ae(p:Bool)(k:Int)(r:Wr):Wr:=if p then r else .error k
def AL(b:Bk)(c:aI):Int:=if !DP b c.b c.n&&decide (c.ref.seq=1)&&DP b c.ref.rep c.n then c.ref.rep else c.b
def Wk.place(w:Wk)(c:aI):Wr:=Ae (eight c.a&&eight c.b&&decide (1<=c.n/\c.n<=1000)) 4 do
 let a <-w.iU (uU w.b ⟨c.id,c.a,AL w.b c,c.n,0,1⟩)
 let b <-a.iU (sU a.b (AL w.b c) c.n)
 return ({ b with ref:=c.id }.tell 1 (AL w.b c) c.n).tell 7 c.a 1
def Wk.I7(w:Wk)(c:aI):Wr:=Ae (decide (1<=c.n/\c.n<=1000)) 4 do
 let (w1,o) <-w.order c.ref [1]
 let a <-if 0<=c.n - o.dL then w1.iU (sU w1.b o.item (c.n - o.dL)) else w1.iU (tZ w1.b o.item (o.dL - c.n))
 return (a.put { o with dL:=c.n } 1).tell 2 o.item c.n
def Wk.cancel(w:Wk)(c:aI):Wr:=do
 let (w1,o) <-w.order c.ref [1,2]
 let b <-w1.iU (tZ w1.b o.item o.dL)
 let a:=b.tell 3 o.item o.dL
 let d <-if o.state=2 then(do let x <-a.iU (tX a.b o.dX o.cost);return x.tell 10 o.dX o.cost) else .ok a
 return (d.put o 4).tell 7 o.dX 2
def Wk.KN(w:Wk)(c:aI):Wr:=do
 let (w1,o) <-w.order c.ref [1]
 if (yY w1.b o.item o.dL).2≠0 then .error (yY w1.b o.item o.dL).2 else
 let k:=(yY w1.b o.item o.dL).1
 let a <-w1.iU (yS w1.b o.dX k)
 return ((a.put { o with cost:=k } 2).tell 4 o.dX k).tell 9 o.dX k
def Wk.Kq(w:Wk)(c:aI):Wr:=do
 let (w1,o) <-w.order c.ref [2]
 return ((((w1.put o 3).tell 5 o.item o.dL).tell 6 o.item o.dL).tell 11 o.item o.dL).tell 7 o.dX 3
def Wk.Ka(w:Wk)(c:aI):Wr:=do
 let (w1,o) <-w.order c.ref [3]
 let a <-w1.iU (tX w1.b o.dX o.cost)
 return (a.put o 5).tell 10 o.dX o.cost
def Wk.do(w:Wk)(c:aI):Wr :=
 if c.kind=1 then Ae (decide (1<=c.n)) 4 (w.iU (tZ w.b c.a c.n))
 else if c.kind=2 then Ae (decide (1<=c.n)) 4 (do let x <-w.iU (tX w.b c.a c.n);return x.tell 8 c.a c.n)
 else if c.kind=3 then w.place c
 else if c.kind=4 then w.I7 c
 else if c.kind=5 then w.cancel c
 else if c.kind=6 then w.KN c
 else if c.kind=7 then w.Kq c
 else if c.kind=8 then w.Ka c
 else if c.kind=9 then w.iU (BG w.b c.a c.n)
 else .error 12
structure Out where
 code:Int
 lP:List bE
def oG(b:Bk)(c:aI):Bk×Out:=match Wk.do ⟨b,[],⟨0,0⟩⟩ c with
 | .ok w=>(w.b,⟨0,w.out⟩)
 | .error k=>(b,⟨k,[]⟩)
def fM(b:Bk):List aI->Bk×List Out
 | []=>(b,[])
 |c::l=>((fM (oG b c).1 l).1,(oG b c).2::(fM (oG b c).1 l).2)
end
section
open Go.RowKit Mem Reg
section
variable {P:t!} {N:Nat} {E:Env} {Q:QF} {F:Nat->p!} {H R:List aG}
def Nj(v:p!):List PanicEntry:=[{ v,recovered:=false }]
def O6{g:Func}{d:List r!}{w:Array q!}{j:Ending->List aG->Prop}{o:Oper}(O:o.op=.call { callee:=.value (.func f),args:=d.toArray,argTypes:=w })(t:mI F d=vs)
  (p:P.funcs[f]?=some g) (q:(g.name == "runtime.NumGoroutine")=false) (m:g.body.isNone=false)
  (U:fJ Hp H R) (h:∀M,Sub E R M->aF P M f vs.toArray Hp j) {x:Act->World->Prop} {y:Exit->Act->World->Prop} {a:Act} {u:World} (J:gZ E N F a) (X:St E H u)
  (W:∀v H' i,j (.returned v) H'->St E (H'++R) i->x (a.put o.dst v) i)
  (K:∀c H' i,j (.panicked c) H'->St E (H'++R) i->y (.panic c) a i)
  (r:∀H',¬j .outgrown H'):o.wp P a u x y:=by
 subst t;have⟨M,n,D,s,b⟩:=(X.cC U).enter;unfold Oper.wp;have Z:(execOp a.eval o).run P u=.ok (.enter f (mI F d).toArray) u:=by
  have A:¬g.name = "runtime.NumGoroutine" := by grind
  have B:¬g.body=none:=by grind
  rw[J.eval,FQ];simp[execOp,O,resolve,ev,Deferred.ofValue,invoke,callFunc,p,A,B]
 rw[Z];refine(h M D n u s).mono ?_;rintro e k ⟨H',z,l⟩;cases e with
 |returned v=>exact W v H' k l (b H' k z)
 |panicked c=>exact K c H' k l (b H' k z)
 |outgrown=>exact(r H' l).elim
def V.M1{a:r!->p!}{t:q!}{u:World}{o:Oper}(b:o.op=.makeInterface t x)(d:a x=v)(c:P.concrete t=true):(execOp a o).run P u=.ok (.value (.iface t v)) u:=by
 simp[execOp,b,d,run_makeInterface u t v c]
def L.panic{t:q!}{f c:List Oper}{d:Option Nat}{ty:q!}{b:String}{g:Array Edge}
  (e:ev F x=.iface t v) (i:Q (.panic (Nj (.iface t v))) (λ_=>undef) H):L P N E f Q (⟨d,.panic x,ty,b,g,none⟩::c) F H:=by
 refine⟨λa w h j=>wpList_plain rfl λK k=>?_⟩;unfold Oper.wp;have e:(execOp a.eval ⟨d,.panic x,ty,b,g,none⟩).run P w=.halt (.panic (.iface t v)) w:=by
  rw[h.eval];simp[execOp,Instr.panic,e]
 rw[e];exact⟨h.defers,H,j,i⟩
end
structure kS(P:Program)(N:Nat)(E:Env)(ops:List Oper)(Qw:Exit->Act->World->Prop)(l:List Oper)(F:Nat->Value)(H:List aG):Prop where
 get:∀a w,gZ E N F a->St E H w->wpListIn (fz none) 0 P ops.toArray Qw l a w
section
variable {P:t!} {N:Nat} {E:Env} {Q:QF} {Qw:Exit->Act->World->Prop} {F:Nat->p!} {H R:List aG}
def WJ.N9{id:Nat}{b:List Oper}(h:kS P N E b (Exit.then (λa w=>y.wpIn (fz none) 0 P Qw a w) Qw) b F H):WJ P N E (.seq (.region id b.toArray false) y) Qw F H :=
 ⟨λa w c d=>wpIn_seq (wpIn_region_lit (h.get a w c d))⟩
def kS.nil{b:List Oper}(h:WJ P N E y Qw F H):kS P N E b (Exit.then (λa w=>y.wpIn (fz none) 0 P Qw a w) Qw) [] F H:=⟨λa w c d=>h.get a w c d⟩
def kS.IZ{b a:List Oper}{d:Nat}{g:Op}{ty:q!}{e:String}{i:Array Edge}(m:d<N)(f:∀c,g≠.defer c)
  (n:gM P E H (ev F) ⟨some d,g,ty,e,i,none⟩ v) (h:kS P N E b Qw a (gK F d v) H):kS P N E b Qw (⟨some d,g,ty,e,i,none⟩::a) F H:=by
 refine⟨λa w j k=>?_⟩;refine wpListIn_plain rfl λK l=>Hf f ?_;unfold Oper.wp;rw[j.eval,n w k];exact l _ _ (h.get _ w (j.put m v) k)
def kS.QV{b a:List Oper}{d f:Nat}{xs:List r!}{ty:q!}{c:String}{e:Array Edge}(g:d<N)(i:vG F xs vs)
  (h:kS P N E b Qw a (gK F d (.func (.func f) #[] vs.toArray)) H):kS P N E b Qw (⟨some d,.makeFunc (.func f) #[] xs.toArray,ty,c,e,none⟩::a) F H :=
 kS.IZ g (λ_=>by simp) (λu _=>V.Ri rfl rfl i) h
def kS.defer{c b:List Oper}{f:Nat}{e:Array q!}{ty:q!}{d:String}{i:Array Edge}(m:ev F x=.func (.func f) #[] vs.toArray)
  (h:kS P N (E.jM ({ target:=.fn (.func f) vs.toArray,args:=#[] }::E.ds)) c Qw b F H):kS P N E c Qw (⟨none,.defer { callee:=.value x,args:=#[],argTypes:=e },ty,d,i,none⟩::b) F H:=by
 refine⟨λa w g l=>?_⟩;refine wpListIn_plain rfl λK j=>?_;have k:(execOp a.eval ⟨none,.defer { callee:=.value x,args:=#[],argTypes:=e },ty,d,i,none⟩).run P w=.ok (.defer { target:=.fn (.func f) vs.toArray,args:=#[] }) w:=by
  rw[g.eval];simp[execOp,resolve,m,Deferred.ofValue]
 refine⟨λ_ _=>trivial,?_⟩;rw[show(fz none).round=none from rfl,Oper.semAt_none,k,Oper.uponIn_defer];refine j _ _ (h.get _ w ⟨?_,g.size,g.get⟩ l.jM);show _::a.defers=_::E.ds;rw[g.defers]
def kS.Xj{l:Func}{args:List r!}{r:Array q!}{k:Ending->List aG->Prop}{j b:List Oper}{d:Nat}{ty:q!}{q:String}{t:Array Edge}(y:d<N)
  (n:P.funcs[f]?=some l) (g:(l.name == "runtime.NumGoroutine")=false) (e:l.body.isNone=false)
  (A:fJ Hp H R) (h:∀M,Sub E R M->aF P M f (mI F args).toArray Hp k) (o:∀H',¬k .outgrown H')
  (x:∀c H',k (.panicked c) H'->∀a w,gZ E N F a->St E (H'++R) w->Qw (.panic c) a w)
  (z:∀v H',k (.returned v) H'->kS P N E j Qw b (gK F d v) (H'++R)) :
  kS P N E j Qw (⟨some d,.call { callee:=.value (.func f),args:=args.toArray,argTypes:=r },ty,q,t,none⟩::b) F H:=by
 refine⟨λa w m B=>?_⟩;refine wpListIn_plain rfl λK u=>Hf (λ_=>by simp) ?_;exact O6 rfl rfl n g e A h m B (λv H' s p i=>u _ _ ((z v H' p).get _ s (m.put y v) i)) (λc H' s p i=>x c H' p a s m i) o
structure Lv(P:Program)(N:Nat)(E:Env)(fn:Func)(W:Ending->List aG->Prop)(ds:List Deferred)(u:FrameMode)(F:Nat->Value)(H:List aG):Prop where
 get:∀a w,gZ (E.jM ds) N F a->St (E.jM ds) H w->LeavesIn (fz none) 0 P fn a.tmps (λe w'=>∃H',St E H' w'/\W e H') a.defers u w
def Gl(P:t!)(E:Env)(f:FuncId)(args:Array p!)(u:FrameMode)(H:List aG)(R:Ending->FrameMode->List aG->Prop):Prop :=
 E.ds=[]->∀w,St E H w->CallsDIn (fz none) 0 P f args u w λe b c=>∃a,St E a c/\R e b a
def Lv.one{i:Func}{f:Nat}{u:FrameMode}{R1:Ending->FrameMode->List aG->Prop}(J:u≠.run)(m:∃g,P.funcs[f]?=some g/\(g.name == "runtime.NumGoroutine")=false/\g.body.isNone=false)
  (A:fJ Hp H R) (h:∀M,Sub E R M->Gl P M f vs.toArray u Hp R1)
  (z:∀e d H',R1 e d H'->(∃v,e=.returned v)/\Go.settle d=.returning/\mB P E i W .ret F (H'++R)):Lv P N E i W [{ target:=.fn (.func f) vs.toArray,args:=#[] }] u F H:=by
 refine⟨λa w q K=>?_⟩;have⟨g,t,x,p⟩:=m;rw[q.defers];refine leavesIn_cons (f:=f) (args:=vs.toArray) J (λh=>by cases h) ?_ (λ_ _=>trivial) ?_
 ·have j:¬g.name = "runtime.NumGoroutine" := by simpa using x
  have k:¬g.body=none:=by intro h;rw[h] at p;cases p
  simp[invoke,callFunc,t,j,k]
 ·have⟨M,l,y,n,b⟩:=(K.Oy.cC A).enter;refine(h M y l w n).mono ?_;rintro e d r ⟨H',D,B⟩;obtain⟨⟨v,rfl⟩,o,O,s,k1,k2,k3⟩:=z e d H' B;have c:=b H' r D;show LeavesIn _ _ _ _ _ _ [] (Go.settle d) r;rw[o];refine⟨O,?_,s,k2 _ c,k3⟩;rw[show results i a.tmps=vU i F from DM q];exact k1 _ c
def VS{b:Func}{c:Code}{args:Array p!}(d:P.funcs[f]?=some b)(hb:b.body=some c)(k:b.ntmps=N)(j:args.size<=N)
  (h:E.ds=[]->WJ P N E c (bodyPostDIn (fz none) 0 P b λe i=>∃H',St E H' i/\W e H') (vO args) H):aF P E f args H W:=by
 intro a w g;refine MJ (n:=0) (callsIn_of_wp_defers d hb trivial ((h a).get _ w ?_ g));refine⟨a.symm,by simp;omega,λi=>?_⟩;simp only[vO,Gr,qS,GM,zE,Ib,GL];split
 ·rfl
 ·rename_i h;rw[PC o_];split<;>rfl
def Y3(P:t!)(N:Nat)(E:Env)(b:Func)(W:Ending->List aG->Prop)(a:List Deferred):QF
 | .normal,F,H | .ret,F,H=>Lv P N E b W a .returning F H
 |_,_,_=>False
def WJ.TR{l:Func}{b:Code}{f:List Deferred}(h:C P N (E.jM f) b (Y3 P N E l W f) F H) :
  WJ P N (E.jM f) b (bodyPostDIn (fz none) 0 P l λe p=>∃k,St E k p/\W e k) F H:=by
 refine⟨λa w m o=>wpIn_mono ((wpIn_wide (n:=0)).2 (h.get a w m o)) ?_⟩;intro e a w d;cases e with
 |normal=>have⟨F,H,i,j,g⟩:=d;exact g.get a w i j
 |ret=>have⟨F,H,i,j,g⟩:=d;exact g.get a w i j
 |exit q=>have⟨_,_,_,_,h⟩:=d;exact h.elim
 |panic c=>have⟨_,_,_,h⟩:=d;exact h.elim
 |_=>exact d.elim
def asked:FrameMode->p!×FrameMode
 | .panicking ({ v,recovered:=false,goexit:=false }::a)=>(v,.panicking ({ v,recovered:=true }::a))
 |u=>(.nilIface,u)
def Oi{fn:Func}{id d1 d2:Nat}{ty ty2:q!}{pos pos2:String}{af af2:Array Edge}{tys:Array q!}{args:Array p!}{u:FrameMode}(hf:P.funcs[f]?=some fn)
  (hb:fn.body=some (.seq (.region id #[⟨some d1,.call { callee:=.builtin .recover,args:=#[],argTypes:=tys },ty,pos,af,none⟩,⟨some d2,.assign (.tmp d1),ty2,pos2,af2,none⟩] false) y)) (hn:fn.ntmps=N) (ha:args.size<=N) (hd1:d1<N) (hd2:d2<N)
  (h:C P N E y (mB P E fn W) (gK (gK (vO args) d1 (asked u).1) d2 (asked u).1) H):Gl P E f args u H (λe u' H'=>u'=(asked u).2/\W e H'):=by
 intro hds w hw;have hr:gZ E N (vO args) { tmps:=args++Array.replicate (fn.ntmps - args.size) undef,defers:=[] }:=by
  refine⟨hds.symm,by simp;omega,λi=>?_⟩;simp only[vO,Gr,qS,GM,zE,Ib,GL];grind
 have hr1:=(hr.put hd1 (asked u).1).put hd2 (asked u).1;refine callsDIn_of_wpSIn hf hb trivial λc₀ cs hu=>?_;apply wpSIn_seq;apply wpSIn_region;have key:∀(K:p!->List Frame->Prop),K (asked u).1 ({ c₀ with mode:=(asked u).2 }::cs)->(match recoverD (c₀::cs) with
  |some (v,cs')=>K v cs'
  |none=>K .nilIface (c₀::cs)):=by
  intro K hK;subst hu;have e:recoverD (c₀::cs)=(match c₀.mode with
   | .panicking ({ v,recovered:=false,goexit:=false }::older)=>some (v,{ c₀ with mode:=.panicking ({ v,recovered:=true }::older) }::cs)
   |_=>none):=rfl
  rw[e];unfold asked at hK;split at hK
  ·exact hK
  ·exact hK
 simp only[wpOpsSIn,show(#[(⟨some d1,.call { callee:=.builtin .recover,args:=#[],argTypes:=tys },ty,pos,af,none⟩:Oper),⟨some d2,.assign (.tmp d1),ty2,pos2,af2,none⟩]).size=2 from rfl,show List.range 2=[0,1] from rfl];simp[go_sem,execOp];have hlt:d1<args.size+(fn.ntmps - args.size):=o_;simp only[hlt,if_true];refine key (λv cs'=>Code.wpSIn (fz none) 0 P y (bodyPostS P fn c₀ cs λe u' w'=>∃H',St E H' w'/\u'=(asked u).2/\W e H')
  { tmps:=((args++Array.replicate (fn.ntmps - args.size) undef).setIfInBounds d1 v).setIfInBounds d2 v,defers:=[] } cs' w) ?_
 refine wpSIn_of_wpIn rfl ((wpIn_wide (n:=0)).2 (wp_mono (h.get _ w hr1 hw) ?_));intro e a' w' hq;cases e with
 |normal=>have⟨F',H',k1,k2,v,H1,k3,k4,k5⟩:=hq;exact⟨k1.defers.trans hds,_,rfl,v,by rw[DM k1];exact k3 _ k2,H1,k4 _ k2,rfl,k5⟩
 |ret=>have⟨F',H',k1,k2,v,H1,k3,k4,k5⟩:=hq;exact⟨k1.defers.trans hds,_,rfl,v,by rw[DM k1];exact k3 _ k2,H1,k4 _ k2,rfl,k5⟩
 |exit id=>have⟨_,_,_,_,h⟩:=hq;exact h.elim
 |panic c=>have⟨k1,H',k2,k3⟩:=hq;exact⟨k1.trans hds,_,rfl,H',k2,rfl,k3⟩
 |_=>exact hq.elim
end
end
section
open Go.RowKit Reg
open Mem hiding Rd
def small(n:Int):Bool:=decide (0<=n/\n<=255)
def Xw:Rec prog 90 [a! 0,a! 0,a! 0,.slice none 0 0] [(0,2),(2,1),(3,1)]:=⟨q_,q_⟩
instance aSr:iB 90 [a! 0,a! 0,a! 0,.slice none 0 0] [(0,2),(2,1),(3,1)]:=⟨Xw⟩
def Jp(E:Env)(x:aL):aF prog E 160 #[.agg x.cs.toArray] [] λe a=>e=.returned (.bool x.may)/\a=[]:=R5 E x.rep x.seq
structure Oc where
 A:Option Addr
 n:Nat
 c:Nat
 b:List UInt8
def kC:Ty Oc where
 val x:=.slice x.A x.n x.c
 size:=1
 bytes:=24
 tid:=70
 zero:=.slice none 0 0
 hlen _:=rfl
 kL a u h:=by simp only[Value.cells,eM] at h;subst h;rfl
 fZ:=sD
 hzero:=rfl
 lF:=q_
 mQ:=.inr ⟨q_,λ_=>rfl⟩
instance aSv:pR kC 24:=⟨rfl⟩
def LX(E:Env)(l:List Oc):Prop:=∀x∈l,Rd E bH x.A x.n x.c x.b
def LX.at_{E:Env}{l:List Oc}(h:LX E l){i:Nat}{x:Oc}(a:l[i]?=some x):Rd E bH x.A x.n x.c x.b:=h x (dG a)
abbrev jF(x:Oc):aG:=own bH x.A x.n x.c x.b
end
end Go.Proofs.YtmilalkjbojciaaGreat.Sep
namespace Go.Proofs.YtmilalkjbojciaaGreat.Oct
def be(n:Nat)(w:Nat):o!:=(List.range w).map λj=>UInt8.ofNat (n / 2 ^ (8*(w - 1 - j)))
def put(b:o!)(n:Nat)(w:Int):o!:=if w<1\/8<w then b else b++be n w.toNat
theorem eJ(n w:Nat):(be n w).length=w:=by simp[be]
def get(l:o!):Nat:=l.foldl (λn b=>n*256+b.toNat) 0
def Jl(l:o!)(b:UInt8):get (l++[b])=get l*256+b.toNat:=by simp[get]
def HJ:∀l:o!,get l<256 ^ l.length:=by
 have a:∀(r:o!),get r.reverse<256 ^ r.length:=by
  intro r;induction r with
  |nil=>simp[get]
  |cons x r b =>
   rw[List.reverse_cons,Jl,gL,Nat.pow_succ];have:=Ad x;omega
 intro l;have:=a l.reverse
 grind
def P4(n w:Nat):be n (w+1)=be (n / 256) w++[UInt8.ofNat n]:=by
 unfold be;rw[List.range_succ,gP];congr 1
 ·apply List.map_congr_left;intro j a;have a:=List.mem_range.1 a;congr 1;rw[show(256:Nat)=2 ^ 8 by decide,Nat.div_div_eq_div_mul,<-Nat.pow_add];congr 2;omega
 ·simp
theorem HI(w:Nat):∀n,get (be n w)=n % 256 ^ w:=by
 induction w with
 |zero=>intro n;simp[be,get,Nat.mod_one]
 |succ w a =>
  intro n;rw[P4,Jl,a,Nat.pow_succ,Ir (256 ^ w) 256,Nat.mod_mul];simp;omega
def XN(w n m:Nat)(b:n<256 ^ w)(a:m<256 ^ w)(h:be n w=be m w):n=m:=by
 grind [get,HI,Nat.mod_eq_of_lt]
theorem I9(l:o!):be (get l) l.length=l:=by
 have a:∀(r:o!),be (get r.reverse) r.length=r.reverse:=by
  intro r;induction r with
  |nil=>rfl
  |cons x r b =>
   rw[List.reverse_cons,gL,P4,Jl];have c:=Ad x;rw[show(get r.reverse*256+x.toNat) / 256=get r.reverse by omega,b];congr 2;apply Ch.1;simp
 have:=a l.reverse
 grind
def XO(n w k:Nat)(h:k<w):(be n w).take (k+1)=(be n w).take k++[UInt8.ofNat (n / 2 ^ (8*(w - 1 - k)))]:=by
 grind [List.take_succ_eq_append_getElem,eJ,be]
def Xh(m:Nat):UInt8.ofNat ((m:Int) % 256).toNat=UInt8.ofNat m:=by
 apply Ch.1;simp;omega
def Yh(n k:Nat):(n:Int) / 2 ^ k=((n / 2 ^ k:Nat):Int):=s_
end Go.Proofs.YtmilalkjbojciaaGreat.Oct
namespace Go.Proofs.YtmilalkjbojciaaGreat.Sep
variable{c:aI}{i k:Nat}{l x:o!}
section
open Go.RowKit Reg Oct
open Mem hiding Rd
def aOa:Rec prog 341 [.bool false,.bool false,.slice none 0 0] [(0,1),(1,1),(2,1)]:=⟨q_,q_⟩
instance aTj:iB 341 [.bool false,.bool false,.slice none 0 0] [(0,1),(1,1),(2,1)]:=⟨aOa⟩
def nQ(g:Nat):p!:=.pointer (some ⟨g,0,none⟩)
def nx(a:Bool)(l:o!)(n:Int):Option (o!)×Bool×o! :=
 if a then(none,true,l) else if n<0\/(l.length:Int)<n then(none,true,l) else(some (l.take n.toNat),false,l.drop n.toNat)
def wid(k:Int):Int:=if k<1\/8<k then -1 else k
abbrev gA(g:Nat)(made a:Bool)(A:n!)(n c:Nat):aG:=aE g 341 [.bool made,.bool a,.slice A n c]
def mW(A:n!)(n c:Nat)(l:o!)(a:n!)(n' b:Nat)(l':o!):Prop:=∀E,Rd E bH A n c l->Rd E bH a n' b l'
theorem mW.refl{A:n!}{n c:Nat}:mW A n c l A n c l:=λ_ h=>h
theorem mW.trans{A B C:n!}{n c m d p q:Nat}{l' a:o!}(h:mW A n c l B m d l')(k:mW B m d l' C p q a):mW A n c l C p q a:=λE x=>k E (h E x)
def AJ(E:Env)(A:n!)(n c:Nat)(l:o!)(h:Rd E bH A n c l)(f:n<=140737488355300) :
  aF prog E 185 #[.slice A n c] [] λe d=>∃g b a,e=.returned (nQ g)/\n<=a/\a<=maxLen/\d=[gA g true false b n a,own bH b n a l]:=by
 refine x_ func185 ntmps185 ?_;intros
 exact aX rfl aJ aC (⟨_,_,_,rfl,by assumption,by assumption,rfl⟩)
def Cx(E:Env)(g:Nat)(made bad:Bool)(A:n!)(n c:Nat) :
  aF prog E 295 #[nQ g] [gA g made bad A n c] λe H'=>e=.returned (.bool (made && !bad))/\H'=[gA g made bad A n c]:=by
 unfold nQ;refine t_ func295 ntmps295 ?_;cases made;all_goals
  refine c_ ?_
  exact aS
def WK(g:Nat)(A:n!)(n c:Nat)(l:o!)(r:Option (o!)×Bool×o!)(e:Ending)(H':List aG):Prop :=
 ∃a f b,H'=[gA g true r.2.1 a f b]/\mW A n c l a f b r.2.2 /\
  match r.1 with
  |none=>e=.returned (.tuple #[.slice none 0 0,.bool false])
  |some x=>∃B m d,e=.returned (.tuple #[.slice B m d,.bool true])/\mW A n c l B m d x
def TD(E:Env)(g:Nat)(bad:Bool)(A:n!)(n c:Nat)(l:o!)(k:Int)(hr:Rd E bH A n c l) :
  aF prog E 293 #[nQ g,a! k] [gA g true bad A n c] (WK g A n c l (nx bad l k)):=by
 have hlen:=hr.len;have hcap:=hr.cap;unfold nQ;refine x_ func293 ntmps293 ?_;refine aP (λM=>Cx M g true bad A n c) ?_;cases bad
 ·by_cases hk:k<0\/(n:Int)<k
  ·have hx:nx false l k=(none,true,l):=by simp[nx,<-hlen,hk]
   rw[hx];rcases hk with hk|hk
   ·refine c_ ?_;exact oN ⟨_,_,_,rfl,.refl,rfl⟩
   ·by_cases hk0:k<0;all_goals
     refine c_ ?_;exact oN ⟨_,_,_,rfl,.refl,rfl⟩
  ·have hx:nx false l k=(some (l.take k.toNat),false,l.drop k.toNat):=by simp[nx,<-hlen,hk]
   rw[hx];obtain⟨k,rfl⟩:=zI (show 0<=k by omega);rw[jK];refine c_ ?_;exact uX rfl aJ aJ aC (⟨_,_,_,rfl,λE h=>h.from_ o_,_,_,_,rfl,λE h=>h.upto o_ o_ o_⟩)
 ·have hx:nx true l k=(none,true,l):=rfl;rw[hx];refine c_ ?_;exact oN ⟨_,_,_,rfl,.refl,rfl⟩
def tk:Option (o!)->p!
 |none=>.tuple #[.int .u64 0,.bool false]
 |some x=>.tuple #[.int .u64 (get x:Nat),.bool true]
def WQ(g:Nat)(A:n!)(n c:Nat)(l:o!)(r:Option (o!)×Bool×o!)(e:Ending)(H':List aG):Prop :=
 ∃a d b,H'=[gA g true r.2.1 a d b]/\mW A n c l a d b r.2.2/\e=.returned (tk r.1)
def aIm(s x:Nat)(a:s<256 ^ 7)(b:x<256):Go.bits .or .u64 ((s:Int)*256) (x:Int)=((s*256+x:Nat):Int):=by
 have e:(s:Int)*256=((s*256:Nat):Int):=o_;rw[e,u64_or_nat _ _ o_ o_,nat_join 8 _ _ o_ o_]
def TM{a:Bool}{k:Int}(h:(nx a l k).1=some x):0<=k/\(x.length:Int)=k:=by
 unfold nx at h;split at h
 ·cases h
 ·split at h
  ·cases h
  ·injection h with h;subst h;rw[dR];omega
def aPe(k:Int):wid k<=8:=by unfold wid;split<;>omega
def l7(c:k<x.length)(b:x.length<=8):get (x.take k)<256 ^ 7:=by
 have a:=HJ (x.take k);refine Cd a (Gj o_ ?_);rw[dR];omega
def l8(a:k<x.length):get (x.take (k+1))=get (x.take k)*256+x[k].toNat:=by
 rw[rS a,Jl]
def zB(E:Env)(g:Nat)(bad:Bool)(A:n!)(n c:Nat)(l:o!)(k:Int)(hr:Rd E bH A n c l) :
  aF prog E 242 #[nQ g,a! k] [gA g true bad A n c] (WQ g A n c l (nx bad l (wid k))):=by
 have hw:wid k=if k<1\/8<k then -1 else k:=rfl;have hw8:=aPe k;refine t_ func242 ntmps242 ?_;iterate 5 (first|refine mV ?_|refine tU ?_|intro _|refine Dr.two ?_ ?_)
 refine C.cut (X:=Unit) (λ_=>[(0,nQ g),(1,a! (wid k))]) (λ_=>[gA g true bad A n c]) (λ_=>True) ?_ ?_
 ·by_cases h1:k<1
  ·rw[c! (.inl h1)] at hw;rw[hw];refine c_ ?_;exact⟨(),aK,aB.refl,trivial⟩
  ·by_cases h8:8<k;rw[c! (.inr h8)] at hw;rotate_left;rw[b! o_] at hw;all_goals
    rw[hw];refine c_ ?_;exact⟨(),aK,aB.refl,trivial⟩
 ·rintro - G -;clear hw;refine c_ ?_;refine cU (λM=>TD M g bad A n c l (wid k)) ?_;rintro e H' ⟨A',n',c',rfl,hal,he⟩;obtain⟨B,m,d,x,ok,rfl,hB,hx,htk⟩:∃B m d x ok,e=.returned (.tuple #[.slice B m d,.bool ok])/\Rd E bH B m d x/\x.length<=8/\tk (nx bad l (wid k)).1=.tuple #[.int .u64 (get x:Nat),.bool ok]:=by
   cases hq:(nx bad l (wid k)).1 with
   |none=>rw[hq] at he;exact⟨none,0,0,[],false,he,Rd.nil _ _,s_,rfl⟩
   |some x =>
    rw[hq] at he;obtain⟨B,m,d,he,hB⟩:=he;have:=TM hq;exact⟨B,m,d,x,true,he,hB _ hr,o_,rfl⟩
  have hm:=hB.len;refine c_ ?_;refine C.loop (X:=Nat) (λi=>[(7,.bool ok),(8,.int .u64 (get (x.take i):Nat)),(23,.slice B m d),(24,a! m),(25,a! i)]) (λ_=>[gA g true (nx bad l (wid k)).2.1 A' n' c']) (λi=>i<=m) (λi=>m - i) 0 aK aB.refl (bY _) ?_;rintro i G hi;by_cases hlt:i<m
  ·have hxi:x[i]?=some x[i]:=bS o_;have hb:=Ad x[i];have hg:=l7 (k:=i) o_ hx;have e3:Go.bits .or .u64 ((Oct.get (x.take i):Nat)*256) (x[i].toNat:Int)=((Oct.get (x.take (i+1)):Nat):Int):=by rw[aIm _ _ hg o_,l8 o_]
   refine c_ ?_;exact⟨i+1,aK,aB.refl,o_,o_⟩
  ·refine c_ ?_;obtain rfl:i=m:=o_;have ex:x.take i=x:=fX o_;rw[ex];exact uX rfl aJ aJ aC (⟨_,_,_,rfl,hal,by rw[htk]⟩)
end
section
open Oct
def aW(l:o!)(i w:Nat):Nat:=get ((l.drop i).take w)
def mP(l:o!)(i w:Nat):aW l i w<256 ^ w:=by
 have h:=HJ ((l.drop i).take w);have a:((l.drop i).take w).length<=w:=by simp;omega
 exact Cd h (Gj o_ a)
def FV(h:i<l.length):aW l i 1=l[i].toNat:=by
 unfold aW;rw[lL h,E7,qU];simp[Oct.get]
theorem pX{w:Nat}(h:i+w<=l.length):be (aW l i w) w=(l.drop i).take w:=by
 have:=I9 ((l.drop i).take w);rw[show((l.drop i).take w).length=w by simp;omega] at this;exact this
theorem kK{a b:o!}{w n:Nat}(hi:a.length=i)(c:n<256 ^ w):aW (a++(be n w++b)) i w=n:=by
 grind [aW,List.drop_left',List.take_left',eJ,HI,Nat.mod_eq_of_lt]
def iG(k:Nat):Int:=if k<9223372036854775808 then k else(k:Int) - 18446744073709551616
def tA(n:Int):Nat:=(n % 18446744073709551616).toNat
def K8(n:Int):tA n<18446744073709551616:=by grind [tA]
def Ve(h:k<18446744073709551616):tA (iG k)=k:=by grind [tA,iG]
def Uv{n:Int}(h:bQ n):iG (tA n)=n:=by grind [tA,iG,bQ]
theorem OO(h:k<18446744073709551616):bQ (iG k):=by grind [iG,bQ]
def V1(n:Int):IntKind.u64.wrap n=(tA n:Nat):=by
 rw[La]
 grind [tA]
def vE{n:Int}(h:0<=n)(a:n<=9223372036854775807):IntKind.u64.wrap n=(n.toNat:Nat):=by
 rw[La];omega
def GJ(h:k<18446744073709551616):IntKind.i64.wrap (k:Int)=iG k:=by
 rw[IntKind.wrap_i64]
 grind [iG]
def aI.may(c:aI):Bool:=c.id.may&&decide (1<=c.time/\c.time<=1073741824)&&small c.kind&&small c.a&&small c.b&&small c.ref.rep&&decide (0<=c.ref.seq/\c.ref.seq<=65535)
theorem aI.eY(c:aI):c.may=true↔(0<=c.id.rep/\c.id.rep<=3/\1<=c.id.seq/\c.id.seq<=65535)/\(1<=c.time/\c.time<=1073741824)/\(0<=c.kind/\c.kind<=255)/\(0<=c.a/\c.a<=255)/\(0<=c.b/\c.b<=255)/\(0<=c.ref.rep/\c.ref.rep<=255)/\0<=c.ref.seq/\c.ref.seq<=65535:=by
 grind [aI.may,aL.may,small]
def aI.put(c:aI):o!:=be c.id.rep.toNat 1++(be c.id.seq.toNat 2++(be c.time.toNat 4++(be c.kind.toNat 1++(be c.a.toNat 1++(be c.b.toNat 1++(be (tA c.n) 8++(be c.ref.rep.toNat 1++(be c.ref.seq.toNat 2++[67]))))))))
theorem aI.iP(c:aI):c.put.length=22:=by simp[aI.put,eJ]
def zT(l:o!):aI:=⟨⟨aW l 0 1,aW l 1 2⟩,aW l 3 4,aW l 7 1,aW l 8 1,aW l 9 1,iG (aW l 10 8),⟨aW l 18 1,aW l 19 2⟩⟩
theorem Xy(l:o!):(zT l).ok:=by
 have a:=mP l 0 1;have b:=mP l 1 2;have c:=mP l 3 4;have d:=mP l 7 1;have e:=mP l 8 1;have f:=mP l 9 1;have g:=mP l 10 8;have h:=mP l 18 1;have i:=mP l 19 2
 grind [OO,aW,zT,aI.ok,aL.ok,bQ]
theorem zS(k:Nat):be k 1=[UInt8.ofNat k]:=by
 simp[be,List.range_succ]
theorem aLr(h:l.length=22)(d:l[21]?=some 67):(zT l).put=l:=by
 have a:l=(l.drop 0).take 1++((l.drop 1).take 2++((l.drop 3).take 4++((l.drop 7).take 1++((l.drop 8).take 1++((l.drop 9).take 1++((l.drop 10).take 8++((l.drop 18).take 1++((l.drop 19).take 2++l.drop 21)))))))):=by
  grind [List.drop_drop,List.take_append_drop]
 have b:l.drop 21=[67]:=by
  grind [List.getElem?_eq_some_iff,List.drop_eq_getElem_cons,List.drop_of_length_le]
 rw[b] at a;have c:=mP l 10 8;unfold aI.put zT;dsimp only;rw[Ve o_];simp only[jK];rw[pX o_,pX o_,pX o_,pX o_,pX o_,pX o_,pX o_,pX o_,pX o_];exact a.symm
def Xz(b:c.may=true)(o:bQ c.n):zT c.put=c:=by
 rw[aI.eY] at b;have⟨⟨p,v,w,x⟩,⟨A,B⟩,⟨q,k1⟩,⟨d,s⟩,⟨e,t⟩,⟨r,y⟩,s0,z⟩:=b;have u:=K8 c.n;have f:aW c.put 0 1=c.id.rep.toNat:=kK (a:=[]) rfl o_;have g:aW c.put 1 2=c.id.seq.toNat:=by
  grind [aI.put,kK,eJ]
 have h:aW c.put 3 4=c.time.toNat:=by
  grind [aI.put,kK,eJ]
 have i:aW c.put 7 1=c.kind.toNat:=by
  grind [aI.put,kK,eJ]
 have j:aW c.put 8 1=c.a.toNat:=by
  grind [aI.put,kK,eJ]
 have k:aW c.put 9 1=c.b.toNat:=by
  unfold aI.put;rw[<-bF,<-bF,<-bF,<-bF];exact kK (by simp[eJ]) o_
 have l:aW c.put 10 8=tA c.n:=by
  unfold aI.put;rw[<-bF,<-bF,<-bF,<-bF,<-bF];exact kK (by simp[eJ]) o_
 have m:aW c.put 18 1=c.ref.rep.toNat:=by
  unfold aI.put;rw[<-bF,<-bF,<-bF,<-bF,<-bF,<-bF];exact kK (by simp[eJ]) o_
 have n:aW c.put 19 2=c.ref.seq.toNat:=by
  unfold aI.put;rw[<-bF,<-bF,<-bF,<-bF,<-bF,<-bF,<-bF];exact kK (by simp[eJ]) o_
 unfold zT;rw[f,g,h,i,j,k,l,m,n,Uv o];rw[pT p,pT o_,pT o_,pT q,pT d,pT e,pT r,pT s0]
def aNb(c:aI):c.put[21]?=some 67:=by
 unfold aI.put;rw[<-bF,<-bF,<-bF,<-bF,<-bF,<-bF,<-bF,<-bF,wG (by simp[eJ])];simp[eJ]
def rW(l:o!):Option aI:=if l.length=22/\l[21]?=some 67/\(zT l).may=true then some (zT l) else none
def QM(h:rW l=some c):c=zT l/\c.may=true/\c.put=l/\c.ok:=by
 grind [rW,aLr,Xy]
def MM(a:c.may=true)(b:bQ c.n):rW c.put=some c:=by
 unfold rW;rw[Xz a b,c! ⟨c.iP,aNb c,a⟩]
def dW(s:Bool×o!)(w:Nat):Bool×o!:=(nx s.1 s.2 w).2
def vl(s:Bool×o!)(w:Nat):Nat:=match (nx s.1 s.2 w).1 with|none=>0|some x=>get x
def xC(s:Bool×o!)(w:Nat):Bool:=(nx s.1 s.2 w).1.isSome
theorem DG(h:k<=l.length):nx false l k=(some (l.take k),false,l.drop k):=by
 grind [nx]
theorem TL(h:l.length<k):nx false l k=(none,true,l):=by
 grind [nx]
theorem sX{w:Nat}(h:i+w<=l.length):dW (false,l.drop i) w=(false,l.drop (i+w))/\vl (false,l.drop i) w=aW l i w/\xC (false,l.drop i) w=true:=by
 have a:nx false (l.drop i) w=_:=DG (by simp;omega);unfold dW vl xC;dsimp only;rw[a,pU];exact⟨rfl,rfl,rfl⟩
def oQ(s:Bool×o!)(w:Nat):vl s w<256 ^ w:=by
 unfold vl nx;split
 ·grind
 ·rename_i x a;split at a
  ·cases a
  ·split at a
   ·cases a
   ·injection a with a;subst a;have h:=HJ (s.2.take (w:Int).toNat);grind
def runs:List Nat->Bool×o!->Bool×o!
 | [],s=>s
 |w::ws,s=>runs ws (dW s w)
def aBn(ws:List Nat)(l:o!):runs ws (true,l)=(true,l):=by
 induction ws with
 |nil=>rfl
 |cons w ws a=>exact a
def aAw(ws:List Nat)(w:Nat)(l:o!)(h:l.length<ws.sum+w):vl (runs ws (false,l)) w=0:=by
 induction ws generalizing l with
 |nil =>
  grind [runs,vl,TL]
 |cons a ws c =>
  simp at h;unfold runs;by_cases b:a<=l.length
  ·have:=(sX (l:=l) (i:=0) (w:=a) o_).1;grind
  ·have:dW (false,l) a=(true,l):=by
    grind [dW,TL]
   rw[this,aBn];rfl
theorem aGp(ws:List Nat)(w:Nat)(s:Bool×o!):runs (ws++[w]) s=dW (runs ws s) w:=by
 induction ws generalizing s with
 |nil=>rfl
 |cons a ws b=>exact b _
def st(ws:List Nat)(l:o!)(i:Nat):Bool×o!:=runs (ws.take i) (false,l)
def va(ws:List Nat)(l:o!)(i:Nat):Nat:=vl (st ws l i) (ws.getD i 0)
theorem ID{ws:List Nat}(hi:i<=ws.length)(h:(ws.take i).sum<=l.length):st ws l i=(false,l.drop (ws.take i).sum):=by
 induction i with
 |zero=>simp[st,runs]
 |succ i a =>
  grind [List.take_succ_eq_append_getElem,st,aGp,sX]
theorem pP{ws:List Nat}{w:Nat}(a:(ws.take i).sum=k)(b:ws.getD i 0=w)(hi:i<=ws.length)(h:k+w<=l.length):va ws l i=aW l k w:=by
 subst a b;unfold va;rw[ID hi o_,(sX h).2.1]
theorem Vf{ws:List Nat}(h:l.length<(ws.take i).sum+ws.getD i 0):va ws l i=0:=aAw _ _ _ h
def GG(ws:List Nat)(l:o!)(i:Nat):va ws l i<256 ^ ws.getD i 0:=oQ _ _
def oO(h:k<9223372036854775808):iG k=k:=c! h
abbrev eR:List Nat:=[1,2,4,1,1,1,8,1,2,1]
def Dw(l:o!):aI:=⟨⟨va eR l 0,va eR l 1⟩,va eR l 2,va eR l 3,va eR l 4,va eR l 5,iG (va eR l 6),⟨va eR l 7,va eR l 8⟩⟩
def X0(h:22<=l.length):Dw l=zT l/\va eR l 9=aW l 21 1/\st eR l 10=(false,l.drop 22):=by
 refine⟨?_,pP rfl rfl sD o_,ID sD (by simpa using h)⟩;unfold Dw zT;rw[pP (k:=0) (w:=1) rfl rfl sD o_,pP (k:=1) (w:=2) rfl rfl sD o_,pP (k:=3) (w:=4) rfl rfl sD o_,pP (k:=7) (w:=1) rfl rfl sD o_,pP (k:=8) (w:=1) rfl rfl sD o_,
  pP (k:=9) (w:=1) rfl rfl sD o_,pP (k:=10) (w:=8) rfl rfl sD o_,pP (k:=18) (w:=1) rfl rfl sD o_,pP (k:=19) (w:=2) rfl rfl sD o_]
def M6{p q:Prop}[Decidable p][Decidable q]{α:Type}{x y:α}(h:p↔q):(if p then x else y)=if q then x else y:=by
 grind
def Xu(l:o!):rW l=if va eR l 9=67/\(!(st eR l 10).1&&(st eR l 10).2.isEmpty)=true/\(Dw l).may=true then some (Dw l) else none:=by
 by_cases h:22<=l.length
 ·have⟨a,b,c⟩:=X0 h;rw[a,b,c];unfold rW;have d:(aW l 21 1=67)↔l[21]?=some 67:=by
   rw[FV o_,bS o_];constructor
   ·intro h;rw[show l[21]=67 from Ch.1 h]
   ·intro h;injection h with h;rw[h];rfl
  have e:((!(false,l.drop 22).1&&(false,l.drop 22).2.isEmpty)=true)↔l.length=22:=by
   simp;omega
  grind
 ·rw[Vf (i:=9) (by simp;omega),b! s_];exact b! λ⟨a,_⟩=>by omega
end
end Go.Proofs.YtmilalkjbojciaaGreat.Sep
namespace Go.Proofs.YtmilalkjbojciaaGreat.Crc
variable{a c:Nat}
section
def Ht:Nat:=3988292384
def Be(c:Nat):Nat:=if c % 2=1 then(c / 2) ^^^ Ht else c / 2
def bits(c:Nat):Nat->Nat
 |0=>c
 |k+1=>Be (bits c k)
def byte(c x:Nat):Nat:=bits (c ^^^ x) 8
def raw(c:Nat)(l:o!):Nat:=l.foldl (λc x=>byte c x.toNat) c
def more(c:Nat)(l:o!):Nat:=4294967295 ^^^ raw (4294967295 ^^^ c) l
def sum(l:o!):Nat:=more 0 l
def As{b:Nat}(c:a<4294967296)(hb:b<4294967296):a ^^^ b<4294967296:=Nat.xor_lt_two_pow (n:=32) c hb
def XS(h:c<4294967296):Be c<4294967296:=by
 unfold Be;split
 ·exact As o_ sD
 ·omega
def Gs(h:c<4294967296):∀k,bits c k<4294967296
 |0=>h
 |k+1=>XS (Gs h k)
def Gt{x:Nat}(h:c<4294967296)(a:x<256):byte c x<4294967296:=Gs (As h o_) 8
def N0(h:c<4294967296):∀l,raw c l<4294967296:=by
 intro l;induction l generalizing c with
 |nil=>exact h
 |cons x l a=>exact a (Gt h (Ad x))
def S5(h:c<4294967296)(l:o!):more c l<4294967296:=As sD (N0 (As sD h) l)
def GC(l:o!):sum l<4294967296:=S5 sD l
theorem KZ(c:Nat)(a b:o!):raw c (a++b)=raw (raw c a) b:=List.foldl_append
def aMg(c:Nat)(a:o!)(x:UInt8):raw c (a++[x])=byte (raw c a) x.toNat:=by rw[KZ];rfl
theorem PB(a b:Nat):a ^^^ (a ^^^ b)=b:=by grind
theorem PA{b:Nat}(h:a ^^^ b=a ^^^ c):b=c:=by grind [PB]
theorem V5{b:Nat}(h:b ^^^ a=c ^^^ a):b=c:=by grind [PA]
def aHv(c:Nat)(a b:o!):more c (a++b)=more (more c a) b:=by
 grind [more,KZ,PB]
def aSa(c:Nat):more c []=c:=PB _ _
theorem aKh(h:a<2147483648):2147483648<=a ^^^ Ht:=by
 have b:(a ^^^ Ht).testBit 31=true:=by
  rw[Nat.testBit_xor,Nat.testBit_lt_two_pow (i:=31) o_];decide
 grind
def XR{b:Nat}(c:a<4294967296)(hb:b<4294967296)(h:Be a=Be b):a=b:=by
 grind [Be,V5,aKh]
def ME{b:Nat}(c:a<4294967296)(hb:b<4294967296):∀k,bits a k=bits b k->a=b
 |0,h=>h
 |k+1,h=>ME c hb k (XR (Gs c k) (Gs hb k) h)
def aDx{b:Nat}(c:a<4294967296)(hb:b<4294967296)(l:o!)(h:raw a l=raw b l):a=b:=by
 induction l generalizing a b with
 |nil=>exact h
 |cons x l g =>
  have d:=Ad x;have e:=g (Gt c d) (Gt hb d) h;have f:=ME (As c o_) (As hb o_) 8 e;exact V5 f
def aQm(a b:o!)(x y:UInt8)(h:x≠y):sum (a++x::b)≠sum (a++y::b):=by
 intro e;unfold sum more at e;have d:=PA e;have c:raw (4294967295 ^^^ 0) a<4294967296:=N0 sD a;have i:=Ad x;have j:=Ad y;rw[KZ,KZ] at d;have f:byte _ x.toNat=byte _ y.toNat:=aDx (Gt c i) (Gt c j) b d;have g:=ME (As c o_) (As c o_) 8 f;exact h (Ch.1 (PA g))
end
section
open Go.RowKit Mem
def aKn(h:c<4294967296):Go.bits .and .u32 (c:Int) 1=((c % 2:Nat):Int):=by
 rw[show(1:Int)=((1:Nat):Int) from rfl,u32_and_nat c 1 h sD,nat_mask1]
def TB(h:c<4294967296):Go.bits .xor .u32 IntKind.u32.max (c:Int)=((4294967295 ^^^ c:Nat):Int):=u32_xor_nat 4294967295 c sD h
def aKx(c:Nat)(hc:c<4294967296)(A:n!)(n cap B:Nat)(l:o!)(W:World)(hr:Rd DI W B A n cap l) :
  Calls prog 294 #[.int .u32 (c:Int),.slice A n cap] W λe w'=>e=.returned (.int .u32 (more c l:Nat))/\W=w':=by
 have hn:=hr.cap;have hnl:=Lib.hid hr.len;unfold maxLen at hn;have hx:=TB hc;have hd:∀l,4294967295 ^^^ raw (4294967295 ^^^ c) l=more c l:=λ_=>rfl;have HD:=Lib.hid hd;clear hd;have hc0:4294967295 ^^^ c<4294967296:=As sD hc;generalize 4294967295 ^^^ c=c0 at *
 go_enter func294,ntmps294;go_wp2;clear hx;go_loop [5,12] (λt i=>∃k:Nat,k<=n/\i=a! k/\t=.int .u32 (raw c0 (l.take k):Nat)) (λ_ i=>n - (intOf i).toNat);case atStart=>exact⟨0,o_,rfl,rfl⟩
 case round =>
  obtain⟨k,hk,rfl,rfl⟩:=hrel;have hb:=N0 hc0 (l.take k);by_cases hlt:k<n
  ·obtain⟨ad,rfl,_,hl,hcell⟩:=hr.TQ hlt;have hs:raw c0 (l.take (k+1))=byte (raw c0 (l.take k)) l[k].toNat:=by
    rw[rS hl,aMg]
   have HS:=Lib.hid hs;clear hs;have hx:=Ad l[k];generalize hR:raw c0 (l.take k)=R at *;clear hR;generalize l[k].toNat=x at *;have hxx:Go.bits .xor .u32 (R:Int) (x:Int)=((R ^^^ x:Nat):Int):=u32_xor_nat R x hb o_;have hR2:R ^^^ x<4294967296:=As hb o_;have hby:bits (R ^^^ x) 8=byte R x:=rfl;have HBY:=Lib.hid hby;clear hby;generalize hY:R ^^^ x=Y at *;clear hY;go_wp2;clear hxx;go_loop [5,20] (λt i=>∃j:Nat,j<=8/\i=a! j/\t=.int .u32 (bits Y j:Nat)) (λ_ i=>8 - (intOf i).toNat);case atStart=>exact⟨0,o_,rfl,rfl⟩
   case round =>
    obtain⟨j,hj,rfl,rfl⟩:=hrel;have hbb:=Gs hR2 j;have hst:bits Y (j+1)=Be (bits Y j):=rfl;have HST:=Lib.hid hst;clear hst;by_cases h8:j<8
    ·generalize bits Y j=Z at *;have hm:=aKn hbb;have hq:(Z:Int) / 2=((Z / 2:Nat):Int):=s_
     have hp:Go.bits .xor .u32 ((Z:Int) / 2) 3988292384=((Z / 2 ^^^ Ht:Nat):Int):=by
      rw[hq];exact u32_xor_nat (Z / 2) 3988292384 o_ sD
     clear hq;by_cases h1:Z % 2=1
     ·have hs1:Be Z=Z / 2 ^^^ Ht:=c! h1;have HS1:=Lib.hid hs1;clear hs1;go_wp2;all_goals go_round
      case rel=>exact⟨j+1,o_,by go_num,Vg (by rw[HST.out,HS1.out])⟩
      case measure=>simp[intOf];omega
     ·have hs1:Be Z=Z / 2:=b! h1;have HS1:=Lib.hid hs1;clear hs1 hp;go_wp2;all_goals go_round
      case rel=>exact⟨j+1,o_,by go_num,by rw[HST.out,HS1.out];simp⟩
      case measure=>simp[intOf];omega
    ·obtain rfl:j=8:=o_;go_wp2;go_round;case rel=>exact⟨k+1,o_,by go_num,Vg (by rw[HS.out,HBY.out])⟩
     case measure=>simp[intOf];omega
  ·obtain rfl:k=n:=o_;go_wp2;go_ret;exact⟨aBt (by rw[TB hb,HD.out,hnl.out,gY]),rfl⟩
def CN(c:Nat)(ls:List (o!)):Nat:=ls.foldl more c
def aJu(h:c<4294967296):∀a,CN c a<4294967296:=by
 intro a;induction a generalizing c with
 |nil=>exact h
 |cons x l b=>exact b (S5 h x)
def aDq(c:Nat)(ls:List (o!)):CN c ls=more c ls.flatten:=by
 induction ls generalizing c with
 |nil=>exact(aSa c).symm
 |cons x l a=>rw[E1,aHv,<-a];rfl
def aPa(c:Nat)(ls:List (o!))(x:o!):CN c (ls++[x])=more (CN c ls) x:=by simp[CN]
end
end Go.Proofs.YtmilalkjbojciaaGreat.Crc
namespace Go.Proofs.YtmilalkjbojciaaGreat.Sep
open Go.RowKit Reg
open Mem hiding Rd
def aCl{E:Env}{H:List aG}{A:n!}{n c:Nat}{l:o!}{u:World}(h:eE E H bH A n c l)(hu:St E H u):Mem.Rd DI u u.heap.size A n c l:=by
 have⟨h0,h1,h2,h3⟩:=h u hu;refine⟨h0,h1,h2,?_,λhn=>?_⟩
 ·rw[DI.mH,<-h0]
 ·rcases h3 with h3|⟨ad,e,hc⟩
  ·omega
  ·have hl:0<(bH.cE l).length:=by rw[bH.mH,<-h0];exact Is hn bH.fZ
   have:=I1 _ _ (hc 0 _ (bS hl));exact⟨ad,e,by rwa [Bg] at this,hc⟩
def aLe(E:Env)(s:Nat)(d:s<4294967296)(A:n!)(n c:Nat)(l:o!)(b:Rd E bH A n c l) :
  aF prog E 294 #[.int .u32 s,.slice A n c] [] λe a=>e=.returned (.int .u32 (Crc.more s l:Nat))/\a=[] :=
 aRq λ_ f=>Crc.aKx s d A n c _ l _ (aCl (eE.rd b) f)
def YZ(E:Env)(A:n!)(n c:Nat)(l:List Oc)(f:Rd E kC A n c l)(hi:LX E l) :
  aF prog E 245 #[.slice A n c] [] λe b=>e=.returned (.int .u32 (Crc.sum (l.map (·.b)).flatten:Nat))/\b=[]:=by
 have m:=f.len;have a:=f.cap;have d:n<=9223372036854775807:=by unfold maxLen at a;omega
 refine x_ func245 ntmps245 ?_;refine C.loop (X:=Nat) (λi=>[(3,.int .u32 (Crc.CN 0 ((l.take i).map (·.b)):Nat)),(6,.slice A n c),(7,a! n),(8,a! i)]) (λ_=>[]) (λi=>i<=n) (λi=>n - i) 0 aK aB.refl (bY _) ?_;rintro i G j;by_cases k:i<n
 ·have q:l[i]?=some l[i]:=bS o_;have o:=hi.at_ q;have p:=Crc.aJu (c:=0) sD ((l.take i).map (·.b));have g:Crc.CN 0 ((l.take (i+1)).map (·.b))=Crc.more (Crc.CN 0 ((l.take i).map (·.b))) l[i].b:=by
   rw[rS o_,gP,jL,tI,Crc.aPa]
  generalize l[i]=x at *;refine c_ ?_;refine cU (λM=>aLe M _ p x.A x.n x.c x.b) ?_;rintro e b ⟨rfl,rfl⟩;rw[<-g];refine c_ ?_;exact⟨i+1,aK,aB.refl,o_,o_⟩
 ·obtain rfl:i=n:=o_;have h:Crc.CN 0 ((l.take i).map (·.b))=Crc.sum (l.map (·.b)).flatten:=by
   rw[m,gY,Crc.aDq];rfl
  rw[h];refine c_ ?_;exact aS
def MQ(E:Env)(_g:Nat)(A:n!)(n c:Nat)(l:o!)(f:Rd E bH A n c l)(B:n!)(d:Rd E kC B 1 1 [⟨A,n,c,l⟩]) :
  aF prog E 245 #[.slice B 1 1] [] λe b=>e=.returned (.int .u32 (Crc.sum l:Nat))/\b=[]:=by
 have h:=YZ E B 1 1 _ d (λx a=>by simp at a;subst a;exact f);simpa using h
end Go.Proofs.YtmilalkjbojciaaGreat.Sep
namespace Go.Proofs.YtmilalkjbojciaaGreat.Frm
open Oct
variable{k:Nat}{l:o!}
def fr(b:o!):o!:=be b.length 2++b++be (Crc.sum b) 4++[90]
theorem jO(b:o!):(fr b).length=b.length+7:=by grind [fr,eJ]
def size(l:o!):Nat:=get (l.take 2)
def ok(l:o!):Prop:=2<=l.length/\1<=size l/\size l<=4096/\size l+7<=l.length/\l[size l+6]?=some 90/\get ((l.drop (size l+2)).take 4)=Crc.sum ((l.drop 2).take (size l))
instance (l:o!):Decidable (ok l):=by unfold ok;exact inferInstance
def kJ(l:o!):Option (o!×Nat):=if ok l then some ((l.drop 2).take (size l),size l+7) else none
def FR{x:o!}(h:kJ l=some (x,k)):8<=k/\k<=l.length/\x.length+7=k:=by
 unfold kJ at h;split at h
 ·rename_i c;injection h with h;injection h with a b;subst a b;have⟨a,b,d,e,_⟩:=c;simp;omega
 ·cases h
theorem Nb(e:2<=l.length)(_h1:1<=size l)(i:size l+7<=l.length):(l[size l+6]?=some 90/\get ((l.drop (size l+2)).take 4)=Crc.sum ((l.drop 2).take (size l)))↔fr ((l.drop 2).take (size l))=l.take (size l+7):=by
 have b:((l.drop 2).take (size l)).length=size l:=by simp;omega
 have c:l.take (size l+7)=l.take 2++(l.drop 2).take (size l)++(l.drop (size l+2)).take 4++(l.drop (size l+6)).take 1:=by
  rw[show size l+7=2+size l+4+1 by omega,zO,zO,zO,show 2+size l+4=size l+6 by omega,show 2+size l=size l+2 by omega]
 have d:be (size l) 2=l.take 2:=by
  have:=I9 (l.take 2);rw[dR,nM e] at this;exact this
 have f:((l.drop (size l+2)).take 4).length=4:=by simp;omega
 have g:(l.drop (size l+6)).take 1=[90]↔l[size l+6]?=some 90:=by
  grind [List.drop_eq_getElem_cons,List.getElem?_eq_getElem]
 have a:be (Crc.sum ((l.drop 2).take (size l))) 4=(l.drop (size l+2)).take 4↔get ((l.drop (size l+2)).take 4)=Crc.sum ((l.drop 2).take (size l)):=by
  constructor
  ·intro h;rw[<-h,HI,FA];exact Crc.GC _
  ·grind [I9,size]
 unfold fr;rw[c,b,d,<-g,<-a];constructor
 ·grind
 ·intro h;have j:=List.append_inj' h (by grind);grind [List.append_inj',eJ]
theorem U1{b t:o!}(h:b.length<=4096):size (fr b++t)=b.length:=by
 grind [size,fr,List.take_left',eJ,HI,Nat.mod_eq_of_lt]
def HF{b t:o!}(a:1<=b.length)(h:b.length<=4096):kJ (fr b++t)=some (b,b.length+7):=by
 grind [U1,fr,jO,size,List.drop_left',eJ,List.take_left',ok,Nb,kJ]
def scan:Nat->o!->List (o!)×Nat
 |0,_=>([],0)
 |k+1,l=>match kJ l with
  |none=>([],0)
  |some (x,n)=>(x::(scan k (l.drop n)).1,n+(scan k (l.drop n)).2)
theorem Ki(h:kJ l=none):scan k l=([],0):=by
 cases k with
 |zero=>rfl
 |succ k=>simp[scan,h]
def OL{x:o!}{n:Nat}(h:kJ l=some (x,n)):scan (k+1) l=(x::(scan k (l.drop n)).1,n+(scan k (l.drop n)).2):=by simp[scan,h]
theorem aEy{m:Nat}(d:l.length<=k)(e:l.length<=m):scan k l=scan m l:=by
 induction k generalizing l m with
 |zero =>
  have b:l=[]:=wF o_;subst b;rw[Ki (k:=m) rfl];rfl
 |succ k c =>
  cases a:kJ l with
  |none=>rw[Ki a,Ki a]
  |some r =>
   have⟨x,n⟩:=r;have hb:=FR a;cases m with
   |zero=>omega
   |succ m =>
    have:=c (l:=l.drop n) (m:=m) (by simp;omega) (by simp;omega);rw[OL a,OL a,this]
def iH(l:o!):List (o!):=(scan l.length l).1
def upto(l:o!):Nat:=(scan l.length l).2
def C0(h:kJ l=none):iH l=[]/\upto l=0:=by grind [iH,upto,Ki]
def FW{x:o!}{n:Nat}(h:kJ l=some (x,n)):iH l=x::iH (l.drop n)/\upto l=n+upto (l.drop n):=by
 have hb:=FR h;unfold iH upto;have e:scan l.length l=(x::(scan (l.length - 1) (l.drop n)).1,n+(scan (l.length - 1) (l.drop n)).2):=by
  rw[show l.length=(l.length - 1)+1 by omega];exact OL h
 grind [scan,aEy]
def Ra(l:o!):8*(iH l).length<=l.length:=by
 have b:∀(k:Nat) (l:o!),l.length<=k->8*(iH l).length<=l.length:=by
  intro k
  induction k with
  |zero =>
   intro l d;have c:l=[]:=wF o_;subst c;rw[(C0 (l:=[]) rfl).1];simp
  |succ k e =>
   intro l d;cases a:kJ l with
   |none=>rw[(C0 a).1];simp
   |some r =>
    have⟨x,n⟩:=r;have hb:=FR a;have:=e (l.drop n) (by simp;omega);rw[(FW a).1,gL]
    grind
 exact b _ l (bM _)
def Mk{b:o!}(h:b.length<=4096){z:Nat}(m:k<b.length+7):kJ ((fr b).take k++List.replicate z 0)=none:=by
 unfold kJ;refine b! ?_;rintro⟨i,g,j,l,a,_⟩;have n:((fr b).take k).length=k:=by grind [jO]
 have f:k<=size ((fr b).take k++List.replicate z 0)+6:=by
  by_cases d:2<=k
  ·have e:size ((fr b).take k++List.replicate z 0)=b.length:=by
    have c:=U1 (t:=[]) h;unfold size at c⊢;rw[aY] at c;rw[E6 o_,E8,nM d,c]
   omega
  ·omega
 rw[wG o_,List.getElem?_replicate] at a;split at a
 ·cases a
 ·cases a
def Zr(ls:List (o!))(a:∀x∈ls,1<=x.length/\x.length<=4096)(cut z:Nat)(i:cut<=(ls.map fr).flatten.length) :
  ∃k,k<=ls.length/\iH ((ls.map fr).flatten.take cut++List.replicate z 0)=ls.take k/\((ls.take k).map fr).flatten.length<=cut/\(k<ls.length->cut<((ls.take (k+1)).map fr).flatten.length):=by
 induction ls generalizing cut with
 |nil =>
  refine⟨0,bM _,?_,s_,λh=>i! h s_⟩;have d:kJ (List.replicate z 0)=none:=by
   have:=Mk (b:=[]) (k:=0) (z:=z) s_ s_;simpa using this
  simpa using(C0 d).1
 |cons x ls n =>
  have c:=a x s_;simp only[jL,E1,bR,jO] at i⊢;by_cases l:cut<x.length+7
  ·refine⟨0,bY _,?_,s_,λ_=>by simp[jO];omega⟩;rw[E6 (by grind [jO]),(C0 (Mk c.2 l)).1];rfl
  ·have⟨k,o,f,p,g⟩:=n (λy m=>a y (by simp[m])) (cut - (x.length+7)) o_;have e:(fr x++(ls.map fr).flatten).take cut=fr x++((ls.map fr).flatten).take (cut - (x.length+7)):=by
    grind [List.take_append,List.take_of_length_le,jO]
   refine⟨k+1,by simp;omega,?_,?_,λh=>?_⟩
   ·rw[e,bF];have j:=HF (b:=x) (t:=((ls.map fr).flatten).take (cut - (x.length+7))++List.replicate z 0) c.1 c.2;rw[(FW j).1,rQ (jO x),f];rfl
   ·simp only[E7,jL,E1,bR,jO];omega
   ·have:=g (by grind);rw[E7,jL,E1,bR,jO];omega
end Go.Proofs.YtmilalkjbojciaaGreat.Frm
