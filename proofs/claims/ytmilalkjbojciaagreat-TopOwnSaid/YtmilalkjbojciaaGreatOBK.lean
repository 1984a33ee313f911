/- Part BK: what it needs. No condition. -/
import Derived.Test.YtmilalkjbojciaaGreatOAA
import Derived.Test.YtmilalkjbojciaaGreatOAS
import Derived.Test.YtmilalkjbojciaaGreatOBJ
import Derived.Test.YtmilalkjbojciaaGreatOBB
import Derived.Test.YtmilalkjbojciaaGreatOBG
import Derived.Test.YtmilalkjbojciaaGreatOBI
set_option maxRecDepth 100000
set_option maxHeartbeats 8000000
open Go.Proofs.Tryz
namespace Go.Proofs.YtmilalkjbojciaaGreat.Sep
open Go.RowKit Reg
open Mem hiding Rd
def cA(A B:List aL):Prop:=∀F w,cT A F w→∃F',cT B F' w∧∀b,F' b→F b
section
variable {A B C' A' B':List aL} {E:Env} {H R:List aL}
theorem cA.refl:cA A A:=λF _ h=>⟨F,h,λ_ h=>h⟩
theorem cA.trans(h:cA A B)(k:cA B C'):cA A C':=λF w hs=>by
 obtain⟨F1,h1,h2⟩:=h F w hs;obtain⟨F2,h3,h4⟩:=k F1 w h1;exact⟨F2,h3,λb hb=>h2 b (h4 b hb)⟩
theorem cA.append(h:cA A B)(k:cA A' B'):cA (A++A') (B++B'):=λF w hs=>by
 obtain⟨F1,F2,h1,h2,h3,h4⟩:=aY.1 hs;obtain⟨G1,g1,g2⟩:=h F1 w h3;obtain⟨G2,g3,g4⟩:=k F2 w h4;refine⟨λb=>G1 b∨G2 b,aY.2 ⟨G1,G2,λ_=>aDl,λb hb hg=>h2 b (g2 b hb) (g4 b hg),g1,g3⟩,?_⟩;rintro b (hb|hb)
 ·exact(h1 b).2 (.inl (g2 b hb))
 ·exact(h1 b).2 (.inr (g4 b hb))
theorem cA.cons{x y:aL}(h:cA [x] [y])(k:cA A' B'):cA (x::A') (y::B'):=cA.append h k
theorem cA.aV(h:cS B A R):cA A B:=λF w hs=>by
 obtain⟨F1,F2,h1,h2,h3,h4⟩:=aY.1 (h.cT hs);exact⟨F1,h3,λb hb=>(h1 b).2 (.inl hb)⟩
theorem aB.imp(h:cA A B)(hp:cS A H R):aB E H (B++R):=λw hw =>
 (hw.aV hp).conv λF hs=>by
  obtain⟨F',h1,h2⟩:=(h.append cA.refl) F w hs;exact⟨F',h1,h2⟩
theorem aB.cF(h:cA H R):aB E H R:=λw hw=>hw.conv λF hs=>h F w hs
theorem cA.pack{X:Type}{l:X→List aL}(x:X):cA (l x) [Sep.pack l]:=λF w hs =>
 ⟨F,⟨F,λ_=>False,λb=>by simp,λ_ _ h=>h,⟨x,hs⟩,λ_ h=>h⟩,λ_ h=>h⟩
theorem cA.lH{p:Prop}(hp:p):cA A (iE p::A):=λF w hs =>
 ⟨F,⟨λ_=>False,F,λb=>by simp,λ_ h=>h.elim,⟨hp,λ_ h=>h⟩,hs⟩,λ_ h=>h⟩
theorem cA.one{x y:aL}(h:∀F w,x.holds F w→y.holds F w):cA [x] [y]:=λF _w ⟨F1,F2,h1,h2,h3,h4⟩=>⟨F,⟨F1,F2,h1,h2,h _ _ h3,h4⟩,λ_ h=>h⟩
end
def nI{X:Type}(p:X→Prop)(l:X→List aL):aL:=pack λx=>iE (p x)::l x
section
variable {X:Type} {p:X→Prop} {l:X→List aL} {E:Env} {H R H':List aL} {P:Program} {N:Nat} {F:Nat→Value} {Q:QF}
theorem cA.fp{x:X}(hx:p x):cA (l x) [nI p l]:=(cA.lH hx).trans (cA.pack (l:=λx=>iE (p x)::l x) x)
theorem aB.fp{x:X}(hx:p x)(hp:cS (l x) H R):aB E H (nI p l::R):=aB.imp (cA.fp hx) hp
theorem St.Jn{w:World}(hw:St E H w)(hh:Has (nI p l) H R):∃x,p x∧St E (l x++R) w:=by
 obtain⟨x,hs⟩:=hw.unpack hh;have hp:=St.lH (H:=_) (R:=_) hs Has.aN;refine⟨x,hp,hs.conv λF hst=>?_⟩;obtain⟨F1,F2,k1,k2,k3,k4⟩:=hst;exact⟨F2,k4,λb hb=>(k1 b).2 (.inr hb)⟩
theorem aK.fp{f:FuncId}{args:Array Value}{Qt:Ending→List aL→Prop}(hh:Has (nI p l) H R)(h:∀x,p x→aK P E f args (l x++R) Qt):aK P E f args H Qt:=λhd w hw=>by
 obtain⟨x,hx,hs⟩:=hw.Jn hh;exact h x hx hd w hs
theorem aK.Y1{f:FuncId}{args:Array Value}{Qt:Ending→List aL→Prop}(hh:Has (nI p l) H R)(h:(∃x,p x)→aK P E f args H Qt):aK P E f args H Qt:=λhd w hw=>by
 obtain⟨x,hx,hs⟩:=hw.Jn hh;exact h ⟨x,hx⟩ hd w hw
theorem cA.Z8{p':X→Prop}(h:∀x,p x→p' x):cA [nI p l] [nI p' l]:=cA.one λF w ⟨x,hs⟩=>by
 obtain⟨F1,F2,h1,h2,h3,h4⟩:=hs;exact⟨x,F1,F2,h1,h2,⟨h x h3.1,h3.2⟩,h4⟩
end
theorem aK.beside{P:Program}{E:Env}{f:FuncId}{args:Array Value}{Hp R:List aL}{Q:Ending→List aL→Prop}(h:∀E',Sub E R E'→aK P E' f args Hp Q):aK P E f args (Hp++R) (λe H'=>∃H1,Q e H1∧H'=H1++R):=aK.dU h
theorem cA.I6{X:Type}{f:X→aL}{l m:List X}:cA [aO f l,aO f m] [aO f (l++m)]:=λF w hs=>by
 obtain⟨F1,F2,h1,h2,h3,G1,G2,g1,g2,g3,g4⟩:=hs;refine⟨F,⟨F,λ_=>False,λb=>by simp,λ_ _ h=>h,?_,λ_ h=>h⟩,λ_ h=>h⟩;show cT ((l++m).map f) F w;rw[aBk];refine aY.2 ⟨F1,G1,λb=>?_,λb hb hg=>h2 b hb ((g1 b).2 (.inl hg)),h3,g3⟩;rw[h1 b,g1 b];have:=g4 b;constructor
 ·rintro(h|h|h)
  ·exact .inl h
  ·exact .inr h
  ·exact absurd h this
 ·rintro(h|h)
  ·exact .inl h
  ·exact .inr (.inl h)
abbrev aI(P:List Ov):aL:=aO dM P
def dI(P:List Ov)(g:Nat)(s:Sv):aL:=nI (λos:List Ov=>(∀o∈os,o∈P)∧Gd s) λos=>[aT g s os]
def AT(P:List Ov)(g:Nat)(v:Lg):aL:=nI (λos:List Ov=>(∀o∈os,o∈P)∧Vd v) λos=>[cO g v os]
theorem dI.mk{P:List Ov}{g:Nat}{s:Sv}{os:List Ov}(h:(∀o∈os,o∈P)∧Gd s):cA [aT g s os] [dI P g s]:=cA.fp (X:=List Ov) (p:=λos:List Ov=>(∀o∈os,o∈P)∧Gd s) (l:=λos=>[aT g s os]) (x:=os) h
theorem AT.mk{P:List Ov}{g:Nat}{v:Lg}{os:List Ov}(h:(∀o∈os,o∈P)∧Vd v):cA [cO g v os] [AT P g v]:=cA.fp (X:=List Ov) (p:=λos:List Ov=>(∀o∈os,o∈P)∧Vd v) (l:=λos=>[cO g v os]) (x:=os) h
theorem dI.mono{P Q:List Ov}{g:Nat}{s:Sv}:cA [dI P g s] [dI (P++Q) g s]:=cA.Z8 λ_ h=>⟨λo ho=>aDn _ (h.1 o ho),h.2⟩
theorem Bw.Ws{E E':Env}{R R':List aL}{os P:List Ov}(hE:Sub E R E')(h:Has (aI P) R R')(hs:∀o∈os,o∈P):Bw E' os:=λo ho=>Bw.aO hE h o (hs o ho)
section
variable (E:Env) (P:List Ov) (g:Nat) (s:Sv)
theorem Xt(r:Int):G E 224 [.int .i64 r] [] λe H'=>∃g,e=.returned (pt g)∧H'=[dI P g ⟨Hb,[],dF r 0 3⟩]:=by
 refine aK.post (Wj E r) ?_;rintro e H' ⟨g,rfl,rfl⟩;refine⟨[dI P g ⟨Hb,[],dF r 0 3⟩],aB.cF (dI.mk (os:=[]) ⟨(λ_ h=>(aAk h).elim),Gd.new ?_⟩),g,rfl,rfl⟩;unfold dF;split<;>(try split)<;>omega
theorem qR:G E 89 [pt g] [dI P g s] (cM (.int .i64 s.r) [dI P g s]):=by
 refine aK.fp Has.aN λos hos=>aK.post (vC E g s os) ?_;rintro e H' ⟨rfl,rfl⟩;exact⟨_,aB.cF (dI.mk hos),rfl,rfl⟩
theorem qQ:G E 14 [pt g] [dI P g s] λe H'=>∃g2,e=.returned (pt g2)∧H'=[AT P g2 s.v,dI P g s]:=by
 refine aK.fp Has.aN λos hos=>aK.post (Pp E g s os) ?_;rintro e H' ⟨g2,rfl,rfl⟩;exact⟨[AT P g2 s.v,dI P g s],aB.cF (cA.cons (AT.mk (os:=os) ⟨hos.1,hos.2.v⟩) (dI.mk hos)),g2,rfl,rfl⟩
theorem Ij:G E 139 [pt g] [dI P g s] λe H'=>∃g2,e=.returned (pt g2)∧H'=[dI P g2 s,dI P g s]:=by
 refine aK.fp Has.aN λos hos=>aK.post (Sw E g s os hos.2.np) ?_;rintro e H' ⟨g2,rfl,rfl⟩;exact⟨[dI P g2 s,dI P g s],aB.cF (cA.cons (dI.mk hos) (dI.mk hos)),g2,rfl,rfl⟩
theorem Vh:G E 79 [pt g] [dI P g s] (cM (.bool s.quiet) [dI P g s]):=by
 refine aK.fp Has.aN λos hos=>aK.post (Sb E g s os) ?_;rintro e H' ⟨rfl,rfl⟩;exact⟨_,aB.cF (dI.mk hos),rfl,rfl⟩
theorem T3(c:aX):G E 31 [pt g,.agg c.cs.toArray] [dI P g s] (cM (.tuple #[.agg (s.make c).1.cs.toArray,.int .i64 (s.make c).2]) [dI P g s]):=by
 refine aK.fp Has.aN λos hos=>aK.post (WN E g s os c) ?_;rintro e H' ⟨rfl,rfl⟩;exact⟨_,aB.cF (dI.mk hos),rfl,rfl⟩
def Sv.ready(s:Sv)(cf:fU)(now:Int):List dK:=jP (fL s.r cf now) s.ps s.ps.length
theorem Vv(cf:fU)(now:Int):G E 180 [pt g,.agg cf.cs.toArray,.int .i64 now] [dI P g s] λe H'=>∃O oc,e=.returned (.slice O (s.ready cf now).length oc)∧H'=[own cP O (s.ready cf now).length oc (s.ready cf now),dI P g s]:=by
 refine aK.fp Has.aN λos hos=>aK.post (Sc E g s os hos.2.np cf now) ?_;rintro e H' ⟨O,oc,rfl,rfl⟩;exact⟨[own cP O (s.ready cf now).length oc (s.ready cf now),dI P g s],aB.cF (cA.cons cA.refl (dI.mk hos)),O,oc,rfl,rfl⟩
theorem Kn:G E 32 [pt g] [dI P g s] λe H'=>∃O oc chl,O9 s.r s.ps chl∧e=.returned (.slice O s.ps.length oc)∧H'=[own pZ O s.ps.length oc chl,aO mV chl,dI P g s]:=by
 refine aK.fp Has.aN λos hos=>aK.post (GO E g s os hos.2.np) ?_;rintro e H' ⟨O,oc,chl,h1,rfl,rfl⟩;exact⟨[own pZ O s.ps.length oc chl,aO mV chl,dI P g s],aB.cF (cA.cons cA.refl (cA.cons cA.refl (dI.mk hos))),O,oc,chl,h1,rfl,rfl⟩
theorem SV:G E 27 [pt g] [dI P g s] λe H'=>∃A n c,(n≤1000000∧n≤c∧c≤maxLen)∧e=.returned (.slice A n c)∧H'=[own aU A n c (fJ s),dI P g s]:=by
 refine aK.fp Has.aN λos hos=>aK.post (CP E g s os hos.2.np hos.2.rep.1) ?_;rintro e H' ⟨A,n,c,h,rfl,rfl⟩;exact⟨[own aU A n c (fJ s),dI P g s],aB.cF (cA.cons cA.refl (dI.mk hos)),A,n,c,h,rfl,rfl⟩
theorem YN(P2:List Ov)(g2:Nat)(s2:Sv):G E 33 [pt g,pt g2] [dI P g s,dI P2 g2 s2] (cM (.bool (decide (s.r=s2.r)&&decide (fJ s=fJ s2))) [dI P g s,dI P2 g2 s2]):=by
 refine aK.fp Has.aN λos hos=>?_;refine aK.fp (Has.aM Has.aN) λos2 hos2=>?_;refine aK.conv (aB.aV (l:=[aT g s os,aT g2 s2 os2]) (.cons (.aM .aN) (.cons .aN .nil))) ?_;refine aK.post (Xc E g s os g2 s2 os2 hos.2.np hos.2.rep.1 hos2.2.np hos2.2.rep.1) ?_;rintro e H' ⟨rfl,rfl⟩;exact⟨[dI P g s,dI P2 g2 s2],aB.cF (cA.cons (dI.mk hos) (dI.mk hos2)),rfl,rfl⟩
theorem Sz(x:Rc)(hx:x.ok):G E 191 [pt g,.agg x.r.cs.toArray] [dI P g s,aI P] λe H'=>∃Q,e=.returned (.int .i64 (s.doc x).2)∧H'=[dI (P++Q) g (s.doc x).1,aI (P++Q)]:=by
 refine aK.fp Has.aN λos hos=>?_;refine aK.post (aK.dU (Hp:=[aT g s os]) (R:=[aI P]) λE' hE=>Xz E' g s os (Bw.Ws hE Has.aN hos.1) hos.2.np x hx) ?_;rintro e H' ⟨H1,⟨new,rfl,rfl⟩,rfl⟩;refine⟨[dI (P++new) g (s.doc x).1,aI (P++new)],aB.cF (cA.append (A:=[aT g (s.doc x).1 (os++new)]) (B:=[dI (P++new) g (s.doc x).1]) (dI.mk (os:=os++new) ⟨λo ho=>?_,hos.2.doc hx⟩) ?_),new,rfl,rfl⟩
 ·rcases aBg.1 ho with ho|ho
  ·exact aDn _ (hos.1 o ho)
  ·exact aCp _ ho
 ·exact(cA.aV (.cons (.aM .aN) (.cons .aN .nil))).trans cA.I6
theorem XS(i:Nat)(made:Int)(A:Option Addr)(m c:Nat)(l:List bH)(hr:Rd E fH A m c l)(hm:m≤1000000)(hlo:∀e∈l,e.ok)(hg:Gd (s.load ⟨s.r,((i+1:Nat):Int)⟩ made l).1) :
  G E 329 [pt g,.agg #[.int .i64 s.r,.int .i64 ((i+1:Nat):Int),.int .i64 made,.slice A m c]] [dI P g s] (cM (.bool (s.load ⟨s.r,((i+1:Nat):Int)⟩ made l).2) [dI P g (s.load ⟨s.r,((i+1:Nat):Int)⟩ made l).1]):=by
 refine aK.fp Has.aN λos hos=>aK.post (WB E g s os hos.2.np ⟨s.r,((i+1:Nat):Int)⟩ made A m c l hr hm hlo) ?_;rintro e H' ⟨rfl,rfl⟩;exact⟨_,aB.cF (dI.mk (os:=os) ⟨hos.1,hg⟩),rfl,rfl⟩
end
section
variable (E:Env) (P:List Ov) (g:Nat) (v:Lg)
theorem iV:G E 16 [pt g] [AT P g v] λe H'=>∃B k,(v.l.length≤k∧k≤maxLen)∧e=.returned (.slice B v.l.length k)∧H'=[own bE B v.l.length k v.l,AT P g v]:=by
 refine aK.fp Has.aN λos hos=>aK.post (uB E g v os) ?_;rintro e H' ⟨B,k,h,rfl,rfl⟩;exact⟨[own bE B v.l.length k v.l,AT P g v],aB.cF (cA.cons cA.refl (AT.mk hos)),B,k,h,rfl,rfl⟩
theorem IZ:G E 40 [pt g] [AT P g v] λe H'=>∃B k,(v.t.length≤k∧k≤maxLen)∧e=.returned (.slice B v.t.length k)∧H'=[own bE B v.t.length k v.t,AT P g v]:=by
 refine aK.fp Has.aN λos hos=>aK.post (pJ E g v os) ?_;rintro e H' ⟨B,k,h,rfl,rfl⟩;exact⟨[own bE B v.t.length k v.t,AT P g v],aB.cF (cA.cons cA.refl (AT.mk hos)),B,k,h,rfl,rfl⟩
theorem Uk:G E 96 [pt g] [AT P g v] (cM (.agg (L0 (v.l++v.t)).cs.toArray) [AT P g v]):=by
 refine aK.fp Has.aN λos hos=>aK.post (KS E g v os) ?_;rintro e H' ⟨rfl,rfl⟩;exact⟨_,aB.cF (AT.mk hos),rfl,rfl⟩
theorem Ub:G E 115 [pt g] [AT P g v] (cM (.tuple #[.agg ((v.t[0]?).getD dO).id.cs.toArray,.bool (!v.t.isEmpty)]) [AT P g v]):=by
 refine aK.fp Has.aN λos hos=>aK.post (R5 E g v os) ?_;rintro e H' ⟨rfl,rfl⟩;exact⟨_,aB.cF (AT.mk hos),rfl,rfl⟩
theorem yL(a:bJ):G E 110 [pt g,.agg a.cs.toArray] [AT P g v,aI P] λe H'=>∃o:Ov,o.d=(cE v a).1∧e=.returned (.tuple #[.agg o.cs.toArray,.bool (cE v a).2.1,.bool (cE v a).2.2])∧H'=[dM o,AT P g v,aI P]:=by
 refine aK.fp Has.aN λos hos=>?_;refine aK.post (aK.dU (Hp:=[cO g v os]) (R:=[aI P]) λE' hE=>Dw E' g v os (Bw.Ws hE Has.aN hos.1) a) ?_;rintro e H' ⟨H1,⟨o,h,rfl,rfl⟩,rfl⟩;exact⟨[dM o,AT P g v,aI P],aB.cF (cA.cons cA.refl (cA.append (A:=[cO g v os]) (B:=[AT P g v]) (AT.mk hos) cA.refl)),o,h,rfl,rfl⟩
end
def OM(z:LS)(k:Int)(w:WL):Prop:=w.ok∧w.s=z∧w.wr≤k
def iB(g gd:Nat)(z:LS)(k:Int):aL:=nI (OM z k) (Es g gd)
structure Ys where
 wr:Int
 A:Option Addr
 c:Nat
 l:List AR
structure Yy(z:LS)(k:Int)(x:Ys):Prop where
 d:flat x.l=z.D
 n:x.l.length=2*z.N+1
 n0:1≤z.N
 n1:z.N≤64
 w0:0≤x.wr
 w1:x.wr≤k
def WH(gd:Nat)(z:LS)(x:Ys):List aL:=zK gd true z.dead z.aG x.wr x.A (2*z.N+1) x.c x.l
def kJ(gd:Nat)(z:LS)(k:Int):aL:=nI (Yy z k) (WH gd z)
theorem iB.mk{g gd:Nat}{z:LS}{k:Int}{w:WL}(h:OM z k w):cA (Es g gd w) [iB g gd z k]:=cA.fp (X:=WL) (p:=OM z k) (l:=Es g gd) (x:=w) h
theorem kJ.mk{gd:Nat}{z:LS}{k:Int}{x:Ys}(h:Yy z k x):cA (WH gd z x) [kJ gd z k]:=cA.fp (X:=Ys) (p:=Yy z k) (l:=WH gd z) (x:=x) h
theorem iB.mono{g gd:Nat}{z:LS}{k k':Int}(h:k≤k'):cA [iB g gd z k] [iB g gd z k']:=cA.Z8 λ_ hx=>⟨hx.1,hx.2.1,Int.le_trans hx.2.2 h⟩
theorem kJ.mono{gd:Nat}{z:LS}{k k':Int}(h:k≤k'):cA [kJ gd z k] [kJ gd z k']:=cA.Z8 λ_ hx=>⟨hx.d,hx.n,hx.n0,hx.n1,hx.w0,Int.le_trans hx.w1 h⟩
theorem WL.ok.dk{w:WL}{z:LS}{k:Int}(h:OM z k w):Yy z k ⟨w.wr,w.A,w.c,w.jM⟩:=by
 obtain⟨h1,rfl,h3⟩:=h;exact⟨rfl,by have:=h1.hk;have:=h1.len;show w.jM.length=2*w.N+1;omega,h1.n0,h1.n1,h1.w0,h3⟩
theorem V2{g gd:Nat}{w:WL}{z:LS}{k:Int}(h:OM z k w):cA (Es g gd w) (WH gd z ⟨w.wr,w.A,w.c,w.jM⟩):=by
 obtain⟨h1,rfl,h3⟩:=h;have e:w.k=2*w.s.N+1:=h1.len;unfold WH;show cA (Es g gd w) [Cy gd true w.dead w.aG w.wr w.A (2*w.s.N+1) w.c,own sH w.A (2*w.s.N+1) w.c w.jM];rw[←e];exact cA.aV (.cons (.aM (.aM (.aM (.aM .aN)))) (.cons (.aM (.aM (.aM (.aM .aN)))) .nil))
theorem iB.down{g gd:Nat}{z:LS}{k:Int}{A:List aL}:cA (iB g gd z k::A) (kJ gd z k::A):=cA.cons (λF w hs=>by
 obtain⟨F1,F2,h1,h2,⟨x,h3⟩,h4⟩:=hs;obtain⟨G1,G2,g1,g2,g3,g4⟩:=h3;obtain⟨F',k1,k2⟩:=(V2 (gd:=gd) (g:=g) g3.1).trans (kJ.mk (gd:=gd) (WL.ok.dk g3.1)) G2 w g4;exact⟨F',k1,λb hb=>(h1 b).2 (.inl ((g1 b).2 (.inr (k2 b hb))))⟩) cA.refl
section
variable (E:Env) (g gd:Nat) (z:LS) (k:Int)
theorem pA.conv{w:WL}{r:Int×LS}{K:Int}{e:Ending}{H':List aL}(hk:w.wr≤k)(h:pA g gd w r K e H'):∃H2,aB E H' H2∧cM (.int .i64 r.1) [iB g gd r.2 (k+K)] e H2:=by
 obtain⟨w',rfl,h1,h2,h3,_,rfl⟩:=h;exact⟨_,aB.cF (iB.mk ⟨h1,h2,by omega⟩),rfl,rfl⟩
theorem So(hm:z.bF.length≤10000)(X:Option Addr)(nx cx:Nat)(b:List UInt8)(hr:Rd E aU X nx cx b):G E 229 [pt g,.slice X nx cx] [iB g gd z k] (cM (.int .i64 (z.append b).1) [iB g gd (z.append b).2 k]):=by
 refine aK.fp Has.aN λw hw=>?_;rw[aAc];obtain⟨h1,rfl,h3⟩:=hw;have hml:w.m=w.s.bF.length:=by rw[h1.hm];show _=(w.bF.map (·.b)).length;rw[aAw]
 refine aK.post (RK E g gd w h1 o_ X nx cx b hr) λe H' h=>?_;have:=pA.conv E g gd k h3 h;rw[Int.add_zero] at this;exact this
theorem async(hk:k≤10000000000000):G E 112 [pt g] [iB g gd z k] (cM (.int .i64 z.sync.1) [iB g gd z.sync.2 (k+2048)]):=by
 refine aK.fp Has.aN λw hw=>?_;rw[aAc];obtain⟨h1,rfl,h3⟩:=hw;exact aK.post (XX E g gd w h1 o_) λe H' h=>pA.conv E g gd k h3 h
theorem Wq(hk:k≤10000000000000)(X:Option Addr)(nx cx:Nat)(b:List UInt8)(hr:Rd E aU X nx cx b):G E 192 [pt g,.slice X nx cx] [iB g gd z k] (cM (.int .i64 (z.swap b).1) [iB g gd (z.swap b).2 (k+4128)]):=by
 refine aK.fp Has.aN λw hw=>?_;rw[aAc];obtain⟨h1,rfl,h3⟩:=hw;exact aK.post (W5 E g gd w h1 o_ X nx cx b hr) λe H' h=>pA.conv E g gd k h3 h
theorem QM:G E 225 [pt g] [iB g gd z k] λe H'=>∃O oc xs,xs.map Oc.b=z.bF∧(∀x∈xs,x.n=x.b.length∧x.b.length≤4096)∧z.bF.length≤100000∧e=.returned (.slice O z.bF.length oc)∧H'=[own vQ O z.bF.length oc xs,aO uL xs,iB g gd z k]:=by
 refine aK.fp Has.aN λw hw=>?_;rw[aAc];have hw2:=hw;obtain⟨h1,rfl,h3⟩:=hw2;have hml:w.m=w.s.bF.length:=by rw[h1.hm];show _=(w.bF.map (·.b)).length;rw[aAw]
 refine aK.post (aK.dU (Hp:=[Mk g gd w,own vQ w.R w.m w.rc w.bF,aO uL w.bF]) (R:=[own aU w.P w.p w.pc w.cG,Cy gd true w.dead w.aG w.wr w.A w.k w.c,own sH w.A w.k w.c w.jM]) λE' _=>PH E' g gd w h1) ?_;rintro e H' ⟨H1,⟨O,oc,xs,rfl,k1,k2,k3,k4,rfl⟩,rfl⟩;rw[hml];refine⟨[own vQ O w.s.bF.length oc xs,aO uL xs,iB g gd w.s k],aB.cF ?_,O,oc,xs,k2,k4,by have:=h1.bF;omega,rfl,rfl⟩;rw[←hml];exact cA.cons cA.refl (cA.cons cA.refl (iB.mk hw))
theorem Xy(hd:z.dead=false)(ha:z.aG = -1)(hk:k≤10000000000000):G E 167 [pt gd] [kJ gd z k] λe H'=>∃g,e=.returned (.tuple #[pt g,.bool true])∧H'=[iB g gd (LS.open z.N z.D (-1)) (k+2048)]:=by
 refine aK.fp Has.aN λx hx=>?_;rw[aAc];unfold WH;rw[hd,ha];have h1:=hx.w1;refine aK.post (Xu E gd z.N (-1) x.wr x.A (2*z.N+1) x.c x.l hx.n.symm rfl hx.n0 hx.n1 o_ o_ hx.w0 o_ (ND _ _)) ?_;rintro e H' ⟨g,w,rfl,k1,k2,k3,k4,rfl⟩;rw[hx.d] at k2;exact⟨_,aB.cF (iB.mk ⟨k1,k2,by omega⟩),g,rfl,rfl⟩
def LS.oD(s:LS):LS:=⟨s.N,s.D,s.bF,s.kE,s.pos,s.cG,false,-1⟩
theorem EL:G E 141 [pt gd] [kJ gd z k] (cM (.tuple #[]) [kJ gd z.oD k]):=by
 refine aK.fp Has.aN λx hx=>?_;rw[aAc];refine aK.post (aK.dU (Hp:=[Cy gd true z.dead z.aG x.wr x.A (2*z.N+1) x.c]) (R:=[own sH x.A (2*z.N+1) x.c x.l]) λE' _=>Ic E' gd z.dead z.aG x.wr x.A (2*z.N+1) x.c) ?_;rintro e H' ⟨H1,⟨rfl,rfl⟩,rfl⟩;exact⟨_,aB.cF (kJ.mk (z:=z.oD) (x:=x) ⟨hx.d,hx.n,hx.n0,hx.n1,hx.w0,hx.w1⟩),rfl,rfl⟩
theorem Vm:G E 140 [pt gd] [kJ gd z k] λe H'=>∃g',e=.returned (pt g')∧H'=[kJ g' z k,kJ gd z k]:=by
 refine aK.fp Has.aN λx hx=>?_;rw[aAc];have h1:=hx.n1;refine aK.post (Bi E gd z.dead z.aG x.wr x.A (2*z.N+1) x.c x.l o_) ?_;rintro e H' ⟨g',A',c',rfl,rfl⟩;refine⟨[kJ g' z k,kJ gd z k],aB.cF (cA.append (A:=zK g' true z.dead z.aG x.wr A' (2*z.N+1) c' x.l) (B:=[kJ g' z k]) (kJ.mk (x:=⟨x.wr,A',c',x.l⟩) ⟨hx.d,hx.n,hx.n0,hx.n1,hx.w0,hx.w1⟩) (kJ.mk (x:=x) hx)),g',rfl,rfl⟩
theorem NF:G E 140 [pt gd] [iB g gd z k] λe H'=>∃g',e=.returned (pt g')∧H'=[kJ g' z k,iB g gd z k]:=by
 refine aK.fp Has.aN λw hw=>?_;rw[aAc];have hw2:=hw;obtain⟨h1,rfl,h3⟩:=hw2;have n1:=h1.n1;have hl:=h1.len;have hdk:=WL.ok.dk hw;refine aK.conv (aB.aV (l:=zK gd true w.dead w.aG w.wr w.A w.k w.c w.jM++[Mk g gd w,own vQ w.R w.m w.rc w.bF,aO uL w.bF,own aU w.P w.p w.pc w.cG]) (.cons (.aM (.aM (.aM (.aM .aN)))) (.cons (.aM (.aM (.aM (.aM .aN)))) (.cons .aN (.cons .aN (.cons .aN (.cons .aN .nil))))))) ?_;refine aK.post (aK.dU λE' _=>Bi E' gd w.dead w.aG w.wr w.A w.k w.c w.jM o_) ?_;rintro e H' ⟨H1,⟨g',A',c',rfl,rfl⟩,rfl⟩;refine⟨[kJ g' w.s k,iB g gd w.s k],aB.cF (cA.append (A:=zK g' true w.dead w.aG w.wr A' w.k c' w.jM) (B:=[kJ g' w.s k]) ?_ ?_),g',rfl,rfl⟩
 ·have:=kJ.mk (gd:=g') (z:=w.s) (k:=k) (x:=⟨w.wr,A',c',w.jM⟩) ⟨hdk.d,hdk.n,hdk.n0,hdk.n1,hdk.w0,hdk.w1⟩;unfold WH at this;rw[show 2*w.s.N+1=w.k from hl.symm] at this;exact this
 ·exact(cA.aV (B:=Es g gd w) (.cons (.aM (.aM .aN)) (.cons (.aM (.aM .aN)) (.cons (.aM (.aM .aN)) (.cons (.aM (.aM .aN)) (.cons .aN (.cons .aN .nil))))))).trans (iB.mk hw)
def LS.Tm(s:LS)(k:Int):LS:=⟨s.N,s.D,s.bF,s.kE,s.pos,s.cG,s.dead,if s.dead then s.aG else max k (-1)⟩
theorem ZI(q:Int)(hq:q≤9223372036854775807):G E 193 [pt gd,.int .i64 q] [iB g gd z k] (cM (.tuple #[]) [iB g gd (z.Tm q) k]):=by
 refine aK.fp Has.aN λw hw=>?_;rw[aAc];obtain⟨h1,rfl,h3⟩:=hw;refine aK.conv (aB.aV (l:=[Cy gd true w.dead w.aG w.wr w.A w.k w.c]++[Mk g gd w,own vQ w.R w.m w.rc w.bF,aO uL w.bF,own aU w.P w.p w.pc w.cG,own sH w.A w.k w.c w.jM]) (.cons (.aM (.aM (.aM (.aM .aN)))) (.cons .aN (.cons .aN (.cons .aN (.cons .aN (.cons .aN .nil))))))) ?_;refine aK.post (aK.dU λE' _=>SX E' gd w.dead w.aG w.wr w.A w.k w.c q) ?_;rintro e H' ⟨H1,⟨rfl,rfl⟩,rfl⟩;have a0:=h1.a0;have a1:=h1.a1;have hok:WL.ok { w with aG:=if w.dead then w.aG else max q (-1) }:=⟨h1.hm,h1.hp,h1.hk,h1.n0,h1.n1,h1.len,by dsimp only;split<;>omega,by dsimp only;split<;>omega,h1.w0,h1.fit,h1.bF,h1.kE,h1.wide⟩
 exact⟨_,aB.cF ((cA.aV (B:=Es g gd { w with aG:=if w.dead then w.aG else max q (-1) }) (.cons (.aM .aN) (.cons (.aM .aN) (.cons (.aM .aN) (.cons (.aM .aN) (.cons .aN (.cons .aN .nil))))))).trans (iB.mk ⟨hok,rfl,h3⟩)),rfl,rfl⟩
theorem ZT(n:Int)(N:Nat)(hn:(2*N+1:Int)=n)(h0:1≤N)(h1:N≤64):G E 106 [.int .i64 n] [] λe H'=>∃gd,e=.returned (pt gd)∧H'=[kJ gd (LS.new N) 0]:=by
 refine aK.post (Pm E n (2*N+1) (by rw[←hn,if_neg o_,if_neg o_];omega)) ?_;rintro e H' ⟨gd,g2,rfl,rfl⟩;have hf:=Iz (2*N+1);refine⟨[kJ gd (LS.new N) 0],aB.cF (kJ.mk (z:=LS.new N) (x:=⟨0,some ⟨g2,0,none⟩,2*N+1,List.replicate (2*N+1) Ek⟩) ⟨hf,aAz,h0,h1,aCd _,aCd _⟩),gd,rfl,rfl⟩
end
end Go.Proofs.YtmilalkjbojciaaGreat.Sep
