/- Part AV: what it needs. No condition. -/
import Derived.Test.YtmilalkjbojciaaGreatRAA
import Derived.Test.YtmilalkjbojciaaGreatRAT
import Derived.Test.YtmilalkjbojciaaGreatRAQ
import Derived.Test.YtmilalkjbojciaaGreatRAU
import Derived.Test.YtmilalkjbojciaaGreatRAK
import Derived.Test.YtmilalkjbojciaaGreatRAG
import Derived.Test.YtmilalkjbojciaaGreatRAN
import Derived.Test.YtmilalkjbojciaaGreatRAE
set_option maxRecDepth 100000
set_option maxHeartbeats 8000000
open Go.Proofs.Tryz
namespace Go.Proofs.YtmilalkjbojciaaGreat.Sep
open Go.RowKit Reg
open Mem hiding Rd
theorem Om(E:Env)(e:bH):G E 91 [.agg e.cs.toArray] [] λr H'=>∃A' n' c',n'≤27∧r=.returned (.slice A' n' c')∧H'=[own aU A' n' c' (Gs e)]:=by
 unfold Gs;cases hm:e.may with
 |true=>exact aK.mono (J2 E e hm) λr H' ⟨A',c',h1,h2⟩=>⟨A',27,c',aAf _,h1,h2⟩
 |false=>exact aK.post (Jx E e hm) λr H' ⟨h1,h2⟩=>⟨[own aU none 0 0 []],by rw[h2];exact aB.nil aU,none,0,0,by omega,h1,rfl⟩
theorem oU{X:Type}{l:List X}{i:Nat}{x:X}(h:l[i]?=some x):l=(l.eraseIdx i).take i++x::(l.eraseIdx i).drop i:=by
 rw[←uO (aAd.1 h).1,mN h]
section
variable (E:Env) (g:Nat) (s:Sv) (os:List Ov)
theorem CP(hps:s.ps.length≤48)(hr0:0≤s.r):G E 27 [pt g] [aT g s os] λe H'=>∃A n c,(n≤1000000∧n≤c∧c≤maxLen)∧e=.returned (.slice A n c)∧H'=[own aU A n c (fJ s),aT g s os]:=by
 have hmax:=fX;have mC:=λM=>Pp M g s os;have rep:=λM=>vC M g s os;have iS:=λM=>GO M g s os hps;unfold fJ;generalize hb0:AU s.v.l++AU s.v.t=b0;refine t_ func27 ntmps27 ?_;repeat first|refine v_ ?_|intro
 refine bK rep ?_;repeat first|refine v_ ?_|intro
 refine bW mC ?_;rintro e H' ⟨g2,rfl,rfl⟩;repeat first|refine v_ ?_|intro
 refine bW (λM=>uB M g2 s.v os) ?_;rintro e H' ⟨B,k,hk,rfl,rfl⟩;repeat first|refine v_ ?_|intro
 refine L.conv (aB.nil aU) ?_;refine cl sD sK aC (λM hE=>DV M none 0 0 [] o_ B _ k s.v.l dB) ?_;rintro e H' ⟨A1,n1,c1,⟨h1,h2,h3⟩,rfl,rfl⟩;repeat first|refine v_ ?_|intro
 refine bW (λM=>pJ M g2 s.v os) ?_;rintro e H' ⟨B2,k2,hk2,rfl,rfl⟩;repeat first|refine v_ ?_|intro
 refine cl sD sK aC (λM hE=>DV M A1 n1 c1 _ o_ B2 _ k2 s.v.t dB) ?_;rintro e H' ⟨A2,n2,c2,⟨h4,h5,h6⟩,rfl,rfl⟩;rw[aBq,hb0];repeat first|refine v_ ?_|intro
 refine bW iS ?_;rintro e H' ⟨O,oc,chl,hc,rfl,rfl⟩;repeat first|refine v_ ?_|intro
 obtain⟨hcl,hok,hat⟩:=hc;refine C.scan (Y:=Option Addr×Nat×Nat) hcl.symm (λi y=>[(4,.slice y.1 y.2.1 y.2.2),(21,.slice O s.ps.length oc),(22,.int .i64 s.ps.length),(23,.int .i64 i)]) (λi y=>[own aU y.1 y.2.1 y.2.2 (b0++(s.ps.take i).flatMap NM),own pZ O s.ps.length oc chl,aO mV chl,aT g s os])
  (λi y=>y.2.1≤2114+6887*i∧y.2.1≤y.2.2∧y.2.2≤maxLen) (A2,n2,c2) aD (by dsimp only;rw[aCg,aEu,aAc];exact aA) ⟨by dsimp only;omega,h5,h6⟩ ?_ ?_
 ·rintro i ⟨A,n,c⟩ x G hi hx ⟨k1,k2,k3⟩;dsimp only at k1 k2 k3⊢;have hs:s.ps[i]?=some s.ps[i]:=aAa hi;obtain⟨v,q1,q2,q3,q4,q4n,q5,q6⟩:=hat i _ hs;rw[hx] at q1;injection q1 with q1
  subst q1;have hso:=hok _ (aAi hs);rw[Dy hs,←aAb];generalize s.ps[i]=p at *;generalize b0++(s.ps.take i).flatMap NM=b;obtain⟨id,made,X,m,d,l⟩:=x;dsimp only at q2 q3 q4 q4n q5 q6;subst q3 q4 q4n;have hl1:=hso.len;have hl2:=hso.tS;have hl3:=hso.nK;have hlm:p.l.length≤maxLen:=o_;rw[show b++NM p=b++[UInt8.ofNat p.made.toNat,UInt8.ofNat p.l.length]++p.l.flatMap Gs from(aAb ..).symm];repeat first|refine v_ ?_|intro
  rename_i gx gs A0 c0 h4 h5;rw[show(p.made % 256).toNat=p.made.toNat by omega,show(((p.l.length:Nat):Int) % 256).toNat=p.l.length by omega];generalize hb1:b++[UInt8.ofNat p.made.toNat,UInt8.ofNat p.l.length]=b1;refine C.conv (aB.out (f:=mV) (l:=chl) aS hx) ?_;refine C.scan (Y:=Option Addr×Nat×Nat) (l:=p.l) rfl (λj y=>[(4,.slice y.1 y.2.1 y.2.2),(21,.slice O s.ps.length oc),(22,.int .i64 s.ps.length),(23,.int .i64 i),(38,.slice X p.l.length d),(39,.int .i64 p.l.length),(40,.int .i64 j)])
   (λj y=>[own aU y.1 y.2.1 y.2.2 (b1++(p.l.take j).flatMap Gs),own fH X p.l.length d p.l,own pZ O s.ps.length oc chl,aO mV (chl.eraseIdx i),aT g s os])
   (λj y=>y.2.1≤2114+6887*i+2+27*j∧y.2.1≤y.2.2∧y.2.2≤maxLen) (A0,n+2,c0) aD (by dsimp only;rw[aCg,aEu,aAc];exact aA) ⟨by dsimp only;omega,h4,h5⟩ ?_ ?_
  ·rintro j ⟨A3,n3,c3⟩ e G hj he ⟨q1,q2,q3⟩;dsimp only at q1 q2 q3⊢;repeat first|refine v_ ?_|intro
   refine bW (λM=>Om M e) ?_;rintro r H' ⟨O2,n4,c4,h7,rfl,rfl⟩;repeat first|refine v_ ?_|intro
   rename_i A5 c5 h8 h9;exact⟨(A5,n3+n4,c5),aD,(by dsimp only;rw[Dy he,←aAb];exact aA),⟨by dsimp only;omega,h8,h9⟩⟩
  ·rintro⟨A3,n3,c3⟩ G ⟨q1,q2,q3⟩;dsimp only at q1 q2 q3⊢;rw[aAo];repeat first|refine v_ ?_|intro
   refine⟨(A3,n3,c3),aD,aB.trans (aB.BH (f:=mV) (l:=chl.eraseIdx i) (l':=chl) aC (oU hx)) aA,⟨by dsimp only;omega,q2,q3⟩⟩
 ·rintro⟨A,n,c⟩ G ⟨k1,k2,k3⟩;dsimp only at k1 k2 k3⊢;rw[aAj o_];repeat first|refine v_ ?_|intro
  exact aR rfl aF aA (⟨_,_,_,⟨by omega,k2,k3⟩,rfl,rfl⟩)
end
def cA(A B:List aL):Prop:=∀F w,cT A F w→∃F',cT B F' w∧∀b,F' b→F b
section
variable {A B C' A' B':List aL} {E:Env} {H R:List aL}
theorem cA.refl:cA A A:=λF _ h=>⟨F,h,λ_ h=>h⟩
theorem cA.trans(h:cA A B)(k:cA B C'):cA A C':=λF w hs=>by
 obtain⟨F1,h1,h2⟩:=h F w hs;obtain⟨F2,h3,h4⟩:=k F1 w h1;exact⟨F2,h3,λb hb=>h2 b (h4 b hb)⟩
theorem cA.append(h:cA A B)(k:cA A' B'):cA (A++A') (B++B'):=λF w hs=>by
 obtain⟨F1,F2,h1,h2,h3,h4⟩:=aY.1 hs;obtain⟨G1,g1,g2⟩:=h F1 w h3;obtain⟨G2,g3,g4⟩:=k F2 w h4;refine⟨λb=>G1 b∨G2 b,aY.2 ⟨G1,G2,λ_=>aDl,λb hb hg=>h2 b (g2 b hb) (g4 b hg),g1,g3⟩,?_⟩;rintro b (hb|hb)
 ·exact(h1 b).2 (.inl (g2 b hb))
 ·exact(h1 b).2 (.inr (g4 b hb))
theorem cA.cons{x y:aL}(h:cA [x] [y])(k:cA A' B'):cA (x::A') (y::B'):=cA.append h k
theorem cA.aV(h:cS B A R):cA A B:=λF w hs=>by
 obtain⟨F1,F2,h1,h2,h3,h4⟩:=aY.1 (h.cT hs);exact⟨F1,h3,λb hb=>(h1 b).2 (.inl hb)⟩
theorem aB.imp(h:cA A B)(hp:cS A H R):aB E H (B++R):=λw hw =>
 (hw.aV hp).conv λF hs=>by
  obtain⟨F',h1,h2⟩:=(h.append cA.refl) F w hs;exact⟨F',h1,h2⟩
theorem aB.cF(h:cA H R):aB E H R:=λw hw=>hw.conv λF hs=>h F w hs
theorem cA.pack{X:Type}{l:X→List aL}(x:X):cA (l x) [Sep.pack l]:=λF w hs =>
 ⟨F,⟨F,λ_=>False,λb=>by simp,λ_ _ h=>h,⟨x,hs⟩,λ_ h=>h⟩,λ_ h=>h⟩
theorem cA.lH{p:Prop}(hp:p):cA A (iE p::A):=λF w hs =>
 ⟨F,⟨λ_=>False,F,λb=>by simp,λ_ h=>h.elim,⟨hp,λ_ h=>h⟩,hs⟩,λ_ h=>h⟩
theorem cA.one{x y:aL}(h:∀F w,x.holds F w→y.holds F w):cA [x] [y]:=λF _w ⟨F1,F2,h1,h2,h3,h4⟩=>⟨F,⟨F1,F2,h1,h2,h _ _ h3,h4⟩,λ_ h=>h⟩
end
def nI{X:Type}(p:X→Prop)(l:X→List aL):aL:=pack λx=>iE (p x)::l x
section
variable {X:Type} {p:X→Prop} {l:X→List aL} {E:Env} {H R H':List aL} {P:Program} {N:Nat} {F:Nat→Value} {Q:QF}
theorem cA.fp{x:X}(hx:p x):cA (l x) [nI p l]:=(cA.lH hx).trans (cA.pack (l:=λx=>iE (p x)::l x) x)
theorem aB.fp{x:X}(hx:p x)(hp:cS (l x) H R):aB E H (nI p l::R):=aB.imp (cA.fp hx) hp
theorem St.Jn{w:World}(hw:St E H w)(hh:Has (nI p l) H R):∃x,p x∧St E (l x++R) w:=by
 obtain⟨x,hs⟩:=hw.unpack hh;have hp:=St.lH (H:=_) (R:=_) hs Has.aN;refine⟨x,hp,hs.conv λF hst=>?_⟩;obtain⟨F1,F2,k1,k2,k3,k4⟩:=hst;exact⟨F2,k4,λb hb=>(k1 b).2 (.inr hb)⟩
theorem aK.fp{f:FuncId}{args:Array Value}{Qt:Ending→List aL→Prop}(hh:Has (nI p l) H R)(h:∀x,p x→aK P E f args (l x++R) Qt):aK P E f args H Qt:=λhd w hw=>by
 obtain⟨x,hx,hs⟩:=hw.Jn hh;exact h x hx hd w hs
theorem aK.Y1{f:FuncId}{args:Array Value}{Qt:Ending→List aL→Prop}(hh:Has (nI p l) H R)(h:(∃x,p x)→aK P E f args H Qt):aK P E f args H Qt:=λhd w hw=>by
 obtain⟨x,hx,hs⟩:=hw.Jn hh;exact h ⟨x,hx⟩ hd w hw
theorem cA.Z8{p':X→Prop}(h:∀x,p x→p' x):cA [nI p l] [nI p' l]:=cA.one λF w ⟨x,hs⟩=>by
 obtain⟨F1,F2,h1,h2,h3,h4⟩:=hs;exact⟨x,F1,F2,h1,h2,⟨h x h3.1,h3.2⟩,h4⟩
end
theorem aK.beside{P:Program}{E:Env}{f:FuncId}{args:Array Value}{Hp R:List aL}{Q:Ending→List aL→Prop}(h:∀M,Sub E R M→aK P M f args Hp Q):aK P E f args (Hp++R) (λe H'=>∃H1,Q e H1∧H'=H1++R):=aK.dU h
theorem cA.I6{X:Type}{f:X→aL}{l m:List X}:cA [aO f l,aO f m] [aO f (l++m)]:=λF w hs=>by
 obtain⟨F1,F2,h1,h2,h3,G1,G2,g1,g2,g3,g4⟩:=hs;refine⟨F,⟨F,λ_=>False,λb=>by simp,λ_ _ h=>h,?_,λ_ h=>h⟩,λ_ h=>h⟩;show cT ((l++m).map f) F w;rw[aBk];refine aY.2 ⟨F1,G1,λb=>?_,λb hb hg=>h2 b hb ((g1 b).2 (.inl hg)),h3,g3⟩;rw[h1 b,g1 b];have:=g4 b;constructor
 ·rintro(h|h|h)
  ·exact .inl h
  ·exact .inr h
  ·exact absurd h this
 ·rintro(h|h)
  ·exact .inl h
  ·exact .inr (.inl h)
abbrev aI(P:List Ov):aL:=aO dM P
def dI(P:List Ov)(g:Nat)(s:Sv):aL:=nI (λos:List Ov=>(∀o∈os,o∈P)∧Gd s) λos=>[aT g s os]
def AT(P:List Ov)(g:Nat)(v:Lg):aL:=nI (λos:List Ov=>(∀o∈os,o∈P)∧Vd v) λos=>[cO g v os]
theorem dI.mk{P:List Ov}{g:Nat}{s:Sv}{os:List Ov}(h:(∀o∈os,o∈P)∧Gd s):cA [aT g s os] [dI P g s]:=cA.fp (X:=List Ov) (p:=λos:List Ov=>(∀o∈os,o∈P)∧Gd s) (l:=λos=>[aT g s os]) (x:=os) h
theorem AT.mk{P:List Ov}{g:Nat}{v:Lg}{os:List Ov}(h:(∀o∈os,o∈P)∧Vd v):cA [cO g v os] [AT P g v]:=cA.fp (X:=List Ov) (p:=λos:List Ov=>(∀o∈os,o∈P)∧Vd v) (l:=λos=>[cO g v os]) (x:=os) h
theorem dI.mono{P Q:List Ov}{g:Nat}{s:Sv}:cA [dI P g s] [dI (P++Q) g s]:=cA.Z8 λ_ h=>⟨λo ho=>aDn _ (h.1 o ho),h.2⟩
theorem Bw.Ws{E M:Env}{R R':List aL}{os P:List Ov}(hE:Sub E R M)(h:Has (aI P) R R')(hs:∀o∈os,o∈P):Bw M os:=λo ho=>Bw.aO hE h o (hs o ho)
section
variable (E:Env) (P:List Ov) (g:Nat) (s:Sv)
theorem Xt(r:Int):G E 224 [.int .i64 r] [] λe H'=>∃g,e=.returned (pt g)∧H'=[dI P g ⟨Hb,[],dF r 0 3⟩]:=by
 refine aK.post (Wj E r) ?_;rintro e H' ⟨g,rfl,rfl⟩;refine⟨[dI P g ⟨Hb,[],dF r 0 3⟩],aB.cF (dI.mk (os:=[]) ⟨(λ_ h=>(aAk h).elim),Gd.new ?_⟩),g,rfl,rfl⟩;unfold dF;split<;>(try split)<;>omega
theorem qR:G E 89 [pt g] [dI P g s] (cM (.int .i64 s.r) [dI P g s]):=by
 refine aK.fp Has.aN λos hos=>aK.post (vC E g s os) ?_;rintro e H' ⟨rfl,rfl⟩;exact⟨_,aB.cF (dI.mk hos),rfl,rfl⟩
theorem qQ:G E 14 [pt g] [dI P g s] λe H'=>∃g2,e=.returned (pt g2)∧H'=[AT P g2 s.v,dI P g s]:=by
 refine aK.fp Has.aN λos hos=>aK.post (Pp E g s os) ?_;rintro e H' ⟨g2,rfl,rfl⟩;exact⟨[AT P g2 s.v,dI P g s],aB.cF (cA.cons (AT.mk (os:=os) ⟨hos.1,hos.2.v⟩) (dI.mk hos)),g2,rfl,rfl⟩
theorem Ij:G E 139 [pt g] [dI P g s] λe H'=>∃g2,e=.returned (pt g2)∧H'=[dI P g2 s,dI P g s]:=by
 refine aK.fp Has.aN λos hos=>aK.post (Sw E g s os hos.2.np) ?_;rintro e H' ⟨g2,rfl,rfl⟩;exact⟨[dI P g2 s,dI P g s],aB.cF (cA.cons (dI.mk hos) (dI.mk hos)),g2,rfl,rfl⟩
theorem Vh:G E 79 [pt g] [dI P g s] (cM (.bool s.quiet) [dI P g s]):=by
 refine aK.fp Has.aN λos hos=>aK.post (Sb E g s os) ?_;rintro e H' ⟨rfl,rfl⟩;exact⟨_,aB.cF (dI.mk hos),rfl,rfl⟩
theorem T3(c:aX):G E 31 [pt g,.agg c.cs.toArray] [dI P g s] (cM (.tuple #[.agg (s.make c).1.cs.toArray,.int .i64 (s.make c).2]) [dI P g s]):=by
 refine aK.fp Has.aN λos hos=>aK.post (WN E g s os c) ?_;rintro e H' ⟨rfl,rfl⟩;exact⟨_,aB.cF (dI.mk hos),rfl,rfl⟩
def Sv.ready(s:Sv)(cf:fU)(now:Int):List dK:=jP (fL s.r cf now) s.ps s.ps.length
theorem Vv(cf:fU)(now:Int):G E 180 [pt g,.agg cf.cs.toArray,.int .i64 now] [dI P g s] λe H'=>∃O oc,e=.returned (.slice O (s.ready cf now).length oc)∧H'=[own cP O (s.ready cf now).length oc (s.ready cf now),dI P g s]:=by
 refine aK.fp Has.aN λos hos=>aK.post (Sc E g s os hos.2.np cf now) ?_;rintro e H' ⟨O,oc,rfl,rfl⟩;exact⟨[own cP O (s.ready cf now).length oc (s.ready cf now),dI P g s],aB.cF (cA.cons cA.refl (dI.mk hos)),O,oc,rfl,rfl⟩
theorem aIw:G E 32 [pt g] [dI P g s] λe H'=>∃O oc chl,O9 s.r s.ps chl∧e=.returned (.slice O s.ps.length oc)∧H'=[own pZ O s.ps.length oc chl,aO mV chl,dI P g s]:=by
 refine aK.fp Has.aN λos hos=>aK.post (GO E g s os hos.2.np) ?_;rintro e H' ⟨O,oc,chl,h1,rfl,rfl⟩;exact⟨[own pZ O s.ps.length oc chl,aO mV chl,dI P g s],aB.cF (cA.cons cA.refl (cA.cons cA.refl (dI.mk hos))),O,oc,chl,h1,rfl,rfl⟩
theorem SV:G E 27 [pt g] [dI P g s] λe H'=>∃A n c,(n≤1000000∧n≤c∧c≤maxLen)∧e=.returned (.slice A n c)∧H'=[own aU A n c (fJ s),dI P g s]:=by
 refine aK.fp Has.aN λos hos=>aK.post (CP E g s os hos.2.np hos.2.rep.1) ?_;rintro e H' ⟨A,n,c,h,rfl,rfl⟩;exact⟨[own aU A n c (fJ s),dI P g s],aB.cF (cA.cons cA.refl (dI.mk hos)),A,n,c,h,rfl,rfl⟩
theorem Sz(x:Rc)(hx:x.ok):G E 191 [pt g,.agg x.r.cs.toArray] [dI P g s,aI P] λe H'=>∃Q,e=.returned (.int .i64 (s.doc x).2)∧H'=[dI (P++Q) g (s.doc x).1,aI (P++Q)]:=by
 refine aK.fp Has.aN λos hos=>?_;refine aK.post (aK.dU (Hp:=[aT g s os]) (R:=[aI P]) λM hE=>Xz M g s os (Bw.Ws hE Has.aN hos.1) hos.2.np x hx) ?_;rintro e H' ⟨H1,⟨new,rfl,rfl⟩,rfl⟩;refine⟨[dI (P++new) g (s.doc x).1,aI (P++new)],aB.cF (cA.append (A:=[aT g (s.doc x).1 (os++new)]) (B:=[dI (P++new) g (s.doc x).1]) (dI.mk (os:=os++new) ⟨λo ho=>?_,hos.2.doc hx⟩) ?_),new,rfl,rfl⟩
 ·rcases aBg.1 ho with ho|ho
  ·exact aDn _ (hos.1 o ho)
  ·exact aCp _ ho
 ·exact(cA.aV (.cons (.aM .aN) (.cons .aN .nil))).trans cA.I6
theorem XS(i:Nat)(made:Int)(A:Option Addr)(m c:Nat)(l:List bH)(hr:Rd E fH A m c l)(hm:m≤1000000)(hlo:∀e∈l,e.ok)(hg:Gd (s.load ⟨s.r,((i+1:Nat):Int)⟩ made l).1) :
  G E 329 [pt g,.agg #[.int .i64 s.r,.int .i64 ((i+1:Nat):Int),.int .i64 made,.slice A m c]] [dI P g s] (cM (.bool (s.load ⟨s.r,((i+1:Nat):Int)⟩ made l).2) [dI P g (s.load ⟨s.r,((i+1:Nat):Int)⟩ made l).1]):=by
 refine aK.fp Has.aN λos hos=>aK.post (WB E g s os hos.2.np ⟨s.r,((i+1:Nat):Int)⟩ made A m c l hr hm hlo) ?_;rintro e H' ⟨rfl,rfl⟩;exact⟨_,aB.cF (dI.mk (os:=os) ⟨hos.1,hg⟩),rfl,rfl⟩
end
section
variable (E:Env) (P:List Ov) (g:Nat) (v:Lg)
theorem iV:G E 16 [pt g] [AT P g v] λe H'=>∃B k,(v.l.length≤k∧k≤maxLen)∧e=.returned (.slice B v.l.length k)∧H'=[own bE B v.l.length k v.l,AT P g v]:=by
 refine aK.fp Has.aN λos hos=>aK.post (uB E g v os) ?_;rintro e H' ⟨B,k,h,rfl,rfl⟩;exact⟨[own bE B v.l.length k v.l,AT P g v],aB.cF (cA.cons cA.refl (AT.mk hos)),B,k,h,rfl,rfl⟩
theorem IZ:G E 40 [pt g] [AT P g v] λe H'=>∃B k,(v.t.length≤k∧k≤maxLen)∧e=.returned (.slice B v.t.length k)∧H'=[own bE B v.t.length k v.t,AT P g v]:=by
 refine aK.fp Has.aN λos hos=>aK.post (pJ E g v os) ?_;rintro e H' ⟨B,k,h,rfl,rfl⟩;exact⟨[own bE B v.t.length k v.t,AT P g v],aB.cF (cA.cons cA.refl (AT.mk hos)),B,k,h,rfl,rfl⟩
theorem aJa:G E 41 [pt g] [AT P g v] λe H'=>∃y:Bh,y.b=(gH sY v.l).1∧e=.returned (.agg y.cs.toArray)∧H'=[iR y,AT P g v]:=by
 refine aK.fp Has.aN λos hos=>aK.post (aJf E g v os) ?_;rintro e H' ⟨y,h,rfl,rfl⟩;exact⟨[iR y,AT P g v],aB.cF (cA.cons cA.refl (AT.mk hos)),y,h,rfl,rfl⟩
theorem aJk:G E 18 [pt g] [AT P g v] λe H'=>∃y:Bh,y.b=(gH sY (v.l++v.t)).1∧e=.returned (.agg y.cs.toArray)∧H'=[iR y,AT P g v]:=by
 refine aK.fp Has.aN λos hos=>aK.post (aJe E g v os) ?_;rintro e H' ⟨y,h,rfl,rfl⟩;exact⟨[iR y,AT P g v],aB.cF (cA.cons cA.refl (AT.mk hos)),y,h,rfl,rfl⟩
theorem Uk:G E 96 [pt g] [AT P g v] (cM (.agg (L0 (v.l++v.t)).cs.toArray) [AT P g v]):=by
 refine aK.fp Has.aN λos hos=>aK.post (KS E g v os) ?_;rintro e H' ⟨rfl,rfl⟩;exact⟨_,aB.cF (AT.mk hos),rfl,rfl⟩
theorem Ub:G E 115 [pt g] [AT P g v] (cM (.tuple #[.agg ((v.t[0]?).getD dO).id.cs.toArray,.bool (!v.t.isEmpty)]) [AT P g v]):=by
 refine aK.fp Has.aN λos hos=>aK.post (R5 E g v os) ?_;rintro e H' ⟨rfl,rfl⟩;exact⟨_,aB.cF (AT.mk hos),rfl,rfl⟩
theorem yL(a:bJ):G E 110 [pt g,.agg a.cs.toArray] [AT P g v,aI P] λe H'=>∃o:Ov,o.d=(cE v a).1∧e=.returned (.tuple #[.agg o.cs.toArray,.bool (cE v a).2.1,.bool (cE v a).2.2])∧H'=[dM o,AT P g v,aI P]:=by
 refine aK.fp Has.aN λos hos=>?_;refine aK.post (aK.dU (Hp:=[cO g v os]) (R:=[aI P]) λM hE=>Dw M g v os (Bw.Ws hE Has.aN hos.1) a) ?_;rintro e H' ⟨H1,⟨o,h,rfl,rfl⟩,rfl⟩;exact⟨[dM o,AT P g v,aI P],aB.cF (cA.cons cA.refl (cA.append (A:=[cO g v os]) (B:=[AT P g v]) (AT.mk hos) cA.refl)),o,h,rfl,rfl⟩
end
theorem LO(F:Int)(a:Nat):iT F a 0=false:=by unfold iT Hc;rw[if_pos rfl];exact decide_eq_false o_
theorem Inv.synced{s:LS}(h:Inv s)(F:Int):Inv ⟨s.N,sp s.D (bS s.N (hb s.D)+s.pos) s.cG,s.bF,s.bF.length,s.pos+s.cG.length,[],false,F⟩:=by
 obtain⟨h1,h2,h3⟩:=laid h s.cG.length (aAf _);rw[aAo] at h1 h2 h3;have hcl:(cat s.bF).length=s.pos+s.cG.length:=by rw[BD h,aAe,←h.pos,←h.cG]
 refine⟨h2,h.n0,h.n1,h.Ly,aAf _,by dsimp only;rw[aAo];exact hcl.symm,by dsimp only;rw[aCy];rfl,?_,by dsimp only[List.length_nil];exact h.fit⟩;dsimp only;rw[h1,h3,aAj o_,aAo]
theorem Ga{s:LS}(hd:s.dead=false):∃(z:Int) (q:Nat) (du po:Nat) (pe:List UInt8) (de:Bool) (F:Int),s.sync=(z,⟨s.N,sp s.D (bS s.N (hb s.D)+s.pos) (s.cG.take q),s.bF,du,po,pe,de,F⟩)∧q≤s.cG.length∧(z=0∨z=19)∧(z=0→q=s.cG.length∧du=s.bF.length)∧(z=19→du=s.kE∧s.cG≠[]):=by
 cases hc:iT s.aG s.pos s.cG.length
 ·rw[Kd hd hc];exact⟨0,s.cG.length,_,_,_,_,_,by rw[aAo],aAf _,.inl rfl,λ_=>⟨rfl,rfl⟩,λh=>absurd h sD⟩
 ·rw[F7 hd hc];refine⟨19,lq s.aG s.pos s.cG.length,_,_,_,_,_,rfl,Wz _ _ _,.inr rfl,λh=>absurd h sD,λ_=>⟨rfl,λhp=>?_⟩⟩;rw[hp,aDh,LO] at hc;cases hc
theorem Gr(x:UInt8):(x ^^^ 1).toNat % 2=1 - x.toNat % 2:=by
 have h:∀y:Fin 256,(UInt8.ofNat y.1 ^^^ 1).toNat % 2=1 - y.1 % 2:=by decide +kernel
 have h2:=h ⟨x.toNat,x.toNat_lt⟩;rw[UInt8.ofNat_toNat] at h2;exact h2
theorem Dp{D:List UInt8}{x:UInt8}:hb (sp D 0 [x])=x.toNat % 2:=by
 unfold hb sp;rw[aCg];rfl
theorem JS{s:LS}(h:Inv s)(hd:s.dead=false)(b:List UInt8):(s.swap b).2.N=s.N∧(s.swap b).2.D.length=s.D.length ∧
  ((Frm.cZ (bB (s.swap b).2.D s.N (hb (s.swap b).2.D))=s.bF.take s.kE∧(s.swap b).1≠0)∨(Frm.cZ (bB (s.swap b).2.D s.N (hb (s.swap b).2.D))=[b]∧((s.swap b).1=0∨(s.swap b).1=19))):=by
 have hl:=h.len;have hold:∀D':List UInt8,hb D'=hb s.D→bB D' s.N (hb s.D)=bB s.D s.N (hb s.D)→Frm.cZ (bB D' s.N (hb D'))=s.bF.take s.kE:=by
  intro D' h1 h2;rw[h1,h2,h.half];exact(oW (λx hx=>h.Ly x (aBs hx)) _).1
 have hsame:Frm.cZ (bB s.D s.N (hb s.D))=s.bF.take s.kE:=hold s.D rfl rfl;unfold LS.swap;by_cases c1:b.length=0
 ·rw[if_pos c1];exact⟨rfl,rfl,.inl ⟨hsame,by dsimp only;omega⟩⟩
 rw[if_neg c1];by_cases c2:4096<b.length
 ·rw[if_pos c2];exact⟨rfl,rfl,.inl ⟨hsame,by dsimp only;omega⟩⟩
 rw[if_neg c2];by_cases c3:32*s.N<b.length+7
 ·rw[if_pos c3];exact⟨rfl,rfl,.inl ⟨hsame,by dsimp only;omega⟩⟩
 rw[if_neg c3,if_neg (by rw[hd];exact aAl)];have hbl:=vP s.D;have hq1:1 - hb s.D≤1:=o_;have hf:=mR (N:=s.N) hq1;have hfh:=mR (N:=s.N) hbl;have haway:bS s.N (1 - hb s.D)+32*s.N≤bS s.N (hb s.D)∨bS s.N (hb s.D)+32*s.N≤bS s.N (1 - hb s.D):=by
  have:hb s.D=0∨hb s.D=1:=o_;rcases this with e|e<;>rw[e]<;>unfold bS<;>omega
 have z1:((List.replicate (32*s.N) (0:UInt8)).take (lq s.aG 0 (32*s.N))).length≤32*s.N:=by rw[aAg,aAz];omega
 have in1:bS s.N (1 - hb s.D)+0+((List.replicate (32*s.N) (0:UInt8)).take (lq s.aG 0 (32*s.N))).length≤s.D.length:=o_;have len1:(tB s).length=s.D.length:=dZ in1;have hb1:hb (tB s)=hb s.D:=AY o_ in1;have half1:bB (tB s) s.N (hb s.D)=bB s.D s.N (hb s.D):=lQ hl hbl in1 o_;by_cases k1:iT s.aG 0 (32*s.N)=true
 ·rw[if_pos k1];exact⟨rfl,len1,.inl ⟨hold _ hb1 half1,by dsimp only;omega⟩⟩
 rw[if_neg k1];have l2:((Frm.fr b).take (lq (rT s) 0 (b.length+7))).length≤b.length+7:=by rw[aAg,Frm.bO];omega
 have in2:bS s.N (1 - hb s.D)+0+((Frm.fr b).take (lq (rT s) 0 (b.length+7))).length≤(tB s).length:=o_;have len2:(rL s b).length=s.D.length:=by rw[←len1];exact dZ in2
 have hb2:hb (rL s b)=hb s.D:=by rw[←hb1];exact AY o_ in2
 have half2:bB (rL s b) s.N (hb s.D)=bB s.D s.N (hb s.D):=by rw[←half1];exact lQ o_ hbl in2 o_
 by_cases k2:iT (rT s) 0 (b.length+7)=true
 ·rw[if_pos k2];exact⟨rfl,len2,.inl ⟨hold _ hb2 half2,by dsimp only;omega⟩⟩
 rw[if_neg k2];by_cases kz:wk (yA s b)=0
 ·have hdd:jD (yA s b)=true:=by
   unfold wk at kz;unfold jD;split at kz
   ·rename_i hh;exact decide_eq_true hh
   ·omega
  have hD3:nM s b=rL s b:=by unfold nM;rw[if_pos kz,Cm]
  rw[if_pos hdd,hD3];exact⟨rfl,len2,.inl ⟨hold _ hb2 half2,by dsimp only;omega⟩⟩
 ·have hD3:nM s b=sp (rL s b) 0 [tx s.D]:=by unfold nM;rw[if_neg kz]
  have in3:0+[tx s.D].length≤(rL s b).length:=by show 0+1≤_;omega
  have hb3:hb (nM s b)=1 - hb s.D:=by
   rw[hD3,Dp];exact Gr _
  have len3:(nM s b).length=s.D.length:=by rw[hD3,←len2];exact dZ in3
  have half3:bB (nM s b) s.N (1 - hb s.D)=Frm.fr b++List.replicate (32*s.N - (b.length+7)) 0:=by
   rw[hD3,lQ o_ hq1 in3 (.inl (by show 0+1≤_;omega))];have e2:lq (rT s) 0 (b.length+7)=b.length+7:=zV (by cases hh:iT (rT s) 0 (b.length+7);rfl;exact absurd hh k2);have e1:lq s.aG 0 (32*s.N)=32*s.N:=zV (by cases hh:iT s.aG 0 (32*s.N);rfl;exact absurd hh k1);have f2:(Frm.fr b).take (lq (rT s) 0 (b.length+7))=Frm.fr b:=by rw[e2];exact aAj (by rw[Frm.bO];exact aAf _)
   have f1:(List.replicate (32*s.N) (0:UInt8)).take (lq s.aG 0 (32*s.N))=List.replicate (32*s.N) 0:=by rw[e1];exact aAj (by rw[aAz];exact aAf _)
   have g2:bB (rL s b) s.N (1 - hb s.D)=sp (bB (tB s) s.N (1 - hb s.D)) 0 (Frm.fr b):=by
    unfold rL;rw[f2];exact rD o_ hq1 (by rw[Frm.bO];omega)
   have g1:bB (tB s) s.N (1 - hb s.D)=sp (bB s.D s.N (1 - hb s.D)) 0 (List.replicate (32*s.N) 0):=by
    unfold tB;rw[f1];exact rD hl hq1 (by rw[aAz];omega)
   have g0:sp (bB s.D s.N (1 - hb s.D)) 0 (List.replicate (32*s.N) 0)=List.replicate (32*s.N) 0:=by
    unfold sp;rw[aCg,aBq,aCn (by rw[eH hl hq1,aAz];omega),aAc]
   rw[g2,g1,g0];have g3:=CT (c:=[]) (x:=Frm.fr b) (z:=32*s.N) (by rw[Frm.bO];omega);rw[aBq,aBq,aDh,Frm.bO] at g3;exact g3
  have hfound:Frm.cZ (bB (nM s b) s.N (hb (nM s b)))=[b]:=by
   rw[hb3,half3];have g4:=(oW (ls:=[b]) (λx hx=>by rw[aAp] at hx;subst hx;exact⟨by omega,by omega⟩) (32*s.N - (b.length+7))).1;rw[yP] at g4;exact g4
  by_cases k3:jD (yA s b)=true
  ·rw[if_pos k3];exact⟨rfl,len3,.inr ⟨hfound,.inr rfl⟩⟩
  ·rw[if_neg k3];exact⟨rfl,len3,.inr ⟨hfound,.inl rfl⟩⟩
theorem Inv.swap{s:LS}(h:Inv s)(hd:s.dead=false)(b:List UInt8):(s.swap b).1=0→Inv (s.swap b).2:=by
 have hl:=h.len;have hold:∀D':List UInt8,hb D'=hb s.D→bB D' s.N (hb s.D)=bB s.D s.N (hb s.D)→Frm.cZ (bB D' s.N (hb D'))=s.bF.take s.kE:=by
  intro D' h1 h2;rw[h1,h2,h.half];exact(oW (λx hx=>h.Ly x (aBs hx)) _).1
 have hsame:Frm.cZ (bB s.D s.N (hb s.D))=s.bF.take s.kE:=hold s.D rfl rfl;unfold LS.swap;by_cases c1:b.length=0
 ·rw[if_pos c1];exact λh0=>absurd h0 (by dsimp only;omega)
 rw[if_neg c1];by_cases c2:4096<b.length
 ·rw[if_pos c2];exact λh0=>absurd h0 (by dsimp only;omega)
 rw[if_neg c2];by_cases c3:32*s.N<b.length+7
 ·rw[if_pos c3];exact λh0=>absurd h0 (by dsimp only;omega)
 rw[if_neg c3,if_neg (by rw[hd];exact aAl)];have hbl:=vP s.D;have hq1:1 - hb s.D≤1:=o_;have hf:=mR (N:=s.N) hq1;have hfh:=mR (N:=s.N) hbl;have haway:bS s.N (1 - hb s.D)+32*s.N≤bS s.N (hb s.D)∨bS s.N (hb s.D)+32*s.N≤bS s.N (1 - hb s.D):=by
  have:hb s.D=0∨hb s.D=1:=o_;rcases this with e|e<;>rw[e]<;>unfold bS<;>omega
 have z1:((List.replicate (32*s.N) (0:UInt8)).take (lq s.aG 0 (32*s.N))).length≤32*s.N:=by rw[aAg,aAz];omega
 have in1:bS s.N (1 - hb s.D)+0+((List.replicate (32*s.N) (0:UInt8)).take (lq s.aG 0 (32*s.N))).length≤s.D.length:=o_;have len1:(tB s).length=s.D.length:=dZ in1;have hb1:hb (tB s)=hb s.D:=AY o_ in1;have half1:bB (tB s) s.N (hb s.D)=bB s.D s.N (hb s.D):=lQ hl hbl in1 o_;by_cases k1:iT s.aG 0 (32*s.N)=true
 ·rw[if_pos k1];exact λh0=>absurd h0 (by dsimp only;omega)
 rw[if_neg k1];have l2:((Frm.fr b).take (lq (rT s) 0 (b.length+7))).length≤b.length+7:=by rw[aAg,Frm.bO];omega
 have in2:bS s.N (1 - hb s.D)+0+((Frm.fr b).take (lq (rT s) 0 (b.length+7))).length≤(tB s).length:=o_;have len2:(rL s b).length=s.D.length:=by rw[←len1];exact dZ in2
 have hb2:hb (rL s b)=hb s.D:=by rw[←hb1];exact AY o_ in2
 have half2:bB (rL s b) s.N (hb s.D)=bB s.D s.N (hb s.D):=by rw[←half1];exact lQ o_ hbl in2 o_
 by_cases k2:iT (rT s) 0 (b.length+7)=true
 ·rw[if_pos k2];exact λh0=>absurd h0 (by dsimp only;omega)
 rw[if_neg k2];by_cases kz:wk (yA s b)=0
 ·have hdd:jD (yA s b)=true:=by
   unfold wk at kz;unfold jD;split at kz
   ·rename_i hh;exact decide_eq_true hh
   ·omega
  have hD3:nM s b=rL s b:=by unfold nM;rw[if_pos kz,Cm]
  rw[if_pos hdd,hD3];exact λh0=>absurd h0 (by dsimp only;omega)
 ·have hD3:nM s b=sp (rL s b) 0 [tx s.D]:=by unfold nM;rw[if_neg kz]
  have in3:0+[tx s.D].length≤(rL s b).length:=by show 0+1≤_;omega
  have hb3:hb (nM s b)=1 - hb s.D:=by
   rw[hD3,Dp];exact Gr _
  have len3:(nM s b).length=s.D.length:=by rw[hD3,←len2];exact dZ in3
  have half3:bB (nM s b) s.N (1 - hb s.D)=Frm.fr b++List.replicate (32*s.N - (b.length+7)) 0:=by
   rw[hD3,lQ o_ hq1 in3 (.inl (by show 0+1≤_;omega))];have e2:lq (rT s) 0 (b.length+7)=b.length+7:=zV (by cases hh:iT (rT s) 0 (b.length+7);rfl;exact absurd hh k2);have e1:lq s.aG 0 (32*s.N)=32*s.N:=zV (by cases hh:iT s.aG 0 (32*s.N);rfl;exact absurd hh k1);have f2:(Frm.fr b).take (lq (rT s) 0 (b.length+7))=Frm.fr b:=by rw[e2];exact aAj (by rw[Frm.bO];exact aAf _)
   have f1:(List.replicate (32*s.N) (0:UInt8)).take (lq s.aG 0 (32*s.N))=List.replicate (32*s.N) 0:=by rw[e1];exact aAj (by rw[aAz];exact aAf _)
   have g2:bB (rL s b) s.N (1 - hb s.D)=sp (bB (tB s) s.N (1 - hb s.D)) 0 (Frm.fr b):=by
    unfold rL;rw[f2];exact rD o_ hq1 (by rw[Frm.bO];omega)
   have g1:bB (tB s) s.N (1 - hb s.D)=sp (bB s.D s.N (1 - hb s.D)) 0 (List.replicate (32*s.N) 0):=by
    unfold tB;rw[f1];exact rD hl hq1 (by rw[aAz];omega)
   have g0:sp (bB s.D s.N (1 - hb s.D)) 0 (List.replicate (32*s.N) 0)=List.replicate (32*s.N) 0:=by
    unfold sp;rw[aCg,aBq,aCn (by rw[eH hl hq1,aAz];omega),aAc]
   rw[g2,g1,g0];have g3:=CT (c:=[]) (x:=Frm.fr b) (z:=32*s.N) (by rw[Frm.bO];omega);rw[aBq,aBq,aDh,Frm.bO] at g3;exact g3
  have hfound:Frm.cZ (bB (nM s b) s.N (hb (nM s b)))=[b]:=by
   rw[hb3,half3];have g4:=(oW (ls:=[b]) (λx hx=>by rw[aAp] at hx;subst hx;exact⟨by omega,by omega⟩) (32*s.N - (b.length+7))).1;rw[yP] at g4;exact g4
  by_cases k3:jD (yA s b)=true
  ·rw[if_pos k3];exact λh0=>absurd h0 (by dsimp only;omega)
  ·rw[if_neg k3];refine λ_=>⟨len3.trans hl,h.n0,h.n1,λx hx=>?_,by show 1≤[b].length;exact aAf _,?_,rfl,?_,?_⟩
   ·dsimp only at hx;rw[aAp] at hx;subst hx;exact⟨by omega,by omega⟩
   ·show b.length+7=(cat [b]).length;rw[yP,Frm.bO]
   ·show bB (nM s b) s.N (hb (nM s b))=cat [b]++List.replicate (32*s.N - (b.length+7)) 0;rw[hb3,half3,yP]
   ·show b.length+7+0≤32*s.N;omega
def OM(z:LS)(k:Int)(w:WL):Prop:=w.ok∧w.s=z∧w.wr≤k
def iB(g gd:Nat)(z:LS)(k:Int):aL:=nI (OM z k) (Es g gd)
structure Ys where
 wr:Int
 A:Option Addr
 c:Nat
 l:List AR
structure Yy(z:LS)(k:Int)(x:Ys):Prop where
 d:flat x.l=z.D
 n:x.l.length=2*z.N+1
 n0:1≤z.N
 n1:z.N≤64
 w0:0≤x.wr
 w1:x.wr≤k
def WH(gd:Nat)(z:LS)(x:Ys):List aL:=zK gd true z.dead z.aG x.wr x.A (2*z.N+1) x.c x.l
def kJ(gd:Nat)(z:LS)(k:Int):aL:=nI (Yy z k) (WH gd z)
theorem iB.mk{g gd:Nat}{z:LS}{k:Int}{w:WL}(h:OM z k w):cA (Es g gd w) [iB g gd z k]:=cA.fp (X:=WL) (p:=OM z k) (l:=Es g gd) (x:=w) h
theorem kJ.mk{gd:Nat}{z:LS}{k:Int}{x:Ys}(h:Yy z k x):cA (WH gd z x) [kJ gd z k]:=cA.fp (X:=Ys) (p:=Yy z k) (l:=WH gd z) (x:=x) h
theorem iB.mono{g gd:Nat}{z:LS}{k k':Int}(h:k≤k'):cA [iB g gd z k] [iB g gd z k']:=cA.Z8 λ_ hx=>⟨hx.1,hx.2.1,Int.le_trans hx.2.2 h⟩
theorem kJ.mono{gd:Nat}{z:LS}{k k':Int}(h:k≤k'):cA [kJ gd z k] [kJ gd z k']:=cA.Z8 λ_ hx=>⟨hx.d,hx.n,hx.n0,hx.n1,hx.w0,Int.le_trans hx.w1 h⟩
theorem WL.ok.dk{w:WL}{z:LS}{k:Int}(h:OM z k w):Yy z k ⟨w.wr,w.A,w.c,w.jM⟩:=by
 obtain⟨h1,rfl,h3⟩:=h;exact⟨rfl,by have:=h1.hk;have:=h1.len;show w.jM.length=2*w.N+1;omega,h1.n0,h1.n1,h1.w0,h3⟩
theorem V2{g gd:Nat}{w:WL}{z:LS}{k:Int}(h:OM z k w):cA (Es g gd w) (WH gd z ⟨w.wr,w.A,w.c,w.jM⟩):=by
 obtain⟨h1,rfl,h3⟩:=h;have e:w.k=2*w.s.N+1:=h1.len;unfold WH;show cA (Es g gd w) [Cy gd true w.dead w.aG w.wr w.A (2*w.s.N+1) w.c,own sH w.A (2*w.s.N+1) w.c w.jM];rw[←e];exact cA.aV (.cons (.aM (.aM (.aM (.aM .aN)))) (.cons (.aM (.aM (.aM (.aM .aN)))) .nil))
theorem iB.down{g gd:Nat}{z:LS}{k:Int}{A:List aL}:cA (iB g gd z k::A) (kJ gd z k::A):=cA.cons (λF w hs=>by
 obtain⟨F1,F2,h1,h2,⟨x,h3⟩,h4⟩:=hs;obtain⟨G1,G2,g1,g2,g3,g4⟩:=h3;obtain⟨F',k1,k2⟩:=(V2 (gd:=gd) (g:=g) g3.1).trans (kJ.mk (gd:=gd) (WL.ok.dk g3.1)) G2 w g4;exact⟨F',k1,λb hb=>(h1 b).2 (.inl ((g1 b).2 (.inr (k2 b hb))))⟩) cA.refl
section
variable (E:Env) (g gd:Nat) (z:LS) (k:Int)
theorem pA.conv{w:WL}{r:Int×LS}{K:Int}{e:Ending}{H':List aL}(hk:w.wr≤k)(h:pA g gd w r K e H'):∃H2,aB E H' H2∧cM (.int .i64 r.1) [iB g gd r.2 (k+K)] e H2:=by
 obtain⟨w',rfl,h1,h2,h3,_,rfl⟩:=h;exact⟨_,aB.cF (iB.mk ⟨h1,h2,by omega⟩),rfl,rfl⟩
theorem So(hm:z.bF.length≤10000)(X:Option Addr)(nx cx:Nat)(b:List UInt8)(hr:Rd E aU X nx cx b):G E 229 [pt g,.slice X nx cx] [iB g gd z k] (cM (.int .i64 (z.append b).1) [iB g gd (z.append b).2 k]):=by
 refine aK.fp Has.aN λw hw=>?_;rw[aAc];obtain⟨h1,rfl,h3⟩:=hw;have hml:w.m=w.s.bF.length:=by rw[h1.hm];show _=(w.bF.map (·.b)).length;rw[aAw]
 refine aK.post (RK E g gd w h1 o_ X nx cx b hr) λe H' h=>?_;have:=pA.conv E g gd k h3 h;rw[Int.add_zero] at this;exact this
theorem async(hk:k≤10000000000000):G E 112 [pt g] [iB g gd z k] (cM (.int .i64 z.sync.1) [iB g gd z.sync.2 (k+2048)]):=by
 refine aK.fp Has.aN λw hw=>?_;rw[aAc];obtain⟨h1,rfl,h3⟩:=hw;exact aK.post (XX E g gd w h1 o_) λe H' h=>pA.conv E g gd k h3 h
theorem Wq(hk:k≤10000000000000)(X:Option Addr)(nx cx:Nat)(b:List UInt8)(hr:Rd E aU X nx cx b):G E 192 [pt g,.slice X nx cx] [iB g gd z k] (cM (.int .i64 (z.swap b).1) [iB g gd (z.swap b).2 (k+4128)]):=by
 refine aK.fp Has.aN λw hw=>?_;rw[aAc];obtain⟨h1,rfl,h3⟩:=hw;exact aK.post (W5 E g gd w h1 o_ X nx cx b hr) λe H' h=>pA.conv E g gd k h3 h
theorem QM:G E 225 [pt g] [iB g gd z k] λe H'=>∃O oc xs,xs.map Oc.b=z.bF∧(∀x∈xs,x.n=x.b.length∧x.b.length≤4096)∧z.bF.length≤100000∧e=.returned (.slice O z.bF.length oc)∧H'=[own vQ O z.bF.length oc xs,aO uL xs,iB g gd z k]:=by
 refine aK.fp Has.aN λw hw=>?_;rw[aAc];have hw2:=hw;obtain⟨h1,rfl,h3⟩:=hw2;have hml:w.m=w.s.bF.length:=by rw[h1.hm];show _=(w.bF.map (·.b)).length;rw[aAw]
 refine aK.post (aK.dU (Hp:=[Mk g gd w,own vQ w.R w.m w.rc w.bF,aO uL w.bF]) (R:=[own aU w.P w.p w.pc w.cG,Cy gd true w.dead w.aG w.wr w.A w.k w.c,own sH w.A w.k w.c w.jM]) λM _=>PH M g gd w h1) ?_;rintro e H' ⟨H1,⟨O,oc,xs,rfl,k1,k2,k3,k4,rfl⟩,rfl⟩;rw[hml];refine⟨[own vQ O w.s.bF.length oc xs,aO uL xs,iB g gd w.s k],aB.cF ?_,O,oc,xs,k2,k4,by have:=h1.bF;omega,rfl,rfl⟩;rw[←hml];exact cA.cons cA.refl (cA.cons cA.refl (iB.mk hw))
theorem Xy(hd:z.dead=false)(ha:z.aG = -1)(hk:k≤10000000000000):G E 167 [pt gd] [kJ gd z k] λe H'=>∃g,e=.returned (.tuple #[pt g,.bool true])∧H'=[iB g gd (LS.open z.N z.D (-1)) (k+2048)]:=by
 refine aK.fp Has.aN λx hx=>?_;rw[aAc];unfold WH;rw[hd,ha];have h1:=hx.w1;refine aK.post (Xu E gd z.N (-1) x.wr x.A (2*z.N+1) x.c x.l hx.n.symm rfl hx.n0 hx.n1 o_ o_ hx.w0 o_ (ND _ _)) ?_;rintro e H' ⟨g,w,rfl,k1,k2,k3,k4,rfl⟩;rw[hx.d] at k2;exact⟨_,aB.cF (iB.mk ⟨k1,k2,by omega⟩),g,rfl,rfl⟩
def LS.oD(s:LS):LS:=⟨s.N,s.D,s.bF,s.kE,s.pos,s.cG,false,-1⟩
theorem EL:G E 141 [pt gd] [kJ gd z k] (cM (.tuple #[]) [kJ gd z.oD k]):=by
 refine aK.fp Has.aN λx hx=>?_;rw[aAc];refine aK.post (aK.dU (Hp:=[Cy gd true z.dead z.aG x.wr x.A (2*z.N+1) x.c]) (R:=[own sH x.A (2*z.N+1) x.c x.l]) λM _=>Ic M gd z.dead z.aG x.wr x.A (2*z.N+1) x.c) ?_;rintro e H' ⟨H1,⟨rfl,rfl⟩,rfl⟩;exact⟨_,aB.cF (kJ.mk (z:=z.oD) (x:=x) ⟨hx.d,hx.n,hx.n0,hx.n1,hx.w0,hx.w1⟩),rfl,rfl⟩
theorem Vm:G E 140 [pt gd] [kJ gd z k] λe H'=>∃g',e=.returned (pt g')∧H'=[kJ g' z k,kJ gd z k]:=by
 refine aK.fp Has.aN λx hx=>?_;rw[aAc];have h1:=hx.n1;refine aK.post (Bi E gd z.dead z.aG x.wr x.A (2*z.N+1) x.c x.l o_) ?_;rintro e H' ⟨g',A',c',rfl,rfl⟩;refine⟨[kJ g' z k,kJ gd z k],aB.cF (cA.append (A:=zK g' true z.dead z.aG x.wr A' (2*z.N+1) c' x.l) (B:=[kJ g' z k]) (kJ.mk (x:=⟨x.wr,A',c',x.l⟩) ⟨hx.d,hx.n,hx.n0,hx.n1,hx.w0,hx.w1⟩) (kJ.mk (x:=x) hx)),g',rfl,rfl⟩
theorem NF:G E 140 [pt gd] [iB g gd z k] λe H'=>∃g',e=.returned (pt g')∧H'=[kJ g' z k,iB g gd z k]:=by
 refine aK.fp Has.aN λw hw=>?_;rw[aAc];have hw2:=hw;obtain⟨h1,rfl,h3⟩:=hw2;have n1:=h1.n1;have hl:=h1.len;have hdk:=WL.ok.dk hw;refine aK.conv (aB.aV (l:=zK gd true w.dead w.aG w.wr w.A w.k w.c w.jM++[Mk g gd w,own vQ w.R w.m w.rc w.bF,aO uL w.bF,own aU w.P w.p w.pc w.cG]) (.cons (.aM (.aM (.aM (.aM .aN)))) (.cons (.aM (.aM (.aM (.aM .aN)))) (.cons .aN (.cons .aN (.cons .aN (.cons .aN .nil))))))) ?_;refine aK.post (aK.dU λM _=>Bi M gd w.dead w.aG w.wr w.A w.k w.c w.jM o_) ?_;rintro e H' ⟨H1,⟨g',A',c',rfl,rfl⟩,rfl⟩;refine⟨[kJ g' w.s k,iB g gd w.s k],aB.cF (cA.append (A:=zK g' true w.dead w.aG w.wr A' w.k c' w.jM) (B:=[kJ g' w.s k]) ?_ ?_),g',rfl,rfl⟩
 ·have:=kJ.mk (gd:=g') (z:=w.s) (k:=k) (x:=⟨w.wr,A',c',w.jM⟩) ⟨hdk.d,hdk.n,hdk.n0,hdk.n1,hdk.w0,hdk.w1⟩;unfold WH at this;rw[show 2*w.s.N+1=w.k from hl.symm] at this;exact this
 ·exact(cA.aV (B:=Es g gd w) (.cons (.aM (.aM .aN)) (.cons (.aM (.aM .aN)) (.cons (.aM (.aM .aN)) (.cons (.aM (.aM .aN)) (.cons .aN (.cons .aN .nil))))))).trans (iB.mk hw)
def LS.Tm(s:LS)(k:Int):LS:=⟨s.N,s.D,s.bF,s.kE,s.pos,s.cG,s.dead,if s.dead then s.aG else max k (-1)⟩
theorem ZI(q:Int)(hq:q≤9223372036854775807):G E 193 [pt gd,.int .i64 q] [iB g gd z k] (cM (.tuple #[]) [iB g gd (z.Tm q) k]):=by
 refine aK.fp Has.aN λw hw=>?_;rw[aAc];obtain⟨h1,rfl,h3⟩:=hw;refine aK.conv (aB.aV (l:=[Cy gd true w.dead w.aG w.wr w.A w.k w.c]++[Mk g gd w,own vQ w.R w.m w.rc w.bF,aO uL w.bF,own aU w.P w.p w.pc w.cG,own sH w.A w.k w.c w.jM]) (.cons (.aM (.aM (.aM (.aM .aN)))) (.cons .aN (.cons .aN (.cons .aN (.cons .aN (.cons .aN .nil))))))) ?_;refine aK.post (aK.dU λM _=>SX M gd w.dead w.aG w.wr w.A w.k w.c q) ?_;rintro e H' ⟨H1,⟨rfl,rfl⟩,rfl⟩;have a0:=h1.a0;have a1:=h1.a1;have hok:WL.ok { w with aG:=if w.dead then w.aG else max q (-1) }:=⟨h1.hm,h1.hp,h1.hk,h1.n0,h1.n1,h1.len,by dsimp only;split<;>omega,by dsimp only;split<;>omega,h1.w0,h1.fit,h1.bF,h1.kE,h1.wide⟩
 exact⟨_,aB.cF ((cA.aV (B:=Es g gd { w with aG:=if w.dead then w.aG else max q (-1) }) (.cons (.aM .aN) (.cons (.aM .aN) (.cons (.aM .aN) (.cons (.aM .aN) (.cons .aN (.cons .aN .nil))))))).trans (iB.mk ⟨hok,rfl,h3⟩)),rfl,rfl⟩
theorem ZT(n:Int)(N:Nat)(hn:(2*N+1:Int)=n)(h0:1≤N)(h1:N≤64):G E 106 [.int .i64 n] [] λe H'=>∃gd,e=.returned (pt gd)∧H'=[kJ gd (LS.new N) 0]:=by
 refine aK.post (Pm E n (2*N+1) (by rw[←hn,if_neg o_,if_neg o_];omega)) ?_;rintro e H' ⟨gd,g2,rfl,rfl⟩;have hf:=Iz (2*N+1);refine⟨[kJ gd (LS.new N) 0],aB.cF (kJ.mk (z:=LS.new N) (x:=⟨0,some ⟨g2,0,none⟩,2*N+1,List.replicate (2*N+1) Ek⟩) ⟨hf,aAz,h0,h1,aCd _,aCd _⟩),gd,rfl,rfl⟩
end
end Go.Proofs.YtmilalkjbojciaaGreat.Sep
namespace Go.Proofs.YtmilalkjbojciaaGreat.Sep
open Go.RowKit Reg Oct
open Mem hiding Rd
instance:cL 414 [.pointer none] [(0,1)]:=⟨⟨q_,q_⟩⟩
structure Yw where
 B:Option Addr
 m:Nat
 d:Nat
 b:List UInt8
 A:Option Addr
 n:Nat
 c:Nat
def kT(g:Nat)(l:List UInt8):aL:=pack λ(x:Yw)=>[iE (nS x.B x.m x.d x.b x.A x.n x.c l),pC g true false x.A x.n x.c,own aU x.B x.m x.d x.b]
theorem kT.mk{E:Env}{R:List aL}{g:Nat}{l:List UInt8}{x:Yw}(f:nS x.B x.m x.d x.b x.A x.n x.c l):aB E ([pC g true false x.A x.n x.c,own aU x.B x.m x.d x.b]++R) (kT g l::R):=λw hw=>by
 have h1:St E (iE (nS x.B x.m x.d x.b x.A x.n x.c l)::[pC g true false x.A x.n x.c,own aU x.B x.m x.d x.b]++R) w:=aB.lH f w hw;exact h1.conv λF hs=>by
  obtain⟨F1,F2,k1,k2,k3,k4⟩:=aY.1 hs;exact⟨F,⟨F1,F2,k1,k2,⟨x,k3⟩,k4⟩,λ_ h=>h⟩
theorem BW{E:Env}{f:FuncId}{args:Array Value}{g:Nat}{l:List UInt8}{Q:Ending→List aL→Prop}(h:∀x:Yw,nS x.B x.m x.d x.b x.A x.n x.c l→aK prog E f args [pC g true false x.A x.n x.c,own aU x.B x.m x.d x.b] Q):aK prog E f args [kT g l] Q:=by
 intro hds w hw;obtain⟨x,hs⟩:=hw.unpack (l:=λ(x:Yw)=>[iE (nS x.B x.m x.d x.b x.A x.n x.c l),pC g true false x.A x.n x.c,own aU x.B x.m x.d x.b]) Has.aN;have hp:=St.lH (H:=_) (R:=_) hs Has.aN;refine h x hp hds w (hs.conv λF hst=>?_);obtain⟨F1,F2,k1,k2,k3,k4⟩:=hst;exact⟨F2,by simpa using k4,λb hb=>(k1 b).2 (.inr hb)⟩
section
variable (E:Env) (g:Nat)
theorem qS:G E 328 [.bool true] [] (cM (.tuple #[]) []):=by
 refine t_ func328 ntmps328 ?_;repeat first|refine v_ ?_|intro
 exact e3_
theorem XO(x:UInt8)(l:List UInt8):G E 242 [pt g,.int .i64 1] [kT g (x::l)] (cM (.tuple #[.int .u64 x.toNat,.bool true]) [kT g l]):=by
 refine BW λy hy=>?_;refine aK.post (aK.dU (Hp:=[pC g true false y.A y.n y.c]) λM hE=>iG M g false y.A y.n y.c (x::l) 1 (hy M (Sub.own hE Has.aN))) ?_;rintro e H' ⟨H1,⟨A',n',c',rfl,hal,rfl⟩,rfl⟩;have e1:nx false (x::l) (wid 1)=(some [x],false,l):=by
  unfold nx wid;simp;omega
 rw[e1] at hal⊢;have h2:=kT.mk (E:=E) (R:=[]) (g:=g) (x:=⟨y.B,y.m,y.d,y.b,A',n',c'⟩) (hy.trans hal);rw[aAc] at h2;refine⟨_,h2,?_,rfl⟩;show Ending.returned (.tuple #[.int .u64 (get [x]:Nat),.bool true])=_;rw[show get [x]=x.toNat from aCa _]
theorem Ud(k:Nat)(l:List UInt8)(hk:k≤l.length)(hl:l.length≤140737488355328):G E 244 [pt g,.int .i64 k] [kT g l] λe H'=>∃B d,e=.returned (.tuple #[.slice B k d,.bool true])∧H'=[own aU B k d (l.take k),kT g (l.drop k)]:=by
 refine BW λy hy=>?_;refine aK.post (aK.dU (Hp:=[pC g true false y.A y.n y.c]) λM hE=>kR M g false y.A y.n y.c l k (hy M (Sub.own hE Has.aN)) hl) ?_;rintro e H' ⟨H1,⟨A',n',c',B,d,rfl,hal,h1,h2,rfl⟩,rfl⟩;have e1:nx false l (k:Int)=(some (l.take k),false,l.drop k):=by
  unfold nx;rw[if_neg sD,if_neg o_,aAu]
 rw[e1] at hal⊢;have e2:(l.take k).length=k:=by rw[aAg];omega
 have h2:=kT.mk (E:=E) (R:=[own aU B k d (l.take k)]) (g:=g) (x:=⟨y.B,y.m,y.d,y.b,A',n',c'⟩) (hy.trans hal);refine⟨[own aU B k d (l.take k),kT g (l.drop k)],?_,B,d,?_,rfl⟩
 ·simp only[aBe,e2];exact aB.trans (aB.aV (.cons (.aM .aN) (.cons (.aM .aN) (.cons .aN .nil)))) (aB.trans h2 (aB.aV (.cons (.aM .aN) (.cons .aN .nil))))
 ·simp only[aBe,e2,aEf]
theorem Xn(l:List UInt8):G E 298 [pt g] [kT g l] (cM (.bool l.isEmpty) [kT g l]):=by
 refine BW λy hy=>?_;refine aK.post (aK.dU (Hp:=[pC g true false y.A y.n y.c]) λM hE=>xV M g false y.A y.n y.c l (hy M (Sub.own hE Has.aN))) ?_;rintro e H' ⟨H1,⟨rfl,rfl⟩,rfl⟩;have h2:=kT.mk (E:=E) (R:=[]) (g:=g) (x:=y) hy;rw[aAc] at h2;exact⟨_,h2,rfl,rfl⟩
theorem Ik(x:UInt8)(l:List UInt8):G E 364 [.agg #[pt g]] [kT g (x::l)] (cM (.int .i64 x.toNat) [kT g l]):=by
 have hx:=x.toNat_lt;refine t_ func364 ntmps364 ?_;repeat first|refine v_ ?_|intro
 refine bK (λM=>XO M g x l) ?_;repeat first|refine v_ ?_|intro
 refine bK qS ?_;repeat first|refine v_ ?_|intro
 exact B7
theorem Nw(k:Nat)(l:List UInt8)(hk:k≤l.length)(hl:l.length≤140737488355328):G E 365 [.agg #[pt g],.int .i64 k] [kT g l] λe H'=>∃B d,e=.returned (.slice B k d)∧H'=[own aU B k d (l.take k),kT g (l.drop k)]:=by
 refine t_ func365 ntmps365 ?_;repeat first|refine v_ ?_|intro
 refine bW (λM=>Ud M g k l hk hl) ?_;rintro e H' ⟨B,d,rfl,rfl⟩;repeat first|refine v_ ?_|intro
 refine bK qS ?_;repeat first|refine v_ ?_|intro
 exact jQ ⟨_,_,rfl,rfl⟩
theorem Fg(l:List aX)(t:List UInt8)(hl:l.length≤48)(hm:∀c∈l,c.may=true∧c.ok)(ht:t.length≤1000000):G E 327 [.agg #[pt g]] [kT g (dP l++t)] λe H'=>∃A c,(l.length≤c∧c≤maxLen)∧e=.returned (.slice A l.length c)∧H'=[own bE A l.length c l,kT g t]:=by
 have hmax:=fX;have h8:(UInt8.ofNat l.length).toNat=l.length:=by rw[aEy];omega
 have Hc:=λM=>Ik M g (UInt8.ofNat l.length) (fR l++t);rw[h8] at Hc;rw[show dP l++t=UInt8.ofNat l.length::(fR l++t) from rfl];refine t_ func327 ntmps327 ?_;repeat first|refine v_ ?_|intro
 rename_i g2;refine bK Hc ?_;repeat first|refine v_ ?_|intro
 refine C.loop (X:=Nat×Option Addr×Nat) (λx=>[(1,.pointer (some ⟨g2,0,none⟩)),(3,.slice x.2.1 x.1 x.2.2),(7,.int .i64 l.length),(8,.int .i64 x.1)]) (λx=>[aJ g2 414 [pt g],own bE x.2.1 x.1 x.2.2 (l.take x.1),kT g (fR (l.drop x.1)++t)])
  (λx=>x.1≤l.length∧x.1≤x.2.2∧x.2.2≤maxLen) (λx=>l.length - x.1) (0,none,0) aD (by dsimp only;rw[aCg,aCh];exact aB.trans (aB.nil bE) aA) ⟨aAh _,aAf _,aAh _⟩ ?_
 rintro⟨i,B,d⟩ F ⟨h1,h2,h3⟩;dsimp only at h1 h2 h3⊢;by_cases hlt:i<l.length
 ·obtain⟨x,hx⟩:∃x,l[i]?=some x:=⟨_,aAa hlt⟩
  obtain⟨hxm,hxo⟩:=hm x (aAi hx);have e1:fR (l.drop i)++t=x.put++(fR (l.drop (i+1))++t):=by
   obtain⟨_,rfl⟩:=aAd.1 hx;rw[aAm hlt,tL,aAb]
  have pl:=jY (l.drop (i+1));rw[aBd] at pl;have prt:=λM=>Nw M g 22 (x.put++(fR (l.drop (i+1))++t)) (by rw[aAe,x.bD];omega) (by rw[aAe,aAe,x.bD,pl];omega);rw[aBj x.bD,aBu x.bD] at prt;have hc:tT x.put=some x:=CJ hxm hxo.2.2.2.2.2.1;rw[e1];repeat first|refine v_ ?_|intro
  refine bW prt ?_;rintro e H' ⟨O,od,rfl,rfl⟩;repeat first|refine v_ ?_|intro
  refine dX (λM h1=>xS M O 22 od x.put (some x) hc h1 (by decide)) ?_;rintro e H' ⟨rfl,rfl⟩;rw[aBe];repeat first|refine v_ ?_|intro
  refine bK qS ?_;repeat first|refine v_ ?_|intro
  rename_i B' d' h4 h5;exact⟨(i+1,B',d'),aD,(by dsimp only;rw[take_succ hx];exact aA),⟨by dsimp only;omega,h4,h5⟩,by dsimp only;omega⟩
 ·obtain rfl:i=l.length:=o_;rw[aAo,aCy,show fR []++t=t from rfl];repeat first|refine v_ ?_|intro
  exact jQ ⟨_,_,⟨h2,h3⟩,rfl,rfl⟩
end
theorem Bm{e:bH}(h:e.may=true):Gs e=e.put:=if_pos h
def lN(l:List bH):List UInt8:=l.flatMap Gs
theorem sC{l:List bH}(h:∀e∈l,e.may=true):(lN l).length=27*l.length:=by
 induction l with
 |nil=>rfl
 |cons e l ih =>
  have h1:=ih λx hx=>h x (aBl _ hx);show(Gs e++lN l).length=_;rw[aAe,h1,Bm (h e aBo),e.bD,aAs];omega
section
variable (E:Env) (g:Nat)
theorem WG(a:bJ)(p:dS)(hp:JO p)(t:List UInt8)(ht:t.length≤1000000):G E 330 [.agg #[pt g],.agg a.cs.toArray] [kT g (NM p++t)] λe H'=>∃A c,(p.l.length≤c∧c≤maxLen)∧e=.returned (.agg #[.int .i64 a.rep,.int .i64 a.seq,.int .i64 p.made,.slice A p.l.length c])∧H'=[own fH A p.l.length c p.l,kT g t]:=by
 have hmax:=fX;have hl1:=hp.1.len;have hl2:=hp.1.tS;have hl3:=hp.1.nK;have h8:(UInt8.ofNat p.l.length).toNat=p.l.length:=by rw[aEy];omega
 have h9:(((UInt8.ofNat p.made.toNat).toNat:Nat):Int)=p.made:=by rw[aEy];omega
 have e0:NM p++t=UInt8.ofNat p.made.toNat::UInt8.ofNat p.l.length::(lN p.l++t):=by unfold NM lN;simp
 have c1:=λM=>Ik M g (UInt8.ofNat p.made.toNat) (UInt8.ofNat p.l.length::(lN p.l++t));have c2:=λM=>Ik M g (UInt8.ofNat p.l.length) (lN p.l++t);have hmay:=hp.2.may;have hok:=hp.1.sE;rw[h9] at c1;rw[h8] at c2;rw[e0];generalize p.l=l at *;generalize p.made=md at *;dsimp only[bJ.cs];refine t_ func330 ntmps330 ?_;repeat first|refine v_ ?_|refine Dr.two ?_ ?_|intro
 rename_i g2 g3 g4;refine rB (l_ [0,1] (.two 2 (n_ 3 (g_ 4 (g_ 5 .nil))) 4 (g_ 2 (n_ 3 (g_ 5 .nil))))) ([aJ g2 414 [pt g],aJ g3 32 [.int .i64 a.rep,.int .i64 a.seq]]) ?_;repeat first|refine v_ ?_|intro
 refine Dr.two ?_ ?_
 ·refine yB rfl sD bA sK aC (λM hE=>c1 M) ?_;rintro e H' ⟨rfl,rfl⟩;repeat first|refine v_ ?_|refine Dr.two ?_ ?_|intro
  rename_i g5;refine bK c2 ?_;repeat first|refine v_ ?_|refine Dr.two ?_ ?_|intro
  refine C.loop (X:=Nat×Option Addr×Nat) (λx=>[(2,.pointer (some ⟨g2,0,none⟩)),(4,.pointer (some ⟨g4,0,none⟩)),(5,.pointer (some ⟨g5,0,none⟩)),(13,.int .i64 l.length),(14,.int .i64 x.1)])
   (λx=>[aJ g2 414 [pt g],aJ g4 90 [.int .i64 0,.int .i64 0,.int .i64 0,.slice none 0 0],aJ g5 90 [.int .i64 a.rep,.int .i64 a.seq,.int .i64 md,.slice x.2.1 x.1 x.2.2],own fH x.2.1 x.1 x.2.2 (l.take x.1),kT g (lN (l.drop x.1)++t)])
   (λx=>x.1≤l.length∧x.1≤x.2.2∧x.2.2≤maxLen) (λx=>l.length - x.1) (0,none,0) aD (by dsimp only;rw[aCg,aCh];exact aB.trans (aB.nil fH) aA) ⟨aAh _,aAf _,aAh _⟩ ?_
  rintro⟨i,B,d⟩ F ⟨h1,h2,h3⟩;dsimp only at h1 h2 h3⊢;by_cases hlt:i<l.length
  ·obtain⟨x,hx⟩:∃x,l[i]?=some x:=⟨_,aAa hlt⟩
   have hxm:=hmay x (aAi hx);have hxo:=hok x (aAi hx);have e1:lN (l.drop i)++t=x.put++(lN (l.drop (i+1))++t):=by
    obtain⟨_,rfl⟩:=aAd.1 hx;rw[aAm hlt,←aAb,←Bm hxm];rfl
   have pl:=sC (l:=l.drop (i+1)) λe he=>hmay e (aDw he);rw[aBd] at pl;have prt:=λM=>Nw M g 27 (x.put++(lN (l.drop (i+1))++t)) (by rw[aAe,x.bD];omega) (by rw[aAe,aAe,x.bD,pl];omega);rw[aBj x.bD,aBu x.bD] at prt;have hget:EY x.put=some x:=HH hxm hxo.2.1.2.2.1;rw[e1];repeat first|refine v_ ?_|refine Dr.two ?_ ?_|intro
   refine bW prt ?_;rintro e H' ⟨O,od,rfl,rfl⟩;repeat first|refine v_ ?_|refine Dr.two ?_ ?_|intro
   refine dX (λM h1=>Dd M O 27 od x.put h1 rfl) ?_;rw[hget];rintro e H' ⟨rfl,rfl⟩;rw[aBe,aEf];repeat first|refine v_ ?_|refine Dr.two ?_ ?_|intro
   refine bK qS ?_;repeat first|refine v_ ?_|refine Dr.two ?_ ?_|intro
   rename_i B' d' h4 h5;exact⟨(i+1,B',d'),aD,(by dsimp only;rw[take_succ hx];exact aA),⟨by dsimp only;omega,h4,h5⟩,by dsimp only;omega⟩
  ·obtain rfl:i=l.length:=o_;rw[aAo,aCy,show lN []++t=t from rfl];repeat first|refine v_ ?_|refine Dr.two ?_ ?_|intro
   exact cI rfl aF rfl rfl rfl aS rfl aA (⟨_,_,⟨h2,h3⟩,rfl,rfl⟩)
 ·repeat first|refine v_ ?_|intro
  refine eJ c1 ?_;repeat first|refine v_ ?_|refine Dr.two ?_ ?_|intro
  rename_i g5;refine bK c2 ?_;repeat first|refine v_ ?_|refine Dr.two ?_ ?_|intro
  refine C.loop (X:=Nat×Option Addr×Nat) (λx=>[(2,.pointer (some ⟨g2,0,none⟩)),(4,.pointer (some ⟨g4,0,none⟩)),(5,.pointer (some ⟨g5,0,none⟩)),(13,.int .i64 l.length),(14,.int .i64 x.1)])
   (λx=>[aJ g2 414 [pt g],aJ g4 90 [.int .i64 0,.int .i64 0,.int .i64 0,.slice none 0 0],aJ g5 90 [.int .i64 a.rep,.int .i64 a.seq,.int .i64 md,.slice x.2.1 x.1 x.2.2],own fH x.2.1 x.1 x.2.2 (l.take x.1),kT g (lN (l.drop x.1)++t)])
   (λx=>x.1≤l.length∧x.1≤x.2.2∧x.2.2≤maxLen) (λx=>l.length - x.1) (0,none,0) aD (by dsimp only;rw[aCg,aCh];exact aB.trans (aB.nil fH) aA) ⟨aAh _,aAf _,aAh _⟩ ?_
  rintro⟨i,B,d⟩ F ⟨h1,h2,h3⟩;dsimp only at h1 h2 h3⊢;by_cases hlt:i<l.length
  ·obtain⟨x,hx⟩:∃x,l[i]?=some x:=⟨_,aAa hlt⟩
   have hxm:=hmay x (aAi hx);have hxo:=hok x (aAi hx);have e1:lN (l.drop i)++t=x.put++(lN (l.drop (i+1))++t):=by
    obtain⟨_,rfl⟩:=aAd.1 hx;rw[aAm hlt,←aAb,←Bm hxm];rfl
   have pl:=sC (l:=l.drop (i+1)) λe he=>hmay e (aDw he);rw[aBd] at pl;have prt:=λM=>Nw M g 27 (x.put++(lN (l.drop (i+1))++t)) (by rw[aAe,x.bD];omega) (by rw[aAe,aAe,x.bD,pl];omega);rw[aBj x.bD,aBu x.bD] at prt;have hget:EY x.put=some x:=HH hxm hxo.2.1.2.2.1;rw[e1];repeat first|refine v_ ?_|refine Dr.two ?_ ?_|intro
   refine bW prt ?_;rintro e H' ⟨O,od,rfl,rfl⟩;repeat first|refine v_ ?_|refine Dr.two ?_ ?_|intro
   refine dX (λM h1=>Dd M O 27 od x.put h1 rfl) ?_;rw[hget];rintro e H' ⟨rfl,rfl⟩;rw[aBe,aEf];repeat first|refine v_ ?_|refine Dr.two ?_ ?_|intro
   refine bK qS ?_;repeat first|refine v_ ?_|refine Dr.two ?_ ?_|intro
   rename_i B' d' h4 h5;exact⟨(i+1,B',d'),aD,(by dsimp only;rw[take_succ hx];exact aA),⟨by dsimp only;omega,h4,h5⟩,by dsimp only;omega⟩
  ·obtain rfl:i=l.length:=o_;rw[aAo,aCy,show lN []++t=t from rfl];repeat first|refine v_ ?_|refine Dr.two ?_ ?_|intro
   exact cI rfl aF rfl rfl rfl aS rfl aA (⟨_,_,⟨h2,h3⟩,rfl,rfl⟩)
end
def zU(l:List dS):List UInt8:=l.flatMap NM
theorem AX{l:List dS}(h:JL l):(zU l).length≤10000*l.length:=by
 induction l with
 |nil=>exact aAf _
 |cons p l ih =>
  have h1:=ih λx hx=>h x (aBl _ hx);have hj:=h p aBo;have h2:=sC hj.2.may;have h3:=hj.1.len;have h4:=hj.1.nK;show(NM p++zU l).length≤_;have h5:(NM p).length=2+(lN p.l).length:=by unfold NM lN;simp;omega
  rw[aAe,h5,h2,aAs];omega
theorem KT{s:Sv}(h:Gd s):fJ s=dP s.v.l++(dP s.v.t++zU s.ps):=by
 have hl:=h.v.len;have e:∀l:List aX,l.length≤48→(∀c∈l,c∈s.v.l++s.v.t)→AU l=dP l:=λl h1 h2=>by
  unfold AU;rw[if_neg o_,if_pos (aDm.2 λc hc=>h.v.may (h2 c hc))]
 unfold fJ;rw[e _ o_ (λc hc=>aDn _ hc),e _ o_ (λc hc=>aCp _ hc),aAb];rfl
section
variable (E:Env)
theorem BK(b:Bool)(hb:b=true):G E 328 [.bool b] [] (cM (.tuple #[]) []):=by subst hb;exact qS E
theorem YB(P:List Ov)(s:Sv)(hg:Gd s)(B:Option Addr)(n c:Nat)(hr:Rd E aU B n c (fJ s)):G E 281 [.int .i64 s.r,.slice B n c] [aI P] λe H'=>∃Q g,e=.returned (pt g)∧H'=[dI (P++Q) g s,aI (P++Q)]:=by
 have hmax:=fX;have hlen:=hg.v.len;have hcb:=AX hg.ch;have hnp:=hg.np;have hrep:=hg.rep;have pl1:=jY s.v.l;have pl2:=jY s.v.t;have hbl:(fJ s).length≤1000000:=by
  rw[KT hg];unfold dP;simp only[aAe,aAs];omega
 have hn:=hr.len;have new:=λM=>Xt M P s.r;rw[show dF s.r 0 3=s.r by unfold dF;rw[if_neg o_,if_neg o_]] at new;have ch1:=λM g=>Fg M g s.v.l (dP s.v.t++zU s.ps) o_ (λc hc=>⟨hg.v.may (aDn _ hc),hg.v.T4 c hc⟩) (by unfold dP;simp only[aAe,aAs];omega);have ch2:=λM g=>Fg M g s.v.t (zU s.ps) o_ (λc hc=>⟨hg.v.may (aCp _ hc),hg.v.TZ c hc⟩) o_;refine t_ func281 ntmps281 ?_;repeat first|refine v_ ?_|intro
 refine bW new ?_;rintro e H' ⟨gs,rfl,rfl⟩;repeat first|refine v_ ?_|intro
 refine dX (λM h1=>lD M B n c (fJ s) h1 (by omega)) ?_;rintro e H' ⟨gr,A0,c0,rfl,k1,k2,rfl⟩;refine gk bG ?_;unfold Bs;refine L.conv (aB.aV (l:=[pC gr true false A0 n c0,own aU A0 n c0 (fJ s)]++[dI P gs ⟨Hb,[],s.r⟩,aI P]) aC) ?_;refine L.conv (kT.mk (x:=⟨A0,n,c0,fJ s,A0,n,c0⟩) nS.refl) ?_;repeat first|refine v_ ?_|intro
 rename_i g6;have e0:kT gr (fJ s)=kT gr (dP s.v.l++(dP s.v.t++zU s.ps)):=by rw[KT hg]
 rw[e0];refine bW (λM=>ch1 M gr) ?_;rintro e H' ⟨A1,c1,hc1,rfl,rfl⟩;repeat first|refine v_ ?_|intro
 refine C.scan (Y:=List Ov) (l:=s.v.l) rfl (λi _=>[(0,.int .i64 s.r),(1,.slice B n c),(5,pt gs),(6,pt g6),(18,.slice A1 s.v.l.length c1),(19,.int .i64 s.v.l.length),(20,.int .i64 i)])
  (λi Q=>[dI (P++Q) gs (jX s.r (s.v.l.take i)),aI (P++Q),aJ g6 414 [pt gr],own bE A1 s.v.l.length c1 s.v.l,kT gr (dP s.v.t++zU s.ps)]) (λ_ _=>True) [] aD (by rw[aCg,aAc,show jX s.r []=⟨Hb,[],s.r⟩ from rfl];exact aA) trivial ?_ ?_
 ·rintro i Q x F hi hx _;obtain⟨d1,d2⟩:=LR hg hx;have hxo:(Rc.lI x).ok:=hg.v.T4 x (aAi hx);rw[DP hx];generalize jX s.r (s.v.l.take i)=z at *;have law:=λM=>Sz M (P++Q) gs z (.lI x) hxo;have law2:=λM Q2=>Sz M (P++Q++Q2) gs (z.doc (.lI x)).1 (.rI x.id) trivial;rw[d1] at law;rw[d2] at law2;generalize ((z.doc (.lI x)).1.doc (.rI x.id)).1=z3 at law2⊢;generalize (z.doc (.lI x)).1=z2 at law law2;repeat first|refine v_ ?_|intro
  refine bK (λM=>qM M x) ?_;repeat first|refine v_ ?_|intro
  refine bW law ?_;rintro e H' ⟨Q2,rfl,rfl⟩;repeat first|refine v_ ?_|intro
  refine bK (λM=>oS M x.id) ?_;repeat first|refine v_ ?_|intro
  refine bW (λM=>law2 M Q2) ?_;rintro e H' ⟨Q3,rfl,rfl⟩;repeat first|refine v_ ?_|intro
  refine cl sD sK aC (λM hE=>BK M _ (by rfl)) ?_;rintro e H' ⟨rfl,rfl⟩;repeat first|refine v_ ?_|intro
  exact⟨Q++Q2++Q3,aD,(by rw[←aAb,←aAb];exact aA),trivial⟩
 rintro Q F -;rw[aAo];repeat first|refine v_ ?_|intro
 refine bW (λM=>ch2 M gr) ?_;rintro e H' ⟨A2,c2,hc2,rfl,rfl⟩;repeat first|refine v_ ?_|intro
 refine C.scan (Y:=List Ov) (l:=s.v.t) rfl (λi _=>[(0,.int .i64 s.r),(1,.slice B n c),(5,pt gs),(6,pt g6),(40,.slice A2 s.v.t.length c2),(41,.int .i64 s.v.t.length),(42,.int .i64 i)])
  (λi Q=>[dI (P++Q) gs (DF (jX s.r s.v.l) (s.v.t.take i)),aI (P++Q),aJ g6 414 [pt gr],own bE A2 s.v.t.length c2 s.v.t,kT gr (zU s.ps)]) (λ_ _=>True) Q aD (by rw[aCg,show DF (jX s.r s.v.l) []=jX s.r s.v.l from rfl];exact aA) trivial ?_ ?_
 ·rintro i Q x F hi hx _;have d1:=NH hg hx;have hxo:(Rc.lI x).ok:=hg.v.TZ x (aAi hx);rw[Db hx];generalize DF (jX s.r s.v.l) (s.v.t.take i)=z at *;have law:=λM=>Sz M (P++Q) gs z (.lI x) hxo;rw[d1] at law;generalize (z.doc (.lI x)).1=z2 at law⊢;repeat first|refine v_ ?_|intro
  refine bK (λM=>qM M x) ?_;repeat first|refine v_ ?_|intro
  refine bW law ?_;rintro e H' ⟨Q2,rfl,rfl⟩;repeat first|refine v_ ?_|intro
  refine cl sD sK aC (λM hE=>BK M _ (by rfl)) ?_;rintro e H' ⟨rfl,rfl⟩;repeat first|refine v_ ?_|intro
  exact⟨Q++Q2,aD,(by rw[←aAb];exact aA),trivial⟩
 rintro Q F -;rw[aAo,FZ hg];have iS:=λM=>aIw M (P++Q) gs (part s 0);rw[Cb] at iS;repeat first|refine v_ ?_|intro
 refine bW iS ?_;rintro e H' ⟨O,oc,chl,-,rfl,rfl⟩;repeat first|refine v_ ?_|intro
 refine C.loop (X:=Nat) (λi=>[(0,.int .i64 s.r),(1,.slice B n c),(5,pt gs),(6,pt g6),(55,.int .i64 s.ps.length),(56,.int .i64 i)])
  (λi=>[dI (P++Q) gs (part s i),aI (P++Q),aJ g6 414 [pt gr],kT gr (zU (s.ps.drop i))]) (λi=>i≤s.ps.length) (λi=>s.ps.length - i) 0 aD (by rw[aCh];exact aA) (aAh _) ?_
 intro i F hi;by_cases hlt:i<s.ps.length
 ·have hj:=hg.ch _ (aCs hlt);have e1:zU (s.ps.drop i)=NM s.ps[i]++zU (s.ps.drop (i+1)):=by rw[aAm hlt];rfl
  have hcb2:=AX (l:=s.ps.drop (i+1)) λp hp=>hg.ch p (aDw hp);rw[aBd] at hcb2;have hl:=DO hg hlt;have hgl:=hg.part (i+1) hlt;have sch:=λM=>WG M gr ⟨s.r,((i+1:Nat):Int)⟩ s.ps[i] hj (zU (s.ps.drop (i+1))) o_;have rep:=λM=>qR M (P++Q) gs (part s i);have ld:=λM A m c hr hm=>XS M (P++Q) gs (part s i) i (s.ps[i]'hlt).made A m c (s.ps[i]'hlt).l hr hm hj.1.sE;have er:(part s i).r=s.r:=rfl;have hl1:=hj.1.len;have hl2:=hj.1.nK;have hw:IntKind.i64.wrap ((i:Int)+1)=((i+1:Nat):Int):=by rw[aAq _ o_];rfl
  rw[er] at rep ld;rw[hl] at ld;rw[e1];generalize s.ps[i]=p at *;dsimp only[bJ.cs] at sch ld;repeat first|refine v_ ?_|intro
  refine rB (l_ [0,1,2,4,5] (g_ 3 (n_ 6 (g_ 7 (g_ 8 (g_ 9 .nil)))))) ([aJ g6 414 [pt gr]]) ?_;repeat first|refine v_ ?_|intro
  refine eJ rep ?_;repeat first|refine v_ ?_|intro
  refine iO sch ?_;rintro e H' ⟨A3,c3,hc3,rfl,rfl⟩;repeat first|refine v_ ?_|intro
  refine Ib (λM h1=>ld M A3 p.l.length c3 h1 (by omega) hgl) ?_;repeat first|refine v_ ?_|intro
  refine cg rfl sD bA sK aC (λM hE=>BK M _ (by rfl)) ?_;rintro e H' ⟨rfl,rfl⟩;repeat first|refine v_ ?_|intro
  exact⟨i+1,aD,aA,hlt,by omega⟩
 ·obtain rfl:i=s.ps.length:=o_;rw[Nm,aCy,show zU []=[] from rfl];have rep:=λM=>qR M (P++Q) gs s;have put:=λM=>SV M (P++Q) gs s;have hd:decide (fJ s=fJ s)=true:=decide_eq_true rfl;have hrr:decide (s.r=s.r)=true:=decide_eq_true rfl;clear e0;generalize fJ s=x at *;repeat first|refine v_ ?_|intro
  refine rB (l_ [0,1] (g_ 2 (l_ [3,4,6] (g_ 5 (l_ [7,8,9,10,13,14] (g_ 11 (l_ [12,15,16] (g_ 17 .nil)))))))) ([aJ g6 414 [pt gr]]) ?_;repeat first|refine v_ ?_|intro
  refine eJ (λM=>Xn M gr []) ?_;repeat first|refine v_ ?_|intro
  refine eJ rep ?_;repeat first|refine v_ ?_|intro
  refine iO put ?_;rintro e H' ⟨A4,n4,c4,⟨q1,q2,q3⟩,rfl,rfl⟩;refine gd bG aA ?_;refine Dr.more (Hk':=_) aA aB.refl ?_;repeat first|refine v_ ?_|intro
  refine eJ (λM=>BK M _ hd) ?_;repeat first|refine v_ ?_|intro
  exact jQ ⟨Q,gs,rfl,rfl⟩
end
instance:Bg 50 [.pointer none]:=⟨q_⟩
instance:Bg 27 [.int .i64 0]:=⟨q_⟩
section
variable {P:Program} {N:Nat} {E:Env} {F:Nat→Value} {H H' R R2:List aL}
theorem sM{t:TypeId}{a:Addr}{v:Value}{d:TypeDesc}{u:World}(ht:P.underlying t=some d)(hd:lT d=false)(hc:u.cell? a=some v):(loadVar t a).run P u=.ok v u:=by
 cases d<;>simp[lT] at hd<;>simp[loadVar,isAgg,run_underlying ht,hc]
theorem XN{fn:Func}{Q:Ending→List aL→Prop}{t g u g2:Nat}{ty bt ty2 bt2:TypeId}{v v2:Value}{d d2:TypeDesc}(hr:fn.results=#[.cell t ty,.cell u ty2])(hv:F t=.pointer (some ⟨g,0,none⟩))(hv2:F u=.pointer (some ⟨g2,0,none⟩))(ht:P.underlying ty=some d)(hd:lT d=false)(hb:Has (aJ g bt [v]) H R)
  (ht2:P.underlying ty2=some d2) (hd2:lT d2=false) (hb2:Has (aJ g2 bt2 [v2]) H R2)
  (hc:aB E H H') (h:Q (.returned (.tuple #[v,v2])) H'):gF P E fn Q .ret F H:=by
 refine⟨.tuple #[v,v2],H',λw hw=>?_,hc,h⟩;have h1:=sM (P:=P) ht hd (Cell.aJ (E:=E) hb (i:=0) rfl w hw);have h2:=sM (P:=P) ht2 hd2 (Cell.aJ (E:=E) hb2 (i:=0) rfl w hw);simp[yC,hr,hv,hv2,asAddr,h1,h2]
end
section
variable (E:Env)
theorem Lt(g2 g4:Nat):N4 prog E 280 #[.pointer (some ⟨g2,0,none⟩),.pointer (some ⟨g4,0,none⟩)] .returning [] (λe u' H'=>u'=.returning∧e=.returned (.tuple #[])∧H'=[]):=by
 refine Ur func280 rfl ntmps280 (by simp) sD sD ?_;repeat first|refine v_ ?_|intro
 refine L.val (v:=.bool false) sD (λ_ _=>q_) ?_;repeat first|refine v_ ?_|intro
 exact e3_
theorem Z6(P:List Ov)(s:Sv)(hg:Gd s)(B:Option Addr)(n c:Nat)(hr:Rd E aU B n c (fJ s)):G E 226 [.int .i64 s.r,.slice B n c] [aI P] λe H'=>∃Q g,e=.returned (.tuple #[pt g,.int .i64 0])∧H'=[dI (P++Q) g s,aI (P++Q)]:=by
 have hr2:∀ds,Rd (E.jU ds) aU B n c (fJ s):=λ_=>hr;refine Xb func226 rfl ntmps226 (by simp) λhds=>?_;refine WJ.yR ?_;repeat first|refine v_ ?_|intro
 rename_i g4 g5;refine WJ.Zd ?_;refine xD.YV sD I7 ?_;refine xD.defer rfl ?_;rw[hds];refine xD.nil ?_;refine WJ.l7 ?_;repeat first|refine v_ ?_|intro
 refine cl sD sK aC (λM hE=>YB M P s hg B n c ((hr2 _).sub hE)) ?_;rintro e H' ⟨Q,gs,rfl,rfl⟩;repeat first|refine v_ ?_|intro
 refine Lv.one (by simp) ⟨_,func280,q_,rfl⟩ (Hp:=[]) .nil (λM hE=>Lt M _ _) ?_;rintro e u' H' ⟨rfl,rfl,rfl⟩;refine⟨⟨_,rfl⟩,rfl,?_⟩;simp only[aBq];exact XN (H':=[dI (P++Q) gs s,aI (P++Q)]) rfl aF aF rfl rfl aS rfl rfl aS aA ⟨Q,gs,rfl,rfl⟩
end
abbrev EM(s:Sv):V4:=L0 (s.v.l++s.v.t)
def Ll(s:Sv)(to:Int):Mg:=⟨1,s.r,to,(EM s).a,(EM s).b,(EM s).c,(EM s).d,s.v.l.length,[],[],kz,ez⟩
section
variable (E:Env) (P:List Ov) (g:Nat) (s:Sv)
theorem Jo{f:FuncId}{args:Array Value}{Q:Ending→List aL→Prop}{R:List aL}(h:Gd s→aK prog E f args (dI P g s::R) Q):aK prog E f args (dI P g s::R) Q:=aK.Y1 Has.aN λ⟨_,hx⟩=>h hx.2
theorem Zf(to:Int):G E 114 [pt g,.int .i64 to] [dI P g s] (cM (.agg (oK (Ll s to) none 0 0 none 0 0).toArray) [dI P g s]):=by
 refine Jo E P g s λhg=>?_;have h0:=hg.rep;have hlen:=hg.v.len;have hml:s.v.l.length≤maxLen:=by unfold maxLen;omega
 have rep:=λM=>qR M P g s;have mC:=λM=>qQ M P g s;unfold Ll;refine t_ func114 ntmps114 ?_;repeat first|refine v_ ?_|intro
 refine bK rep ?_;repeat first|refine v_ ?_|intro
 refine bW mC ?_;rintro e H' ⟨g2,rfl,rfl⟩;repeat first|refine v_ ?_|intro
 refine bK rep ?_;repeat first|refine v_ ?_|intro
 refine bK (λM=>Uk M P g2 s.v) ?_;repeat first|refine v_ ?_|intro
 refine bW (λM=>iV M P g2 s.v) ?_;rintro e H' ⟨B,k,hk,rfl,rfl⟩;repeat first|refine v_ ?_|intro
 exact Kz
theorem IF(A:Option Addr)(n c:Nat)(l:List bJ)(k:Nat)(hr:Rd E fN A n c l)(hn:n≤1000000)(hk:k≤1000000):G E 251 [.slice A n c,.int .i64 k] [] (cM (.slice A (min n k) (min n k)) []):=by
 have hcap:=hr.cap;have hm:n≤maxLen:=o_;have hmin:(min (n:Int) (k:Int)).toNat=min n k:=o_;refine t_ func251 ntmps251 ?_;repeat first|refine v_ ?_|intro
 exact aR rfl aF aA (⟨by rw[hmin],rfl⟩)
theorem Ji(A:Option Addr)(n c:Nat)(l:List aX)(k:Nat)(hr:Rd E bE A n c l)(hn:n≤1000000)(hk:k≤1000000):G E 252 [.slice A n c,.int .i64 k] [] (cM (.slice A (min n k) (min n k)) []):=by
 have hcap:=hr.cap;have hm:n≤maxLen:=o_;have hmin:(min (n:Int) (k:Int)).toNat=min n k:=o_;refine t_ func252 ntmps252 ?_;repeat first|refine v_ ?_|intro
 exact aR rfl aF aA (⟨by rw[hmin],rfl⟩)
theorem Z9(A:Option Addr)(n c:Nat)(l:List pD)(x:Rc)(hx:x.ok)(hn:n≤1000000):G E 254 [pt g,.slice A n c,.agg x.r.cs.toArray] [dI P g s,aI P,own jE A n c l] λe H'=>∃Q A' c',(if (s.doc x).2=0 then n+1 else n)≤c'∧c'≤maxLen∧e=.returned (.tuple #[.slice A' (if (s.doc x).2=0 then n+1 else n) c',.bool (decide ((s.doc x).2=0))])∧H'=[dI (P++Q) g (s.doc x).1,aI (P++Q),own jE A' (if (s.doc x).2=0 then n+1 else n) c' (if (s.doc x).2=0 then l++[x.r] else l)]:=by
 have doo:=λM=>Sz M P g s x hx;generalize s.doc x=res at *;obtain⟨s2,cd⟩:=res;dsimp only at doo⊢;generalize x.r=xr at *;dsimp only[pD.cs] at doo⊢;refine aK.fact (p:=n≤c∧c≤maxLen) (λw hw=>by obtain⟨F,h1,_⟩:=hw.has (a:=own jE A n c l) aS;have:=qE h1;exact⟨this.2.1,this.2.2.1⟩) λhcap=>?_;by_cases h:cd=0
 ·subst h;simp only[if_true,decide_true];refine t_ func254 ntmps254 ?_;repeat first|refine v_ ?_|intro
  refine bW doo ?_;rintro e H' ⟨Q,rfl,rfl⟩;repeat first|refine v_ ?_|intro
  rename_i A' c' h1 h2;exact Cz ⟨Q,A',c',h1,h2,rfl,rfl⟩
 ·simp only[h,if_false,decide_false];refine t_ func254 ntmps254 ?_;repeat first|refine v_ ?_|intro
  refine bW doo ?_;rintro e H' ⟨Q,rfl,rfl⟩;repeat first|refine v_ ?_|intro
  exact Cz ⟨Q,A,c,hcap.1,hcap.2,rfl,rfl⟩
end
end Go.Proofs.YtmilalkjbojciaaGreat.Sep
namespace Go.Proofs.YtmilalkjbojciaaGreat.Sep
structure Lc where
 base:Option Sv
 l:List Rc
def Qb(r:Int):Sv:=⟨Hb,[],r⟩
def Gb:Option Sv→List (List UInt8)
 |some s=>[5::fJ s]
 |none=>[]
def Lc.bs(z:Lc):List (List UInt8):=Gb z.base++z.l.map Rc.b
def F9(s:Sv)(l:List Rc):Sv:=l.foldl (λs x=>(s.doc x).1) s
def Lc.sv(r:Int)(z:Lc):Sv:=F9 (z.base.getD (Qb r)) z.l
structure Lc.ok(r:Int)(z:Lc):Prop where
 rep:0≤r∧r≤3
 base:∀s,z.base=some s→Gd s∧s.r=r
 l:∀x∈z.l,x.may=true∧x.ok
theorem Rm{l:List Rc}(hl:∀x∈l,x.may=true∧x.ok):∀ {s:Sv},Gd s→Gd (F9 s l)∧(F9 s l).r=s.r:=by
 induction l with
 |nil=>exact λh=>⟨h,rfl⟩
 |cons x l ih =>
  intro s h;have h2:=ih (λy hy=>hl y (aBl _ hy)) (h.doc (hl x aBo).2);exact⟨h2.1,h2.2.trans (KG s x)⟩
theorem Lc.ok.start{r:Int}{z:Lc}(h:z.ok r):Gd (z.base.getD (Qb r))∧(z.base.getD (Qb r)).r=r:=by
 cases hb:z.base with
 |none=>exact⟨Gd.new h.rep,rfl⟩
 |some s=>exact h.base s hb
theorem Lc.ok.gd{r:Int}{z:Lc}(h:z.ok r):Gd (z.sv r)∧(z.sv r).r=r:=by
 obtain⟨h1,h2⟩:=h.start;obtain⟨h3,h4⟩:=Rm h.l h1;exact⟨h3,h4.trans h2⟩
theorem Lc.ok.take{r:Int}{z:Lc}(h:z.ok r)(k:Nat):∃z':Lc,z'.ok r∧z'.bs=z.bs.take k:=by
 obtain⟨base,l⟩:=z;cases base with
 |none=>exact⟨⟨none,l.take k⟩,⟨h.rep,(λs hs=>by cases hs),λx hx=>h.l x (aBs hx)⟩,by unfold Lc.bs Gb;simp[]⟩
 |some s =>
  cases k with
  |zero=>exact⟨⟨none,[]⟩,⟨h.rep,(λs hs=>by cases hs),λx hx=>(aAk hx).elim⟩,rfl⟩
  |succ k=>exact⟨⟨some s,l.take k⟩,⟨h.rep,h.base,λx hx=>h.l x (aBs hx)⟩,by unfold Lc.bs Gb;simp[]⟩
theorem Lc.ok.push{r:Int}{z:Lc}(h:z.ok r){x:Rc}(h1:x.may=true)(h2:x.ok):Lc.ok r ⟨z.base,z.l++[x]⟩:=⟨h.rep,h.base,λy hy=>by
 rcases aBg.1 hy with hy|hy
 ·exact h.l y hy
 ·rw[aAp] at hy;subst hy;exact⟨h1,h2⟩⟩
theorem Lc.SC(z:Lc)(x:Rc):Lc.bs ⟨z.base,z.l++[x]⟩=z.bs++[x.b]:=by unfold Lc.bs;simp
theorem Lc.RM(r:Int)(z:Lc)(x:Rc):Lc.sv r ⟨z.base,z.l++[x]⟩=((z.sv r).doc x).1:=by unfold Lc.sv F9;simp
noncomputable def vG(r:Int)(bF:List (List UInt8)):Lc:=open Classical in if h:∃z:Lc,z.ok r∧z.bs=bF then h.choose else⟨none,[]⟩
theorem Dl{r:Int}{bF:List (List UInt8)}(h:∃z:Lc,z.ok r∧z.bs=bF):(vG r bF).ok r∧(vG r bF).bs=bF:=by
 unfold vG;rw[dif_pos h];exact h.choose_spec
structure Nd where
 r:Int
 ls:LS
 up:Bool
 lc:Lc
 s:Sv
def Nd.qO(n:Nd):List (List UInt8):=(LS.open n.ls.N n.ls.D (-1)).bF
structure Nd.ok(n:Nd):Prop where
 rep:0≤n.r∧n.r≤3
 n0:1≤n.ls.N
 n1:n.ls.N≤64
 len:n.ls.D.length=32*(2*n.ls.N+1)
 a0 : -1≤n.ls.aG
 a1:n.ls.aG≤9223372036854775807
 qO:∃z:Lc,z.ok n.r∧z.bs=n.qO
 inv:n.up=true→Inv n.ls∧n.ls.dead=false
 lc:n.up=true→n.lc.ok n.r∧n.lc.bs=n.ls.bF∧n.s=n.lc.sv n.r
theorem Nd.ok.gd{n:Nd}(h:n.ok)(hu:n.up=true):Gd n.s∧n.s.r=n.r:=by
 obtain⟨h1,_,h3⟩:=h.lc hu;rw[h3];exact h1.gd
noncomputable def Nd.stored(n:Nd):Sv:=(vG n.r n.qO).sv n.r
theorem Nd.ok.stored{n:Nd}(h:n.ok):Gd n.stored∧n.stored.r=n.r:=(Dl h.qO).1.gd
noncomputable def Nd.state(n:Nd):Sv:=if n.up then n.s else n.stored
def Nd.write(n:Nd)(x:Rc):Nd×Int :=
 if (n.s.doc x).2=0 then
  (if (n.ls.append x.b).1=0 then(⟨n.r,(n.ls.append x.b).2,n.up,⟨n.lc.base,n.lc.l++[x]⟩,(n.s.doc x).1⟩,0) else(n,(n.ls.append x.b).1))
 else(n,(n.s.doc x).2)
def Nd.sync(n:Nd):Nd×Int:=if n.up then(if n.ls.sync.1=0 then(⟨n.r,n.ls.sync.2,true,n.lc,n.s⟩,0) else(⟨n.r,n.ls.sync.2,false,n.lc,n.s⟩,19)) else(n,19)
def Nd.CA(n:Nd):Nd:=⟨n.r,n.ls,false,n.lc,n.s⟩
noncomputable def Nd.opened(n:Nd):Nd:=⟨n.r,LS.open n.ls.N n.ls.D (-1),true,vG n.r n.qO,n.stored⟩
noncomputable def Nd.rO(n:Nd):Nd×Int:=if n.up then(n,9) else(n.opened,0)
def LS.arm(s:LS)(k:Int):LS:=⟨s.N,s.D,s.bF,s.kE,s.pos,s.cG,s.dead,if s.dead then s.aG else max k (-1)⟩
def Nd.arm(n:Nd)(k:Int):Nd:=if n.up then⟨n.r,n.ls.arm k,true,n.lc,n.s⟩ else n
def Nd.At(n:Nd):List UInt8:=5::fJ n.s
def Nd.pack(n:Nd):Nd×Int :=
 if n.up then
  (if (n.ls.swap n.At).1=0 then(⟨n.r,(n.ls.swap n.At).2,true,⟨some n.s,[]⟩,n.s⟩,0)
  else if (n.ls.swap n.At).1=19 then(⟨n.r,(n.ls.swap n.At).2,false,n.lc,n.s⟩,19) else(n,(n.ls.swap n.At).1))
 else(n,19)
def Nd.new(r:Int)(N:Nat):Nd:=⟨r,LS.new N,true,⟨none,[]⟩,Qb r⟩
theorem Lc.E3{r:Int}(hr:0≤r∧r≤3):Lc.ok r ⟨none,[]⟩:=⟨hr,(λs hs=>by cases hs),λx hx=>(aAk hx).elim⟩
theorem xZ{s:LS}(h:Inv s):(LS.open s.N s.D (-1)).bF=s.bF.take s.kE:=by rw[(CD h (-1)).2.2.2]
theorem Nd.ok.new{r:Int}{N:Nat}(hr:0≤r∧r≤3)(h0:1≤N)(h1:N≤64):(Nd.new r N).ok:=by
 have hi:=Inv.new h0 h1;exact⟨hr,h0,h1,hi.len,by show(-1:Int) ≤ -1;decide,by show(-1:Int)≤_;decide,⟨⟨none,[]⟩,Lc.E3 hr,(xZ hi).symm⟩,λ_=>⟨hi,rfl⟩,λ_=>⟨Lc.E3 hr,rfl,rfl⟩⟩
theorem Nd.ok.write{n:Nd}(h:n.ok){x:Rc}(hx:x.ok)(hu:n.up=true):(n.write x).1.ok:=by
 unfold Nd.write;split
 ·rename_i hd;split
  ·rename_i ha;obtain⟨i1,i2⟩:=h.inv hu;obtain⟨l1,l2,l3⟩:=h.lc hu;have hinv:=i1.append x.b;rcases tI (s:=n.ls) (b:=x.b) with e|⟨_,e1,e2,e3,e⟩
   ·exfalso;unfold LS.append at ha e;have hb:=x.xW;rw[if_neg o_,if_neg o_] at ha e;split at ha
    ·cases ha
    ·rename_i hc;rw[if_neg hc] at e;have:=congrArg (λs:LS=>s.bF.length) e;dsimp only at this;rw[aAe] at this;simp at this
   ·rw[e] at hinv⊢;refine⟨h.rep,h.n0,h.n1,h.len,h.a0,h.a1,h.qO,λ_=>⟨hinv,i2⟩,λ_=>⟨l1.push (Ke hd) hx,?_,?_⟩⟩
    ·rw[Lc.SC,l2]
    ·rw[Lc.RM,←l3]
  ·exact h
 ·exact h
theorem Nd.ok.CA{n:Nd}(h:n.ok):n.CA.ok:=⟨h.rep,h.n0,h.n1,h.len,h.a0,h.a1,h.qO,(λhu=>by cases hu),λhu=>by cases hu⟩
theorem My{s:LS}(hd:s.dead=false):s.sync.1=0∨s.sync.1=19:=by
 obtain⟨z,q,du,po,pe,de,F,h1,h2,h3,_⟩:=Ga hd;rw[h1];exact h3
theorem MI{s:LS}(h:Inv s)(hd:s.dead=false)(_hc:s.sync.1≠0):∃k,(LS.open s.sync.2.N s.sync.2.D (-1)).bF=s.bF.take k∧s.sync.2.N=s.N∧s.sync.2.D.length=s.D.length∧s.kE≤k:=by
 obtain⟨z,q,du,po,pe,de,F,h1,h2,h3,h4,h5⟩:=Ga hd;rw[h1];obtain⟨g1,g2,g3⟩:=laid h q h2;obtain⟨k,k1,k2,k3,k4⟩:=found h q h2;refine⟨k,?_,rfl,g2.trans h.len.symm,k1⟩;show Frm.cZ (bB (sp s.D (bS s.N (hb s.D)+s.pos) (s.cG.take q)) s.N (hb (sp s.D (bS s.N (hb s.D)+s.pos) (s.cG.take q))))=_;rw[g1,g3];exact k4
theorem JT{s:LS}(h0 : -1≤s.aG)(h1:s.aG≤9223372036854775807) : -1≤s.sync.2.aG∧s.sync.2.aG≤9223372036854775807:=by
 unfold LS.sync;split
 ·exact⟨h0,h1⟩
 split<;>exact⟨rU h0 _ _,zD h1 _ _⟩
theorem Nd.ok.sync{n:Nd}(h:n.ok):n.sync.1.ok:=by
 unfold Nd.sync;by_cases hu:n.up=true
 ·rw[if_pos hu];obtain⟨i1,i2⟩:=h.inv hu;obtain⟨l1,l2,l3⟩:=h.lc hu;have ha:=JT h.a0 h.a1;by_cases hc:n.ls.sync.1=0
  ·rw[if_pos hc];cases hq:iT n.ls.aG n.ls.pos n.ls.cG.length
   ·rw[Kd i2 hq] at ha⊢;have hinv:=i1.synced (fY n.ls.aG n.ls.pos n.ls.cG.length);refine⟨h.rep,h.n0,h.n1,hinv.len,ha.1,ha.2,⟨n.lc,l1,?_⟩,λ_=>⟨hinv,rfl⟩,λ_=>⟨l1,l2,l3⟩⟩;rw[l2];exact((xZ hinv).trans (aAj (aAf _))).symm
   ·rw[F7 i2 hq] at hc;cases hc
  ·rw[if_neg hc];obtain⟨k,k1,k2,k3,_⟩:=MI i1 i2 hc;obtain⟨z,z1,z2⟩:=l1.take k;refine⟨h.rep,by dsimp only;rw[k2];exact h.n0,by dsimp only;rw[k2];exact h.n1,by dsimp only;rw[k2,k3];exact h.len,ha.1,ha.2,⟨z,z1,?_⟩,(λhu=>by cases hu),λhu=>by cases hu⟩;rw[z2,l2];exact k1.symm
 ·rw[if_neg hu];exact h
theorem Nd.ok.opened{n:Nd}(h:n.ok):n.opened.ok:=by
 have hinv:Inv (LS.open n.ls.N n.ls.D (-1)):=Inv.open h.len h.n0 h.n1;obtain⟨z1,z2⟩:=Dl h.qO;have ha:(LS.open n.ls.N n.ls.D (-1)).aG = -1:=by unfold LS.open fY;dsimp only;rw[if_neg o_,if_pos rfl]
 refine⟨h.rep,h.n0,h.n1,hinv.len,?_,?_,⟨vG n.r n.qO,z1,?_⟩,λ_=>⟨hinv,rfl⟩,λ_=>⟨z1,z2,rfl⟩⟩
 ·show -1≤(LS.open n.ls.N n.ls.D (-1)).aG;rw[ha];decide
 ·show(LS.open n.ls.N n.ls.D (-1)).aG≤_;rw[ha];decide
 ·rw[z2];exact((xZ hinv).trans (aAj (aAf _))).symm
theorem Nd.ok.rO{n:Nd}(h:n.ok):n.rO.1.ok:=by
 unfold Nd.rO;split
 ·exact h
 ·exact h.opened
theorem Nd.ok.arm{n:Nd}(h:n.ok){k:Int}(hk:k≤9223372036854775807):(n.arm k).ok:=by
 unfold Nd.arm;split
 ·rename_i hu;obtain⟨i1,i2⟩:=h.inv hu;have h0:=h.a0;have h1:=h.a1;refine⟨h.rep,h.n0,h.n1,h.len,?_,?_,h.qO,λ_=>⟨⟨i1.len,i1.n0,i1.n1,i1.Ly,i1.kE,i1.pos,i1.cG,i1.half,i1.fit⟩,i2⟩,λ_=>h.lc hu⟩
  ·show -1≤(if n.ls.dead then n.ls.aG else max k (-1));split<;>omega
  ·show(if n.ls.dead then n.ls.aG else max k (-1))≤_;split<;>omega
 ·exact h
theorem JH{s:LS}(h0 : -1≤s.aG)(h1:s.aG≤9223372036854775807)(b:List UInt8) : -1≤(s.swap b).2.aG∧(s.swap b).2.aG≤9223372036854775807:=by
 have a1:=rU h0 0 (32*s.N);have a2:=zD h1 0 (32*s.N);have b1:=rU a1 0 (b.length+7);have b2:=zD a2 0 (b.length+7);have c1:=D1 b1 b2;unfold LS.swap;repeat' split
 all_goals first|exact⟨h0,h1⟩|exact⟨a1,a2⟩|exact⟨b1,b2⟩|exact c1
theorem QH{s:LS}{b:List UInt8}:(s.swap b).1=0→(s.swap b).2.bF=[b]∧(s.swap b).2.kE=1∧(s.swap b).2.dead=false:=by
 unfold LS.swap;by_cases c1:b.length=0
 ·rw[if_pos c1];exact λh=>absurd h (by dsimp only;omega)
 rw[if_neg c1];by_cases c2:4096<b.length
 ·rw[if_pos c2];exact λh=>absurd h (by dsimp only;omega)
 rw[if_neg c2];by_cases c3:32*s.N<b.length+7
 ·rw[if_pos c3];exact λh=>absurd h (by dsimp only;omega)
 rw[if_neg c3];by_cases c4:s.dead=true
 ·rw[if_pos c4];exact λh=>absurd h (by dsimp only;omega)
 rw[if_neg c4];by_cases c5:iT s.aG 0 (32*s.N)=true
 ·rw[if_pos c5];exact λh=>absurd h (by dsimp only;omega)
 rw[if_neg c5];by_cases c6:iT (rT s) 0 (b.length+7)=true
 ·rw[if_pos c6];exact λh=>absurd h (by dsimp only;omega)
 rw[if_neg c6];by_cases c7:jD (yA s b)=true
 ·rw[if_pos c7];exact λh=>absurd h (by dsimp only;omega)
 rw[if_neg c7];exact λ_=>⟨rfl,rfl,rfl⟩
theorem Nd.ok.pack{n:Nd}(h:n.ok):n.pack.1.ok:=by
 unfold Nd.pack;by_cases hu:n.up=true
 ·rw[if_pos hu];obtain⟨i1,i2⟩:=h.inv hu;obtain⟨l1,l2,l3⟩:=h.lc hu;have hg:=h.gd hu;have ha:=JH h.a0 h.a1 n.At;have hnew:Lc.ok n.r ⟨some n.s,[]⟩:=⟨h.rep,(λs hs=>by injection hs with hs;subst hs;exact hg),λx hx=>(aAk hx).elim⟩
  obtain⟨f1,f2,f3⟩:=JS i1 i2 n.At;by_cases hc:(n.ls.swap n.At).1=0
  ·rw[if_pos hc];have hinv:=i1.swap i2 n.At hc;have hrecs:=QH hc;refine⟨h.rep,by dsimp only;rw[f1];exact h.n0,by dsimp only;rw[f1];exact h.n1,hinv.len,ha.1,ha.2,⟨⟨some n.s,[]⟩,hnew,?_⟩,λ_=>⟨hinv,hrecs.2.2⟩,λ_=>⟨hnew,hrecs.1.symm,rfl⟩⟩;show[5::fJ n.s]++[]=(LS.open (n.ls.swap n.At).2.N (n.ls.swap n.At).2.D (-1)).bF;rw[xZ hinv,hrecs.1,hrecs.2.1];rfl
  ·rw[if_neg hc];split
   ·refine⟨h.rep,by dsimp only;rw[f1];exact h.n0,by dsimp only;rw[f1];exact h.n1,by dsimp only;rw[f1,f2];exact h.len,ha.1,ha.2,?_,(λhu=>by cases hu),λhu=>by cases hu⟩;rcases f3 with⟨f3,_⟩|⟨f3,_⟩
    ·obtain⟨z,z1,z2⟩:=l1.take n.ls.kE;refine⟨z,z1,?_⟩;rw[z2,l2,←f3];show _=Frm.cZ (bB (n.ls.swap n.At).2.D (n.ls.swap n.At).2.N _);rw[f1]
    ·refine⟨⟨some n.s,[]⟩,hnew,?_⟩;show[5::fJ n.s]++[]=Frm.cZ (bB (n.ls.swap n.At).2.D (n.ls.swap n.At).2.N _);rw[f1,f3];rfl
   ·exact h
 ·rw[if_neg hu];exact h
end Go.Proofs.YtmilalkjbojciaaGreat.Sep
namespace Go.Proofs.YtmilalkjbojciaaGreat.Sep
open Go.RowKit Reg
open Mem hiding Rd
instance:cL 191 [.pointer none,.pointer none] [(0,1),(1,1)]:=⟨⟨q_,q_⟩⟩
instance:cL 181 [.pointer none,.int .i64 0,.int .i64 0,.int .i64 0,.int .i64 0,.int .i64 0,.int .i64 0,.pointer none] [(0,1),(1,5),(6,1),(7,1)]:=⟨⟨q_,q_⟩⟩
structure Nh where
 gm:Nat
 gl:Nat
 gs:Nat
 gd:Nat
abbrev ET(cf:fU)(r:Int)(m:Value)(gd:Nat):List Value:=[m,.int .i64 cf.bN,.int .i64 cf.eF,.int .i64 cf.dC,.int .i64 cf.base,.int .i64 cf.cap,.int .i64 r,pt gd]
abbrev fV(P:List Ov)(g:Nat)(cf:fU)(n:Nd)(k:Int)(x:Nh):List aL:=[aJ g 181 (ET cf n.r (pt x.gm) x.gd),aJ x.gm 191 [pt x.gl,pt x.gs],iB x.gl x.gd n.ls k,dI P x.gs n.s]
abbrev oT(g:Nat)(cf:fU)(n:Nd)(k:Int)(x:Nh):List aL:=[aJ g 181 (ET cf n.r (.pointer none) x.gd),kJ x.gd n.ls k]
def O4(P:List Ov)(g:Nat)(cf:fU)(n:Nd)(k:Int)(x:Nh):List aL:=match n.up with
 |true=>fV P g cf n k x
 |false=>oT g cf n k x
def bZ(P:List Ov)(g:Nat)(cf:fU)(n:Nd)(k:Int):aL:=nI (λ_:Nh=>n.ok) (O4 P g cf n k)
theorem bZ.up{P:List Ov}{g:Nat}{cf:fU}{n:Nd}{k:Int}{x:Nh}(h:n.ok)(hu:n.up=true):cA (fV P g cf n k x) [bZ P g cf n k]:=by
 have:=cA.fp (X:=Nh) (p:=λ_:Nh=>n.ok) (l:=O4 P g cf n k) (x:=x) h;unfold O4 at this;rw[hu] at this;have e:(nI (λ_:Nh=>n.ok) λx=>match true with|true=>fV P g cf n k x|false=>oT g cf n k x)=bZ P g cf n k:=by unfold bZ;congr 1;funext y;unfold O4;rw[hu]
 rw[e] at this;exact this
theorem bZ.dn{P:List Ov}{g:Nat}{cf:fU}{n:Nd}{k:Int}{x:Nh}(h:n.ok)(hu:n.up=false):cA (oT g cf n k x) [bZ P g cf n k]:=by
 have:=cA.fp (X:=Nh) (p:=λ_:Nh=>n.ok) (l:=O4 P g cf n k) (x:=x) h;unfold O4 at this;rw[hu] at this;have e:(nI (λ_:Nh=>n.ok) λx=>match false with|true=>fV P g cf n k x|false=>oT g cf n k x)=bZ P g cf n k:=by unfold bZ;congr 1;funext y;unfold O4;rw[hu]
 rw[e] at this;exact this
theorem oG{E:Env}{f:FuncId}{args:Array Value}{P:List Ov}{g:Nat}{cf:fU}{n:Nd}{k:Int}{R:List aL}{Q:Ending→List aL→Prop}(h1:∀x,n.ok→n.up=true→aK prog E f args (fV P g cf n k x++R) Q)(h2:∀x,n.ok→n.up=false→aK prog E f args (oT g cf n k x++R) Q):aK prog E f args (bZ P g cf n k::R) Q:=by
 refine aK.fp Has.aN λx hx=>?_;unfold O4;cases hu:n.up with
 |true=>exact h1 x hx hu
 |false=>exact h2 x hx hu
theorem fV.mono{P Q:List Ov}{g:Nat}{cf:fU}{n:Nd}{k k':Int}{x:Nh}(h:k≤k'):cA (fV P g cf n k x) (fV (P++Q) g cf n k' x):=cA.cons cA.refl (cA.cons cA.refl (cA.cons (iB.mono h) dI.mono))
theorem bZ.mono{P Q:List Ov}{g:Nat}{cf:fU}{n:Nd}{k k':Int}(h:k≤k'):cA [bZ P g cf n k] [bZ (P++Q) g cf n k']:=λF w hs=>by
 obtain⟨F1,F2,h1,h2,⟨x,G1,G2,g1,g2,g3,g4⟩,h4⟩:=hs;unfold O4 at g4;cases hu:n.up with
 |true =>
  rw[hu] at g4;obtain⟨F',k1,k2⟩:=(fV.mono (Q:=Q) h).trans (bZ.up g3.1 hu) G2 w g4;exact⟨F',k1,λb hb=>(h1 b).2 (.inl ((g1 b).2 (.inr (k2 b hb))))⟩
 |false =>
  rw[hu] at g4;obtain⟨F',k1,k2⟩:=(cA.cons cA.refl (kJ.mono h)).trans (bZ.dn (P:=P++Q) g3.1 hu) G2 w g4;exact⟨F',k1,λb hb=>(h1 b).2 (.inl ((g1 b).2 (.inr (k2 b hb))))⟩
section
variable (E:Env) (P:List Ov) (g:Nat) (cf:fU) (n:Nd) (k:Int)
theorem qL(r:Int)(m gd:Nat)(hb:gE E g (ET cf r (pt m) gd)):G E 69 [pt g] [] (cM (.bool true) []):=by
 refine t_ func69 ntmps69 ?_;repeat first|refine v_ ?_|intro
 exact B7
theorem Ae(r:Int)(gd:Nat)(hb:gE E g (ET cf r (.pointer none) gd)):G E 69 [pt g] [] (cM (.bool false) []):=by
 refine t_ func69 ntmps69 ?_;repeat first|refine v_ ?_|intro
 exact B7
theorem TI:G E 69 [pt g] [bZ P g cf n k] (cM (.bool n.up) [bZ P g cf n k]):=by
 refine oG (λx ho hu=>?_) (λx ho hu=>?_)
 ·rw[aAc,hu];refine aK.post (aK.read λM hE=>qL M g cf n.r x.gm x.gd (gE.of hE Has.aN)) ?_;rintro e H' ⟨H1,⟨rfl,rfl⟩,rfl⟩;exact⟨_,aB.cF (bZ.up ho hu),rfl,rfl⟩
 ·rw[aAc,hu];refine aK.post (aK.read λM hE=>Ae M g cf n.r x.gd (gE.of hE Has.aN)) ?_;rintro e H' ⟨H1,⟨rfl,rfl⟩,rfl⟩;exact⟨_,aB.cF (bZ.dn ho hu),rfl,rfl⟩
end
end Go.Proofs.YtmilalkjbojciaaGreat.Sep
namespace Go.Proofs.YtmilalkjbojciaaGreat.Sep
open Go.RowKit Reg Oct
open Mem hiding Rd
def Lc.upto(r:Int)(z:Lc)(i:Nat):Sv:=match z.base with
 |none=>F9 (Qb r) (z.l.take i)
 |some s=>if i=0 then Qb r else F9 s (z.l.take (i - 1))
theorem EF{s:Sv}{l:List Rc}{i:Nat}{x:Rc}(h:l[i]?=some x):F9 s (l.take (i+1))=((F9 s (l.take i)).doc x).1:=iX h
section
variable (E:Env)
theorem SI(P:List Ov)(r:Int)(z:LS)(lc:Lc)(hl:lc.ok r)(hb:lc.bs=z.bF)(gl gd:Nat)(k:Int):G E 168 [.int .i64 r,pt gl] [iB gl gd z k,aI P] λe H'=>∃Q gs,e=.returned (pt gs)∧H'=[iB gl gd z k,dI (P++Q) gs (lc.sv r),aI (P++Q)]:=by
 have hmax:=fX;have hrep:=hl.rep;have new:=λM=>Xt M P r;rw[show dF r 0 3=r by unfold dF;rw[if_neg o_,if_neg o_]] at new;refine t_ func168 ntmps168 ?_;repeat first|refine v_ ?_|intro
 refine bW new ?_;rintro e H' ⟨gs0,rfl,rfl⟩;repeat first|refine v_ ?_|intro
 refine bW (λM=>QM M gl gd z k) ?_;rintro e H' ⟨O,oc,xs,hxs,hxw,hxl,rfl,rfl⟩;refine gk bG ?_;have hxn:xs.length=z.bF.length:=by rw[←hxs,aAw]
 have hlm:z.bF.length≤maxLen:=o_;repeat first|refine v_ ?_|intro
 refine C.scan (Y:=Nat×List Ov) (l:=xs) hxn.symm (λi y=>[(0,.int .i64 r),(5,pt y.1),(13,.slice O z.bF.length oc),(14,.int .i64 z.bF.length),(15,.int .i64 i)])
  (λi y=>[dI (P++y.2) y.1 (lc.upto r i),aI (P++y.2),own vQ O z.bF.length oc xs,aO uL xs,iB gl gd z k]) (λ_ _=>True) (gs0,[]) aD (by dsimp only;rw[aAc,show lc.upto r 0=⟨Hb,[],r⟩ by unfold Lc.upto;split;rfl;rfl];exact aA) trivial ?_ ?_
 ·rintro i ⟨gs,Q⟩ y F hi hy -;dsimp only;have hyw:=hxw y (aAi hy);have hyb:lc.bs[i]?=some y.b:=by rw[hb,←hxs,aBf,hy];rfl
  refine C.conv (aB.out (f:=uL) (l:=xs) aS hy) ?_;cases hbase:lc.base with
  |none =>
   obtain⟨A,m,c,b⟩:=y;dsimp only at hyw hyb;obtain⟨hm,hbl⟩:=hyw;subst hm;have hyl:(lc.l.map Rc.b)[i]?=some b:=by have:=hyb;unfold Lc.bs at this;rw[hbase] at this;exact this
   rw[aBf] at hyl;obtain⟨x,hx,rfl⟩:∃x,lc.l[i]?=some x∧x.b=b:=by
    cases h:lc.l[i]? with
    |none=>rw[h] at hyl;cases hyl
    |some x=>rw[h] at hyl;exact⟨x,rfl,aDk hyl⟩
   obtain⟨xm,xo⟩:=hl.l x (aAi hx);have hkg:=Km xm xo;have hst:lc.upto r (i+1)=((lc.upto r i).doc x).1:=by unfold Lc.upto;rw[hbase];exact EF hx
   generalize lc.upto r i=sO at *;have law:=λM=>Sz M (P++Q) gs sO x xo;obtain⟨hb1,hb2,hb3⟩:=x.xW;obtain⟨b0,hb0⟩:∃b0,x.b[0]?=some b0:=⟨_,aAa hb1⟩
   have h5:decide ((b0.toNat:Int)=5)=false:=decide_eq_false λh=>hb3 (by rw[hb0];congr 1;exact aEg.1 (show b0.toNat=5 by omega));by_cases hi0:i=0
   ·subst hi0;repeat first|refine v_ ?_|intro
    refine dX (λM h1=>AD M A x.b.length c x.b h1 (by omega)) ?_;rw[hkg];rintro e H' ⟨rfl,rfl⟩;rw[aBe];repeat first|refine v_ ?_|intro
    refine bW law ?_;rintro e H' ⟨Q2,rfl,rfl⟩;repeat first|refine v_ ?_|intro
    exact⟨(gs,Q++Q2),aD,(by dsimp only;rw[hst,←aAb];exact aB.trans (aB.BH (f:=uL) (l':=xs) aC (oU hy)) aA),trivial⟩
   ·have hid:decide ((i:Int)=0)=false:=decide_eq_false o_;repeat first|refine v_ ?_|intro
    refine dX (λM h1=>AD M A x.b.length c x.b h1 (by omega)) ?_;rw[hkg];rintro e H' ⟨rfl,rfl⟩;rw[aBe];repeat first|refine v_ ?_|intro
    refine bW law ?_;rintro e H' ⟨Q2,rfl,rfl⟩;repeat first|refine v_ ?_|intro
    exact⟨(gs,Q++Q2),aD,(by dsimp only;rw[hst,←aAb];exact aB.trans (aB.BH (f:=uL) (l':=xs) aC (oU hy)) aA),trivial⟩
  |some s0 =>
   obtain⟨hg0,hr0⟩:=hl.base s0 hbase;by_cases hi0:i=0
   ·subst hi0;obtain⟨hm,hbl⟩:=hyw;have hyl:y.b=5::fJ s0:=by have:=hyb;unfold Lc.bs at this;rw[hbase] at this;exact(aDk this).symm
    have hst:lc.upto r (0+1)=s0:=by unfold Lc.upto;rw[hbase];rfl
    have h50:y.b[0]?=some (5:UInt8):=by rw[hyl];rfl
    have hy1:1≤y.n:=by rw[hm,hyl];simp
    have get:∀M,Rd M aU y.A y.n y.c y.b→_:=λM hr=>Z6 M (P++Q) s0 hg0 (if y.c=1 then y.A else y.A.map (·.add (1*aU.size))) (y.n - 1) (y.c - 1) (by have:=hr.from_ (k:=1) hy1;rw[hyl] at this;exact this);rw[hr0] at get;repeat first|refine v_ ?_|intro
    refine dX get ?_;rintro e H' ⟨Q2,gs2,rfl,rfl⟩;repeat first|refine v_ ?_|intro
    exact⟨(gs2,Q++Q2),aD,(by dsimp only;rw[hst,←aAb];exact aB.trans (aB.BH (f:=uL) (l':=xs) aC (oU hy)) aA),trivial⟩
   ·obtain⟨A,m,c,b⟩:=y;dsimp only at hyw hyb;obtain⟨hm,hbl⟩:=hyw;subst hm;have hid:decide ((i:Int)=0)=false:=decide_eq_false o_;have hyl:(lc.l.map Rc.b)[i - 1]?=some b:=by
     have:=hyb;unfold Lc.bs Gb at this;rw[hbase] at this;obtain⟨j,rfl⟩:∃j,i=j+1:=⟨i - 1,by omega⟩
     exact this
    rw[aBf] at hyl;obtain⟨x,hx,rfl⟩:∃x,lc.l[i - 1]?=some x∧x.b=b:=by
     cases h:lc.l[i - 1]? with
     |none=>rw[h] at hyl;cases hyl
     |some x=>rw[h] at hyl;exact⟨x,rfl,aDk hyl⟩
    obtain⟨xm,xo⟩:=hl.l x (aAi hx);have hkg:=Km xm xo;have hst:lc.upto r (i+1)=((lc.upto r i).doc x).1:=by
     unfold Lc.upto;rw[hbase];dsimp only;rw[if_neg o_,if_neg hi0,show i+1 - 1=(i - 1)+1 by omega];exact EF hx
    generalize lc.upto r i=sO at *;have law:=λM=>Sz M (P++Q) gs sO x xo;obtain⟨hb1,hb2,hb3⟩:=x.xW;repeat first|refine v_ ?_|intro
    refine dX (λM h1=>AD M A x.b.length c x.b h1 (by omega)) ?_;rw[hkg];rintro e H' ⟨rfl,rfl⟩;rw[aBe];repeat first|refine v_ ?_|intro
    refine bW law ?_;rintro e H' ⟨Q2,rfl,rfl⟩;repeat first|refine v_ ?_|intro
    exact⟨(gs,Q++Q2),aD,(by dsimp only;rw[hst,←aAb];exact aB.trans (aB.BH (f:=uL) (l':=xs) aC (oU hy)) aA),trivial⟩
 ·rintro⟨gs,Q⟩ F -;dsimp only;have hlast:lc.upto r z.bF.length=lc.sv r:=by
   rw[←hb];unfold Lc.upto Lc.sv Lc.bs Gb;cases hbase:lc.base with
   |none=>dsimp only;rw[aAj (by simp)];rfl
   |some s0=>dsimp only;rw[if_neg (by simp),aAj (by simp)];rfl
  rw[hlast];repeat first|refine v_ ?_|intro
  exact jQ ⟨Q,gs,rfl,rfl⟩
end
abbrev ZG(P:List Ov)(gm gl gs gd:Nat)(z:LS)(k:Int)(s:Sv):List aL:=[aJ gm 191 [pt gl,pt gs],iB gl gd z k,dI P gs s]
section
variable (E:Env) (P:List Ov) (g:Nat) (cf:fU) (n:Nd) (k:Int)
theorem J8(r:Int)(z:LS)(lc:Lc)(gd:Nat)(hd:z.dead=false)(ha:z.aG = -1)(hk:k≤10000000000000)(hl:lc.ok r)(hb:lc.bs=(LS.open z.N z.D (-1)).bF):G E 107 [.int .i64 r,pt gd] [kJ gd z k,aI P] λe H'=>∃Q gm gl gs,e=.returned (pt gm)∧H'=ZG (P++Q) gm gl gs gd (LS.open z.N z.D (-1)) (k+2048) (lc.sv r)++[aI (P++Q)]:=by
 have pG:=λM=>Xy M gd z k hd ha hk;have rcl:=λM gl=>SI M P r (LS.open z.N z.D (-1)) lc hl hb gl gd (k+2048);generalize LS.open z.N z.D (-1)=z2 at *;refine t_ func107 ntmps107 ?_;repeat first|refine v_ ?_|intro
 refine bW pG ?_;rintro e H' ⟨gl,rfl,rfl⟩;repeat first|refine v_ ?_|intro
 refine bW (λM=>rcl M gl) ?_;rintro e H' ⟨Q,gs,rfl,rfl⟩;repeat first|refine v_ ?_|intro
 rename_i gm;exact jQ ⟨Q,gm,gl,gs,rfl,rfl⟩
theorem wW:G E 70 [pt g] [bZ P g cf n k] λe H'=>if n.up then ∃g2,e=.returned (pt g2)∧H'=[dI P g2 n.s,bZ P g cf n k] else e=.returned (.pointer none)∧H'=[bZ P g cf n k]:=by
 refine oG (λx ho hu=>?_) (λx ho hu=>?_)
 ·rw[aAc];simp only[hu,if_true];have cln:=λM=>Ij M P x.gs n.s;refine t_ func70 ntmps70 ?_;repeat first|refine v_ ?_|intro
  refine eV (λM=>qL M g cf n.r x.gm x.gd) ?_;repeat first|refine v_ ?_|intro
  refine bW cln ?_;rintro e H' ⟨g2,rfl,rfl⟩;repeat first|refine v_ ?_|intro
  exact aR (H':=[dI P g2 n.s,bZ P g cf n k]) rfl aF (aB.trans (aB.aV (l:=[dI P g2 n.s]++fV P g cf n k x) aC) (aB.cF (cA.cons cA.refl (bZ.up ho hu)))) ⟨g2,rfl,rfl⟩
 ·rw[aAc];simp only[hu,aCb,if_false];refine t_ func70 ntmps70 ?_;repeat first|refine v_ ?_|intro
  refine eV (λM=>Ae M g cf n.r x.gd) ?_;repeat first|refine v_ ?_|intro
  exact aR (H':=[bZ P g cf n k]) rfl aF (aB.trans (aB.aV (l:=oT g cf n k x) aC) (aB.cF (bZ.dn ho hu))) ⟨rfl,rfl⟩
theorem DN(x:Nh):G E 128 [pt g] (fV P g cf n k x) (cM (.bool true) (oT g cf n k x)):=by
 refine t_ func128 ntmps128 ?_;repeat first|refine v_ ?_|intro
 refine eV (λM=>qL M g cf n.r x.gm x.gd) ?_;repeat first|refine v_ ?_|intro
 exact aR (H':=oT g cf n k x) rfl aF (aB.trans (aB.aV (l:=[iB x.gl x.gd n.ls k,aJ g 181 (ET cf n.r (.pointer none) x.gd)]) aC) (aB.trans (aB.cF iB.down) aA)) ⟨rfl,rfl⟩
theorem UM:G E 128 [pt g] [bZ P g cf n k] (cM (.bool n.up) [bZ P g cf (if n.up then n.CA else n) k]):=by
 refine oG (λx ho hu=>?_) (λx ho hu=>?_)
 ·rw[aAc,hu,if_pos rfl];refine aK.post (DN E P g cf n k x) ?_;rintro e H' ⟨rfl,rfl⟩;exact⟨_,aB.cF (bZ.dn (n:=n.CA) ho.CA rfl),rfl,rfl⟩
 ·rw[aAc,hu,if_neg sD];refine t_ func128 ntmps128 ?_;repeat first|refine v_ ?_|intro
  refine eV (λM=>Ae M g cf n.r x.gd) ?_;repeat first|refine v_ ?_|intro
  exact aR (H':=[bZ P g cf n k]) rfl aF (aB.trans (aB.aV (l:=oT g cf n k x) aC) (aB.cF (bZ.dn ho hu))) ⟨rfl,rfl⟩
theorem tZ(e0:Int)(h:e0≠19):G E 111 [pt g,.int .i64 e0] [] (cM (.int .i64 e0) []):=by
 refine t_ func111 ntmps111 ?_;repeat first|refine v_ ?_|intro
 exact B7
theorem Gk(x:Nh):G E 111 [pt g,.int .i64 19] (fV P g cf n k x) (cM (.int .i64 19) (oT g cf n k x)):=by
 refine t_ func111 ntmps111 ?_;repeat first|refine v_ ?_|intro
 refine bK (λM=>DN M P g cf n k x) ?_;repeat first|refine v_ ?_|intro
 exact B7
theorem KU(hk:k≤10000000000000):G E 54 [pt g] [bZ P g cf n k] (cM (.int .i64 n.sync.2) [bZ P g cf n.sync.1 (k+2048)]):=by
 refine oG (λx ho hu=>?_) (λx ho hu=>?_)
 ·rw[aAc];have hok:=ho.sync;obtain⟨i1,i2⟩:=ho.inv hu;have hcode:=My i2;unfold Nd.sync at hok⊢;rw[if_pos hu] at hok⊢;have syn:=λM=>async M x.gl x.gd n.ls k hk;generalize n.ls.sync=res at *;obtain⟨cd,z2⟩:=res;dsimp only at hcode hok syn⊢;rcases hcode with rfl|rfl
  ·rw[if_pos rfl] at hok⊢;refine t_ func54 ntmps54 ?_;repeat first|refine v_ ?_|intro
   refine eV (λM=>qL M g cf n.r x.gm x.gd) ?_;repeat first|refine v_ ?_|intro
   refine bK syn ?_;repeat first|refine v_ ?_|intro
   refine bK (λM=>tZ M g 0 (by decide)) ?_;repeat first|refine v_ ?_|intro
   exact aR rfl aF (aB.trans (aB.aV (l:=fV P g cf ⟨n.r,z2,true,n.lc,n.s⟩ (k+2048) x) aC) (aB.cF (bZ.up hok rfl))) ⟨rfl,rfl⟩
  ·rw[if_neg sD] at hok⊢;have dd:=λM=>Gk M P g cf ⟨n.r,z2,false,n.lc,n.s⟩ (k+2048) x;refine t_ func54 ntmps54 ?_;repeat first|refine v_ ?_|intro
   refine eV (λM=>qL M g cf n.r x.gm x.gd) ?_;repeat first|refine v_ ?_|intro
   refine bK syn ?_;repeat first|refine v_ ?_|intro
   refine bK dd ?_;repeat first|refine v_ ?_|intro
   exact aR rfl aF (aB.trans (aB.aV (l:=oT g cf ⟨n.r,z2,false,n.lc,n.s⟩ (k+2048) x) aC) (aB.cF (bZ.dn hok rfl))) ⟨rfl,rfl⟩
 ·rw[aAc];unfold Nd.sync;rw[if_neg (by rw[hu];decide)];refine t_ func54 ntmps54 ?_;repeat first|refine v_ ?_|intro
  refine eV (λM=>Ae M g cf n.r x.gd) ?_;repeat first|refine v_ ?_|intro
  exact aR rfl aF (aB.trans (aB.aV (l:=oT g cf n k x) aC) (aB.cF ((cA.cons cA.refl (kJ.mono o_)).trans (bZ.dn ho hu)))) ⟨rfl,rfl⟩
end
section
variable (E:Env) (P:List Ov) (g:Nat) (cf:fU) (n:Nd) (k:Int)
theorem Nd.ok.Zw{n:Nd}(h:n.ok):(vG n.r n.qO).ok n.r∧(vG n.r n.qO).bs=(LS.open n.ls.N n.ls.D (-1)).bF:=Dl h.qO
theorem TH(hk:k≤10000000000000):G E 71 [pt g] [bZ P g cf n k,aI P] λe H'=>∃Q g2,e=.returned (pt g2)∧H'=[dI (P++Q) g2 n.stored,bZ (P++Q) g cf n k,aI (P++Q)]:=by
 refine oG (λx ho hu=>?_) (λx ho hu=>?_)
 ·obtain⟨z1,z2⟩:=ho.Zw;have pG:=λM g'=>J8 M P k n.r n.ls.oD (vG n.r n.qO) g' rfl rfl hk z1 z2;simp only[show LS.open n.ls.oD.N n.ls.oD.D (-1)=LS.open n.ls.N n.ls.D (-1) from rfl] at pG;generalize LS.open n.ls.N n.ls.D (-1)=zz at pG;have hs:(vG n.r n.qO).sv n.r=n.stored:=rfl;rw[hs] at pG;dsimp only[fV,oT,List.cons_append,List.nil_append];refine t_ func71 ntmps71 ?_;repeat first|refine v_ ?_|intro
  refine bW (λM=>NF M x.gl x.gd n.ls k) ?_;rintro e H' ⟨g',rfl,rfl⟩;repeat first|refine v_ ?_|intro
  refine bK (λM=>EL M g' n.ls k) ?_;repeat first|refine v_ ?_|intro
  refine bW (λM=>pG M g') ?_;rintro e H' ⟨Q,gm,gl,gs,rfl,rfl⟩;repeat first|refine v_ ?_|intro
  exact aR (H':=[dI (P++Q) gs n.stored,bZ (P++Q) g cf n k,aI (P++Q)]) rfl aF (aB.trans (aB.aV (l:=[dI (P++Q) gs n.stored]++(fV P g cf n k x++[aI (P++Q)])) aC) (aB.cF (cA.cons cA.refl (cA.append ((fV.mono (aCd k)).trans (bZ.up ho hu)) cA.refl)))) ⟨Q,gs,rfl,rfl⟩
 ·obtain⟨z1,z2⟩:=ho.Zw;have pG:=λM g'=>J8 M P k n.r n.ls.oD (vG n.r n.qO) g' rfl rfl hk z1 z2;simp only[show LS.open n.ls.oD.N n.ls.oD.D (-1)=LS.open n.ls.N n.ls.D (-1) from rfl] at pG;generalize LS.open n.ls.N n.ls.D (-1)=zz at pG;have hs:(vG n.r n.qO).sv n.r=n.stored:=rfl;rw[hs] at pG;dsimp only[fV,oT,List.cons_append,List.nil_append];refine t_ func71 ntmps71 ?_;repeat first|refine v_ ?_|intro
  refine bW (λM=>Vm M x.gd n.ls k) ?_;rintro e H' ⟨g',rfl,rfl⟩;repeat first|refine v_ ?_|intro
  refine bK (λM=>EL M g' n.ls k) ?_;repeat first|refine v_ ?_|intro
  refine bW (λM=>pG M g') ?_;rintro e H' ⟨Q,gm,gl,gs,rfl,rfl⟩;repeat first|refine v_ ?_|intro
  exact aR (H':=[dI (P++Q) gs n.stored,bZ (P++Q) g cf n k,aI (P++Q)]) rfl aF (aB.trans (aB.aV (l:=[dI (P++Q) gs n.stored]++(oT g cf n k x++[aI (P++Q)])) aC) (aB.cF (cA.cons cA.refl (cA.append (bZ.dn ho hu) cA.refl)))) ⟨Q,gs,rfl,rfl⟩
theorem aId(hk:k≤10000000000000):G E 129 [pt g] [bZ P g cf n k,aI P] λe H'=>∃Q,e=.returned (.int .i64 n.rO.2)∧H'=[bZ (P++Q) g cf n.rO.1 (k+2048),aI (P++Q)]:=by
 refine oG (λx ho hu=>?_) (λx ho hu=>?_)
 ·unfold Nd.rO;rw[if_pos hu];dsimp only[fV,oT,List.cons_append,List.nil_append];refine t_ func129 ntmps129 ?_;repeat first|refine v_ ?_|intro
  refine eV (λM=>qL M g cf n.r x.gm x.gd) ?_;repeat first|refine v_ ?_|intro
  exact aR (H':=[bZ (P++[]) g cf n (k+2048),aI (P++[])]) rfl aF (aB.trans (aB.aV (l:=fV P g cf n k x++[aI P]) aC) (aB.cF (cA.append ((fV.mono o_).trans (bZ.up ho hu)) (by rw[aAc];exact cA.refl)))) ⟨[],rfl,rfl⟩
 ·unfold Nd.rO;rw[if_neg (by rw[hu];decide)];obtain⟨z1,z2⟩:=ho.Zw;have hok:=ho.opened;have pG:=λM=>J8 M P k n.r n.ls.oD (vG n.r n.qO) x.gd rfl rfl hk z1 z2;unfold Nd.opened at hok⊢;simp only[show LS.open n.ls.oD.N n.ls.oD.D (-1)=LS.open n.ls.N n.ls.D (-1) from rfl] at pG;generalize LS.open n.ls.N n.ls.D (-1)=zz at pG hok⊢;have hs:(vG n.r n.qO).sv n.r=n.stored:=rfl;rw[hs] at pG;dsimp only[fV,oT,List.cons_append,List.nil_append];refine t_ func129 ntmps129 ?_;repeat first|refine v_ ?_|intro
  refine eV (λM=>Ae M g cf n.r x.gd) ?_;repeat first|refine v_ ?_|intro
  refine bK (λM=>EL M x.gd n.ls k) ?_;repeat first|refine v_ ?_|intro
  refine C.bL 12 (l_ [0,1,2,3,4,5,6,7,8] (g_ 9 (l_ [10,11] (g_ 12 .nil)))) ([aJ g 181 (ET cf n.r (.pointer none) x.gd)]) q_ q_ aA ?_;repeat first|refine v_ ?_|intro
  refine iO pG ?_;rintro e H' ⟨Q,gm,gl,gs,rfl,rfl⟩;repeat first|refine v_ ?_|intro
  exact aR (H':=[bZ (P++Q) g cf ⟨n.r,zz,true,vG n.r n.qO,n.stored⟩ (k+2048),aI (P++Q)]) rfl aF (aB.trans (aB.aV (l:=fV (P++Q) g cf ⟨n.r,zz,true,vG n.r n.qO,n.stored⟩ (k+2048) ⟨gm,gl,gs,x.gd⟩++[aI (P++Q)]) aC) (aB.cF (cA.append (bZ.up hok rfl) cA.refl))) ⟨Q,rfl,rfl⟩
theorem ZD(q:Int)(hq:q≤9223372036854775807):G E 131 [pt g,.int .i64 q] [bZ P g cf n k] (cM (.tuple #[]) [bZ P g cf (n.arm q) k]):=by
 refine oG (λx ho hu=>?_) (λx ho hu=>?_)
 ·rw[aAc];have hok:=ho.arm hq;have arm:=λM=>ZI M x.gl x.gd n.ls k q hq;unfold Nd.arm at hok⊢;rw[if_pos hu] at hok⊢;have e:n.ls.Tm q=n.ls.arm q:=rfl;rw[e] at arm;generalize n.ls.arm q=zz at *;refine t_ func131 ntmps131 ?_;repeat first|refine v_ ?_|intro
  refine eV (λM=>qL M g cf n.r x.gm x.gd) ?_;repeat first|refine v_ ?_|intro
  refine bK arm ?_;repeat first|refine v_ ?_|intro
  exact gO rfl (aB.trans (aB.aV (l:=fV P g cf ⟨n.r,zz,true,n.lc,n.s⟩ k x) aC) (aB.cF (bZ.up hok rfl))) ⟨rfl,rfl⟩
 ·rw[aAc];unfold Nd.arm;rw[if_neg (by rw[hu];decide)];refine t_ func131 ntmps131 ?_;repeat first|refine v_ ?_|intro
  refine eV (λM=>Ae M g cf n.r x.gd) ?_;repeat first|refine v_ ?_|intro
  exact gO rfl (aB.trans (aB.aV (l:=oT g cf n k x) aC) (aB.cF (bZ.dn ho hu))) ⟨rfl,rfl⟩
theorem HW(N:Nat)(h0:1≤N)(h1:N≤64):LS.open N (LS.new N).D (-1)=LS.new N:=by
 have h:=(CD (Inv.new h0 h1) (-1)).2.2.2;rw[Lq] at h;exact h
theorem Z2(r:Nat)(N:Nat)(hr:r≤3)(hN:cf.eF=N)(h0:1≤N)(h1:N≤64):G E 48 [.agg cf.cs.toArray,.int .i64 r] [aI P] λe H'=>∃Q g,e=.returned (pt g)∧H'=[bZ (P++Q) g cf (Nd.new r N) 2048,aI (P++Q)]:=by
 have hok:(Nd.new r N).ok:=Nd.ok.new ⟨by omega,by omega⟩ h0 h1;have nw:=λM=>ZT M (2*(N:Int)+1) N rfl h0 h1;have pG:=λM g'=>J8 M P 0 r (LS.new N) ⟨none,[]⟩ g' rfl rfl sD (Lc.E3 ⟨by omega,by omega⟩) (by show[]=(LS.open N (LS.new N).D (-1)).bF;rw[HW N h0 h1];rfl);simp only[Int.zero_add] at pG;have e:LS.open (LS.new N).N (LS.new N).D (-1)=LS.new N:=HW N h0 h1;rw[e,show Lc.sv (r:Int) ⟨none,[]⟩=Qb r from rfl] at pG;have c1:dF (r:Int) 0 3=r:=by unfold dF;rw[if_neg o_,if_neg o_]
 have c2:dF cf.eF 1 64=N:=by rw[hN];unfold dF;rw[if_neg o_,if_neg o_]
 have hw:IntKind.i64.wrap (IntKind.i64.wrap (2*(N:Int))+1)=2*(N:Int)+1:=by rw[aAq (2*(N:Int)) o_,aAq _ o_]
 unfold Nd.new at hok⊢;generalize LS.new N=zz at *;dsimp only[fU.cs];refine t_ func48 ntmps48 ?_;repeat first|refine v_ ?_|intro
 refine rA (l_ [0,1] (g_ 2 (n_ 3 (g_ 4 (n_ 5 .nil))))) ?_;repeat first|refine v_ ?_|intro
 rw[c1,c2];rename_i gc gn;refine bW nw ?_;rintro e H' ⟨g',rfl,rfl⟩;repeat first|refine v_ ?_|intro
 refine C.bL 12 (l_ [0,1,2,3,4,5,6,7,8] (g_ 9 (l_ [10,11] (g_ 12 .nil)))) ([aJ gn 181 (ET cf r (.pointer none) g')]) q_ q_ aA ?_;repeat first|refine v_ ?_|intro
 refine iO (λM=>pG M g') ?_;rintro e H' ⟨Q,gm,gl,gs,rfl,rfl⟩;repeat first|refine v_ ?_|intro
 exact aR (H':=[bZ (P++Q) gn cf ⟨r,zz,true,⟨none,[]⟩,Qb r⟩ 2048,aI (P++Q)]) rfl aF (aB.trans (aB.aV (l:=fV (P++Q) gn cf ⟨r,zz,true,⟨none,[]⟩,Qb r⟩ 2048 ⟨gm,gl,gs,g'⟩++[aI (P++Q)]) aC) (aB.cF (cA.append (bZ.up hok rfl) cA.refl))) ⟨Q,gn,rfl,rfl⟩
end
theorem RA{l:List (List UInt8)}:(∀x∈l,1≤x.length)→8*l.length≤(cat l).length:=by
 induction l with
 |nil=>exact λ_=>aAf _
 |cons x l ih =>
  intro h;have h1:=ih λy hy=>h y (aBl _ hy);have h2:=h x aBo;rw[CY,aAe,Frm.bO,aAs];omega
theorem Inv.rK{s:LS}(h:Inv s):s.bF.length≤300:=by
 have h1:=RA λx hx=>(h.Ly x hx).1;have h2:=h.fit;have h3:=h.n1;rw[BD h,aAe,←h.pos,←h.cG] at h1;omega
theorem I2{s:LS}{b:List UInt8}(h:(s.append b).1≠0):(s.append b).2=s:=by
 rcases tI (s:=s) (b:=b) with e|⟨h0,_⟩
 ·exact e
 ·exact absurd h0 h
section
variable (E:Env) (P:List Ov) (g:Nat) (cf:fU) (n:Nd) (k:Int)
theorem Jf(hu:n.up=true)(x:Rc)(hx:x.ok):G E 170 [pt g,.agg x.r.cs.toArray] [bZ P g cf n k,aI P] λe H'=>∃Q,e=.returned (.int .i64 (n.write x).2)∧H'=[bZ (P++Q) g cf (n.write x).1 k,aI (P++Q)]:=by
 refine oG (λy ho _=>?_) (λy ho hd=>by rw[hu] at hd;cases hd);have hok:=ho.write hx hu;obtain⟨i1,i2⟩:=ho.inv hu;have hfew:=i1.rK;have cln:=λM=>Ij M P y.gs n.s;have doo:=λM g2=>Sz M P g2 n.s x hx;have doo2:=λM Q=>Sz M (P++Q) y.gs n.s x hx;have app:=λM A c hr=>So M y.gl y.gd n.ls k o_ A x.b.length c x.b hr;have herr:=I2 (s:=n.ls) (b:=x.b);have hmay:=Ke (s:=n.s) (x:=x);have put:=λM hm=>W2 M x hm;have hbl:=x.xW;unfold Nd.write at hok⊢;generalize n.s.doc x=res at *;obtain⟨s2,code⟩:=res;generalize n.ls.append x.b=ap at *;obtain⟨ca,zz⟩:=ap;dsimp only at hok doo doo2 app herr hmay⊢;generalize x.b=xb at *;generalize x.r=xr at *;dsimp only[fV,pD.cs,List.cons_append,List.nil_append] at doo doo2 put⊢;have same:∀Q:List Ov,aB E (fV P g cf n k y++[aI (P++Q)]) [bZ (P++Q) g cf n k,aI (P++Q)]:=λQ=>aB.cF (cA.append ((fV.mono (aCd k)).trans (bZ.up ho hu)) cA.refl);by_cases hc:code=0
 ·subst hc;rw[if_pos rfl] at hok⊢;have hm:=hmay rfl;by_cases ha:ca=0
  ·subst ha;rw[if_pos rfl] at hok⊢;refine t_ func170 ntmps170 ?_;repeat first|refine v_ ?_|intro
   rename_i g3;refine rB (l_ [0,1,2,3,4,5,6,8] (g_ 7 (g_ 9 (n_ 10 .nil)))) ([aJ g 181 (ET cf n.r (pt y.gm) y.gd),aJ y.gm 191 [pt y.gl,pt y.gs],aJ g3 202 _]) ?_;repeat first|refine v_ ?_|intro
   refine iO cln ?_;rintro e H' ⟨g2,rfl,rfl⟩;repeat first|refine v_ ?_|intro
   refine iO (λM=>doo M g2) ?_;rintro e H' ⟨Q,rfl,rfl⟩;repeat first|refine v_ ?_|intro
   refine bW (λM=>put M hm) ?_;rintro e H' ⟨A,c,rfl,rfl⟩;repeat first|refine v_ ?_|intro
   refine eV (λM=>app M A c) ?_;repeat first|refine v_ ?_|intro
   refine C.conv (aB.imp (A:=[dI P y.gs n.s]) (B:=[dI (P++Q) y.gs n.s]) dI.mono aC) ?_;dsimp only[List.cons_append,List.nil_append];refine rB (l_ [0,1,2,3,4,5,6,7] (g_ 8 (n_ 9 .nil))) ([aJ g 181 (ET cf n.r (pt y.gm) y.gd),aJ y.gm 191 [pt y.gl,pt y.gs],aJ g3 202 _]) ?_;repeat first|refine v_ ?_|intro
   refine iO (λM=>doo2 M Q) ?_;rintro e H' ⟨Q2,rfl,rfl⟩;repeat first|refine v_ ?_|intro
   exact aR (H':=[bZ (P++(Q++Q2)) g cf ⟨n.r,zz,n.up,⟨n.lc.base,n.lc.l++[x]⟩,s2⟩ k,aI (P++(Q++Q2))]) rfl aF (by rw[←aAb];exact aB.trans (aB.aV (l:=fV (P++Q++Q2) g cf ⟨n.r,zz,n.up,⟨n.lc.base,n.lc.l++[x]⟩,s2⟩ k y++[aI (P++Q++Q2)]) aC) (aB.cF (cA.append (bZ.up hok hu) cA.refl))) ⟨Q++Q2,rfl,rfl⟩
  ·rw[if_neg ha] at hok⊢;have hzz:=herr ha;subst hzz;refine t_ func170 ntmps170 ?_;repeat first|refine v_ ?_|intro
   rename_i g3;refine rB (l_ [0,1,2,3,4,5,6,8] (g_ 7 (g_ 9 (n_ 10 .nil)))) ([aJ g 181 (ET cf n.r (pt y.gm) y.gd),aJ y.gm 191 [pt y.gl,pt y.gs],aJ g3 202 _]) ?_;repeat first|refine v_ ?_|intro
   refine iO cln ?_;rintro e H' ⟨g2,rfl,rfl⟩;repeat first|refine v_ ?_|intro
   refine iO (λM=>doo M g2) ?_;rintro e H' ⟨Q,rfl,rfl⟩;repeat first|refine v_ ?_|intro
   refine bW (λM=>put M hm) ?_;rintro e H' ⟨A,c,rfl,rfl⟩;repeat first|refine v_ ?_|intro
   refine eV (λM=>app M A c) ?_;repeat first|refine v_ ?_|intro
   exact aR rfl aF (aB.trans (aB.aV (l:=fV P g cf n k y++[aI (P++Q)]) aC) (same Q)) ⟨Q,rfl,rfl⟩
 ·rw[if_neg hc];refine t_ func170 ntmps170 ?_;repeat first|refine v_ ?_|intro
  rename_i g3;refine rB (l_ [0,1,2,3,4,5,6,8] (g_ 7 (g_ 9 (n_ 10 .nil)))) ([aJ g 181 (ET cf n.r (pt y.gm) y.gd),aJ y.gm 191 [pt y.gl,pt y.gs],aJ g3 202 _]) ?_;repeat first|refine v_ ?_|intro
  refine iO cln ?_;rintro e H' ⟨g2,rfl,rfl⟩;repeat first|refine v_ ?_|intro
  refine iO (λM=>doo M g2) ?_;rintro e H' ⟨Q,rfl,rfl⟩;repeat first|refine v_ ?_|intro
  exact aR rfl aF (aB.trans (aB.aV (l:=fV P g cf n k y++[aI (P++Q)]) aC) (same Q)) ⟨Q,rfl,rfl⟩
end
theorem Jj{c:aX}(h:c.may=true)(hn:dQ c.n):c.ok:=by
 obtain⟨h1,h2,h3,h4,h5,h6,h7⟩:=(aX.bY c).1 h;refine⟨⟨?_,?_⟩,?_,?_,?_,?_,hn,?_,?_⟩<;>unfold dQ<;>omega
theorem Rz{s:Sv}{c:aX}(hn:dQ c.n)(h:(s.make c).2=0):(s.make c).1.ok∧(s.make c).1.may=true:=by
 unfold Sv.make at h⊢;split at h
 ·cases h
 ·rename_i h1;rw[if_neg h1];split at h
  ·rename_i h2;rw[if_pos h2];exact⟨Jj h2 hn,h2⟩
  ·cases h
def Nd.fC(n:Nd)(c:aX):Nd×aX×Int :=
 if n.up then
  (if (n.s.make c).2=0 then(if (n.write (.lI (n.s.make c).1)).2=0 then((n.write (.lI (n.s.make c).1)).1,(n.s.make c).1,0) else((n.write (.lI (n.s.make c).1)).1,dO,(n.write (.lI (n.s.make c).1)).2))
  else(n,dO,(n.s.make c).2))
 else(n,dO,19)
def Nd.AQ(n:Nd):List Rc→Nat→Nd×Nat×Int
 | [],i=>(n,i,0)
 |x::l,i=>if (n.write x).2=0 then Nd.AQ (n.write x).1 l (i+1) else((n.write x).1,i,(n.write x).2)
def Nd.take(n:Nd)(l:List Rc):Nd×Nat×Int:=if n.up then n.AQ l 0 else(n,0,19)
theorem qU(n:Nd)(x:Rc):(n.write x).1.up=n.up:=by
 unfold Nd.write;split
 ·split<;>rfl
 ·rfl
section
variable (E:Env) (P:List Ov) (g:Nat) (cf:fU) (n:Nd) (k:Int)
theorem TN(c:aX)(hc:dQ c.n):G E 109 [pt g,.agg c.cs.toArray] [bZ P g cf n k,aI P] λe H'=>∃Q,e=.returned (.tuple #[.agg (n.fC c).2.1.cs.toArray,.int .i64 (n.fC c).2.2])∧H'=[bZ (P++Q) g cf (n.fC c).1 k,aI (P++Q)]:=by
 have mono0:aB E [bZ P g cf n k,aI P] [bZ (P++[]) g cf n k,aI (P++[])]:=by rw[aAc];exact aB.refl
 refine oG (λy ho hu=>?_) (λy ho hu=>?_)
 ·have upp:∀Q:List Ov,aB E (fV P g cf n k y++[aI P]) [bZ P g cf n k,aI P]:=λQ=>aB.cF (cA.append (bZ.up ho hu) cA.refl);have mk:=λM=>T3 M P y.gs n.s c;have hmk:=Rz (s:=n.s) (c:=c) hc;have law:=λM hx=>Jf M P g cf n k hu (.lI (n.s.make c).1) hx;unfold Nd.fC;rw[if_pos hu];generalize n.s.make c=m at *;obtain⟨c2,code⟩:=m;dsimp only at hmk law mk⊢;generalize n.write (.lI c2)=w at *;obtain⟨n2,e2⟩:=w;dsimp only[fV,List.cons_append,List.nil_append,aX.cs] at mk law⊢;by_cases h0:code=0
  ·subst h0;rw[if_pos rfl];have hx:(Rc.lI c2).ok:=(hmk rfl).1;refine t_ func109 ntmps109 ?_;repeat first|refine v_ ?_|refine Dr.two ?_ ?_|intro
   refine eV (λM=>qL M g cf n.r y.gm y.gd) ?_;repeat first|refine v_ ?_|refine Dr.two ?_ ?_|intro
   rename_i g3 g4;refine C.BI (X:=Unit) (λ_=>[(0,pt g),(3,pt g3),(4,pt g4),(6,.int .i64 0)]) (λ_=>[aJ g 181 (ET cf n.r (pt y.gm) y.gd),aJ y.gm 191 [pt y.gl,pt y.gs],iB y.gl y.gd n.ls k,dI P y.gs n.s,aI P,aJ g4 34 dO.cs,aJ g3 34 c2.cs]) (λ_=>True) ?_ ?_
   ·refine C.bL 12 (l_ [0,1,2,3,4,5,6,7] (g_ 8 (l_ [9,10] (.two 11 (g_ 12 (g_ 13 .nil)) 12 (g_ 11 (g_ 13 .nil)))))) ([aJ g 181 (ET cf n.r (pt y.gm) y.gd),aJ y.gm 191 [pt y.gl,pt y.gs],aJ g3 34 _]) q_ q_ aA ?_;repeat first|refine v_ ?_|refine Dr.two ?_ ?_|intro
    refine eJ mk ?_;repeat first|refine v_ ?_|intro
    refine Dr.two ?_ ?_
    ·repeat first|refine cY ?_|intro
     exact⟨(),aD,aA,trivial⟩
    ·repeat first|refine cY ?_|intro
     exact⟨(),aD,aA,trivial⟩
   rintro - F -;dsimp only[aX.cs];refine C.conv (aB.trans (aB.aV (l:=fV P g cf n k y++[aI P,aJ g4 34 dO.cs,aJ g3 34 c2.cs]) aC) (aB.cF (cA.append (bZ.up ho hu) cA.refl))) ?_;dsimp only[List.cons_append,List.nil_append,aX.cs];by_cases he:e2=0
   ·subst he;rw[if_pos rfl];repeat first|refine v_ ?_|refine Dr.two ?_ ?_|intro
    refine bK (λM=>qM M c2) ?_;repeat first|refine v_ ?_|refine Dr.two ?_ ?_|intro
    refine bW (λM=>law M hx) ?_;rintro e H' ⟨Q,rfl,rfl⟩;repeat first|refine v_ ?_|refine Dr.two ?_ ?_|intro
    exact gS (H':=[bZ (P++Q) g cf n2 k,aI (P++Q)]) rfl aF rfl rfl rfl aS rfl aF aA ⟨Q,rfl,rfl⟩
   ·rw[if_neg he];repeat first|refine v_ ?_|refine Dr.two ?_ ?_|intro
    refine bK (λM=>qM M c2) ?_;repeat first|refine v_ ?_|refine Dr.two ?_ ?_|intro
    refine bW (λM=>law M hx) ?_;rintro e H' ⟨Q,rfl,rfl⟩;repeat first|refine v_ ?_|refine Dr.two ?_ ?_|intro
    exact gS (H':=[bZ (P++Q) g cf n2 k,aI (P++Q)]) rfl aF rfl rfl rfl aS rfl aF aA ⟨Q,rfl,rfl⟩
  ·rw[if_neg h0];refine t_ func109 ntmps109 ?_;repeat first|refine v_ ?_|refine Dr.two ?_ ?_|intro
   refine eV (λM=>qL M g cf n.r y.gm y.gd) ?_;repeat first|refine v_ ?_|refine Dr.two ?_ ?_|intro
   rename_i g3 g4;refine C.BI (X:=Unit) (λ_=>[(0,pt g),(3,pt g3),(4,pt g4),(6,.int .i64 code)]) (λ_=>[aJ g 181 (ET cf n.r (pt y.gm) y.gd),aJ y.gm 191 [pt y.gl,pt y.gs],iB y.gl y.gd n.ls k,dI P y.gs n.s,aI P,aJ g4 34 dO.cs,aJ g3 34 c2.cs]) (λ_=>True) ?_ ?_
   ·refine C.bL 12 (l_ [0,1,2,3,4,5,6,7] (g_ 8 (l_ [9,10] (.two 11 (g_ 12 (g_ 13 .nil)) 12 (g_ 11 (g_ 13 .nil)))))) ([aJ g 181 (ET cf n.r (pt y.gm) y.gd),aJ y.gm 191 [pt y.gl,pt y.gs],aJ g3 34 _]) q_ q_ aA ?_;repeat first|refine v_ ?_|refine Dr.two ?_ ?_|intro
    refine eJ mk ?_;repeat first|refine v_ ?_|intro
    refine Dr.two ?_ ?_
    ·repeat first|refine cY ?_|intro
     exact⟨(),aD,aA,trivial⟩
    ·repeat first|refine cY ?_|intro
     exact⟨(),aD,aA,trivial⟩
   rintro - F -;dsimp only[aX.cs];repeat first|refine v_ ?_|refine Dr.two ?_ ?_|intro
   refine gS (H':=[bZ (P++[]) g cf n k,aI (P++[])]) rfl aF rfl rfl rfl aS rfl aF (aB.trans (aB.aV (l:=fV P g cf n k y++[aI P]) aC) (aB.trans (upp []) mono0)) ⟨[],rfl,rfl⟩
 ·unfold Nd.fC;rw[if_neg (by rw[hu];decide)];dsimp only[oT,List.cons_append,List.nil_append,aX.cs];refine t_ func109 ntmps109 ?_;repeat first|refine v_ ?_|refine Dr.two ?_ ?_|intro
  refine eV (λM=>Ae M g cf n.r y.gd) ?_;repeat first|refine v_ ?_|refine Dr.two ?_ ?_|intro
  refine gS (H':=[bZ (P++[]) g cf n k,aI (P++[])]) rfl aF rfl rfl rfl aS rfl aF (aB.trans (aB.aV (l:=oT g cf n k y++[aI P]) aC) (aB.trans (aB.cF (cA.append (bZ.dn ho hu) cA.refl)) mono0)) ⟨[],rfl,rfl⟩
end
section
variable (E:Env) (P:List Ov) (g:Nat) (cf:fU) (n:Nd) (k:Int)
theorem PY(hu:n.up=true):G E 69 [pt g] [bZ P g cf n k] (cM (.bool true) [bZ P g cf n k]):=by rw[←hu];exact TI E P g cf n k
theorem QP(A:Option Addr)(m c:Nat)(l:List Rc)(hr:Rd E jE A m c (l.map Rc.r))(hl:∀x∈l,x.ok)(hm:m≤100000):G E 116 [pt g,.slice A m c] [bZ P g cf n k,aI P] λe H'=>∃Q,e=.returned (.tuple #[.int .i64 (n.take l).2.1,.int .i64 (n.take l).2.2])∧H'=[bZ (P++Q) g cf (n.take l).1 k,aI (P++Q)]:=by
 have hmax:=fX;have hml:m=l.length:=by have:=hr.len;rwa [aAw] at this
 unfold Nd.take;by_cases hu:n.up=true
 ·rw[if_pos hu];have hup:=λM=>PY M P g cf n k hu;refine t_ func116 ntmps116 ?_;repeat first|refine v_ ?_|intro
  refine bK hup ?_;repeat first|refine v_ ?_|intro
  refine C.scan (Y:=Nd×List Ov) (l:=l.map Rc.r) hr.len (λi y=>[(0,pt g),(1,.slice A m c),(12,.slice A m c),(13,.int .i64 m),(14,.int .i64 i)])
   (λi y=>[bZ (P++y.2) g cf y.1 k,aI (P++y.2)]) (λi y=>y.1.up=true∧n.AQ l 0=y.1.AQ (l.drop i) i) (n,[]) aD (by dsimp only;rw[aAc];exact aA) ⟨hu,by rw[aCh]⟩ ?_ ?_
  ·rintro i ⟨n1,Q⟩ xr F hi hxr ⟨hu1,ht⟩;dsimp only at hu1 ht⊢;obtain⟨x,hx,rfl⟩:∃x,l[i]?=some x∧x.r=xr:=by
    rw[aBf] at hxr;cases h:l[i]? with
    |none=>rw[h] at hxr;cases hxr
    |some x=>rw[h] at hxr;exact⟨x,rfl,aDk hxr⟩
   have law:=λM=>Jf M (P++Q) g cf n1 k hu1 x (hl x (aAi hx));have hlt:=(aAd.1 hx).1;have e1:l.drop i=x::l.drop (i+1):=by rw[aAm hlt,(aAd.1 hx).2]
   have hup2:=qU n1 x;rw[ht,e1,Nd.AQ];generalize n1.write x=w at *;obtain⟨n2,e2⟩:=w;dsimp only at law hup2⊢;repeat first|refine v_ ?_|intro
   refine bW law ?_;rintro e H' ⟨Q2,rfl,rfl⟩;refine gk bG ?_;by_cases he:e2=0
   ·subst he;rw[if_pos rfl];repeat first|refine v_ ?_|intro
    exact⟨(n2,Q++Q2),aD,(by dsimp only;rw[←aAb];exact aA),by rw[hup2];exact hu1,rfl⟩
   ·rw[if_neg he];repeat first|refine v_ ?_|intro
    exact vT (H':=[bZ (P++(Q++Q2)) g cf n2 k,aI (P++(Q++Q2))]) rfl aF aF (by rw[←aAb];exact aA) ⟨Q++Q2,rfl,rfl⟩
  ·rintro⟨n1,Q⟩ F ⟨hu1,ht⟩;dsimp only at hu1 ht⊢;rw[aCn o_,Nd.AQ] at ht;rw[ht];have hmm:m≤maxLen:=o_;repeat first|refine v_ ?_|intro
   exact Cz ⟨Q,rfl,rfl⟩
 ·rw[if_neg hu];have hup:=λM=>TI M P g cf n k;rw[show n.up=false by simpa using hu] at hup;refine t_ func116 ntmps116 ?_;repeat first|refine v_ ?_|intro
  refine bK hup ?_;repeat first|refine v_ ?_|intro
  exact vT (H':=[bZ (P++[]) g cf n k,aI (P++[])]) rfl aF aF (by rw[aAc];exact aA) ⟨[],rfl,rfl⟩
end
def Nd.tries(n:Nd)(now:Int):List dK→List dK→Nd×List dK×Int
 | [],acc=>(n,acc,0)
 |q::l,acc=>if (n.write (.DG q.key now)).2=0 then Nd.tries (n.write (.DG q.key now)).1 now l (acc++[q]) else((n.write (.DG q.key now)).1,acc,(n.write (.DG q.key now)).2)
def Nd.qD(n:Nd)(cf:fU)(now:Int):Nd×List dK×Int :=
 if n.up then
  (if (n.tries now (n.s.ready cf now) []).1.sync.2=0 then((n.tries now (n.s.ready cf now) []).1.sync.1,(n.tries now (n.s.ready cf now) []).2) else((n.tries now (n.s.ready cf now) []).1.sync.1,[],(n.tries now (n.s.ready cf now) []).1.sync.2))
 else(n,[],19)
theorem D8(s:Sv)(cf:fU)(now:Int):(s.ready cf now).length≤s.ps.length:=K4 (λi s=>by unfold fL;split<;>simp) _ _
section
variable (E:Env) (P:List Ov) (g:Nat) (cf:fU) (n:Nd) (k:Int)
theorem YJ(now:Int)(hnow:dQ now)(hk:k≤10000000000000):G E 118 [pt g,.int .i64 now] [bZ P g cf n k,aI P] λe H'=>∃Q A m c,m=(n.qD cf now).2.1.length∧(m≤c∧c≤maxLen)∧e=.returned (.tuple #[.slice A m c,.int .i64 (n.qD cf now).2.2])∧H'=[own cP A m c (n.qD cf now).2.1,bZ (P++Q) g cf (n.qD cf now).1 (k+2048),aI (P++Q)]:=by
 have hmax:=fX;unfold Nd.qD;by_cases hu:n.up=true
 ·rw[if_pos hu];refine oG (λy ho _=>?_) (λy ho hd=>by rw[hu] at hd;cases hd);have hnp:=(ho.gd hu).1.np;have hrl:=D8 n.s cf now;have rdy:=λM=>Vv M P y.gs n.s cf now;generalize n.s.ready cf now=rs at *;dsimp only[fV,List.cons_append,List.nil_append,fU.cs] at rdy⊢;refine t_ func118 ntmps118 ?_;repeat first|refine v_ ?_|intro
  refine eV (λM=>qL M g cf n.r y.gm y.gd) ?_;repeat ((fail_if_success (refine C.seq (x:=Code.region 5 _ _) ?_));first|refine Cx ?_|refine k_ ?_|intro _|refine Dr.two ?_ ?_)
  refine C.BI (X:=Nd×List dK×Int×List Ov×Option Addr×Nat) (λz=>[(0,pt g),(6,.slice z.2.2.2.2.1 z.2.1.length z.2.2.2.2.2),(7,.int .i64 z.2.2.1)]) (λz=>[own cP z.2.2.2.2.1 z.2.1.length z.2.2.2.2.2 z.2.1,bZ (P++z.2.2.2.1) g cf z.1 k,aI (P++z.2.2.2.1)]) (λz=>n.tries now rs []=(z.1,z.2.1,z.2.2.1)∧z.1.up=true∧z.2.1.length≤z.2.2.2.2.2∧z.2.2.2.2.2≤maxLen) ?_ ?_
  ·repeat first|refine v_ ?_|intro
   refine rB (l_ [0,1,2,3,4,5,6,7,8,9,10,11,14] (g_ 12 (n_ 13 .nil))) ([aJ g 181 (ET cf n.r (pt y.gm) y.gd),aJ y.gm 191 [pt y.gl,pt y.gs]]) ?_;repeat first|refine v_ ?_|intro
   refine iO rdy ?_;rintro e H' ⟨O,oc,rfl,rfl⟩;refine gd bG aA ?_;have hrm:rs.length≤maxLen:=o_;repeat first|refine v_ ?_|intro
   refine C.conv (aB.trans (aB.aV (l:=fV P g cf n k y++[aI P,own cP O rs.length oc rs]) aC) (aB.cF (cA.append (bZ.up ho hu) cA.refl))) ?_;dsimp only[List.cons_append,List.nil_append];refine C.scan (Y:=Nd×List dK×List Ov×Option Addr×Nat) (l:=rs) rfl (λi z=>[(0,pt g),(1,.int .i64 now),(6,.slice z.2.2.2.1 z.2.1.length z.2.2.2.2),(7,.int .i64 0),(26,.slice O rs.length oc),(27,.int .i64 rs.length),(28,.int .i64 i)])
    (λi z=>[own cP z.2.2.2.1 z.2.1.length z.2.2.2.2 z.2.1,bZ (P++z.2.2.1) g cf z.1 k,aI (P++z.2.2.1),own cP O rs.length oc rs]) (λi z=>z.1.up=true∧n.tries now rs []=z.1.tries now (rs.drop i) z.2.1∧z.2.1.length=i∧z.2.1.length≤z.2.2.2.2∧z.2.2.2.2≤maxLen) (n,[],[],none,0) aD (by dsimp only;rw[aAc];exact aB.trans (aB.nil cP) aA) ⟨hu,by rw[aCh],rfl,aAf _,aAh _⟩ ?_ ?_
   ·rintro i ⟨n1,acc,Q,B,d⟩ q F hi hq ⟨hu1,ht,hai,h1,h2⟩;dsimp only at hu1 ht hai h1 h2⊢;have law:=λM=>Jf M (P++Q) g cf n1 k hu1 (.DG q.key now) hnow;have hlt:=(aAd.1 hq).1;have e1:rs.drop i=q::rs.drop (i+1):=by rw[aAm hlt,(aAd.1 hq).2]
    have hup2:=qU n1 (.DG q.key now);rw[e1,Nd.tries] at ht;generalize n1.write (.DG q.key now)=w at *;obtain⟨n2,e2⟩:=w;dsimp only at law hup2 ht⊢;repeat first|refine v_ ?_|intro
    refine bK (λM=>Tk M q.key now) ?_;repeat first|refine v_ ?_|intro
    refine bW law ?_;rintro e H' ⟨Q2,rfl,rfl⟩;refine gk bG ?_;by_cases he:e2=0
    ·subst he;rw[if_pos rfl] at ht;repeat first|refine v_ ?_|intro
     rename_i B2 d2 h3 h4;have hl1:(acc++[q]).length=acc.length+1:=by simp
     exact⟨(n2,acc++[q],Q++Q2,B2,d2),(by dsimp only;rw[hl1];exact aD),(by dsimp only;rw[hl1,←aAb];exact aA),by rw[hup2];exact hu1,ht,by dsimp only;omega,by dsimp only;omega,h4⟩
    ·rw[if_neg he] at ht;repeat first|refine v_ ?_|intro
     exact⟨(n2,acc,e2,Q++Q2,B,d),aD,(by dsimp only;rw[←aAb];exact aA),ht,by rw[hup2];exact hu1,h1,h2⟩
   ·rintro⟨n1,acc,Q,B,d⟩ F ⟨hu1,ht,hai,h1,h2⟩;dsimp only at hu1 ht hai h1 h2⊢;rw[aCy,Nd.tries] at ht;repeat first|refine v_ ?_|intro
    exact⟨(n1,acc,0,Q,B,d),aD,aA,ht,hu1,h1,h2⟩
  ·rintro⟨n1,acc,sh,Q,B,d⟩ F ⟨ht,hu1,h1,h2⟩;dsimp only at ht hu1 h1 h2⊢;rw[ht];dsimp only;have syn:=λM=>KU M (P++Q) g cf n1 k hk;generalize n1.sync=w at *;obtain⟨n2,e2⟩:=w;dsimp only at syn⊢;repeat first|refine v_ ?_|intro
   refine bK syn ?_;by_cases he:e2=0
   ·subst he;rw[if_pos rfl];repeat first|refine v_ ?_|intro
    exact Cz ⟨Q,B,acc.length,d,rfl,⟨h1,h2⟩,rfl,rfl⟩
   ·rw[if_neg he];repeat first|refine v_ ?_|intro
    exact vT rfl aF aF (aB.trans (aB.nil cP) (aB.aV (l:=[own cP none 0 0 [],bZ (P++Q) g cf n2 (k+2048),aI (P++Q)]) aC)) ⟨Q,none,0,0,rfl,⟨aAf _,aAh _⟩,rfl,rfl⟩
 ·rw[if_neg hu];have hup:=λM=>TI M P g cf n k;rw[show n.up=false by simpa using hu] at hup;refine t_ func118 ntmps118 ?_;repeat first|refine v_ ?_|intro
  refine bK hup ?_;repeat first|refine v_ ?_|intro
  exact vT (H':=[own cP none 0 0 [],bZ (P++[]) g cf n (k+2048),aI (P++[])]) rfl aF aF (aB.trans (aB.nil cP) (aB.trans (aB.aV (l:=[own cP none 0 0 [],bZ P g cf n k,aI P]) aC) (aB.cF (cA.cons cA.refl (cA.cons (bZ.mono o_) (by rw[aAc];exact cA.refl)))))) ⟨[],none,0,0,rfl,⟨aAf _,aAh _⟩,rfl,rfl⟩
end
theorem Dr.Zh{P:Program}{N:Nat}{E:Env}{z:Nat}{Q:QF}{F:Nat→Value}{H:List aL}{todo:Td}{l:List Oper}{Hk:List aL}{d:Option Nat}{op:Op}{ty:TypeId}{pos:String}{af:Array Edge}{gd:Option (Nat×Bool)}(hi:nth l z=some ⟨d,op,ty,pos,af,gd⟩)(hd:∀k,d=some k→k<N)(hg:rE l N F true gd)
  (h:gK P N E F H ⟨d,op,ty,pos,af,gd⟩ λv H'=>FU P N E z l Q todo (DJ F d v) H'):Dr P N E z l Q Hk (.one z true todo) F H:=Dr.Iq hi hd hg h λ_ _ hk=>hk
theorem o6{N z:Nat}{E:Env}{F:Nat→Value}{H R Hp:List aL}{Q:QF}{f:FuncId}{ops:List Operand}{tys:Array TypeId}{d:Nat}{ty:TypeId}{pos:String}{af:Array Edge}{Q1:Ending→List aL→Prop}{os:List Oper}{todo:Td}{Hk:List aL}{gd:Option (Nat×Bool)}(hi:nth os z=some ⟨some d,.call { callee:=.value (.func f),args:=ops.toArray,argTypes:=tys },ty,pos,af,gd⟩)(hd:d<N)(hg:rE os N F true gd)(hk:xA f=true)(hp:cS Hp H R)
  (law:∀M,Sub E R M→aK prog M f (AO F ops).toArray Hp Q1) (hQ:∀e H',Q1 e H'→∃v,e=.returned v∧∃H2,wK H' R H2∧FU prog N E z os Q todo (pT F d v) H2):Dr prog N E z os Q Hk (.one z true todo) F H:=by
 obtain⟨fn,h1,h2,h3⟩:=iY hk;exact Dr.Zh hi (by rintro k ⟨⟩;exact hd) hg (S.call rfl rfl h1 h2 h3 hp law hQ)
section
variable (E:Env) (P:List Ov) (g:Nat) (cf:fU) (n:Nd) (k:Int)
theorem Wt(hk:k≤10000000000000):G E 130 [pt g] [bZ P g cf n k] (cM (.int .i64 n.pack.2) [bZ P g cf n.pack.1 (k+4128)]):=by
 have hmax:=fX;refine oG (λy ho hu=>?_) (λy ho hu=>?_)
 ·rw[aAc];have hok:=ho.pack;have put:=λM=>SV M P y.gs n.s;have swp:=λM A m c hr=>Wq M y.gl y.gd n.ls k hk A m c n.At hr;have himg:n.At=[5]++fJ n.s:=rfl;rw[himg] at swp;unfold Nd.pack at hok⊢;rw[if_pos hu] at hok⊢;have hswe:(n.ls.swap n.At).1≠0→(n.ls.swap n.At).1≠19→(n.ls.swap n.At).2=n.ls:=λh0 h1=>by
   unfold LS.swap at h0 h1⊢;by_cases c1:n.At.length=0
   ·rw[if_pos c1]
   rw[if_neg c1] at h0 h1⊢;by_cases c2:4096<n.At.length
   ·rw[if_pos c2]
   rw[if_neg c2] at h0 h1⊢;by_cases c3:32*n.ls.N<n.At.length+7
   ·rw[if_pos c3]
   rw[if_neg c3] at h0 h1⊢;by_cases c4:n.ls.dead=true
   ·rw[if_pos c4]
   rw[if_neg c4] at h0 h1⊢;by_cases c5:iT n.ls.aG 0 (32*n.ls.N)=true
   ·rw[if_pos c5] at h1;exact absurd rfl h1
   rw[if_neg c5] at h0 h1⊢;by_cases c6:iT (rT n.ls) 0 (n.At.length+7)=true
   ·rw[if_pos c6] at h1;exact absurd rfl h1
   rw[if_neg c6] at h0 h1⊢;by_cases c7:jD (yA n.ls n.At)=true
   ·rw[if_pos c7] at h1;exact absurd rfl h1
   rw[if_neg c7] at h0;exact absurd rfl h0
  rw[himg] at hok hswe⊢;generalize n.ls.swap ([5]++fJ n.s)=res at *;obtain⟨cd,z2⟩:=res;dsimp only at hok swp hswe⊢;generalize fJ n.s=ib at *;by_cases h0:cd=0
  ·subst h0;rw[if_pos rfl] at hok⊢;dsimp only[fV];refine t_ func130 ntmps130 ?_;repeat first|refine v_ ?_|refine Dr.two ?_ ?_|intro
   refine eV (λM=>qL M g cf n.r y.gm y.gd) ?_;repeat first|refine v_ ?_|refine Dr.two ?_ ?_|intro
   refine rB (l_ [0,1,2,3,4,5,6,7,9,10,11,12,13,14,15] (.two 8 (g_ 16 (g_ 17 (g_ 18 (g_ 19 (n_ 20 .nil))))) 16 (g_ 8 (g_ 17 (g_ 18 (g_ 19 (n_ 20 .nil))))))) ([aJ g 181 (ET cf n.r (pt y.gm) y.gd),aJ y.gm 191 [pt y.gl,pt y.gs]]) ?_;repeat first|refine v_ ?_|intro
   refine Dr.two ?_ ?_;rotate_left
   ·refine yB rfl sD bA sK aC (λM hE=>put M) ?_;rintro e H' ⟨A,m,c,⟨h1,h2,h3⟩,rfl,rfl⟩;repeat first|refine v_ ?_|refine Dr.two ?_ ?_|intro
    rw[show UInt8.ofNat (Int.toNat 5)=5 from rfl];refine Ib (λM=>swp M _ (1+m) _) ?_;repeat first|refine v_ ?_|refine Dr.two ?_ ?_|intro
    refine eJ (λM=>tZ M g 0 (by decide)) ?_;repeat first|refine v_ ?_|refine Dr.two ?_ ?_|intro
    exact aR rfl aF (aB.trans (aB.aV (l:=fV P g cf ⟨n.r,z2,true,⟨some n.s,[]⟩,n.s⟩ (k+4128) y) aC) (aB.cF (bZ.up hok rfl))) ⟨rfl,rfl⟩
   ·repeat first|refine v_ ?_|intro
    refine iO put ?_;rintro e H' ⟨A,m,c,⟨h1,h2,h3⟩,rfl,rfl⟩;repeat first|refine v_ ?_|refine Dr.two ?_ ?_|intro
    rw[show UInt8.ofNat (Int.toNat 5)=5 from rfl];refine Ib (λM=>swp M _ (1+m) _) ?_;repeat first|refine v_ ?_|refine Dr.two ?_ ?_|intro
    refine eJ (λM=>tZ M g 0 (by decide)) ?_;repeat first|refine v_ ?_|refine Dr.two ?_ ?_|intro
    exact aR rfl aF (aB.trans (aB.aV (l:=fV P g cf ⟨n.r,z2,true,⟨some n.s,[]⟩,n.s⟩ (k+4128) y) aC) (aB.cF (bZ.up hok rfl))) ⟨rfl,rfl⟩
  ·rw[if_neg h0] at hok⊢;by_cases h19:cd=19
   ·subst h19;rw[if_pos rfl] at hok⊢;have dd:=λM=>Gk M P g cf ⟨n.r,z2,false,n.lc,n.s⟩ (k+4128) y;dsimp only[fV];refine t_ func130 ntmps130 ?_;repeat first|refine v_ ?_|refine Dr.two ?_ ?_|intro
    refine eV (λM=>qL M g cf n.r y.gm y.gd) ?_;repeat first|refine v_ ?_|refine Dr.two ?_ ?_|intro
    refine C.bL 19 (l_ [0,1,2,3,4,5,6,7,9,10,11,12,13,14,15] (.two 8 (g_ 16 (g_ 17 (g_ 18 (g_ 19 (g_ 20 .nil))))) 16 (g_ 8 (g_ 17 (g_ 18 (g_ 19 (g_ 20 .nil))))))) ([aJ g 181 (ET cf n.r (pt y.gm) y.gd),aJ y.gm 191 [pt y.gl,pt y.gs]]) q_ q_ aA ?_;repeat first|refine v_ ?_|intro
    refine Dr.two ?_ ?_;rotate_left
    ·refine yB rfl sD bA sK aC (λM hE=>put M) ?_;rintro e H' ⟨A,m,c,⟨h1,h2,h3⟩,rfl,rfl⟩;repeat first|refine v_ ?_|refine Dr.two ?_ ?_|intro
     rw[show UInt8.ofNat (Int.toNat 5)=5 from rfl];refine Ib (λM=>swp M _ (1+m) _) ?_;repeat first|refine v_ ?_|refine Dr.two ?_ ?_|intro
     refine o6 rfl sD bA sK aC (λM hE=>dd M) ?_;rintro e H' ⟨rfl,rfl⟩;repeat first|refine v_ ?_|refine Dr.two ?_ ?_|intro
     exact aR rfl aF (aB.trans (aB.aV (l:=oT g cf ⟨n.r,z2,false,n.lc,n.s⟩ (k+4128) y) aC) (aB.cF (bZ.dn hok rfl))) ⟨rfl,rfl⟩
    ·repeat first|refine v_ ?_|intro
     refine iO put ?_;rintro e H' ⟨A,m,c,⟨h1,h2,h3⟩,rfl,rfl⟩;repeat first|refine v_ ?_|refine Dr.two ?_ ?_|intro
     rw[show UInt8.ofNat (Int.toNat 5)=5 from rfl];refine Ib (λM=>swp M _ (1+m) _) ?_;repeat first|refine v_ ?_|refine Dr.two ?_ ?_|intro
     refine o6 rfl sD bA sK aC (λM hE=>dd M) ?_;rintro e H' ⟨rfl,rfl⟩;repeat first|refine v_ ?_|refine Dr.two ?_ ?_|intro
     exact aR rfl aF (aB.trans (aB.aV (l:=oT g cf ⟨n.r,z2,false,n.lc,n.s⟩ (k+4128) y) aC) (aB.cF (bZ.dn hok rfl))) ⟨rfl,rfl⟩
   ·rw[if_neg h19] at hok⊢;have hz:=hswe h0 h19;subst hz;dsimp only[fV];refine t_ func130 ntmps130 ?_;repeat first|refine v_ ?_|refine Dr.two ?_ ?_|intro
    refine eV (λM=>qL M g cf n.r y.gm y.gd) ?_;repeat first|refine v_ ?_|refine Dr.two ?_ ?_|intro
    refine rB (l_ [0,1,2,3,4,5,6,7,9,10,11,12,13,14,15] (.two 8 (g_ 16 (g_ 17 (g_ 18 (g_ 19 (n_ 20 .nil))))) 16 (g_ 8 (g_ 17 (g_ 18 (g_ 19 (n_ 20 .nil))))))) ([aJ g 181 (ET cf n.r (pt y.gm) y.gd),aJ y.gm 191 [pt y.gl,pt y.gs]]) ?_;repeat first|refine v_ ?_|intro
    refine Dr.two ?_ ?_;rotate_left
    ·refine yB rfl sD bA sK aC (λM hE=>put M) ?_;rintro e H' ⟨A,m,c,⟨h1,h2,h3⟩,rfl,rfl⟩;repeat first|refine v_ ?_|refine Dr.two ?_ ?_|intro
     rw[show UInt8.ofNat (Int.toNat 5)=5 from rfl];refine Ib (λM=>swp M _ (1+m) _) ?_;repeat first|refine v_ ?_|refine Dr.two ?_ ?_|intro
     refine eJ (λM=>tZ M g cd h19) ?_;repeat first|refine v_ ?_|refine Dr.two ?_ ?_|intro
     exact aR rfl aF (aB.trans (aB.aV (l:=fV P g cf n (k+4128) y) aC) (aB.cF (bZ.up ho hu))) ⟨rfl,rfl⟩
    ·repeat first|refine v_ ?_|intro
     refine iO put ?_;rintro e H' ⟨A,m,c,⟨h1,h2,h3⟩,rfl,rfl⟩;repeat first|refine v_ ?_|refine Dr.two ?_ ?_|intro
     rw[show UInt8.ofNat (Int.toNat 5)=5 from rfl];refine Ib (λM=>swp M _ (1+m) _) ?_;repeat first|refine v_ ?_|refine Dr.two ?_ ?_|intro
     refine eJ (λM=>tZ M g cd h19) ?_;repeat first|refine v_ ?_|refine Dr.two ?_ ?_|intro
     exact aR rfl aF (aB.trans (aB.aV (l:=fV P g cf n (k+4128) y) aC) (aB.cF (bZ.up ho hu))) ⟨rfl,rfl⟩
 ·rw[aAc];unfold Nd.pack;rw[if_neg (by rw[hu];decide)];refine t_ func130 ntmps130 ?_;repeat first|refine v_ ?_|refine Dr.two ?_ ?_|intro
  refine eV (λM=>Ae M g cf n.r y.gd) ?_;repeat first|refine v_ ?_|refine Dr.two ?_ ?_|intro
  exact aR rfl aF (aB.trans (aB.aV (l:=oT g cf n k y) aC) (aB.cF ((cA.cons cA.refl (kJ.mono o_)).trans (bZ.dn ho hu)))) ⟨rfl,rfl⟩
end
def eE(z:Sv×List Rc)(x:Rc):Sv×List Rc:=((z.1.doc x).1,if (z.1.doc x).2=0 then z.2++[x] else z.2)
def comms:Sv→List Rc→List bJ→List Rc
 |_,out,[]=>out
 |s,out,a::l=>if (s.doc (.rI a)).2=0 then comms (s.doc (.rI a)).1 (out++[.rI a]) l else out
def tryAll(s:Sv)(l:List aX):Sv×List Rc:=l.foldl (λz c=>eE z (.lI c)) (s,[])
def kL(s:Sv)(m:Mg):List Rc :=
 if m.check=0∧m.kind=2∧m.to=s.r then
  (if ((tryAll s m.iS).1.v.l.length:Int) - m.base<0 then(tryAll s m.iS).2 else comms (tryAll s m.iS).1 (tryAll s m.iS).2 (m.ids.drop (min ((tryAll s m.iS).1.v.l.length - m.base.toNat) m.ids.length)))
 else[]
theorem HB{s:Sv}{l:List aX}{i:Nat}{x:aX}(h:l[i]?=some x):tryAll s (l.take (i+1))=eE (tryAll s (l.take i)) (.lI x):=iX (f:=λz c=>eE z (.lI c)) h
theorem Fv(z:Sv×List Rc)(x:Rc):(eE z x).2.length≤z.2.length+1:=by
 unfold eE;dsimp only;split
 ·simp
 ·omega
theorem CZ(s:Sv)(l:List aX):(tryAll s l).2.length≤l.length:=by
 have:∀(l:List aX) (z:Sv×List Rc),(l.foldl (λz c=>eE z (.lI c)) z).2.length≤z.2.length+l.length:=by
  intro l
  induction l with
  |nil=>exact λz=>aAf _
  |cons c l ih =>
   intro z;have h1:=ih (eE z (.lI c));have h2:=Fv z (.lI c);rw[aFj,aAs];omega
 have h:=this l (s,[]);simpa [tryAll] using h
theorem Mh{s:Sv}(h:Gd s){l:List aX}(hl:∀c∈l,c.ok):Gd (tryAll s l).1:=by
 have:∀(l:List aX) (z:Sv×List Rc),(∀c∈l,c.ok)→Gd z.1→Gd (l.foldl (λz c=>eE z (.lI c)) z).1:=by
  intro l
  induction l with
  |nil=>exact λz _ h=>h
  |cons c l ih=>exact λz hl h=>ih _ (λx hx=>hl x (aBl _ hx)) (h.doc (x:=.lI c) (hl c aBo))
 exact this l (s,[]) hl h
section
variable (E:Env) (P:List Ov) (g:Nat) (s:Sv)
theorem Th(A:Option Addr)(c:Nat)(l:List Rc)(x:Rc)(hx:x.ok)(hn:l.length≤1000000):G E 254 [pt g,.slice A l.length c,.agg x.r.cs.toArray] [dI P g s,aI P,own jE A l.length c (l.map Rc.r)] λe H'=>∃Q A' c',(eE (s,l) x).2.length≤c'∧c'≤maxLen∧e=.returned (.tuple #[.slice A' (eE (s,l) x).2.length c',.bool (decide ((s.doc x).2=0))])∧H'=[dI (P++Q) g (s.doc x).1,aI (P++Q),own jE A' (eE (s,l) x).2.length c' ((eE (s,l) x).2.map Rc.r)]:=by
 refine aK.post (Z9 E P g s A l.length c (l.map Rc.r) x hx hn) ?_;rintro e H' ⟨Q,A',c',h1,h2,rfl,rfl⟩;have e1:(if (s.doc x).2=0 then l.length+1 else l.length)=(eE (s,l) x).2.length:=by unfold eE;dsimp only;split<;>simp
 have e2:(if (s.doc x).2=0 then l.map Rc.r++[x.r] else l.map Rc.r)=(eE (s,l) x).2.map Rc.r:=by unfold eE;dsimp only;split<;>simp
 rw[e1] at h1;rw[e1,e2];exact⟨_,aB.refl,Q,A',c',h1,h2,rfl,rfl⟩
theorem Xg(m:Mg)(A:Option Addr)(n c:Nat)(B:Option Addr)(k d:Nat)(hI:Rd E fN A n c m.ids)(hC:Rd E bE B k d m.iS)(hok:m.ok):G E 189 [pt g,.agg (oK m A n c B k d).toArray] [dI P g s,aI P] λe H'=>∃Q X qc,((kL s m).length≤qc∧qc≤maxLen)∧(kL s m).length≤100∧e=.returned (.slice X (kL s m).length qc)∧H'=[own jE X (kL s m).length qc ((kL s m).map Rc.r),dI (P++Q) g s,aI (P++Q)]:=by
 refine Jo E P g s λhg=>?_;have hmax:=fX;have h0:=hg.rep;have rep:=λM=>qR M P g s;have hU:=λM hI hC=>Cr M m A n c B k d hI hC;have cln:=λM=>Ij M P g s;have hnl:=hI.len;have hkl:=hC.len;unfold kL;by_cases hc:m.check=0
 ·by_cases hk:m.kind=2
  ·by_cases ht:m.to=s.r
   ·rw[if_pos ⟨hc,hk,ht⟩];obtain⟨f1,f2,f3,f4,f5⟩:=Mg.Ei hc hk;rw[hc] at hU;refine t_ func189 ntmps189 ?_;repeat first|refine v_ ?_|intro
    rename_i g3;refine rA (n_ 0 (g_ 1 (l_ [2,3,4] (g_ 5 (l_ [6,7,8,9,10,11,12,13,14,15,16] (g_ 17 (l_ [18,19] .nil))))))) ?_;repeat first|refine v_ ?_|intro
    refine eJ rep ?_;repeat first|refine v_ ?_|intro
    refine Ju hU ?_;repeat first|refine v_ ?_|intro
    refine eJ rep ?_;repeat first|refine v_ ?_|intro
    refine bW cln ?_;rintro e H' ⟨g2,rfl,rfl⟩;repeat first|refine v_ ?_|intro
    have hkm:k≤maxLen:=o_;have hch:∀c∈m.iS,c.ok:=λc hc=>Jj (aDm.1 f4 c hc) (hok.1 c hc);refine C.scan (Y:=List Ov×Option Addr×Nat) (l:=m.iS) hkl (λi y=>[(0,pt g2),(3,pt g3),(5,.slice y.2.1 (tryAll s (m.iS.take i)).2.length y.2.2),(35,.slice B k d),(36,.int .i64 k),(37,.int .i64 i)])
     (λi y=>[dI (P++y.1) g2 (tryAll s (m.iS.take i)).1,aI (P++y.1),own jE y.2.1 (tryAll s (m.iS.take i)).2.length y.2.2 ((tryAll s (m.iS.take i)).2.map Rc.r),aJ g3 195 (oK m A n c B k d),dI P g s]) (λi y=>(tryAll s (m.iS.take i)).2.length≤y.2.2∧y.2.2≤maxLen) ([],none,0) aD (by dsimp only;rw[aAc];exact(show aB _ _ [dI P g2 s,aI P,own jE none 0 0 [],aJ g3 195 (oK m A n c B k d),dI P g s] from aB.trans (aB.nil jE) aA)) ⟨aAf _,aAh _⟩ ?_ ?_
    ·rintro i ⟨Q,X,qc⟩ x F hi hx ⟨h1,h2⟩;dsimp only at h1 h2⊢;have hzl:=CZ s (m.iS.take i);rw[aAg] at hzl;rw[HB hx];generalize tryAll s (m.iS.take i)=z at *;obtain⟨s1,out⟩:=z;dsimp only at h1 hzl⊢;have law:=λM=>Th M (P++Q) g2 s1 X qc out (.lI x) (hch x (aAi hx)) o_;have e1:(eE (s1,out) (.lI x)).1=(s1.doc (.lI x)).1:=rfl;rw[e1];generalize (eE (s1,out) (.lI x)).2=out2 at *;generalize s1.doc (.lI x)=w at *;repeat first|refine v_ ?_|intro
     refine bK (λM=>qM M x) ?_;repeat first|refine v_ ?_|intro
     refine bW law ?_;rintro e H' ⟨Q2,X2,q2,h3,h4,rfl,rfl⟩;repeat first|refine v_ ?_|intro
     exact⟨(Q++Q2,X2,q2),aD,(by dsimp only;rw[←aAb];exact aA),h3,h4⟩
    ·rintro⟨Q,X,qc⟩ F ⟨h1,h2⟩;dsimp only at h1 h2⊢;rw[hkl,aAo] at h1⊢;have hzl:=CZ s m.iS;have hzg:=Mh hg hch;generalize tryAll s m.iS=z at *;obtain⟨s1,out⟩:=z;dsimp only at h1 hzl hzg⊢;have hln:=hzg.v.len;have hlm:s1.v.l.length≤maxLen:=o_;have mC:=λM=>qQ M (P++Q) g2 s1;have hb0:0≤m.base∧m.base≤48:=f5;have bak:aB E [own jE X out.length qc (out.map Rc.r),dI P g s,aI (P++Q)] [own jE X out.length qc (out.map Rc.r),dI (P++Q) g s,aI (P++Q)]:=aB.cF (cA.cons cA.refl (cA.cons dI.mono cA.refl));by_cases hneg:(s1.v.l.length:Int) - m.base<0
     ·rw[if_pos hneg];repeat first|refine v_ ?_|intro
      refine rB (l_ [0,4,5] (g_ 1 (g_ 2 (l_ [3,6,7] .nil)))) ([aJ g3 195 _]) ?_;repeat first|refine v_ ?_|intro
      refine iO mC ?_;rintro e H' ⟨g5,rfl,rfl⟩;repeat first|refine v_ ?_|intro
      refine iO (λM=>iV M (P++Q) g5 s1.v) ?_;rintro e H' ⟨O,oc,hoc,rfl,rfl⟩;repeat first|refine v_ ?_|intro
      exact aR (H':=[own jE X out.length qc (out.map Rc.r),dI (P++Q) g s,aI (P++Q)]) rfl aF (aB.trans (aB.aV (l:=[own jE X out.length qc (out.map Rc.r),dI P g s,aI (P++Q)]) aC) bak) ⟨Q,X,qc,⟨h1,h2⟩,by omega,rfl,rfl⟩
     ·rw[if_neg hneg];have hJ:(min ((s1.v.l.length:Int) - m.base) (n:Int)).toNat=min (s1.v.l.length - m.base.toNat) m.ids.length:=by rw[←hnl];omega
      have hr2:=hI.from_ (k:=(min ((s1.v.l.length:Int) - m.base) (n:Int)).toNat) o_;rw[←hJ];have hnm:n≤maxLen:=o_;repeat first|refine v_ ?_|intro
      refine rB (l_ [0,4,5] (g_ 1 (g_ 2 (l_ [3,6,7] .nil)))) ([aJ g3 195 _]) ?_;repeat first|refine v_ ?_|intro
      refine iO mC ?_;rintro e H' ⟨g5,rfl,rfl⟩;repeat first|refine v_ ?_|intro
      refine iO (λM=>iV M (P++Q) g5 s1.v) ?_;rintro e H' ⟨O,oc,hoc,rfl,rfl⟩;repeat first|refine v_ ?_|intro
      generalize (min ((s1.v.l.length:Int) - m.base) (n:Int)).toNat=J at *;refine C.scan (Y:=Sv×List Rc×List Ov×Option Addr×Nat) (l:=m.ids.drop J) hr2.len (λi y=>[(0,pt g2),(5,.slice y.2.2.2.1 y.2.1.length y.2.2.2.2),(67,.slice (if c=J then A else A.map (·.add (J*fN.size))) (n - J) (c - J)),(68,.int .i64 ((n - J:Nat):Int)),(69,.int .i64 i)])
       (λi y=>[dI (P++y.2.2.1) g2 y.1,aI (P++y.2.2.1),own jE y.2.2.2.1 y.2.1.length y.2.2.2.2 (y.2.1.map Rc.r),dI P g s]) (λi y=>comms s1 out (m.ids.drop J)=comms y.1 y.2.1 ((m.ids.drop J).drop i)∧y.2.1.length≤8+i∧y.2.1.length≤y.2.2.2.2∧y.2.2.2.2≤maxLen) (s1,out,Q,X,qc) aD aA ⟨rfl,by dsimp only;omega,h1,h2⟩ ?_ ?_
      ·rintro i ⟨s2,out2,Q2,X2,q2⟩ a F hi ha ⟨hcm,h3,h4,h5⟩;dsimp only at hcm h3 h4 h5⊢;have hlt:=(aAd.1 ha).1;have e1:(m.ids.drop J).drop i=a::(m.ids.drop J).drop (i+1):=by rw[aAm hlt,(aAd.1 ha).2]
       rw[e1,comms] at hcm;have hid:(m.ids.drop J).length≤16:=by rw[aBd];omega
       have law:=λM=>Th M (P++Q2) g2 s2 X2 q2 out2 (.rI a) trivial o_;unfold eE at law;dsimp only at law;generalize s2.doc (.rI a)=w at *;obtain⟨s3,cd⟩:=w;dsimp only at law hcm;by_cases he:cd=0
       ·subst he;rw[if_pos rfl] at hcm;simp only[if_true,decide_true] at law;repeat first|refine v_ ?_|intro
        refine bK (λM=>oS M a) ?_;repeat first|refine v_ ?_|intro
        refine bW law ?_;rintro e H' ⟨Q3,X3,q3,h6,h7,rfl,rfl⟩;repeat first|refine v_ ?_|intro
        exact⟨(s3,out2++[.rI a],Q2++Q3,X3,q3),aD,(by dsimp only;rw[←aAb];exact aA),hcm,by dsimp only;rw[aAe];simp;omega,h6,h7⟩
       ·rw[if_neg he] at hcm;simp only[he,if_false,decide_false] at law;rw[hcm];repeat first|refine v_ ?_|intro
        refine bK (λM=>oS M a) ?_;repeat first|refine v_ ?_|intro
        refine bW law ?_;rintro e H' ⟨Q3,X3,q3,h6,h7,rfl,rfl⟩;repeat first|refine v_ ?_|intro
        exact aR (H':=[own jE X3 out2.length q3 (out2.map Rc.r),dI (P++(Q2++Q3)) g s,aI (P++(Q2++Q3))]) rfl aF (by rw[←aAb];exact aB.trans (aB.aV (l:=[own jE X3 out2.length q3 (out2.map Rc.r),dI P g s,aI (P++Q2++Q3)]) aC) (aB.cF (cA.cons cA.refl (cA.cons (by rw[aAb];exact dI.mono) cA.refl)))) ⟨Q2++Q3,X3,q3,⟨h6,h7⟩,by omega,rfl,rfl⟩
      ·rintro⟨s2,out2,Q2,X2,q2⟩ F ⟨hcm,h3,h4,h5⟩;dsimp only at hcm h3 h4 h5⊢;have hid:(m.ids.drop J).length≤16:=by rw[aBd];omega
       have hnj:=hr2.len;rw[show(m.ids.drop J).drop (n - J)=[] from aCn o_,comms] at hcm;rw[hcm];repeat first|refine v_ ?_|intro
       exact aR (H':=[own jE X2 out2.length q2 (out2.map Rc.r),dI (P++Q2) g s,aI (P++Q2)]) rfl aF (aB.trans (aB.aV (l:=[own jE X2 out2.length q2 (out2.map Rc.r),dI P g s,aI (P++Q2)]) aC) (aB.cF (cA.cons cA.refl (cA.cons dI.mono cA.refl)))) ⟨Q2,X2,q2,⟨h4,h5⟩,by omega,rfl,rfl⟩
   ·rw[if_neg λh=>ht h.2.2];rw[hc] at hU;refine t_ func189 ntmps189 ?_;repeat first|refine v_ ?_|intro
    rename_i g3;refine rA (n_ 0 (g_ 1 (l_ [2,3,4] (g_ 5 (l_ [6,7,8,9,10,11,12,13,14,15,16] (g_ 17 (l_ [18,19] .nil))))))) ?_;repeat first|refine v_ ?_|intro
    refine eJ rep ?_;repeat first|refine v_ ?_|intro
    refine Ju hU ?_;repeat first|refine v_ ?_|intro
    refine eJ rep ?_;repeat first|refine v_ ?_|intro
    exact aR (H':=[own jE none 0 0 [],dI (P++[]) g s,aI (P++[])]) rfl aF (by rw[aAc];exact aB.trans (aB.nil jE) (aB.aV (l:=[own jE none 0 0 [],dI P g s,aI P]) aC)) ⟨[],none,0,⟨aAf _,aAh _⟩,aAh _,rfl,rfl⟩
  ·rw[if_neg λh=>hk h.2.1];rw[hc] at hU;refine t_ func189 ntmps189 ?_;repeat first|refine v_ ?_|intro
   rename_i g3;refine rA (n_ 0 (g_ 1 (l_ [2,3,4] (g_ 5 (l_ [6,7,8,9,10,11,12,13,14,15,16] (g_ 17 (l_ [18,19] .nil))))))) ?_;repeat first|refine v_ ?_|intro
   refine eJ rep ?_;repeat first|refine v_ ?_|intro
   refine Ju hU ?_;repeat first|refine v_ ?_|intro
   exact aR (H':=[own jE none 0 0 [],dI (P++[]) g s,aI (P++[])]) rfl aF (by rw[aAc];exact aB.trans (aB.nil jE) (aB.aV (l:=[own jE none 0 0 [],dI P g s,aI P]) aC)) ⟨[],none,0,⟨aAf _,aAh _⟩,aAh _,rfl,rfl⟩
 ·rw[if_neg λh=>hc h.1];refine t_ func189 ntmps189 ?_;repeat first|refine v_ ?_|intro
  rename_i g3;refine rA (n_ 0 (g_ 1 (l_ [2,3,4] (g_ 5 (l_ [6,7,8,9,10,11,12,13,14,15,16] (g_ 17 (l_ [18,19] .nil))))))) ?_;repeat first|refine v_ ?_|intro
  refine eJ rep ?_;repeat first|refine v_ ?_|intro
  refine Ju hU ?_;repeat first|refine v_ ?_|intro
  exact aR (H':=[own jE none 0 0 [],dI (P++[]) g s,aI (P++[])]) rfl aF (by rw[aAc];exact aB.trans (aB.nil jE) (aB.aV (l:=[own jE none 0 0 [],dI P g s,aI P]) aC)) ⟨[],none,0,⟨aAf _,aAh _⟩,aAh _,rfl,rfl⟩
end
def oX(s:Sv)(m:Mg):List bJ:=(s.v.l.drop (min m.base.toNat s.v.l.length)).map (·.id)
def E8(s:Sv)(m:Mg):List aX:=(s.v.l++s.v.t).filter λx => !yN ⟨m.k0,m.k1,m.k2,m.k3⟩ x.id
def uN(s:Sv)(m:Mg):Mg:=⟨2,s.r,m.fr,0,0,0,0,m.base,(oX s m).take 16,(E8 s m).take 8,kz,ez⟩
def answers(s:Sv)(m:Mg):Prop:=m.check=0∧m.kind=1∧m.to=s.r
instance (s:Sv)(m:Mg):Decidable (answers s m):=by unfold answers;infer_instance
def mz:Mg:=⟨0,0,0,0,0,0,0,0,[],[],kz,ez⟩
theorem XY:oK mz none 0 0 none 0 0=[.int .i64 0,.int .i64 0,.int .i64 0,.int .i64 0,.int .i64 0,.int .i64 0,.int .i64 0,.int .i64 0,.slice none 0 0,.slice none 0 0,.int .i64 0,.int .i64 0,.int .i64 0,.bool false,.int .i64 0,.int .i64 0,.int .i64 0,.int .i64 0,.int .i64 0]:=rfl
section
variable (E:Env) (P:List Ov) (g:Nat) (s:Sv)
theorem Hq(m:Mg)(A:Option Addr)(n c:Nat)(B:Option Addr)(k d:Nat)(hI:Rd E fN A n c m.ids)(hC:Rd E bE B k d m.iS)(hno:¬answers s m):G E 188 [pt g,.agg (oK m A n c B k d).toArray] [dI P g s] λe H'=>e=.returned (.tuple #[.agg (oK mz none 0 0 none 0 0).toArray,.bool false])∧H'=[dI P g s]:=by
 refine Jo E P g s λhg=>?_;have h0:=hg.rep;have rep:=λM=>qR M P g s;have hU:=λM hI hC=>Cr M m A n c B k d hI hC;unfold answers at hno;rw[XY];by_cases hc:m.check=0
 ·by_cases hk:m.kind=1
  ·have ht:m.to≠s.r:=λh=>hno ⟨hc,hk,h⟩;rw[hc] at hU;refine t_ func188 ntmps188 ?_;repeat first|refine v_ ?_|intro
   rename_i g3 g4;refine rA (n_ 0 (g_ 1 (l_ [2,3,4] (g_ 5 (l_ [6,7,8,9,10,11,12,13,14,15,16] (g_ 17 (l_ [18,19] .nil))))))) ?_;repeat first|refine v_ ?_|intro
   refine eJ rep ?_;repeat first|refine v_ ?_|intro
   refine Ju hU ?_;repeat first|refine v_ ?_|intro
   refine eJ rep ?_;repeat first|refine v_ ?_|intro
   exact Sa
  ·rw[hc] at hU;refine t_ func188 ntmps188 ?_;repeat first|refine v_ ?_|intro
   rename_i g3 g4;refine rA (n_ 0 (g_ 1 (l_ [2,3,4] (g_ 5 (l_ [6,7,8,9,10,11,12,13,14,15,16] (g_ 17 (l_ [18,19] .nil))))))) ?_;repeat first|refine v_ ?_|intro
   refine eJ rep ?_;repeat first|refine v_ ?_|intro
   refine Ju hU ?_;repeat first|refine v_ ?_|intro
   exact Sa
 ·refine t_ func188 ntmps188 ?_;repeat first|refine v_ ?_|intro
  rename_i g3 g4;refine rA (n_ 0 (g_ 1 (l_ [2,3,4] (g_ 5 (l_ [6,7,8,9,10,11,12,13,14,15,16] (g_ 17 (l_ [18,19] .nil))))))) ?_;repeat first|refine v_ ?_|intro
  refine eJ rep ?_;repeat first|refine v_ ?_|intro
  refine Ju hU ?_;repeat first|refine v_ ?_|intro
  exact Sa
theorem RF(m:Mg)(A:Option Addr)(n c:Nat)(B:Option Addr)(k d:Nat)(hI:Rd E fN A n c m.ids)(hC:Rd E bE B k d m.iS)(hyes:answers s m):G E 188 [pt g,.agg (oK m A n c B k d).toArray] [dI P g s] λe H'=>∃X a x Y b y,a=(oX s m).length∧e=.returned (.tuple #[.agg (oK (uN s m) X (min a 16) (min a 16) Y (min b 8) (min b 8)).toArray,.bool true])∧H'=[own fN X a x (oX s m),own bE Y b y (E8 s m),dI P g s]:=by
 refine Jo E P g s λhg=>?_;have h0:=hg.rep;have hmax:=fX;have rep:=λM=>qR M P g s;have mC:=λM=>qQ M P g s;have hU:=λM hI hC=>Cr M m A n c B k d hI hC;obtain⟨hc,hk,ht⟩:=hyes;obtain⟨f1,f2,hb0⟩:=Mg.Nj hc hk;have hlen:=hg.v.len;rw[hc] at hU;refine t_ func188 ntmps188 ?_;repeat first|refine v_ ?_|refine Dr.two ?_ ?_|intro
 rename_i g3 g4;refine rA (n_ 0 (g_ 1 (l_ [2,3,4] (g_ 5 (l_ [6,7,8,9,10,11,12,13,14,15,16] (g_ 17 (l_ [18,19] .nil))))))) ?_;repeat first|refine v_ ?_|refine Dr.two ?_ ?_|intro
 refine eJ rep ?_;repeat first|refine v_ ?_|refine Dr.two ?_ ?_|intro
 refine Ju hU ?_;repeat first|refine v_ ?_|refine Dr.two ?_ ?_|intro
 refine eJ rep ?_;repeat first|refine v_ ?_|refine Dr.two ?_ ?_|intro
 refine bW mC ?_;rintro e H' ⟨g5,rfl,rfl⟩;repeat first|refine v_ ?_|refine Dr.two ?_ ?_|intro
 refine bW (λM=>iV M P g5 s.v) ?_;rintro e H' ⟨O,oc,hoc,rfl,rfl⟩;repeat first|refine v_ ?_|refine Dr.two ?_ ?_|intro
 refine C.BI (X:=Nat) (λg8=>[(3,pt g3),(4,pt g4),(6,pt g5),(7,.slice O s.v.l.length oc),(8,pt g8)]) (λg8=>[aJ g8 195 ([.int .i64 2,.int .i64 s.r,.int .i64 m.fr,.int .i64 0,.int .i64 0,.int .i64 0,.int .i64 0,.int .i64 m.base,.slice none 0 0,.slice none 0 0,.int .i64 0,.int .i64 0,.int .i64 0,.bool false,.int .i64 0,.int .i64 0,.int .i64 0,.int .i64 0,.int .i64 0]:List Value),aJ g3 195 (oK m A n c B k d),aJ g4 195 ([.int .i64 0,.int .i64 0,.int .i64 0,.int .i64 0,.int .i64 0,.int .i64 0,.int .i64 0,.int .i64 0,.slice none 0 0,.slice none 0 0,.int .i64 0,.int .i64 0,.int .i64 0,.bool false,.int .i64 0,.int .i64 0,.int .i64 0,.int .i64 0,.int .i64 0]:List Value),own bE O s.v.l.length oc s.v.l,AT P g5 s.v,dI P g s]) (λ_=>True) ?_ ?_
 ·refine rB (l_ [0,2,3,4,5] (.two 1 (n_ 6 (g_ 7 (g_ 8 .nil))) 7 (g_ 1 (n_ 6 (g_ 8 .nil))))) ([aJ g3 195 _]) ?_;repeat first|refine v_ ?_|intro
  refine Dr.two ?_ ?_
  ·refine yB rfl sD bA sK aC (λM hE=>rep M) ?_;rintro e H' ⟨rfl,rfl⟩;repeat first|refine cY ?_|intro
   rename_i g8;exact⟨g8,aD,aA,trivial⟩
  ·repeat first|refine cY ?_|intro
   refine eJ rep ?_;repeat first|refine cY ?_|intro
   rename_i g8;exact⟨g8,aD,aA,trivial⟩
 ·rintro g8 F -;have hJ:(min m.base (s.v.l.length:Int)).toNat=min m.base.toNat s.v.l.length:=o_;repeat first|refine v_ ?_|refine Dr.two ?_ ?_|intro
  rw[hJ];generalize hJ':min m.base.toNat s.v.l.length=J at *;have hJl:J≤s.v.l.length:=o_;have hld:s.v.l.length - J=(s.v.l.drop J).length:=by rw[aBd]
  have hids:oX s m=(s.v.l.drop J).map (·.id):=by unfold oX;rw[hJ']
  have hca:s.v.l.length≤48:=o_;refine C.scan (Y:=Option Addr×Nat) (l:=s.v.l.drop J) hld (λi y=>[(3,pt g3),(4,pt g4),(6,pt g5),(7,.slice O s.v.l.length oc),(8,pt g8),(49,.slice (if oc=J then O else O.map (·.add (J*bE.size))) (s.v.l.length - J) (oc - J)),(50,.int .i64 ((s.v.l.length - J:Nat):Int)),(51,.int .i64 i)])
   (λi y=>[own fN y.1 i y.2 (((s.v.l.drop J).take i).map (·.id)),aJ g8 195 ([.int .i64 2,.int .i64 s.r,.int .i64 m.fr,.int .i64 0,.int .i64 0,.int .i64 0,.int .i64 0,.int .i64 m.base,.slice y.1 i y.2,.slice none 0 0,.int .i64 0,.int .i64 0,.int .i64 0,.bool false,.int .i64 0,.int .i64 0,.int .i64 0,.int .i64 0,.int .i64 0]:List Value),aJ g3 195 (oK m A n c B k d),aJ g4 195 ([.int .i64 0,.int .i64 0,.int .i64 0,.int .i64 0,.int .i64 0,.int .i64 0,.int .i64 0,.int .i64 0,.slice none 0 0,.slice none 0 0,.int .i64 0,.int .i64 0,.int .i64 0,.bool false,.int .i64 0,.int .i64 0,.int .i64 0,.int .i64 0,.int .i64 0]:List Value),own bE O s.v.l.length oc s.v.l,AT P g5 s.v,dI P g s]) (λi y=>i≤y.2∧y.2≤maxLen) (none,0) aD (aB.nil fN) ⟨aAh _,aAh _⟩ ?_ ?_
  ·rintro i ⟨X,x⟩ c F hi hc' ⟨h1,h2⟩;dsimp only at h1 h2⊢;have hsucc:((s.v.l.drop J).take (i+1)).map (·.id)=((s.v.l.drop J).take i).map (·.id)++[c.id]:=by rw[take_succ hc',aBk];rfl
   rw[hsucc];repeat first|refine v_ ?_|refine Dr.two ?_ ?_|intro
   rename_i X' x' h3 h4;exact⟨(X',x'),aD,aA,h3,h4⟩
  ·rintro⟨X,x⟩ F ⟨h1,h2⟩;dsimp only at h1 h2⊢;have hal:(oX s m).length=s.v.l.length - J:=by rw[hids,aAw,aBd]
   rw[show((s.v.l.drop J).take (s.v.l.length - J)).map (·.id)=oX s m by rw[hids,aAj (by rw[aBd];exact aAf _)]];have ha48:s.v.l.length - J≤48:=o_;generalize s.v.l.length - J=a at *;repeat first|refine v_ ?_|refine Dr.two ?_ ?_|intro
   refine eV (λM h1=>IF M X a x (oX s m) 16 h1 (by omega) (by omega)) ?_;repeat first|refine v_ ?_|refine Dr.two ?_ ?_|intro
   refine rB (l_ [0,1,2,3] (g_ 4 (g_ 5 (g_ 6 (g_ 7 (n_ 8 (g_ 9 .nil))))))) ([aJ g3 195 _]) ?_;repeat first|refine v_ ?_|refine Dr.two ?_ ?_|intro
   refine iO (λM=>IZ M P g5 s.v) ?_;rintro e H' ⟨U,uc,huc,rfl,rfl⟩;repeat first|refine v_ ?_|refine Dr.two ?_ ?_|intro
   rename_i W w1 hw1 hw2;refine cg rfl sD bA sK aC (λM hE=>Mc M ⟨m.k0,m.k1,m.k2,m.k3⟩ W _ w1 (s.v.l++s.v.t) dB o_) ?_;rintro e H' ⟨K2,b,y,hb,rfl,rfl⟩;repeat first|refine v_ ?_|refine Dr.two ?_ ?_|intro
   refine cg rfl sD bA sK aC (λM hE=>Ji M K2 b y _ 8 dB o_ o_) ?_;rintro e H' ⟨rfl,rfl⟩;repeat first|refine v_ ?_|refine Dr.two ?_ ?_|intro
   exact gS (cs:=([.int .i64 2,.int .i64 s.r,.int .i64 m.fr,.int .i64 0,.int .i64 0,.int .i64 0,.int .i64 0,.int .i64 m.base,.slice X (min a 16) (min a 16),.slice K2 (min b 8) (min b 8),.int .i64 0,.int .i64 0,.int .i64 0,.bool false,.int .i64 0,.int .i64 0,.int .i64 0,.int .i64 0,.int .i64 0]:List Value)) (H':=[own fN X a x (oX s m),own bE K2 b y ((s.v.l++s.v.t).filter λx => !yN ⟨m.k0,m.k1,m.k2,m.k3⟩ x.id),dI P g s]) rfl aF rfl rfl rfl aS rfl aF aA ⟨X,a,x,K2,b,y,hal.symm,rfl,rfl⟩
end
end Go.Proofs.YtmilalkjbojciaaGreat.Sep
