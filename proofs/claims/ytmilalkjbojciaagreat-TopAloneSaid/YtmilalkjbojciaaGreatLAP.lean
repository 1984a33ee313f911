/- Part AP: what it needs. No condition. -/
import Derived.Test.YtmilalkjbojciaaGreatLAA
import Derived.Test.YtmilalkjbojciaaGreatLAO
import Derived.Test.YtmilalkjbojciaaGreatLAI
import Derived.Test.YtmilalkjbojciaaGreatLAL
import Derived.Test.YtmilalkjbojciaaGreatLAH
import Derived.Test.YtmilalkjbojciaaGreatLAJ
import Derived.Test.YtmilalkjbojciaaGreatLAK
import Derived.Test.YtmilalkjbojciaaGreatLAD
import Derived.Test.YtmilalkjbojciaaGreatLAN
set_option maxRecDepth 100000
set_option maxHeartbeats 8000000
open Go.Proofs.Tryz
namespace Go.Proofs.YtmilalkjbojciaaGreat.Sep
section
open Go.RowKit Reg
open Mem hiding Rd
section
variable (E:Env) (g:Nat) (r:Int) (ps:List dS)
theorem SK:G E 144 [pt g] [eC g r ps] (cM (.bool (qG ps)) [eC g r ps]):=by
 refine mI λx hf=>?_;refine aK.post (Vj E g x.B x.ls.length x.d r x.ls) ?_;rintro e H' ⟨rfl,rfl⟩;have h2:=eC.mk (E:=E) (R:=[]) (g:=g) hf;rw[aAc] at h2;exact⟨_,h2,by rw[hf.ps],rfl⟩
theorem RG(hps:ps.length≤1000):G E 202 [pt g] [eC g r ps] λe H'=>∃g2,e=.returned (pt g2)∧H'=[eC g2 r ps,eC g r ps]:=by
 refine mI λx hf=>?_;have hl:x.ls.length=ps.length:=by rw[←hf.ps,aAw]
 refine aK.post (VQ E g x.B x.ls.length x.d r x.ls o_ rfl hf.ok) ?_;rintro e H' ⟨g2,B2,d2,l2,rfl,k1,k2,k3,rfl⟩;have hl2:l2.length=x.ls.length:=by have:=congrArg List.length k2;rwa [aAw,aAw] at this
 have h1:=eC.mk (E:=E) (R:=[]) (g:=g) hf;have h2:=eC.mk (E:=E) (R:=vM g x.B x.ls.length x.d r x.ls) (g:=g2) (x:=⟨B2,d2,l2⟩) (r:=r) (ps:=ps) ⟨k1,by rw[k2,hf.ps],by dsimp only;rw[hl2];exact k3⟩;dsimp only at h2;rw[hl2] at h2;rw[aAc] at h1;refine⟨[eC g2 r ps,eC g r ps],aB.trans h2 ?_,g2,rfl,rfl⟩;intro w hw;have h3:St E (vM g x.B x.ls.length x.d r x.ls++[eC g2 r ps]) w:=hw.conv λF hs=>by
  obtain⟨F1,F2,q1,q2,q3,q4⟩:=hs;exact⟨F,aY.2 ⟨F2,F1,λb=>by rw[q1 b];exact Or.comm,λb u1 u2=>q2 b u2 u1,q4,⟨F1,λ_=>False,λb=>by simp,λ_ _ h=>h,q3,λ_ h=>h⟩⟩,λ_ h=>h⟩
 have h4:=eC.mk (E:=E) (R:=[eC g2 r ps]) (g:=g) hf w h3;exact(show aB E [eC g r ps,eC g2 r ps] [eC g2 r ps,eC g r ps] from aA) w h4
theorem Ry(hps:ps.length≤1000)(cf:fU)(now:Int):G E 241 [pt g,.agg cf.cs.toArray,.int .i64 now] [eC g r ps] λe H'=>∃O oc,e=.returned (.slice O (jP (fL r cf now) ps ps.length).length oc)∧H'=[own cP O (jP (fL r cf now) ps ps.length).length oc (jP (fL r cf now) ps ps.length),eC g r ps]:=by
 refine mI λx hf=>?_;have hl:x.ls.length=ps.length:=by rw[←hf.ps,aAw]
 refine aK.post (U0 E g x.B x.ls.length x.d r x.ls cf now o_ rfl hf.ok) ?_;rintro e H' ⟨O,m,oc,rfl,rfl,rfl⟩;rw[hf.ps,hl];refine⟨[own cP O (jP (fL r cf now) ps ps.length).length oc (jP (fL r cf now) ps ps.length),eC g r ps],?_,O,oc,rfl,rfl⟩;intro w hw;have h3:St E (vM g x.B x.ls.length x.d r x.ls++[own cP O (jP (fL r cf now) ps ps.length).length oc (jP (fL r cf now) ps ps.length)]) w:=hw.conv λF hs=>by
  rw[←hl] at hs⊢;obtain⟨F1,F2,q1,q2,q3,q4⟩:=hs;exact⟨F,aY.2 ⟨F2,F1,λb=>by rw[q1 b];exact Or.comm,λb u1 u2=>q2 b u2 u1,q4,⟨F1,λ_=>False,λb=>by simp,λ_ _ h=>h,q3,λ_ h=>h⟩⟩,λ_ h=>h⟩
 have h4:=eC.mk (E:=E) (g:=g) hf w h3;exact(show aB E [eC g r ps,_] [_,eC g r ps] from aA) w h4
end
instance Tb:cL 147 [.pointer none,.pointer none,.int .i64 0] [(0,1),(1,1),(2,1)]:=⟨⟨q_,q_⟩⟩
structure Sv where
 v:Lg
 ps:List dS
 r:Int
abbrev pN(g a b:Nat)(s:Sv)(os:List Ov):List aL:=[aJ g 147 [pt a,pt b,.int .i64 s.r],eC a s.r s.ps,cO b s.v os]
def aT(g:Nat)(s:Sv)(os:List Ov):aL:=pack λ(x:Nat×Nat)=>pN g x.1 x.2 s os
theorem aT.mk{E:Env}{R:List aL}{g a b:Nat}{s:Sv}{os:List Ov}:aB E (pN g a b s os++R) (aT g s os::R) :=
 aB.pack (l:=λ(x:Nat×Nat)=>pN g x.1 x.2 s os) (a,b) (.cons .aN (.cons .aN (.cons .aN .nil)))
theorem jJ{E:Env}{f:FuncId}{args:Array Value}{g:Nat}{s:Sv}{os:List Ov}{Q:Ending→List aL→Prop}(h:∀a b,aK prog E f args (pN g a b s os) Q):aK prog E f args [aT g s os] Q :=
 aK.unpack (l:=λ(x:Nat×Nat)=>pN g x.1 x.2 s os) Has.aN λx=>by rw[aAc];exact h x.1 x.2
theorem G8(E:Env)(b:Bool):G E 258 [.bool b] [] (cM (.int .i64 (if b then 0 else 14)) []):=by
 refine t_ func258 ntmps258 ?_;cases b;all_goals
  repeat first|refine v_ ?_|intro
  exact B7
section
variable (E:Env) (g a b:Nat) (s:Sv) (os:List Ov)
theorem DI(hb:gE E g [pt a,pt b,.int .i64 s.r]):G E 72 [pt g] [] (cM (.bool true) []):=by
 refine t_ func72 ntmps72 ?_;repeat first|refine v_ ?_|intro
 exact B7
theorem It(hb:gE E g [pt a,pt b,.int .i64 s.r]):G E 99 [pt g] [] (cM (pt a) []):=by
 have is:=λM hb=>DI M g a b s hb;refine t_ func99 ntmps99 ?_;repeat first|refine v_ ?_|intro
 refine eV is ?_;repeat first|refine v_ ?_|intro
 exact B7
theorem Wj(r:Int):G E 224 [.int .i64 r] [] λe H'=>∃g,e=.returned (pt g)∧H'=[aT g ⟨Hb,[],dF r 0 3⟩ []]:=by
 refine t_ func224 ntmps224 ?_;repeat first|refine v_ ?_|intro
 refine bW (λM=>YG M (dF r 0 3)) ?_;rintro e H' ⟨g1,rfl,rfl⟩;repeat first|refine v_ ?_|intro
 refine bW UP ?_;rintro e H' ⟨g2,rfl,rfl⟩;repeat first|refine v_ ?_|intro
 rename_i g3;refine aR (H':=[aT g3 ⟨Hb,[],dF r 0 3⟩ []]) rfl aF ?_ ⟨g3,rfl,rfl⟩;exact aB.trans (aB.aV (l:=pN g3 g1 g2 ⟨Hb,[],dF r 0 3⟩ []) aC) (by have:=aT.mk (E:=E) (R:=[]) (g:=g3) (a:=g1) (b:=g2) (s:=⟨Hb,[],dF r 0 3⟩) (os:=[]);rwa [aAc] at this)
theorem vC:G E 89 [pt g] [aT g s os] (cM (.int .i64 s.r) [aT g s os]):=by
 refine jJ λa b=>?_;have is:=λM hb=>DI M g a b s hb;dsimp only[pN];refine t_ func89 ntmps89 ?_;repeat first|refine v_ ?_|intro
 refine eV is ?_;repeat first|refine v_ ?_|intro
 refine aR (H':=[aT g s os]) rfl aF ?_ ⟨rfl,rfl⟩;have:=aT.mk (E:=E) (R:=[]) (g:=g) (a:=a) (b:=b) (s:=s) (os:=os);exact aB.trans (aB.aV (l:=pN g a b s os) aC) (by rwa [aAc] at this)
theorem Pp:G E 14 [pt g] [aT g s os] λe H'=>∃g2,e=.returned (pt g2)∧H'=[cO g2 s.v os,aT g s os]:=by
 refine jJ λa b=>?_;have is:=λM hb=>DI M g a b s hb;dsimp only[pN];refine t_ func14 ntmps14 ?_;repeat first|refine v_ ?_|intro
 refine eV is ?_;repeat first|refine v_ ?_|intro
 refine bW (λM=>J0 M b s.v os) ?_;rintro e H' ⟨g2,rfl,rfl⟩;repeat first|refine v_ ?_|intro
 refine aR (H':=[cO g2 s.v os,aT g s os]) rfl aF ?_ ⟨g2,rfl,rfl⟩;have:=aT.mk (E:=E) (R:=[cO g2 s.v os]) (g:=g) (a:=a) (b:=b) (s:=s) (os:=os);exact aB.trans (aB.aV (l:=pN g a b s os++[cO g2 s.v os]) aC) (aB.trans this aA)
end
def cA(A B:List aL):Prop:=∀F w,cT A F w→∃F',cT B F' w∧∀b,F' b→F b
section
variable {A B C' A' B':List aL} {E:Env} {H R:List aL}
theorem cA.refl:cA A A:=λF _ h=>⟨F,h,λ_ h=>h⟩
theorem cA.trans(h:cA A B)(k:cA B C'):cA A C':=λF w hs=>by
 obtain⟨F1,h1,h2⟩:=h F w hs;obtain⟨F2,h3,h4⟩:=k F1 w h1;exact⟨F2,h3,λb hb=>h2 b (h4 b hb)⟩
theorem cA.append(h:cA A B)(k:cA A' B'):cA (A++A') (B++B'):=λF w hs=>by
 obtain⟨F1,F2,h1,h2,h3,h4⟩:=aY.1 hs;obtain⟨G1,g1,g2⟩:=h F1 w h3;obtain⟨G2,g3,g4⟩:=k F2 w h4;refine⟨λb=>G1 b∨G2 b,aY.2 ⟨G1,G2,λ_=>aDl,λb hb hg=>h2 b (g2 b hb) (g4 b hg),g1,g3⟩,?_⟩;rintro b (hb|hb)
 ·exact(h1 b).2 (.inl (g2 b hb))
 ·exact(h1 b).2 (.inr (g4 b hb))
theorem cA.cons{x y:aL}(h:cA [x] [y])(k:cA A' B'):cA (x::A') (y::B'):=cA.append h k
theorem cA.aV(h:cS B A R):cA A B:=λF w hs=>by
 obtain⟨F1,F2,h1,h2,h3,h4⟩:=aY.1 (h.cT hs);exact⟨F1,h3,λb hb=>(h1 b).2 (.inl hb)⟩
theorem aB.imp(h:cA A B)(hp:cS A H R):aB E H (B++R):=λw hw =>
 (hw.aV hp).conv λF hs=>by
  obtain⟨F',h1,h2⟩:=(h.append cA.refl) F w hs;exact⟨F',h1,h2⟩
theorem aB.cF(h:cA H R):aB E H R:=λw hw=>hw.conv λF hs=>h F w hs
theorem cA.pack{X:Type}{l:X→List aL}(x:X):cA (l x) [Sep.pack l]:=λF w hs =>
 ⟨F,⟨F,λ_=>False,λb=>by simp,λ_ _ h=>h,⟨x,hs⟩,λ_ h=>h⟩,λ_ h=>h⟩
theorem cA.lH{p:Prop}(hp:p):cA A (iE p::A):=λF w hs =>
 ⟨F,⟨λ_=>False,F,λb=>by simp,λ_ h=>h.elim,⟨hp,λ_ h=>h⟩,hs⟩,λ_ h=>h⟩
theorem cA.one{x y:aL}(h:∀F w,x.holds F w→y.holds F w):cA [x] [y]:=λF _w ⟨F1,F2,h1,h2,h3,h4⟩=>⟨F,⟨F1,F2,h1,h2,h _ _ h3,h4⟩,λ_ h=>h⟩
end
def nI{X:Type}(p:X→Prop)(l:X→List aL):aL:=pack λx=>iE (p x)::l x
section
variable {X:Type} {p:X→Prop} {l:X→List aL} {E:Env} {H R H':List aL} {P:Program} {N:Nat} {F:Nat→Value} {Q:QF}
theorem cA.fp{x:X}(hx:p x):cA (l x) [nI p l]:=(cA.lH hx).trans (cA.pack (l:=λx=>iE (p x)::l x) x)
theorem aB.fp{x:X}(hx:p x)(hp:cS (l x) H R):aB E H (nI p l::R):=aB.imp (cA.fp hx) hp
theorem St.Jn{w:World}(hw:St E H w)(hh:Has (nI p l) H R):∃x,p x∧St E (l x++R) w:=by
 obtain⟨x,hs⟩:=hw.unpack hh;have hp:=St.lH (H:=_) (R:=_) hs Has.aN;refine⟨x,hp,hs.conv λF hst=>?_⟩;obtain⟨F1,F2,k1,k2,k3,k4⟩:=hst;exact⟨F2,k4,λb hb=>(k1 b).2 (.inr hb)⟩
theorem aK.fp{f:FuncId}{args:Array Value}{Qt:Ending→List aL→Prop}(hh:Has (nI p l) H R)(h:∀x,p x→aK P E f args (l x++R) Qt):aK P E f args H Qt:=λhd w hw=>by
 obtain⟨x,hx,hs⟩:=hw.Jn hh;exact h x hx hd w hs
theorem aK.Y1{f:FuncId}{args:Array Value}{Qt:Ending→List aL→Prop}(hh:Has (nI p l) H R)(h:(∃x,p x)→aK P E f args H Qt):aK P E f args H Qt:=λhd w hw=>by
 obtain⟨x,hx,hs⟩:=hw.Jn hh;exact h ⟨x,hx⟩ hd w hw
theorem cA.Z8{p':X→Prop}(h:∀x,p x→p' x):cA [nI p l] [nI p' l]:=cA.one λF w ⟨x,hs⟩=>by
 obtain⟨F1,F2,h1,h2,h3,h4⟩:=hs;exact⟨x,F1,F2,h1,h2,⟨h x h3.1,h3.2⟩,h4⟩
end
theorem aK.beside{P:Program}{E:Env}{f:FuncId}{args:Array Value}{Hp R:List aL}{Q:Ending→List aL→Prop}(h:∀M,Sub E R M→aK P M f args Hp Q):aK P E f args (Hp++R) (λe H'=>∃H1,Q e H1∧H'=H1++R):=aK.dU h
theorem cA.I6{X:Type}{f:X→aL}{l m:List X}:cA [aO f l,aO f m] [aO f (l++m)]:=λF w hs=>by
 obtain⟨F1,F2,h1,h2,h3,G1,G2,g1,g2,g3,g4⟩:=hs;refine⟨F,⟨F,λ_=>False,λb=>by simp,λ_ _ h=>h,?_,λ_ h=>h⟩,λ_ h=>h⟩;show cT ((l++m).map f) F w;rw[aBk];refine aY.2 ⟨F1,G1,λb=>?_,λb hb hg=>h2 b hb ((g1 b).2 (.inl hg)),h3,g3⟩;rw[h1 b,g1 b];have:=g4 b;constructor
 ·rintro(h|h|h)
  ·exact .inl h
  ·exact .inr h
  ·exact absurd h this
 ·rintro(h|h)
  ·exact .inl h
  ·exact .inr (.inl h)
def OM(z:LS)(k:Int)(w:WL):Prop:=w.ok∧w.s=z∧w.wr≤k
def iB(g gd:Nat)(z:LS)(k:Int):aL:=nI (OM z k) (Es g gd)
structure Ys where
 wr:Int
 A:Option Addr
 c:Nat
 l:List AR
structure Yy(z:LS)(k:Int)(x:Ys):Prop where
 d:flat x.l=z.D
 n:x.l.length=2*z.N+1
 n0:1≤z.N
 n1:z.N≤64
 w0:0≤x.wr
 w1:x.wr≤k
def WH(gd:Nat)(z:LS)(x:Ys):List aL:=zK gd true z.dead z.aG x.wr x.A (2*z.N+1) x.c x.l
def kJ(gd:Nat)(z:LS)(k:Int):aL:=nI (Yy z k) (WH gd z)
theorem iB.mk{g gd:Nat}{z:LS}{k:Int}{w:WL}(h:OM z k w):cA (Es g gd w) [iB g gd z k]:=cA.fp (X:=WL) (p:=OM z k) (l:=Es g gd) (x:=w) h
theorem kJ.mk{gd:Nat}{z:LS}{k:Int}{x:Ys}(h:Yy z k x):cA (WH gd z x) [kJ gd z k]:=cA.fp (X:=Ys) (p:=Yy z k) (l:=WH gd z) (x:=x) h
theorem iB.mono{g gd:Nat}{z:LS}{k k':Int}(h:k≤k'):cA [iB g gd z k] [iB g gd z k']:=cA.Z8 λ_ hx=>⟨hx.1,hx.2.1,Int.le_trans hx.2.2 h⟩
theorem kJ.mono{gd:Nat}{z:LS}{k k':Int}(h:k≤k'):cA [kJ gd z k] [kJ gd z k']:=cA.Z8 λ_ hx=>⟨hx.d,hx.n,hx.n0,hx.n1,hx.w0,Int.le_trans hx.w1 h⟩
theorem WL.ok.dk{w:WL}{z:LS}{k:Int}(h:OM z k w):Yy z k ⟨w.wr,w.A,w.c,w.jM⟩:=by
 obtain⟨h1,rfl,h3⟩:=h;exact⟨rfl,by have:=h1.hk;have:=h1.len;show w.jM.length=2*w.N+1;omega,h1.n0,h1.n1,h1.w0,h3⟩
theorem V2{g gd:Nat}{w:WL}{z:LS}{k:Int}(h:OM z k w):cA (Es g gd w) (WH gd z ⟨w.wr,w.A,w.c,w.jM⟩):=by
 obtain⟨h1,rfl,h3⟩:=h;have e:w.k=2*w.s.N+1:=h1.len;unfold WH;show cA (Es g gd w) [Cy gd true w.dead w.aG w.wr w.A (2*w.s.N+1) w.c,own sH w.A (2*w.s.N+1) w.c w.jM];rw[←e];exact cA.aV (.cons (.aM (.aM (.aM (.aM .aN)))) (.cons (.aM (.aM (.aM (.aM .aN)))) .nil))
theorem iB.down{g gd:Nat}{z:LS}{k:Int}{A:List aL}:cA (iB g gd z k::A) (kJ gd z k::A):=cA.cons (λF w hs=>by
 obtain⟨F1,F2,h1,h2,⟨x,h3⟩,h4⟩:=hs;obtain⟨G1,G2,g1,g2,g3,g4⟩:=h3;obtain⟨F',k1,k2⟩:=(V2 (gd:=gd) (g:=g) g3.1).trans (kJ.mk (gd:=gd) (WL.ok.dk g3.1)) G2 w g4;exact⟨F',k1,λb hb=>(h1 b).2 (.inl ((g1 b).2 (.inr (k2 b hb))))⟩) cA.refl
section
variable (E:Env) (g gd:Nat) (z:LS) (k:Int)
theorem pA.conv{w:WL}{r:Int×LS}{K:Int}{e:Ending}{H':List aL}(hk:w.wr≤k)(h:pA g gd w r K e H'):∃H2,aB E H' H2∧cM (.int .i64 r.1) [iB g gd r.2 (k+K)] e H2:=by
 obtain⟨w',rfl,h1,h2,h3,_,rfl⟩:=h;exact⟨_,aB.cF (iB.mk ⟨h1,h2,by omega⟩),rfl,rfl⟩
theorem So(hm:z.bF.length≤10000)(X:Option Addr)(nx cx:Nat)(b:List UInt8)(hr:Rd E aU X nx cx b):G E 229 [pt g,.slice X nx cx] [iB g gd z k] (cM (.int .i64 (z.append b).1) [iB g gd (z.append b).2 k]):=by
 refine aK.fp Has.aN λw hw=>?_;rw[aAc];obtain⟨h1,rfl,h3⟩:=hw;have hml:w.m=w.s.bF.length:=by rw[h1.hm];show _=(w.bF.map (·.b)).length;rw[aAw]
 refine aK.post (RK E g gd w h1 o_ X nx cx b hr) λe H' h=>?_;have:=pA.conv E g gd k h3 h;rw[Int.add_zero] at this;exact this
theorem async(hk:k≤10000000000000):G E 112 [pt g] [iB g gd z k] (cM (.int .i64 z.sync.1) [iB g gd z.sync.2 (k+2048)]):=by
 refine aK.fp Has.aN λw hw=>?_;rw[aAc];obtain⟨h1,rfl,h3⟩:=hw;exact aK.post (XX E g gd w h1 o_) λe H' h=>pA.conv E g gd k h3 h
theorem Wq(hk:k≤10000000000000)(X:Option Addr)(nx cx:Nat)(b:List UInt8)(hr:Rd E aU X nx cx b):G E 192 [pt g,.slice X nx cx] [iB g gd z k] (cM (.int .i64 (z.swap b).1) [iB g gd (z.swap b).2 (k+4128)]):=by
 refine aK.fp Has.aN λw hw=>?_;rw[aAc];obtain⟨h1,rfl,h3⟩:=hw;exact aK.post (W5 E g gd w h1 o_ X nx cx b hr) λe H' h=>pA.conv E g gd k h3 h
theorem QM:G E 225 [pt g] [iB g gd z k] λe H'=>∃O oc xs,xs.map Oc.b=z.bF∧(∀x∈xs,x.n=x.b.length∧x.b.length≤4096)∧z.bF.length≤100000∧e=.returned (.slice O z.bF.length oc)∧H'=[own vQ O z.bF.length oc xs,aO uL xs,iB g gd z k]:=by
 refine aK.fp Has.aN λw hw=>?_;rw[aAc];have hw2:=hw;obtain⟨h1,rfl,h3⟩:=hw2;have hml:w.m=w.s.bF.length:=by rw[h1.hm];show _=(w.bF.map (·.b)).length;rw[aAw]
 refine aK.post (aK.dU (Hp:=[Mk g gd w,own vQ w.R w.m w.rc w.bF,aO uL w.bF]) (R:=[own aU w.P w.p w.pc w.cG,Cy gd true w.dead w.aG w.wr w.A w.k w.c,own sH w.A w.k w.c w.jM]) λM _=>PH M g gd w h1) ?_;rintro e H' ⟨H1,⟨O,oc,xs,rfl,k1,k2,k3,k4,rfl⟩,rfl⟩;rw[hml];refine⟨[own vQ O w.s.bF.length oc xs,aO uL xs,iB g gd w.s k],aB.cF ?_,O,oc,xs,k2,k4,by have:=h1.bF;omega,rfl,rfl⟩;rw[←hml];exact cA.cons cA.refl (cA.cons cA.refl (iB.mk hw))
theorem Xy(hd:z.dead=false)(ha:z.aG = -1)(hk:k≤10000000000000):G E 167 [pt gd] [kJ gd z k] λe H'=>∃g,e=.returned (.tuple #[pt g,.bool true])∧H'=[iB g gd (LS.open z.N z.D (-1)) (k+2048)]:=by
 refine aK.fp Has.aN λx hx=>?_;rw[aAc];unfold WH;rw[hd,ha];have h1:=hx.w1;refine aK.post (Xu E gd z.N (-1) x.wr x.A (2*z.N+1) x.c x.l hx.n.symm rfl hx.n0 hx.n1 o_ o_ hx.w0 o_ (ND _ _)) ?_;rintro e H' ⟨g,w,rfl,k1,k2,k3,k4,rfl⟩;rw[hx.d] at k2;exact⟨_,aB.cF (iB.mk ⟨k1,k2,by omega⟩),g,rfl,rfl⟩
def LS.Tm(s:LS)(k:Int):LS:=⟨s.N,s.D,s.bF,s.kE,s.pos,s.cG,s.dead,if s.dead then s.aG else max k (-1)⟩
theorem ZI(q:Int)(hq:q≤9223372036854775807):G E 193 [pt gd,.int .i64 q] [iB g gd z k] (cM (.tuple #[]) [iB g gd (z.Tm q) k]):=by
 refine aK.fp Has.aN λw hw=>?_;rw[aAc];obtain⟨h1,rfl,h3⟩:=hw;refine aK.conv (aB.aV (l:=[Cy gd true w.dead w.aG w.wr w.A w.k w.c]++[Mk g gd w,own vQ w.R w.m w.rc w.bF,aO uL w.bF,own aU w.P w.p w.pc w.cG,own sH w.A w.k w.c w.jM]) (.cons (.aM (.aM (.aM (.aM .aN)))) (.cons .aN (.cons .aN (.cons .aN (.cons .aN (.cons .aN .nil))))))) ?_;refine aK.post (aK.dU λM _=>SX M gd w.dead w.aG w.wr w.A w.k w.c q) ?_;rintro e H' ⟨H1,⟨rfl,rfl⟩,rfl⟩;have a0:=h1.a0;have a1:=h1.a1;have hok:WL.ok { w with aG:=if w.dead then w.aG else max q (-1) }:=⟨h1.hm,h1.hp,h1.hk,h1.n0,h1.n1,h1.len,by dsimp only;split<;>omega,by dsimp only;split<;>omega,h1.w0,h1.fit,h1.bF,h1.kE,h1.wide⟩
 exact⟨_,aB.cF ((cA.aV (B:=Es g gd { w with aG:=if w.dead then w.aG else max q (-1) }) (.cons (.aM .aN) (.cons (.aM .aN) (.cons (.aM .aN) (.cons (.aM .aN) (.cons .aN (.cons .aN .nil))))))).trans (iB.mk ⟨hok,rfl,h3⟩)),rfl,rfl⟩
theorem ZT(n:Int)(N:Nat)(hn:(2*N+1:Int)=n)(h0:1≤N)(h1:N≤64):G E 106 [.int .i64 n] [] λe H'=>∃gd,e=.returned (pt gd)∧H'=[kJ gd (LS.new N) 0]:=by
 refine aK.post (Pm E n (2*N+1) (by rw[←hn,if_neg o_,if_neg o_];omega)) ?_;rintro e H' ⟨gd,g2,rfl,rfl⟩;have hf:=Iz (2*N+1);refine⟨[kJ gd (LS.new N) 0],aB.cF (kJ.mk (z:=LS.new N) (x:=⟨0,some ⟨g2,0,none⟩,2*N+1,List.replicate (2*N+1) Ek⟩) ⟨hf,aAz,h0,h1,aCd _,aCd _⟩),gd,rfl,rfl⟩
end
end
section
theorem aLg{o:Out}(h:o.fit)(pF:Bool):(∀f∈mU o pF,f.ok)∧(mU o pF).length≤8:=by
 have hl:∀l:List cQ,(l.filter tG).length+(l.filter kD).length≤l.length:=by
  intro l
  induction l with
  |nil=>exact aAf _
  |cons x l ih =>
   have:¬(tG x=true∧kD x=true):=by
    rintro⟨h1,h2⟩;unfold tG at h1;rw[h2] at h1;simp at h1
   simp only[List.filter_cons,aAs];split<;>split<;>(try simp only[aAs])<;>first|omega|(exfalso;exact this ⟨‹_›,‹_›⟩)
 have h1:=hl o.zM;have h2:=h.len;unfold mU;split
 ·refine⟨λf hf=>?_,?_⟩
  ·rcases aBg.1 hf with hf|hf
   ·exact h.zM f (aGb.1 hf).1
   ·split at hf
    ·exact h.zM f (aGb.1 hf).1
    ·exact(aAk hf).elim
  ·rw[aAe];split
   ·omega
   ·simp only[aDh];omega
 ·exact⟨λ_ h=>(aAk h).elim,aAh _⟩
theorem Fc:(⟨0,[]⟩:Out).fit:=⟨λ_ h=>(aAk h).elim,aAh _⟩
theorem xH{v:Lg}(hl:∀c∈v.l,c.ok)(ht:∀c∈v.t,c.ok)(a:bJ):(cE v a).1.fit:=by
 have key:∀ {l:List Out} {i:Nat},(∀o∈l,o.fit)→(l[i]?.getD ⟨0,[]⟩).fit:=by
  intro l i h;cases hi:l[i]? with
  |none=>exact Fc
  |some o=>exact h o (aAi hi)
 unfold cE;split
 ·exact key (mG pS hl).2
 split
 ·exact key (mG (mG pS hl).1 λc hc=>ht c (aBs hc)).2
 ·exact Fc
theorem tQ{v:Lg}{a:bJ}(h:(cE v a).2.2=true):∃c∈v.l++v.t,c.id=a:=by
 unfold cE at h;split at h
 ·rename_i h1;obtain⟨_,x,hx,hp⟩:=gZ h1;exact⟨x,aDn _ (aAi hx),of_decide_eq_true hp⟩
 ·split at h
  ·rename_i h1;obtain⟨_,x,hx,hp⟩:=gZ h1;exact⟨x,aCp _ (aAi hx),of_decide_eq_true hp⟩
  ·cases h
theorem Ie{l:List aX}{r:Int}{n:Nat}(h:∀q:Nat,q<n→∃c∈l,c.id=⟨r,((q+1:Nat):Int)⟩):n≤l.length:=by
 induction n generalizing l with
 |zero=>exact aAh _
 |succ n ih =>
  obtain⟨c,hc,hid⟩:=h n (Nat.lt_succ_self n);obtain⟨i,hi,hx⟩:=aBm hc;have h2:n≤(l.eraseIdx i).length:=ih λq hq=>by
   obtain⟨d,hd,hdid⟩:=h q (Nat.lt_succ_of_lt hq);refine⟨d,?_,hdid⟩;obtain⟨j,hj,hy⟩:=aBm hd;have hij:j≠i:=by
    rintro rfl;rw[hx] at hy;subst hy;rw[hid] at hdid;injection hdid with _ h3
    omega
   exact List.mem_eraseIdx_iff_getElem.2 ⟨j,hj,hij,hy⟩
  rw[List.length_eraseIdx_of_lt hi] at h2;omega
def gI(v:Lg)(r:Int)(q:Nat):Option (List cQ):=if (cE v ⟨r,((q+1:Nat):Int)⟩).2.2 then some (mU (cE v ⟨r,((q+1:Nat):Int)⟩).1 (cE v ⟨r,((q+1:Nat):Int)⟩).2.1) else none
def lU(v:Lg)(r:Int):Nat→Nat→List dS→List dS
 |0,_,ps=>ps
 |k+1,q,ps=>match gI v r q with
  |none=>ps
  |some w=>lU v r k (q+1) (rW ps ((q+1:Nat):Int) w)
theorem LV{ps:List dS}{i:Nat}{w:List cQ}:(mQ ps i w).length≤max ps.length (ps.length+1)∧(i<ps.length→(mQ ps i w).length=ps.length):=by
 unfold mQ;split
 ·exact⟨by simp,λ_=>by simp⟩
 ·exact⟨by simp,λh=>absurd h ‹_›⟩
theorem IT{ps:List dS}{q:Nat}{w:List cQ}{n:Nat}(h:ps.length≤n)(hq:q+1≤n):(rW ps ((q+1:Nat):Int) w).length≤n:=by
 unfold rW;split
 ·rename_i h1;have e:(((q+1:Nat):Int) - 1).toNat=q:=o_;rw[e];have:=LV (ps:=ps) (i:=q) (w:=w);by_cases h2:q<ps.length
  ·rw[this.2 h2];exact h
  ·unfold mQ;rw[if_neg h2];simp;omega
 ·exact h
def bJ.small(a:bJ):Prop:=(0≤a.rep∧a.rep≤255)∧0≤a.seq∧a.seq≤65535
structure Wk.cV(w:Wk):Prop where
 out:∀f∈w.out,f.check=0
 ref:w.ref.small
theorem bR{f:cQ}(hk:1≤f.kind∧f.kind≤11)(ha:0≤f.a∧f.a≤255)(hr:f.ref.small):f.check=0:=by
 unfold cQ.check;rw[if_pos hk,if_pos ⟨ha,hr.1,hr.2⟩]
theorem Wk.cV.tell{w:Wk}(h:w.cV)(kind a k:Int)(h1:1≤kind∧kind≤11)(h2:0≤a∧a≤255):(w.tell kind a k).cV :=
 ⟨λf hf=>by
  rcases aBg.1 hf with hf|hf
  ·exact h.out f hf
  ·obtain rfl:=aAp.1 hf;exact bR h1 h2 h.ref,h.ref⟩
theorem eK.tK{w:Wk}{r:Bk×Int}(hw:w.cV):eK Wk.cV (w.iQ r):=by
 unfold Wk.iQ;split
 ·exact eK.ok ⟨hw.out,hw.ref⟩
 ·exact eK.error
theorem eK.Bu{w:Wk}(hw:w.cV)(hb:w.b.fit){a:bJ}(ha:a.small)(st:List Int):eK (λp=>Wk.cV p.1∧p.2.fit) (w.order a st):=by
 obtain⟨q,hq⟩:∃q,q=FT w.b a st:=⟨_,rfl⟩
 obtain⟨o,k⟩:=q;rw[show w.order a st=_ from iF hq];split
 ·exact eK.ok ⟨⟨hw.out,ha⟩,hb.C7 o (BF hq ‹_›)⟩
 ·exact eK.error
theorem i7{x:Int}(h:0≤x∧x≤7):0≤x∧x≤255:=o_
theorem Wk.Rl{w:Wk}(hw:w.cV)(hb:w.b.fit){c:aX}(hc:c.may=true):eK Wk.cV (w.do c):=by
 obtain⟨hid,hti,hki,ha,hbb,hr1,hr2⟩:=(aX.bY c).1 hc;have href:c.ref.small:=⟨hr1,hr2⟩
 have hids:c.id.small:=⟨⟨hid.1,by omega⟩,by omega,hid.2.2.2⟩
 unfold Wk.do;split
 ·exact eK.ask λ_=>eK.tK hw
 split
 ·exact eK.ask λ_=>(eK.tK hw).bind λx hx=>eK.pure (hx.tell _ _ _ sD ha)
 split
 ·refine eK.ask λhp=>?_;have tA:0≤oI w.b c∧oI w.b c≤255:=by
   unfold oI;split
   ·rename_i h;simp only[aAv] at h;exact i7 (Cn h.2)
   ·exact hbb
  refine(eK.tK hw).bind λx hx=>(eK.tK hx).bind λy hy=>?_;exact eK.pure (Wk.cV.tell (Wk.cV.tell (w:={ y with ref:=c.id }) ⟨hy.out,hids⟩ _ _ _ sD tA) _ _ _ sD ha)
 split
 ·refine eK.ask λhp=>?_;refine(eK.Bu hw hb href _).bind λp hp2=>?_;obtain⟨w1,o⟩:=p;obtain⟨h1,h3⟩:=hp2;dsimp only at h1 h3⊢;have key:∀x:Wk,x.cV→eK Wk.cV (pure ((x.put { o with iN:=c.n } 1).tell 2 o.item c.n)):=λx hx=>eK.pure (Wk.cV.tell (w:=x.put { o with iN:=c.n } 1) ⟨hx.out,hx.ref⟩ _ _ _ sD (i7 h3.item));split
  ·exact(eK.tK h1).bind λx hx=>key x hx
  ·exact(eK.tK h1).bind λx hx=>key x hx
 split
 ·refine(eK.Bu hw hb href _).bind λp hp2=>?_;obtain⟨w1,o⟩:=p;obtain⟨h1,h3⟩:=hp2;dsimp only at h1 h3⊢;refine(eK.tK h1).bind λx hx=>?_;have hx1:=hx.tell 3 o.item o.iN sD (i7 h3.item);have key:∀y:Wk,y.cV→eK Wk.cV (pure ((y.put o 4).tell 7 o.cC 2)):=λy hy=>eK.pure (Wk.cV.tell (w:=y.put o 4) ⟨hy.out,hy.ref⟩ _ _ _ sD (i7 h3.cC));split
  ·refine eK.bind (p:=Wk.cV) ?_ λy hy=>key y hy;exact(eK.tK hx1).bind λy hy=>eK.pure (hy.tell _ _ _ sD (i7 h3.cC))
  ·exact eK.bind (p:=Wk.cV) (eK.ok hx1) λy hy=>key y hy
 split
 ·refine(eK.Bu hw hb href _).bind λp hp2=>?_;obtain⟨w1,o⟩:=p;obtain⟨h1,h3⟩:=hp2;dsimp only at h1 h3⊢;split
  ·exact eK.error
  ·refine(eK.tK h1).bind λx hx=>?_;exact eK.pure (Wk.cV.tell (Wk.cV.tell (w:=x.put { o with cost:=(mY w1.b o.item o.iN).1 } 2) ⟨hx.out,hx.ref⟩ _ _ _ sD (i7 h3.cC)) _ _ _ sD (i7 h3.cC))
 split
 ·refine(eK.Bu hw hb href _).bind λp hp2=>?_;obtain⟨w1,o⟩:=p;obtain⟨h1,h3⟩:=hp2;dsimp only at h1 h3⊢;exact eK.pure ((((Wk.cV.tell (w:=w1.put o 3) ⟨h1.out,h1.ref⟩ _ _ _ sD (i7 h3.item)).tell _ _ _ sD (i7 h3.item)).tell _ _ _ sD (i7 h3.item)).tell _ _ _ sD (i7 h3.cC))
 split
 ·refine(eK.Bu hw hb href _).bind λp hp2=>?_;obtain⟨w1,o⟩:=p;obtain⟨h1,h3⟩:=hp2;dsimp only at h1 h3⊢;refine(eK.tK h1).bind λx hx=>?_;exact eK.pure (Wk.cV.tell (w:=x.put o 5) ⟨hx.out,hx.ref⟩ _ _ _ sD (i7 h3.cC))
 split
 ·exact eK.tK hw
 ·exact eK.error
def Out.cV(o:Out):Prop:=∀f∈o.zM,f.check=0
theorem aIq{b:Bk}(h:b.fit){c:aX}(hc:c.may=true):(C0 b c).2.cV:=by
 have hw:Wk.cV ⟨b,[],⟨0,0⟩⟩:=⟨(λ_ h=>(aAk h).elim),(show bJ.small ⟨0,0⟩ by unfold bJ.small;decide)⟩
 unfold C0;cases hd:Wk.do ⟨b,[],⟨0,0⟩⟩ c with
 |ok w=>exact(Wk.Rl hw h hc w hd).out
 |error k=>exact λ_ h=>(aAk h).elim
theorem DS{b:Bk}(h:b.fit){l:List aX}(hl:∀c∈l,c.ok)(hm:∀c∈l,c.may=true):∀o∈(gH b l).2,o.cV:=by
 induction l generalizing b with
 |nil=>exact λ_ h=>by cases h
 |cons c l ih =>
  have h1:=Ki h (hl c aBo);have h2:=ih h1.1 (λx hx=>hl x (aBl _ hx)) λx hx=>hm x (aBl _ hx);intro o ho;rcases aEj.1 ho with rfl|ho
  ·exact aIq h (hm c aBo)
  ·exact h2 o ho
theorem C6{v:Lg}(hl:∀c∈v.l,c.ok)(ht:∀c∈v.t,c.ok)(hlm:∀c∈v.l,c.may=true)(htm:∀c∈v.t,c.may=true)(a:bJ):(cE v a).1.cV:=by
 have key:∀ {l:List Out} {i:Nat},(∀o∈l,o.cV)→(l[i]?.getD ⟨0,[]⟩).cV:=by
  intro l i h;cases hi:l[i]? with
  |none=>exact λ_ h=>(aAk h).elim
  |some o=>exact h o (aAi hi)
 unfold cE;split
 ·exact key (DS pS hl hlm)
 split
 ·exact key (DS (mG pS hl).1 (λc hc=>ht c (aBs hc)) λc hc=>htm c (aBs hc))
 ·exact λ_ h=>(aAk h).elim
theorem Jb{o:Out}(h:o.cV)(pF:Bool):∀f∈mU o pF,f.check=0:=by
 unfold mU;split
 ·intro f hf;rcases aBg.1 hf with hf|hf
  ·exact h f (aGb.1 hf).1
  ·split at hf
   ·exact h f (aGb.1 hf).1
   ·exact(aAk hf).elim
 ·exact λ_ h=>(aAk h).elim
end
section
open Go.RowKit Reg
open Mem hiding Rd
theorem EC{E:Env}{H R:List aL}{g:Nat}{v:Lg}{os:List Ov}{w:World}(hw:St E H w)(hh:Has (cO g v os) H R):∃h:Lh,h.os=os∧Lf h v:=by
 obtain⟨h,_,ho,hf,_⟩:=cO.out (R:=[]) (hw.weaken (.cons hh .nil));exact⟨h,ho,hf⟩
section
variable (E:Env) (g:Nat) (s:Sv) (os:List Ov)
theorem Kc(hro:Bw E os)(hps:s.ps.length≤48):G E 261 [pt g] [aT g s os] (cM (.tuple #[]) [aT g ⟨s.v,lU s.v s.r 49 0 s.ps,s.r⟩ os]):=by
 refine jJ λa b=>?_;dsimp only[pN];refine aK.fact (p:=∃h:Lh,h.os=os∧Lf h s.v) (λw hw=>EC hw aS) λhex=>?_;obtain⟨h0,_,hf⟩:=hex;have hln:=hf.len;refine t_ func261 ntmps261 ?_;repeat first|refine v_ ?_|refine Dr.two ?_ ?_|intro
 refine C.loop (X:=Nat×List dS) (λx=>[(0,pt g),(2,.int .i64 x.1)]) (λx=>[aJ g 147 [pt a,pt b,.int .i64 s.r],eC a s.r x.2,cO b s.v os])
  (λx=>1≤x.1∧lU s.v s.r (50 - x.1) (x.1 - 1) x.2=lU s.v s.r 49 0 s.ps∧(∀q:Nat,q<x.1 - 1→∃c∈s.v.l++s.v.t,c.id=⟨s.r,((q+1:Nat):Int)⟩)∧x.2.length≤48) (λx=>50 - x.1) (1,s.ps) aD aA ⟨aAf _,rfl,(λq h=>absurd h (aFk _)),hps⟩ ?_
 rintro⟨n,ps⟩ Gf ⟨h0,h1,h2,h3⟩;dsimp only at h0 h1 h2 h3⊢;obtain⟨q,rfl⟩:∃q,n=q+1:=⟨n - 1,by omega⟩
 have hq:q≤48:=by have:=Ie h2;rw[aAe] at this;omega
 rw[show q+1 - 1=q from rfl] at h1 h2;have out:=λM hro=>Dw M b s.v os hro ⟨s.r,((q+1:Nat):Int)⟩;have hfit:=xH hf.RB hf.tok ⟨s.r,((q+1:Nat):Int)⟩;have hknow:=tQ (v:=s.v) (a:=⟨s.r,((q+1:Nat):Int)⟩);have hstep:lU s.v s.r (50 - (q+1)) q ps=match gI s.v s.r q with
  |none=>ps
  |some w=>lU s.v s.r (48 - q) (q+1) (rW ps ((q+1:Nat):Int) w):=by
  rw[show 50 - (q+1)=(48 - q)+1 by omega];rfl
 unfold gI at hstep;generalize cE s.v ⟨s.r,((q+1:Nat):Int)⟩=res at out hfit hknow hstep;obtain⟨od,pF,known⟩:=res;dsimp only[bJ.cs] at out hfit hknow hstep;repeat first|refine v_ ?_|refine Dr.two ?_ ?_|intro
 refine C.BI (X:=Nat×Ov) (λx=>[(0,pt g),(2,.int .i64 ((q+1:Nat):Int)),(3,pt x.1),(4,.bool pF),(5,.bool known)])
  (λx=>[aJ x.1 141 x.2.cs,dM x.2,aJ g 147 [pt a,pt b,.int .i64 s.r],eC a s.r ps,cO b s.v os]) (λx=>x.2.d=od) ?_ ?_
 ·refine rA (l_ [0,1,2,3,4,5,6,7,8,9] (.two 10 (l_ [11,12,13,14] (g_ 15 (g_ 16 (l_ [17,18] .nil)))) 15 (g_ 10 (l_ [11,12,13,14] (g_ 16 (l_ [17,18] .nil)))))) ?_;repeat first|refine v_ ?_|intro
  refine Dr.two ?_ ?_
  ·refine yB rfl sD bA sK aC (λM hE=>out M (hro.sub hE)) ?_;rintro e H' ⟨o,ho,rfl,rfl⟩;dsimp only[Ov.cs,dM];repeat first|refine v_ ?_|refine Dr.two ?_ ?_|intro
   exact⟨(_,o),aD,aA,ho⟩
  ·repeat first|refine v_ ?_|intro
   refine cg rfl sD bA sK aC (λM hE=>out M (hro.sub hE)) ?_;rintro e H' ⟨o,ho,rfl,rfl⟩;dsimp only[Ov.cs,dM];repeat first|refine v_ ?_|refine Dr.two ?_ ?_|intro
   exact⟨(_,o),aD,aA,ho⟩
 ·rintro⟨g3,o⟩ Gf2 ho;dsimp only[Ov.cs,dM] at ho⊢;have hof:o.d.fit:=by rw[ho];exact hfit
  cases known with
  |false =>
   rw[if_neg sD] at hstep;dsimp only at hstep;repeat first|refine v_ ?_|refine Dr.two ?_ ?_|intro
   refine VL (H':=[aT g ⟨s.v,lU s.v s.r 49 0 s.ps,s.r⟩ os]) rfl ?_ ⟨rfl,rfl⟩;rw[←h1,hstep];have:=aT.mk (E:=E) (R:=[]) (g:=g) (a:=a) (b:=b) (s:=⟨s.v,ps,s.r⟩) (os:=os);exact aB.trans (aB.aV (l:=pN g a b ⟨s.v,ps,s.r⟩ os) aC) (by rwa [aAc] at this)
  |true =>
   rw[if_pos rfl] at hstep;dsimp only at hstep;obtain⟨c0,hc0,hc1⟩:=hknow rfl;have hwf:=aLg hof pF;have wn:=λM hr=>GL M o pF hr (by have:=hr.len;have:=hof.len;unfold Ov.d at this;dsimp only at this;omega);have pu:=λM Y m d hr=>XK M a s.r ps o_ ((q+1:Nat):Int) Y m d (mU o.d pF) hr (by have:=hr.len;have:=hwf.2;omega) hwf.1;have hwr:IntKind.i64.wrap (((q+1:Nat):Int)+1)=((q+1+1:Nat):Int):=by rw[aAq _ o_];omega
   dsimp only[Ov.cs] at wn;repeat first|refine v_ ?_|refine Dr.two ?_ ?_|intro
   refine rB (l_ [0,1,2,3,4,5,6] (g_ 7 (g_ 8 .nil))) ([aJ g 147 _,aJ g3 141 _]) ?_;repeat first|refine v_ ?_|refine Dr.two ?_ ?_|intro
   refine C2 wn ?_;rintro e H' ⟨Y,m,d,rfl,rfl⟩;repeat first|refine v_ ?_|refine Dr.two ?_ ?_|intro
   refine C2 (λM=>pu M Y m d) ?_;rintro e H' ⟨⟨bb,rfl⟩,rfl⟩;repeat first|refine v_ ?_|refine Dr.two ?_ ?_|intro
   refine⟨(q+1+1,rW ps ((q+1:Nat):Int) (mU o.d pF)),aD,aA,⟨by dsimp only;omega,?_,?_,?_⟩,by dsimp only;omega⟩
   ·dsimp only;rw[←h1,hstep,ho,show 50 - (q+1+1)=48 - q by omega];rfl
   ·intro p hp;dsimp only at hp;by_cases hpq:p<q
    ·exact h2 p hpq
    ·obtain rfl:p=q:=o_;exact⟨c0,hc0,hc1⟩
   ·dsimp only;refine IT h3 ?_;have:=Ie (l:=s.v.l++s.v.t) (r:=s.r) (n:=q+1) λp hp=>by
     by_cases hpq:p<q
     ·exact h2 p hpq
     ·obtain rfl:p=q:=o_;exact⟨c0,hc0,hc1⟩
    rw[aAe] at this;omega
end
def Sv.again(s:Sv):Sv:=⟨s.v,lU s.v s.r 49 0 s.ps,s.r⟩
def Sv.pE(s:Sv)(c:aX):Sv×Int :=
 if c.may then(if (sV s.v c).2=0 then Sv.again ⟨(sV s.v c).1,s.ps,s.r⟩ else⟨(sV s.v c).1,s.ps,s.r⟩,(sV s.v c).2) else(s,4)
section
variable (E:Env) (g:Nat) (s:Sv) (os:List Ov)
theorem XR(hro:Bw E os)(hps:s.ps.length≤48)(c:aX)(hc:c.ok):G E 191 [pt g,.agg (R1 c).cs.toArray] [aT g s os] (cM (.int .i64 (s.pE c).2) [aT g (s.pE c).1 os]):=by
 refine jJ λa b=>?_;have is:=λM hb=>DI M g a b s hb;have sO:=λM=>HF (R1 c) c.may (show 1≤(1:Int)∧(1:Int)≤4 from by decide) (λE=>IH E c) M;have add:=λM=>YF M b s.v os c hc;have ag:=λM hro v2=>Kc M g ⟨v2,s.ps,s.r⟩ os hro hps;unfold Sv.pE;dsimp only[pN,pD.cs,R1,aX.cs] at sO add⊢;rcases aBh c.may with h1|h1
 ·rw[h1] at sO⊢;generalize sV s.v c=res at add⊢;obtain⟨v2,e⟩:=res;dsimp only at add⊢;rw[if_pos rfl];by_cases he:e=0
  ·subst he;rw[if_pos rfl];refine t_ func191 ntmps191 ?_;repeat first|refine v_ ?_|intro
   refine eV is ?_;repeat first|refine v_ ?_|intro
   refine bK sO ?_;repeat first|refine v_ ?_|intro
   rename_i g3;refine rB (l_ [0,1,2,3,4,5] (g_ 6 (n_ 7 .nil))) ([aJ g 147 _,aJ g3 202 _]) ?_;repeat first|refine v_ ?_|intro
   refine eJ add ?_;repeat first|refine v_ ?_|intro
   have mk:=aT.mk (E:=E) (R:=[]) (g:=g) (a:=a) (b:=b) (s:=⟨v2,s.ps,s.r⟩) (os:=os);rw[aAc] at mk;refine L.conv (aB.trans (aB.aV (l:=pN g a b ⟨v2,s.ps,s.r⟩ os) aC) mk) ?_;refine cl sD sK aC (λM hE=>ag M (hro.sub hE) v2) ?_;rintro e H' ⟨rfl,rfl⟩;repeat first|refine v_ ?_|intro
   exact B7
  ·rw[if_neg he];refine t_ func191 ntmps191 ?_;repeat first|refine v_ ?_|intro
   refine eV is ?_;repeat first|refine v_ ?_|intro
   refine bK sO ?_;repeat first|refine v_ ?_|intro
   rename_i g3;refine rB (l_ [0,1,2,3,4,5] (g_ 6 (n_ 7 .nil))) ([aJ g 147 _,aJ g3 202 _]) ?_;repeat first|refine v_ ?_|intro
   refine eJ add ?_;repeat first|refine v_ ?_|intro
   have mk:=aT.mk (E:=E) (R:=[]) (g:=g) (a:=a) (b:=b) (s:=⟨v2,s.ps,s.r⟩) (os:=os);rw[aAc] at mk;exact aR (H':=[aT g ⟨v2,s.ps,s.r⟩ os]) rfl aF (aB.trans (aB.aV (l:=pN g a b ⟨v2,s.ps,s.r⟩ os) aC) mk) ⟨rfl,rfl⟩
 ·rw[h1] at sO⊢;rw[if_neg sD];refine t_ func191 ntmps191 ?_;repeat first|refine v_ ?_|intro
  refine eV is ?_;repeat first|refine v_ ?_|intro
  refine bK sO ?_;repeat first|refine v_ ?_|intro
  refine aR (H':=[aT g s os]) rfl aF ?_ ⟨rfl,rfl⟩;have:=aT.mk (E:=E) (R:=[]) (g:=g) (a:=a) (b:=b) (s:=s) (os:=os);exact aB.trans (aB.aV (l:=pN g a b s os) aC) (by rwa [aAc] at this)
end
theorem Bw.aO{E M:Env}{R R':List aL}{os:List Ov}(hE:Sub E R M)(h:Has (Sep.aO dM os) R R'):Bw M os:=λo ho=>by
 obtain⟨i,hi,hx⟩:=aBm ho;exact Sub.aO hE h (aAd.2 ⟨hi,hx⟩) rfl
theorem Bw.append{E:Env}{a b:List Ov}(h1:Bw E a)(h2:Bw E b):Bw E (a++b):=λo ho=>(aBg.1 ho).elim (h1 o) (h2 o)
def Sv.KE(s:Sv)(c:bJ):Sv×Int :=
 if c.may then(if (fZ s.v c).2=0 then Sv.again ⟨(fZ s.v c).1,s.ps,s.r⟩ else⟨(fZ s.v c).1,s.ps,s.r⟩,(fZ s.v c).2) else(s,4)
def Sv.MO(s:Sv)(k:bP)(now:Int):Sv×Int :=
 if k.may&&mZ now then(⟨s.v,(wJ s.r s.ps k now).1,s.r⟩,if (wJ s.r s.ps k now).2 then 0 else 14) else(s,4)
def Sv.Ls(s:Sv)(k:bP):Sv×Int :=
 if k.may then(⟨s.v,(wZ s.r s.ps k).1,s.r⟩,if (wZ s.r s.ps k).2 then 0 else 14) else(s,4)
section
variable (E:Env) (g:Nat) (s:Sv) (os:List Ov)
theorem XB(hro:Bw E os)(hps:s.ps.length≤48)(c:bJ):G E 191 [pt g,.agg (R2 c).cs.toArray] [aT g s os] λe H'=>∃new,e=.returned (.int .i64 (s.KE c).2)∧H'=[aT g (s.KE c).1 (os++new),aO dM new]:=by
 refine jJ λa b=>?_;have is:=λM hb=>DI M g a b s hb;have sO:=λM=>HF (R2 c) c.may (show 1≤(2:Int)∧(2:Int)≤4 from by decide) (λE=>Nl E c) M;have rI:=λM=>Ow M b s.v os c;have ag:=λM v2 new hro=>Kc M g ⟨v2,s.ps,s.r⟩ (os++new) hro hps;unfold Sv.KE;dsimp only[pN,pD.cs,R2,bJ.cs] at sO rI⊢;rcases aBh c.may with h1|h1
 ·rw[h1] at sO⊢;generalize fZ s.v c=res at rI⊢;obtain⟨v2,e⟩:=res;dsimp only at rI⊢;rw[if_pos rfl];by_cases he:e=0
  ·subst he;rw[if_pos rfl];refine t_ func191 ntmps191 ?_;repeat first|refine v_ ?_|intro
   refine eV is ?_;repeat first|refine v_ ?_|intro
   refine bK sO ?_;repeat first|refine v_ ?_|intro
   rename_i g3;refine rB (l_ [0,1,2,3,4,5] (g_ 6 (n_ 7 .nil))) ([aJ g 147 _,aJ g3 202 _]) ?_;repeat first|refine v_ ?_|intro
   refine iO rI ?_;rintro e H' ⟨new,rfl,rfl⟩;repeat first|refine v_ ?_|intro
   have mk:=aT.mk (E:=E) (R:=[aO dM new]) (g:=g) (a:=a) (b:=b) (s:=⟨v2,s.ps,s.r⟩) (os:=os++new);refine L.conv (aB.trans (aB.aV (l:=pN g a b ⟨v2,s.ps,s.r⟩ (os++new)++[aO dM new]) aC) mk) ?_;refine cl sD sK aC (λM hE=>ag M v2 new (Bw.append (hro.sub hE) (Bw.aO hE aS))) ?_;rintro e H' ⟨rfl,rfl⟩;repeat first|refine v_ ?_|intro
   exact jQ ⟨new,rfl,rfl⟩
  ·rw[if_neg he];refine t_ func191 ntmps191 ?_;repeat first|refine v_ ?_|intro
   refine eV is ?_;repeat first|refine v_ ?_|intro
   refine bK sO ?_;repeat first|refine v_ ?_|intro
   rename_i g3;refine rB (l_ [0,1,2,3,4,5] (g_ 6 (n_ 7 .nil))) ([aJ g 147 _,aJ g3 202 _]) ?_;repeat first|refine v_ ?_|intro
   refine iO rI ?_;rintro e H' ⟨new,rfl,rfl⟩;repeat first|refine v_ ?_|intro
   have mk:=aT.mk (E:=E) (R:=[aO dM new]) (g:=g) (a:=a) (b:=b) (s:=⟨v2,s.ps,s.r⟩) (os:=os++new);exact aR (H':=[aT g ⟨v2,s.ps,s.r⟩ (os++new),aO dM new]) rfl aF (aB.trans (aB.aV (l:=pN g a b ⟨v2,s.ps,s.r⟩ (os++new)++[aO dM new]) aC) mk) ⟨new,rfl,rfl⟩
 ·rw[h1] at sO⊢;rw[if_neg sD];refine t_ func191 ntmps191 ?_;repeat first|refine v_ ?_|intro
  refine eV is ?_;repeat first|refine v_ ?_|intro
  refine bK sO ?_;repeat first|refine v_ ?_|intro
  have mk:=aT.mk (E:=E) (R:=[aO dM []]) (g:=g) (a:=a) (b:=b) (s:=s) (os:=os);refine aR (H':=[aT g s os,aO dM []]) rfl aF (aB.trans (aB.kP dM) (aB.trans (aB.aV (l:=pN g a b s os++[aO dM []]) aC) mk)) ⟨[],rfl,by rw[aAc]⟩
theorem XT(hps:s.ps.length≤48)(k:bP)(now:Int)(hnow:dQ now):G E 191 [pt g,.agg (R3 k now).cs.toArray] [aT g s os] (cM (.int .i64 (s.MO k now).2) [aT g (s.MO k now).1 os]):=by
 refine jJ λa b=>?_;have is:=λM hb=>DI M g a b s hb;have sO:=λM=>HF (R3 k now) (k.may&&mZ now) (show 1≤(3:Int)∧(3:Int)≤4 from by decide) (λE=>Hn E k now) M;have gV:=λM=>Yh M a s.r s.ps o_ k now hnow;unfold Sv.MO;dsimp only[pN,pD.cs,R3,bP.cs] at sO gV⊢;rcases aBh (k.may&&mZ now) with h1|h1
 ·rw[h1] at sO⊢;generalize wJ s.r s.ps k now=res at gV⊢;obtain⟨p2,e⟩:=res;dsimp only at gV⊢;rw[if_pos rfl];refine t_ func191 ntmps191 ?_;repeat first|refine v_ ?_|intro
  refine eV is ?_;repeat first|refine v_ ?_|intro
  refine bK sO ?_;repeat first|refine v_ ?_|intro
  rename_i g3;refine rB (l_ [0,1,2,3,4,5,6,7] (g_ 8 (g_ 9 (n_ 10 .nil)))) ([aJ g 147 _,aJ g3 202 _]) ?_;repeat first|refine v_ ?_|intro
  refine eJ gV ?_;repeat first|refine v_ ?_|intro
  refine eJ (λM=>G8 M e) ?_;repeat first|refine v_ ?_|intro
  have mk:=aT.mk (E:=E) (R:=[]) (g:=g) (a:=a) (b:=b) (s:=⟨s.v,p2,s.r⟩) (os:=os);rw[aAc] at mk;exact aR (H':=[aT g ⟨s.v,p2,s.r⟩ os]) rfl aF (aB.trans (aB.aV (l:=pN g a b ⟨s.v,p2,s.r⟩ os) aC) mk) ⟨rfl,rfl⟩
 ·rw[h1] at sO⊢;rw[if_neg sD];refine t_ func191 ntmps191 ?_;repeat first|refine v_ ?_|intro
  refine eV is ?_;repeat first|refine v_ ?_|intro
  refine bK sO ?_;repeat first|refine v_ ?_|intro
  have mk:=aT.mk (E:=E) (R:=[]) (g:=g) (a:=a) (b:=b) (s:=s) (os:=os);exact aR (H':=[aT g s os]) rfl aF (aB.trans (aB.aV (l:=pN g a b s os) aC) (by rwa [aAc] at mk)) ⟨rfl,rfl⟩
theorem Yj(hps:s.ps.length≤48)(k:bP):G E 191 [pt g,.agg (R4 k).cs.toArray] [aT g s os] (cM (.int .i64 (s.Ls k).2) [aT g (s.Ls k).1 os]):=by
 refine jJ λa b=>?_;have is:=λM hb=>DI M g a b s hb;have sO:=λM=>HF (R4 k) k.may (show 1≤(4:Int)∧(4:Int)≤4 from by decide) (λE=>Jd E k) M;have ack_:=λM=>Yl M a s.r s.ps o_ k;unfold Sv.Ls;dsimp only[pN,pD.cs,R4,bP.cs] at sO ack_⊢;rcases aBh k.may with h1|h1
 ·rw[h1] at sO⊢;generalize wZ s.r s.ps k=res at ack_⊢;obtain⟨p2,e⟩:=res;dsimp only at ack_⊢;rw[if_pos rfl];refine t_ func191 ntmps191 ?_;repeat first|refine v_ ?_|intro
  refine eV is ?_;repeat first|refine v_ ?_|intro
  refine bK sO ?_;repeat first|refine v_ ?_|intro
  rename_i g3;refine rB (l_ [0,1,2,3,4,5] (g_ 6 (g_ 7 (n_ 8 .nil)))) ([aJ g 147 _,aJ g3 202 _]) ?_;repeat first|refine v_ ?_|intro
  refine eJ ack_ ?_;repeat first|refine v_ ?_|intro
  refine eJ (λM=>G8 M e) ?_;repeat first|refine v_ ?_|intro
  have mk:=aT.mk (E:=E) (R:=[]) (g:=g) (a:=a) (b:=b) (s:=⟨s.v,p2,s.r⟩) (os:=os);rw[aAc] at mk;exact aR (H':=[aT g ⟨s.v,p2,s.r⟩ os]) rfl aF (aB.trans (aB.aV (l:=pN g a b ⟨s.v,p2,s.r⟩ os) aC) mk) ⟨rfl,rfl⟩
 ·rw[h1] at sO⊢;rw[if_neg sD];refine t_ func191 ntmps191 ?_;repeat first|refine v_ ?_|intro
  refine eV is ?_;repeat first|refine v_ ?_|intro
  refine bK sO ?_;repeat first|refine v_ ?_|intro
  have mk:=aT.mk (E:=E) (R:=[]) (g:=g) (a:=a) (b:=b) (s:=s) (os:=os);exact aR (H':=[aT g s os]) rfl aF (aB.trans (aB.aV (l:=pN g a b s os) aC) (by rwa [aAc] at mk)) ⟨rfl,rfl⟩
end
def Sv.quiet(s:Sv):Bool:=s.v.t.isEmpty&&qG s.ps
def Sv.make(s:Sv)(c:aX):aX×Int :=
 if 48≤s.v.l.length+s.v.t.length then(dO,3)
 else if aX.may ⟨vK (L0 (s.v.l++s.v.t)) s.r,sF s.v+1,c.kind,c.a,c.b,c.n,c.ref⟩ then(⟨vK (L0 (s.v.l++s.v.t)) s.r,sF s.v+1,c.kind,c.a,c.b,c.n,c.ref⟩,0) else(dO,4)
section
variable (E:Env) (g:Nat) (s:Sv) (os:List Ov)
theorem Sw(hps:s.ps.length≤48):G E 139 [pt g] [aT g s os] λe H'=>∃g2,e=.returned (pt g2)∧H'=[aT g2 s os,aT g s os]:=by
 refine jJ λa b=>?_;have is:=λM hb=>DI M g a b s hb;dsimp only[pN];refine t_ func139 ntmps139 ?_;repeat first|refine v_ ?_|intro
 refine eV is ?_;repeat first|refine v_ ?_|intro
 refine rA (l_ [0,1,2,3,5,6,7,8,10,11,12,13] (g_ 4 (g_ 9 (n_ 14 (g_ 15 (n_ 16 .nil)))))) ?_;repeat first|refine v_ ?_|intro
 refine iO (λM=>RG M a s.r s.ps (by omega)) ?_;rintro e H' ⟨a2,rfl,rfl⟩;repeat first|refine v_ ?_|intro
 refine iO (λM=>J0 M b s.v os) ?_;rintro e H' ⟨b2,rfl,rfl⟩;repeat first|refine v_ ?_|intro
 rename_i g2;refine aR (H':=[aT g2 s os,aT g s os]) rfl aF ?_ ⟨g2,rfl,rfl⟩;have h1:=aT.mk (E:=E) (R:=pN g a b s os) (g:=g2) (a:=a2) (b:=b2) (s:=s) (os:=os);have h2:=aT.mk (E:=E) (R:=[aT g2 s os]) (g:=g) (a:=a) (b:=b) (s:=s) (os:=os);refine aB.trans (aB.aV (l:=pN g2 a2 b2 s os++pN g a b s os) aC) (aB.trans h1 ?_);refine aB.trans (aB.aV (l:=pN g a b s os++[aT g2 s os]) aC) (aB.trans h2 aA)
theorem Sc(hps:s.ps.length≤48)(cf:fU)(now:Int):G E 180 [pt g,.agg cf.cs.toArray,.int .i64 now] [aT g s os] λe H'=>∃O oc,e=.returned (.slice O (jP (fL s.r cf now) s.ps s.ps.length).length oc)∧H'=[own cP O (jP (fL s.r cf now) s.ps s.ps.length).length oc (jP (fL s.r cf now) s.ps s.ps.length),aT g s os]:=by
 refine jJ λa b=>?_;have book:=λM hb=>It M g a b s hb;have rdy:=λM=>Ry M a s.r s.ps o_ cf now;generalize jP (fL s.r cf now) s.ps s.ps.length=l at rdy⊢;dsimp only[pN,fU.cs] at rdy⊢;refine t_ func180 ntmps180 ?_;repeat first|refine v_ ?_|intro
 rename_i g4;refine rB (l_ [0,2,3] (g_ 1 (g_ 4 (n_ 5 .nil)))) ([aJ g4 23 _]) ?_;repeat first|refine v_ ?_|intro
 refine Ib book ?_;repeat first|refine v_ ?_|intro
 refine iO rdy ?_;rintro e H' ⟨O,oc,rfl,rfl⟩;repeat first|refine v_ ?_|intro
 have h2:=aT.mk (E:=E) (R:=[own cP O l.length oc l]) (g:=g) (a:=a) (b:=b) (s:=s) (os:=os);exact aR (H':=[own cP O l.length oc l,aT g s os]) rfl aF (aB.trans (aB.aV (l:=pN g a b s os++[own cP O l.length oc l]) aC) (aB.trans h2 aA)) ⟨O,oc,rfl,rfl⟩
theorem aOv:G E 79 [pt g] [aT g s os] (cM (.bool s.quiet) [aT g s os]):=by
 refine jJ λa b=>?_;have is:=λM hb=>DI M g a b s hb;have tn:=λM=>pJ M b s.v os;have qt:=λM=>SK M a s.r s.ps;have hmax:=fX;have mk:=aT.mk (E:=E) (R:=[]) (g:=g) (a:=a) (b:=b) (s:=s) (os:=os);rw[aAc] at mk;unfold Sv.quiet;generalize qG s.ps=qp at qt⊢;dsimp only[pN];refine t_ func79 ntmps79 ?_;repeat first|refine v_ ?_|intro
 refine eV is ?_;repeat first|refine v_ ?_|intro
 refine bW tn ?_;rintro e H' ⟨B,k,hk,rfl,rfl⟩;refine gk bG ?_;by_cases ht:s.v.t.length=0
 ·have he:s.v.t.isEmpty=true:=by rw[List.isEmpty_iff_length_eq_zero];exact ht
  rw[he,aCt];repeat first|refine v_ ?_|intro
  refine bK qt ?_;repeat first|refine v_ ?_|intro
  exact aR (H':=[aT g s os]) rfl aF (aB.trans (aB.aV (l:=pN g a b s os) aC) mk) ⟨rfl,rfl⟩
 ·have he:s.v.t.isEmpty=false:=by
   cases h:s.v.t.isEmpty
   ·rfl
   ·exact absurd (List.isEmpty_iff_length_eq_zero.1 h) ht
  rw[he,aCx];repeat first|refine v_ ?_|intro
  exact aR (H':=[aT g s os]) rfl aF (aB.trans (aB.aV (l:=pN g a b s os) aC) mk) ⟨rfl,rfl⟩
end
def V4.nn(v:V4):Prop:=0≤v.a∧0≤v.b∧0≤v.c∧0≤v.d
theorem Ut{v:V4}(c:aX)(h:v.nn):(Tu v c).nn:=by
 unfold Tu V4.nn V4.set V4.get at *;repeat' split
 all_goals (try dsimp only at *);omega
theorem Up(l:List aX):(L0 l).nn:=by
 unfold L0;have:∀(l:List aX) (v:V4),v.nn→(l.foldl Tu v).nn:=by
  intro l
  induction l with
  |nil=>exact λv h=>h
  |cons c l ih=>exact λv h=>ih _ (Ut c h)
 exact this l _ (by unfold V4.nn FR;decide)
theorem Rb(E:Env)(v:V4)(r:Int)(hv:v.nn):G E 95 [.agg v.cs.toArray,.int .i64 r] [] (cM (.agg (vK v r).cs.toArray) []):=by
 unfold V4.nn at hv;unfold vK;refine t_ func95 ntmps95 ?_;by_cases h:0≤r∧r≤3
 ·rw[if_pos h];rcases four h with rfl|rfl|rfl|rfl
  ·rw[show v.get 0=v.a from rfl];by_cases hk:65535≤v.a
   ·rw[if_pos hk];repeat first|refine v_ ?_|intro
    exact Kz
   ·rw[if_neg hk];repeat first|refine v_ ?_|intro
    exact Kz
  ·rw[show v.get 1=v.b from rfl];by_cases hk:65535≤v.b
   ·rw[if_pos hk];repeat first|refine v_ ?_|intro
    exact Kz
   ·rw[if_neg hk];repeat first|refine v_ ?_|intro
    exact Kz
  ·rw[show v.get 2=v.c from rfl];by_cases hk:65535≤v.c
   ·rw[if_pos hk];repeat first|refine v_ ?_|intro
    exact Kz
   ·rw[if_neg hk];repeat first|refine v_ ?_|intro
    exact Kz
  ·rw[show v.get 3=v.d from rfl];by_cases hk:65535≤v.d
   ·rw[if_pos hk];repeat first|refine v_ ?_|intro
    exact Kz
   ·rw[if_neg hk];repeat first|refine v_ ?_|intro
    exact Kz
 ·rw[if_neg h];repeat first|refine v_ ?_|intro
  exact Kz
theorem MV{v:Lg}(h:v.times.ok):0≤sF v∧sF v<9223372036854775807:=by
 unfold V4.ok at h;unfold sF;omega
section
variable (E:Env) (g:Nat) (s:Sv) (os:List Ov)
theorem WN(c:aX):G E 31 [pt g,.agg c.cs.toArray] [aT g s os] (cM (.tuple #[.agg (s.make c).1.cs.toArray,.int .i64 (s.make c).2]) [aT g s os]):=by
 refine jJ λa b=>?_;refine aK.fact (p:=∃h:Lh,h.os=os∧Lf h s.v) (λw hw=>EC hw (Has.aM (Has.aM Has.aN))) λhex=>?_;obtain⟨h0,_,hf⟩:=hex;have is:=λM hb=>DI M g a b s hb;have cm:=λM=>uB M b s.v os;have tn:=λM=>pJ M b s.v os;have kn:=λM=>KS M b s.v os;have ck:=λM=>Rt M b s.v os;have nx:=λM=>Rb M (L0 (s.v.l++s.v.t)) s.r (Up _);have hlen:=hf.len;have ht:=MV hf.times;have hmax:=fX;unfold Sv.make;generalize L0 (s.v.l++s.v.t)=vv at kn nx⊢;generalize sF s.v=t at ck ht⊢;generalize vK vv s.r=i at nx⊢;have cc:=λM=>kF M ⟨i,t+1,c.kind,c.a,c.b,c.n,c.ref⟩;dsimp only[pN,aX.cs,V4.cs] at kn nx cc⊢;have mk:=aT.mk (E:=E) (R:=[]) (g:=g) (a:=a) (b:=b) (s:=s) (os:=os);rw[aAc] at mk;have hm:decide (48≤((s.v.l.length:Int)+(s.v.t.length:Int)))=decide (48≤s.v.l.length+s.v.t.length):=by
  congr 1;exact propext o_
 by_cases h48:48≤s.v.l.length+s.v.t.length
 ·rw[if_pos h48];refine t_ func31 ntmps31 ?_;repeat first|refine v_ ?_|intro
  refine eV is ?_;repeat first|refine v_ ?_|intro
  refine rB (l_ [0,1,2,3,6,7,8,9] (g_ 4 (n_ 5 (g_ 10 (l_ [11,12,13] .nil))))) ([aJ g 147 _]) ?_;repeat first|refine v_ ?_|intro
  refine iO cm ?_;rintro e H' ⟨B,k,hk,rfl,rfl⟩;repeat first|refine v_ ?_|intro
  refine iO tn ?_;rintro e H' ⟨B2,k2,hk2,rfl,rfl⟩;repeat first|refine v_ ?_|intro
  exact gS (H':=[aT g s os]) rfl aF rfl rfl rfl aS rfl aF (aB.trans (aB.aV (l:=pN g a b s os) aC) mk) ⟨rfl,rfl⟩
 ·rw[if_neg h48];refine t_ func31 ntmps31 ?_;repeat first|refine v_ ?_|intro
  refine eV is ?_;repeat first|refine v_ ?_|intro
  rename_i g4 g5;refine rB (l_ [0,1,2,3,6,7,8,9] (g_ 4 (n_ 5 (g_ 10 (l_ [11,12,13] .nil))))) ([aJ g 147 _]) ?_;repeat first|refine v_ ?_|intro
  refine iO cm ?_;rintro e H' ⟨B,k,hk,rfl,rfl⟩;repeat first|refine v_ ?_|intro
  refine iO tn ?_;rintro e H' ⟨B2,k2,hk2,rfl,rfl⟩;repeat first|refine v_ ?_|intro
  refine rB (l_ [0,1,2,3,5,6,7,8,10,11,12,13] (g_ 4 (g_ 9 (n_ 16 (g_ 14 (n_ 15 (g_ 17 (n_ 18 (g_ 19 .nil))))))))) ([aJ g 147 _,cO b s.v os,eC a s.r s.ps]) ?_;repeat first|refine v_ ?_|intro
  refine eJ kn ?_;repeat first|refine v_ ?_|intro
  refine eJ nx ?_;repeat first|refine v_ ?_|intro
  refine eJ ck ?_;repeat first|refine v_ ?_|intro
  by_cases hmay:aX.may ⟨i,t+1,c.kind,c.a,c.b,c.n,c.ref⟩=true
  ·rw[if_pos hmay] at cc⊢;refine bK cc ?_;repeat first|refine v_ ?_|intro
   exact gS (H':=[aT g s os]) rfl aF rfl rfl rfl aS rfl aF (aB.trans (aB.aV (l:=pN g a b s os) aC) mk) ⟨rfl,rfl⟩
  ·rw[if_neg hmay] at cc⊢;refine bK cc ?_;repeat first|refine v_ ?_|intro
   exact gS (H':=[aT g s os]) rfl aF rfl rfl rfl aS rfl aF (aB.trans (aB.aV (l:=pN g a b s os) aC) mk) ⟨rfl,rfl⟩
end
structure O9(r:Int)(ps:List dS)(chl:List Qc):Prop where
 len:chl.length=ps.length
 ok:∀s∈ps,s.ok
 at_:∀(i:Nat) (s:dS),ps[i]?=some s→∃v:Qc,chl[i]?=some v∧v.id=RT r i∧v.made=s.made∧v.l=s.l∧v.n=s.l.length∧v.n≤v.c∧v.c≤maxLen
section
variable (E:Env) (g:Nat) (r:Int) (ps:List dS)
theorem Nc(hps:ps.length≤1000):G E 100 [pt g] [eC g r ps] λe H'=>∃O oc chl,O9 r ps chl∧e=.returned (.slice O ps.length oc)∧H'=[own pZ O ps.length oc chl,aO mV chl,eC g r ps]:=by
 refine mI λx hf=>?_;have hl:x.ls.length=ps.length:=by rw[←hf.ps,aAw]
 refine aK.post (S9 E g x.B x.ls.length x.d r x.ls o_ rfl hf.ok) ?_;rintro e H' ⟨O,oc,chl,rfl,h1,h2,rfl⟩;have h4:=eC.mk (E:=E) (R:=[own pZ O x.ls.length oc chl,aO mV chl]) (g:=g) hf;rw[←hl];refine⟨[own pZ O x.ls.length oc chl,aO mV chl,eC g r ps],?_,O,oc,chl,⟨h1.trans hl,?_,?_⟩,rfl,rfl⟩
 ·refine aB.trans (aB.aV (l:=vM g x.B x.ls.length x.d r x.ls++[own pZ O x.ls.length oc chl,aO mV chl]) aC) (aB.trans h4 aA)
 ·intro s hs;rw[←hf.ps,aFn] at hs;obtain⟨e,he,rfl⟩:=hs;obtain⟨i,hi,rfl⟩:=aBm he;exact(hf.ok i _ (aAa hi)).s
 ·intro i s hs;rw[←hf.ps,aBf] at hs;cases he:x.ls[i]? with
  |none=>rw[he] at hs;cases hs
  |some e =>
   rw[he] at hs;injection hs with hs
   obtain⟨v,k1,k2,k3,k4,k5,k6,k7⟩:=h2 i e he;exact⟨v,k1,k2.trans (hf.ok i e he).id,by rw[k3,←hs];rfl,by rw[k4,←hs];rfl,by rw[k5,←hs];exact(hf.ok i e he).n,k6,k7⟩
end
section
variable (E:Env) (g:Nat) (s:Sv) (os:List Ov)
theorem GO(hps:s.ps.length≤48):G E 32 [pt g] [aT g s os] λe H'=>∃O oc chl,O9 s.r s.ps chl∧e=.returned (.slice O s.ps.length oc)∧H'=[own pZ O s.ps.length oc chl,aO mV chl,aT g s os]:=by
 refine jJ λa b=>?_;have book:=λM hb=>It M g a b s hb;have law:=λM=>Nc M a s.r s.ps o_;have mk:=λO oc chl=>aT.mk (E:=E) (R:=[own pZ O s.ps.length oc chl,aO mV chl]) (g:=g) (a:=a) (b:=b) (s:=s) (os:=os);dsimp only[pN];refine t_ func32 ntmps32 ?_;repeat first|refine v_ ?_|intro
 refine eV book ?_;repeat first|refine v_ ?_|intro
 refine bW law ?_;rintro e H' ⟨O,oc,chl,hc,rfl,rfl⟩;repeat first|refine v_ ?_|intro
 exact aR (H':=[own pZ O s.ps.length oc chl,aO mV chl,aT g s os]) rfl aF (aB.trans (aB.aV (l:=pN g a b s os++[own pZ O s.ps.length oc chl,aO mV chl]) aC) (aB.trans (mk O oc chl) aA)) ⟨O,oc,chl,hc,rfl,rfl⟩
end
def AU(l:List aX):List UInt8:=if 48<l.length then[] else if l.all aX.may then dP l else[]
def Gs(e:bH):List UInt8:=if e.may then e.put else[]
def NM(s:dS):List UInt8:=[UInt8.ofNat s.made.toNat,UInt8.ofNat s.l.length]++s.l.flatMap Gs
def fJ(s:Sv):List UInt8:=(AU s.v.l++AU s.v.t)++s.ps.flatMap NM
theorem Dy{α β:Type}{f:α→List β}{l:List α}{i:Nat}{x:α}(hx:l[i]?=some x):(l.take (i+1)).flatMap f=(l.take i).flatMap f++f x:=by
 rw[take_succ hx,aDz];simp
section
variable (E:Env)
theorem DV(A:Option Addr)(n c:Nat)(b:List UInt8)(hn:n≤1000000)(B:Option Addr)(k d:Nat)(l:List aX)(hr:Rd E bE B k d l) :
  G E 90 [.slice A n c,.slice B k d] [own aU A n c b] λe H'=>∃A' n' c',(n'≤n+1057∧n'≤c'∧c'≤maxLen)∧e=.returned (.slice A' n' c')∧H'=[own aU A' n' c' (b++AU l)]:=by
 have hk:=hr.len;have hmax:=fX;unfold AU;by_cases h48:48<k
 ·rw[if_pos o_];refine t_ func90 ntmps90 ?_;repeat first|refine v_ ?_|intro
  refine eV (λM h1=>MY M _ _ _ l h1 h48) ?_;repeat first|refine v_ ?_|intro
  exact aR rfl aF aA (⟨_,_,_,⟨by omega,by omega,by omega⟩,rfl,by rw[aAc]⟩)
 ·rw[if_neg o_];have all:=λM hr=>F6 M B k d l hr o_;unfold xI at all;cases hm:l.all aX.may with
  |true =>
   rw[hm] at all;rw[if_pos rfl];refine t_ func90 ntmps90 ?_;repeat first|refine v_ ?_|intro
   refine dX all ?_;rintro e H' ⟨A',c',rfl,rfl⟩;repeat first|refine v_ ?_|intro
   exact aR rfl aF aA (⟨_,_,_,⟨by omega,by omega,by omega⟩,rfl,rfl⟩)
  |false =>
   rw[hm] at all;rw[if_neg sD];refine t_ func90 ntmps90 ?_;repeat first|refine v_ ?_|intro
   refine eV all ?_;repeat first|refine v_ ?_|intro
   exact aR rfl aF aA (⟨_,_,_,⟨by omega,by omega,by omega⟩,rfl,by rw[aAc]⟩)
end
theorem Om(E:Env)(e:bH):G E 91 [.agg e.cs.toArray] [] λr H'=>∃A' n' c',n'≤27∧r=.returned (.slice A' n' c')∧H'=[own aU A' n' c' (Gs e)]:=by
 unfold Gs;cases hm:e.may with
 |true=>exact aK.mono (J2 E e hm) λr H' ⟨A',c',h1,h2⟩=>⟨A',27,c',aAf _,h1,h2⟩
 |false=>exact aK.post (Jx E e hm) λr H' ⟨h1,h2⟩=>⟨[own aU none 0 0 []],by rw[h2];exact aB.nil aU,none,0,0,by omega,h1,rfl⟩
theorem oU{X:Type}{l:List X}{i:Nat}{x:X}(h:l[i]?=some x):l=(l.eraseIdx i).take i++x::(l.eraseIdx i).drop i:=by
 rw[←uO (aAd.1 h).1,mN h]
section
variable (E:Env) (g:Nat) (s:Sv) (os:List Ov)
theorem CP(hps:s.ps.length≤48)(hr0:0≤s.r):G E 27 [pt g] [aT g s os] λe H'=>∃A n c,(n≤1000000∧n≤c∧c≤maxLen)∧e=.returned (.slice A n c)∧H'=[own aU A n c (fJ s),aT g s os]:=by
 have hmax:=fX;have mC:=λM=>Pp M g s os;have rep:=λM=>vC M g s os;have iS:=λM=>GO M g s os hps;unfold fJ;generalize hb0:AU s.v.l++AU s.v.t=b0;refine t_ func27 ntmps27 ?_;repeat first|refine v_ ?_|intro
 refine bK rep ?_;repeat first|refine v_ ?_|intro
 refine bW mC ?_;rintro e H' ⟨g2,rfl,rfl⟩;repeat first|refine v_ ?_|intro
 refine bW (λM=>uB M g2 s.v os) ?_;rintro e H' ⟨B,k,hk,rfl,rfl⟩;repeat first|refine v_ ?_|intro
 refine L.conv (aB.nil aU) ?_;refine cl sD sK aC (λM hE=>DV M none 0 0 [] o_ B _ k s.v.l dB) ?_;rintro e H' ⟨A1,n1,c1,⟨h1,h2,h3⟩,rfl,rfl⟩;repeat first|refine v_ ?_|intro
 refine bW (λM=>pJ M g2 s.v os) ?_;rintro e H' ⟨B2,k2,hk2,rfl,rfl⟩;repeat first|refine v_ ?_|intro
 refine cl sD sK aC (λM hE=>DV M A1 n1 c1 _ o_ B2 _ k2 s.v.t dB) ?_;rintro e H' ⟨A2,n2,c2,⟨h4,h5,h6⟩,rfl,rfl⟩;rw[aBq,hb0];repeat first|refine v_ ?_|intro
 refine bW iS ?_;rintro e H' ⟨O,oc,chl,hc,rfl,rfl⟩;repeat first|refine v_ ?_|intro
 obtain⟨hcl,hok,hat⟩:=hc;refine C.scan (Y:=Option Addr×Nat×Nat) hcl.symm (λi y=>[(4,.slice y.1 y.2.1 y.2.2),(21,.slice O s.ps.length oc),(22,.int .i64 s.ps.length),(23,.int .i64 i)]) (λi y=>[own aU y.1 y.2.1 y.2.2 (b0++(s.ps.take i).flatMap NM),own pZ O s.ps.length oc chl,aO mV chl,aT g s os])
  (λi y=>y.2.1≤2114+6887*i∧y.2.1≤y.2.2∧y.2.2≤maxLen) (A2,n2,c2) aD (by dsimp only;rw[aCg,aEu,aAc];exact aA) ⟨by dsimp only;omega,h5,h6⟩ ?_ ?_
 ·rintro i ⟨A,n,c⟩ x G hi hx ⟨k1,k2,k3⟩;dsimp only at k1 k2 k3⊢;have hs:s.ps[i]?=some s.ps[i]:=aAa hi;obtain⟨v,q1,q2,q3,q4,q4n,q5,q6⟩:=hat i _ hs;rw[hx] at q1;injection q1 with q1
  subst q1;have hso:=hok _ (aAi hs);rw[Dy hs,←aAb];generalize s.ps[i]=p at *;generalize b0++(s.ps.take i).flatMap NM=b;obtain⟨id,made,X,m,d,l⟩:=x;dsimp only at q2 q3 q4 q4n q5 q6;subst q3 q4 q4n;have hl1:=hso.len;have hl2:=hso.tS;have hl3:=hso.nK;have hlm:p.l.length≤maxLen:=o_;rw[show b++NM p=b++[UInt8.ofNat p.made.toNat,UInt8.ofNat p.l.length]++p.l.flatMap Gs from(aAb ..).symm];repeat first|refine v_ ?_|intro
  rename_i gx gs A0 c0 h4 h5;rw[show(p.made % 256).toNat=p.made.toNat by omega,show(((p.l.length:Nat):Int) % 256).toNat=p.l.length by omega];generalize hb1:b++[UInt8.ofNat p.made.toNat,UInt8.ofNat p.l.length]=b1;refine C.conv (aB.out (f:=mV) (l:=chl) aS hx) ?_;refine C.scan (Y:=Option Addr×Nat×Nat) (l:=p.l) rfl (λj y=>[(4,.slice y.1 y.2.1 y.2.2),(21,.slice O s.ps.length oc),(22,.int .i64 s.ps.length),(23,.int .i64 i),(38,.slice X p.l.length d),(39,.int .i64 p.l.length),(40,.int .i64 j)])
   (λj y=>[own aU y.1 y.2.1 y.2.2 (b1++(p.l.take j).flatMap Gs),own fH X p.l.length d p.l,own pZ O s.ps.length oc chl,aO mV (chl.eraseIdx i),aT g s os])
   (λj y=>y.2.1≤2114+6887*i+2+27*j∧y.2.1≤y.2.2∧y.2.2≤maxLen) (A0,n+2,c0) aD (by dsimp only;rw[aCg,aEu,aAc];exact aA) ⟨by dsimp only;omega,h4,h5⟩ ?_ ?_
  ·rintro j ⟨A3,n3,c3⟩ e G hj he ⟨q1,q2,q3⟩;dsimp only at q1 q2 q3⊢;repeat first|refine v_ ?_|intro
   refine bW (λM=>Om M e) ?_;rintro r H' ⟨O2,n4,c4,h7,rfl,rfl⟩;repeat first|refine v_ ?_|intro
   rename_i A5 c5 h8 h9;exact⟨(A5,n3+n4,c5),aD,(by dsimp only;rw[Dy he,←aAb];exact aA),⟨by dsimp only;omega,h8,h9⟩⟩
  ·rintro⟨A3,n3,c3⟩ G ⟨q1,q2,q3⟩;dsimp only at q1 q2 q3⊢;rw[aAo];repeat first|refine v_ ?_|intro
   refine⟨(A3,n3,c3),aD,aB.trans (aB.BH (f:=mV) (l:=chl.eraseIdx i) (l':=chl) aC (oU hx)) aA,⟨by dsimp only;omega,q2,q3⟩⟩
 ·rintro⟨A,n,c⟩ G ⟨k1,k2,k3⟩;dsimp only at k1 k2 k3⊢;rw[aAj o_];repeat first|refine v_ ?_|intro
  exact aR rfl aF aA (⟨_,_,_,⟨by omega,k2,k3⟩,rfl,rfl⟩)
end
end
section
theorem V4.mE{v:V4}{i j x:Int}(hi:0≤i∧i≤3)(hj:0≤j∧j≤3):(v.set i x).get j=if j=i then x else v.get j:=by
 rcases four hi with rfl|rfl|rfl|rfl<;>rcases four hj with rfl|rfl|rfl|rfl<;>rfl
theorem V4.set_comm{v:V4}{i j x y:Int}(hi:0≤i∧i≤3)(hj:0≤j∧j≤3)(h:i≠j):(v.set i x).set j y=(v.set j y).set i x:=by
 rcases four hi with rfl|rfl|rfl|rfl<;>rcases four hj with rfl|rfl|rfl|rfl<;>first|exact absurd rfl h|rfl
def gT(k t:V4)(c:aX):Bool:=Ak k t c&&c.may
def follow(k t:V4):List aX→Option (V4×V4)
 | []=>some (k,t)
 |c::l=>if gT k t c then follow (k.set c.id.rep c.id.seq) (t.set c.id.rep c.time) l else none
theorem gY{k t:V4}{c:aX}:gT k t c=true↔c.may=true∧(0≤c.id.rep∧c.id.rep≤3)∧c.id.seq=k.get c.id.rep+1∧t.get c.id.rep<c.time:=by
 unfold gT Ak vK;rw[aAv,aAv,aAv,aAv,decide_eq_true_eq,decide_eq_true_eq,decide_eq_true_eq];constructor
 ·rintro⟨⟨⟨⟨_,h2⟩,h3⟩,h4⟩,h5⟩;have hm:=(aX.bY c).1 h5;refine⟨h5,⟨hm.1.1,hm.1.2.1⟩,?_,h4⟩;rw[if_pos ⟨hm.1.1,hm.1.2.1⟩] at h2;split at h2
  ·have:=congrArg bJ.seq h2;dsimp only at this;have:=hm.1.2.2.1;omega
  ·exact(congrArg bJ.seq h2).symm
 ·rintro⟨h5,h1,h2,h4⟩;have hm:=(aX.bY c).1 h5;refine⟨⟨⟨⟨(bJ.bY c.id).2 hm.1,?_⟩,hm.2.1⟩,h4⟩,h5⟩;rw[if_pos h1,if_neg o_,←h2]
theorem eU(k t:V4)(a b:List aX):follow k t (a++b)=(follow k t a).bind λp=>follow p.1 p.2 b:=by
 induction a generalizing k t with
 |nil=>rfl
 |cons c a ih =>
  rw[aCj,follow,follow];split
  ·exact ih _ _
  ·rfl
theorem Gy{k t:V4}{x c:aX}{l:List aX}(h:x.id.rep≠c.id.rep)(hx:0≤x.id.rep∧x.id.rep≤3)(hc:0≤c.id.rep∧c.id.rep≤3):follow k t (x::c::l)=follow k t (c::x::l):=by
 have key:∀ {x c:aX},x.id.rep≠c.id.rep→(0≤x.id.rep∧x.id.rep≤3)→(0≤c.id.rep∧c.id.rep≤3)→gT (k.set x.id.rep x.id.seq) (t.set x.id.rep x.time) c=gT k t c:=by
  intro x c h hx hc;rw[aBz,gY,gY,V4.mE hx hc,V4.mE hx hc,if_neg (aFh h),if_neg (aFh h)]
 simp only[follow];rw[key h hx hc,key (aFh h) hc hx,V4.set_comm hx hc h,V4.set_comm hx hc h];cases gT k t x<;>cases gT k t c<;>simp
theorem Ac{k t:V4}{a b:List aX}{c:aX}(h:∀x∈a,x.id.rep≠c.id.rep∧0≤x.id.rep∧x.id.rep≤3)(hc:0≤c.id.rep∧c.id.rep≤3):follow k t (a++c::b)=follow k t (c::(a++b)):=by
 induction a generalizing k t with
 |nil=>rfl
 |cons x a ih =>
  have hx:=h x aBo;rw[aCj,aCj,←Gy hx.1 hx.2 hc,follow,follow];split
  ·exact ih λy hy=>h y (aBl _ hy)
  ·rfl
theorem Ah{k t k' t':V4}{l:List aX}(h:follow k t l=some (k',t')){r:Int}(hr:0≤r∧r≤3):k.get r≤k'.get r∧t.get r≤t'.get r:=by
 induction l generalizing k t with
 |nil=>injection h with h;injection h with h1 h2;subst h1 h2;exact⟨aCd _,aCd _⟩
 |cons c l ih =>
  rw[follow] at h;split at h
  ·rename_i hn;obtain⟨_,h1,h2,h3⟩:=gY.1 hn;have:=ih h;rw[V4.mE h1 hr,V4.mE h1 hr] at this;split at this
   ·rename_i e;subst e;omega
   ·exact this
  ·cases h
theorem jF{k t k' t':V4}{l:List aX}(h:follow k t l=some (k',t')){x:aX}(hx:x∈l):x.may=true∧(0≤x.id.rep∧x.id.rep≤3)∧k.get x.id.rep<x.id.seq∧x.id.seq≤k'.get x.id.rep∧t.get x.id.rep<x.time∧x.time≤t'.get x.id.rep:=by
 induction l generalizing k t with
 |nil=>exact absurd hx (aAk)
 |cons c l ih =>
  rw[follow] at h;split at h
  ·rename_i hn;obtain⟨h0,h1,h2,h3⟩:=gY.1 hn;rcases aEj.1 hx with rfl|hx
   ·have:=Ah h h1;rw[V4.mE h1 h1,V4.mE h1 h1,if_pos rfl,if_pos rfl] at this;exact⟨h0,h1,by omega,this.1,h3,this.2⟩
   ·obtain⟨q0,q1,q2,q3,q4,q5⟩:=ih h hx;rw[V4.mE h1 q1] at q2 q4;refine⟨q0,q1,?_,q3,?_,q5⟩
    ·split at q2
     ·rename_i e;rw[e];omega
     ·exact q2
    ·split at q4
     ·rename_i e;rw[e];omega
     ·exact q4
  ·cases h
theorem BT{k t k' t':V4}{l:List aX}(h:follow k t l=some (k',t')){r q:Int}(hr:0≤r∧r≤3)(h1:k.get r<q)(h2:q≤k'.get r):∃x∈l,x.id=⟨r,q⟩:=by
 induction l generalizing k t with
 |nil=>injection h with h;injection h with h3 h4;subst h3;omega
 |cons c l ih =>
  rw[follow] at h;split at h
  ·rename_i hn;obtain⟨_,g1,g2,g3⟩:=gY.1 hn;by_cases e:r=c.id.rep∧q=c.id.seq
   ·exact⟨c,aBo,by cases hc:c.id;rw[hc] at e;rw[e.1,e.2]⟩
   ·obtain⟨x,hx,hid⟩:=ih h (by rw[V4.mE g1 hr];split;(rename_i e2;rw[e2] at h1;omega);exact h1);exact⟨x,aBl _ hx,hid⟩
  ·cases h
theorem MW{k t k' t':V4}{a b:List aX}{c x:aX}(h:follow k t (a++c::b)=some (k',t'))(hx:x∈a)(hr:x.id.rep=c.id.rep):x.id.seq<c.id.seq:=by
 rw[eU] at h;cases h1:follow k t a with
 |none=>rw[h1] at h;cases h
 |some p =>
  rw[h1] at h;have h2:follow p.1 p.2 (c::b)=some (k',t'):=h;have h3:=jF (l:=a) (k':=p.1) (t':=p.2) h1 hx;have h4:=(jF h2 (x:=c) aBo).2.2.1;rw[hr] at h3;omega
theorem aNl{k t k' t':V4}{l:List aX}(h:follow k t l=some (k',t'))(hk:∀r,0≤r∧r≤3→0≤k.get r):l.foldl Tu k=k':=by
 induction l generalizing k t with
 |nil=>injection h with h;injection h
 |cons c l ih =>
  rw[follow] at h;split at h
  ·rename_i hn;obtain⟨_,g1,g2,g3⟩:=gY.1 hn;have e:Tu k c=k.set c.id.rep c.id.seq:=by
    unfold Tu;rw[if_pos g1,Int.max_eq_right o_]
   rw[aFj,e];refine ih h λr hr=>?_;rw[V4.mE g1 hr];have:=hk c.id.rep g1;split
   ·omega
   ·exact hk r hr
  ·cases h
theorem wQ(a b:Int):(a<b∧sX a b = -1)∨(a=b∧sX a b=0)∨(b<a∧sX a b=1):=by
 unfold sX;rcases Int.lt_trichotomy a b with h|h|h
 ·exact .inl ⟨h,by rw[if_pos h]⟩
 ·exact .inr (.inl ⟨h,by rw[if_neg o_,if_neg o_]⟩)
 ·exact .inr (.inr ⟨h,by rw[if_neg o_,if_pos h]⟩)
theorem yQ(a b:aX):iP a b<0↔a.time<b.time∨a.time=b.time∧(a.id.rep<b.id.rep∨a.id.rep=b.id.rep∧a.id.seq<b.id.seq):=by
 unfold iP;rcases wQ a.time b.time with⟨h,e⟩|⟨h,e⟩|⟨h,e⟩<;>rcases wQ a.id.rep b.id.rep with⟨h2,e2⟩|⟨h2,e2⟩|⟨h2,e2⟩<;>rcases wQ a.id.seq b.id.seq with⟨h3,e3⟩|⟨h3,e3⟩|⟨h3,e3⟩<;>rw[e,e2,e3]<;>simp[DC]<;>omega
def HL(l:List aX):Prop:=l.Pairwise λx y=>iP x y<0
theorem zE{α:Type}{p:α→Bool}{l:List α}{x:α}(hx:x∈l.drop (behind p l)):p x=false:=by
 induction l with
 |nil=>simp at hx
 |cons a l ih =>
  rw[behind] at hx;split at hx
  ·exact ih hx
  ·rename_i h0;have h0:behind p l=0:=o_;rw[h0,aCh] at ih;split at hx
   ·exact ih hx
   ·rename_i ha;rcases aEj.1 hx with rfl|hx
    ·simpa using ha
    ·exact ih hx
theorem Gu{α:Type}{p:α→Bool}{l:List α}{n:Nat}(h:behind p l=n+1):∃x,l[n]?=some x∧p x=true:=by
 induction l generalizing n with
 |nil=>cases h
 |cons a l ih =>
  rw[behind] at h;split at h
  ·rename_i h0;obtain⟨m,hm⟩:∃m,behind p l=m+1:=⟨behind p l - 1,by omega⟩
   obtain⟨x,h1,h2⟩:=ih hm;obtain rfl:n=m+1:=o_;exact⟨x,by simpa using h1,h2⟩
  ·split at h
   ·rename_i ha;obtain rfl:n=0:=o_;exact⟨a,rfl,ha⟩
   ·cases h
theorem HL.put{l:List aX}(h:HL l){c:aX}(hd:∀x∈l,x.id≠c.id):HL (lG l c):=by
 unfold HL lG at *;have hle:=AJ (λx=>decide (¬iP c x<0)) l;have haft:∀y∈l.drop (uI l c),iP c y<0:=λy hy=>by
  have:=zE hy;simpa using this
 have hpre:∀y∈l.take (uI l c),iP y c<0:=by
  intro y hy;cases hn:uI l c with
  |zero=>rw[hn] at hy;simp at hy
  |succ n =>
   obtain⟨z,hz,hp⟩:=Gu hn;have hp:¬iP c z<0:=by simpa using hp
   have hzc:iP z c<0:=by
    rw[yQ] at hp⊢;have:=hd z (aAi hz);have:¬(z.id.rep=c.id.rep∧z.id.seq=c.id.seq):=λh=>this (bJ.eq_iff.2 h);omega
   rw[hn,take_succ hz] at hy;rcases aBg.1 hy with hy|hy
   ·obtain⟨i,hi,rfl⟩:=aBm hy;have hyz:iP (l.take n)[i] z<0:=by
     obtain⟨hnl,rfl⟩:=aAd.1 hz;rw[aAg] at hi;rw[List.getElem_take];exact aQu.1 h i n o_ hnl o_
    rw[yQ] at hyz hzc⊢;omega
   ·rw[aAp] at hy;subst hy;exact hzc
 rw[aAb,aFf];refine⟨h.sublist (aFt _ _),?_,?_⟩
 ·rw[List.singleton_append,List.pairwise_cons];exact⟨haft,h.sublist (List.drop_sublist _ _)⟩
 ·intro a ha b hb;rcases aBg.1 hb with hb|hb
  ·rw[aAp] at hb;subst hb;exact hpre a ha
  ·rw[←aAx (uI l c) l,aFf] at h;exact h.2.2 a ha b hb
theorem DW{l:List aX}{c:aX}(h:HL (l++[c])):lG l c=l++[c]:=by
 unfold HL at h;rw[aFf] at h;have e:uI l c=l.length:=by
  unfold uI;rcases List.eq_nil_or_concat l with rfl|⟨m,z,rfl⟩
  ·rfl
  ·have hz:iP z c<0:=h.2.2 z (by simp) c (by simp);rw[List.concat_eq_append,D4 (i:=m.length) (x:=z) (by simp) (by rw[decide_eq_true_eq];rw[yQ] at hz⊢;omega) (λj y hj hy=>by
    have:=(aAd.1 hy).1;simp at this;omega)]
   simp
 unfold lG;rw[e,aAo,aCy,aAc]
theorem JN{k t k' t':V4}{a l:List aX}{c:aX}(h:follow k t (a++l)=some (k',t'))(hn:gT k' t' c=true):follow k t (a++lG l c)=some (k'.set c.id.rep c.id.seq,t'.set c.id.rep c.time):=by
 obtain⟨_,g1,g2,g3⟩:=gY.1 hn;have haft:∀y∈l.drop (uI l c),y.id.rep≠c.id.rep∧0≤y.id.rep∧y.id.rep≤3:=λy hy=>by
  have h1:iP c y<0:=by simpa using zE hy
  have h2:=jF h (aCp _ (aDw hy));refine⟨λe=>?_,h2.2.1⟩;have h3:=h2.2.2.2.2.2;rw[yQ] at h1;rw[e] at h3;omega
 unfold lG;rw[aAb,List.singleton_append,←aAb,eU];have h5:follow k t ((a++l.take (uI l c))++l.drop (uI l c))=some (k',t'):=by rw[aAb,aAx];exact h
 rw[eU] at h5;cases h6:follow k t (a++l.take (uI l c)) with
 |none=>rw[h6] at h5;cases h5
 |some p =>
  rw[h6] at h5;have h5:follow p.1 p.2 (l.drop (uI l c))=some (k',t'):=h5;show follow p.1 p.2 (c::l.drop (uI l c))=_;have h7:=Ac (k:=p.1) (t:=p.2) (b:=[]) (c:=c) haft g1;rw[aAc] at h7;rw[←h7,eU,h5];show(if gT k' t' c then _ else none)=_;rw[if_pos hn];rfl
theorem Fe{k t k' t':V4}{a x y:List aX}{c:aX}(h:follow k t (a++(x++c::y))=some (k',t'))(hf:∀z∈x,¬(z.id.rep=c.id.rep∧z.id.seq<c.id.seq)):follow k t (a++[c]++(x++y))=some (k',t'):=by
 have hx:∀z∈x,z.id.rep≠c.id.rep∧0≤z.id.rep∧z.id.rep≤3:=λz hz=>by
  have h2:=jF h (aCp _ (aDn _ hz));refine⟨λe=>hf z hz ⟨e,?_⟩,h2.2.1⟩;rw[←aAb] at h;exact MW h (aCp _ hz) e
 have hc:=(jF h (x:=c) (by simp)).2.1;rw[←h,aAb,eU,eU,List.singleton_append];congr 1;funext p;exact(Ac hx hc).symm
def gw(e:bH):Bool×cQ:=(e.gone,e.bC)
theorem JZ{w:List cQ}{l l':List bH}(h:l'.map gw=l.map gw)(j:Nat):lost w l' j=lost w l j:=by
 induction j with
 |zero=>rfl
 |succ j ih =>
  have h1:(l'.map gw)[j]?=(l.map gw)[j]?:=by rw[h]
  rw[aBf,aBf] at h1;simp only[lost,ih];cases ha:l'[j]? with
  |none =>
   cases hb:l[j]? with
   |none=>rfl
   |some y=>rw[ha,hb] at h1;cases h1
  |some x =>
   cases hb:l[j]? with
   |none=>rw[ha,hb] at h1;cases h1
   |some y =>
    rw[ha,hb] at h1;have h2:gw x=gw y:=aDk h1;have h3:x.gone=y.gone:=congrArg Prod.fst h2;have h4:x.bC=y.bC:=congrArg Prod.snd h2;dsimp only;rw[h3,h4]
theorem CW{w:List cQ}{l m:List bH}{k:Nat}(h:∀j,j<k→m[j]?=l[j]?)(j:Nat)(hj:j≤k):lost w m j=lost w l j:=by
 induction j with
 |zero=>rfl
 |succ j ih=>simp only[lost,ih o_,h j o_]
theorem jG{w:List cQ}{l:List bH}:settle w l=l↔∀(i:Nat) (e:bH),l[i]?=some e→e.gone=lost w l (i+1):=by
 constructor
 ·intro h i e he;have h1:=lX (want:=w) he;rw[h,he] at h1;have h2:=aDk h1;exact congrArg bH.gone h2
 ·intro h;apply aCk;intro i;cases he:l[i]? with
  |none =>
   rw[aBx] at he⊢;rw[dJ];exact he
  |some e =>
   rw[lX he,←h i e he];rfl
theorem Hh(want:List cQ)(l:List bH):settle want (settle want l)=settle want l:=by
 rw[jG];have hl:∀j,j≤l.length→lost want (settle want l) j=lost want l j:=by
  intro j
  induction j with
  |zero=>intro _;rfl
  |succ j ih =>
   intro hj;have hx:l[j]?=some l[j]:=aAa o_;rw[nZ (lX hx),nZ hx,ih o_];show(lost want l j||((lost want l j||(l[j].gone||decide (want[j]?≠some l[j].bC)))||decide (want[j]?≠some l[j].bC)))=_;cases lost want l j<;>cases l[j].gone<;>cases decide (want[j]?≠some l[j].bC)<;>rfl
 intro i e he;have hi:=(aAd.1 he).1;rw[dJ] at hi;have hx:l[i]?=some l[i]:=aAa hi;rw[lX hx] at he;have he:=aDk he;subst he;rw[hl (i+1) hi];rfl
structure C3(s:dS):Prop where
 may:∀e∈s.l,e.may=true
 nB:(s.l.map bH.ord).Pairwise (· < ·)
 pos:∀e∈s.l,e.ord≤s.made
 gone:settle s.w s.l=s.l
 pF:∀f∈s.w,f.check=0
theorem C3.zero:C3 s0:=⟨λ_ he=>(aAk he).elim,List.Pairwise.nil,λ_ he=>(aAk he).elim,rfl,λ_ hf=>(aAk hf).elim⟩
theorem OT{e:bH}{g:Bool}(h:e.may=true)(hg:e.gone=true→g=true):(e.mark g).may=true:=by
 rw[bH.bY] at h⊢;obtain⟨h1,h2,h3,⟨h4,h5⟩,h6,h7,h8⟩:=h;refine⟨h1,h2,h3,⟨h4,?_⟩,h6,h7,h8⟩;rcases h5 with h5|h5
 ·left
  unfold bH.Ab bH.mark at *;dsimp only;cases ha:e.cX
  ·rw[ha] at h5;simp at h5
  ·rw[ha] at h5;rw[hg (by simpa using h5)];rfl
 ·exact .inr h5
theorem Qy{e:bH}(h:e.may=true)(ha:e.cX=false):e.qJ.may=true:=by
 rw[bH.bY] at h⊢;obtain⟨h1,h2,h3,⟨h4,h5⟩,h6,h7,h8⟩:=h;refine⟨h1,h2,h3,⟨h4,?_⟩,h6,h7,h8⟩;rcases h5 with h5|h5
 ·unfold bH.Ab at h5;rw[ha] at h5;simp at h5
 ·exact .inr h5
theorem Sk{e:bH}{now:Int}(h:e.may=true)(hnow:0≤now∧now≤1073741824):(e.gV now).may=true:=by
 unfold bH.gV;split
 ·rename_i hc;obtain⟨_,h8⟩:=hc;have hnt:e.nt=if e.Ab then e.back else e.aW:=rfl
  rw[bH.bY] at h;obtain⟨h1,h2,h3,⟨h4,h5⟩,h6,h7,h9⟩:=h;split
  ·rename_i hu;rw[if_pos hu] at hnt;rw[bH.bY];exact⟨h1,h2,h3,⟨by dsimp only;omega,.inl hu⟩,h6,hnow,.inl (by dsimp only;omega)⟩
  ·rename_i hu;rw[if_neg hu] at hnt;rw[bH.bY];refine⟨h1,h2,by dsimp only;omega,⟨h4,?_⟩,hnow,h7,h9⟩;rcases h5 with h5|h5
   ·exact absurd h5 hu
   ·exact .inr h5
 ·exact h
theorem OY(e:bH)(now:Int):(e.gV now).ord=e.ord∧gw (e.gV now)=gw e:=by
 unfold bH.gV;split
 ·split<;>exact⟨rfl,rfl⟩
 ·exact⟨rfl,rfl⟩
theorem yM{α:Type}{f:bH→α}{l:List bH}{k:Nat}{e e':bH}(he:l[k]?=some e)(h:f e'=f e):(l.set k e').map f=l.map f:=by
 rw[List.map_set,h];exact mN (by rw[aBf,he];rfl)
theorem JV(w:List cQ)(l:List bH):(settle w l).map bH.ord=l.map bH.ord:=by
 apply aCk;intro i;rw[aBf,aBf];cases he:l[i]? with
 |none =>
  have:(settle w l)[i]?=none:=by rw[aBx] at he⊢;rw[dJ];exact he
  rw[this]
 |some e=>rw[lX he];rfl
theorem C3.put{s:dS}{w:List cQ}(h:C3 s)(hw:∀f∈w,f.check=0):C3 (s.put w):=by
 have hat:∀e∈settle w s.l,∃(i:Nat) (x:bH),s.l[i]?=some x∧e=x.mark (lost w s.l (i+1)):=by
  intro e he;obtain⟨i,hi,rfl⟩:=aBm he;rw[dJ] at hi;have hx:s.l[i]?=some s.l[i]:=aAa hi;have hs:=lX (want:=w) hx;rw[aAa (by rw[dJ];exact hi)] at hs;exact⟨i,_,hx,aDk hs⟩
 refine⟨λe he=>?_,by show((settle w s.l).map bH.ord).Pairwise (· < ·);rw[JV];exact h.nB,λe he=>?_,Hh w s.l,hw⟩
 ·obtain⟨i,x,hx,rfl⟩:=hat e he;refine OT (h.may x (aAi hx)) λhg=>?_;rw[nZ hx,hg];simp
 ·obtain⟨i,x,hx,rfl⟩:=hat e he;exact h.pos x (aAi hx)
theorem C3.set{s:dS}(h:C3 s){k:Nat}{e e':bH}(he:s.l[k]?=some e)(ho:e'.ord=e.ord)(hg:gw e'=gw e)(hm:e'.may=true):C3 ⟨s.made,s.l.set k e',s.w⟩:=by
 refine⟨λx hx=>?_,?_,λx hx=>?_,?_,h.pF⟩
 ·rcases aCr hx with h1|rfl
  ·exact h.may x h1
  ·exact hm
 ·show((s.l.set k e').map bH.ord).Pairwise (· < ·);rw[yM he ho];exact h.nB
 ·rcases aCr hx with h1|rfl
  ·exact h.pos x h1
  ·show x.ord≤s.made;rw[ho];exact h.pos e (aAi he)
 ·show settle s.w (s.l.set k e')=s.l.set k e';rw[jG];intro i x hx;have hl:=JZ (w:=s.w) (yM he hg) (i+1);rw[hl];have hgs:=jG.1 h.gone;rw[aDr] at hx;split at hx
  ·rename_i hki;subst hki;split at hx
   ·have hx:=aDk hx;subst hx;rw[←hgs k e he];exact congrArg Prod.fst hg
   ·cases hx
  ·exact hgs i x hx
theorem C3.take{s:dS}(h:C3 s)(k:Nat):C3 ⟨s.made,s.l.take k,s.w⟩:=by
 refine⟨λx hx=>h.may x (aBs hx),?_,λx hx=>h.pos x (aBs hx),?_,h.pF⟩
 ·show((s.l.take k).map bH.ord).Pairwise (· < ·);exact h.nB.sublist ((aFt k s.l).map bH.ord)
 ·show settle s.w (s.l.take k)=s.l.take k;rw[jG];intro i x hx;have hi:=(aAd.1 hx).1;rw[aAg] at hi;rw[CW (l:=s.l) (k:=k) (λj hj=>by rw[aEd,if_pos hj]) (i+1) o_];rw[aEd,if_pos o_] at hx;exact jG.1 h.gone i x hx
theorem C3.push{s:dS}(h:C3 s)(hs:s.ok){id:bJ}{f:cQ}{now:Int}(ht:AP s.l=none)(hm:s.made<255)(hf:s.w[s.l.length]?=some f)(hnow:0≤now∧now≤1073741824) :
  C3 ⟨s.made+1,s.l++[rQ ⟨⟨id,s.made+1,false⟩,f⟩ now],s.w⟩:=by
 have h0:=hs.tS;have hgs:=jG.1 h.gone;have hz:lost s.w s.l s.l.length=false:=by
  cases hl:s.l.length with
  |zero=>rfl
  |succ k =>
   have hx:s.l[k]?=some s.l[k]:=aAa o_;rw[←hgs k _ hx];unfold AP at ht;rw[hl,show k+1 - 1=k from rfl,hx] at ht;dsimp only at ht;split at ht
   ·cases ht
   ·rename_i ho;unfold bH.pG at ho;cases hg:s.l[k].gone
    ·rfl
    ·rw[hg] at ho;simp at ho
 refine⟨λx hx=>?_,?_,λx hx=>?_,?_,h.pF⟩
 ·rcases aBg.1 hx with h1|h1
  ·exact h.may x h1
  ·rw[aAp] at h1;subst h1;rw[bH.bY];exact⟨by dsimp only;omega,h.pF f (aAi hf),by dsimp only;omega,⟨by dsimp only;omega,.inr rfl⟩,hnow,by dsimp only;omega,.inr rfl⟩
 ·show((s.l++[rQ ⟨⟨id,s.made+1,false⟩,f⟩ now]).map bH.ord).Pairwise (· < ·);rw[aBk,aFf];refine⟨h.nB,aFq _ _,λa ha b hb=>?_⟩;obtain⟨x,hx,rfl⟩:=aFn.1 ha;have hb:b=s.made+1:=by simpa using hb
  have:=h.pos x hx;omega
 ·show x.ord≤s.made+1;rcases aBg.1 hx with h1|h1
  ·have:=h.pos x h1;omega
  ·rw[aAp] at h1;subst h1;exact aCd _
 ·show settle s.w (s.l++[rQ ⟨⟨id,s.made+1,false⟩,f⟩ now])=s.l++[rQ ⟨⟨id,s.made+1,false⟩,f⟩ now];rw[jG];have hfr:∀j,j≤s.l.length→lost s.w (s.l++[rQ ⟨⟨id,s.made+1,false⟩,f⟩ now]) j=lost s.w s.l j :=
   λj hj=>CW (k:=s.l.length) (λi hi=>aBp hi) j hj
  intro i x hx;by_cases hi:i<s.l.length
  ·rw[hfr (i+1) o_];rw[aBp hi] at hx;exact hgs i x hx
  ·have hlt:=(aAd.1 hx).1;rw[aAe,aDa] at hlt;obtain rfl:i=s.l.length:=o_;have hx2:=hx;rw[aBc (aAf _),aEi] at hx2;have hx2:=aDk hx2;rw[nZ hx,hfr _ (aAf _),hz,←hx2];show false=(false||(false||decide (s.w[s.l.length]?≠some f)));rw[hf];simp
theorem C3.gV{s:dS}(h:C3 s)(hs:s.ok){id:bJ}{now:Int}(hnow:0≤now∧now≤1073741824):C3 (s.gV id now):=by
 rcases HJ (s:=s) (id:=id) (now:=now) with h1|⟨e,ht,_,h1⟩|⟨f,ht,hm,hf,h1⟩
 ·rw[h1];exact h
 ·rw[h1];obtain⟨he,_⟩:=yZ ht;exact h.set he (OY e now).1 (OY e now).2 (Sk (h.may e (aAi he)) hnow)
 ·rw[h1];exact h.push hs ht hm hf hnow
theorem C3.qJ{s:dS}(h:C3 s){id:bJ}{k:bP}:C3 (s.qJ id k):=by
 rcases G7 (s:=s) (id:=id) (k:=k) with h1|⟨i,e,he,_,ha,h1⟩|⟨i,e,he,_,_,hi,h1⟩
 ·rw[h1];exact h
 ·rw[h1];exact h.set he rfl rfl (Qy (h.may e (aAi he)) ha)
 ·rw[h1];exact h.take i
def JO(s:dS):Prop:=s.ok∧C3 s
def JL(ps:List dS):Prop:=∀s∈ps,JO s
theorem JO.zero:JO s0:=⟨dS.Kk,C3.zero⟩
theorem JL.getD{ps:List dS}(h:JL ps)(i:Nat):JO (ps.getD i s0):=by
 rw[aBb];cases hx:ps[i]? with
 |none=>exact JO.zero
 |some s=>exact h s (aAi hx)
theorem JL.set{ps:List dS}(h:JL ps){i:Nat}{s:dS}(hs:JO s):JL (ps.set i s):=by
 intro x hx;rcases aCr hx with h1|rfl
 ·exact h x h1
 ·exact hs
structure Vd(v:Lg):Prop where
 MM:follow FR FR (v.l++v.t)=some (v.known,v.times)
 T4:∀c∈v.l,c.ok
 TZ:∀c∈v.t,c.ok
 len:v.l.length+v.t.length≤48
 HL:HL v.t
structure Gd(s:Sv):Prop where
 v:Vd s.v
 rep:0≤s.r∧s.r≤3
 n:(s.ps.length:Int)=s.v.known.get s.r
 w:∀(q:Nat) (p:dS),s.ps[q]?=some p→gI s.v s.r q=some p.w
 ch:JL s.ps
theorem BQ{r:Int}:FR.get r=0:=by unfold V4.get;split;rfl;split;rfl;split;rfl;rfl
theorem Vd.may{v:Lg}(h:Vd v){c:aX}(hc:c∈v.l++v.t):c.may=true:=(jF h.MM hc).1
theorem AH{l:List aX}{a:bJ}:0≤bI l a↔∃c∈l,c.id=a:=by
 have:=rC (λc:aX=>decide (c.id=a)) l;constructor
 ·intro h;rw[show place (λc:aX=>decide (c.id=a)) l=bI l a from rfl,decide_eq_true h] at this;obtain⟨c,h1,h2⟩:=aEm.1 this.symm;exact⟨c,h1,of_decide_eq_true h2⟩
 ·rintro⟨c,h1,h2⟩;rw[aEm.2 ⟨c,h1,by rw[h2];exact decide_eq_true rfl⟩] at this;exact of_decide_eq_true this
theorem EO{v:Lg}{a:bJ}:(cE v a).2.2=true↔∃c∈v.l++v.t,c.id=a:=by
 refine⟨tQ,?_⟩;rintro⟨c,hc,h2⟩;unfold cE;split
 ·rfl
 ·split
  ·rfl
  ·rename_i n1 n2;rcases aBg.1 hc with hc|hc
   ·exact absurd (AH.2 ⟨c,hc,h2⟩) n1
   ·exact absurd (AH.2 ⟨c,hc,h2⟩) n2
theorem HV{v:Lg}(h:Vd v){r:Int}(hr:0≤r∧r≤3)(q:Nat):(gI v r q).isSome=true↔(q:Int)<v.known.get r:=by
 have e:(gI v r q).isSome=(cE v ⟨r,((q+1:Nat):Int)⟩).2.2:=by
  unfold gI;split
  ·rename_i h;rw[h];rfl
  ·rename_i h;simpa using h
 rw[e,EO];constructor
 ·rintro⟨c,hc,hid⟩;have:=jF h.MM hc;rw[hid] at this;dsimp only at this;omega
 ·intro hq;exact BT h.MM hr (by rw[BQ];omega) o_
theorem JJ{v:Lg}(h:Vd v){r:Int}{q:Nat}{w:List cQ}(hw:gI v r q=some w):(∀f∈w,f.ok)∧w.length≤8∧∀f∈w,f.check=0:=by
 unfold gI at hw;split at hw
 ·injection hw with hw
  subst hw;have h1:=aLg (xH h.T4 h.TZ ⟨r,((q+1:Nat):Int)⟩) (cE v ⟨r,((q+1:Nat):Int)⟩).2.1;exact⟨h1.1,h1.2,Jb (C6 h.T4 h.TZ (λc hc=>h.may (aDn _ hc)) (λc hc=>h.may (aCp _ hc)) _) _⟩
 ·cases hw
theorem Vd.count{v:Lg}(h:Vd v){r:Int}(hr:0≤r∧r≤3):0≤v.known.get r∧v.known.get r≤48:=by
 have h0:=Ah h.MM hr;rw[BQ] at h0;refine⟨h0.1,?_⟩;have hp:=Ie (l:=v.l++v.t) (r:=r) (n:=(v.known.get r).toNat) λq hq=>BT h.MM hr (by rw[BQ];omega) o_;rw[aAe] at hp;have:=h.len;omega
theorem YK{p:dS}(h:JO p){w:List cQ}(hw:(∀f∈w,f.ok)∧w.length≤8∧∀f∈w,f.check=0):JO (p.put w):=⟨dS.OO h.1 hw.1 hw.2.1,h.2.put hw.2.2⟩
theorem Br{ps:List dS}{q:Nat}{w:List cQ}(hq:q≤ps.length)(i:Nat):(mQ ps q w)[i]?=if i=q then some ((ps.getD q s0).put w) else ps[i]?:=by
 unfold mQ;by_cases h:q<ps.length
 ·rw[if_pos h,aDr];by_cases e:q=i
  ·subst e;rw[if_pos rfl,if_pos h,if_pos rfl]
  ·rw[if_neg e,if_neg (aFh e)]
 ·obtain rfl:q=ps.length:=o_;rw[if_neg h];by_cases e:i=ps.length
  ·subst e;rw[if_pos rfl,aBc (aAf _),aEi,aBb,aBx.2 (aAf _)];rfl
  ·rw[if_neg e];by_cases h2:i<ps.length
   ·rw[aBp h2]
   ·rw[aBx.2 (by simp;omega),aBx.2 o_]
theorem Aa{v:Lg}{r:Int}{K:Nat}(hK:∀q:Nat,(gI v r q).isSome=true↔q<K):∀(n q:Nat) (ps:List dS),q≤K→K<q+n→q≤ps.length→ps.length≤K →
  (lU v r n q ps).length=K∧∀i,i<K→(lU v r n q ps)[i]?=if i<q then ps[i]? else some ((ps.getD i s0).put ((gI v r i).getD []))
 |0,q,ps,h1,h2,_,_=>by omega
 |n+1,q,ps,h1,h2,h3,h4=>by
  rw[lU];have hk:=hK q;cases hw:gI v r q with
  |none =>
   rw[hw] at hk;have:¬q<K:=λh=>by have:=hk.2 h;cases this
   exact⟨by dsimp only;omega,λi hi=>by dsimp only;rw[if_pos o_]⟩
  |some w =>
   rw[hw] at hk;have hq:q<K:=hk.1 rfl;have e:rW ps ((q+1:Nat):Int) w=mQ ps q w:=by
    unfold rW;rw[if_pos o_];congr 1;omega
   dsimp only;rw[e];have hl:(mQ ps q w).length=max ps.length (q+1):=by
    unfold mQ;split
    ·rw[aAt];omega
    ·rw[aAe];simp;omega
   obtain⟨g1,g2⟩:=Aa hK n (q+1) (mQ ps q w) o_ o_ o_ o_;refine⟨g1,λi hi=>?_⟩;rw[g2 i hi];by_cases e1:i<q
   ·rw[if_pos e1,if_pos o_,Br h3,if_neg o_]
   ·rw[if_neg e1];by_cases e2:i=q
    ·subst e2;rw[if_pos o_,Br h3,if_pos rfl,hw];rfl
    ·rw[if_neg o_,aBb,Br h3,if_neg e2,←aBb]
theorem Gd.JG{v:Lg}{r:Int}{ps:List dS}(hv:Vd v)(hr:0≤r∧r≤3)(hc:JL ps)(hn:(ps.length:Int)≤v.known.get r):Gd (Sv.again ⟨v,ps,r⟩)∧∀i,i<(v.known.get r).toNat→(Sv.again ⟨v,ps,r⟩).ps[i]?=some ((ps.getD i s0).put ((gI v r i).getD [])):=by
 have hcnt:=hv.count hr;have hK:∀q:Nat,(gI v r q).isSome=true↔q<(v.known.get r).toNat:=λq=>by rw[HV hv hr];omega
 obtain⟨h1,h2⟩:=Aa hK 49 0 ps (aAh _) o_ (aAh _) o_;have h3:∀i,i<(v.known.get r).toNat→(lU v r 49 0 ps)[i]?=some ((ps.getD i s0).put ((gI v r i).getD [])):=λi hi=>by rw[h2 i hi,if_neg o_]
 have hsome:∀i,i<(v.known.get r).toNat→∃w,gI v r i=some w:=λi hi=>by
  have:=(hK i).2 hi;cases hw:gI v r i with
  |none=>rw[hw] at this;cases this
  |some w=>exact⟨w,rfl⟩
 refine⟨⟨hv,hr,?_,?_,?_⟩,h3⟩
 ·show((lU v r 49 0 ps).length:Int)=_;rw[h1];show((v.known.get r).toNat:Int)=v.known.get r;omega
 ·intro q p hp;have hlt:=(aAd.1 hp).1;have hlt:q<(v.known.get r).toNat:=by rw[←h1];exact hlt
  have e:some ((ps.getD q s0).put ((gI v r q).getD []))=some p:=(h3 q hlt).symm.trans hp;injection e with e
  obtain⟨w,hw⟩:=hsome q hlt;show gI v r q=some p.w;rw[←e,hw];rfl
 ·intro p hp;obtain⟨i,hi,rfl⟩:=aBm hp;have hlt:i<(v.known.get r).toNat:=by rw[←h1];exact hi
  have e:some ((ps.getD i s0).put ((gI v r i).getD []))=some (Sv.again ⟨v,ps,r⟩).ps[i]:=(h3 i hlt).symm.trans (aAa hi);injection e with e
  obtain⟨w,hw⟩:=hsome i hlt;rw[←e,hw];exact YK (hc.getD i) (JJ hv hw)
theorem Hj(v:Lg)(c:aX):((sV v c).2≠0∧(sV v c).1=v)∨((sV v c).2=0∧v.l.length+v.t.length<48∧gT v.known v.times c=true∧(sV v c).1=⟨v.l,tP v.t c,v.known.set c.id.rep c.id.seq,v.times.set c.id.rep c.time⟩):=by
 unfold sV gT;split
 ·exact .inl ⟨(show(3:Int)≠0 by decide),rfl⟩
 split
 ·exact .inl ⟨(show(9:Int)≠0 by decide),rfl⟩
 split
 ·exact .inl ⟨(show(4:Int)≠0 by decide),rfl⟩
 ·rename_i h1 h2 h3;exact .inr ⟨rfl,by omega,by rw[show Ak v.known v.times c=true by simpa using h2,show c.may=true by simpa using h3];rfl,rfl⟩
theorem Vd.fresh{v:Lg}(h:Vd v){c:aX}(hn:gT v.known v.times c=true):∀x∈v.l++v.t,x.id≠c.id:=λx hx e=>by
 have h1:=jF h.MM hx;obtain⟨_,_,h2,_⟩:=gY.1 hn;rw[e] at h1;omega
theorem AA{v:Lg}(h:Vd v){c:aX}(hn:gT v.known v.times c=true):tP v.t c=lG v.t c:=by
 unfold tP;rw[if_pos];have:¬0≤bI v.t c.id:=λh0=>by
  obtain⟨x,hx,e⟩:=AH.1 h0;exact h.fresh hn x (aCp _ hx) e
 omega
theorem Vd.add{v:Lg}(h:Vd v){c:aX}(hc:c.ok)(hlt:v.l.length+v.t.length<48)(hn:gT v.known v.times c=true):Vd ⟨v.l,tP v.t c,v.known.set c.id.rep c.id.seq,v.times.set c.id.rep c.time⟩:=by
 rw[AA h hn];refine⟨JN h.MM hn,h.T4,λx hx=>?_,?_,h.HL.put λx hx=>h.fresh hn x (aCp _ hx)⟩
 ·rcases CE hx with rfl|hx
  ·exact hc
  ·exact h.TZ x hx
 ·show v.l.length+(lG v.t c).length≤48;rw[lA];omega
theorem Gd.pE{s:Sv}(h:Gd s){c:aX}(hc:c.ok):Gd (s.pE c).1:=by
 unfold Sv.pE;split
 ·rcases Hj s.v c with⟨h1,h2⟩|⟨h1,h2,h3,h4⟩
  ·rw[if_neg h1,h2];exact h
  ·rw[if_pos h1,h4];obtain⟨_,g1,g2,_⟩:=gY.1 h3;refine(Gd.JG (h.v.add hc h2 h3) h.rep h.ch ?_).1;dsimp only;rw[V4.mE g1 h.rep,h.n];split
   ·rename_i e;rw[e];omega
   ·exact aCd _
 ·exact h
theorem C4(v:Lg)(a:bJ):((fZ v a).2≠0∧(fZ v a).1=v)∨((fZ v a).2=0∧∃x c y,v.t=x++c::y∧c.id=a∧(∀z∈x,¬(z.id.rep=c.id.rep∧z.id.seq<c.id.seq))∧(fZ v a).1=⟨v.l++[c],x++y,v.known,v.times⟩):=by
 unfold fZ;split
 ·exact .inl ⟨(show(14:Int)≠0 by decide),rfl⟩
 split
 ·exact .inl ⟨(show(9:Int)≠0 by decide),rfl⟩
 ·rename_i h1 h2;have h2:lM v.t a=true:=by simpa using h2
  obtain⟨hlt,c,hx,hp⟩:=gZ (p:=λc:aX=>decide (c.id=a)) (l:=v.t) (show 0≤bI v.t a by omega);have hid:c.id=a:=of_decide_eq_true hp;have hx:v.t[(bI v.t a).toNat]?=some c:=hx;have hlt:(bI v.t a).toNat<v.t.length:=hlt;refine .inr ⟨rfl,v.t.take (bI v.t a).toNat,c,v.t.drop ((bI v.t a).toNat+1),?_,hid,?_,?_⟩
  ·obtain⟨_,rfl⟩:=aAd.1 hx;rw[←aAm hlt,aAx]
  ·intro z hz hh;unfold lM at h2;rw[aAv] at h2;have h3:(v.t.any λc=>decide (c.id.rep=a.rep∧c.id.seq<a.seq))=false:=by simpa using h2.2
   rw[List.any_eq_false] at h3;exact h3 z (aBs hz) (decide_eq_true (by rw[←hid];exact hh))
  ·rw[hx];unfold rF mD;rw[if_pos h2,if_pos ⟨by omega,by omega⟩];rfl
theorem Vd.qA{v:Lg}(h:Vd v){x y:List aX}{c:aX}(ht:v.t=x++c::y)(hf:∀z∈x,¬(z.id.rep=c.id.rep∧z.id.seq<c.id.seq)):Vd ⟨v.l++[c],x++y,v.known,v.times⟩:=by
 have hfol:=h.MM;have hokt:=h.TZ;have hlen:=h.len;have hsrt:=h.HL;rw[ht] at hfol hokt hlen hsrt;refine⟨Fe hfol hf,λz hz=>?_,λz hz=>?_,?_,?_⟩
 ·rcases aBg.1 hz with hz|hz
  ·exact h.T4 z hz
  ·rw[aAp] at hz;subst hz;exact hokt z (by simp)
 ·rcases aBg.1 hz with hz|hz
  ·exact hokt z (aDn _ hz)
  ·exact hokt z (aCp _ (aBl _ hz))
 ·simp only[aAe,aAs,aDh] at hlen⊢;omega
 ·exact hsrt.sublist (List.Sublist.append_left (List.sublist_cons_self c y) x)
theorem Gd.KE{s:Sv}(h:Gd s)(a:bJ):Gd (s.KE a).1:=by
 unfold Sv.KE;split
 ·rcases C4 s.v a with⟨h1,h2⟩|⟨h1,x,c,y,h2,h3,h4,h5⟩
  ·rw[if_neg h1,h2];exact h
  ·rw[if_pos h1,h5];exact(Gd.JG (h.v.qA h2 h4) h.rep h.ch (by dsimp only;rw[h.n];exact aCd _)).1
 ·exact h
theorem Gd.set{s:Sv}(h:Gd s){i:Nat}{p:dS}(hp:JO p)(hw:p.w=(s.ps.getD i s0).w):Gd ⟨s.v,s.ps.set i p,s.r⟩:=by
 refine⟨h.v,h.rep,by dsimp only;rw[aAt];exact h.n,λq x hx=>?_,h.ch.set hp⟩;dsimp only at hx⊢;rw[aDr] at hx;split at hx
 ·rename_i e;subst e;split at hx
  ·rename_i hlt;injection hx with hx
   subst hx;rw[hw,aBb,aAa hlt];exact h.w i _ (aAa hlt)
  ·cases hx
 ·exact h.w q x hx
theorem Gd.MO{s:Sv}(h:Gd s)(k:bP)(now:Int):Gd (s.MO k now).1:=by
 unfold Sv.MO;split
 ·rename_i hm;rw[aAv] at hm;have hnow:0≤now∧now≤1073741824:=of_decide_eq_true hm.2;have hI:dQ now:=by unfold dQ;omega
  unfold wJ;dsimp only;split
  ·have hg:=h.ch.getD (k.id.seq - 1).toNat;refine h.set ?_ ?_
   ·split
    ·exact⟨dS.FI hg.1 hI,hg.2.gV hg.1 hnow⟩
    ·exact hg
   ·split<;>rfl
  ·exact h
 ·exact h
theorem Gd.Ls{s:Sv}(h:Gd s)(k:bP):Gd (s.Ls k).1:=by
 unfold Sv.Ls;split
 ·unfold wZ;dsimp only;split
  ·have hg:=h.ch.getD (k.id.seq - 1).toNat;exact h.set ⟨dS.Ez hg.1,hg.2.qJ⟩ rfl
  ·exact h
 ·exact h
theorem Gd.new{r:Int}(hr:0≤r∧r≤3):Gd ⟨Hb,[],r⟩ :=
 ⟨⟨rfl,(λ_ h=>(aAk h).elim),(λ_ h=>(aAk h).elim),(show(0:Nat)+0≤48 by decide),List.Pairwise.nil⟩,hr,by show(0:Int)=FR.get r;rw[BQ],(λq p h=>by cases h),λ_ h=>(aAk h).elim⟩
theorem Gd.np{s:Sv}(h:Gd s):s.ps.length≤48:=by
 have:=h.v.count h.rep;have:=h.n;omega
end
section
open Go.RowKit Reg Oct
open Mem hiding Rd
inductive Rc
 |lI (c:aX)
 |rI (a:bJ)
 |DG (k:bP) (now:Int)
 |qJ (k:bP)
def Rc.r:Rc→pD
 | .lI c=>R1 c
 | .rI a=>R2 a
 | .DG k now=>R3 k now
 | .qJ k=>R4 k
def Rc.may:Rc→Bool
 | .lI c=>c.may
 | .rI a=>a.may
 | .DG k now=>k.may&&mZ now
 | .qJ k=>k.may
def Rc.ok:Rc→Prop
 | .lI c=>c.ok
 | .DG _ now=>dQ now
 |_=>True
def Rc.b(x:Rc):List UInt8:=tO x.r
def Sv.doc(s:Sv):Rc→Sv×Int
 | .lI c=>s.pE c
 | .rI a=>s.KE a
 | .DG k now=>s.MO k now
 | .qJ k=>s.Ls k
theorem Gd.doc{s:Sv}(h:Gd s){x:Rc}(hx:x.ok):Gd (s.doc x).1:=by
 cases x with
 |lI c=>exact h.pE hx
 |rI a=>exact h.KE a
 |DG k now=>exact h.MO k now
 |qJ k=>exact h.Ls k
theorem KG(s:Sv)(x:Rc):(s.doc x).1.r=s.r:=by
 cases x with
 |lI c=>show(s.pE c).1.r=_;unfold Sv.pE;split;(split<;>rfl);rfl
 |rI a=>show(s.KE a).1.r=_;unfold Sv.KE;split;(split<;>rfl);rfl
 |DG k now=>show(s.MO k now).1.r=_;unfold Sv.MO;split<;>rfl
 |qJ k=>show(s.Ls k).1.r=_;unfold Sv.Ls;split<;>rfl
theorem Ke{s:Sv}{x:Rc}(h:(s.doc x).2=0):x.may=true:=by
 cases x with
 |lI c=>change (s.pE c).2=0 at h;unfold Sv.pE at h;split at h;assumption;cases h
 |rI a=>change (s.KE a).2=0 at h;unfold Sv.KE at h;split at h;assumption;cases h
 |DG k now=>change (s.MO k now).2=0 at h;unfold Sv.MO at h;split at h;assumption;cases h
 |qJ k=>change (s.Ls k).2=0 at h;unfold Sv.Ls at h;split at h;assumption;cases h
theorem Rc.xW(x:Rc):1≤x.b.length∧x.b.length≤23∧x.b[0]?≠some 5:=by
 cases x with
 |lI c=>show 1≤([1]++c.put).length∧([1]++c.put).length≤23∧([1]++c.put)[0]?≠some 5;simp[c.bD]
 |rI a=>show 1≤([2]++kU a).length∧([2]++kU a).length≤23∧([2]++kU a)[0]?≠some 5;simp[iZ]
 |DG k now=>show 1≤([3]++eR k++be now.toNat 4).length∧([3]++eR k++be now.toNat 4).length≤23∧([3]++eR k++be now.toNat 4)[0]?≠some 5;simp[fO,aP]
 |qJ k=>show 1≤([4]++eR k).length∧([4]++eR k).length≤23∧([4]++eR k)[0]?≠some 5;simp[fO]
section
variable (E:Env) (g:Nat) (s:Sv) (os:List Ov)
theorem Xz(hro:Bw E os)(hps:s.ps.length≤48)(x:Rc)(hx:x.ok):G E 191 [pt g,.agg x.r.cs.toArray] [aT g s os] λe H'=>∃new,e=.returned (.int .i64 (s.doc x).2)∧H'=[aT g (s.doc x).1 (os++new),aO dM new]:=by
 cases x with
 |lI c =>
  refine aK.post (XR E g s os hro hps c hx) ?_;rintro e H' ⟨rfl,rfl⟩;exact⟨[aT g (s.pE c).1 (os++[]),aO dM []],by rw[aAc];exact aB.trans (aB.kP dM) (aB.aV (.cons (.aM .aN) (.cons .aN .nil))),[],rfl,rfl⟩
 |rI a=>exact XB E g s os hro hps a
 |DG k now =>
  refine aK.post (XT E g s os hps k now hx) ?_;rintro e H' ⟨rfl,rfl⟩;exact⟨[aT g (s.MO k now).1 (os++[]),aO dM []],by rw[aAc];exact aB.trans (aB.kP dM) (aB.aV (.cons (.aM .aN) (.cons .aN .nil))),[],rfl,rfl⟩
 |qJ k =>
  refine aK.post (Yj E g s os hps k) ?_;rintro e H' ⟨rfl,rfl⟩;exact⟨[aT g (s.Ls k).1 (os++[]),aO dM []],by rw[aAc];exact aB.trans (aB.kP dM) (aB.aV (.cons (.aM .aN) (.cons .aN .nil))),[],rfl,rfl⟩
theorem W2(x:Rc)(hm:x.may=true):G E 228 [.agg x.r.cs.toArray] [] λe H'=>∃A c,e=.returned (.tuple #[.slice A x.b.length c,.int .i64 0])∧H'=[own aU A x.b.length c x.b]:=by
 cases x with
 |lI c =>
  have hl:(Rc.lI c).b.length=23:=by show([1]++c.put).length=23;simp[c.bD]
  rw[hl];exact PG E c hm
 |rI a =>
  have hl:(Rc.rI a).b.length=4:=by show([2]++kU a).length=4;simp[iZ]
  rw[hl];exact NS E a hm
 |DG k now =>
  have hl:(Rc.DG k now).b.length=10:=by show([3]++eR k++be now.toNat 4).length=10;simp[fO,aP]
  have hm:(k.may&&mZ now)=true:=hm;rw[aAv] at hm;rw[hl];exact Ns E k now hm.1 hm.2
 |qJ k =>
  have hl:(Rc.qJ k).b.length=6:=by show([4]++eR k).length=6;simp[fO]
  rw[hl];exact Ph E k hm
end
end
section
open Go.RowKit Reg
open Mem hiding Rd
abbrev aI(P:List Ov):aL:=aO dM P
def dI(P:List Ov)(g:Nat)(s:Sv):aL:=nI (λos:List Ov=>(∀o∈os,o∈P)∧Gd s) λos=>[aT g s os]
def AT(P:List Ov)(g:Nat)(v:Lg):aL:=nI (λos:List Ov=>(∀o∈os,o∈P)∧Vd v) λos=>[cO g v os]
theorem dI.mk{P:List Ov}{g:Nat}{s:Sv}{os:List Ov}(h:(∀o∈os,o∈P)∧Gd s):cA [aT g s os] [dI P g s]:=cA.fp (X:=List Ov) (p:=λos:List Ov=>(∀o∈os,o∈P)∧Gd s) (l:=λos=>[aT g s os]) (x:=os) h
theorem AT.mk{P:List Ov}{g:Nat}{v:Lg}{os:List Ov}(h:(∀o∈os,o∈P)∧Vd v):cA [cO g v os] [AT P g v]:=cA.fp (X:=List Ov) (p:=λos:List Ov=>(∀o∈os,o∈P)∧Vd v) (l:=λos=>[cO g v os]) (x:=os) h
theorem dI.mono{P Q:List Ov}{g:Nat}{s:Sv}:cA [dI P g s] [dI (P++Q) g s]:=cA.Z8 λ_ h=>⟨λo ho=>aDn _ (h.1 o ho),h.2⟩
theorem Bw.Ws{E M:Env}{R R':List aL}{os P:List Ov}(hE:Sub E R M)(h:Has (aI P) R R')(hs:∀o∈os,o∈P):Bw M os:=λo ho=>Bw.aO hE h o (hs o ho)
section
variable (E:Env) (P:List Ov) (g:Nat) (s:Sv)
theorem Xt(r:Int):G E 224 [.int .i64 r] [] λe H'=>∃g,e=.returned (pt g)∧H'=[dI P g ⟨Hb,[],dF r 0 3⟩]:=by
 refine aK.post (Wj E r) ?_;rintro e H' ⟨g,rfl,rfl⟩;refine⟨[dI P g ⟨Hb,[],dF r 0 3⟩],aB.cF (dI.mk (os:=[]) ⟨(λ_ h=>(aAk h).elim),Gd.new ?_⟩),g,rfl,rfl⟩;unfold dF;split<;>(try split)<;>omega
theorem qR:G E 89 [pt g] [dI P g s] (cM (.int .i64 s.r) [dI P g s]):=by
 refine aK.fp Has.aN λos hos=>aK.post (vC E g s os) ?_;rintro e H' ⟨rfl,rfl⟩;exact⟨_,aB.cF (dI.mk hos),rfl,rfl⟩
theorem qQ:G E 14 [pt g] [dI P g s] λe H'=>∃g2,e=.returned (pt g2)∧H'=[AT P g2 s.v,dI P g s]:=by
 refine aK.fp Has.aN λos hos=>aK.post (Pp E g s os) ?_;rintro e H' ⟨g2,rfl,rfl⟩;exact⟨[AT P g2 s.v,dI P g s],aB.cF (cA.cons (AT.mk (os:=os) ⟨hos.1,hos.2.v⟩) (dI.mk hos)),g2,rfl,rfl⟩
theorem Ij:G E 139 [pt g] [dI P g s] λe H'=>∃g2,e=.returned (pt g2)∧H'=[dI P g2 s,dI P g s]:=by
 refine aK.fp Has.aN λos hos=>aK.post (Sw E g s os hos.2.np) ?_;rintro e H' ⟨g2,rfl,rfl⟩;exact⟨[dI P g2 s,dI P g s],aB.cF (cA.cons (dI.mk hos) (dI.mk hos)),g2,rfl,rfl⟩
theorem Vh:G E 79 [pt g] [dI P g s] (cM (.bool s.quiet) [dI P g s]):=by
 refine aK.fp Has.aN λos hos=>aK.post (aOv E g s os) ?_;rintro e H' ⟨rfl,rfl⟩;exact⟨_,aB.cF (dI.mk hos),rfl,rfl⟩
theorem T3(c:aX):G E 31 [pt g,.agg c.cs.toArray] [dI P g s] (cM (.tuple #[.agg (s.make c).1.cs.toArray,.int .i64 (s.make c).2]) [dI P g s]):=by
 refine aK.fp Has.aN λos hos=>aK.post (WN E g s os c) ?_;rintro e H' ⟨rfl,rfl⟩;exact⟨_,aB.cF (dI.mk hos),rfl,rfl⟩
def Sv.ready(s:Sv)(cf:fU)(now:Int):List dK:=jP (fL s.r cf now) s.ps s.ps.length
theorem Vv(cf:fU)(now:Int):G E 180 [pt g,.agg cf.cs.toArray,.int .i64 now] [dI P g s] λe H'=>∃O oc,e=.returned (.slice O (s.ready cf now).length oc)∧H'=[own cP O (s.ready cf now).length oc (s.ready cf now),dI P g s]:=by
 refine aK.fp Has.aN λos hos=>aK.post (Sc E g s os hos.2.np cf now) ?_;rintro e H' ⟨O,oc,rfl,rfl⟩;exact⟨[own cP O (s.ready cf now).length oc (s.ready cf now),dI P g s],aB.cF (cA.cons cA.refl (dI.mk hos)),O,oc,rfl,rfl⟩
theorem SV:G E 27 [pt g] [dI P g s] λe H'=>∃A n c,(n≤1000000∧n≤c∧c≤maxLen)∧e=.returned (.slice A n c)∧H'=[own aU A n c (fJ s),dI P g s]:=by
 refine aK.fp Has.aN λos hos=>aK.post (CP E g s os hos.2.np hos.2.rep.1) ?_;rintro e H' ⟨A,n,c,h,rfl,rfl⟩;exact⟨[own aU A n c (fJ s),dI P g s],aB.cF (cA.cons cA.refl (dI.mk hos)),A,n,c,h,rfl,rfl⟩
theorem Sz(x:Rc)(hx:x.ok):G E 191 [pt g,.agg x.r.cs.toArray] [dI P g s,aI P] λe H'=>∃Q,e=.returned (.int .i64 (s.doc x).2)∧H'=[dI (P++Q) g (s.doc x).1,aI (P++Q)]:=by
 refine aK.fp Has.aN λos hos=>?_;refine aK.post (aK.dU (Hp:=[aT g s os]) (R:=[aI P]) λM hE=>Xz M g s os (Bw.Ws hE Has.aN hos.1) hos.2.np x hx) ?_;rintro e H' ⟨H1,⟨new,rfl,rfl⟩,rfl⟩;refine⟨[dI (P++new) g (s.doc x).1,aI (P++new)],aB.cF (cA.append (A:=[aT g (s.doc x).1 (os++new)]) (B:=[dI (P++new) g (s.doc x).1]) (dI.mk (os:=os++new) ⟨λo ho=>?_,hos.2.doc hx⟩) ?_),new,rfl,rfl⟩
 ·rcases aBg.1 ho with ho|ho
  ·exact aDn _ (hos.1 o ho)
  ·exact aCp _ ho
 ·exact(cA.aV (.cons (.aM .aN) (.cons .aN .nil))).trans cA.I6
end
section
variable (E:Env) (P:List Ov) (g:Nat) (v:Lg)
theorem iV:G E 16 [pt g] [AT P g v] λe H'=>∃B k,(v.l.length≤k∧k≤maxLen)∧e=.returned (.slice B v.l.length k)∧H'=[own bE B v.l.length k v.l,AT P g v]:=by
 refine aK.fp Has.aN λos hos=>aK.post (uB E g v os) ?_;rintro e H' ⟨B,k,h,rfl,rfl⟩;exact⟨[own bE B v.l.length k v.l,AT P g v],aB.cF (cA.cons cA.refl (AT.mk hos)),B,k,h,rfl,rfl⟩
theorem IZ:G E 40 [pt g] [AT P g v] λe H'=>∃B k,(v.t.length≤k∧k≤maxLen)∧e=.returned (.slice B v.t.length k)∧H'=[own bE B v.t.length k v.t,AT P g v]:=by
 refine aK.fp Has.aN λos hos=>aK.post (pJ E g v os) ?_;rintro e H' ⟨B,k,h,rfl,rfl⟩;exact⟨[own bE B v.t.length k v.t,AT P g v],aB.cF (cA.cons cA.refl (AT.mk hos)),B,k,h,rfl,rfl⟩
theorem aJk:G E 18 [pt g] [AT P g v] λe H'=>∃y:Bh,y.b=(gH sY (v.l++v.t)).1∧e=.returned (.agg y.cs.toArray)∧H'=[iR y,AT P g v]:=by
 refine aK.fp Has.aN λos hos=>aK.post (aJe E g v os) ?_;rintro e H' ⟨y,h,rfl,rfl⟩;exact⟨[iR y,AT P g v],aB.cF (cA.cons cA.refl (AT.mk hos)),y,h,rfl,rfl⟩
theorem Uk:G E 96 [pt g] [AT P g v] (cM (.agg (L0 (v.l++v.t)).cs.toArray) [AT P g v]):=by
 refine aK.fp Has.aN λos hos=>aK.post (KS E g v os) ?_;rintro e H' ⟨rfl,rfl⟩;exact⟨_,aB.cF (AT.mk hos),rfl,rfl⟩
theorem Ub:G E 115 [pt g] [AT P g v] (cM (.tuple #[.agg ((v.t[0]?).getD dO).id.cs.toArray,.bool (!v.t.isEmpty)]) [AT P g v]):=by
 refine aK.fp Has.aN λos hos=>aK.post (R5 E g v os) ?_;rintro e H' ⟨rfl,rfl⟩;exact⟨_,aB.cF (AT.mk hos),rfl,rfl⟩
theorem yL(a:bJ):G E 110 [pt g,.agg a.cs.toArray] [AT P g v,aI P] λe H'=>∃o:Ov,o.d=(cE v a).1∧e=.returned (.tuple #[.agg o.cs.toArray,.bool (cE v a).2.1,.bool (cE v a).2.2])∧H'=[dM o,AT P g v,aI P]:=by
 refine aK.fp Has.aN λos hos=>?_;refine aK.post (aK.dU (Hp:=[cO g v os]) (R:=[aI P]) λM hE=>Dw M g v os (Bw.Ws hE Has.aN hos.1) a) ?_;rintro e H' ⟨H1,⟨o,h,rfl,rfl⟩,rfl⟩;exact⟨[dM o,AT P g v,aI P],aB.cF (cA.cons cA.refl (cA.append (A:=[cO g v os]) (B:=[AT P g v]) (AT.mk hos) cA.refl)),o,h,rfl,rfl⟩
end
end
section
def Em(ps:List dS):Prop:=∀p∈ps,p.made=0∧p.l=[]
theorem Em.again{v:Lg}{r:Int}{ps:List dS}(hv:Vd v)(hr:0≤r∧r≤3)(hc:JL ps)(hn:(ps.length:Int)≤v.known.get r)(he:Em ps):Em (Sv.again ⟨v,ps,r⟩).ps:=by
 obtain⟨h1,h2⟩:=Gd.JG hv hr hc hn;intro p hp;obtain⟨i,hi,rfl⟩:=aBm hp;have hlt:i<(v.known.get r).toNat:=by
  have:=h1.n;have e:(Sv.again ⟨v,ps,r⟩).v=v:=rfl;rw[e] at this;have e2:(Sv.again ⟨v,ps,r⟩).r=r:=rfl;rw[e2] at this;omega
 have h3:=h2 i hlt;rw[aAa hi] at h3;injection h3 with h3
 have h4:(ps.getD i s0).made=0∧(ps.getD i s0).l=[]:=by
  rw[aBb];cases hx:ps[i]? with
  |none=>exact⟨rfl,rfl⟩
  |some x=>exact he x (aAi hx)
 rw[h3];refine⟨h4.1,?_⟩;show settle _ (ps.getD i s0).l=[];rw[h4.2];rfl
theorem xJ{s:Sv}(h:Gd s)(he:Em s.ps){c:aX}(hc:c.ok)(hlt:s.v.l.length+s.v.t.length<48)(hn:gT s.v.known s.v.times c=true)(hs:HL (s.v.t++[c])) :
  (s.doc (.lI c)).2=0∧(s.doc (.lI c)).1.v=⟨s.v.l,s.v.t++[c],s.v.known.set c.id.rep c.id.seq,s.v.times.set c.id.rep c.time⟩∧Em (s.doc (.lI c)).1.ps:=by
 obtain⟨hm,g1,g2,g3⟩:=gY.1 hn;have e1:sV s.v c=(⟨s.v.l,s.v.t++[c],s.v.known.set c.id.rep c.id.seq,s.v.times.set c.id.rep c.time⟩,0):=by
  unfold gT at hn;rw[aAv] at hn;unfold sV;rw[if_neg o_,if_neg (by rw[hn.1];decide),if_neg (by rw[hm];decide),AA h.v (by unfold gT;rw[hn.1,hn.2];rfl),DW hs]
 have e2:s.doc (.lI c)=(Sv.again ⟨⟨s.v.l,s.v.t++[c],s.v.known.set c.id.rep c.id.seq,s.v.times.set c.id.rep c.time⟩,s.ps,s.r⟩,0):=by
  show s.pE c=_;unfold Sv.pE;rw[if_pos hm,e1,if_pos rfl]
 rw[e2];refine⟨rfl,rfl,?_⟩;have hv:=h.v.add hc hlt hn;rw[AA h.v hn,DW hs] at hv;refine Em.again hv h.rep h.ch ?_ he;show(s.ps.length:Int)≤(s.v.known.set c.id.rep c.id.seq).get s.r;rw[V4.mE g1 h.rep,h.n];split
 ·rename_i e;rw[e];omega
 ·exact aCd _
structure Lc where
 base:Option Sv
 l:List Rc
def Qb(r:Int):Sv:=⟨Hb,[],r⟩
def Gb:Option Sv→List (List UInt8)
 |some s=>[5::fJ s]
 |none=>[]
def Lc.bs(z:Lc):List (List UInt8):=Gb z.base++z.l.map Rc.b
def F9(s:Sv)(l:List Rc):Sv:=l.foldl (λs x=>(s.doc x).1) s
def Lc.sv(r:Int)(z:Lc):Sv:=F9 (z.base.getD (Qb r)) z.l
structure Lc.ok(r:Int)(z:Lc):Prop where
 rep:0≤r∧r≤3
 base:∀s,z.base=some s→Gd s∧s.r=r
 l:∀x∈z.l,x.may=true∧x.ok
theorem Rm{l:List Rc}(hl:∀x∈l,x.may=true∧x.ok):∀ {s:Sv},Gd s→Gd (F9 s l)∧(F9 s l).r=s.r:=by
 induction l with
 |nil=>exact λh=>⟨h,rfl⟩
 |cons x l ih =>
  intro s h;have h2:=ih (λy hy=>hl y (aBl _ hy)) (h.doc (hl x aBo).2);exact⟨h2.1,h2.2.trans (KG s x)⟩
theorem Lc.ok.start{r:Int}{z:Lc}(h:z.ok r):Gd (z.base.getD (Qb r))∧(z.base.getD (Qb r)).r=r:=by
 cases hb:z.base with
 |none=>exact⟨Gd.new h.rep,rfl⟩
 |some s=>exact h.base s hb
theorem Lc.ok.gd{r:Int}{z:Lc}(h:z.ok r):Gd (z.sv r)∧(z.sv r).r=r:=by
 obtain⟨h1,h2⟩:=h.start;obtain⟨h3,h4⟩:=Rm h.l h1;exact⟨h3,h4.trans h2⟩
theorem Lc.ok.take{r:Int}{z:Lc}(h:z.ok r)(k:Nat):∃z':Lc,z'.ok r∧z'.bs=z.bs.take k:=by
 obtain⟨base,l⟩:=z;cases base with
 |none=>exact⟨⟨none,l.take k⟩,⟨h.rep,(λs hs=>by cases hs),λx hx=>h.l x (aBs hx)⟩,by unfold Lc.bs Gb;simp[]⟩
 |some s =>
  cases k with
  |zero=>exact⟨⟨none,[]⟩,⟨h.rep,(λs hs=>by cases hs),λx hx=>(aAk hx).elim⟩,rfl⟩
  |succ k=>exact⟨⟨some s,l.take k⟩,⟨h.rep,h.base,λx hx=>h.l x (aBs hx)⟩,by unfold Lc.bs Gb;simp[]⟩
theorem Lc.ok.push{r:Int}{z:Lc}(h:z.ok r){x:Rc}(h1:x.may=true)(h2:x.ok):Lc.ok r ⟨z.base,z.l++[x]⟩:=⟨h.rep,h.base,λy hy=>by
 rcases aBg.1 hy with hy|hy
 ·exact h.l y hy
 ·rw[aAp] at hy;subst hy;exact⟨h1,h2⟩⟩
theorem Lc.SC(z:Lc)(x:Rc):Lc.bs ⟨z.base,z.l++[x]⟩=z.bs++[x.b]:=by unfold Lc.bs;simp
theorem Lc.RM(r:Int)(z:Lc)(x:Rc):Lc.sv r ⟨z.base,z.l++[x]⟩=((z.sv r).doc x).1:=by unfold Lc.sv F9;simp
noncomputable def vG(r:Int)(bF:List (List UInt8)):Lc:=open Classical in if h:∃z:Lc,z.ok r∧z.bs=bF then h.choose else⟨none,[]⟩
structure Nd where
 r:Int
 ls:LS
 up:Bool
 lc:Lc
 s:Sv
def Nd.qO(n:Nd):List (List UInt8):=(LS.open n.ls.N n.ls.D (-1)).bF
structure Nd.ok(n:Nd):Prop where
 rep:0≤n.r∧n.r≤3
 n0:1≤n.ls.N
 n1:n.ls.N≤64
 len:n.ls.D.length=32*(2*n.ls.N+1)
 a0 : -1≤n.ls.aG
 a1:n.ls.aG≤9223372036854775807
 qO:∃z:Lc,z.ok n.r∧z.bs=n.qO
 inv:n.up=true→Inv n.ls∧n.ls.dead=false
 lc:n.up=true→n.lc.ok n.r∧n.lc.bs=n.ls.bF∧n.s=n.lc.sv n.r
theorem Nd.ok.gd{n:Nd}(h:n.ok)(hu:n.up=true):Gd n.s∧n.s.r=n.r:=by
 obtain⟨h1,_,h3⟩:=h.lc hu;rw[h3];exact h1.gd
noncomputable def Nd.stored(n:Nd):Sv:=(vG n.r n.qO).sv n.r
noncomputable def Nd.state(n:Nd):Sv:=if n.up then n.s else n.stored
def Nd.write(n:Nd)(x:Rc):Nd×Int :=
 if (n.s.doc x).2=0 then
  (if (n.ls.append x.b).1=0 then(⟨n.r,(n.ls.append x.b).2,n.up,⟨n.lc.base,n.lc.l++[x]⟩,(n.s.doc x).1⟩,0) else(n,(n.ls.append x.b).1))
 else(n,(n.s.doc x).2)
def Nd.sync(n:Nd):Nd×Int:=if n.up then(if n.ls.sync.1=0 then(⟨n.r,n.ls.sync.2,true,n.lc,n.s⟩,0) else(⟨n.r,n.ls.sync.2,false,n.lc,n.s⟩,19)) else(n,19)
def Nd.CA(n:Nd):Nd:=⟨n.r,n.ls,false,n.lc,n.s⟩
noncomputable def Nd.opened(n:Nd):Nd:=⟨n.r,LS.open n.ls.N n.ls.D (-1),true,vG n.r n.qO,n.stored⟩
noncomputable def Nd.rO(n:Nd):Nd×Int:=if n.up then(n,9) else(n.opened,0)
def LS.arm(s:LS)(k:Int):LS:=⟨s.N,s.D,s.bF,s.kE,s.pos,s.cG,s.dead,if s.dead then s.aG else max k (-1)⟩
def Nd.arm(n:Nd)(k:Int):Nd:=if n.up then⟨n.r,n.ls.arm k,true,n.lc,n.s⟩ else n
def Nd.At(n:Nd):List UInt8:=5::fJ n.s
def Nd.pack(n:Nd):Nd×Int :=
 if n.up then
  (if (n.ls.swap n.At).1=0 then(⟨n.r,(n.ls.swap n.At).2,true,⟨some n.s,[]⟩,n.s⟩,0)
  else if (n.ls.swap n.At).1=19 then(⟨n.r,(n.ls.swap n.At).2,false,n.lc,n.s⟩,19) else(n,(n.ls.swap n.At).1))
 else(n,19)
def Nd.new(r:Int)(N:Nat):Nd:=⟨r,LS.new N,true,⟨none,[]⟩,Qb r⟩
theorem Lc.E3{r:Int}(hr:0≤r∧r≤3):Lc.ok r ⟨none,[]⟩:=⟨hr,(λs hs=>by cases hs),λx hx=>(aAk hx).elim⟩
theorem xZ{s:LS}(h:Inv s):(LS.open s.N s.D (-1)).bF=s.bF.take s.kE:=by rw[(CD h (-1)).2.2.2]
theorem Nd.ok.new{r:Int}{N:Nat}(hr:0≤r∧r≤3)(h0:1≤N)(h1:N≤64):(Nd.new r N).ok:=by
 have hi:=Inv.new h0 h1;exact⟨hr,h0,h1,hi.len,by show(-1:Int) ≤ -1;decide,by show(-1:Int)≤_;decide,⟨⟨none,[]⟩,Lc.E3 hr,(xZ hi).symm⟩,λ_=>⟨hi,rfl⟩,λ_=>⟨Lc.E3 hr,rfl,rfl⟩⟩
theorem Nd.ok.write{n:Nd}(h:n.ok){x:Rc}(hx:x.ok)(hu:n.up=true):(n.write x).1.ok:=by
 unfold Nd.write;split
 ·rename_i hd;split
  ·rename_i ha;obtain⟨i1,i2⟩:=h.inv hu;obtain⟨l1,l2,l3⟩:=h.lc hu;have hinv:=i1.append x.b;rcases tI (s:=n.ls) (b:=x.b) with e|⟨_,e1,e2,e3,e⟩
   ·exfalso;unfold LS.append at ha e;have hb:=x.xW;rw[if_neg o_,if_neg o_] at ha e;split at ha
    ·cases ha
    ·rename_i hc;rw[if_neg hc] at e;have:=congrArg (λs:LS=>s.bF.length) e;dsimp only at this;rw[aAe] at this;simp at this
   ·rw[e] at hinv⊢;refine⟨h.rep,h.n0,h.n1,h.len,h.a0,h.a1,h.qO,λ_=>⟨hinv,i2⟩,λ_=>⟨l1.push (Ke hd) hx,?_,?_⟩⟩
    ·rw[Lc.SC,l2]
    ·rw[Lc.RM,←l3]
  ·exact h
 ·exact h
theorem My{s:LS}(hd:s.dead=false):s.sync.1=0∨s.sync.1=19:=by
 obtain⟨z,q,du,po,pe,de,F,h1,h2,h3,_⟩:=Ga hd;rw[h1];exact h3
theorem MI{s:LS}(h:Inv s)(hd:s.dead=false)(_hc:s.sync.1≠0):∃k,(LS.open s.sync.2.N s.sync.2.D (-1)).bF=s.bF.take k∧s.sync.2.N=s.N∧s.sync.2.D.length=s.D.length∧s.kE≤k:=by
 obtain⟨z,q,du,po,pe,de,F,h1,h2,h3,h4,h5⟩:=Ga hd;rw[h1];obtain⟨g1,g2,g3⟩:=laid h q h2;obtain⟨k,k1,k2,k3,k4⟩:=found h q h2;refine⟨k,?_,rfl,g2.trans h.len.symm,k1⟩;show Frm.cZ (bB (sp s.D (bS s.N (hb s.D)+s.pos) (s.cG.take q)) s.N (hb (sp s.D (bS s.N (hb s.D)+s.pos) (s.cG.take q))))=_;rw[g1,g3];exact k4
theorem JT{s:LS}(h0 : -1≤s.aG)(h1:s.aG≤9223372036854775807) : -1≤s.sync.2.aG∧s.sync.2.aG≤9223372036854775807:=by
 unfold LS.sync;split
 ·exact⟨h0,h1⟩
 split<;>exact⟨rU h0 _ _,zD h1 _ _⟩
theorem Nd.ok.sync{n:Nd}(h:n.ok):n.sync.1.ok:=by
 unfold Nd.sync;by_cases hu:n.up=true
 ·rw[if_pos hu];obtain⟨i1,i2⟩:=h.inv hu;obtain⟨l1,l2,l3⟩:=h.lc hu;have ha:=JT h.a0 h.a1;by_cases hc:n.ls.sync.1=0
  ·rw[if_pos hc];cases hq:iT n.ls.aG n.ls.pos n.ls.cG.length
   ·rw[Kd i2 hq] at ha⊢;have hinv:=i1.synced (fY n.ls.aG n.ls.pos n.ls.cG.length);refine⟨h.rep,h.n0,h.n1,hinv.len,ha.1,ha.2,⟨n.lc,l1,?_⟩,λ_=>⟨hinv,rfl⟩,λ_=>⟨l1,l2,l3⟩⟩;rw[l2];exact((xZ hinv).trans (aAj (aAf _))).symm
   ·rw[F7 i2 hq] at hc;cases hc
  ·rw[if_neg hc];obtain⟨k,k1,k2,k3,_⟩:=MI i1 i2 hc;obtain⟨z,z1,z2⟩:=l1.take k;refine⟨h.rep,by dsimp only;rw[k2];exact h.n0,by dsimp only;rw[k2];exact h.n1,by dsimp only;rw[k2,k3];exact h.len,ha.1,ha.2,⟨z,z1,?_⟩,(λhu=>by cases hu),λhu=>by cases hu⟩;rw[z2,l2];exact k1.symm
 ·rw[if_neg hu];exact h
theorem Nd.ok.arm{n:Nd}(h:n.ok){k:Int}(hk:k≤9223372036854775807):(n.arm k).ok:=by
 unfold Nd.arm;split
 ·rename_i hu;obtain⟨i1,i2⟩:=h.inv hu;have h0:=h.a0;have h1:=h.a1;refine⟨h.rep,h.n0,h.n1,h.len,?_,?_,h.qO,λ_=>⟨⟨i1.len,i1.n0,i1.n1,i1.Ly,i1.kE,i1.pos,i1.cG,i1.half,i1.fit⟩,i2⟩,λ_=>h.lc hu⟩
  ·show -1≤(if n.ls.dead then n.ls.aG else max k (-1));split<;>omega
  ·show(if n.ls.dead then n.ls.aG else max k (-1))≤_;split<;>omega
 ·exact h
theorem JH{s:LS}(h0 : -1≤s.aG)(h1:s.aG≤9223372036854775807)(b:List UInt8) : -1≤(s.swap b).2.aG∧(s.swap b).2.aG≤9223372036854775807:=by
 have a1:=rU h0 0 (32*s.N);have a2:=zD h1 0 (32*s.N);have b1:=rU a1 0 (b.length+7);have b2:=zD a2 0 (b.length+7);have c1:=D1 b1 b2;unfold LS.swap;repeat' split
 all_goals first|exact⟨h0,h1⟩|exact⟨a1,a2⟩|exact⟨b1,b2⟩|exact c1
theorem QH{s:LS}{b:List UInt8}:(s.swap b).1=0→(s.swap b).2.bF=[b]∧(s.swap b).2.kE=1∧(s.swap b).2.dead=false:=by
 unfold LS.swap;by_cases c1:b.length=0
 ·rw[if_pos c1];exact λh=>absurd h (by dsimp only;omega)
 rw[if_neg c1];by_cases c2:4096<b.length
 ·rw[if_pos c2];exact λh=>absurd h (by dsimp only;omega)
 rw[if_neg c2];by_cases c3:32*s.N<b.length+7
 ·rw[if_pos c3];exact λh=>absurd h (by dsimp only;omega)
 rw[if_neg c3];by_cases c4:s.dead=true
 ·rw[if_pos c4];exact λh=>absurd h (by dsimp only;omega)
 rw[if_neg c4];by_cases c5:iT s.aG 0 (32*s.N)=true
 ·rw[if_pos c5];exact λh=>absurd h (by dsimp only;omega)
 rw[if_neg c5];by_cases c6:iT (rT s) 0 (b.length+7)=true
 ·rw[if_pos c6];exact λh=>absurd h (by dsimp only;omega)
 rw[if_neg c6];by_cases c7:jD (yA s b)=true
 ·rw[if_pos c7];exact λh=>absurd h (by dsimp only;omega)
 rw[if_neg c7];exact λ_=>⟨rfl,rfl,rfl⟩
theorem Nd.ok.pack{n:Nd}(h:n.ok):n.pack.1.ok:=by
 unfold Nd.pack;by_cases hu:n.up=true
 ·rw[if_pos hu];obtain⟨i1,i2⟩:=h.inv hu;obtain⟨l1,l2,l3⟩:=h.lc hu;have hg:=h.gd hu;have ha:=JH h.a0 h.a1 n.At;have hnew:Lc.ok n.r ⟨some n.s,[]⟩:=⟨h.rep,(λs hs=>by injection hs with hs;subst hs;exact hg),λx hx=>(aAk hx).elim⟩
  obtain⟨f1,f2,f3⟩:=JS i1 i2 n.At;by_cases hc:(n.ls.swap n.At).1=0
  ·rw[if_pos hc];have hinv:=i1.swap i2 n.At hc;have hrecs:=QH hc;refine⟨h.rep,by dsimp only;rw[f1];exact h.n0,by dsimp only;rw[f1];exact h.n1,hinv.len,ha.1,ha.2,⟨⟨some n.s,[]⟩,hnew,?_⟩,λ_=>⟨hinv,hrecs.2.2⟩,λ_=>⟨hnew,hrecs.1.symm,rfl⟩⟩;show[5::fJ n.s]++[]=(LS.open (n.ls.swap n.At).2.N (n.ls.swap n.At).2.D (-1)).bF;rw[xZ hinv,hrecs.1,hrecs.2.1];rfl
  ·rw[if_neg hc];split
   ·refine⟨h.rep,by dsimp only;rw[f1];exact h.n0,by dsimp only;rw[f1];exact h.n1,by dsimp only;rw[f1,f2];exact h.len,ha.1,ha.2,?_,(λhu=>by cases hu),λhu=>by cases hu⟩;rcases f3 with⟨f3,_⟩|⟨f3,_⟩
    ·obtain⟨z,z1,z2⟩:=l1.take n.ls.kE;refine⟨z,z1,?_⟩;rw[z2,l2,←f3];show _=Frm.cZ (bB (n.ls.swap n.At).2.D (n.ls.swap n.At).2.N _);rw[f1]
    ·refine⟨⟨some n.s,[]⟩,hnew,?_⟩;show[5::fJ n.s]++[]=Frm.cZ (bB (n.ls.swap n.At).2.D (n.ls.swap n.At).2.N _);rw[f1,f3];rfl
   ·exact h
 ·rw[if_neg hu];exact h
end
section
open Go.RowKit Reg
open Mem hiding Rd
instance:cL 191 [.pointer none,.pointer none] [(0,1),(1,1)]:=⟨⟨q_,q_⟩⟩
instance:cL 181 [.pointer none,.int .i64 0,.int .i64 0,.int .i64 0,.int .i64 0,.int .i64 0,.int .i64 0,.pointer none] [(0,1),(1,5),(6,1),(7,1)]:=⟨⟨q_,q_⟩⟩
structure Nh where
 gm:Nat
 gl:Nat
 gs:Nat
 gd:Nat
abbrev ET(cf:fU)(r:Int)(m:Value)(gd:Nat):List Value:=[m,.int .i64 cf.bN,.int .i64 cf.eF,.int .i64 cf.dC,.int .i64 cf.base,.int .i64 cf.cap,.int .i64 r,pt gd]
abbrev fV(P:List Ov)(g:Nat)(cf:fU)(n:Nd)(k:Int)(x:Nh):List aL:=[aJ g 181 (ET cf n.r (pt x.gm) x.gd),aJ x.gm 191 [pt x.gl,pt x.gs],iB x.gl x.gd n.ls k,dI P x.gs n.s]
abbrev oT(g:Nat)(cf:fU)(n:Nd)(k:Int)(x:Nh):List aL:=[aJ g 181 (ET cf n.r (.pointer none) x.gd),kJ x.gd n.ls k]
def O4(P:List Ov)(g:Nat)(cf:fU)(n:Nd)(k:Int)(x:Nh):List aL:=match n.up with
 |true=>fV P g cf n k x
 |false=>oT g cf n k x
def bZ(P:List Ov)(g:Nat)(cf:fU)(n:Nd)(k:Int):aL:=nI (λ_:Nh=>n.ok) (O4 P g cf n k)
theorem bZ.up{P:List Ov}{g:Nat}{cf:fU}{n:Nd}{k:Int}{x:Nh}(h:n.ok)(hu:n.up=true):cA (fV P g cf n k x) [bZ P g cf n k]:=by
 have:=cA.fp (X:=Nh) (p:=λ_:Nh=>n.ok) (l:=O4 P g cf n k) (x:=x) h;unfold O4 at this;rw[hu] at this;have e:(nI (λ_:Nh=>n.ok) λx=>match true with|true=>fV P g cf n k x|false=>oT g cf n k x)=bZ P g cf n k:=by unfold bZ;congr 1;funext y;unfold O4;rw[hu]
 rw[e] at this;exact this
theorem bZ.dn{P:List Ov}{g:Nat}{cf:fU}{n:Nd}{k:Int}{x:Nh}(h:n.ok)(hu:n.up=false):cA (oT g cf n k x) [bZ P g cf n k]:=by
 have:=cA.fp (X:=Nh) (p:=λ_:Nh=>n.ok) (l:=O4 P g cf n k) (x:=x) h;unfold O4 at this;rw[hu] at this;have e:(nI (λ_:Nh=>n.ok) λx=>match false with|true=>fV P g cf n k x|false=>oT g cf n k x)=bZ P g cf n k:=by unfold bZ;congr 1;funext y;unfold O4;rw[hu]
 rw[e] at this;exact this
theorem oG{E:Env}{f:FuncId}{args:Array Value}{P:List Ov}{g:Nat}{cf:fU}{n:Nd}{k:Int}{R:List aL}{Q:Ending→List aL→Prop}(h1:∀x,n.ok→n.up=true→aK prog E f args (fV P g cf n k x++R) Q)(h2:∀x,n.ok→n.up=false→aK prog E f args (oT g cf n k x++R) Q):aK prog E f args (bZ P g cf n k::R) Q:=by
 refine aK.fp Has.aN λx hx=>?_;unfold O4;cases hu:n.up with
 |true=>exact h1 x hx hu
 |false=>exact h2 x hx hu
theorem fV.mono{P Q:List Ov}{g:Nat}{cf:fU}{n:Nd}{k k':Int}{x:Nh}(h:k≤k'):cA (fV P g cf n k x) (fV (P++Q) g cf n k' x):=cA.cons cA.refl (cA.cons cA.refl (cA.cons (iB.mono h) dI.mono))
theorem bZ.mono{P Q:List Ov}{g:Nat}{cf:fU}{n:Nd}{k k':Int}(h:k≤k'):cA [bZ P g cf n k] [bZ (P++Q) g cf n k']:=λF w hs=>by
 obtain⟨F1,F2,h1,h2,⟨x,G1,G2,g1,g2,g3,g4⟩,h4⟩:=hs;unfold O4 at g4;cases hu:n.up with
 |true =>
  rw[hu] at g4;obtain⟨F',k1,k2⟩:=(fV.mono (Q:=Q) h).trans (bZ.up g3.1 hu) G2 w g4;exact⟨F',k1,λb hb=>(h1 b).2 (.inl ((g1 b).2 (.inr (k2 b hb))))⟩
 |false =>
  rw[hu] at g4;obtain⟨F',k1,k2⟩:=(cA.cons cA.refl (kJ.mono h)).trans (bZ.dn (P:=P++Q) g3.1 hu) G2 w g4;exact⟨F',k1,λb hb=>(h1 b).2 (.inl ((g1 b).2 (.inr (k2 b hb))))⟩
section
variable (E:Env) (P:List Ov) (g:Nat) (cf:fU) (n:Nd) (k:Int)
theorem qL(r:Int)(m gd:Nat)(hb:gE E g (ET cf r (pt m) gd)):G E 69 [pt g] [] (cM (.bool true) []):=by
 refine t_ func69 ntmps69 ?_;repeat first|refine v_ ?_|intro
 exact B7
theorem Ae(r:Int)(gd:Nat)(hb:gE E g (ET cf r (.pointer none) gd)):G E 69 [pt g] [] (cM (.bool false) []):=by
 refine t_ func69 ntmps69 ?_;repeat first|refine v_ ?_|intro
 exact B7
theorem TI:G E 69 [pt g] [bZ P g cf n k] (cM (.bool n.up) [bZ P g cf n k]):=by
 refine oG (λx ho hu=>?_) (λx ho hu=>?_)
 ·rw[aAc,hu];refine aK.post (aK.read λM hE=>qL M g cf n.r x.gm x.gd (gE.of hE Has.aN)) ?_;rintro e H' ⟨H1,⟨rfl,rfl⟩,rfl⟩;exact⟨_,aB.cF (bZ.up ho hu),rfl,rfl⟩
 ·rw[aAc,hu];refine aK.post (aK.read λM hE=>Ae M g cf n.r x.gd (gE.of hE Has.aN)) ?_;rintro e H' ⟨H1,⟨rfl,rfl⟩,rfl⟩;exact⟨_,aB.cF (bZ.dn ho hu),rfl,rfl⟩
end
end
section
open Go.RowKit Reg Oct
open Mem hiding Rd
abbrev ZG(P:List Ov)(gm gl gs gd:Nat)(z:LS)(k:Int)(s:Sv):List aL:=[aJ gm 191 [pt gl,pt gs],iB gl gd z k,dI P gs s]
section
variable (E:Env) (P:List Ov) (g:Nat) (cf:fU) (n:Nd) (k:Int)
theorem wW:G E 70 [pt g] [bZ P g cf n k] λe H'=>if n.up then ∃g2,e=.returned (pt g2)∧H'=[dI P g2 n.s,bZ P g cf n k] else e=.returned (.pointer none)∧H'=[bZ P g cf n k]:=by
 refine oG (λx ho hu=>?_) (λx ho hu=>?_)
 ·rw[aAc];simp only[hu,if_true];have cln:=λM=>Ij M P x.gs n.s;refine t_ func70 ntmps70 ?_;repeat first|refine v_ ?_|intro
  refine eV (λM=>qL M g cf n.r x.gm x.gd) ?_;repeat first|refine v_ ?_|intro
  refine bW cln ?_;rintro e H' ⟨g2,rfl,rfl⟩;repeat first|refine v_ ?_|intro
  exact aR (H':=[dI P g2 n.s,bZ P g cf n k]) rfl aF (aB.trans (aB.aV (l:=[dI P g2 n.s]++fV P g cf n k x) aC) (aB.cF (cA.cons cA.refl (bZ.up ho hu)))) ⟨g2,rfl,rfl⟩
 ·rw[aAc];simp only[hu,aCb,if_false];refine t_ func70 ntmps70 ?_;repeat first|refine v_ ?_|intro
  refine eV (λM=>Ae M g cf n.r x.gd) ?_;repeat first|refine v_ ?_|intro
  exact aR (H':=[bZ P g cf n k]) rfl aF (aB.trans (aB.aV (l:=oT g cf n k x) aC) (aB.cF (bZ.dn ho hu))) ⟨rfl,rfl⟩
theorem DN(x:Nh):G E 128 [pt g] (fV P g cf n k x) (cM (.bool true) (oT g cf n k x)):=by
 refine t_ func128 ntmps128 ?_;repeat first|refine v_ ?_|intro
 refine eV (λM=>qL M g cf n.r x.gm x.gd) ?_;repeat first|refine v_ ?_|intro
 exact aR (H':=oT g cf n k x) rfl aF (aB.trans (aB.aV (l:=[iB x.gl x.gd n.ls k,aJ g 181 (ET cf n.r (.pointer none) x.gd)]) aC) (aB.trans (aB.cF iB.down) aA)) ⟨rfl,rfl⟩
theorem tZ(e0:Int)(h:e0≠19):G E 111 [pt g,.int .i64 e0] [] (cM (.int .i64 e0) []):=by
 refine t_ func111 ntmps111 ?_;repeat first|refine v_ ?_|intro
 exact B7
theorem Gk(x:Nh):G E 111 [pt g,.int .i64 19] (fV P g cf n k x) (cM (.int .i64 19) (oT g cf n k x)):=by
 refine t_ func111 ntmps111 ?_;repeat first|refine v_ ?_|intro
 refine bK (λM=>DN M P g cf n k x) ?_;repeat first|refine v_ ?_|intro
 exact B7
theorem KU(hk:k≤10000000000000):G E 54 [pt g] [bZ P g cf n k] (cM (.int .i64 n.sync.2) [bZ P g cf n.sync.1 (k+2048)]):=by
 refine oG (λx ho hu=>?_) (λx ho hu=>?_)
 ·rw[aAc];have hok:=ho.sync;obtain⟨i1,i2⟩:=ho.inv hu;have hcode:=My i2;unfold Nd.sync at hok⊢;rw[if_pos hu] at hok⊢;have syn:=λM=>async M x.gl x.gd n.ls k hk;generalize n.ls.sync=res at *;obtain⟨cd,z2⟩:=res;dsimp only at hcode hok syn⊢;rcases hcode with rfl|rfl
  ·rw[if_pos rfl] at hok⊢;refine t_ func54 ntmps54 ?_;repeat first|refine v_ ?_|intro
   refine eV (λM=>qL M g cf n.r x.gm x.gd) ?_;repeat first|refine v_ ?_|intro
   refine bK syn ?_;repeat first|refine v_ ?_|intro
   refine bK (λM=>tZ M g 0 (by decide)) ?_;repeat first|refine v_ ?_|intro
   exact aR rfl aF (aB.trans (aB.aV (l:=fV P g cf ⟨n.r,z2,true,n.lc,n.s⟩ (k+2048) x) aC) (aB.cF (bZ.up hok rfl))) ⟨rfl,rfl⟩
  ·rw[if_neg sD] at hok⊢;have dd:=λM=>Gk M P g cf ⟨n.r,z2,false,n.lc,n.s⟩ (k+2048) x;refine t_ func54 ntmps54 ?_;repeat first|refine v_ ?_|intro
   refine eV (λM=>qL M g cf n.r x.gm x.gd) ?_;repeat first|refine v_ ?_|intro
   refine bK syn ?_;repeat first|refine v_ ?_|intro
   refine bK dd ?_;repeat first|refine v_ ?_|intro
   exact aR rfl aF (aB.trans (aB.aV (l:=oT g cf ⟨n.r,z2,false,n.lc,n.s⟩ (k+2048) x) aC) (aB.cF (bZ.dn hok rfl))) ⟨rfl,rfl⟩
 ·rw[aAc];unfold Nd.sync;rw[if_neg (by rw[hu];decide)];refine t_ func54 ntmps54 ?_;repeat first|refine v_ ?_|intro
  refine eV (λM=>Ae M g cf n.r x.gd) ?_;repeat first|refine v_ ?_|intro
  exact aR rfl aF (aB.trans (aB.aV (l:=oT g cf n k x) aC) (aB.cF ((cA.cons cA.refl (kJ.mono o_)).trans (bZ.dn ho hu)))) ⟨rfl,rfl⟩
end
section
variable (E:Env) (P:List Ov) (g:Nat) (cf:fU) (n:Nd) (k:Int)
theorem HW(N:Nat)(h0:1≤N)(h1:N≤64):LS.open N (LS.new N).D (-1)=LS.new N:=by
 have h:=(CD (Inv.new h0 h1) (-1)).2.2.2;rw[Lq] at h;exact h
end
theorem RA{l:List (List UInt8)}:(∀x∈l,1≤x.length)→8*l.length≤(cat l).length:=by
 induction l with
 |nil=>exact λ_=>aAf _
 |cons x l ih =>
  intro h;have h1:=ih λy hy=>h y (aBl _ hy);have h2:=h x aBo;rw[CY,aAe,Frm.bO,aAs];omega
theorem Inv.rK{s:LS}(h:Inv s):s.bF.length≤300:=by
 have h1:=RA λx hx=>(h.Ly x hx).1;have h2:=h.fit;have h3:=h.n1;rw[BD h,aAe,←h.pos,←h.cG] at h1;omega
theorem I2{s:LS}{b:List UInt8}(h:(s.append b).1≠0):(s.append b).2=s:=by
 rcases tI (s:=s) (b:=b) with e|⟨h0,_⟩
 ·exact e
 ·exact absurd h0 h
section
variable (E:Env) (P:List Ov) (g:Nat) (cf:fU) (n:Nd) (k:Int)
theorem Jf(hu:n.up=true)(x:Rc)(hx:x.ok):G E 170 [pt g,.agg x.r.cs.toArray] [bZ P g cf n k,aI P] λe H'=>∃Q,e=.returned (.int .i64 (n.write x).2)∧H'=[bZ (P++Q) g cf (n.write x).1 k,aI (P++Q)]:=by
 refine oG (λy ho _=>?_) (λy ho hd=>by rw[hu] at hd;cases hd);have hok:=ho.write hx hu;obtain⟨i1,i2⟩:=ho.inv hu;have hfew:=i1.rK;have cln:=λM=>Ij M P y.gs n.s;have doo:=λM g2=>Sz M P g2 n.s x hx;have doo2:=λM Q=>Sz M (P++Q) y.gs n.s x hx;have app:=λM A c hr=>So M y.gl y.gd n.ls k o_ A x.b.length c x.b hr;have herr:=I2 (s:=n.ls) (b:=x.b);have hmay:=Ke (s:=n.s) (x:=x);have put:=λM hm=>W2 M x hm;have hbl:=x.xW;unfold Nd.write at hok⊢;generalize n.s.doc x=res at *;obtain⟨s2,code⟩:=res;generalize n.ls.append x.b=ap at *;obtain⟨ca,zz⟩:=ap;dsimp only at hok doo doo2 app herr hmay⊢;generalize x.b=xb at *;generalize x.r=xr at *;dsimp only[fV,pD.cs,List.cons_append,List.nil_append] at doo doo2 put⊢;have same:∀Q:List Ov,aB E (fV P g cf n k y++[aI (P++Q)]) [bZ (P++Q) g cf n k,aI (P++Q)]:=λQ=>aB.cF (cA.append ((fV.mono (aCd k)).trans (bZ.up ho hu)) cA.refl);by_cases hc:code=0
 ·subst hc;rw[if_pos rfl] at hok⊢;have hm:=hmay rfl;by_cases ha:ca=0
  ·subst ha;rw[if_pos rfl] at hok⊢;refine t_ func170 ntmps170 ?_;repeat first|refine v_ ?_|intro
   rename_i g3;refine rB (l_ [0,1,2,3,4,5,6,8] (g_ 7 (g_ 9 (n_ 10 .nil)))) ([aJ g 181 (ET cf n.r (pt y.gm) y.gd),aJ y.gm 191 [pt y.gl,pt y.gs],aJ g3 202 _]) ?_;repeat first|refine v_ ?_|intro
   refine iO cln ?_;rintro e H' ⟨g2,rfl,rfl⟩;repeat first|refine v_ ?_|intro
   refine iO (λM=>doo M g2) ?_;rintro e H' ⟨Q,rfl,rfl⟩;repeat first|refine v_ ?_|intro
   refine bW (λM=>put M hm) ?_;rintro e H' ⟨A,c,rfl,rfl⟩;repeat first|refine v_ ?_|intro
   refine eV (λM=>app M A c) ?_;repeat first|refine v_ ?_|intro
   refine C.conv (aB.imp (A:=[dI P y.gs n.s]) (B:=[dI (P++Q) y.gs n.s]) dI.mono aC) ?_;dsimp only[List.cons_append,List.nil_append];refine rB (l_ [0,1,2,3,4,5,6,7] (g_ 8 (n_ 9 .nil))) ([aJ g 181 (ET cf n.r (pt y.gm) y.gd),aJ y.gm 191 [pt y.gl,pt y.gs],aJ g3 202 _]) ?_;repeat first|refine v_ ?_|intro
   refine iO (λM=>doo2 M Q) ?_;rintro e H' ⟨Q2,rfl,rfl⟩;repeat first|refine v_ ?_|intro
   exact aR (H':=[bZ (P++(Q++Q2)) g cf ⟨n.r,zz,n.up,⟨n.lc.base,n.lc.l++[x]⟩,s2⟩ k,aI (P++(Q++Q2))]) rfl aF (by rw[←aAb];exact aB.trans (aB.aV (l:=fV (P++Q++Q2) g cf ⟨n.r,zz,n.up,⟨n.lc.base,n.lc.l++[x]⟩,s2⟩ k y++[aI (P++Q++Q2)]) aC) (aB.cF (cA.append (bZ.up hok hu) cA.refl))) ⟨Q++Q2,rfl,rfl⟩
  ·rw[if_neg ha] at hok⊢;have hzz:=herr ha;subst hzz;refine t_ func170 ntmps170 ?_;repeat first|refine v_ ?_|intro
   rename_i g3;refine rB (l_ [0,1,2,3,4,5,6,8] (g_ 7 (g_ 9 (n_ 10 .nil)))) ([aJ g 181 (ET cf n.r (pt y.gm) y.gd),aJ y.gm 191 [pt y.gl,pt y.gs],aJ g3 202 _]) ?_;repeat first|refine v_ ?_|intro
   refine iO cln ?_;rintro e H' ⟨g2,rfl,rfl⟩;repeat first|refine v_ ?_|intro
   refine iO (λM=>doo M g2) ?_;rintro e H' ⟨Q,rfl,rfl⟩;repeat first|refine v_ ?_|intro
   refine bW (λM=>put M hm) ?_;rintro e H' ⟨A,c,rfl,rfl⟩;repeat first|refine v_ ?_|intro
   refine eV (λM=>app M A c) ?_;repeat first|refine v_ ?_|intro
   exact aR rfl aF (aB.trans (aB.aV (l:=fV P g cf n k y++[aI (P++Q)]) aC) (same Q)) ⟨Q,rfl,rfl⟩
 ·rw[if_neg hc];refine t_ func170 ntmps170 ?_;repeat first|refine v_ ?_|intro
  rename_i g3;refine rB (l_ [0,1,2,3,4,5,6,8] (g_ 7 (g_ 9 (n_ 10 .nil)))) ([aJ g 181 (ET cf n.r (pt y.gm) y.gd),aJ y.gm 191 [pt y.gl,pt y.gs],aJ g3 202 _]) ?_;repeat first|refine v_ ?_|intro
  refine iO cln ?_;rintro e H' ⟨g2,rfl,rfl⟩;repeat first|refine v_ ?_|intro
  refine iO (λM=>doo M g2) ?_;rintro e H' ⟨Q,rfl,rfl⟩;repeat first|refine v_ ?_|intro
  exact aR rfl aF (aB.trans (aB.aV (l:=fV P g cf n k y++[aI (P++Q)]) aC) (same Q)) ⟨Q,rfl,rfl⟩
end
theorem Jj{c:aX}(h:c.may=true)(hn:dQ c.n):c.ok:=by
 obtain⟨h1,h2,h3,h4,h5,h6,h7⟩:=(aX.bY c).1 h;refine⟨⟨?_,?_⟩,?_,?_,?_,?_,hn,?_,?_⟩<;>unfold dQ<;>omega
theorem Rz{s:Sv}{c:aX}(hn:dQ c.n)(h:(s.make c).2=0):(s.make c).1.ok∧(s.make c).1.may=true:=by
 unfold Sv.make at h⊢;split at h
 ·cases h
 ·rename_i h1;rw[if_neg h1];split at h
  ·rename_i h2;rw[if_pos h2];exact⟨Jj h2 hn,h2⟩
  ·cases h
def Nd.fC(n:Nd)(c:aX):Nd×aX×Int :=
 if n.up then
  (if (n.s.make c).2=0 then(if (n.write (.lI (n.s.make c).1)).2=0 then((n.write (.lI (n.s.make c).1)).1,(n.s.make c).1,0) else((n.write (.lI (n.s.make c).1)).1,dO,(n.write (.lI (n.s.make c).1)).2))
  else(n,dO,(n.s.make c).2))
 else(n,dO,19)
def Nd.AQ(n:Nd):List Rc→Nat→Nd×Nat×Int
 | [],i=>(n,i,0)
 |x::l,i=>if (n.write x).2=0 then Nd.AQ (n.write x).1 l (i+1) else((n.write x).1,i,(n.write x).2)
def Nd.take(n:Nd)(l:List Rc):Nd×Nat×Int:=if n.up then n.AQ l 0 else(n,0,19)
theorem qU(n:Nd)(x:Rc):(n.write x).1.up=n.up:=by
 unfold Nd.write;split
 ·split<;>rfl
 ·rfl
section
variable (E:Env) (P:List Ov) (g:Nat) (cf:fU) (n:Nd) (k:Int)
theorem TN(c:aX)(hc:dQ c.n):G E 109 [pt g,.agg c.cs.toArray] [bZ P g cf n k,aI P] λe H'=>∃Q,e=.returned (.tuple #[.agg (n.fC c).2.1.cs.toArray,.int .i64 (n.fC c).2.2])∧H'=[bZ (P++Q) g cf (n.fC c).1 k,aI (P++Q)]:=by
 have mono0:aB E [bZ P g cf n k,aI P] [bZ (P++[]) g cf n k,aI (P++[])]:=by rw[aAc];exact aB.refl
 refine oG (λy ho hu=>?_) (λy ho hu=>?_)
 ·have upp:∀Q:List Ov,aB E (fV P g cf n k y++[aI P]) [bZ P g cf n k,aI P]:=λQ=>aB.cF (cA.append (bZ.up ho hu) cA.refl);have mk:=λM=>T3 M P y.gs n.s c;have hmk:=Rz (s:=n.s) (c:=c) hc;have law:=λM hx=>Jf M P g cf n k hu (.lI (n.s.make c).1) hx;unfold Nd.fC;rw[if_pos hu];generalize n.s.make c=m at *;obtain⟨c2,code⟩:=m;dsimp only at hmk law mk⊢;generalize n.write (.lI c2)=w at *;obtain⟨n2,e2⟩:=w;dsimp only[fV,List.cons_append,List.nil_append,aX.cs] at mk law⊢;by_cases h0:code=0
  ·subst h0;rw[if_pos rfl];have hx:(Rc.lI c2).ok:=(hmk rfl).1;refine t_ func109 ntmps109 ?_;repeat first|refine v_ ?_|refine Dr.two ?_ ?_|intro
   refine eV (λM=>qL M g cf n.r y.gm y.gd) ?_;repeat first|refine v_ ?_|refine Dr.two ?_ ?_|intro
   rename_i g3 g4;refine C.BI (X:=Unit) (λ_=>[(0,pt g),(3,pt g3),(4,pt g4),(6,.int .i64 0)]) (λ_=>[aJ g 181 (ET cf n.r (pt y.gm) y.gd),aJ y.gm 191 [pt y.gl,pt y.gs],iB y.gl y.gd n.ls k,dI P y.gs n.s,aI P,aJ g4 34 dO.cs,aJ g3 34 c2.cs]) (λ_=>True) ?_ ?_
   ·refine C.bL 12 (l_ [0,1,2,3,4,5,6,7] (g_ 8 (l_ [9,10] (.two 11 (g_ 12 (g_ 13 .nil)) 12 (g_ 11 (g_ 13 .nil)))))) ([aJ g 181 (ET cf n.r (pt y.gm) y.gd),aJ y.gm 191 [pt y.gl,pt y.gs],aJ g3 34 _]) q_ q_ aA ?_;repeat first|refine v_ ?_|refine Dr.two ?_ ?_|intro
    refine eJ mk ?_;repeat first|refine v_ ?_|intro
    refine Dr.two ?_ ?_
    ·repeat first|refine cY ?_|intro
     exact⟨(),aD,aA,trivial⟩
    ·repeat first|refine cY ?_|intro
     exact⟨(),aD,aA,trivial⟩
   rintro - F -;dsimp only[aX.cs];refine C.conv (aB.trans (aB.aV (l:=fV P g cf n k y++[aI P,aJ g4 34 dO.cs,aJ g3 34 c2.cs]) aC) (aB.cF (cA.append (bZ.up ho hu) cA.refl))) ?_;dsimp only[List.cons_append,List.nil_append,aX.cs];by_cases he:e2=0
   ·subst he;rw[if_pos rfl];repeat first|refine v_ ?_|refine Dr.two ?_ ?_|intro
    refine bK (λM=>qM M c2) ?_;repeat first|refine v_ ?_|refine Dr.two ?_ ?_|intro
    refine bW (λM=>law M hx) ?_;rintro e H' ⟨Q,rfl,rfl⟩;repeat first|refine v_ ?_|refine Dr.two ?_ ?_|intro
    exact gS (H':=[bZ (P++Q) g cf n2 k,aI (P++Q)]) rfl aF rfl rfl rfl aS rfl aF aA ⟨Q,rfl,rfl⟩
   ·rw[if_neg he];repeat first|refine v_ ?_|refine Dr.two ?_ ?_|intro
    refine bK (λM=>qM M c2) ?_;repeat first|refine v_ ?_|refine Dr.two ?_ ?_|intro
    refine bW (λM=>law M hx) ?_;rintro e H' ⟨Q,rfl,rfl⟩;repeat first|refine v_ ?_|refine Dr.two ?_ ?_|intro
    exact gS (H':=[bZ (P++Q) g cf n2 k,aI (P++Q)]) rfl aF rfl rfl rfl aS rfl aF aA ⟨Q,rfl,rfl⟩
  ·rw[if_neg h0];refine t_ func109 ntmps109 ?_;repeat first|refine v_ ?_|refine Dr.two ?_ ?_|intro
   refine eV (λM=>qL M g cf n.r y.gm y.gd) ?_;repeat first|refine v_ ?_|refine Dr.two ?_ ?_|intro
   rename_i g3 g4;refine C.BI (X:=Unit) (λ_=>[(0,pt g),(3,pt g3),(4,pt g4),(6,.int .i64 code)]) (λ_=>[aJ g 181 (ET cf n.r (pt y.gm) y.gd),aJ y.gm 191 [pt y.gl,pt y.gs],iB y.gl y.gd n.ls k,dI P y.gs n.s,aI P,aJ g4 34 dO.cs,aJ g3 34 c2.cs]) (λ_=>True) ?_ ?_
   ·refine C.bL 12 (l_ [0,1,2,3,4,5,6,7] (g_ 8 (l_ [9,10] (.two 11 (g_ 12 (g_ 13 .nil)) 12 (g_ 11 (g_ 13 .nil)))))) ([aJ g 181 (ET cf n.r (pt y.gm) y.gd),aJ y.gm 191 [pt y.gl,pt y.gs],aJ g3 34 _]) q_ q_ aA ?_;repeat first|refine v_ ?_|refine Dr.two ?_ ?_|intro
    refine eJ mk ?_;repeat first|refine v_ ?_|intro
    refine Dr.two ?_ ?_
    ·repeat first|refine cY ?_|intro
     exact⟨(),aD,aA,trivial⟩
    ·repeat first|refine cY ?_|intro
     exact⟨(),aD,aA,trivial⟩
   rintro - F -;dsimp only[aX.cs];repeat first|refine v_ ?_|refine Dr.two ?_ ?_|intro
   refine gS (H':=[bZ (P++[]) g cf n k,aI (P++[])]) rfl aF rfl rfl rfl aS rfl aF (aB.trans (aB.aV (l:=fV P g cf n k y++[aI P]) aC) (aB.trans (upp []) mono0)) ⟨[],rfl,rfl⟩
 ·unfold Nd.fC;rw[if_neg (by rw[hu];decide)];dsimp only[oT,List.cons_append,List.nil_append,aX.cs];refine t_ func109 ntmps109 ?_;repeat first|refine v_ ?_|refine Dr.two ?_ ?_|intro
  refine eV (λM=>Ae M g cf n.r y.gd) ?_;repeat first|refine v_ ?_|refine Dr.two ?_ ?_|intro
  refine gS (H':=[bZ (P++[]) g cf n k,aI (P++[])]) rfl aF rfl rfl rfl aS rfl aF (aB.trans (aB.aV (l:=oT g cf n k y++[aI P]) aC) (aB.trans (aB.cF (cA.append (bZ.dn ho hu) cA.refl)) mono0)) ⟨[],rfl,rfl⟩
end
end
end Go.Proofs.YtmilalkjbojciaaGreat.Sep
