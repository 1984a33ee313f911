/- Part BL: what it needs. No condition. -/
import Derived.Test.YtmilalkjbojciaaGreatOAA
import Derived.Test.YtmilalkjbojciaaGreatOBK
import Derived.Test.YtmilalkjbojciaaGreatOBH
import Derived.Test.YtmilalkjbojciaaGreatOBJ
import Derived.Test.YtmilalkjbojciaaGreatOAN
set_option maxRecDepth 100000
set_option maxHeartbeats 8000000
open Go.Proofs.Tryz
namespace Go.Proofs.YtmilalkjbojciaaGreat.Sep
open Go.RowKit Reg Oct
open Mem hiding Rd
def zU(l:List dS):List UInt8:=l.flatMap NM
theorem AX{l:List dS}(h:JL l):(zU l).length≤10000*l.length:=by
 induction l with
 |nil=>exact aAf _
 |cons p l ih =>
  have h1:=ih λx hx=>h x (aBl _ hx);have hj:=h p aBo;have h2:=sC hj.2.may;have h3:=hj.1.len;have h4:=hj.1.nK;show(NM p++zU l).length≤_;have h5:(NM p).length=2+(lN p.l).length:=by unfold NM lN;simp;omega
  rw[aAe,h5,h2,aAs];omega
theorem KT{s:Sv}(h:Gd s):fJ s=dP s.v.l++(dP s.v.t++zU s.ps):=by
 have hl:=h.v.len;have e:∀l:List aX,l.length≤48→(∀c∈l,c∈s.v.l++s.v.t)→AU l=dP l:=λl h1 h2=>by
  unfold AU;rw[if_neg o_,if_pos (aDm.2 λc hc=>h.v.may (h2 c hc))]
 unfold fJ;rw[e _ o_ (λc hc=>aDn _ hc),e _ o_ (λc hc=>aCp _ hc),aAb];rfl
section
variable (E:Env)
theorem BK(b:Bool)(hb:b=true):G E 328 [.bool b] [] (cM (.tuple #[]) []):=by subst hb;exact qS E
theorem YB(P:List Ov)(s:Sv)(hg:Gd s)(B:Option Addr)(n c:Nat)(hr:Rd E aU B n c (fJ s)):G E 281 [.int .i64 s.r,.slice B n c] [aI P] λe H'=>∃Q g,e=.returned (pt g)∧H'=[dI (P++Q) g s,aI (P++Q)]:=by
 have hmax:=fX;have hlen:=hg.v.len;have hcb:=AX hg.ch;have hnp:=hg.np;have hrep:=hg.rep;have pl1:=jY s.v.l;have pl2:=jY s.v.t;have hbl:(fJ s).length≤1000000:=by
  rw[KT hg];unfold dP;simp only[aAe,aAs];omega
 have hn:=hr.len;have new:=λE'=>Xt E' P s.r;rw[show dF s.r 0 3=s.r by unfold dF;rw[if_neg o_,if_neg o_]] at new;have ch1:=λE' g=>Fg E' g s.v.l (dP s.v.t++zU s.ps) o_ (λc hc=>⟨hg.v.may (aDn _ hc),hg.v.T4 c hc⟩) (by unfold dP;simp only[aAe,aAs];omega);have ch2:=λE' g=>Fg E' g s.v.t (zU s.ps) o_ (λc hc=>⟨hg.v.may (aCp _ hc),hg.v.TZ c hc⟩) o_;refine t_ func281 ntmps281 ?_;repeat first|refine v_ ?_|intro
 refine bW new ?_;rintro e H' ⟨gs,rfl,rfl⟩;repeat first|refine v_ ?_|intro
 refine dX (λ(E':Env) h1=>lD E' B n c (fJ s) h1 (by omega)) ?_;rintro e H' ⟨gr,A0,c0,rfl,k1,k2,rfl⟩;refine gk bG ?_;unfold Bs;refine L.conv (aB.aV (l:=[pC gr true false A0 n c0,own aU A0 n c0 (fJ s)]++[dI P gs ⟨Hb,[],s.r⟩,aI P]) aC) ?_;refine L.conv (kT.mk (x:=⟨A0,n,c0,fJ s,A0,n,c0⟩) nS.refl) ?_;repeat first|refine v_ ?_|intro
 rename_i g6;have e0:kT gr (fJ s)=kT gr (dP s.v.l++(dP s.v.t++zU s.ps)):=by rw[KT hg]
 rw[e0];refine bW (λ(E':Env)=>ch1 E' gr) ?_;rintro e H' ⟨A1,c1,hc1,rfl,rfl⟩;repeat first|refine v_ ?_|intro
 refine C.scan (Y:=List Ov) (l:=s.v.l) rfl (λi _=>[(0,.int .i64 s.r),(1,.slice B n c),(5,pt gs),(6,pt g6),(18,.slice A1 s.v.l.length c1),(19,.int .i64 s.v.l.length),(20,.int .i64 i)])
  (λi Q=>[dI (P++Q) gs (jX s.r (s.v.l.take i)),aI (P++Q),aJ g6 414 [pt gr],own bE A1 s.v.l.length c1 s.v.l,kT gr (dP s.v.t++zU s.ps)]) (λ_ _=>True) [] aD (by rw[aCg,aAc,show jX s.r []=⟨Hb,[],s.r⟩ from rfl];exact aA) trivial ?_ ?_
 ·rintro i Q x F hi hx _;obtain⟨d1,d2⟩:=LR hg hx;have hxo:(Rc.lI x).ok:=hg.v.T4 x (aAi hx);rw[DP hx];generalize jX s.r (s.v.l.take i)=z at *;have law:=λE'=>Sz E' (P++Q) gs z (.lI x) hxo;have law2:=λE' Q2=>Sz E' (P++Q++Q2) gs (z.doc (.lI x)).1 (.rI x.id) trivial;rw[d1] at law;rw[d2] at law2;generalize ((z.doc (.lI x)).1.doc (.rI x.id)).1=z3 at law2⊢;generalize (z.doc (.lI x)).1=z2 at law law2;repeat first|refine v_ ?_|intro
  refine bK (λ(E':Env)=>qM E' x) ?_;repeat first|refine v_ ?_|intro
  refine bW law ?_;rintro e H' ⟨Q2,rfl,rfl⟩;repeat first|refine v_ ?_|intro
  refine bK (λ(E':Env)=>oS E' x.id) ?_;repeat first|refine v_ ?_|intro
  refine bW (λ(E':Env)=>law2 E' Q2) ?_;rintro e H' ⟨Q3,rfl,rfl⟩;repeat first|refine v_ ?_|intro
  refine cl sD sK aC (λE' hE=>BK E' _ (by rfl)) ?_;rintro e H' ⟨rfl,rfl⟩;repeat first|refine v_ ?_|intro
  exact⟨Q++Q2++Q3,aD,(by rw[←aAb,←aAb];exact aA),trivial⟩
 rintro Q F -;rw[aAo];repeat first|refine v_ ?_|intro
 refine bW (λ(E':Env)=>ch2 E' gr) ?_;rintro e H' ⟨A2,c2,hc2,rfl,rfl⟩;repeat first|refine v_ ?_|intro
 refine C.scan (Y:=List Ov) (l:=s.v.t) rfl (λi _=>[(0,.int .i64 s.r),(1,.slice B n c),(5,pt gs),(6,pt g6),(40,.slice A2 s.v.t.length c2),(41,.int .i64 s.v.t.length),(42,.int .i64 i)])
  (λi Q=>[dI (P++Q) gs (DF (jX s.r s.v.l) (s.v.t.take i)),aI (P++Q),aJ g6 414 [pt gr],own bE A2 s.v.t.length c2 s.v.t,kT gr (zU s.ps)]) (λ_ _=>True) Q aD (by rw[aCg,show DF (jX s.r s.v.l) []=jX s.r s.v.l from rfl];exact aA) trivial ?_ ?_
 ·rintro i Q x F hi hx _;have d1:=NH hg hx;have hxo:(Rc.lI x).ok:=hg.v.TZ x (aAi hx);rw[Db hx];generalize DF (jX s.r s.v.l) (s.v.t.take i)=z at *;have law:=λE'=>Sz E' (P++Q) gs z (.lI x) hxo;rw[d1] at law;generalize (z.doc (.lI x)).1=z2 at law⊢;repeat first|refine v_ ?_|intro
  refine bK (λ(E':Env)=>qM E' x) ?_;repeat first|refine v_ ?_|intro
  refine bW law ?_;rintro e H' ⟨Q2,rfl,rfl⟩;repeat first|refine v_ ?_|intro
  refine cl sD sK aC (λE' hE=>BK E' _ (by rfl)) ?_;rintro e H' ⟨rfl,rfl⟩;repeat first|refine v_ ?_|intro
  exact⟨Q++Q2,aD,(by rw[←aAb];exact aA),trivial⟩
 rintro Q F -;rw[aAo,FZ hg];have iS:=λE'=>Kn E' (P++Q) gs (part s 0);rw[Cb] at iS;repeat first|refine v_ ?_|intro
 refine bW iS ?_;rintro e H' ⟨O,oc,chl,-,rfl,rfl⟩;repeat first|refine v_ ?_|intro
 refine C.loop (X:=Nat) (λi=>[(0,.int .i64 s.r),(1,.slice B n c),(5,pt gs),(6,pt g6),(55,.int .i64 s.ps.length),(56,.int .i64 i)])
  (λi=>[dI (P++Q) gs (part s i),aI (P++Q),aJ g6 414 [pt gr],kT gr (zU (s.ps.drop i))]) (λi=>i≤s.ps.length) (λi=>s.ps.length - i) 0 aD (by rw[aCh];exact aA) (aAh _) ?_
 intro i F hi;by_cases hlt:i<s.ps.length
 ·have hj:=hg.ch _ (aCs hlt);have e1:zU (s.ps.drop i)=NM s.ps[i]++zU (s.ps.drop (i+1)):=by rw[aAm hlt];rfl
  have hcb2:=AX (l:=s.ps.drop (i+1)) λp hp=>hg.ch p (aDw hp);rw[aBd] at hcb2;have hl:=DO hg hlt;have hgl:=hg.part (i+1) hlt;have sch:=λE'=>WG E' gr ⟨s.r,((i+1:Nat):Int)⟩ s.ps[i] hj (zU (s.ps.drop (i+1))) o_;have rep:=λE'=>qR E' (P++Q) gs (part s i);have ld:=λE' A m c hr hm=>XS E' (P++Q) gs (part s i) i (s.ps[i]'hlt).made A m c (s.ps[i]'hlt).l hr hm hj.1.sE;have er:(part s i).r=s.r:=rfl;have hl1:=hj.1.len;have hl2:=hj.1.nK;have hw:IntKind.i64.wrap ((i:Int)+1)=((i+1:Nat):Int):=by rw[aAq _ o_];rfl
  rw[er] at rep ld;rw[hl] at ld;rw[e1];generalize s.ps[i]=p at *;dsimp only[bJ.cs] at sch ld;repeat first|refine v_ ?_|intro
  refine rB (l_ [0,1,2,4,5] (g_ 3 (n_ 6 (g_ 7 (g_ 8 (g_ 9 .nil)))))) ([aJ g6 414 [pt gr]]) ?_;repeat first|refine v_ ?_|intro
  refine eJ rep ?_;repeat first|refine v_ ?_|intro
  refine iO sch ?_;rintro e H' ⟨A3,c3,hc3,rfl,rfl⟩;repeat first|refine v_ ?_|intro
  refine Ib (λ(E':Env) h1=>ld E' A3 p.l.length c3 h1 (by omega) hgl) ?_;repeat first|refine v_ ?_|intro
  refine cg rfl sD bA sK aC (λE' hE=>BK E' _ (by rfl)) ?_;rintro e H' ⟨rfl,rfl⟩;repeat first|refine v_ ?_|intro
  exact⟨i+1,aD,aA,hlt,by omega⟩
 ·obtain rfl:i=s.ps.length:=by omega
  rw[Nm,aCy,show zU []=[] from rfl];have rep:=λE'=>qR E' (P++Q) gs s;have put:=λE'=>SV E' (P++Q) gs s;have hd:decide (fJ s=fJ s)=true:=decide_eq_true rfl;have hrr:decide (s.r=s.r)=true:=decide_eq_true rfl;clear e0;generalize fJ s=x at *;repeat first|refine v_ ?_|intro
  refine rB (l_ [0,1] (g_ 2 (l_ [3,4,6] (g_ 5 (l_ [7,8,9,10,13,14] (g_ 11 (l_ [12,15,16] (g_ 17 .nil)))))))) ([aJ g6 414 [pt gr]]) ?_;repeat first|refine v_ ?_|intro
  refine eJ (λ(E':Env)=>Xn E' gr []) ?_;repeat first|refine v_ ?_|intro
  refine eJ rep ?_;repeat first|refine v_ ?_|intro
  refine iO put ?_;rintro e H' ⟨A4,n4,c4,⟨q1,q2,q3⟩,rfl,rfl⟩;refine gd bG aA ?_;refine Dr.more (Hk':=_) aA aB.refl ?_;repeat first|refine v_ ?_|intro
  refine eJ (λ(E':Env)=>BK E' _ hd) ?_;repeat first|refine v_ ?_|intro
  exact jQ ⟨Q,gs,rfl,rfl⟩
end
instance:Bg 50 [.pointer none]:=⟨by kernel_rfl⟩
instance:Bg 27 [.int .i64 0]:=⟨by kernel_rfl⟩
section
variable {P:Program} {N:Nat} {E:Env} {F:Nat→Value} {H H' R R2:List aL}
theorem sM{t:TypeId}{a:Addr}{v:Value}{d:TypeDesc}{u:World}(ht:P.underlying t=some d)(hd:lT d=false)(hc:u.cell? a=some v):(loadVar t a).run P u=.ok v u:=by
 cases d<;>simp[lT] at hd<;>simp[loadVar,isAgg,run_underlying ht,hc]
theorem XN{fn:Func}{Q:Ending→List aL→Prop}{t g u g2:Nat}{ty bt ty2 bt2:TypeId}{v v2:Value}{d d2:TypeDesc}(hr:fn.results=#[.cell t ty,.cell u ty2])(hv:F t=.pointer (some ⟨g,0,none⟩))(hv2:F u=.pointer (some ⟨g2,0,none⟩))(ht:P.underlying ty=some d)(hd:lT d=false)(hb:Has (aJ g bt [v]) H R)
  (ht2:P.underlying ty2=some d2) (hd2:lT d2=false) (hb2:Has (aJ g2 bt2 [v2]) H R2)
  (hc:aB E H H') (h:Q (.returned (.tuple #[v,v2])) H'):gF P E fn Q .ret F H:=by
 refine⟨.tuple #[v,v2],H',λw hw=>?_,hc,h⟩;have h1:=sM (P:=P) ht hd (Cell.aJ (E:=E) hb (i:=0) rfl w hw);have h2:=sM (P:=P) ht2 hd2 (Cell.aJ (E:=E) hb2 (i:=0) rfl w hw);simp[yC,hr,hv,hv2,asAddr,h1,h2]
end
section
variable (E:Env)
theorem Lt(g2 g4:Nat):N4 prog E 280 #[.pointer (some ⟨g2,0,none⟩),.pointer (some ⟨g4,0,none⟩)] .returning [] (λe u' H'=>u'=.returning∧e=.returned (.tuple #[])∧H'=[]):=by
 refine Ur func280 rfl ntmps280 (by simp) sD sD ?_;repeat first|refine v_ ?_|intro
 refine L.val (v:=.bool false) sD (λ_ _=>by kernel_rfl) ?_;repeat first|refine v_ ?_|intro
 exact e3_
theorem Z6(P:List Ov)(s:Sv)(hg:Gd s)(B:Option Addr)(n c:Nat)(hr:Rd E aU B n c (fJ s)):G E 226 [.int .i64 s.r,.slice B n c] [aI P] λe H'=>∃Q g,e=.returned (.tuple #[pt g,.int .i64 0])∧H'=[dI (P++Q) g s,aI (P++Q)]:=by
 have hr2:∀ds,Rd (E.jU ds) aU B n c (fJ s):=λ_=>hr;refine Xb func226 rfl ntmps226 (by simp) λhds=>?_;refine WJ.yR ?_;repeat first|refine v_ ?_|intro
 rename_i g4 g5;refine WJ.Zd ?_;refine xD.YV sD I7 ?_;refine xD.defer rfl ?_;rw[hds];refine xD.nil ?_;refine WJ.l7 ?_;repeat first|refine v_ ?_|intro
 refine cl sD sK aC (λE' hE=>YB E' P s hg B n c ((hr2 _).sub hE)) ?_;rintro e H' ⟨Q,gs,rfl,rfl⟩;repeat first|refine v_ ?_|intro
 refine Lv.one (by simp) ⟨_,func280,by kernel_rfl,rfl⟩ (Hp:=[]) .nil (λE' hE=>Lt E' _ _) ?_;rintro e u' H' ⟨rfl,rfl,rfl⟩;refine⟨⟨_,rfl⟩,rfl,?_⟩;simp only[aBq];exact XN (H':=[dI (P++Q) gs s,aI (P++Q)]) rfl aF aF rfl rfl aS rfl rfl aS aA ⟨Q,gs,rfl,rfl⟩
end
end Go.Proofs.YtmilalkjbojciaaGreat.Sep
namespace Go.Proofs.YtmilalkjbojciaaGreat.Sep
open Go.RowKit Reg
open Mem hiding Rd
instance:cL 191 [.pointer none,.pointer none] [(0,1),(1,1)]:=⟨⟨by kernel_rfl,by kernel_rfl⟩⟩
instance:cL 181 [.pointer none,.int .i64 0,.int .i64 0,.int .i64 0,.int .i64 0,.int .i64 0,.int .i64 0,.pointer none] [(0,1),(1,5),(6,1),(7,1)]:=⟨⟨by kernel_rfl,by kernel_rfl⟩⟩
structure Nh where
 gm:Nat
 gl:Nat
 gs:Nat
 gd:Nat
abbrev ET(cf:fU)(r:Int)(m:Value)(gd:Nat):List Value:=[m,.int .i64 cf.bN,.int .i64 cf.eF,.int .i64 cf.dC,.int .i64 cf.base,.int .i64 cf.cap,.int .i64 r,pt gd]
abbrev fV(P:List Ov)(g:Nat)(cf:fU)(n:Nd)(k:Int)(x:Nh):List aL:=[aJ g 181 (ET cf n.r (pt x.gm) x.gd),aJ x.gm 191 [pt x.gl,pt x.gs],iB x.gl x.gd n.ls k,dI P x.gs n.s]
abbrev oT(g:Nat)(cf:fU)(n:Nd)(k:Int)(x:Nh):List aL:=[aJ g 181 (ET cf n.r (.pointer none) x.gd),kJ x.gd n.ls k]
def O4(P:List Ov)(g:Nat)(cf:fU)(n:Nd)(k:Int)(x:Nh):List aL:=match n.up with
 |true=>fV P g cf n k x
 |false=>oT g cf n k x
def bZ(P:List Ov)(g:Nat)(cf:fU)(n:Nd)(k:Int):aL:=nI (λ_:Nh=>n.ok) (O4 P g cf n k)
theorem bZ.up{P:List Ov}{g:Nat}{cf:fU}{n:Nd}{k:Int}{x:Nh}(h:n.ok)(hu:n.up=true):cA (fV P g cf n k x) [bZ P g cf n k]:=by
 have:=cA.fp (X:=Nh) (p:=λ_:Nh=>n.ok) (l:=O4 P g cf n k) (x:=x) h;unfold O4 at this;rw[hu] at this;have e:(nI (λ_:Nh=>n.ok) λx=>match true with|true=>fV P g cf n k x|false=>oT g cf n k x)=bZ P g cf n k:=by unfold bZ;congr 1;funext y;unfold O4;rw[hu]
 rw[e] at this;exact this
theorem bZ.dn{P:List Ov}{g:Nat}{cf:fU}{n:Nd}{k:Int}{x:Nh}(h:n.ok)(hu:n.up=false):cA (oT g cf n k x) [bZ P g cf n k]:=by
 have:=cA.fp (X:=Nh) (p:=λ_:Nh=>n.ok) (l:=O4 P g cf n k) (x:=x) h;unfold O4 at this;rw[hu] at this;have e:(nI (λ_:Nh=>n.ok) λx=>match false with|true=>fV P g cf n k x|false=>oT g cf n k x)=bZ P g cf n k:=by unfold bZ;congr 1;funext y;unfold O4;rw[hu]
 rw[e] at this;exact this
theorem oG{E:Env}{f:FuncId}{args:Array Value}{P:List Ov}{g:Nat}{cf:fU}{n:Nd}{k:Int}{R:List aL}{Q:Ending→List aL→Prop}(h1:∀x,n.ok→n.up=true→aK prog E f args (fV P g cf n k x++R) Q)(h2:∀x,n.ok→n.up=false→aK prog E f args (oT g cf n k x++R) Q):aK prog E f args (bZ P g cf n k::R) Q:=by
 refine aK.fp Has.aN λx hx=>?_;unfold O4;cases hu:n.up with
 |true=>exact h1 x hx hu
 |false=>exact h2 x hx hu
theorem fV.mono{P Q:List Ov}{g:Nat}{cf:fU}{n:Nd}{k k':Int}{x:Nh}(h:k≤k'):cA (fV P g cf n k x) (fV (P++Q) g cf n k' x):=cA.cons cA.refl (cA.cons cA.refl (cA.cons (iB.mono h) dI.mono))
theorem bZ.mono{P Q:List Ov}{g:Nat}{cf:fU}{n:Nd}{k k':Int}(h:k≤k'):cA [bZ P g cf n k] [bZ (P++Q) g cf n k']:=λF w hs=>by
 obtain⟨F1,F2,h1,h2,⟨x,G1,G2,g1,g2,g3,g4⟩,h4⟩:=hs;unfold O4 at g4;cases hu:n.up with
 |true =>
  rw[hu] at g4;obtain⟨F',k1,k2⟩:=(fV.mono (Q:=Q) h).trans (bZ.up g3.1 hu) G2 w g4;exact⟨F',k1,λb hb=>(h1 b).2 (.inl ((g1 b).2 (.inr (k2 b hb))))⟩
 |false =>
  rw[hu] at g4;obtain⟨F',k1,k2⟩:=(cA.cons cA.refl (kJ.mono h)).trans (bZ.dn (P:=P++Q) g3.1 hu) G2 w g4;exact⟨F',k1,λb hb=>(h1 b).2 (.inl ((g1 b).2 (.inr (k2 b hb))))⟩
section
variable (E:Env) (P:List Ov) (g:Nat) (cf:fU) (n:Nd) (k:Int)
theorem qL(r:Int)(m gd:Nat)(hb:gE E g (ET cf r (pt m) gd)):G E 69 [pt g] [] (cM (.bool true) []):=by
 refine t_ func69 ntmps69 ?_;repeat first|refine v_ ?_|intro
 exact e1_
theorem Ae(r:Int)(gd:Nat)(hb:gE E g (ET cf r (.pointer none) gd)):G E 69 [pt g] [] (cM (.bool false) []):=by
 refine t_ func69 ntmps69 ?_;repeat first|refine v_ ?_|intro
 exact e1_
theorem TI:G E 69 [pt g] [bZ P g cf n k] (cM (.bool n.up) [bZ P g cf n k]):=by
 refine oG (λx ho hu=>?_) (λx ho hu=>?_)
 ·rw[aAc,hu];refine aK.post (aK.read λE' hE=>qL E' g cf n.r x.gm x.gd (gE.of hE Has.aN)) ?_;rintro e H' ⟨H1,⟨rfl,rfl⟩,rfl⟩;exact⟨_,aB.cF (bZ.up ho hu),rfl,rfl⟩
 ·rw[aAc,hu];refine aK.post (aK.read λE' hE=>Ae E' g cf n.r x.gd (gE.of hE Has.aN)) ?_;rintro e H' ⟨H1,⟨rfl,rfl⟩,rfl⟩;exact⟨_,aB.cF (bZ.dn ho hu),rfl,rfl⟩
end
end Go.Proofs.YtmilalkjbojciaaGreat.Sep
namespace Go.Proofs.YtmilalkjbojciaaGreat.Sep
open Go.RowKit Reg Oct
open Mem hiding Rd
def Lc.upto(r:Int)(z:Lc)(i:Nat):Sv:=match z.base with
 |none=>F9 (Qb r) (z.l.take i)
 |some s=>if i=0 then Qb r else F9 s (z.l.take (i - 1))
theorem EF{s:Sv}{l:List Rc}{i:Nat}{x:Rc}(h:l[i]?=some x):F9 s (l.take (i+1))=((F9 s (l.take i)).doc x).1:=iX h
section
variable (E:Env)
theorem SI(P:List Ov)(r:Int)(z:LS)(lc:Lc)(hl:lc.ok r)(hb:lc.bs=z.bF)(gl gd:Nat)(k:Int):G E 168 [.int .i64 r,pt gl] [iB gl gd z k,aI P] λe H'=>∃Q gs,e=.returned (pt gs)∧H'=[iB gl gd z k,dI (P++Q) gs (lc.sv r),aI (P++Q)]:=by
 have hmax:=fX;have hrep:=hl.rep;have new:=λE'=>Xt E' P r;rw[show dF r 0 3=r by unfold dF;rw[if_neg o_,if_neg o_]] at new;refine t_ func168 ntmps168 ?_;repeat first|refine v_ ?_|intro
 refine bW new ?_;rintro e H' ⟨gs0,rfl,rfl⟩;repeat first|refine v_ ?_|intro
 refine bW (λ(E':Env)=>QM E' gl gd z k) ?_;rintro e H' ⟨O,oc,xs,hxs,hxw,hxl,rfl,rfl⟩;refine gk bG ?_;have hxn:xs.length=z.bF.length:=by rw[←hxs,aAw]
 have hlm:z.bF.length≤maxLen:=by omega
 repeat first|refine v_ ?_|intro
 refine C.scan (Y:=Nat×List Ov) (l:=xs) hxn.symm (λi y=>[(0,.int .i64 r),(5,pt y.1),(13,.slice O z.bF.length oc),(14,.int .i64 z.bF.length),(15,.int .i64 i)])
  (λi y=>[dI (P++y.2) y.1 (lc.upto r i),aI (P++y.2),own vQ O z.bF.length oc xs,aO uL xs,iB gl gd z k]) (λ_ _=>True) (gs0,[]) aD (by dsimp only;rw[aAc,show lc.upto r 0=⟨Hb,[],r⟩ by unfold Lc.upto;split;rfl;rfl];exact aA) trivial ?_ ?_
 ·rintro i ⟨gs,Q⟩ y F hi hy -;dsimp only;have hyw:=hxw y (aAi hy);have hyb:lc.bs[i]?=some y.b:=by rw[hb,←hxs,aBf,hy];rfl
  refine C.conv (aB.out (f:=uL) (l:=xs) aS hy) ?_;cases hbase:lc.base with
  |none =>
   obtain⟨A,m,c,b⟩:=y;dsimp only at hyw hyb;obtain⟨hm,hbl⟩:=hyw;subst hm;have hyl:(lc.l.map Rc.b)[i]?=some b:=by have:=hyb;unfold Lc.bs at this;rw[hbase] at this;exact this
   rw[aBf] at hyl;obtain⟨x,hx,rfl⟩:∃x,lc.l[i]?=some x∧x.b=b:=by
    cases h:lc.l[i]? with
    |none=>rw[h] at hyl;cases hyl
    |some x=>rw[h] at hyl;exact⟨x,rfl,aDk hyl⟩
   obtain⟨xm,xo⟩:=hl.l x (aAi hx);have hkg:=Km xm xo;have hst:lc.upto r (i+1)=((lc.upto r i).doc x).1:=by unfold Lc.upto;rw[hbase];exact EF hx
   generalize lc.upto r i=sO at *;have law:=λE'=>Sz E' (P++Q) gs sO x xo;obtain⟨hb1,hb2,hb3⟩:=x.xW;obtain⟨b0,hb0⟩:∃b0,x.b[0]?=some b0:=⟨_,aAa hb1⟩
   have h5:decide ((b0.toNat:Int)=5)=false:=decide_eq_false λh=>hb3 (by rw[hb0];congr 1;exact aEg.1 (show b0.toNat=5 by omega));by_cases hi0:i=0
   ·subst hi0;repeat first|refine v_ ?_|intro
    refine dX (λ(E':Env) h1=>AD E' A x.b.length c x.b h1 (by omega)) ?_;rw[hkg];rintro e H' ⟨rfl,rfl⟩;rw[aBe];repeat first|refine v_ ?_|intro
    refine bW law ?_;rintro e H' ⟨Q2,rfl,rfl⟩;repeat first|refine v_ ?_|intro
    exact⟨(gs,Q++Q2),aD,(by dsimp only;rw[hst,←aAb];exact aB.trans (aB.BH (f:=uL) (l':=xs) aC (oU hy)) aA),trivial⟩
   ·have hid:decide ((i:Int)=0)=false:=decide_eq_false o_;repeat first|refine v_ ?_|intro
    refine dX (λ(E':Env) h1=>AD E' A x.b.length c x.b h1 (by omega)) ?_;rw[hkg];rintro e H' ⟨rfl,rfl⟩;rw[aBe];repeat first|refine v_ ?_|intro
    refine bW law ?_;rintro e H' ⟨Q2,rfl,rfl⟩;repeat first|refine v_ ?_|intro
    exact⟨(gs,Q++Q2),aD,(by dsimp only;rw[hst,←aAb];exact aB.trans (aB.BH (f:=uL) (l':=xs) aC (oU hy)) aA),trivial⟩
  |some s0 =>
   obtain⟨hg0,hr0⟩:=hl.base s0 hbase;by_cases hi0:i=0
   ·subst hi0;obtain⟨hm,hbl⟩:=hyw;have hyl:y.b=5::fJ s0:=by have:=hyb;unfold Lc.bs at this;rw[hbase] at this;exact(aDk this).symm
    have hst:lc.upto r (0+1)=s0:=by unfold Lc.upto;rw[hbase];rfl
    have h50:y.b[0]?=some (5:UInt8):=by rw[hyl];rfl
    have hy1:1≤y.n:=by rw[hm,hyl];simp
    have get:∀E',Rd E' aU y.A y.n y.c y.b→_:=λE' hr=>Z6 E' (P++Q) s0 hg0 (if y.c=1 then y.A else y.A.map (·.add (1*aU.size))) (y.n - 1) (y.c - 1) (by have:=hr.from_ (k:=1) hy1;rw[hyl] at this;exact this);rw[hr0] at get;repeat first|refine v_ ?_|intro
    refine dX get ?_;rintro e H' ⟨Q2,gs2,rfl,rfl⟩;repeat first|refine v_ ?_|intro
    exact⟨(gs2,Q++Q2),aD,(by dsimp only;rw[hst,←aAb];exact aB.trans (aB.BH (f:=uL) (l':=xs) aC (oU hy)) aA),trivial⟩
   ·obtain⟨A,m,c,b⟩:=y;dsimp only at hyw hyb;obtain⟨hm,hbl⟩:=hyw;subst hm;have hid:decide ((i:Int)=0)=false:=decide_eq_false o_;have hyl:(lc.l.map Rc.b)[i - 1]?=some b:=by
     have:=hyb;unfold Lc.bs Gb at this;rw[hbase] at this;obtain⟨j,rfl⟩:∃j,i=j+1:=⟨i - 1,by omega⟩
     exact this
    rw[aBf] at hyl;obtain⟨x,hx,rfl⟩:∃x,lc.l[i - 1]?=some x∧x.b=b:=by
     cases h:lc.l[i - 1]? with
     |none=>rw[h] at hyl;cases hyl
     |some x=>rw[h] at hyl;exact⟨x,rfl,aDk hyl⟩
    obtain⟨xm,xo⟩:=hl.l x (aAi hx);have hkg:=Km xm xo;have hst:lc.upto r (i+1)=((lc.upto r i).doc x).1:=by
     unfold Lc.upto;rw[hbase];dsimp only;rw[if_neg o_,if_neg hi0,show i+1 - 1=(i - 1)+1 by omega];exact EF hx
    generalize lc.upto r i=sO at *;have law:=λE'=>Sz E' (P++Q) gs sO x xo;obtain⟨hb1,hb2,hb3⟩:=x.xW;repeat first|refine v_ ?_|intro
    refine dX (λ(E':Env) h1=>AD E' A x.b.length c x.b h1 (by omega)) ?_;rw[hkg];rintro e H' ⟨rfl,rfl⟩;rw[aBe];repeat first|refine v_ ?_|intro
    refine bW law ?_;rintro e H' ⟨Q2,rfl,rfl⟩;repeat first|refine v_ ?_|intro
    exact⟨(gs,Q++Q2),aD,(by dsimp only;rw[hst,←aAb];exact aB.trans (aB.BH (f:=uL) (l':=xs) aC (oU hy)) aA),trivial⟩
 ·rintro⟨gs,Q⟩ F -;dsimp only;have hlast:lc.upto r z.bF.length=lc.sv r:=by
   rw[←hb];unfold Lc.upto Lc.sv Lc.bs Gb;cases hbase:lc.base with
   |none=>dsimp only;rw[aAj (by simp)];rfl
   |some s0=>dsimp only;rw[if_neg (by simp),aAj (by simp)];rfl
  rw[hlast];repeat first|refine v_ ?_|intro
  exact jQ ⟨Q,gs,rfl,rfl⟩
end
abbrev ZG(P:List Ov)(gm gl gs gd:Nat)(z:LS)(k:Int)(s:Sv):List aL:=[aJ gm 191 [pt gl,pt gs],iB gl gd z k,dI P gs s]
section
variable (E:Env) (P:List Ov) (g:Nat) (cf:fU) (n:Nd) (k:Int)
theorem J8(r:Int)(z:LS)(lc:Lc)(gd:Nat)(hd:z.dead=false)(ha:z.aG = -1)(hk:k≤10000000000000)(hl:lc.ok r)(hb:lc.bs=(LS.open z.N z.D (-1)).bF):G E 107 [.int .i64 r,pt gd] [kJ gd z k,aI P] λe H'=>∃Q gm gl gs,e=.returned (pt gm)∧H'=ZG (P++Q) gm gl gs gd (LS.open z.N z.D (-1)) (k+2048) (lc.sv r)++[aI (P++Q)]:=by
 have pG:=λE'=>Xy E' gd z k hd ha hk;have rcl:=λE' gl=>SI E' P r (LS.open z.N z.D (-1)) lc hl hb gl gd (k+2048);generalize LS.open z.N z.D (-1)=z2 at *;refine t_ func107 ntmps107 ?_;repeat first|refine v_ ?_|intro
 refine bW pG ?_;rintro e H' ⟨gl,rfl,rfl⟩;repeat first|refine v_ ?_|intro
 refine bW (λ(E':Env)=>rcl E' gl) ?_;rintro e H' ⟨Q,gs,rfl,rfl⟩;repeat first|refine v_ ?_|intro
 rename_i gm;exact jQ ⟨Q,gm,gl,gs,rfl,rfl⟩
theorem wW:G E 70 [pt g] [bZ P g cf n k] λe H'=>if n.up then ∃g2,e=.returned (pt g2)∧H'=[dI P g2 n.s,bZ P g cf n k] else e=.returned (.pointer none)∧H'=[bZ P g cf n k]:=by
 refine oG (λx ho hu=>?_) (λx ho hu=>?_)
 ·rw[aAc];simp only[hu,if_true];have cln:=λE'=>Ij E' P x.gs n.s;refine t_ func70 ntmps70 ?_;repeat first|refine v_ ?_|intro
  refine eV (λ(E':Env)=>qL E' g cf n.r x.gm x.gd) ?_;repeat first|refine v_ ?_|intro
  refine bW cln ?_;rintro e H' ⟨g2,rfl,rfl⟩;repeat first|refine v_ ?_|intro
  exact aR (H':=[dI P g2 n.s,bZ P g cf n k]) rfl aF (aB.trans (aB.aV (l:=[dI P g2 n.s]++fV P g cf n k x) aC) (aB.cF (cA.cons cA.refl (bZ.up ho hu)))) ⟨g2,rfl,rfl⟩
 ·rw[aAc];simp only[hu,aCb,if_false];refine t_ func70 ntmps70 ?_;repeat first|refine v_ ?_|intro
  refine eV (λ(E':Env)=>Ae E' g cf n.r x.gd) ?_;repeat first|refine v_ ?_|intro
  exact aR (H':=[bZ P g cf n k]) rfl aF (aB.trans (aB.aV (l:=oT g cf n k x) aC) (aB.cF (bZ.dn ho hu))) ⟨rfl,rfl⟩
theorem DN(x:Nh):G E 128 [pt g] (fV P g cf n k x) (cM (.bool true) (oT g cf n k x)):=by
 refine t_ func128 ntmps128 ?_;repeat first|refine v_ ?_|intro
 refine eV (λ(E':Env)=>qL E' g cf n.r x.gm x.gd) ?_;repeat first|refine v_ ?_|intro
 exact aR (H':=oT g cf n k x) rfl aF (aB.trans (aB.aV (l:=[iB x.gl x.gd n.ls k,aJ g 181 (ET cf n.r (.pointer none) x.gd)]) aC) (aB.trans (aB.cF iB.down) aA)) ⟨rfl,rfl⟩
theorem UM:G E 128 [pt g] [bZ P g cf n k] (cM (.bool n.up) [bZ P g cf (if n.up then n.CA else n) k]):=by
 refine oG (λx ho hu=>?_) (λx ho hu=>?_)
 ·rw[aAc,hu,if_pos rfl];refine aK.post (DN E P g cf n k x) ?_;rintro e H' ⟨rfl,rfl⟩;exact⟨_,aB.cF (bZ.dn (n:=n.CA) ho.CA rfl),rfl,rfl⟩
 ·rw[aAc,hu,if_neg sD];refine t_ func128 ntmps128 ?_;repeat first|refine v_ ?_|intro
  refine eV (λ(E':Env)=>Ae E' g cf n.r x.gd) ?_;repeat first|refine v_ ?_|intro
  exact aR (H':=[bZ P g cf n k]) rfl aF (aB.trans (aB.aV (l:=oT g cf n k x) aC) (aB.cF (bZ.dn ho hu))) ⟨rfl,rfl⟩
theorem tZ(e0:Int)(h:e0≠19):G E 111 [pt g,.int .i64 e0] [] (cM (.int .i64 e0) []):=by
 refine t_ func111 ntmps111 ?_;repeat first|refine v_ ?_|intro
 exact e1_
theorem Gk(x:Nh):G E 111 [pt g,.int .i64 19] (fV P g cf n k x) (cM (.int .i64 19) (oT g cf n k x)):=by
 refine t_ func111 ntmps111 ?_;repeat first|refine v_ ?_|intro
 refine bK (λ(E':Env)=>DN E' P g cf n k x) ?_;repeat first|refine v_ ?_|intro
 exact e1_
theorem KU(hk:k≤10000000000000):G E 54 [pt g] [bZ P g cf n k] (cM (.int .i64 n.sync.2) [bZ P g cf n.sync.1 (k+2048)]):=by
 refine oG (λx ho hu=>?_) (λx ho hu=>?_)
 ·rw[aAc];have hok:=ho.sync;obtain⟨i1,i2⟩:=ho.inv hu;have hcode:=My i2;unfold Nd.sync at hok⊢;rw[if_pos hu] at hok⊢;have syn:=λE'=>async E' x.gl x.gd n.ls k hk;generalize n.ls.sync=res at *;obtain⟨cd,z2⟩:=res;dsimp only at hcode hok syn⊢;rcases hcode with rfl|rfl
  ·rw[if_pos rfl] at hok⊢;refine t_ func54 ntmps54 ?_;repeat first|refine v_ ?_|intro
   refine eV (λ(E':Env)=>qL E' g cf n.r x.gm x.gd) ?_;repeat first|refine v_ ?_|intro
   refine bK syn ?_;repeat first|refine v_ ?_|intro
   refine bK (λ(E':Env)=>tZ E' g 0 (by decide)) ?_;repeat first|refine v_ ?_|intro
   exact aR rfl aF (aB.trans (aB.aV (l:=fV P g cf ⟨n.r,z2,true,n.lc,n.s⟩ (k+2048) x) aC) (aB.cF (bZ.up hok rfl))) ⟨rfl,rfl⟩
  ·rw[if_neg sD] at hok⊢;have dd:=λE'=>Gk E' P g cf ⟨n.r,z2,false,n.lc,n.s⟩ (k+2048) x;refine t_ func54 ntmps54 ?_;repeat first|refine v_ ?_|intro
   refine eV (λ(E':Env)=>qL E' g cf n.r x.gm x.gd) ?_;repeat first|refine v_ ?_|intro
   refine bK syn ?_;repeat first|refine v_ ?_|intro
   refine bK dd ?_;repeat first|refine v_ ?_|intro
   exact aR rfl aF (aB.trans (aB.aV (l:=oT g cf ⟨n.r,z2,false,n.lc,n.s⟩ (k+2048) x) aC) (aB.cF (bZ.dn hok rfl))) ⟨rfl,rfl⟩
 ·rw[aAc];unfold Nd.sync;rw[if_neg (by rw[hu];decide)];refine t_ func54 ntmps54 ?_;repeat first|refine v_ ?_|intro
  refine eV (λ(E':Env)=>Ae E' g cf n.r x.gd) ?_;repeat first|refine v_ ?_|intro
  exact aR rfl aF (aB.trans (aB.aV (l:=oT g cf n k x) aC) (aB.cF ((cA.cons cA.refl (kJ.mono o_)).trans (bZ.dn ho hu)))) ⟨rfl,rfl⟩
end
section
variable (E:Env) (P:List Ov) (g:Nat) (cf:fU) (n:Nd) (k:Int)
theorem Nd.ok.Zw{n:Nd}(h:n.ok):(vG n.r n.qO).ok n.r∧(vG n.r n.qO).bs=(LS.open n.ls.N n.ls.D (-1)).bF:=Dl h.qO
theorem TH(hk:k≤10000000000000):G E 71 [pt g] [bZ P g cf n k,aI P] λe H'=>∃Q g2,e=.returned (pt g2)∧H'=[dI (P++Q) g2 n.stored,bZ (P++Q) g cf n k,aI (P++Q)]:=by
 refine oG (λx ho hu=>?_) (λx ho hu=>?_)
 ·obtain⟨z1,z2⟩:=ho.Zw;have pG:=λE' g'=>J8 E' P k n.r n.ls.oD (vG n.r n.qO) g' rfl rfl hk z1 z2;simp only[show LS.open n.ls.oD.N n.ls.oD.D (-1)=LS.open n.ls.N n.ls.D (-1) from rfl] at pG;generalize LS.open n.ls.N n.ls.D (-1)=zz at pG;have hs:(vG n.r n.qO).sv n.r=n.stored:=rfl;rw[hs] at pG;dsimp only[fV,oT,List.cons_append,List.nil_append];refine t_ func71 ntmps71 ?_;repeat first|refine v_ ?_|intro
  refine bW (λ(E':Env)=>NF E' x.gl x.gd n.ls k) ?_;rintro e H' ⟨g',rfl,rfl⟩;repeat first|refine v_ ?_|intro
  refine bK (λ(E':Env)=>EL E' g' n.ls k) ?_;repeat first|refine v_ ?_|intro
  refine bW (λ(E':Env)=>pG E' g') ?_;rintro e H' ⟨Q,gm,gl,gs,rfl,rfl⟩;repeat first|refine v_ ?_|intro
  exact aR (H':=[dI (P++Q) gs n.stored,bZ (P++Q) g cf n k,aI (P++Q)]) rfl aF (aB.trans (aB.aV (l:=[dI (P++Q) gs n.stored]++(fV P g cf n k x++[aI (P++Q)])) aC) (aB.cF (cA.cons cA.refl (cA.append ((fV.mono (aCd k)).trans (bZ.up ho hu)) cA.refl)))) ⟨Q,gs,rfl,rfl⟩
 ·obtain⟨z1,z2⟩:=ho.Zw;have pG:=λE' g'=>J8 E' P k n.r n.ls.oD (vG n.r n.qO) g' rfl rfl hk z1 z2;simp only[show LS.open n.ls.oD.N n.ls.oD.D (-1)=LS.open n.ls.N n.ls.D (-1) from rfl] at pG;generalize LS.open n.ls.N n.ls.D (-1)=zz at pG;have hs:(vG n.r n.qO).sv n.r=n.stored:=rfl;rw[hs] at pG;dsimp only[fV,oT,List.cons_append,List.nil_append];refine t_ func71 ntmps71 ?_;repeat first|refine v_ ?_|intro
  refine bW (λ(E':Env)=>Vm E' x.gd n.ls k) ?_;rintro e H' ⟨g',rfl,rfl⟩;repeat first|refine v_ ?_|intro
  refine bK (λ(E':Env)=>EL E' g' n.ls k) ?_;repeat first|refine v_ ?_|intro
  refine bW (λ(E':Env)=>pG E' g') ?_;rintro e H' ⟨Q,gm,gl,gs,rfl,rfl⟩;repeat first|refine v_ ?_|intro
  exact aR (H':=[dI (P++Q) gs n.stored,bZ (P++Q) g cf n k,aI (P++Q)]) rfl aF (aB.trans (aB.aV (l:=[dI (P++Q) gs n.stored]++(oT g cf n k x++[aI (P++Q)])) aC) (aB.cF (cA.cons cA.refl (cA.append (bZ.dn ho hu) cA.refl)))) ⟨Q,gs,rfl,rfl⟩
theorem O3(hk:k≤10000000000000):G E 129 [pt g] [bZ P g cf n k,aI P] λe H'=>∃Q,e=.returned (.int .i64 n.rO.2)∧H'=[bZ (P++Q) g cf n.rO.1 (k+2048),aI (P++Q)]:=by
 refine oG (λx ho hu=>?_) (λx ho hu=>?_)
 ·unfold Nd.rO;rw[if_pos hu];dsimp only[fV,oT,List.cons_append,List.nil_append];refine t_ func129 ntmps129 ?_;repeat first|refine v_ ?_|intro
  refine eV (λ(E':Env)=>qL E' g cf n.r x.gm x.gd) ?_;repeat first|refine v_ ?_|intro
  exact aR (H':=[bZ (P++[]) g cf n (k+2048),aI (P++[])]) rfl aF (aB.trans (aB.aV (l:=fV P g cf n k x++[aI P]) aC) (aB.cF (cA.append ((fV.mono o_).trans (bZ.up ho hu)) (by rw[aAc];exact cA.refl)))) ⟨[],rfl,rfl⟩
 ·unfold Nd.rO;rw[if_neg (by rw[hu];decide)];obtain⟨z1,z2⟩:=ho.Zw;have hok:=ho.opened;have pG:=λE'=>J8 E' P k n.r n.ls.oD (vG n.r n.qO) x.gd rfl rfl hk z1 z2;unfold Nd.opened at hok⊢;simp only[show LS.open n.ls.oD.N n.ls.oD.D (-1)=LS.open n.ls.N n.ls.D (-1) from rfl] at pG;generalize LS.open n.ls.N n.ls.D (-1)=zz at pG hok⊢;have hs:(vG n.r n.qO).sv n.r=n.stored:=rfl;rw[hs] at pG;dsimp only[fV,oT,List.cons_append,List.nil_append];refine t_ func129 ntmps129 ?_;repeat first|refine v_ ?_|intro
  refine eV (λ(E':Env)=>Ae E' g cf n.r x.gd) ?_;repeat first|refine v_ ?_|intro
  refine bK (λ(E':Env)=>EL E' x.gd n.ls k) ?_;repeat first|refine v_ ?_|intro
  refine C.bL 12 (l_ [0,1,2,3,4,5,6,7,8] (g_ 9 (l_ [10,11] (g_ 12 .nil)))) ([aJ g 181 (ET cf n.r (.pointer none) x.gd)]) q_ q_ aA ?_;repeat first|refine v_ ?_|intro
  refine iO pG ?_;rintro e H' ⟨Q,gm,gl,gs,rfl,rfl⟩;repeat first|refine v_ ?_|intro
  exact aR (H':=[bZ (P++Q) g cf ⟨n.r,zz,true,vG n.r n.qO,n.stored⟩ (k+2048),aI (P++Q)]) rfl aF (aB.trans (aB.aV (l:=fV (P++Q) g cf ⟨n.r,zz,true,vG n.r n.qO,n.stored⟩ (k+2048) ⟨gm,gl,gs,x.gd⟩++[aI (P++Q)]) aC) (aB.cF (cA.append (bZ.up hok rfl) cA.refl))) ⟨Q,rfl,rfl⟩
theorem ZD(q:Int)(hq:q≤9223372036854775807):G E 131 [pt g,.int .i64 q] [bZ P g cf n k] (cM (.tuple #[]) [bZ P g cf (n.arm q) k]):=by
 refine oG (λx ho hu=>?_) (λx ho hu=>?_)
 ·rw[aAc];have hok:=ho.arm hq;have arm:=λE'=>ZI E' x.gl x.gd n.ls k q hq;unfold Nd.arm at hok⊢;rw[if_pos hu] at hok⊢;have e:n.ls.Tm q=n.ls.arm q:=rfl;rw[e] at arm;generalize n.ls.arm q=zz at *;refine t_ func131 ntmps131 ?_;repeat first|refine v_ ?_|intro
  refine eV (λ(E':Env)=>qL E' g cf n.r x.gm x.gd) ?_;repeat first|refine v_ ?_|intro
  refine bK arm ?_;repeat first|refine v_ ?_|intro
  exact gO rfl (aB.trans (aB.aV (l:=fV P g cf ⟨n.r,zz,true,n.lc,n.s⟩ k x) aC) (aB.cF (bZ.up hok rfl))) ⟨rfl,rfl⟩
 ·rw[aAc];unfold Nd.arm;rw[if_neg (by rw[hu];decide)];refine t_ func131 ntmps131 ?_;repeat first|refine v_ ?_|intro
  refine eV (λ(E':Env)=>Ae E' g cf n.r x.gd) ?_;repeat first|refine v_ ?_|intro
  exact gO rfl (aB.trans (aB.aV (l:=oT g cf n k x) aC) (aB.cF (bZ.dn ho hu))) ⟨rfl,rfl⟩
theorem HW(N:Nat)(h0:1≤N)(h1:N≤64):LS.open N (LS.new N).D (-1)=LS.new N:=by
 have h:=(CD (Inv.new h0 h1) (-1)).2.2.2;rw[Lq] at h;exact h
theorem Z2(r:Nat)(N:Nat)(hr:r≤3)(hN:cf.eF=N)(h0:1≤N)(h1:N≤64):G E 48 [.agg cf.cs.toArray,.int .i64 r] [aI P] λe H'=>∃Q g,e=.returned (pt g)∧H'=[bZ (P++Q) g cf (Nd.new r N) 2048,aI (P++Q)]:=by
 have hok:(Nd.new r N).ok:=Nd.ok.new ⟨by omega,by omega⟩ h0 h1;have nw:=λE'=>ZT E' (2*(N:Int)+1) N rfl h0 h1;have pG:=λE' g'=>J8 E' P 0 r (LS.new N) ⟨none,[]⟩ g' rfl rfl sD (Lc.E3 ⟨by omega,by omega⟩) (by show[]=(LS.open N (LS.new N).D (-1)).bF;rw[HW N h0 h1];rfl);simp only[Int.zero_add] at pG;have e:LS.open (LS.new N).N (LS.new N).D (-1)=LS.new N:=HW N h0 h1;rw[e,show Lc.sv (r:Int) ⟨none,[]⟩=Qb r from rfl] at pG;have c1:dF (r:Int) 0 3=r:=by unfold dF;rw[if_neg o_,if_neg o_]
 have c2:dF cf.eF 1 64=N:=by rw[hN];unfold dF;rw[if_neg o_,if_neg o_]
 have hw:IntKind.i64.wrap (IntKind.i64.wrap (2*(N:Int))+1)=2*(N:Int)+1:=by rw[aAq (2*(N:Int)) o_,aAq _ o_]
 unfold Nd.new at hok⊢;generalize LS.new N=zz at *;dsimp only[fU.cs];refine t_ func48 ntmps48 ?_;repeat first|refine v_ ?_|intro
 refine rA (l_ [0,1] (g_ 2 (n_ 3 (g_ 4 (n_ 5 .nil))))) ?_;repeat first|refine v_ ?_|intro
 rw[c1,c2];rename_i gc gn;refine bW nw ?_;rintro e H' ⟨g',rfl,rfl⟩;repeat first|refine v_ ?_|intro
 refine C.bL 12 (l_ [0,1,2,3,4,5,6,7,8] (g_ 9 (l_ [10,11] (g_ 12 .nil)))) ([aJ gn 181 (ET cf r (.pointer none) g')]) q_ q_ aA ?_;repeat first|refine v_ ?_|intro
 refine iO (λ(E':Env)=>pG E' g') ?_;rintro e H' ⟨Q,gm,gl,gs,rfl,rfl⟩;repeat first|refine v_ ?_|intro
 exact aR (H':=[bZ (P++Q) gn cf ⟨r,zz,true,⟨none,[]⟩,Qb r⟩ 2048,aI (P++Q)]) rfl aF (aB.trans (aB.aV (l:=fV (P++Q) gn cf ⟨r,zz,true,⟨none,[]⟩,Qb r⟩ 2048 ⟨gm,gl,gs,g'⟩++[aI (P++Q)]) aC) (aB.cF (cA.append (bZ.up hok rfl) cA.refl))) ⟨Q,gn,rfl,rfl⟩
end
theorem RA{l:List (List UInt8)}:(∀x∈l,1≤x.length)→8*l.length≤(cat l).length:=by
 induction l with
 |nil=>exact λ_=>aAf _
 |cons x l ih =>
  intro h;have h1:=ih λy hy=>h y (aBl _ hy);have h2:=h x aBo;rw[CY,aAe,Frm.bO,aAs];omega
theorem Inv.rK{s:LS}(h:Inv s):s.bF.length≤300:=by
 have h1:=RA λx hx=>(h.Ly x hx).1;have h2:=h.fit;have h3:=h.n1;rw[BD h,aAe,←h.pos,←h.cG] at h1;omega
theorem I2{s:LS}{b:List UInt8}(h:(s.append b).1≠0):(s.append b).2=s:=by
 rcases tI (s:=s) (b:=b) with e|⟨h0,_⟩
 ·exact e
 ·exact absurd h0 h
section
variable (E:Env) (P:List Ov) (g:Nat) (cf:fU) (n:Nd) (k:Int)
theorem Jf(hu:n.up=true)(x:Rc)(hx:x.ok):G E 170 [pt g,.agg x.r.cs.toArray] [bZ P g cf n k,aI P] λe H'=>∃Q,e=.returned (.int .i64 (n.write x).2)∧H'=[bZ (P++Q) g cf (n.write x).1 k,aI (P++Q)]:=by
 refine oG (λy ho _=>?_) (λy ho hd=>by rw[hu] at hd;cases hd);have hok:=ho.write hx hu;obtain⟨i1,i2⟩:=ho.inv hu;have hfew:=i1.rK;have cln:=λE'=>Ij E' P y.gs n.s;have doo:=λE' g2=>Sz E' P g2 n.s x hx;have doo2:=λE' Q=>Sz E' (P++Q) y.gs n.s x hx;have app:=λE' A c hr=>So E' y.gl y.gd n.ls k o_ A x.b.length c x.b hr;have herr:=I2 (s:=n.ls) (b:=x.b);have hmay:=Ke (s:=n.s) (x:=x);have put:=λE' hm=>W2 E' x hm;have hbl:=x.xW;unfold Nd.write at hok⊢;generalize n.s.doc x=res at *;obtain⟨s2,code⟩:=res;generalize n.ls.append x.b=ap at *;obtain⟨ca,zz⟩:=ap;dsimp only at hok doo doo2 app herr hmay⊢;generalize x.b=xb at *;generalize x.r=xr at *;dsimp only[fV,pD.cs,List.cons_append,List.nil_append] at doo doo2 put⊢;have same:∀Q:List Ov,aB E (fV P g cf n k y++[aI (P++Q)]) [bZ (P++Q) g cf n k,aI (P++Q)]:=λQ=>aB.cF (cA.append ((fV.mono (aCd k)).trans (bZ.up ho hu)) cA.refl);by_cases hc:code=0
 ·subst hc;rw[if_pos rfl] at hok⊢;have hm:=hmay rfl;by_cases ha:ca=0
  ·subst ha;rw[if_pos rfl] at hok⊢;refine t_ func170 ntmps170 ?_;repeat first|refine v_ ?_|intro
   rename_i g3;refine rB (l_ [0,1,2,3,4,5,6,8] (g_ 7 (g_ 9 (n_ 10 .nil)))) ([aJ g 181 (ET cf n.r (pt y.gm) y.gd),aJ y.gm 191 [pt y.gl,pt y.gs],aJ g3 202 _]) ?_;repeat first|refine v_ ?_|intro
   refine iO cln ?_;rintro e H' ⟨g2,rfl,rfl⟩;repeat first|refine v_ ?_|intro
   refine iO (λ(E':Env)=>doo E' g2) ?_;rintro e H' ⟨Q,rfl,rfl⟩;repeat first|refine v_ ?_|intro
   refine bW (λ(E':Env)=>put E' hm) ?_;rintro e H' ⟨A,c,rfl,rfl⟩;repeat first|refine v_ ?_|intro
   refine eV (λ(E':Env)=>app E' A c) ?_;repeat first|refine v_ ?_|intro
   refine C.conv (aB.imp (A:=[dI P y.gs n.s]) (B:=[dI (P++Q) y.gs n.s]) dI.mono aC) ?_;dsimp only[List.cons_append,List.nil_append];refine rB (l_ [0,1,2,3,4,5,6,7] (g_ 8 (n_ 9 .nil))) ([aJ g 181 (ET cf n.r (pt y.gm) y.gd),aJ y.gm 191 [pt y.gl,pt y.gs],aJ g3 202 _]) ?_;repeat first|refine v_ ?_|intro
   refine iO (λ(E':Env)=>doo2 E' Q) ?_;rintro e H' ⟨Q2,rfl,rfl⟩;repeat first|refine v_ ?_|intro
   exact aR (H':=[bZ (P++(Q++Q2)) g cf ⟨n.r,zz,n.up,⟨n.lc.base,n.lc.l++[x]⟩,s2⟩ k,aI (P++(Q++Q2))]) rfl aF (by rw[←aAb];exact aB.trans (aB.aV (l:=fV (P++Q++Q2) g cf ⟨n.r,zz,n.up,⟨n.lc.base,n.lc.l++[x]⟩,s2⟩ k y++[aI (P++Q++Q2)]) aC) (aB.cF (cA.append (bZ.up hok hu) cA.refl))) ⟨Q++Q2,rfl,rfl⟩
  ·rw[if_neg ha] at hok⊢;have hzz:=herr ha;subst hzz;refine t_ func170 ntmps170 ?_;repeat first|refine v_ ?_|intro
   rename_i g3;refine rB (l_ [0,1,2,3,4,5,6,8] (g_ 7 (g_ 9 (n_ 10 .nil)))) ([aJ g 181 (ET cf n.r (pt y.gm) y.gd),aJ y.gm 191 [pt y.gl,pt y.gs],aJ g3 202 _]) ?_;repeat first|refine v_ ?_|intro
   refine iO cln ?_;rintro e H' ⟨g2,rfl,rfl⟩;repeat first|refine v_ ?_|intro
   refine iO (λ(E':Env)=>doo E' g2) ?_;rintro e H' ⟨Q,rfl,rfl⟩;repeat first|refine v_ ?_|intro
   refine bW (λ(E':Env)=>put E' hm) ?_;rintro e H' ⟨A,c,rfl,rfl⟩;repeat first|refine v_ ?_|intro
   refine eV (λ(E':Env)=>app E' A c) ?_;repeat first|refine v_ ?_|intro
   exact aR rfl aF (aB.trans (aB.aV (l:=fV P g cf n k y++[aI (P++Q)]) aC) (same Q)) ⟨Q,rfl,rfl⟩
 ·rw[if_neg hc];refine t_ func170 ntmps170 ?_;repeat first|refine v_ ?_|intro
  rename_i g3;refine rB (l_ [0,1,2,3,4,5,6,8] (g_ 7 (g_ 9 (n_ 10 .nil)))) ([aJ g 181 (ET cf n.r (pt y.gm) y.gd),aJ y.gm 191 [pt y.gl,pt y.gs],aJ g3 202 _]) ?_;repeat first|refine v_ ?_|intro
  refine iO cln ?_;rintro e H' ⟨g2,rfl,rfl⟩;repeat first|refine v_ ?_|intro
  refine iO (λ(E':Env)=>doo E' g2) ?_;rintro e H' ⟨Q,rfl,rfl⟩;repeat first|refine v_ ?_|intro
  exact aR rfl aF (aB.trans (aB.aV (l:=fV P g cf n k y++[aI (P++Q)]) aC) (same Q)) ⟨Q,rfl,rfl⟩
end
theorem Jj{c:aX}(h:c.may=true)(hn:dQ c.n):c.ok:=by
 obtain⟨h1,h2,h3,h4,h5,h6,h7⟩:=(aX.bY c).1 h;refine⟨⟨?_,?_⟩,?_,?_,?_,?_,hn,?_,?_⟩<;>unfold dQ<;>omega
theorem Rz{s:Sv}{c:aX}(hn:dQ c.n)(h:(s.make c).2=0):(s.make c).1.ok∧(s.make c).1.may=true:=by
 unfold Sv.make at h⊢;split at h
 ·cases h
 ·rename_i h1;rw[if_neg h1];split at h
  ·rename_i h2;rw[if_pos h2];exact⟨Jj h2 hn,h2⟩
  ·cases h
def Nd.fC(n:Nd)(c:aX):Nd×aX×Int :=
 if n.up then
  (if (n.s.make c).2=0 then(if (n.write (.lI (n.s.make c).1)).2=0 then((n.write (.lI (n.s.make c).1)).1,(n.s.make c).1,0) else((n.write (.lI (n.s.make c).1)).1,dO,(n.write (.lI (n.s.make c).1)).2))
  else(n,dO,(n.s.make c).2))
 else(n,dO,19)
def Nd.AQ(n:Nd):List Rc→Nat→Nd×Nat×Int
 | [],i=>(n,i,0)
 |x::l,i=>if (n.write x).2=0 then Nd.AQ (n.write x).1 l (i+1) else((n.write x).1,i,(n.write x).2)
def Nd.take(n:Nd)(l:List Rc):Nd×Nat×Int:=if n.up then n.AQ l 0 else(n,0,19)
theorem qU(n:Nd)(x:Rc):(n.write x).1.up=n.up:=by
 unfold Nd.write;split
 ·split<;>rfl
 ·rfl
section
variable (E:Env) (P:List Ov) (g:Nat) (cf:fU) (n:Nd) (k:Int)
theorem TN(c:aX)(hc:dQ c.n):G E 109 [pt g,.agg c.cs.toArray] [bZ P g cf n k,aI P] λe H'=>∃Q,e=.returned (.tuple #[.agg (n.fC c).2.1.cs.toArray,.int .i64 (n.fC c).2.2])∧H'=[bZ (P++Q) g cf (n.fC c).1 k,aI (P++Q)]:=by
 have mono0:aB E [bZ P g cf n k,aI P] [bZ (P++[]) g cf n k,aI (P++[])]:=by rw[aAc];exact aB.refl
 refine oG (λy ho hu=>?_) (λy ho hu=>?_)
 ·have upp:∀Q:List Ov,aB E (fV P g cf n k y++[aI P]) [bZ P g cf n k,aI P]:=λQ=>aB.cF (cA.append (bZ.up ho hu) cA.refl);have mk:=λE'=>T3 E' P y.gs n.s c;have hmk:=Rz (s:=n.s) (c:=c) hc;have law:=λE' hx=>Jf E' P g cf n k hu (.lI (n.s.make c).1) hx;unfold Nd.fC;rw[if_pos hu];generalize n.s.make c=m at *;obtain⟨c2,code⟩:=m;dsimp only at hmk law mk⊢;generalize n.write (.lI c2)=w at *;obtain⟨n2,e2⟩:=w;dsimp only[fV,List.cons_append,List.nil_append,aX.cs] at mk law⊢;by_cases h0:code=0
  ·subst h0;rw[if_pos rfl];have hx:(Rc.lI c2).ok:=(hmk rfl).1;refine t_ func109 ntmps109 ?_;repeat first|refine v_ ?_|refine Dr.two ?_ ?_|intro
   refine eV (λ(E':Env)=>qL E' g cf n.r y.gm y.gd) ?_;repeat first|refine v_ ?_|refine Dr.two ?_ ?_|intro
   rename_i g3 g4;refine C.BI (X:=Unit) (λ_=>[(0,pt g),(3,pt g3),(4,pt g4),(6,.int .i64 0)]) (λ_=>[aJ g 181 (ET cf n.r (pt y.gm) y.gd),aJ y.gm 191 [pt y.gl,pt y.gs],iB y.gl y.gd n.ls k,dI P y.gs n.s,aI P,aJ g4 34 dO.cs,aJ g3 34 c2.cs]) (λ_=>True) ?_ ?_
   ·refine C.bL 12 (l_ [0,1,2,3,4,5,6,7] (g_ 8 (l_ [9,10] (.two 11 (g_ 12 (g_ 13 .nil)) 12 (g_ 11 (g_ 13 .nil)))))) ([aJ g 181 (ET cf n.r (pt y.gm) y.gd),aJ y.gm 191 [pt y.gl,pt y.gs],aJ g3 34 _]) q_ q_ aA ?_;repeat first|refine v_ ?_|refine Dr.two ?_ ?_|intro
    refine eJ mk ?_;repeat first|refine v_ ?_|intro
    refine Dr.two ?_ ?_
    ·repeat first|refine cY ?_|intro
     exact⟨(),aD,aA,trivial⟩
    ·repeat first|refine cY ?_|intro
     exact⟨(),aD,aA,trivial⟩
   rintro - F -;dsimp only[aX.cs];refine C.conv (aB.trans (aB.aV (l:=fV P g cf n k y++[aI P,aJ g4 34 dO.cs,aJ g3 34 c2.cs]) aC) (aB.cF (cA.append (bZ.up ho hu) cA.refl))) ?_;dsimp only[List.cons_append,List.nil_append,aX.cs];by_cases he:e2=0
   ·subst he;rw[if_pos rfl];repeat first|refine v_ ?_|refine Dr.two ?_ ?_|intro
    refine bK (λ(E':Env)=>qM E' c2) ?_;repeat first|refine v_ ?_|refine Dr.two ?_ ?_|intro
    refine bW (λ(E':Env)=>law E' hx) ?_;rintro e H' ⟨Q,rfl,rfl⟩;repeat first|refine v_ ?_|refine Dr.two ?_ ?_|intro
    exact gS (H':=[bZ (P++Q) g cf n2 k,aI (P++Q)]) rfl aF rfl rfl rfl aS rfl aF aA ⟨Q,rfl,rfl⟩
   ·rw[if_neg he];repeat first|refine v_ ?_|refine Dr.two ?_ ?_|intro
    refine bK (λ(E':Env)=>qM E' c2) ?_;repeat first|refine v_ ?_|refine Dr.two ?_ ?_|intro
    refine bW (λ(E':Env)=>law E' hx) ?_;rintro e H' ⟨Q,rfl,rfl⟩;repeat first|refine v_ ?_|refine Dr.two ?_ ?_|intro
    exact gS (H':=[bZ (P++Q) g cf n2 k,aI (P++Q)]) rfl aF rfl rfl rfl aS rfl aF aA ⟨Q,rfl,rfl⟩
  ·rw[if_neg h0];refine t_ func109 ntmps109 ?_;repeat first|refine v_ ?_|refine Dr.two ?_ ?_|intro
   refine eV (λ(E':Env)=>qL E' g cf n.r y.gm y.gd) ?_;repeat first|refine v_ ?_|refine Dr.two ?_ ?_|intro
   rename_i g3 g4;refine C.BI (X:=Unit) (λ_=>[(0,pt g),(3,pt g3),(4,pt g4),(6,.int .i64 code)]) (λ_=>[aJ g 181 (ET cf n.r (pt y.gm) y.gd),aJ y.gm 191 [pt y.gl,pt y.gs],iB y.gl y.gd n.ls k,dI P y.gs n.s,aI P,aJ g4 34 dO.cs,aJ g3 34 c2.cs]) (λ_=>True) ?_ ?_
   ·refine C.bL 12 (l_ [0,1,2,3,4,5,6,7] (g_ 8 (l_ [9,10] (.two 11 (g_ 12 (g_ 13 .nil)) 12 (g_ 11 (g_ 13 .nil)))))) ([aJ g 181 (ET cf n.r (pt y.gm) y.gd),aJ y.gm 191 [pt y.gl,pt y.gs],aJ g3 34 _]) q_ q_ aA ?_;repeat first|refine v_ ?_|refine Dr.two ?_ ?_|intro
    refine eJ mk ?_;repeat first|refine v_ ?_|intro
    refine Dr.two ?_ ?_
    ·repeat first|refine cY ?_|intro
     exact⟨(),aD,aA,trivial⟩
    ·repeat first|refine cY ?_|intro
     exact⟨(),aD,aA,trivial⟩
   rintro - F -;dsimp only[aX.cs];repeat first|refine v_ ?_|refine Dr.two ?_ ?_|intro
   refine gS (H':=[bZ (P++[]) g cf n k,aI (P++[])]) rfl aF rfl rfl rfl aS rfl aF (aB.trans (aB.aV (l:=fV P g cf n k y++[aI P]) aC) (aB.trans (upp []) mono0)) ⟨[],rfl,rfl⟩
 ·unfold Nd.fC;rw[if_neg (by rw[hu];decide)];dsimp only[oT,List.cons_append,List.nil_append,aX.cs];refine t_ func109 ntmps109 ?_;repeat first|refine v_ ?_|refine Dr.two ?_ ?_|intro
  refine eV (λ(E':Env)=>Ae E' g cf n.r y.gd) ?_;repeat first|refine v_ ?_|refine Dr.two ?_ ?_|intro
  refine gS (H':=[bZ (P++[]) g cf n k,aI (P++[])]) rfl aF rfl rfl rfl aS rfl aF (aB.trans (aB.aV (l:=oT g cf n k y++[aI P]) aC) (aB.trans (aB.cF (cA.append (bZ.dn ho hu) cA.refl)) mono0)) ⟨[],rfl,rfl⟩
end
end Go.Proofs.YtmilalkjbojciaaGreat.Sep
