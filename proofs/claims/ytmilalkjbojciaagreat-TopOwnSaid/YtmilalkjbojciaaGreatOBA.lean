/- Part BA: what it needs. No condition. -/
import Derived.Test.YtmilalkjbojciaaGreatOAA
import Derived.Test.YtmilalkjbojciaaGreatOAU
import Derived.Test.YtmilalkjbojciaaGreatOAZ
import Derived.Test.YtmilalkjbojciaaGreatOAV
set_option maxRecDepth 100000
set_option maxHeartbeats 8000000
open Go.Proofs.Tryz
namespace Go.Proofs.YtmilalkjbojciaaGreat.Sep
open Go.RowKit Reg
open Mem hiding Rd
theorem EC{E:Env}{H R:List aL}{g:Nat}{v:Lg}{os:List Ov}{w:World}(hw:St E H w)(hh:Has (cO g v os) H R):∃h:Lh,h.os=os∧Lf h v:=by
 obtain⟨h,_,ho,hf,_⟩:=cO.out (R:=[]) (hw.weaken (.cons hh .nil));exact⟨h,ho,hf⟩
section
variable (E:Env) (g:Nat) (s:Sv) (os:List Ov)
theorem Kc(hro:Bw E os)(hps:s.ps.length≤48):G E 261 [pt g] [aT g s os] (cM (.tuple #[]) [aT g ⟨s.v,lU s.v s.r 49 0 s.ps,s.r⟩ os]):=by
 refine jJ λa b=>?_;dsimp only[pN];refine aK.fact (p:=∃h:Lh,h.os=os∧Lf h s.v) (λw hw=>EC hw aS) λhex=>?_;obtain⟨h0,_,hf⟩:=hex;have hln:=hf.len;refine t_ func261 ntmps261 ?_;repeat first|refine v_ ?_|refine Dr.two ?_ ?_|intro
 refine C.loop (X:=Nat×List dS) (λx=>[(0,pt g),(2,.int .i64 x.1)]) (λx=>[aJ g 147 [pt a,pt b,.int .i64 s.r],eC a s.r x.2,cO b s.v os])
  (λx=>1≤x.1∧lU s.v s.r (50 - x.1) (x.1 - 1) x.2=lU s.v s.r 49 0 s.ps∧(∀q:Nat,q<x.1 - 1→∃c∈s.v.l++s.v.t,c.id=⟨s.r,((q+1:Nat):Int)⟩)∧x.2.length≤48) (λx=>50 - x.1) (1,s.ps) aD aA ⟨aAf _,rfl,(λq h=>absurd h (aFk _)),hps⟩ ?_
 rintro⟨n,ps⟩ Gf ⟨h0,h1,h2,h3⟩;dsimp only at h0 h1 h2 h3⊢;obtain⟨q,rfl⟩:∃q,n=q+1:=⟨n - 1,by omega⟩
 have hq:q≤48:=by have:=Ie h2;rw[aAe] at this;omega
 rw[show q+1 - 1=q from rfl] at h1 h2;have out:=λE' hro=>Dw E' b s.v os hro ⟨s.r,((q+1:Nat):Int)⟩;have hfit:=xH hf.RB hf.tok ⟨s.r,((q+1:Nat):Int)⟩;have hknow:=tQ (v:=s.v) (a:=⟨s.r,((q+1:Nat):Int)⟩);have hstep:lU s.v s.r (50 - (q+1)) q ps=match gI s.v s.r q with
  |none=>ps
  |some w=>lU s.v s.r (48 - q) (q+1) (rW ps ((q+1:Nat):Int) w):=by
  rw[show 50 - (q+1)=(48 - q)+1 by omega];rfl
 unfold gI at hstep;generalize cE s.v ⟨s.r,((q+1:Nat):Int)⟩=res at out hfit hknow hstep;obtain⟨od,pF,known⟩:=res;dsimp only[bJ.cs] at out hfit hknow hstep;repeat first|refine v_ ?_|refine Dr.two ?_ ?_|intro
 refine C.BI (X:=Nat×Ov) (λx=>[(0,pt g),(2,.int .i64 ((q+1:Nat):Int)),(3,pt x.1),(4,.bool pF),(5,.bool known)])
  (λx=>[aJ x.1 141 x.2.cs,dM x.2,aJ g 147 [pt a,pt b,.int .i64 s.r],eC a s.r ps,cO b s.v os]) (λx=>x.2.d=od) ?_ ?_
 ·refine rA (l_ [0,1,2,3,4,5,6,7,8,9] (.two 10 (l_ [11,12,13,14] (g_ 15 (g_ 16 (l_ [17,18] .nil)))) 15 (g_ 10 (l_ [11,12,13,14] (g_ 16 (l_ [17,18] .nil)))))) ?_;repeat first|refine v_ ?_|intro
  refine Dr.two ?_ ?_
  ·refine yB rfl sD bA sK aC (λE' hE=>out E' (hro.sub hE)) ?_;rintro e H' ⟨o,ho,rfl,rfl⟩;dsimp only[Ov.cs,dM];repeat first|refine v_ ?_|refine Dr.two ?_ ?_|intro
   exact⟨(_,o),aD,aA,ho⟩
  ·repeat first|refine v_ ?_|intro
   refine cg rfl sD bA sK aC (λE' hE=>out E' (hro.sub hE)) ?_;rintro e H' ⟨o,ho,rfl,rfl⟩;dsimp only[Ov.cs,dM];repeat first|refine v_ ?_|refine Dr.two ?_ ?_|intro
   exact⟨(_,o),aD,aA,ho⟩
 ·rintro⟨g3,o⟩ Gf2 ho;dsimp only[Ov.cs,dM] at ho⊢;have hof:o.d.fit:=by rw[ho];exact hfit
  cases known with
  |false =>
   rw[if_neg sD] at hstep;dsimp only at hstep;repeat first|refine v_ ?_|refine Dr.two ?_ ?_|intro
   refine VL (H':=[aT g ⟨s.v,lU s.v s.r 49 0 s.ps,s.r⟩ os]) rfl ?_ ⟨rfl,rfl⟩;rw[←h1,hstep];have:=aT.mk (E:=E) (R:=[]) (g:=g) (a:=a) (b:=b) (s:=⟨s.v,ps,s.r⟩) (os:=os);exact aB.trans (aB.aV (l:=pN g a b ⟨s.v,ps,s.r⟩ os) aC) (by rwa [aAc] at this)
  |true =>
   rw[if_pos rfl] at hstep;dsimp only at hstep;obtain⟨c0,hc0,hc1⟩:=hknow rfl;have hwf:=Dn hof pF;have wn:=λE' hr=>GL E' o pF hr (by have:=hr.len;have:=hof.len;unfold Ov.d at this;dsimp only at this;omega);have pu:=λE' Y m d hr=>XK E' a s.r ps o_ ((q+1:Nat):Int) Y m d (mU o.d pF) hr (by have:=hr.len;have:=hwf.2;omega) hwf.1;have hwr:IntKind.i64.wrap (((q+1:Nat):Int)+1)=((q+1+1:Nat):Int):=by rw[aAq _ o_];omega
   dsimp only[Ov.cs] at wn;repeat first|refine v_ ?_|refine Dr.two ?_ ?_|intro
   refine rB (l_ [0,1,2,3,4,5,6] (g_ 7 (g_ 8 .nil))) ([aJ g 147 _,aJ g3 141 _]) ?_;repeat first|refine v_ ?_|refine Dr.two ?_ ?_|intro
   refine C2 wn ?_;rintro e H' ⟨Y,m,d,rfl,rfl⟩;repeat first|refine v_ ?_|refine Dr.two ?_ ?_|intro
   refine C2 (λ(E':Env)=>pu E' Y m d) ?_;rintro e H' ⟨⟨bb,rfl⟩,rfl⟩;repeat first|refine v_ ?_|refine Dr.two ?_ ?_|intro
   refine⟨(q+1+1,rW ps ((q+1:Nat):Int) (mU o.d pF)),aD,aA,⟨by dsimp only;omega,?_,?_,?_⟩,by dsimp only;omega⟩
   ·dsimp only;rw[←h1,hstep,ho,show 50 - (q+1+1)=48 - q by omega];rfl
   ·intro p hp;dsimp only at hp;by_cases hpq:p<q
    ·exact h2 p hpq
    ·obtain rfl:p=q:=by omega
     exact⟨c0,hc0,hc1⟩
   ·dsimp only;refine IT h3 ?_;have:=Ie (l:=s.v.l++s.v.t) (r:=s.r) (n:=q+1) λp hp=>by
     by_cases hpq:p<q
     ·exact h2 p hpq
     ·obtain rfl:p=q:=by omega
      exact⟨c0,hc0,hc1⟩
    rw[aAe] at this;omega
end
def Sv.again(s:Sv):Sv:=⟨s.v,lU s.v s.r 49 0 s.ps,s.r⟩
def Sv.pE(s:Sv)(c:aX):Sv×Int :=
 if c.may then(if (sV s.v c).2=0 then Sv.again ⟨(sV s.v c).1,s.ps,s.r⟩ else⟨(sV s.v c).1,s.ps,s.r⟩,(sV s.v c).2) else(s,4)
section
variable (E:Env) (g:Nat) (s:Sv) (os:List Ov)
theorem XR(hro:Bw E os)(hps:s.ps.length≤48)(c:aX)(hc:c.ok):G E 191 [pt g,.agg (R1 c).cs.toArray] [aT g s os] (cM (.int .i64 (s.pE c).2) [aT g (s.pE c).1 os]):=by
 refine jJ λa b=>?_;have is:=λE' hb=>DI E' g a b s hb;have hU:=λE'=>HF (R1 c) c.may (show 1≤(1:Int)∧(1:Int)≤4 from by decide) (λE=>IH E c) E';have add:=λE'=>YF E' b s.v os c hc;have ag:=λE' hro v2=>Kc E' g ⟨v2,s.ps,s.r⟩ os hro hps;unfold Sv.pE;dsimp only[pN,pD.cs,R1,aX.cs] at hU add⊢;rcases aBh c.may with h1|h1
 ·rw[h1] at hU⊢;generalize sV s.v c=res at add⊢;obtain⟨v2,e⟩:=res;dsimp only at add⊢;rw[if_pos rfl];by_cases he:e=0
  ·subst he;rw[if_pos rfl];refine t_ func191 ntmps191 ?_;repeat first|refine v_ ?_|intro
   refine eV is ?_;repeat first|refine v_ ?_|intro
   refine bK hU ?_;repeat first|refine v_ ?_|intro
   rename_i g3;refine rB (l_ [0,1,2,3,4,5] (g_ 6 (n_ 7 .nil))) ([aJ g 147 _,aJ g3 202 _]) ?_;repeat first|refine v_ ?_|intro
   refine eJ add ?_;repeat first|refine v_ ?_|intro
   have mk:=aT.mk (E:=E) (R:=[]) (g:=g) (a:=a) (b:=b) (s:=⟨v2,s.ps,s.r⟩) (os:=os);rw[aAc] at mk;refine L.conv (aB.trans (aB.aV (l:=pN g a b ⟨v2,s.ps,s.r⟩ os) aC) mk) ?_;refine cl sD sK aC (λE' hE=>ag E' (hro.sub hE) v2) ?_;rintro e H' ⟨rfl,rfl⟩;repeat first|refine v_ ?_|intro
   exact e1_
  ·rw[if_neg he];refine t_ func191 ntmps191 ?_;repeat first|refine v_ ?_|intro
   refine eV is ?_;repeat first|refine v_ ?_|intro
   refine bK hU ?_;repeat first|refine v_ ?_|intro
   rename_i g3;refine rB (l_ [0,1,2,3,4,5] (g_ 6 (n_ 7 .nil))) ([aJ g 147 _,aJ g3 202 _]) ?_;repeat first|refine v_ ?_|intro
   refine eJ add ?_;repeat first|refine v_ ?_|intro
   have mk:=aT.mk (E:=E) (R:=[]) (g:=g) (a:=a) (b:=b) (s:=⟨v2,s.ps,s.r⟩) (os:=os);rw[aAc] at mk;exact aR (H':=[aT g ⟨v2,s.ps,s.r⟩ os]) rfl aF (aB.trans (aB.aV (l:=pN g a b ⟨v2,s.ps,s.r⟩ os) aC) mk) ⟨rfl,rfl⟩
 ·rw[h1] at hU⊢;rw[if_neg sD];refine t_ func191 ntmps191 ?_;repeat first|refine v_ ?_|intro
  refine eV is ?_;repeat first|refine v_ ?_|intro
  refine bK hU ?_;repeat first|refine v_ ?_|intro
  refine aR (H':=[aT g s os]) rfl aF ?_ ⟨rfl,rfl⟩;have:=aT.mk (E:=E) (R:=[]) (g:=g) (a:=a) (b:=b) (s:=s) (os:=os);exact aB.trans (aB.aV (l:=pN g a b s os) aC) (by rwa [aAc] at this)
end
theorem Bw.aO{E E':Env}{R R':List aL}{os:List Ov}(hE:Sub E R E')(h:Has (Sep.aO dM os) R R'):Bw E' os:=λo ho=>by
 obtain⟨i,hi,hx⟩:=aBm ho;exact Sub.aO hE h (aAd.2 ⟨hi,hx⟩) rfl
theorem Bw.append{E:Env}{a b:List Ov}(h1:Bw E a)(h2:Bw E b):Bw E (a++b):=λo ho=>(aBg.1 ho).elim (h1 o) (h2 o)
def Sv.KE(s:Sv)(c:bJ):Sv×Int :=
 if c.may then(if (fZ s.v c).2=0 then Sv.again ⟨(fZ s.v c).1,s.ps,s.r⟩ else⟨(fZ s.v c).1,s.ps,s.r⟩,(fZ s.v c).2) else(s,4)
def Sv.MO(s:Sv)(k:bP)(now:Int):Sv×Int :=
 if k.may&&mZ now then(⟨s.v,(wJ s.r s.ps k now).1,s.r⟩,if (wJ s.r s.ps k now).2 then 0 else 14) else(s,4)
def Sv.Ls(s:Sv)(k:bP):Sv×Int :=
 if k.may then(⟨s.v,(wZ s.r s.ps k).1,s.r⟩,if (wZ s.r s.ps k).2 then 0 else 14) else(s,4)
section
variable (E:Env) (g:Nat) (s:Sv) (os:List Ov)
theorem XB(hro:Bw E os)(hps:s.ps.length≤48)(c:bJ):G E 191 [pt g,.agg (R2 c).cs.toArray] [aT g s os] λe H'=>∃new,e=.returned (.int .i64 (s.KE c).2)∧H'=[aT g (s.KE c).1 (os++new),aO dM new]:=by
 refine jJ λa b=>?_;have is:=λE' hb=>DI E' g a b s hb;have hU:=λE'=>HF (R2 c) c.may (show 1≤(2:Int)∧(2:Int)≤4 from by decide) (λE=>Nl E c) E';have rI:=λE'=>Ow E' b s.v os c;have ag:=λE' v2 new hro=>Kc E' g ⟨v2,s.ps,s.r⟩ (os++new) hro hps;unfold Sv.KE;dsimp only[pN,pD.cs,R2,bJ.cs] at hU rI⊢;rcases aBh c.may with h1|h1
 ·rw[h1] at hU⊢;generalize fZ s.v c=res at rI⊢;obtain⟨v2,e⟩:=res;dsimp only at rI⊢;rw[if_pos rfl];by_cases he:e=0
  ·subst he;rw[if_pos rfl];refine t_ func191 ntmps191 ?_;repeat first|refine v_ ?_|intro
   refine eV is ?_;repeat first|refine v_ ?_|intro
   refine bK hU ?_;repeat first|refine v_ ?_|intro
   rename_i g3;refine rB (l_ [0,1,2,3,4,5] (g_ 6 (n_ 7 .nil))) ([aJ g 147 _,aJ g3 202 _]) ?_;repeat first|refine v_ ?_|intro
   refine iO rI ?_;rintro e H' ⟨new,rfl,rfl⟩;repeat first|refine v_ ?_|intro
   have mk:=aT.mk (E:=E) (R:=[aO dM new]) (g:=g) (a:=a) (b:=b) (s:=⟨v2,s.ps,s.r⟩) (os:=os++new);refine L.conv (aB.trans (aB.aV (l:=pN g a b ⟨v2,s.ps,s.r⟩ (os++new)++[aO dM new]) aC) mk) ?_;refine cl sD sK aC (λE' hE=>ag E' v2 new (Bw.append (hro.sub hE) (Bw.aO hE aS))) ?_;rintro e H' ⟨rfl,rfl⟩;repeat first|refine v_ ?_|intro
   exact jQ ⟨new,rfl,rfl⟩
  ·rw[if_neg he];refine t_ func191 ntmps191 ?_;repeat first|refine v_ ?_|intro
   refine eV is ?_;repeat first|refine v_ ?_|intro
   refine bK hU ?_;repeat first|refine v_ ?_|intro
   rename_i g3;refine rB (l_ [0,1,2,3,4,5] (g_ 6 (n_ 7 .nil))) ([aJ g 147 _,aJ g3 202 _]) ?_;repeat first|refine v_ ?_|intro
   refine iO rI ?_;rintro e H' ⟨new,rfl,rfl⟩;repeat first|refine v_ ?_|intro
   have mk:=aT.mk (E:=E) (R:=[aO dM new]) (g:=g) (a:=a) (b:=b) (s:=⟨v2,s.ps,s.r⟩) (os:=os++new);exact aR (H':=[aT g ⟨v2,s.ps,s.r⟩ (os++new),aO dM new]) rfl aF (aB.trans (aB.aV (l:=pN g a b ⟨v2,s.ps,s.r⟩ (os++new)++[aO dM new]) aC) mk) ⟨new,rfl,rfl⟩
 ·rw[h1] at hU⊢;rw[if_neg sD];refine t_ func191 ntmps191 ?_;repeat first|refine v_ ?_|intro
  refine eV is ?_;repeat first|refine v_ ?_|intro
  refine bK hU ?_;repeat first|refine v_ ?_|intro
  have mk:=aT.mk (E:=E) (R:=[aO dM []]) (g:=g) (a:=a) (b:=b) (s:=s) (os:=os);refine aR (H':=[aT g s os,aO dM []]) rfl aF (aB.trans (aB.kP dM) (aB.trans (aB.aV (l:=pN g a b s os++[aO dM []]) aC) mk)) ⟨[],rfl,by rw[aAc]⟩
theorem XT(hps:s.ps.length≤48)(k:bP)(now:Int)(hnow:dQ now):G E 191 [pt g,.agg (R3 k now).cs.toArray] [aT g s os] (cM (.int .i64 (s.MO k now).2) [aT g (s.MO k now).1 os]):=by
 refine jJ λa b=>?_;have is:=λE' hb=>DI E' g a b s hb;have hU:=λE'=>HF (R3 k now) (k.may&&mZ now) (show 1≤(3:Int)∧(3:Int)≤4 from by decide) (λE=>Hn E k now) E';have gV:=λE'=>Yh E' a s.r s.ps o_ k now hnow;unfold Sv.MO;dsimp only[pN,pD.cs,R3,bP.cs] at hU gV⊢;rcases aBh (k.may&&mZ now) with h1|h1
 ·rw[h1] at hU⊢;generalize wJ s.r s.ps k now=res at gV⊢;obtain⟨p2,e⟩:=res;dsimp only at gV⊢;rw[if_pos rfl];refine t_ func191 ntmps191 ?_;repeat first|refine v_ ?_|intro
  refine eV is ?_;repeat first|refine v_ ?_|intro
  refine bK hU ?_;repeat first|refine v_ ?_|intro
  rename_i g3;refine rB (l_ [0,1,2,3,4,5,6,7] (g_ 8 (g_ 9 (n_ 10 .nil)))) ([aJ g 147 _,aJ g3 202 _]) ?_;repeat first|refine v_ ?_|intro
  refine eJ gV ?_;repeat first|refine v_ ?_|intro
  refine eJ (λ(E':Env)=>G8 E' e) ?_;repeat first|refine v_ ?_|intro
  have mk:=aT.mk (E:=E) (R:=[]) (g:=g) (a:=a) (b:=b) (s:=⟨s.v,p2,s.r⟩) (os:=os);rw[aAc] at mk;exact aR (H':=[aT g ⟨s.v,p2,s.r⟩ os]) rfl aF (aB.trans (aB.aV (l:=pN g a b ⟨s.v,p2,s.r⟩ os) aC) mk) ⟨rfl,rfl⟩
 ·rw[h1] at hU⊢;rw[if_neg sD];refine t_ func191 ntmps191 ?_;repeat first|refine v_ ?_|intro
  refine eV is ?_;repeat first|refine v_ ?_|intro
  refine bK hU ?_;repeat first|refine v_ ?_|intro
  have mk:=aT.mk (E:=E) (R:=[]) (g:=g) (a:=a) (b:=b) (s:=s) (os:=os);exact aR (H':=[aT g s os]) rfl aF (aB.trans (aB.aV (l:=pN g a b s os) aC) (by rwa [aAc] at mk)) ⟨rfl,rfl⟩
theorem Yj(hps:s.ps.length≤48)(k:bP):G E 191 [pt g,.agg (R4 k).cs.toArray] [aT g s os] (cM (.int .i64 (s.Ls k).2) [aT g (s.Ls k).1 os]):=by
 refine jJ λa b=>?_;have is:=λE' hb=>DI E' g a b s hb;have hU:=λE'=>HF (R4 k) k.may (show 1≤(4:Int)∧(4:Int)≤4 from by decide) (λE=>Jd E k) E';have ack_:=λE'=>Yl E' a s.r s.ps o_ k;unfold Sv.Ls;dsimp only[pN,pD.cs,R4,bP.cs] at hU ack_⊢;rcases aBh k.may with h1|h1
 ·rw[h1] at hU⊢;generalize wZ s.r s.ps k=res at ack_⊢;obtain⟨p2,e⟩:=res;dsimp only at ack_⊢;rw[if_pos rfl];refine t_ func191 ntmps191 ?_;repeat first|refine v_ ?_|intro
  refine eV is ?_;repeat first|refine v_ ?_|intro
  refine bK hU ?_;repeat first|refine v_ ?_|intro
  rename_i g3;refine rB (l_ [0,1,2,3,4,5] (g_ 6 (g_ 7 (n_ 8 .nil)))) ([aJ g 147 _,aJ g3 202 _]) ?_;repeat first|refine v_ ?_|intro
  refine eJ ack_ ?_;repeat first|refine v_ ?_|intro
  refine eJ (λ(E':Env)=>G8 E' e) ?_;repeat first|refine v_ ?_|intro
  have mk:=aT.mk (E:=E) (R:=[]) (g:=g) (a:=a) (b:=b) (s:=⟨s.v,p2,s.r⟩) (os:=os);rw[aAc] at mk;exact aR (H':=[aT g ⟨s.v,p2,s.r⟩ os]) rfl aF (aB.trans (aB.aV (l:=pN g a b ⟨s.v,p2,s.r⟩ os) aC) mk) ⟨rfl,rfl⟩
 ·rw[h1] at hU⊢;rw[if_neg sD];refine t_ func191 ntmps191 ?_;repeat first|refine v_ ?_|intro
  refine eV is ?_;repeat first|refine v_ ?_|intro
  refine bK hU ?_;repeat first|refine v_ ?_|intro
  have mk:=aT.mk (E:=E) (R:=[]) (g:=g) (a:=a) (b:=b) (s:=s) (os:=os);exact aR (H':=[aT g s os]) rfl aF (aB.trans (aB.aV (l:=pN g a b s os) aC) (by rwa [aAc] at mk)) ⟨rfl,rfl⟩
end
end Go.Proofs.YtmilalkjbojciaaGreat.Sep
