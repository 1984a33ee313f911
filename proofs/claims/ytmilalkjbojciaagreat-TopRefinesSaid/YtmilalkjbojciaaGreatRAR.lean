/- Part AR: what it needs. No condition. -/
import Derived.Test.YtmilalkjbojciaaGreatRAA
import Derived.Test.YtmilalkjbojciaaGreatRAQ
import Derived.Test.YtmilalkjbojciaaGreatRAH
import Derived.Test.YtmilalkjbojciaaGreatRAJ
set_option maxRecDepth 100000
set_option maxHeartbeats 8000000
open Go.Proofs.Tryz
namespace Go.Proofs.YtmilalkjbojciaaGreat.Sep
theorem Dn{o:Out}(h:o.fit)(pF:Bool):(∀f∈mU o pF,f.ok)∧(mU o pF).length≤8:=by
 have hl:∀l:List cQ,(l.filter tG).length+(l.filter kD).length≤l.length:=by
  intro l
  induction l with
  |nil=>exact aAf _
  |cons x l ih =>
   have:¬(tG x=true∧kD x=true):=by
    rintro⟨h1,h2⟩;unfold tG at h1;rw[h2] at h1;simp at h1
   simp only[List.filter_cons,aAs];split<;>split<;>(try simp only[aAs])<;>first|omega|(exfalso;exact this ⟨‹_›,‹_›⟩)
 have h1:=hl o.zM;have h2:=h.len;unfold mU;split
 ·refine⟨λf hf=>?_,?_⟩
  ·rcases aBg.1 hf with hf|hf
   ·exact h.zM f (aGb.1 hf).1
   ·split at hf
    ·exact h.zM f (aGb.1 hf).1
    ·exact(aAk hf).elim
  ·rw[aAe];split
   ·omega
   ·simp only[aDh];omega
 ·exact⟨λ_ h=>(aAk h).elim,aAh _⟩
theorem Fc:(⟨0,[]⟩:Out).fit:=⟨λ_ h=>(aAk h).elim,aAh _⟩
theorem xH{v:Lg}(hl:∀c∈v.l,c.ok)(ht:∀c∈v.t,c.ok)(a:bJ):(cE v a).1.fit:=by
 have key:∀ {l:List Out} {i:Nat},(∀o∈l,o.fit)→(l[i]?.getD ⟨0,[]⟩).fit:=by
  intro l i h;cases hi:l[i]? with
  |none=>exact Fc
  |some o=>exact h o (aAi hi)
 unfold cE;split
 ·exact key (mG pS hl).2
 split
 ·exact key (mG (mG pS hl).1 λc hc=>ht c (aBs hc)).2
 ·exact Fc
theorem tQ{v:Lg}{a:bJ}(h:(cE v a).2.2=true):∃c∈v.l++v.t,c.id=a:=by
 unfold cE at h;split at h
 ·rename_i h1;obtain⟨_,x,hx,hp⟩:=gZ h1;exact⟨x,aDn _ (aAi hx),of_decide_eq_true hp⟩
 ·split at h
  ·rename_i h1;obtain⟨_,x,hx,hp⟩:=gZ h1;exact⟨x,aCp _ (aAi hx),of_decide_eq_true hp⟩
  ·cases h
theorem Ie{l:List aX}{r:Int}{n:Nat}(h:∀q:Nat,q<n→∃c∈l,c.id=⟨r,((q+1:Nat):Int)⟩):n≤l.length:=by
 induction n generalizing l with
 |zero=>exact aAh _
 |succ n ih =>
  obtain⟨c,hc,hid⟩:=h n (Nat.lt_succ_self n);obtain⟨i,hi,hx⟩:=aBm hc;have h2:n≤(l.eraseIdx i).length:=ih λq hq=>by
   obtain⟨d,hd,hdid⟩:=h q (Nat.lt_succ_of_lt hq);refine⟨d,?_,hdid⟩;obtain⟨j,hj,hy⟩:=aBm hd;have hij:j≠i:=by
    rintro rfl;rw[hx] at hy;subst hy;rw[hid] at hdid;injection hdid with _ h3
    omega
   exact List.mem_eraseIdx_iff_getElem.2 ⟨j,hj,hij,hy⟩
  rw[List.length_eraseIdx_of_lt hi] at h2;omega
def gI(v:Lg)(r:Int)(q:Nat):Option (List cQ):=if (cE v ⟨r,((q+1:Nat):Int)⟩).2.2 then some (mU (cE v ⟨r,((q+1:Nat):Int)⟩).1 (cE v ⟨r,((q+1:Nat):Int)⟩).2.1) else none
def lU(v:Lg)(r:Int):Nat→Nat→List dS→List dS
 |0,_,ps=>ps
 |k+1,q,ps=>match gI v r q with
  |none=>ps
  |some w=>lU v r k (q+1) (rW ps ((q+1:Nat):Int) w)
theorem LV{ps:List dS}{i:Nat}{w:List cQ}:(mQ ps i w).length≤max ps.length (ps.length+1)∧(i<ps.length→(mQ ps i w).length=ps.length):=by
 unfold mQ;split
 ·exact⟨by simp,λ_=>by simp⟩
 ·exact⟨by simp,λh=>absurd h ‹_›⟩
theorem IT{ps:List dS}{q:Nat}{w:List cQ}{n:Nat}(h:ps.length≤n)(hq:q+1≤n):(rW ps ((q+1:Nat):Int) w).length≤n:=by
 unfold rW;split
 ·rename_i h1;have e:(((q+1:Nat):Int) - 1).toNat=q:=o_;rw[e];have:=LV (ps:=ps) (i:=q) (w:=w);by_cases h2:q<ps.length
  ·rw[this.2 h2];exact h
  ·unfold mQ;rw[if_neg h2];simp;omega
 ·exact h
def bJ.small(a:bJ):Prop:=(0≤a.rep∧a.rep≤255)∧0≤a.seq∧a.seq≤65535
structure Wk.cV(w:Wk):Prop where
 out:∀f∈w.out,f.check=0
 ref:w.ref.small
theorem bR{f:cQ}(hk:1≤f.kind∧f.kind≤11)(ha:0≤f.a∧f.a≤255)(hr:f.ref.small):f.check=0:=by
 unfold cQ.check;rw[if_pos hk,if_pos ⟨ha,hr.1,hr.2⟩]
theorem Wk.cV.tell{w:Wk}(h:w.cV)(kind a k:Int)(h1:1≤kind∧kind≤11)(h2:0≤a∧a≤255):(w.tell kind a k).cV :=
 ⟨λf hf=>by
  rcases aBg.1 hf with hf|hf
  ·exact h.out f hf
  ·obtain rfl:=aAp.1 hf;exact bR h1 h2 h.ref,h.ref⟩
theorem eK.tK{w:Wk}{r:Bk×Int}(hw:w.cV):eK Wk.cV (w.iQ r):=by
 unfold Wk.iQ;split
 ·exact eK.ok ⟨hw.out,hw.ref⟩
 ·exact eK.error
theorem eK.Bu{w:Wk}(hw:w.cV)(hb:w.b.fit){a:bJ}(ha:a.small)(st:List Int):eK (λp=>Wk.cV p.1∧p.2.fit) (w.order a st):=by
 obtain⟨q,hq⟩:∃q,q=FT w.b a st:=⟨_,rfl⟩
 obtain⟨o,k⟩:=q;rw[show w.order a st=_ from iF hq];split
 ·exact eK.ok ⟨⟨hw.out,ha⟩,hb.C7 o (BF hq ‹_›)⟩
 ·exact eK.error
theorem i7{x:Int}(h:0≤x∧x≤7):0≤x∧x≤255:=o_
theorem Wk.Rl{w:Wk}(hw:w.cV)(hb:w.b.fit){c:aX}(hc:c.may=true):eK Wk.cV (w.do c):=by
 obtain⟨hid,hti,hki,ha,hbb,hr1,hr2⟩:=(aX.bY c).1 hc;have href:c.ref.small:=⟨hr1,hr2⟩
 have hids:c.id.small:=⟨⟨hid.1,by omega⟩,by omega,hid.2.2.2⟩
 unfold Wk.do;split
 ·exact eK.ask λ_=>eK.tK hw
 split
 ·exact eK.ask λ_=>(eK.tK hw).bind λx hx=>eK.pure (hx.tell _ _ _ sD ha)
 split
 ·refine eK.ask λhp=>?_;have tA:0≤oI w.b c∧oI w.b c≤255:=by
   unfold oI;split
   ·rename_i h;simp only[aAv] at h;exact i7 (Cn h.2)
   ·exact hbb
  refine(eK.tK hw).bind λx hx=>(eK.tK hx).bind λy hy=>?_;exact eK.pure (Wk.cV.tell (Wk.cV.tell (w:={ y with ref:=c.id }) ⟨hy.out,hids⟩ _ _ _ sD tA) _ _ _ sD ha)
 split
 ·refine eK.ask λhp=>?_;refine(eK.Bu hw hb href _).bind λp hp2=>?_;obtain⟨w1,o⟩:=p;obtain⟨h1,h3⟩:=hp2;dsimp only at h1 h3⊢;have key:∀x:Wk,x.cV→eK Wk.cV (pure ((x.put { o with iN:=c.n } 1).tell 2 o.item c.n)):=λx hx=>eK.pure (Wk.cV.tell (w:=x.put { o with iN:=c.n } 1) ⟨hx.out,hx.ref⟩ _ _ _ sD (i7 h3.item));split
  ·exact(eK.tK h1).bind λx hx=>key x hx
  ·exact(eK.tK h1).bind λx hx=>key x hx
 split
 ·refine(eK.Bu hw hb href _).bind λp hp2=>?_;obtain⟨w1,o⟩:=p;obtain⟨h1,h3⟩:=hp2;dsimp only at h1 h3⊢;refine(eK.tK h1).bind λx hx=>?_;have hx1:=hx.tell 3 o.item o.iN sD (i7 h3.item);have key:∀y:Wk,y.cV→eK Wk.cV (pure ((y.put o 4).tell 7 o.cC 2)):=λy hy=>eK.pure (Wk.cV.tell (w:=y.put o 4) ⟨hy.out,hy.ref⟩ _ _ _ sD (i7 h3.cC));split
  ·refine eK.bind (p:=Wk.cV) ?_ λy hy=>key y hy;exact(eK.tK hx1).bind λy hy=>eK.pure (hy.tell _ _ _ sD (i7 h3.cC))
  ·exact eK.bind (p:=Wk.cV) (eK.ok hx1) λy hy=>key y hy
 split
 ·refine(eK.Bu hw hb href _).bind λp hp2=>?_;obtain⟨w1,o⟩:=p;obtain⟨h1,h3⟩:=hp2;dsimp only at h1 h3⊢;split
  ·exact eK.error
  ·refine(eK.tK h1).bind λx hx=>?_;exact eK.pure (Wk.cV.tell (Wk.cV.tell (w:=x.put { o with cost:=(mY w1.b o.item o.iN).1 } 2) ⟨hx.out,hx.ref⟩ _ _ _ sD (i7 h3.cC)) _ _ _ sD (i7 h3.cC))
 split
 ·refine(eK.Bu hw hb href _).bind λp hp2=>?_;obtain⟨w1,o⟩:=p;obtain⟨h1,h3⟩:=hp2;dsimp only at h1 h3⊢;exact eK.pure ((((Wk.cV.tell (w:=w1.put o 3) ⟨h1.out,h1.ref⟩ _ _ _ sD (i7 h3.item)).tell _ _ _ sD (i7 h3.item)).tell _ _ _ sD (i7 h3.item)).tell _ _ _ sD (i7 h3.cC))
 split
 ·refine(eK.Bu hw hb href _).bind λp hp2=>?_;obtain⟨w1,o⟩:=p;obtain⟨h1,h3⟩:=hp2;dsimp only at h1 h3⊢;refine(eK.tK h1).bind λx hx=>?_;exact eK.pure (Wk.cV.tell (w:=x.put o 5) ⟨hx.out,hx.ref⟩ _ _ _ sD (i7 h3.cC))
 split
 ·exact eK.tK hw
 ·exact eK.error
def Out.cV(o:Out):Prop:=∀f∈o.zM,f.check=0
theorem aIq{b:Bk}(h:b.fit){c:aX}(hc:c.may=true):(C0 b c).2.cV:=by
 have hw:Wk.cV ⟨b,[],⟨0,0⟩⟩:=⟨(λ_ h=>(aAk h).elim),(show bJ.small ⟨0,0⟩ by unfold bJ.small;decide)⟩
 unfold C0;cases hd:Wk.do ⟨b,[],⟨0,0⟩⟩ c with
 |ok w=>exact(Wk.Rl hw h hc w hd).out
 |error k=>exact λ_ h=>(aAk h).elim
theorem DS{b:Bk}(h:b.fit){l:List aX}(hl:∀c∈l,c.ok)(hm:∀c∈l,c.may=true):∀o∈(gH b l).2,o.cV:=by
 induction l generalizing b with
 |nil=>exact λ_ h=>by cases h
 |cons c l ih =>
  have h1:=Ki h (hl c aBo);have h2:=ih h1.1 (λx hx=>hl x (aBl _ hx)) λx hx=>hm x (aBl _ hx);intro o ho;rcases aEj.1 ho with rfl|ho
  ·exact aIq h (hm c aBo)
  ·exact h2 o ho
theorem C6{v:Lg}(hl:∀c∈v.l,c.ok)(ht:∀c∈v.t,c.ok)(hlm:∀c∈v.l,c.may=true)(htm:∀c∈v.t,c.may=true)(a:bJ):(cE v a).1.cV:=by
 have key:∀ {l:List Out} {i:Nat},(∀o∈l,o.cV)→(l[i]?.getD ⟨0,[]⟩).cV:=by
  intro l i h;cases hi:l[i]? with
  |none=>exact λ_ h=>(aAk h).elim
  |some o=>exact h o (aAi hi)
 unfold cE;split
 ·exact key (DS pS hl hlm)
 split
 ·exact key (DS (mG pS hl).1 (λc hc=>ht c (aBs hc)) λc hc=>htm c (aBs hc))
 ·exact λ_ h=>(aAk h).elim
theorem Jb{o:Out}(h:o.cV)(pF:Bool):∀f∈mU o pF,f.check=0:=by
 unfold mU;split
 ·intro f hf;rcases aBg.1 hf with hf|hf
  ·exact h f (aGb.1 hf).1
  ·split at hf
   ·exact h f (aGb.1 hf).1
   ·exact(aAk hf).elim
 ·exact λ_ h=>(aAk h).elim
end Go.Proofs.YtmilalkjbojciaaGreat.Sep
namespace Go.Proofs.YtmilalkjbojciaaGreat.Sep
open Go.RowKit Reg
open Mem hiding Rd
theorem EC{E:Env}{H R:List aL}{g:Nat}{v:Lg}{os:List Ov}{w:World}(hw:St E H w)(hh:Has (cO g v os) H R):∃h:Lh,h.os=os∧Lf h v:=by
 obtain⟨h,_,ho,hf,_⟩:=cO.out (R:=[]) (hw.weaken (.cons hh .nil));exact⟨h,ho,hf⟩
section
variable (E:Env) (g:Nat) (s:Sv) (os:List Ov)
theorem Kc(hro:Bw E os)(hps:s.ps.length≤48):G E 261 [pt g] [aT g s os] (cM (.tuple #[]) [aT g ⟨s.v,lU s.v s.r 49 0 s.ps,s.r⟩ os]):=by
 refine jJ λa b=>?_;dsimp only[pN];refine aK.fact (p:=∃h:Lh,h.os=os∧Lf h s.v) (λw hw=>EC hw aS) λhex=>?_;obtain⟨h0,_,hf⟩:=hex;have hln:=hf.len;refine t_ func261 ntmps261 ?_;repeat first|refine v_ ?_|refine Dr.two ?_ ?_|intro
 refine C.loop (X:=Nat×List dS) (λx=>[(0,pt g),(2,.int .i64 x.1)]) (λx=>[aJ g 147 [pt a,pt b,.int .i64 s.r],eC a s.r x.2,cO b s.v os])
  (λx=>1≤x.1∧lU s.v s.r (50 - x.1) (x.1 - 1) x.2=lU s.v s.r 49 0 s.ps∧(∀q:Nat,q<x.1 - 1→∃c∈s.v.l++s.v.t,c.id=⟨s.r,((q+1:Nat):Int)⟩)∧x.2.length≤48) (λx=>50 - x.1) (1,s.ps) aD aA ⟨aAf _,rfl,(λq h=>absurd h (aFk _)),hps⟩ ?_
 rintro⟨n,ps⟩ Gf ⟨h0,h1,h2,h3⟩;dsimp only at h0 h1 h2 h3⊢;obtain⟨q,rfl⟩:∃q,n=q+1:=⟨n - 1,by omega⟩
 have hq:q≤48:=by have:=Ie h2;rw[aAe] at this;omega
 rw[show q+1 - 1=q from rfl] at h1 h2;have out:=λM hro=>Dw M b s.v os hro ⟨s.r,((q+1:Nat):Int)⟩;have hfit:=xH hf.RB hf.tok ⟨s.r,((q+1:Nat):Int)⟩;have hknow:=tQ (v:=s.v) (a:=⟨s.r,((q+1:Nat):Int)⟩);have hstep:lU s.v s.r (50 - (q+1)) q ps=match gI s.v s.r q with
  |none=>ps
  |some w=>lU s.v s.r (48 - q) (q+1) (rW ps ((q+1:Nat):Int) w):=by
  rw[show 50 - (q+1)=(48 - q)+1 by omega];rfl
 unfold gI at hstep;generalize cE s.v ⟨s.r,((q+1:Nat):Int)⟩=res at out hfit hknow hstep;obtain⟨od,pF,known⟩:=res;dsimp only[bJ.cs] at out hfit hknow hstep;repeat first|refine v_ ?_|refine Dr.two ?_ ?_|intro
 refine C.BI (X:=Nat×Ov) (λx=>[(0,pt g),(2,.int .i64 ((q+1:Nat):Int)),(3,pt x.1),(4,.bool pF),(5,.bool known)])
  (λx=>[aJ x.1 141 x.2.cs,dM x.2,aJ g 147 [pt a,pt b,.int .i64 s.r],eC a s.r ps,cO b s.v os]) (λx=>x.2.d=od) ?_ ?_
 ·refine rA (l_ [0,1,2,3,4,5,6,7,8,9] (.two 10 (l_ [11,12,13,14] (g_ 15 (g_ 16 (l_ [17,18] .nil)))) 15 (g_ 10 (l_ [11,12,13,14] (g_ 16 (l_ [17,18] .nil)))))) ?_;repeat first|refine v_ ?_|intro
  refine Dr.two ?_ ?_
  ·refine yB rfl sD bA sK aC (λM hE=>out M (hro.sub hE)) ?_;rintro e H' ⟨o,ho,rfl,rfl⟩;dsimp only[Ov.cs,dM];repeat first|refine v_ ?_|refine Dr.two ?_ ?_|intro
   exact⟨(_,o),aD,aA,ho⟩
  ·repeat first|refine v_ ?_|intro
   refine cg rfl sD bA sK aC (λM hE=>out M (hro.sub hE)) ?_;rintro e H' ⟨o,ho,rfl,rfl⟩;dsimp only[Ov.cs,dM];repeat first|refine v_ ?_|refine Dr.two ?_ ?_|intro
   exact⟨(_,o),aD,aA,ho⟩
 ·rintro⟨g3,o⟩ Gf2 ho;dsimp only[Ov.cs,dM] at ho⊢;have hof:o.d.fit:=by rw[ho];exact hfit
  cases known with
  |false =>
   rw[if_neg sD] at hstep;dsimp only at hstep;repeat first|refine v_ ?_|refine Dr.two ?_ ?_|intro
   refine VL (H':=[aT g ⟨s.v,lU s.v s.r 49 0 s.ps,s.r⟩ os]) rfl ?_ ⟨rfl,rfl⟩;rw[←h1,hstep];have:=aT.mk (E:=E) (R:=[]) (g:=g) (a:=a) (b:=b) (s:=⟨s.v,ps,s.r⟩) (os:=os);exact aB.trans (aB.aV (l:=pN g a b ⟨s.v,ps,s.r⟩ os) aC) (by rwa [aAc] at this)
  |true =>
   rw[if_pos rfl] at hstep;dsimp only at hstep;obtain⟨c0,hc0,hc1⟩:=hknow rfl;have hwf:=Dn hof pF;have wn:=λM hr=>GL M o pF hr (by have:=hr.len;have:=hof.len;unfold Ov.d at this;dsimp only at this;omega);have pu:=λM Y m d hr=>XK M a s.r ps o_ ((q+1:Nat):Int) Y m d (mU o.d pF) hr (by have:=hr.len;have:=hwf.2;omega) hwf.1;have hwr:IntKind.i64.wrap (((q+1:Nat):Int)+1)=((q+1+1:Nat):Int):=by rw[aAq _ o_];omega
   dsimp only[Ov.cs] at wn;repeat first|refine v_ ?_|refine Dr.two ?_ ?_|intro
   refine rB (l_ [0,1,2,3,4,5,6] (g_ 7 (g_ 8 .nil))) ([aJ g 147 _,aJ g3 141 _]) ?_;repeat first|refine v_ ?_|refine Dr.two ?_ ?_|intro
   refine C2 wn ?_;rintro e H' ⟨Y,m,d,rfl,rfl⟩;repeat first|refine v_ ?_|refine Dr.two ?_ ?_|intro
   refine C2 (λM=>pu M Y m d) ?_;rintro e H' ⟨⟨bb,rfl⟩,rfl⟩;repeat first|refine v_ ?_|refine Dr.two ?_ ?_|intro
   refine⟨(q+1+1,rW ps ((q+1:Nat):Int) (mU o.d pF)),aD,aA,⟨by dsimp only;omega,?_,?_,?_⟩,by dsimp only;omega⟩
   ·dsimp only;rw[←h1,hstep,ho,show 50 - (q+1+1)=48 - q by omega];rfl
   ·intro p hp;dsimp only at hp;by_cases hpq:p<q
    ·exact h2 p hpq
    ·obtain rfl:p=q:=o_;exact⟨c0,hc0,hc1⟩
   ·dsimp only;refine IT h3 ?_;have:=Ie (l:=s.v.l++s.v.t) (r:=s.r) (n:=q+1) λp hp=>by
     by_cases hpq:p<q
     ·exact h2 p hpq
     ·obtain rfl:p=q:=o_;exact⟨c0,hc0,hc1⟩
    rw[aAe] at this;omega
end
def Sv.again(s:Sv):Sv:=⟨s.v,lU s.v s.r 49 0 s.ps,s.r⟩
def Sv.pE(s:Sv)(c:aX):Sv×Int :=
 if c.may then(if (sV s.v c).2=0 then Sv.again ⟨(sV s.v c).1,s.ps,s.r⟩ else⟨(sV s.v c).1,s.ps,s.r⟩,(sV s.v c).2) else(s,4)
section
variable (E:Env) (g:Nat) (s:Sv) (os:List Ov)
theorem XR(hro:Bw E os)(hps:s.ps.length≤48)(c:aX)(hc:c.ok):G E 191 [pt g,.agg (R1 c).cs.toArray] [aT g s os] (cM (.int .i64 (s.pE c).2) [aT g (s.pE c).1 os]):=by
 refine jJ λa b=>?_;have is:=λM hb=>DI M g a b s hb;have hU:=λM=>HF (R1 c) c.may (show 1≤(1:Int)∧(1:Int)≤4 from by decide) (λE=>IH E c) M;have add:=λM=>YF M b s.v os c hc;have ag:=λM hro v2=>Kc M g ⟨v2,s.ps,s.r⟩ os hro hps;unfold Sv.pE;dsimp only[pN,pD.cs,R1,aX.cs] at hU add⊢;rcases aBh c.may with h1|h1
 ·rw[h1] at hU⊢;generalize sV s.v c=res at add⊢;obtain⟨v2,e⟩:=res;dsimp only at add⊢;rw[if_pos rfl];by_cases he:e=0
  ·subst he;rw[if_pos rfl];refine t_ func191 ntmps191 ?_;repeat first|refine v_ ?_|intro
   refine eV is ?_;repeat first|refine v_ ?_|intro
   refine bK hU ?_;repeat first|refine v_ ?_|intro
   rename_i g3;refine rB (l_ [0,1,2,3,4,5] (g_ 6 (n_ 7 .nil))) ([aJ g 147 _,aJ g3 202 _]) ?_;repeat first|refine v_ ?_|intro
   refine eJ add ?_;repeat first|refine v_ ?_|intro
   have mk:=aT.mk (E:=E) (R:=[]) (g:=g) (a:=a) (b:=b) (s:=⟨v2,s.ps,s.r⟩) (os:=os);rw[aAc] at mk;refine L.conv (aB.trans (aB.aV (l:=pN g a b ⟨v2,s.ps,s.r⟩ os) aC) mk) ?_;refine cl sD sK aC (λM hE=>ag M (hro.sub hE) v2) ?_;rintro e H' ⟨rfl,rfl⟩;repeat first|refine v_ ?_|intro
   exact B7
  ·rw[if_neg he];refine t_ func191 ntmps191 ?_;repeat first|refine v_ ?_|intro
   refine eV is ?_;repeat first|refine v_ ?_|intro
   refine bK hU ?_;repeat first|refine v_ ?_|intro
   rename_i g3;refine rB (l_ [0,1,2,3,4,5] (g_ 6 (n_ 7 .nil))) ([aJ g 147 _,aJ g3 202 _]) ?_;repeat first|refine v_ ?_|intro
   refine eJ add ?_;repeat first|refine v_ ?_|intro
   have mk:=aT.mk (E:=E) (R:=[]) (g:=g) (a:=a) (b:=b) (s:=⟨v2,s.ps,s.r⟩) (os:=os);rw[aAc] at mk;exact aR (H':=[aT g ⟨v2,s.ps,s.r⟩ os]) rfl aF (aB.trans (aB.aV (l:=pN g a b ⟨v2,s.ps,s.r⟩ os) aC) mk) ⟨rfl,rfl⟩
 ·rw[h1] at hU⊢;rw[if_neg sD];refine t_ func191 ntmps191 ?_;repeat first|refine v_ ?_|intro
  refine eV is ?_;repeat first|refine v_ ?_|intro
  refine bK hU ?_;repeat first|refine v_ ?_|intro
  refine aR (H':=[aT g s os]) rfl aF ?_ ⟨rfl,rfl⟩;have:=aT.mk (E:=E) (R:=[]) (g:=g) (a:=a) (b:=b) (s:=s) (os:=os);exact aB.trans (aB.aV (l:=pN g a b s os) aC) (by rwa [aAc] at this)
end
theorem Bw.aO{E M:Env}{R R':List aL}{os:List Ov}(hE:Sub E R M)(h:Has (Sep.aO dM os) R R'):Bw M os:=λo ho=>by
 obtain⟨i,hi,hx⟩:=aBm ho;exact Sub.aO hE h (aAd.2 ⟨hi,hx⟩) rfl
theorem Bw.append{E:Env}{a b:List Ov}(h1:Bw E a)(h2:Bw E b):Bw E (a++b):=λo ho=>(aBg.1 ho).elim (h1 o) (h2 o)
def Sv.KE(s:Sv)(c:bJ):Sv×Int :=
 if c.may then(if (fZ s.v c).2=0 then Sv.again ⟨(fZ s.v c).1,s.ps,s.r⟩ else⟨(fZ s.v c).1,s.ps,s.r⟩,(fZ s.v c).2) else(s,4)
def Sv.MO(s:Sv)(k:bP)(now:Int):Sv×Int :=
 if k.may&&mZ now then(⟨s.v,(wJ s.r s.ps k now).1,s.r⟩,if (wJ s.r s.ps k now).2 then 0 else 14) else(s,4)
def Sv.Ls(s:Sv)(k:bP):Sv×Int :=
 if k.may then(⟨s.v,(wZ s.r s.ps k).1,s.r⟩,if (wZ s.r s.ps k).2 then 0 else 14) else(s,4)
section
variable (E:Env) (g:Nat) (s:Sv) (os:List Ov)
theorem XB(hro:Bw E os)(hps:s.ps.length≤48)(c:bJ):G E 191 [pt g,.agg (R2 c).cs.toArray] [aT g s os] λe H'=>∃new,e=.returned (.int .i64 (s.KE c).2)∧H'=[aT g (s.KE c).1 (os++new),aO dM new]:=by
 refine jJ λa b=>?_;have is:=λM hb=>DI M g a b s hb;have hU:=λM=>HF (R2 c) c.may (show 1≤(2:Int)∧(2:Int)≤4 from by decide) (λE=>Nl E c) M;have rI:=λM=>Ow M b s.v os c;have ag:=λM v2 new hro=>Kc M g ⟨v2,s.ps,s.r⟩ (os++new) hro hps;unfold Sv.KE;dsimp only[pN,pD.cs,R2,bJ.cs] at hU rI⊢;rcases aBh c.may with h1|h1
 ·rw[h1] at hU⊢;generalize fZ s.v c=res at rI⊢;obtain⟨v2,e⟩:=res;dsimp only at rI⊢;rw[if_pos rfl];by_cases he:e=0
  ·subst he;rw[if_pos rfl];refine t_ func191 ntmps191 ?_;repeat first|refine v_ ?_|intro
   refine eV is ?_;repeat first|refine v_ ?_|intro
   refine bK hU ?_;repeat first|refine v_ ?_|intro
   rename_i g3;refine rB (l_ [0,1,2,3,4,5] (g_ 6 (n_ 7 .nil))) ([aJ g 147 _,aJ g3 202 _]) ?_;repeat first|refine v_ ?_|intro
   refine iO rI ?_;rintro e H' ⟨new,rfl,rfl⟩;repeat first|refine v_ ?_|intro
   have mk:=aT.mk (E:=E) (R:=[aO dM new]) (g:=g) (a:=a) (b:=b) (s:=⟨v2,s.ps,s.r⟩) (os:=os++new);refine L.conv (aB.trans (aB.aV (l:=pN g a b ⟨v2,s.ps,s.r⟩ (os++new)++[aO dM new]) aC) mk) ?_;refine cl sD sK aC (λM hE=>ag M v2 new (Bw.append (hro.sub hE) (Bw.aO hE aS))) ?_;rintro e H' ⟨rfl,rfl⟩;repeat first|refine v_ ?_|intro
   exact jQ ⟨new,rfl,rfl⟩
  ·rw[if_neg he];refine t_ func191 ntmps191 ?_;repeat first|refine v_ ?_|intro
   refine eV is ?_;repeat first|refine v_ ?_|intro
   refine bK hU ?_;repeat first|refine v_ ?_|intro
   rename_i g3;refine rB (l_ [0,1,2,3,4,5] (g_ 6 (n_ 7 .nil))) ([aJ g 147 _,aJ g3 202 _]) ?_;repeat first|refine v_ ?_|intro
   refine iO rI ?_;rintro e H' ⟨new,rfl,rfl⟩;repeat first|refine v_ ?_|intro
   have mk:=aT.mk (E:=E) (R:=[aO dM new]) (g:=g) (a:=a) (b:=b) (s:=⟨v2,s.ps,s.r⟩) (os:=os++new);exact aR (H':=[aT g ⟨v2,s.ps,s.r⟩ (os++new),aO dM new]) rfl aF (aB.trans (aB.aV (l:=pN g a b ⟨v2,s.ps,s.r⟩ (os++new)++[aO dM new]) aC) mk) ⟨new,rfl,rfl⟩
 ·rw[h1] at hU⊢;rw[if_neg sD];refine t_ func191 ntmps191 ?_;repeat first|refine v_ ?_|intro
  refine eV is ?_;repeat first|refine v_ ?_|intro
  refine bK hU ?_;repeat first|refine v_ ?_|intro
  have mk:=aT.mk (E:=E) (R:=[aO dM []]) (g:=g) (a:=a) (b:=b) (s:=s) (os:=os);refine aR (H':=[aT g s os,aO dM []]) rfl aF (aB.trans (aB.kP dM) (aB.trans (aB.aV (l:=pN g a b s os++[aO dM []]) aC) mk)) ⟨[],rfl,by rw[aAc]⟩
theorem XT(hps:s.ps.length≤48)(k:bP)(now:Int)(hnow:dQ now):G E 191 [pt g,.agg (R3 k now).cs.toArray] [aT g s os] (cM (.int .i64 (s.MO k now).2) [aT g (s.MO k now).1 os]):=by
 refine jJ λa b=>?_;have is:=λM hb=>DI M g a b s hb;have hU:=λM=>HF (R3 k now) (k.may&&mZ now) (show 1≤(3:Int)∧(3:Int)≤4 from by decide) (λE=>Hn E k now) M;have gV:=λM=>Yh M a s.r s.ps o_ k now hnow;unfold Sv.MO;dsimp only[pN,pD.cs,R3,bP.cs] at hU gV⊢;rcases aBh (k.may&&mZ now) with h1|h1
 ·rw[h1] at hU⊢;generalize wJ s.r s.ps k now=res at gV⊢;obtain⟨p2,e⟩:=res;dsimp only at gV⊢;rw[if_pos rfl];refine t_ func191 ntmps191 ?_;repeat first|refine v_ ?_|intro
  refine eV is ?_;repeat first|refine v_ ?_|intro
  refine bK hU ?_;repeat first|refine v_ ?_|intro
  rename_i g3;refine rB (l_ [0,1,2,3,4,5,6,7] (g_ 8 (g_ 9 (n_ 10 .nil)))) ([aJ g 147 _,aJ g3 202 _]) ?_;repeat first|refine v_ ?_|intro
  refine eJ gV ?_;repeat first|refine v_ ?_|intro
  refine eJ (λM=>G8 M e) ?_;repeat first|refine v_ ?_|intro
  have mk:=aT.mk (E:=E) (R:=[]) (g:=g) (a:=a) (b:=b) (s:=⟨s.v,p2,s.r⟩) (os:=os);rw[aAc] at mk;exact aR (H':=[aT g ⟨s.v,p2,s.r⟩ os]) rfl aF (aB.trans (aB.aV (l:=pN g a b ⟨s.v,p2,s.r⟩ os) aC) mk) ⟨rfl,rfl⟩
 ·rw[h1] at hU⊢;rw[if_neg sD];refine t_ func191 ntmps191 ?_;repeat first|refine v_ ?_|intro
  refine eV is ?_;repeat first|refine v_ ?_|intro
  refine bK hU ?_;repeat first|refine v_ ?_|intro
  have mk:=aT.mk (E:=E) (R:=[]) (g:=g) (a:=a) (b:=b) (s:=s) (os:=os);exact aR (H':=[aT g s os]) rfl aF (aB.trans (aB.aV (l:=pN g a b s os) aC) (by rwa [aAc] at mk)) ⟨rfl,rfl⟩
theorem Yj(hps:s.ps.length≤48)(k:bP):G E 191 [pt g,.agg (R4 k).cs.toArray] [aT g s os] (cM (.int .i64 (s.Ls k).2) [aT g (s.Ls k).1 os]):=by
 refine jJ λa b=>?_;have is:=λM hb=>DI M g a b s hb;have hU:=λM=>HF (R4 k) k.may (show 1≤(4:Int)∧(4:Int)≤4 from by decide) (λE=>Jd E k) M;have ack_:=λM=>Yl M a s.r s.ps o_ k;unfold Sv.Ls;dsimp only[pN,pD.cs,R4,bP.cs] at hU ack_⊢;rcases aBh k.may with h1|h1
 ·rw[h1] at hU⊢;generalize wZ s.r s.ps k=res at ack_⊢;obtain⟨p2,e⟩:=res;dsimp only at ack_⊢;rw[if_pos rfl];refine t_ func191 ntmps191 ?_;repeat first|refine v_ ?_|intro
  refine eV is ?_;repeat first|refine v_ ?_|intro
  refine bK hU ?_;repeat first|refine v_ ?_|intro
  rename_i g3;refine rB (l_ [0,1,2,3,4,5] (g_ 6 (g_ 7 (n_ 8 .nil)))) ([aJ g 147 _,aJ g3 202 _]) ?_;repeat first|refine v_ ?_|intro
  refine eJ ack_ ?_;repeat first|refine v_ ?_|intro
  refine eJ (λM=>G8 M e) ?_;repeat first|refine v_ ?_|intro
  have mk:=aT.mk (E:=E) (R:=[]) (g:=g) (a:=a) (b:=b) (s:=⟨s.v,p2,s.r⟩) (os:=os);rw[aAc] at mk;exact aR (H':=[aT g ⟨s.v,p2,s.r⟩ os]) rfl aF (aB.trans (aB.aV (l:=pN g a b ⟨s.v,p2,s.r⟩ os) aC) mk) ⟨rfl,rfl⟩
 ·rw[h1] at hU⊢;rw[if_neg sD];refine t_ func191 ntmps191 ?_;repeat first|refine v_ ?_|intro
  refine eV is ?_;repeat first|refine v_ ?_|intro
  refine bK hU ?_;repeat first|refine v_ ?_|intro
  have mk:=aT.mk (E:=E) (R:=[]) (g:=g) (a:=a) (b:=b) (s:=s) (os:=os);exact aR (H':=[aT g s os]) rfl aF (aB.trans (aB.aV (l:=pN g a b s os) aC) (by rwa [aAc] at mk)) ⟨rfl,rfl⟩
end
end Go.Proofs.YtmilalkjbojciaaGreat.Sep
