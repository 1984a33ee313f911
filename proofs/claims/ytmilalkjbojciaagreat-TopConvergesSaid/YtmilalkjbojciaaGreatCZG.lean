/- Part ZG: what it needs. No condition. -/
import Derived.Test.YtmilalkjbojciaaGreatCZF
import Derived.Test.YtmilalkjbojciaaGreatCZD
set_option linter.all false
set_option maxRecDepth 100000
set_option maxHeartbeats 8000000
open Go.Proofs.Tryz
namespace Go.Proofs.YtmilalkjbojciaaGreat.Sep
variable{c:aI}{i j:Nat}{v:Wv}
section
noncomputable def Wv.dJ:Nat->Wv->Wv
 |0,v=>v
 |k+1,v=>Wv.dJ k v.round.w
theorem UB:∀(k:Nat) (v:Wv),Wv.dJ (k+1) v=(Wv.dJ k v).round.w
 |0,_=>rfl
 |k+1,v=>UB k v.round.w
theorem RM:∀ {k:Nat} {v:Wv} {a:Bool} {n:Nat},(vM k v a n).2.2=false->a=false/\∃j,j<=k/\(vM k v a n).1=Wv.dJ j v/\(∀i,i<j->(Wv.dJ i v).round.short=false)/\(j=k\/(Wv.dJ j v).quiet=true)
 |0,v,a,n,h=>⟨h,0,bM _,rfl,λi d=>by omega,.inl rfl⟩
 |k+1,v,a,n,h=>by
  cases c:v.quiet with
  |true =>
   rw[Mi c] at h⊢;exact⟨h,0,bY _,rfl,λi d=>by omega,.inr c⟩
  |false =>
   rw[Mh c] at h⊢;have⟨b,j,l,e,f,g⟩:=RM h;rw[Bool.or_eq_false_iff] at b;refine⟨b.2,j+1,o_,e,λi d=>?_,g.imp o_ id⟩;cases i with
   |zero=>exact b.1
   |succ i=>exact f i o_
section
variable {cf:bW} (hf:cf.dI) {T t:Int} {v:Wv} (h:FI cf T t v) (hT:T<=80) (ht:t<=1000000) {m:Nat} (hm:m<=40) (hs:∀i,i<m->(Wv.dJ i v).round.short=false)
include hf h hT ht hm hs
theorem DN:∀i,i<=m->∃ti,ti<=t+64*i/\FI cf (T+4*i) ti (Wv.dJ i v)/\(i<m->Lt cf (T+4*i) ti (Wv.dJ i v) (Wv.dJ (i+1) v)):=by
 have⟨_,_,_,_,hc⟩:=hf;have key:∀ {i:Nat} {ti:Int},i<m->ti<=t+64*i->FI cf (T+4*i) ti (Wv.dJ i v)->Lt cf (T+4*i) ti (Wv.dJ i v) (Wv.dJ (i+1) v):=λ{i ti} hi h1 h2=>by
  grind [UB,aLi]
 intro i
 induction i with
 |zero =>
  intro _;have h0:FI cf (T+4*(0:Nat)) t (Wv.dJ 0 v):=by rw[show T+4*((0:Nat):Int)=T by omega];exact h
  exact⟨t,o_,h0,λhi=>key hi o_ h0⟩
 |succ i ih =>
  intro hi;have⟨ti,h1,h2,h3⟩:=ih o_;have r:=(h3 o_).f;rw[show T+4*(i:Int)+4=T+4*((i+1:Nat):Int) by omega] at r;exact⟨ti+cf.cap,o_,r,λhi2=>key hi2 o_ r⟩
theorem yV:∀ {j i:Nat},i<=j->j<=m->Kp (Wv.dJ i v) (Wv.dJ j v)
 |0,i,a,_=>by
  obtain rfl:i=0:=o_;exact(gH.refl _).kp
 |j+1,i,a,b=>by
  by_cases e:i=j+1
  ·subst e;exact(gH.refl _).kp
  ·have⟨_,_,_,r⟩:=DN hf h hT ht hm hs j o_;exact(yV (j:=j) (i:=i) o_ o_).trans (r o_).k
theorem F5(hi:i<=m):∃a,FI cf (T+4*i) a (Wv.dJ i v):=by
 grind [DN]
theorem Ke(hi:i<=m)(b:j<v.aD.length):Gd ((Wv.dJ i v).state j)/\((Wv.dJ i v).state j).r=j:=by
 have⟨d,a⟩:=F5 hf h hT ht hm hs hi;have⟨n,_,_,e,g,c⟩:=a.at_ (i:=j) (by rw[(yV hf h hT ht hm hs (bY i) hi).len];exact b)
 grind
theorem UO(hi:i<=m){x:aI}:(Un (Wv.dJ i v) x->Un v x)/\∀j,j<v.aD.length->x∈((Wv.dJ i v).state j).all->Un v x:=by
 have⟨ti,a⟩:=F5 hf h hT ht hm hs hi;have k:=yV hf h hT ht hm hs (bY i) hi;exact⟨λhx=>K7 h a k hx,λj hj hx=>K7 h a k (Ox a (by rw[k.len];exact hj) hx)⟩
theorem Kd(b:1<=i)(hi:i<m):xS (Wv.dJ i v) (Wv.dJ (i+1) v):=by
 have⟨_,_,_,r⟩:=DN hf h hT ht hm hs i o_;have⟨_,_,_,a⟩:=DN hf h hT ht hm hs (i - 1) o_;have:=(a o_).w;rw[show i - 1+1=i by omega] at this;exact(r hi).g this
def Full(v:Wv)(j i:Nat):Prop:=∀c,Un v c->c∈((Wv.dJ i v).state j).all
theorem Full.mono{i':Nat}(d:Full v j i)(a:i<=i')(b:i'<=m):Full v j i':=λc e=>(yV hf h hT ht hm hs a b).all j c (d c e)
theorem Nz(hi:i<=m)(a:j<v.aD.length){i' b:Nat}(d:Full v b i'):((Wv.dJ i v).state j).all.length<=((Wv.dJ i' v).state b).all.length:=FJ (Ke hf h hT ht hm hs hi a).1 λc e=>d c ((UO hf h hT ht hm hs hi).2 j a e)
theorem KY(hi:i<=m)(a:j<v.aD.length):((Wv.dJ i v).state j).all.length<=48:=by
 have:=(Ke hf h hT ht hm hs hi a).1.v.len
 grind [Sv.all]
theorem Nn(w:8<=m):Full v 0 8:=by
 have B:=h.len;have q:∀k,k<=7->Full v 0 (1+k)\/8*k<=((Wv.dJ (1+k) v).state 0).all.length:=by
  intro k
  induction k with
  |zero=>exact λ_=>.inr (bY _)
  |succ k p =>
   intro A;rcases p o_ with x|y
   ·grind [Full.mono]
   ·have g:=Kd hf h hT ht hm hs (i:=1+k) o_ o_;have kp:=yV hf h hT ht hm hs (i:=1+k) (j:=1+k+1) o_ o_;have e:=yV hf h hT ht hm hs (bY (1+k)) o_;have o:(Wv.dJ (1+k) v).aD.length=v.aD.length:=e.len;by_cases a:∀j,1<=j->j<v.aD.length->∀c∈((Wv.dJ (1+k) v).state j).all,c∈((Wv.dJ (1+k+1) v).state 0).all
    ·refine .inl λc l=>?_;have⟨j,z,_,b⟩:=l;have b:=e.all j c b;by_cases d:j=0
     ·subst d;exact kp.all 0 c b
     ·grind
    ·refine .inr ?_;simp only[Classical.not_forall] at a;have⟨j,f,r,c,s,u⟩:=a;rcases((g.a j f (by grind)).2).a with n|n;all_goals grind
 grind [KY]
theorem aPr(c:11<=m):((Wv.dJ 8 v).state 0).all.length<=((Wv.dJ 11 v).state 0).v.l.length:=by
 have l:=h.len;have d:=Nn hf h hT ht hm hs o_;have b:∀k,k<=3->min (16*k) ((Wv.dJ 8 v).state 0).all.length<=((Wv.dJ (8+k) v).state 0).v.l.length:=by
  intro k
  induction k with
  |zero=>intro _;omega
  |succ k e =>
   intro f;have:=e o_;have g:=(Kd hf h hT ht hm hs (i:=8+k) o_ o_).c;have a:=Nz hf h hT ht hm hs (i:=8) (j:=0) o_ o_ (i':=8+k) (Full.mono hf h hT ht hm hs d o_ o_)
   grind
 have:=b 3 (bM _)
 grind [KY,Wv.dJ]
theorem aIx(d:15<=m)(n:j<v.aD.length):Full v j 15:=by
 have e:=Nn hf h hT ht hm hs o_;by_cases o:j=0
 ·grind [Full.mono]
 have q:∀k,k<=7->Full v j (8+k)\/8*k<=((Wv.dJ (8+k) v).state j).all.length:=by
  intro k
  induction k with
  |zero=>exact λ_=>.inr (bY _)
  |succ k p =>
   intro s;rcases p o_ with f|r
   ·grind [Full.mono]
   ·have g:=Kd hf h hT ht hm hs (i:=8+k) o_ o_;have a:=(yV hf h hT ht hm hs (bY (8+k)) o_).len;rcases(g.a j o_ (by rw[a];exact n)).1.a with b|b
    ·exact .inl λc l=>b c (Full.mono hf h hT ht hm hs e (i':=8+k) o_ o_ c l)
    ·grind
 grind [KY]
theorem aMh(a:18<=m):∃L,Bc L (Wv.dJ 18 v):=by
 have J:=h.len;have z:=aPr hf h hT ht hm hs o_;have u:=Nn hf h hT ht hm hs o_;have kp:=λ(i j:Nat) (p:i<=j) (e:j<=m)=>yV hf h hT ht hm hs p e;have y:∀i,11<=i->i<=m->((Wv.dJ 8 v).state 0).all.length<=((Wv.dJ i v).state 0).v.l.length:=λi p e=>iR z ((kp 11 i p e).l 0).length_le;have r:∀j,j<v.aD.length->((Wv.dJ 8 v).state 0).all.length<=((Wv.dJ 18 v).state j).v.l.length:=λj l=>by
  by_cases b:j=0
  ·subst b;exact y 18 o_ a
  ·have A:=aIx hf h hT ht hm hs o_ l;have w:∀k,k<=3->min (16*k) ((Wv.dJ 8 v).state 0).all.length<=((Wv.dJ (15+k) v).state j).v.l.length:=by
    intro k
    induction k with
    |zero=>intro _;omega
    |succ k F =>
     intro w;have:=F o_;have g:=Kd hf h hT ht hm hs (i:=15+k) o_ o_;have:=(g.a j o_ (by rw[(kp 0 (15+k) o_ o_).len];exact l)).1.l b λc D=>Full.mono hf h hT ht hm hs A o_ o_ c ((UO hf h hT ht hm hs o_).1 D);have:=y (15+k) o_ o_;show _<=((Wv.dJ (15+k+1) v).state j).v.l.length;omega
   have:=w 3 (bM _);have:=KY hf h hT ht hm hs (i:=8) (j:=0) o_ o_;show _<=((Wv.dJ (15+3) v).state j).v.l.length;omega
 refine⟨((Wv.dJ 18 v).state 0).v.l,λj l=>?_⟩;rw[(kp 0 18 o_ a).len] at l;have⟨K,f⟩:=F5 hf h hT ht hm hs a;have p:=r j l;have e:=Nz hf h hT ht hm hs (i:=18) (j:=j) a l u;have q:=Nz hf h hT ht hm hs (i:=18) (j:=0) a o_ u;unfold Sv.all at e q;rw[bR] at e q;unfold Sv.all at p;rw[bR] at p;rw[bR] at e q;have d:((Wv.dJ 18 v).state j).v.l <+: ((Wv.dJ 18 v).state 0).v.l:=by
  by_cases b:j=0
  ·subst b;exact E3 _
  ·have⟨n,x,_⟩:=f.at_ (i:=j) (by rw[(kp 0 18 o_ a).len];exact l);have⟨H,o,_⟩:=f.at_ (i:=0) (by have:=f.len;omega);have s:=f.w.h.cD j n x b;have B:D0 (Wv.dJ 18 v).aD=H.stored.v.l:=by unfold D0;rw[o]
   rw[B] at s;rw[pE x,pE o];exact s.trans (f.w.h.gd o).2.2.2.2.1
 have E:=d.length_le;exact⟨d.eq_of_length o_,zM.1 o_⟩
theorem aJn(H:40<=m):(∃L,Bc L (Wv.dJ 40 v))/\∀i,i<v.aD.length->∀j,tS (((Wv.dJ 40 v).state i).ps.getD j s0)=0\/FE cf (((Wv.dJ 40 v).state i).ps.getD j s0):=by
 have⟨L,J⟩:=aMh hf h hT ht hm hs o_;have u:=hf;have⟨_,_,d,_,K⟩:=u;have x:∀k,k<=22->Bc L (Wv.dJ (18+k) v)/\∀i,i<v.aD.length->∀j,tS (((Wv.dJ (18+k) v).state i).ps.getD j s0)<=17 - k\/FE cf (((Wv.dJ (18+k) v).state i).ps.getD j s0):=by
  intro k
  induction k with
  |zero =>
   refine λ_=>⟨J,λi b j=>.inl ?_⟩
   have⟨D,f⟩:=F5 hf h hT ht hm hs (i:=18) o_;exact Z7 (f.cg (i:=i) (by rw[(yV hf h hT ht hm hs (bY 18) o_).len];exact b) j)
  |succ k O =>
   intro Q;have⟨B,N⟩:=O o_;have⟨D,_,f,r⟩:=DN hf h hT ht hm hs (18+k) o_;have⟨_,_,_,o⟩:=DN hf h hT ht hm hs (18+k - 1) o_;have o:=o o_;rw[show 18+k - 1+1=18+k by omega] at o;have r:=r o_;have⟨P,F⟩:=F5 hf h hT ht hm hs (i:=18+k+1) o_;refine⟨EV B f F r.k,λi b j=>?_⟩;have a:=(yV hf h hT ht hm hs (bY (18+k)) o_).len;have s:=r.c o.w L B i (by rw[a];exact b) j;have cg:=f.cg (i:=i) (by rw[a];exact b) j;have z:=((Ke hf h hT ht hm hs (i:=18+k) o_ b).1.ch.getD j).2;have E:=o.tm i (by rw[a];exact b) j;rw[f.now] at E;have c:(((Wv.dJ (18+k) v).state i).ps.getD j s0).made<255:=by
    have⟨n,A,_⟩:=f.at_ (i:=i) (by rw[a];exact b);have:=f.w.begun i n A j;rw[<-pE A] at this;omega
   show tS (((Wv.dJ (18+k+1) v).state i).ps.getD j s0)<=17 - (k+1)\/FE cf (((Wv.dJ (18+k+1) v).state i).ps.getD j s0);rcases s with⟨p,e⟩|⟨p,q,M,e⟩
   ·rw[e];rcases aOy cg z d K c E with l|y|g
    ·rw[p] at l;cases l
    ·rw[y];exact .inl (bY _)
    ·exact .inr g
   ·rw[e];have w:=(Z9 cg z M D).1;rcases N i b j with y|g
    ·exact .inl o_
    ·rw[aMx g] at p;cases p
 have⟨k1,k2⟩:=x 22 (bM _);exact⟨⟨L,k1⟩,λi b j=>(k2 i b j).imp (λh=>Nat.le_zero.1 (show tS (((Wv.dJ 40 v).state i).ps.getD j s0)<=0 from h)) id⟩
theorem aGf(o:40<=m)(y:∀i,i<v.aD.length->∀j,zU (((Wv.dJ 40 v).state i).ps.getD j s0).l cf (Wv.dJ 40 v).now=false):(Wv.dJ 40 v).quiet=true:=by
 have⟨⟨L,s⟩,z⟩:=aJn hf h hT ht hm hs o;have⟨H,f⟩:=F5 hf h hT ht hm hs (i:=40) o_;have⟨_,_,_,r⟩:=DN hf h hT ht hm hs 39 o_;have r:=r o_;have b:=(yV hf h hT ht hm hs (bY 40) o_).len;have gd:=λj w=>Ke hf h hT ht hm hs (i:=40) (j:=j) o_ w;have⟨_,_,_,_,x⟩:=hf;have one:∀i,i<(Wv.dJ 40 v).aD.length->(Wv.dJ 40 v).up i=true/\((Wv.dJ 40 v).state i).quiet=true/\((Wv.dJ 40 v).state i).v.l=((Wv.dJ 40 v).state 0).v.l:=λi a=>by
  have⟨n,A,u,_⟩:=f.at_ a;refine⟨?_,?_,(s i a).1.trans (s 0 o_).1.symm⟩
  ·unfold Wv.up;rw[A];exact u.up
  ·unfold Sv.quiet yU;rw[(s i a).2,fI];refine⟨rfl,qR.2 λp B=>?_⟩;have⟨j,w⟩:=vH B;have e:((Wv.dJ 40 v).state i).ps.getD j s0=p:=by rw[qS,w];rfl
   rw[b] at a;have q:=((gd i a).1.ch.getD j).2;have c:=z i a j;have g:=y i a j;have l:=r.tm i (by rw[b];exact a) j;change ∀e∈(((Wv.dJ 40 v).state i).ps.getD j s0).l,_ at l;rw[e] at q c g l;rcases c with c|c
   ·exact Z8 q c
   ·rw[aFq c q x l] at g;cases g
 have d:∀k r,r+k<=(Wv.dJ 40 v).aD.length->AM (Wv.dJ 40 v) r k=true:=by
  intro k
  induction k with
  |zero=>exact λ_ _=>rfl
  |succ k E =>
   intro r F;unfold AM;rw[c! (one r o_)];exact E (r+1) o_
 have D:(Wv.dJ 40 v).ws=[]:=r.w;unfold Wv.quiet;rw[D];exact d _ 0 o_
end
def L0{f:Nat->List cK}{P:Nat->Dv->Prop}{m:Nat}(a:∀r d,r<m->P r d->P (r+1) (d.oH (f r))):∀ {k r:Nat} {d:Dv},r+k<=m->P r d->P (r+k) (yD f r k d)
 |0,_,_,_,h=>h
 |k+1,r,d,hm,h=>by
  have:=L0 a (k:=k) (r:=r+1) (d:=d.oH (f r)) o_ (a r d o_ h);rw[show r+1+k=r+(k+1) by omega] at this;exact this
structure Sg(T:Int)(v0 v:Wv):Prop where
 w:WI T v
 cf:v.cf=v0.cf
 now:v.now=v0.now
 ref:v.ref=0
 sub:v.sub=v0.sub
 ws:v.ws=v0.ws
 s:gH v0 v
def Sg.Al{T:Int}{f:Wv}(h:Sg T f v){r:Nat}(p:r<v.aD.length)(m:r<=3){k:Int}(a:k=14\/k=13){n:Nd}(b:v.aD[r]?=some n)(o:(vD v.ref n (bP k r 0 0)).1.2.state=n.state) :
  Sg T f (v.step (bP k r 0 0)).1/\(v.step (bP k r 0 0)).1.aD=v.aD.set r (vD v.ref n (bP k r 0 0)).1.2:=by
 have l:(bP k r 0 0).check=0:=IF o_ o_ sD sD (by rcases a with rfl|rfl<;>rfl);have e:=EY l (i:=r) (jK r) b;have g:v.wP r n (bP k r 0 0)=v.Al r n (bP k r 0 0):=by rcases a with rfl|rfl<;>rfl
 have c:=(h.w.step (bP k r 0 0) (EX _ _ _ _)).1;rw[e,g] at c⊢;rw[show rE (bP k r 0 0)=0 by rcases a with rfl|rfl<;>rfl,BW] at c;refine⟨⟨c,h.cf,h.now,?_,h.sub,h.ws,?_⟩,rfl⟩
 ·show(vD v.ref n (bP k r 0 0)).1.1=0;rcases a with rfl|rfl
  ·show(if n.up then((v.ref,n.arm (0 - 1)),(⟨0,0,0⟩:iX)) else((v.ref,n),⟨19,0,0⟩)).1.1=0;split<;>exact h.ref
  ·exact h.ref
 ·refine h.s.trans ⟨iM ..,λj=>?_⟩;unfold Wv.state;dsimp only;rw[xG b];by_cases d:j=r
  ·subst d;rw[c! rfl,b];exact o
  ·rw[b! d]
theorem aPc{cf:bW}{T:Int}(h:WI T v)(hcf:v.cf=cf)(hsub:v.sub<=48)(hws:v.ws.length<=128)(hlen:1<=v.aD.length/\v.aD.length<=4):FI cf T v.now v.start/\gH v v.start:=by
 have⟨n0,hn0⟩:∃n,v.aD[0]?=some n:=⟨_,bS o_⟩;have s1:Sg T v ((Dv.mk v false).dB (bP 11 0 0 0)).w:=by
  have e:=EY (v:=v) (st:=bP 11 0 0 0) sD (i:=0) rfl hn0;have hw:=(h.step (bP 11 0 0 0) (EX _ _ _ _)).1;show Sg T v (v.step (bP 11 0 0 0)).1;rw[e] at hw⊢;rw[show rE (bP 11 0 0 0)=0 from rfl,BW] at hw;refine⟨hw,rfl,rfl,rfl,rfl,rfl,iM ..,λj=>?_⟩;have hnd:(v.wP 0 n0 (bP 11 0 0 0)).1.aD=v.aD:=Km hn0;grind [Wv.state]
 have s2:=L0 (f:=eV 14) (P:=λr d=>Sg T v d.w/\∀(i:Nat) (n:Nd),d.w.aD[i]?=some n->i<r->n.up=true->n.ls.aO = -1) (m:=((Dv.mk v false).dB (bP 11 0 0 0)).w.aD.length) (λr d hr ⟨k,ka⟩=>by
  have hl:d.w.aD.length=v.aD.length:=k.s.1;have hl1:=s1.s.1;have hn:d.w.aD[r]?=some d.w.aD[r]:=bS o_;generalize d.w.aD[r]=n at hn;have eh:(vD d.w.ref n (bP 14 r 0 0)).1.2=n.arm (-1):=by
   show(if n.up then((d.w.ref,n.arm (0 - 1)),(⟨0,0,0⟩:iX)) else((d.w.ref,n),⟨19,0,0⟩)).1.2=_;grind [Nd.arm]
  have⟨a,b⟩:=k.Al (r:=r) o_ o_ (.inl rfl) hn (by
   rw[eh];unfold Nd.arm;by_cases hu:n.up=true
   ·rw[c! hu,jH hu];exact jH rfl
   ·rw[b! hu])
  refine⟨a,λi m hm hi hu=>?_⟩;have hm:(d.w.step (bP 14 r 0 0)).1.aD[i]?=some m:=hm;rw[b,xG hn] at hm;split at hm
  ·obtain rfl:=iN hm;rw[eh] at hu⊢;unfold Nd.arm at hu⊢;by_cases hu2:n.up=true
   ·rw[c! hu2];have hd:=((k.w.h.nv _ n hn).1.ok.inv hu2).2;show(if n.ls.dead then n.ls.aO else max (-1) (-1)) = -1;rw[hd];rfl
   ·rw[b! hu2] at hu;exact i! hu hu2
  ·exact ka i m hm o_ hu) (k:=((Dv.mk v false).dB (bP 11 0 0 0)).w.aD.length - 0) (r:=0) (d:=(Dv.mk v false).dB (bP 11 0 0 0)) o_ ⟨s1,λi n _ hi=>by omega⟩
 change Sg T v (((Dv.mk v false).dB (bP 11 0 0 0)).all 0 (eV 14)).w/\∀(i:Nat) (n:Nd),(((Dv.mk v false).dB (bP 11 0 0 0)).all 0 (eV 14)).w.aD[i]?=some n->_ at s2;have hl1:=s1.s.1;have est:v.start=((((Dv.mk v false).dB (bP 11 0 0 0)).all 0 (eV 14)).all 0 (eV 13)).w:=rfl;rw[est];generalize ((Dv.mk v false).dB (bP 11 0 0 0)).all 0 (eV 14)=d2 at *;have hl2:=s2.1.s.1;have s3:=L0 (f:=eV 13) (P:=λr d=>Sg T v d.w/\∀(i:Nat) (n:Nd),d.w.aD[i]?=some n->(n.up=true->n.ls.aO = -1)/\(i<r->n.up=true)) (m:=d2.w.aD.length) (λr d hr ⟨k,ka⟩=>by
  have hl:d.w.aD.length=v.aD.length:=k.s.1;have hn:d.w.aD[r]?=some d.w.aD[r]:=bS o_;generalize d.w.aD[r]=n at hn;have eh:(vD d.w.ref n (bP 13 r 0 0)).1.2=n.qJ.1:=rfl;have⟨a,b⟩:=k.Al (r:=r) o_ o_ (.inr rfl) hn (by
   rw[eh];unfold Nd.qJ;by_cases hu:n.up=true
   ·rw[c! hu]
   ·rw[b! hu,IE (n:=n) (by grind)];exact jH (n:=n.opened) rfl)
  refine⟨a,λi m hm=>?_⟩;have hm:(d.w.step (bP 13 r 0 0)).1.aD[i]?=some m:=hm;rw[b,xG hn] at hm;split at hm
  ·obtain rfl:=iN hm;rw[eh];unfold Nd.qJ;by_cases hu2:n.up=true
   ·rw[c! hu2];exact⟨(ka r n hn).1,λ_=>hu2⟩
   ·rw[b! hu2];exact⟨λ_=>Jx (Frm.upto (cN n.ls.D n.ls.N (hb n.ls.D))) (uV n.ls.D n.ls.N),λ_=>rfl⟩
  ·exact⟨(ka i m hm).1,λhi=>(ka i m hm).2 o_⟩) (k:=d2.w.aD.length - 0) (r:=0) (d:=d2) o_ ⟨s2.1,λi n hi=>⟨λhu=>s2.2 i n hi (by grind) hu,λhi=>by omega⟩⟩
 change Sg T v (d2.all 0 (eV 13)).w/\∀(i:Nat) (n:Nd),(d2.all 0 (eV 13)).w.aD[i]?=some n->_ at s3;have⟨k,ka⟩:=s3;have hl3:=k.s.1;refine⟨⟨k.w,k.cf.trans hcf,k.now,λi n hn=>?_,k.ref,by rw[k.sub];exact hsub,by rw[k.ws];exact hws,by rw[hl3];exact hlen⟩,k.s⟩;have⟨a,b⟩:=ka i n hn;have hu:=b (by grind);exact⟨hu,((k.w.h.nv i n hn).1.ok.inv hu).2,a hu⟩
theorem aNl(h:v.quiet=true):∀i,i<v.aD.length->(v.state i).quiet=true/\(v.state i).v.l=(v.state 0).v.l:=by
 have a:∀k r,AM v r k=true->∀i,r<=i->i<r+k->(v.state i).quiet=true/\(v.state i).v.l=(v.state 0).v.l:=by
  intro k
  induction k with
  |zero=>exact λr _ i b c=>by omega
  |succ k e =>
   grind [AM]
 unfold Wv.quiet at h;split at h
 ·exact λi d=>a _ 0 h i (bY _) o_
 ·cases h
theorem Cg.LC{A:dT}{a:aL}{p:bC}(h:Cg A a p)(g:lK p)(t:(A.a.map aM.key).Nodup)(i:Sep.quiet p.l p.w=true)(k:Nat):((rC a (pF A.a))[k]?).map aM.bD=p.w[k]?:=by
 unfold Sep.quiet at i;have i:=(fI _ _).mp i;have n:=g! i.1;have u:∀e∈p.l,e.dN=true/\e.gone=false:=λe d=>by
  grind [aN.eO]
 have r:=h.ends t u g.iW λe d=>⟨by have:=g.may e d;rw[aN.eY] at this;exact this.1.1,g.pos e d⟩
 have l:=j! List.length r;rw[fB,fB] at l;by_cases v:k<p.l.length
 ·have d:p.l[k]?=some p.l[k]:=bS v;generalize p.l[k]=e at d;have c:(rC a (pF A.a))[k]?=some (rC a (pF A.a))[k]:=bS o_;generalize (rC a (pF A.a))[k]=q at c;have f:((rC a (pF A.a)).map λq=>q.key.ord)[k]?=(p.l.map aN.ord)[k]?:=by rw[r]
  rw[mM,mM,c,d] at f;have f:=iN f;dsimp only at f;have o:=dG c;unfold rC at o;have⟨j,b⟩:=uI.1 o;have b:=g! b;have⟨_,_,w,s,_⟩:=Fk j;have m:q∈A.a:=by grind
  have x:=h.bD e (dG d) q m (by
   have⟨⟨z,B,D⟩,E⟩:=q;dsimp only at b s f⊢;rw[b,s,f])
  rw[c];show some q.bD=_;rw[x];have y:=BF.1 g.gone k e d;grind [List.mem_of_getElem?,B6]
 ·grind
theorem aNc{v:Lg}(e:(v.l.map aI.id).Nodup){m:Nat}(a:v.l[m]?=some c):iZ v c.id=(((fM fY v.l).2[m]?).getD ⟨0,[]⟩,true,true):=by
 have b:eH v.l c.id=m:=Ho (x:=c) a (d! rfl) λj y d f=>e! λe=>by
  grind [List.getElem?_eq_some_iff,List.pairwise_iff_getElem]
 grind [iZ]
theorem ends{T:Int}{w:Wv}(h:WI T w)(hl:1<=w.aD.length)(hq:w.quiet=true):(∀i,i<w.aD.length->(w.state i).v.l=(w.state 0).v.l/\(w.state i).v.t=[])/\((w.state 0).v.l.map aI.id).Nodup/\xA w.app=wT (w.state 0).v.l:=by
 have qa:=aNl hq;have gd:∀i,i<w.aD.length->∃n,w.aD[i]?=some n/\w.state i=n.state/\Gd (w.state i)/\(w.state i).r=i:=λi a=>by
  have u:w.aD[i]?=some w.aD[i]:=bS a;have⟨_,g,_,r,_⟩:=h.h.gd u;grind [pE]
 have E:∀i,i<w.aD.length->(w.state i).v.l=(w.state 0).v.l/\(w.state i).v.t=[]:=λi a=>by
  grind [Sv.quiet]
 have⟨n0,W,e0,g0,_⟩:=gd 0 o_;have b:(w.state 0).all=(w.state 0).v.l:=by grind [Sv.all]
 have K:((w.state 0).v.l.map aI.id).Nodup:=by rw[<-b];exact g0.ids
 refine⟨E,K,?_⟩;have cg:∀i j,i<w.aD.length->Cg ⟨w.app,w.now⟩ (dC i j) ((w.state i).ps.getD j s0):=λi j a=>by
  have⟨n,u,e,_⟩:=gd i a;have:=(h.h.nv i n u).1.ext.cg (h.h.gd u).1 (h.h.cg i n u) j;grind
 have LC:∀(i j k:Nat),i<w.aD.length->j<(w.state i).ps.length->((rC (dC i j) (pF w.app))[k]?).map aM.bD=((w.state i).ps.getD j s0).w[k]?:=λi j k a t=>by
  have⟨n,u,e,g,_⟩:=gd i a;have y:=(qa i a).1;unfold Sv.quiet yU at y;have X:(w.state i).ps.getD j s0∈(w.state i).ps:=by grind
  exact(cg i j a).LC (g.ch.getD j).2 h.un (qR.1 ((fI _ _).mp y).2 _ X) k
 have s:∀(i j m:Nat) (c:aI),i<w.aD.length->j<(w.state i).ps.length->(w.state 0).v.l[m]?=some c->c.id=dC i j->(LA (w.state 0).v.l)[m]?=some ((w.state i).ps.getD j s0).w:=λi j m c a t B d=>by
  have⟨n,u,e,g,r⟩:=gd i a;have X:(w.state i).ps[j]?=some ((w.state i).ps.getD j s0):=by grind
  have l:=g.w j _ X;rw[r] at l;have ho:=aNc (v:=(w.state i).v) (by grind) (by rw[(E i a).1];exact B);rw[d] at ho;unfold oR at l;change (if (iZ _ (dC i j)).2.2 then some (qM (iZ _ (dC i j)).1 (iZ _ (dC i j)).2.1) else none)=_ at l;rw[ho,c! rfl,(E i a).1] at l;have⟨o,a8⟩:∃o,(fM fY (w.state 0).v.l).2[m]?=some o:=⟨_,bS (by grind [BD,List.getElem?_eq_some_iff])⟩;grind
 refine aKd K λx=>⟨?_,?_⟩
 ·rintro⟨k,q,F,P⟩;have B:=dG F;unfold rC at B;have⟨U,D⟩:=uI.1 B;have D:=g! D;have⟨_,_,a9,_⟩:=Fk U;have N:q∈w.app:=by grind
  have⟨i,j,a,d⟩:=h.h.ids q N;have z:x.key.id=dC i j:=D.symm.trans d;have⟨n,u,e,g,r⟩:=gd i a;have t:j<(w.state i).ps.length:=by
   refine LQ λhno=>?_;have:=(cg i j a).made q N d
   grind
  have l:=LC i j k a t;rw[<-z,F] at l;have A:=g.n;rw[r] at A;have⟨c,H,J⟩:=Cz g.v.lQ (r:=i) (q:=((j+1:Nat):Int)) (by have:=g.rep;rw[r] at this;exact this) (by rw[vC];omega) o_;rw[(E i a).1,(E i a).2,aY] at H;have⟨m,B⟩:=vH H;have p:c.id=dC i j:=J;exact⟨m,c,_,k,q.bD,B,s i j m c a t B p,l.symm,by rw[p,<-z];exact P⟩
 ·rintro⟨m,c,wl,k,f,F,P,h3,rfl⟩;have H:=dG F;have M:∃i,i<w.aD.length/\c.id.rep=i/\c∈(w.state i).all:=by
   by_cases O:c.id.rep=((0:Nat):Int)
   ·exact⟨0,o_,O,by rw[b];exact H⟩
   ·have⟨j,x,hx,t,R⟩:=h.h.own 0 n0 W c (by rw[<-e0,b];exact H) O;exact⟨j,(cH.1 hx).1,t,by rw[pE hx];exact(h.h.gd hx).2.2.2.2.2 c R⟩
  have⟨i,a,O,Q⟩:=M;have⟨n,u,e,g,r⟩:=gd i a;have⟨_,p2,p3⟩:=CK g Q;have A:=g.n;rw[r] at A;rw[O] at p3;have d:c.id=dC i (c.id.seq - 1).toNat:=by
   unfold dC;rw[show(((c.id.seq - 1).toNat+1:Nat):Int)=c.id.seq by omega,<-O]
  have t:(c.id.seq - 1).toNat<(w.state i).ps.length:=o_;have l:=s i _ m c a t F d;rw[P] at l;have l:=iN l;have hk:=LC i _ k a t;rw[<-l,h3,<-d] at hk;have⟨q,y,Z⟩:=PZ.1 hk;exact⟨k,q,y,by rw[Z]⟩
end
section
open Go.RowKit Reg Oct
open Mem hiding Rd
section
variable (E:Env) (g:Nat) (r:Int) (ps:List bC)
def aAq(o:ps.length<=1000)(cf:bW)(now:Int):G E 166 [pt g,.agg cf.cs.toArray,a! now] [eF g r ps] λe f=>∃O a,e=.returned (.slice O (gD (mO r cf now) ps ps.length).length a)/\f=[own qY O (gD (mO r cf now) ps ps.length).length a (gD (mO r cf now) ps ps.length),eF g r ps]:=by
 refine Bz λx c=>?_;have i:x.ls.length=ps.length:=by rw[<-c.ps,fB]
 refine aF.post (aGw E g x.B x.ls.length x.d r x.ls cf now o_ rfl c.ok) ?_;rintro e f ⟨O,m,a,rfl,rfl,rfl⟩;rw[c.ps,i];refine⟨[own qY O (gD (mO r cf now) ps ps.length).length a (gD (mO r cf now) ps ps.length),eF g r ps],?_,O,a,rfl,rfl⟩;intro w p;have l:St E (jA g x.B x.ls.length x.d r x.ls++[own qY O (gD (mO r cf now) ps ps.length).length a (gD (mO r cf now) ps ps.length)]) w:=p.conv λF j=>by
  rw[<-i] at j⊢;have⟨d,k,q,u,y,z⟩:=j;exact⟨F,jU.2 ⟨k,d,λb=>by rw[q b];exact Or.comm,λb A B=>u b B A,z,⟨d,λ_=>False,λb=>by simp,λ_ _ h=>h,y,λ_ h=>h⟩⟩,λ_ h=>h⟩
 have n:=eF.mk (E:=E) (g:=g) c w l;exact(show aB E [eF g r ps,_] [_,eF g r ps] from aC) w n
end
section
variable (E:Env) (g:Nat) (s:Sv) (os:List Ov)
def aLd(k:s.ps.length<=48)(cf:bW)(now:Int):G E 103 [pt g,.agg cf.cs.toArray,a! now] [cT g s os] λe h=>∃O c,e=.returned (.slice O (gD (mO s.r cf now) s.ps s.ps.length).length c)/\h=[own qY O (gD (mO s.r cf now) s.ps s.ps.length).length c (gD (mO s.r cf now) s.ps s.ps.length),cT g s os]:=by
 refine vX λa b=>?_;have f:=λM hb=>Kv M g a b s hb;have d:=λM=>aAq M a s.r s.ps o_ cf now;generalize gD (mO s.r cf now) s.ps s.ps.length=l at d⊢;dsimp only[gC,bW.cs] at d⊢;refine t_ func103 ntmps103 ?_;repeat first|refine v_ ?_|intro
 rename_i i;refine rB (l_ [0,2,3] (g_ 1 (g_ 4 (n_ 5 .nil)))) ([aE i 23 _]) ?_;repeat first|refine v_ ?_|intro
 refine uO f ?_;repeat first|refine v_ ?_|intro
 refine eI d ?_;rintro e h ⟨O,c,rfl,rfl⟩;repeat first|refine v_ ?_|intro
 have j:=cT.mk (E:=E) (R:=[own qY O l.length c l]) (g:=g) (a:=a) (b:=b) (s:=s) (os:=os);exact aX (H':=[own qY O l.length c l,cT g s os]) rfl aJ (aB.trans (aB.cC (l:=gC g a b s os++[own qY O l.length c l]) aH) (aB.trans j aC)) ⟨O,c,rfl,rfl⟩
end
def Sv.dead(s:Sv)(cf:bW)(now:Int):List bV:=gD (mO s.r cf now) s.ps s.ps.length
def aQo(E:Env)(P:List Ov)(g:Nat)(s:Sv)(cf:bW)(now:Int):G E 103 [pt g,.agg cf.cs.toArray,a! now] [cA P g s] λe c=>∃O b,e=.returned (.slice O (s.dead cf now).length b)/\c=[own qY O (s.dead cf now).length b (s.dead cf now),cA P g s]:=by
 refine aF.fp Has.aR λos a=>aF.post (aLd E g s os a.2.np cf now) ?_;rintro e c ⟨O,b,rfl,rfl⟩;exact⟨[own qY O (s.dead cf now).length b (s.dead cf now),cA P g s],aB.eG (aZ.cons aZ.refl (cA.mk a)),O,b,rfl,rfl⟩
def Ye(s:Sv)(cf:bW)(now:Int):(s.dead cf now).length<=s.ps.length:=Pd (λi s=>by unfold mO;split<;>(try split)<;>simp) _ _
def L.Ms{N:Nat}{E:Env}{F:Nat->p!}{H R:List aG}{Q:QF}{b os:List Oper}{P:List Ov}{g:Nat}{s:Sv}(e:Has (cA P g s) H R)(h:Gd s->L prog N E b Q os F H):L prog N E b Q os F H:=⟨λa w d c=>by
 have⟨x,f,_⟩:=c.Jf e;exact(h f.2).get a w d c⟩
section
variable (E:Env) (P:List Ov) (g t:Nat) (v:Wv)
def aAd(r:Nat)(n:Nd)(c:v.aD[r]?=some n)(l:t<=1000000):G E 42 [pt g,a! r] [dD P g t v,aQ P] λe h=>∃Q a,e=.returned (pt a)/\h=[cA (P++Q) a n.stored,dD (P++Q) g t v,aQ (P++Q)]:=by
 refine Eg E P g t v λx i m=>?_;have fK:=i.fK;have⟨b,f⟩:∃b,x.gs[r]?=some b:=⟨_,bS (by have:=(cH.1 c).1;omega)⟩
 have d:=λM hb j=>Eh M g x v.now v.bI.length v.cf v.aD.length v.sub r b hb fK.2 j f;dsimp only[k!,l!];refine aF.pre (AU (k:=kt t) f c (.bJ (.bJ (.bJ (.bJ (.bJ .aR)))))) ?_;have st:=λM=>TK M P b v.cf n (kt t) (EB l);refine p_ func42 ntmps42 ?_
 refine F_ d ?_
 refine u_ st ?_;intro Q a
 refine aX (H':=[cA (P++Q) a n.stored,dD (P++Q) g t v,aQ (P++Q)]) rfl aJ (aB.trans (zC (t:=t) (v:=v) (v':=v) (x':=x) (Q:=Q) (bM t) rfl f c (dV _) i m (CL c).symm rfl rfl aH) aC) ⟨Q,a,rfl,rfl⟩
noncomputable def Wv.dead(v:Wv):Nat->List bV
 |0=>[]
 |r+1=>v.dead r++(v.state r).dead v.cf v.now
def aMl(ht:t<=1000000)(hn:(1<=v.aD.length/\v.aD.length<=4)/\(v.aD.length:Int)=v.cf.eD):G E 43 [pt g] [dD P g t v,aQ P] λe H'=>∃Q O c,e=.returned (.slice O (v.dead v.aD.length).length c)/\H'=[own qY O (v.dead v.aD.length).length c (v.dead v.aD.length),dD (P++Q) g t v,aQ (P++Q)]:=by
 have hmax:=cS;have cfg:=λM P=>IU M P g t v;have nw:=λM P=>aCz M P g t v;obtain⟨n,hnn⟩:∃n,v.aD.length=n:=⟨_,rfl⟩
 rw[hnn] at hn⊢;refine t_ func43 ntmps43 ?_;repeat first|refine v_ ?_|intro
 refine aP (λM=>cfg M P) ?_;repeat first|refine v_ ?_|intro
 refine C.loop (X:=Nat×List Ov×n!×Nat) (λx=>[(0,pt g),(3,.slice x.2.2.1 (v.dead x.1).length x.2.2.2),(7,a! n),(8,a! x.1)])
  (λx=>[own qY x.2.2.1 (v.dead x.1).length x.2.2.2 (v.dead x.1),dD (P++x.2.1) g t v,aQ (P++x.2.1)]) (λx=>x.1<=n/\(v.dead x.1).length<=48*x.1) (λx=>n - x.1) (0,[],none,0) (by rw[<-hn.2];exact aK) (by dsimp only;rw[aY];exact(aB.mR qY none).trans aC) ⟨bY _,bM _⟩ ?_
 rintro⟨i,Q,O,c⟩ F ⟨hi,hd⟩;dsimp only at hi hd⊢;by_cases hlt:i<n
 ·obtain⟨nd,hnd⟩:∃nd,v.aD[i]?=some nd:=⟨_,bS o_⟩;have hst:v.state i=nd.state:=by unfold Wv.state;rw[hnd]
  repeat first|refine v_ ?_|intro
  refine aU (λM=>IW M (P++Q) g t v i nd hnd ht) ?_;rintro e H' ⟨Q2,g2,rfl,rfl⟩;repeat first|refine v_ ?_|intro
  refine L.Ms (g:=g2) (s:=nd.state) aV λhg=>?_;have hdl:=Ye nd.state v.cf v.now;have hnp:=hg.np;refine aP (λM=>cfg M (P++Q++Q2)) ?_;repeat first|refine v_ ?_|intro
  refine aP (λM=>nw M (P++Q++Q2)) ?_;repeat first|refine v_ ?_|intro
  refine aU (λM=>aQo M (P++Q++Q2) g2 nd.state v.cf v.now) ?_;rintro e H' ⟨O2,c2,rfl,rfl⟩;repeat first|refine v_ ?_|intro
  rename_i B2 d2 _ _;have e:v.dead (i+1)=v.dead i++nd.state.dead v.cf v.now:=by rw[<-hst];rfl
  refine⟨(i+1,Q++Q2,B2,d2),?_,?_,⟨by dsimp only;omega,?_⟩,d_⟩
  ·dsimp only;rw[e,bR];exact aK
  ·dsimp only;rw[e,bR,<-bF];exact aC
  ·dsimp only;rw[e,bR];omega
 ·obtain rfl:i=n:=o_;repeat first|refine v_ ?_|intro
  exact dS ⟨Q,O,c,rfl,rfl⟩
end
end
section
noncomputable def Wv.stored(v:Wv)(r:Nat):Sv:=match v.aD[r]? with
 |some n=>n.stored
 |none=>xI 0
noncomputable def Wv.AO(v:Wv):Nat->List aI
 |0=>[]
 |r+1=>v.AO r++(v.stored r).v.l++(v.stored r).v.t
def Cr(c:aI)(l:List aI):Nat:=l.countP λx=>decide (x=c)
theorem YP{x:aI}{l:List aI}(h:l[i]?=some x):Cr c (l.take (i+1))=Cr c (l.take i)+if x=c then 1 else 0:=by
 grind [List.getElem?_eq_some_iff,Cr,List.take_append_getElem,List.countP_singleton]
theorem YO{l:List aI}(e:(l.map aI.id).Nodup)(d:c∈l):Cr c l=1:=by
 obtain⟨a,b,rfl⟩:=Ld d
 grind [List.nodup_append,List.countP_eq_zero,List.mem_map_of_mem,hb,List.nodup_cons,Cr]
theorem Pe{α:Type}{f:Nat->bC->List α}{ps:List bC}:∀ {k:Nat},gD f ps k=[]->∀i p,i<k->ps[i]?=some p->f i p=[]
 |0,_,_,_,h,_=>by omega
 |k+1,h,i,p,c,hp=>by
  have⟨a,b⟩:=List.append_eq_nil_iff.1 (show gD f ps k++_=[] from h);by_cases e:i=k
  ·grind
  ·exact Pe a i p o_ hp
theorem Qk:∀ {n:Nat},v.dead n=[]->∀i,i<n->∀j,zU (((v.state i).ps.getD j s0).l) v.cf v.now=false
 |0,_,i,c,_=>by omega
 |n+1,h,i,c,j=>by
  have⟨a,b⟩:=List.append_eq_nil_iff.1 (show v.dead n++(v.state n).dead v.cf v.now=[] from h);by_cases e:i=n
  ·subst e;by_cases d:j<(v.state i).ps.length
   ·have f:(v.state i).ps[j]?=some ((v.state i).ps.getD j s0):=by grind
    have:=Pe b j _ d f
    grind [mO,zU]
   ·rw[qS,CY.2 o_];rfl
  ·exact Qk a i o_ j
structure WA(v w:Wv):Prop where
 q:w.quiet=true
 a:∀i,i<w.aD.length->(w.state i).v.l=(w.state 0).v.l/\(w.state i).v.t=[]
 n:((w.state 0).v.l.map aI.id).Nodup
 m:xA w.app=wT (w.state 0).v.l
 s:∀i,i<=v.aD.length->∀c∈v.AO i,c∈(w.state 0).v.l
 x:(wU (w.state 0).v.l).length<=100000/\((wU (w.state 0).v.l).map aM.key).Nodup
theorem Yd{t:Nat}{T:Int}(h:WI T v)(hT:T<=80)(hnow:v.now<=80000)(hok:v.ok t)(hsh:(v.fair 40).2.2=false)(hd:(v.fair 40).1.dead (v.fair 40).1.aD.length=[]):WA v (v.fair 40).1:=by
 have fK:=hok.fK;have⟨f0,s0⟩:=aPc h rfl hok.sub.2 hok.pk.2 fK;have⟨_,j,hj,e,hs,hor⟩:=RM hsh;have e:(v.fair 40).1=Wv.dJ j v.start:=e;rw[e] at hd⊢;have fi:=λi hi=>DN hok.dI f0 hT o_ hj hs i hi;have kp:=λ{a b:Nat} (h1:a<=b) (h2:b<=j)=>yV hok.dI f0 hT o_ hj hs h1 h2;have hq:(Wv.dJ j v.start).quiet=true:=by
  rcases hor with rfl|hq
  ·refine aGf hok.dI f0 hT o_ (bM _) hs (bM _) λi hi k=>?_;have⟨ti,_,f,_⟩:=fi 40 (bM _);have:=Qk hd i (by rw[(kp (bY 40) (bM _)).len];exact hi) k;rw[f.cf] at this;exact this
  ·exact hq
 have⟨ti,_,f,_⟩:=fi j (bM _);have⟨a1,a2,a3⟩:=ends f.w f.len.1 hq;have k0:=s0.kp.trans (kp (bY j) (bM _));refine⟨hq,a1,a2,a3,λi hi c hc=>?_,?_,Me _ a2⟩
 ·induction i with
  |zero=>cases hc
  |succ i ih =>
   have hc:c∈v.AO i++(v.stored i).v.l++(v.stored i).v.t:=hc;rw[bF] at hc;rcases eL.1 hc with hc|hc
   ·grind
   ·have hn:v.aD[i]?=some v.aD[i]:=bS o_;have es:v.stored i=v.aD[i].stored:=by unfold Wv.stored;rw[hn]
    rw[es] at hc;have:=k0.all i c (by rw[pE hn];exact(h.h.gd hn).2.2.2.2.2 c hc);unfold Sv.all at this;have⟨b1,b2⟩:=a1 i (by rw[k0.len];omega);rw[b1,b2,aY] at this;exact this
 ·have⟨n,hn,hc,e1,g,_⟩:=f.at_ (i:=0) (by have:=f.len;omega);have hl:=g.v.len;have qE:=g.v.qE;rw[<-e1] at hl qE;have:=RJ (k:=8) (l:=((Wv.dJ j v.start).state 0).v.l) (W:=LA ((Wv.dJ j v.start).state 0).v.l) λw hw=>by
   obtain⟨o,ho,rfl⟩:=jX.1 hw;exact(O4 ((EP Bf qE).2 o ho) true).2
  show(oX _ (LA _)).length<=100000;omega
end
end Go.Proofs.YtmilalkjbojciaaGreat.Sep
