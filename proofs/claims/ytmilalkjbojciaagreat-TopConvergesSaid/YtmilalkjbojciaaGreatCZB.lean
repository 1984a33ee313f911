/- Part ZB: what it needs. No condition. -/
import Derived.Test.YtmilalkjbojciaaGreatCZA
set_option linter.all false
set_option maxRecDepth 100000
set_option maxHeartbeats 8000000
open Go.Proofs.Tryz
namespace Go.Proofs.YtmilalkjbojciaaGreat.Sep
variable{aD:List Nd}{c:aI}{cf:bW}{i:Nat}{m:Mg}{n':Nd}{q:aM}{t:Sv}{v:Wv}{z:V4×V4}
section
open Go.RowKit Reg Oct
open Mem hiding Rd
section
variable (E:Env)
def VO(A:n!)(m c:Nat)(l:List cK)(f:Rd E nK A m c l)(k:Nat):G E 23 [.slice A m c,a! k] [] (bL (.slice A (min m k) c) []):=by
 have b:=f.len;have a:=f.cap;have e:=cS;refine t_ func23 ntmps23 ?_;by_cases h:(k:Int)<m
 ·refine a_ ?_;exact aX rfl aJ aC (⟨by rw[E9 o_],rfl⟩)
 ·refine a_ ?_;exact aX rfl aJ aC (⟨by rw[nM o_],rfl⟩)
def aAt(c:bW):G E 9 [.agg c.cs.toArray] [] (bL (.bool (decide c.dI)) []):=by
 unfold bW.dI;refine t_ func9 ntmps9 ?_;repeat' (first|refine w_ ?_|refine k_ ?_|refine f_ ?_ ?_|intro _)
 all_goals exact aX rfl aJ aC ⟨iK,rfl⟩
variable (A:n!) (n c:Nat) (B:n!) (m d:Nat)
end
section
variable (E:Env) (P:List Ov) (g:Nat) (t:Nat) (v:Wv)
def IW(r:Nat)(n:Nd)(c:v.aD[r]?=some n)(o:t<=1000000):G E 13 [pt g,a! r] [dD P g t v,aQ P] λe h=>∃Q a,e=.returned (pt a)/\h=[cA (P++Q) a n.state,dD (P++Q) g t v,aQ (P++Q)]:=by
 refine Eg E P g t v λx i l=>?_;have fK:=i.fK;have⟨b,f⟩:∃b,x.gs[r]?=some b:=⟨_,bS (by have:=(cH.1 c).1;omega)⟩
 have d:=λM hb m=>Eh M g x v.now v.bI.length v.cf v.aD.length v.sub r b hb fK.2 m f;dsimp only[k!,l!];refine aF.pre (AU (k:=kt t) f c (.bJ (.bJ (.bJ (.bJ (.bJ .aR)))))) ?_;have up:=λM=>CB M P b v.cf n (kt t);unfold Nd.state;cases j:n.up with
 |true =>
  have st:=λM=>EK M P b v.cf n (kt t);rw[j] at up st;simp only[if_true] at st⊢;refine p_ func13 ntmps13 ?_
  refine F_ d ?_
  refine r_ up ?_
  refine u_ st ?_;intro a
  refine aX (H':=[cA P a n.s,dD P g t v,aQ P]) rfl aJ (aB.trans (zC (t:=t) (v:=v) (v':=v) (x':=x) (Q:=[]) (bM t) (aY P).symm f c (dV _) i l (CL c).symm rfl rfl aH) aC) ⟨[],a,rfl,by rw[aY]⟩
 |false =>
  have st:=λM=>TK M P b v.cf n (kt t) (EB o);rw[j] at up;simp only[tG,if_false];refine p_ func13 ntmps13 ?_
  refine F_ d ?_
  refine r_ up ?_
  refine u_ st ?_;intro Q a
  refine aX (H':=[cA (P++Q) a n.stored,dD (P++Q) g t v,aQ (P++Q)]) rfl aJ (aB.trans (zC (t:=t) (v:=v) (v':=v) (x':=x) (Q:=Q) (bM t) rfl f c (dV _) i l (CL c).symm rfl rfl aH) aC) ⟨Q,a,rfl,rfl⟩
end
end
section
section
variable {A:dT}
theorem NI.take{n:Nd}(h:NI A aD)(b:aD[i]?=some n){l:List Rc}(a:n.up=true->xN A aD i n.s l):Mv A aD i n (n.take l).1 0 0/\(n.take l).1.up=n.up:=by
 grind [Nd.take,NI.oP,Mv.refl]
theorem NI.sync{n:Nd}(h:NI A aD)(a:aD[i]?=some n):Mv A aD i n n.sync.1 0 0:=by
 have⟨b,c,_⟩:=(h.nv i n a).1.sync;exact h.dP a b c
theorem NI.Gy:∀ {k:Nat} {aD:List Nd} {n:Nd} {j:Nat},NI A aD->aD[0]?=some n->Mv A aD 0 n (oT k n j).1 0 0
 |0,aD,n,j,h,hn=>Mv.refl h hn (dV _) (dV _)
 |k+1,aD,n,j,h,hn=>by
  unfold oT;split
  ·grind [Mv.refl]
  ·rename_i c _;have a:=(h.take hn (l:=[.cD c.id]) λ_=>⟨⟨trivial,Ph _⟩,λ_=>⟨.inl rfl,trivial⟩⟩).1;split
   ·exact a.trans (NI.Gy (k:=k) (j:=j+1) a.h (BE hn))
   ·exact a
theorem Jk{ps:List bC}(h:i<ps.length)(p:bC)(j:Nat):(ps.set i p).getD j s0=if j=i then p else ps.getD j s0:=by
 grind
def IJ{s:Sv}{k:bV}{now:Int}(b:k.id=dC s.r i)(a:(s.doc (.fH k now)).2=0):(s.doc (.fH k now)).1=⟨s.v,s.ps.set i ((s.ps.getD i s0).dK (dC s.r i) now),s.r⟩/\i<s.ps.length:=by
 rw[show s.doc (.fH k now)=s.oF k now from rfl] at a⊢;unfold Sv.oF at a⊢;split at a
 ·rename_i g;rw[c! g];have f:(k.id.seq - 1).toNat=i:=by rw[b];show((((i+1:Nat):Int)) - 1).toNat=i;omega
  dsimp only at a⊢;unfold AD at a⊢;split at a
  ·rename_i c;rw[c! c];rw[f] at a⊢;dsimp only at a⊢;split at a
   ·rename_i e;have d:=((fI _ _).mp e).1;rw[c! d,b];refine⟨rfl,?_⟩;have:=c.2;rw[b] at this;have:((i+1:Nat):Int)<=s.ps.length:=this.2;omega
   ·cases a
  ·cases a
 ·cases a
def aEu{s:Sv}{k:bV}{now:Int}(a:k.id=dC s.r i)(d:(s.doc (.fH k now)).2=0):Lo 1 0 s (s.doc (.fH k now)).1:=by
 have⟨e,b⟩:=IJ a d;rw[e];refine⟨by dsimp only;omega,λj=>?_⟩;dsimp only;rw[Jk b];split
 ·rename_i c;subst c;exact(Oq _ _ _).2
 ·omega
theorem aBp{id:aL}{p:bC}(d:∀e∈p.l,0<=e.back)(now:Int)(h:next id p.made p.l p.w=some q):uE (p.dK id now) q.key q.bD:=by
 have c:=h;unfold next at h;unfold bC.dK rL;rw[c];dsimp only;cases a:jV p.l with
 |some e =>
  rw[a] at h;dsimp only at h⊢;split at h
  ·rename_i g;obtain rfl:=iN h;have⟨b,j⟩:=BN a;have i:=(cH.1 b).1;have hb:=d e (dG b);refine⟨⟨e.dK now,?_,?_⟩⟩;all_goals grind [aN.dK,aN.gO,aN.eO]
  ·cases h
 |none =>
  rw[a] at h;obtain⟨_,f,_,rfl⟩:=C3 h;refine⟨⟨sM ⟨⟨id,p.made+1,false⟩,f⟩ now,?_,rfl,rfl,.inl ⟨rfl,rfl⟩⟩⟩;grind
theorem aDw{s:Sv}(d:Gd s)(g:Ce s q){now:Int}(h:(s.doc (.fH q.key now)).2=0):pS A (s.doc (.fH q.key now)).1 q:=by
 have⟨i,a,f⟩:=g;have⟨e,b⟩:=IJ a h;rw[e];refine .inr ⟨i,a,?_⟩;dsimp only;rw[Jk b,c! rfl];refine aBp (λe c=>?_) now f;have:=(d.ch.getD i).2.may e c
 grind [aN.eY]
theorem TN{s:Sv}{y:aM}(d:Ce s q)(f:Ce s y)(c:q.key.id≠y.key.id){now:Int}(g:(s.doc (.fH q.key now)).2=0):Ce (s.doc (.fH q.key now)).1 y:=by
 have⟨i,a,_⟩:=d;have⟨j,b,k⟩:=f;have⟨e,h⟩:=IJ a g;rw[e];refine⟨j,b,?_⟩
 grind
theorem IY(n:Nd)(x:Rc):((n.write x).2≠0/\(n.write x).1.s=n.s)\/((n.write x).2=0/\(n.s.doc x).2=0/\(n.write x).1.s=(n.s.doc x).1):=by
 grind [Nd.write]
structure FF(now:Int)(s s':Sv)(l:List aM):Prop where
 v:s'.v=s.v
 r:s'.r=s.r
 n:s'.ps.length=s.ps.length
 at_:∀j,s'.ps.getD j s0=if dC s.r j∈l.map (λq=>q.key.id) then(s.ps.getD j s0).dK (dC s.r j) now else s.ps.getD j s0
def FF.lo{now:Int}{s s':Sv}{l:List aM}(h:FF now s s' l):Lo 1 0 s s':=by
 refine⟨by rw[h.v,h.r];omega,λj=>?_⟩;rw[h.at_];split
 ·exact(Oq _ _ _).2
 ·omega
theorem Ol{now:Int}:∀ {l acc:List aM} {n:Nd},(∀q∈l,Ce n.s q)->(l.map λq=>q.key.id).Nodup->∃a,a <+: l/\(n.tries now l acc).2.1=acc++a/\((n.tries now l acc).2.2=0->a=l)/\FF now n.s (n.tries now l acc).1.s a
 | [],acc,n,_,_=>⟨[],E3 _,(aY _).symm,λ_=>rfl,rfl,rfl,rfl,λj=>by rw[tI,b! cZ];rfl⟩
 |q::l,acc,n,k,d=>by
  unfold Nd.tries;rcases IY n (.fH q.key now) with⟨c,e⟩|⟨c,m,e⟩
  ·rw[b! c];exact⟨[],Ln,(aY _).symm,λh=>i! h c,by rw[e],by rw[e],by rw[e],λj=>by rw[tI,b! cZ,e]⟩
  ·rw[c! c];rw[jL,Cb] at d;have b:=k q (.head _);have⟨a,o,p,r,⟨g,j,b3,b4⟩⟩:=Ol (now:=now) (l:=l) (acc:=acc++[q]) (n:=(n.write (.fH q.key now)).1) (λy s=>by
    rw[e];exact TN b (k y (.tail _ s)) (λh=>d.1 (by grind)) m) d.2
   have⟨i,f,_⟩:=b;have⟨t,u⟩:=IJ f m;rw[e,t] at g j b3 b4;refine⟨q::a,(List.prefix_cons_inj q).2 o,by rw[p,bF];rfl,λh=>by rw[r h],g,j,b3.trans (iM ..),λj=>?_⟩
   grind [Jk,dC,D6]
theorem NI.tries(hnow:bQ A.now):∀ {l acc:List aM} {aD:List Nd} {i:Nat} {n:Nd},NI A aD->aD[i]?=some n->n.up=true->(∀q∈acc,q.bD.ok/\(∃k,q.key.id=dC i k)/\pS A n.s q)->(∀q∈l,q.bD.ok/\Ce n.s q)->(l.map λq=>q.key.id).Nodup->(∃k,Mv A aD i n (n.tries A.now l acc).1 k 0)/\(∀q∈(n.tries A.now l acc).2.1,q.bD.ok/\(∃k,q.key.id=dC i k)/\pS A (n.tries A.now l acc).1.s q)/\(n.tries A.now l acc).1.up=true
 | [],acc,aD,i,n,h,hn,hu,h1,_,_=>⟨⟨0,Mv.refl h hn (dV _) (dV _)⟩,h1,hu⟩
 |q::l,acc,aD,i,n,h,hn,hu,h1,h2,h3=>by
  have hq:=h2 q jW;have t1:=h.write hn hu (x:=.fH q.key A.now) hnow (Lz _) (k:=1) (d:=0) sD sD λhz=>⟨.inr (.inr ⟨_,_,rfl⟩),by
   have⟨j,hj,_⟩:=hq.2;exact aEu hj hz⟩
  have⟨_,w2,_,_,w5⟩:=(h.nv i n hn).1.write hu (x:=.fH q.key A.now) hnow (Lz _);have⟨_,g2,_,g4,_⟩:=h.gd hn;rw[jH hu] at g2 g4;rw[jL,Cb] at h3;unfold Nd.tries;split
  ·rename_i hc;have⟨_,hz,hs⟩:=w5.resolve_left λk=>k.1 hc;have⟨⟨k,r1⟩,r3,r4⟩:=NI.tries hnow (l:=l) (acc:=acc++[q]) t1.h (BE hn) w2 (λy hy=>by
    rw[hs];rcases eL.1 hy with hy|hy
    ·exact⟨(h1 y hy).1,(h1 y hy).2.1,(h1 y hy).2.2.doc g2 hnow (Lz _)⟩
    ·rw[eM.1 hy];refine⟨hq.1,?_,aDw g2 hq.2 hz⟩;have⟨k,hk,_⟩:=hq.2;exact⟨k,by rw[hk,g4]⟩) (λy hy=>by
    rw[hs];refine⟨(h2 y (kF _ hy)).1,TN hq.2 (h2 y (kF _ hy)).2 (λe=>h3.1 ?_) hz⟩;rw[e];exact jX.2 ⟨y,hy,rfl⟩) h3.2
   exact⟨⟨_,t1.trans r1⟩,r3,r4⟩
  ·grind
theorem NI.iV(d:bQ A.now){n:Nd}(h:NI A aD)(b:aD[i]?=some n):Mv A aD i n (n.iV cf A.now).1 1 0/\∀q∈(n.iV cf A.now).2.1,q.bD.ok/\Eu A (aD.set i (n.iV cf A.now).1) q:=by
 unfold Nd.iV;by_cases f:n.up=true
 ·rw[c! f];have⟨_,p,_⟩:=h.gd b;rw[jH f] at p;have e:=N8 p cf A.now;have⟨⟨k,c⟩,o,w⟩:=NI.tries d (l:=n.s.ready cf A.now) (acc:=[]) h b f (λ_ a=>(cZ a).elim) e.1 e.2;have⟨_,_,_,_,x⟩:=Ol (now:=A.now) (acc:=[]) (n:=n) (λq a=>(e.1 q a).2) e.2;have c:Mv A aD i n (n.tries A.now (n.s.ready cf A.now) []).1 1 0:=⟨c.h,c.l,by rw[jH f,jH w];exact x.lo⟩;have u:=c.h.sync (BE b);have⟨_,_,y⟩:=(c.h.nv _ _ (BE b)).1.sync;have m:Mv A aD i n _ 1 0:=c.trans u;split
  ·rename_i t;have⟨_,_,_,z⟩:=y t;refine⟨m,λq a=>⟨(o q a).1,?_,λj m s r=>?_⟩⟩
   ·have⟨k,j⟩:=(o q a).2.1;exact⟨i,k,by rw[iM];exact(cH.1 b).1,j⟩
   ·rw[xG b] at s;split at s
    ·grind
    ·rename_i g;have⟨k,j⟩:=(o q a).2.1;rw[j] at r;exact i! (Int.ofNat.inj r).symm g
  ·grind
 ·grind [Mv.refl]
theorem Nv.mono{B:dT}{n:Nd}(h:Nv A n)(l:A.le B):Nv B n:=⟨h.ok,λhu x hx=>(h.a hu x hx).mono l,λx hx=>(h.d x hx).mono l,h.b⟩
def NI.add(h:NI A aD)(hq:Eu A aD q)(hn:¬ ∃p∈A.a,p.key=q.key):NI (A.add q) aD :=
 ⟨λi n hi=>⟨(h.nv i n hi).1.mono (A.one q),(h.nv i n hi).2⟩,λi n hi=>(h.cg i n hi).add (h.gd hi).1 (λhe=>hq.2 i n hi (he.trans (h.gd hi).2.2.1)) hn,h.cD,h.own,λx hx=>by
  rcases eL.1 hx with hx|hx
  ·exact h.ids x hx
  ·rw[eM.1 hx];exact hq.1⟩
def NI.tick(h:NI A aD){t:Int}(b:A.now<=t):NI ⟨A.a,t⟩ aD :=
 ⟨λi n a=>⟨(h.nv i n a).1.mono (A.tick b),(h.nv i n a).2⟩,λi n a j=>(h.cg i n a j).tick b,h.cD,h.own,h.ids⟩
theorem jY.mono{B:dT}{ws:List bX}(h:jY A aD ws)(l:A.le B):jY B aD ws:=λp hp=>⟨(h p hp).a,λm hm=>by
 have⟨h1,h2⟩:=(h p hp).b m hm;exact⟨⟨h1.ids,h1.cL,λhk=>⟨(h1.CG hk).1,λj n hj hr=>((h1.CG hk).2 j n hj hr).mono l⟩,λhk=>by
  have⟨q,k1,k2⟩:=h1.vJ hk;exact⟨q,l.mem k1,k2⟩⟩,h2⟩⟩
def Pn(h:∃q∈A.a,q.key=m.key):yQ A aD (tM m):=⟨λh=>i! (show(4:Int)=2 from h) sD,(λc a=>(cZ a).elim),λh=>i! (show(4:Int)=3 from h) sD,λ_=>h⟩
end
theorem Sp{s:Sv}(a:0<=s.r/\s.r<=3)(b:(s.make c).2=0):(s.make c).1.id.rep=s.r:=by
 grind [Sv.make,aI.eY,AR]
theorem So{s:Sv}(g:Gd s)(m:bQ c.n)(h:(s.make c).2=0)(a:(s.doc (.cB (s.make c).1)).2=0):Lo 0 1 s (s.doc (.cB (s.make c).1)).1:=by
 have o:=Sp g.rep h;have b:=(NO m h).1;have⟨x,q⟩:∃x,(s.make c).1=x:=⟨_,rfl⟩;rw[q] at a o b⊢;have⟨d,l⟩:=G6 (P:=λj p=>p.made<=(s.ps.getD j s0).made) g (x:=.cB x) b (λ_=>dV _) (λ_ _ _ _ f=>f) (λ_ _ k now e _ _=>by cases e) λ_ _ _ _ f=>f;refine⟨?_,λi=>by have:=l i;omega⟩;rw[d];rw[show s.doc (.cB x)=s.dB x from rfl] at a⊢;unfold Sv.dB at a⊢;split at a
 ·rename_i n;rw[c! n];rcases Ff s.v x with⟨d,_⟩|⟨d,_,r,t⟩
  ·grind
  ·rw[c! d];show(nD s.v x).1.known.get s.r<=_;grind [sN,V4.uP]
 ·cases a
theorem NI.lV{A:dT}{n:Nd}(h:NI A aD)(hn:aD[i]?=some n)(hc:bQ c.n):Mv A aD i n (n.lV c).1 0 (if (n.lV c).2.2=0 then 1 else 0):=by
 have⟨_,g2,_,g4,_⟩:=h.gd hn;unfold Nd.lV;by_cases hu:n.up=true
 ·rw[c! hu];rw[jH hu] at g2 g4;by_cases hm:(n.s.make c).2=0
  ·rw[c! hm];have⟨m1,_⟩:=NO hc hm;have t:=λ(d:Int) (hd:0<=d) (hlo:(n.s.doc (.cB (n.s.make c).1)).2=0->Lo 0 d n.s (n.s.doc (.cB (n.s.make c).1)).1)=>h.write hn hu (x:=.cB (n.s.make c).1) m1 (Pg _) (dV 0) hd λhz=>⟨.inr (.inl ⟨_,rfl,(Sp g2.rep hm).trans g4⟩),hlo hz⟩
   split
   ·grind [So]
   ·rename_i hw;have m:=t 1 sD λhz=>So g2 hc hm hz;refine⟨m.h,m.l,?_⟩
    grind [IY,jH,Ek,Lo.refl]
  ·grind [Mv.refl]
 ·grind [Mv.refl]
theorem bQ.now{x:Int}(h:0<=x/\x<=1073741824):bQ x:=by grind [bQ]
noncomputable def sP(n:Nd):Int:=n.state.v.known.get n.state.r
noncomputable def CP(aD:List Nd):Int:=(aD.map sP).sum
theorem VQ:∀ {aD:List Nd} {i:Nat} {n n':Nd},aD[i]?=some n->CP (aD.set i n')=CP aD - sP n+sP n'
 | [],_,_,_,h=>by cases h
 |x::aD,0,n,n',h=>by
  grind [sP,CP]
 |x::aD,i+1,n,n',h=>by
  have:=VQ (aD:=aD) (n':=n') (i:=i) (n:=n) (by grind)
  grind [sP,CP]
theorem VR:∀ {aD:List Nd},(∀n∈aD,sP n=0)->CP aD=0
 | [],_=>rfl
 |x::aD,h=>by
  have b:=h x (.head _);have c:=VR (aD:=aD) λn a=>h n (.tail _ a)
  grind [sP,CP]
structure WI(T:Int)(v:Wv):Prop where
 h:NI ⟨v.app,v.now⟩ v.aD
 p:jY ⟨v.app,v.now⟩ v.aD v.ws
 now:0<=v.now/\v.now<=1073741824
 begun:∀(i:Nat) (n:Nd),v.aD[i]?=some n->∀j,(n.state.ps.getD j s0).made<=T
 sm:CP v.aD<=v.sub
 un:(v.app.map aM.key).Nodup
theorem pE{n:Nd}(h:v.aD[i]?=some n):v.state i=n.state:=by grind [Wv.state]
def Lw(d:Int)(v v':Wv):Prop:=∀i,(v'.state i).v.known.get (v'.state i).r<=(v.state i).v.known.get (v.state i).r+d
theorem Lw.same{d:Int}(a:0<=d){v':Wv}(h:v'.aD=v.aD):Lw d v v':=λi=>by unfold Wv.state;rw[h];omega
theorem Lw.more{d a:Int}{v':Wv}(h:Lw d v v')(b:d<=a):Lw a v v':=λi=>by have:=h i;omega
section
variable {T:Int} {v:Wv}
theorem WI.more(h:WI T v){T':Int}(a:T<=T'):WI T' v:=⟨h.h,h.p,h.now,λi n b j=>BX (h.begun i n b j) a,h.sm,h.un⟩
def WI.Ef(h:WI T v){ws:List bX}(a:jY ⟨v.app,v.now⟩ v.aD ws)(r:Int):WI T ⟨v.cf,v.now,v.sub,v.bI,ws,r,v.app,v.aD⟩:=⟨h.h,a,h.now,h.begun,h.sm,h.un⟩
theorem WI.mv(h:WI T v){n:Nd}(a:v.aD[i]?=some n){k d:Int}(o:0<=k)(m:Mv ⟨v.app,v.now⟩ v.aD i n n' k d){ws:List bX}(f:jY ⟨v.app,v.now⟩ (v.aD.set i n') ws){sub:Int}(p:v.sub+d<=sub)(r:Int)(c:List nO)(l:0<=d):WI (T+k) ⟨v.cf,v.now,sub,c,ws,r,v.app,v.aD.set i n'⟩/\Lw d v ⟨v.cf,v.now,sub,c,ws,r,v.app,v.aD.set i n'⟩:=by
 refine⟨⟨m.h,f,h.now,λj x b q=>?_,?_,h.un⟩,λj=>?_⟩
 ·dsimp only at b;rw[xG a] at b;split at b
  ·obtain rfl:=iN b;have:=m.lo.made q;have:=h.begun i n a q;omega
  ·have:=h.begun j x b q;omega
 ·dsimp only;rw[VQ a];have g:sP n'<=sP n+d:=m.lo.n;have:=h.sm;omega
 ·unfold Wv.state;dsimp only;rw[xG a];by_cases e:j=i
  ·subst e;rw[c! rfl,a];exact m.lo.n
  ·grind
theorem WI.Hc(h:WI T v){n:Nd}(a:v.aD[i]?=some n)(m:Mv ⟨v.app,v.now⟩ v.aD i n n' 0 0){ws:List bX}(b:jY ⟨v.app,v.now⟩ (v.aD.set i n') ws)(r:Int):WI T ⟨v.cf,v.now,v.sub,v.bI,ws,r,v.app,v.aD.set i n'⟩/\Lw 0 v ⟨v.cf,v.now,v.sub,v.bI,ws,r,v.app,v.aD.set i n'⟩:=by
 have:=h.mv a (dV 0) m b (sub:=v.sub) o_ r v.bI (dV 0)
 grind
theorem WI.bZ(h:WI T v)(j:Int):WI T (v.bZ j).1/\Lw 0 v (v.bZ j).1:=by
 have hw:jY ⟨v.app,v.now⟩ v.aD (eK v.ws j):=h.p.take j;have lw:∀ {v':Wv},v'.aD=v.aD->Lw 0 v v':=λe=>Lw.same (dV 0) e;have h0:=(⟨h.Ef hw v.ref,lw rfl⟩:WI T _/\Lw 0 v _)
 unfold Wv.bZ;split
 ·grind
 rename_i p hp;have⟨k,_,hk⟩:=CQ hp;have hpk:=h.p p (dG hk);split
 ·exact h0
 rename_i m hm;have hmk:=hpk.b m hm;have hmo:=(AE hm).2.2;have hmc:=(AE hm).1;split
 ·rename_i h9;have hk3:m.kind=3:=by
   have hp:=(Mg.jZ hmc).2.1;grind [Mg.xD,nG]
  have okA:(tM m).ok:=⟨λc hc=>(cZ hc).elim,bQ.zero⟩;unfold iQ tR;dsimp only;by_cases hin:m.key∈v.app.map aM.key
  ·rw[c! hin];have⟨q,q1,q2⟩:=jX.1 hin;exact⟨h.Ef (hw.post λ_=>⟨okA,Pn ⟨q,q1,q2⟩⟩) _,lw rfl⟩
  ·rw[b! hin];split
   ·exact⟨h.Ef hw _,lw rfl⟩
   ·exact⟨⟨h.h.add (hmk.1.CG hk3) (λ⟨p,p1,p2⟩=>hin (jX.2 ⟨p,p1,p2⟩)),(hw.mono (dT.one _ _)).post λ_=>⟨okA,Pn ⟨_,tJ _ jW,rfl⟩⟩,h.now,h.begun,h.sm,by
     show((v.app++[(⟨m.key,m.bD⟩:aM)]).map aM.key).Nodup;rw[gP,Ab];exact⟨h.un,s_,λa ha b hb e=>hin (by grind)⟩⟩,lw rfl⟩
 split
 ·exact h0
 split
 ·exact h0
 rename_i n hn;have h9n:¬p.to=9:=by grind
 have hk4:m.kind≠1->m.kind≠2->m.kind=4:=λa b=>by
  have⟨⟨k1,k2⟩,hp,_⟩:=Mg.jZ hmc;grind [Mg.xD]
 by_cases hu:n.up=true
 ·rw[c! hu];have key:Mv ⟨v.app,v.now⟩ v.aD p.to.toNat n (eC (eK v.ws j) n m).1.2 0 0/\jY ⟨v.app,v.now⟩ (v.aD.set p.to.toNat (eC (eK v.ws j) n m).1.2) (eC (eK v.ws j) n m).1.1:=by
   unfold eC;split
   ·have s1:=h.h.sync hn;split
    ·exact⟨s1,hw.le s1.l⟩
    ·rename_i hz;have⟨_,_,y3⟩:=(h.h.nv _ n hn).1.sync;have⟨_,y4,y5,y6⟩:=y3 (LR.1 hz);exact⟨s1,(hw.le s1.l).post λ_=>Wn s1.h (BE hn) (y6.trans y5.symm) y4 m⟩
   split
   ·have t1:=(h.h.take hn (l:=gS n.s m) λ_=>aAp h.h hn hu hmk.1 hmo).1;exact⟨t1,hw.le t1.l⟩
   split
   ·refine⟨Mv.refl h.h hn (dV _) (dV _),?_⟩;grind [jY,Km]
   ·have t1:=(h.h.take hn (l:=[.cR m.key]) λ_=>⟨⟨trivial,λk hk=>by injection hk with hk;rw[<-hk];exact hmk.1.vJ (hk4 (by grind) (by assumption)),λk t hk=>by cases hk⟩,λ_=>⟨trivial,trivial⟩⟩).1;exact⟨t1,hw.le t1.l⟩
  exact h.Hc hn key.1 key.2 _
 ·grind
def rE(st:cK):Int:=if st.kind=5 then 1 else 0
def GA(st:cK):Int:=if st.kind=1 then 1 else 0
theorem WI.step(h:WI T v)(st:cK)(i:bQ st.c.n):WI (T+rE st) (v.step st).1/\Lw (GA st) v (v.step st).1:=by
 have g:0<=GA st:=by grind [GA]
 have up:∀ {d:Wv},WI T d/\Lw 0 v d->WI (T+rE st) d/\Lw (GA st) v d:=λh=>⟨h.1.more (by grind [rE]),h.2.more g⟩
 have l:∀ {d:Wv},d.aD=v.aD->Lw 0 v d:=λe=>Lw.same (dV 0) e;unfold Wv.step;split
 ·grind
 split
 ·grind
 rename_i n b;have f:=(h.h.nv _ n b).1;unfold Wv.wP;split
 ·rename_i u;have a:Mv ⟨v.app,v.now⟩ v.aD st.r.toNat n (tD v.sub n st.c).2.1 0 ((tD v.sub n st.c).1 - v.sub):=by
   unfold tD;split
   ·exact Mv.refl h.h b (dV _) (by grind)
   have:=h.h.lV b i;grind
  have r:0<=(tD v.sub n st.c).1 - v.sub/\(tD v.sub n st.c).1 - v.sub<=1:=by
   grind [tD]
  have:=h.mv b (dV 0) a (h.p.le a.l) (sub:=(tD v.sub n st.c).1) o_ v.ref v.bI r.1;rw[BW] at this;grind [GA,st,rE]
 split
 ·have c:=h.h.sync b;exact up (h.Hc b c (h.p.le c.l) _)
 split
 ·have a:Mv ⟨v.app,v.now⟩ v.aD st.r.toNat n (vZ v.aD.length v.ws n st).1.2 0 0/\jY ⟨v.app,v.now⟩ (v.aD.set st.r.toNat (vZ v.aD.length v.ws n st).1.2) (vZ v.aD.length v.ws n st).1.1:=by
   have c:=h.h.sync b;unfold vZ;split
   ·refine⟨Mv.refl h.h b (dV _) (dV _),?_⟩;show jY _ (v.aD.set st.r.toNat n) _;rw[Km b];exact h.p
   split
   ·exact⟨c,h.p.le c.l⟩
   ·exact⟨c,(h.p.le c.l).post λ_=>⟨⟨λc i=>(cZ i).elim,bQ.zero⟩,yQ.plain (dV 1) rfl⟩⟩
  exact up (h.Hc b a.1 a.2 _)
 split
 ·refine up ?_;unfold Wv.uM;split
  ·grind
  ·rename_i p j;have a:Mv ⟨v.app,v.now⟩ v.aD 0 p (zD p st.n).1 0 0:=by
    have same:Mv ⟨v.app,v.now⟩ v.aD 0 p p 0 0:=Mv.refl h.h j (dV _) (dV _);unfold zD;split
    ·split
     ·exact h.h.Gy j
     ·exact same
    ·exact same
   exact h.Hc j a (h.p.le a.l) _
 split
 ·rename_i q;have⟨o,s⟩:=h.h.iV (A:=⟨v.app,v.now⟩) (cf:=v.cf) (bQ.now h.now) b;rw[show rE st=1 from c! q];have:=h.mv b sD o (ws:=(xM v.cf v.now v.ws v.bI n st.r).1.1) (jY.Uo (h.p.le o.l) s) (sub:=v.sub) o_ v.ref (xM v.cf v.now v.ws v.bI n st.r).1.2.1 (dV 0);exact⟨this.1,this.2.more g⟩
 split
 ·have k:v.now<=(tE v.now st.n).1/\0<=(tE v.now st.n).1/\(tE v.now st.n).1<=1073741824:=by
   have:=h.now;grind [tE]
  exact up ⟨⟨h.h.tick (t:=(tE v.now st.n).1) k.1,h.p.mono (dT.tick (t:=(tE v.now st.n).1) _ k.1),k.2,h.begun,h.sm,h.un⟩,l rfl⟩
 split
 ·exact up (h.bZ _)
 split
 ·exact up ⟨h.Ef (h.p.Bm st) _,l rfl⟩
 ·have same:Nv ⟨v.app,v.now⟩ n/\qQ ⟨v.app,v.now⟩ n n:=⟨f,qQ.refl f⟩;have a:Nv ⟨v.app,v.now⟩ (vD v.ref n st).1.2/\qQ ⟨v.app,v.now⟩ n (vD v.ref n st).1.2:=by
   unfold vD;split
   ·grind
   split
   ·split
    ·exact f.wO
    ·exact same
   split
   ·exact f.qJ
   split
   ·exact f.pack
   split
   ·split
    ·exact same
    split
    ·exact f.arm o_
    ·exact same
   ·exact same
  have m:=h.h.dP b a.1 a.2;exact up (h.Hc b m (h.p.le m.l) _)
theorem aFl(v:Wv)(st:cK):(v.step st).1.now<=v.now+1000:=by
 unfold Wv.step;split
 ·grind
 split
 ·grind
 unfold Wv.wP;repeat' split
 all_goals (try (dsimp only;omega))
 all_goals grind [Wv.uM,tE,Wv.bZ]
end
theorem WI.run{l:List cK}:∀ {T:Int} {v:Wv},WI T v->(∀st∈l,bQ st.c.n)->WI (T+l.length) (v.run l)/\(v.run l).now<=v.now+1000*l.length:=by
 induction l with
 |nil=>exact λ{T v} h _=>⟨by rw[show T+(([]:List cK).length:Int)=T from BW T];exact h,by show v.now<=v.now+1000*0;omega⟩
 |cons st l e =>
  intro T v h c;have⟨a,b⟩:=e (h.step st (c st jW)).1 λx d=>c x (kF _ d);have f:rE st<=1:=by grind [rE]
  have g:=aFl v st;rw[gL];refine⟨a.more o_,?_⟩;show((v.step st).1.run l).now<=_;omega
theorem WI.new(h:cf.dI):WI 0 (Wv.new cf):=by
 have⟨⟨m,o⟩,⟨s0,p⟩,_⟩:=h;have at_:∀(i:Nat) (n:Nd),(pB cf.nI.toNat cf.eD.toNat)[i]?=some n->i<cf.eD.toNat/\n=Nd.new i cf.nI.toNat:=λi n a=>by
  grind [pB]
 have d:∀(i:Nat),i<cf.eD.toNat->_:=λi b=>Nv.new (A:=⟨[],0⟩) (r:=(i:Int)) (N:=cf.nI.toNat) o_ o_ o_;refine⟨⟨λi n a=>?_,λi n a=>?_,λi n a _=>?_,(λi n a c f=>?_),λq k=>(cZ k).elim⟩,λp g=>(cZ g).elim,⟨dV _,by show(0:Int)<=_;decide⟩,λi n a j=>?_,?_,List.Pairwise.nil⟩
 ·obtain⟨b,rfl⟩:=at_ i n a;exact⟨(d i b).1,rfl⟩
 ·obtain⟨b,rfl⟩:=at_ i n a;rw[(d i b).2.1];exact qO.new _
 ·obtain⟨b,rfl⟩:=at_ i n a;rw[(d i b).2.2];exact Ln
 ·obtain⟨b,rfl⟩:=at_ i n a;rw[(d i b).2.2] at f;exact(cZ f).elim
 ·obtain⟨b,rfl⟩:=at_ i n a;rw[(d i b).2.2];exact dV 0
 ·refine Int.le_of_eq (VR λn a=>?_);have⟨i,l⟩:=vH a;obtain⟨e,rfl⟩:=at_ i n l;unfold sP;rw[(d i e).2.2];exact vC
structure Cl(n:Nd):Prop where
 up:n.up=true
 dead:n.ls.dead=false
 aO:n.ls.aO = -1
def nL(n n':Nd):Prop:=Cl n'/\n'.r=n.r/\∃l:List Rc,(∀x∈l,x.ok)/\n'.s=fW n.s l
theorem nL.same{n:Nd}(h:Cl n')(a:n'.r=n.r)(b:n'.s=n.s):nL n n':=⟨h,a,[],λ_ h=>(cZ h).elim,b⟩
theorem nL.trans{a b c:Nd}(h:nL a b)(k:nL b c):nL a c:=by
 have⟨_,d,l,e,f⟩:=h;have⟨i,k1,m,k2,k3⟩:=k;refine⟨i,k1.trans d,l++m,λx g=>(eL.1 g).elim (e x) (k2 x),?_⟩;rw[k3,f,F6]
def H5:∀ {l:List Rc} {s:Sv},Gd s->(∀x∈l,x.ok)->s.v.l <+: (fW s l).v.l/\(∀c∈s.all,c∈(fW s l).all)/\Gd (fW s l)/\(fW s l).r=s.r
 | [],s,h,_=>⟨E3 _,λc a=>a,h,rfl⟩
 |x::l,s,d,b=>by
  have⟨e,f⟩:=Dz d x;have⟨g,i,j,k⟩:=H5 (l:=l) (s:=(s.doc x).1) (d.doc (b x (.head _))) λy m=>b y (.tail _ m);exact⟨e.trans g,λc a=>i c (f c a),j,k.trans (G7 s x)⟩
theorem NH(a len:Nat):jR (-1) a len=false:=e! o_
theorem Jx(a len:Nat):fO (-1) a len = -1:=by grind [fO]
section
variable {n:Nd} (h:Cl n)
include h
theorem Cl.write{x:Rc}:Cl (n.write x).1/\(n.write x).1.r=n.r/\((n.s.doc x).2=0->(n.write x).2=10\/(n.write x).2=0):=by
 have hb:=x.Dq;have a:((n.ls.append x.b).1=10\/(n.ls.append x.b).1=0)/\(n.ls.append x.b).2.dead=n.ls.dead/\(n.ls.append x.b).2.aO=n.ls.aO:=by
  grind [LS.append]
 unfold Nd.write;split
 ·split
  ·exact⟨⟨h.up,a.2.1.trans h.dead,a.2.2.trans h.aO⟩,rfl,λ_=>.inr rfl⟩
  ·grind
 ·grind
theorem Cl.V2{x:Rc}(c:x.ok):nL n (n.write x).1:=by
 have⟨a,b,_⟩:=h.write (x:=x);rcases IY n x with⟨_,e⟩|⟨_,_,e⟩
 ·grind [nL.same]
 ·exact⟨a,b,[x],λy d=>by rw[eM.1 d];exact c,e⟩
theorem Cl.sync:n.sync.2=0/\Cl n.sync.1/\n.sync.1.r=n.r/\n.sync.1.s=n.s:=by
 have a:=Kz h.dead (show jR n.ls.aO n.ls.pos n.ls.cY.length=false by rw[h.aO];exact NH _ _);unfold Nd.sync;rw[c! h.up,a,c! rfl];refine⟨rfl,⟨rfl,rfl,?_⟩,rfl,rfl⟩;show fO n.ls.aO _ _ = -1;rw[h.aO];exact Jx _ _
theorem Cl.pack:Cl n.pack.1/\n.pack.1.r=n.r/\n.pack.1.s=n.s:=by
 have d:rK n.ls = -1:=by show fO n.ls.aO 0 (32*n.ls.N) = -1;rw[h.aO];exact Jx _ _
 have a:vA n.ls n.fD = -1:=by show fO (rK n.ls) 0 _ = -1;rw[d];exact Jx _ _
 have e:((n.ls.swap n.fD).1=0/\(n.ls.swap n.fD).2.dead=false/\(n.ls.swap n.fD).2.aO = -1)\/((n.ls.swap n.fD).1≠0/\(n.ls.swap n.fD).1≠19):=by
  unfold LS.swap;split
  ·grind
  split
  ·grind
  split
  ·grind
  rw[b! (by rw[h.dead];exact lA),b! (by rw[h.aO,NH];exact lA),b! (by grind [NH]),b! (by rw[a];decide)];exact .inl ⟨rfl,rfl,by show pQ (vA n.ls n.fD) = -1;rw[a];rfl⟩
 unfold Nd.pack;rw[c! h.up];rcases e with⟨b,c,f⟩|⟨b,c⟩
 ·rw[c! b];exact⟨⟨rfl,c,f⟩,rfl,rfl⟩
 ·grind
end
def wJ:Sv->List Rc->Prop
 |_,[]=>True
 |s,x::l=>(s.doc x).2=0/\wJ (s.doc x).1 l
def wJ.app:∀ {l m:List Rc} {s:Sv},wJ s l->wJ (fW s l) m->wJ s (l++m)
 | [],_,_,_,h=>h
 |_::_,_,_,h,k=>⟨h.1,wJ.app h.2 k⟩
theorem Cl.oP:∀ {l:List Rc} {k:Nat} {n:Nd},Cl n->(∀x∈l,x.ok)->nL n (n.oP l k).1/\(wJ n.s l->(n.oP l k).2.2≠10->(n.oP l k).2.2=0/\(n.oP l k).1.s=fW n.s l)
 | [],k,n,h,_=>⟨nL.same h rfl rfl,λ_ _=>⟨rfl,rfl⟩⟩
 |x::l,k,n,h,hl=>by
  have h1:=h.V2 (hl x (.head _));have hw:=(h.write (x:=x)).2.2;unfold Nd.oP;by_cases hc:(n.write x).2=0
  ·rw[c! hc];have⟨a,b⟩:=Cl.oP (l:=l) (k:=k+1) h1.1 λy hy=>hl y (.tail _ hy);refine⟨h1.trans a,λhr hs=>?_⟩;have⟨_,_,e⟩:=(IY n x).resolve_left λz=>z.1 hc;rw[e] at b;exact b hr.2 hs
  ·rw[b! hc];refine⟨h1,λhr hs=>?_⟩;rcases hw hr.1 with e|e
   all_goals grind
theorem Cl.take{l:List Rc}{n:Nd}(h:Cl n)(a:∀x∈l,x.ok):nL n (n.take l).1/\(wJ n.s l->(n.take l).2.2≠10->(n.take l).2.2=0/\(n.take l).1.s=fW n.s l):=by
 unfold Nd.take;rw[c! h.up];exact h.oP a
theorem K5(s:Sv):∀ {l:List aI} {t:Sv} {out:List Rc},t=fW s out->wJ s out->(l.foldl (λz c=>fP z (.cB c)) (t,out)).1=fW s (l.foldl (λz c=>fP z (.cB c)) (t,out)).2/\wJ s (l.foldl (λz c=>fP z (.cB c)) (t,out)).2
 | [],_,_,h,k=>⟨h,k⟩
 |c::l,t,out,h,k=>by
  rw[CX];by_cases a:(t.doc (.cB c)).2=0
  ·have e:fP (t,out) (.cB c)=((t.doc (.cB c)).1,out++[.cB c]):=by grind [fP]
   rw[e];subst h;exact K5 s (l:=l) (by rw[F6];rfl) (k.app ⟨a,trivial⟩)
  ·have e:fP (t,out) (.cB c)=(t,out):=by grind [fP,MS]
   rw[e];exact K5 s h k
theorem Qb(s:Sv):∀ {ids:List aL} {out:List Rc},wJ s out->wJ s (comms (fW s out) out ids)
 | [],_,k=>k
 |a::ids,out,k=>by
  unfold comms;split
  ·rename_i b;have:=Qb s (ids:=ids) (out:=out++[.cD a]) (k.app ⟨b,trivial⟩)
   rwa [F6] at this
  ·exact k
theorem aIc(s:Sv)(m:Mg):wJ s (gS s m):=by
 have⟨a,b⟩:=K5 s (l:=m.cL) (t:=s) (out:=[]) rfl trivial;have e:tryAll s m.cL=m.cL.foldl (λz c=>fP z (.cB c)) (s,[]):=rfl;rw[<-e] at a b;unfold gS;split
 ·grind [Qb]
 ·trivial
theorem K0{s:Sv}(h:m.ok)(q:m.check=0):∀x∈gS s m,x.ok:=by
 have g:∀(l:List aI) (z:Sv×List Rc),(∀c∈l,c.ok)->(∀x∈z.2,x.ok)->∀x∈(l.foldl (λz c=>fP z (.cB c)) z).2,x.ok:=by
  intro l
  induction l with
  |nil=>exact λz _ h=>h
  |cons c l f =>
   intro z i o;refine f _ (λd r=>i d (.tail _ r)) λx b=>?_;unfold fP at b;dsimp only at b;split at b
   ·rcases eL.1 b with b|b
    ·exact o x b
    ·rw[eM.1 b];exact i c (.head _)
   ·exact o x b
 have e:∀(ids:List aL) (s:Sv) (out:List Rc),(∀x∈out,x.ok)->∀x∈comms s out ids,x.ok:=by
  intro ids
  induction ids with
  |nil=>exact λ_ _ h=>h
  |cons a ids f =>
   intro s out k;unfold comms;split
   ·refine f _ _ λx b=>?_;rcases eL.1 b with b|b
    ·exact k x b
    ·rw[eM.1 b];trivial
   ·exact k
 unfold gS;split
 ·rename_i t;have⟨_,_,_,p,_⟩:=Mg.D4 q t.2.1;have:=g m.cL (s,[]) (λc j=>EE (qR.1 p c j) (h.1 c j)) λx b=>(cZ b).elim;split
  ·exact this
  ·exact e _ _ _ this
 ·grind
theorem Cl.Gy:∀ {k:Nat} {n:Nd} {j:Nat},Cl n->nL n (oT k n j).1
 |0,n,j,h=>nL.same h rfl rfl
 |k+1,n,j,h=>by
  unfold oT;split
  ·grind [nL.same]
  ·rename_i c _;have a:=(h.take (l:=[.cD c.id]) λx b=>by rw[eM.1 b];trivial).1;split
   ·exact a.trans (Cl.Gy (k:=k) (j:=j+1) a.1)
   ·exact a
def Cl.tries{now:Int}(a:bQ now):∀ {l acc:List aM} {n:Nd},Cl n->nL n (n.tries now l acc).1
 | [],acc,n,h=>nL.same h rfl rfl
 |q::l,acc,n,h=>by
  have b:=h.V2 (x:=.fH q.key now) a;unfold Nd.tries;split
  ·exact b.trans (Cl.tries a b.1)
  ·exact b
def Cl.iV{now:Int}(a:bQ now){n:Nd}(h:Cl n):nL n (n.iV cf now).1/\(n.iV cf now).1.s=(n.tries now (n.s.ready cf now) []).1.s/\(n.iV cf now).2=(n.tries now (n.s.ready cf now) []).2:=by
 have t:=h.tries a (l:=n.s.ready cf now) (acc:=[]);have⟨c,d,e,b⟩:=t.1.sync;unfold Nd.iV;rw[c! h.up,c! c];exact⟨t.trans (nL.same d e b),b,rfl⟩
theorem Ft{α:Type}[DecidableEq α]:∀ {l m:List α},l.Nodup->(∀x∈l,x∈m)->l.length<=m.length
 | [],_,_,_=>bY _
 |x::l,m,hn,h=>by
  obtain⟨a,b,rfl⟩:=Ld (h x (.head _));rw[Cb] at hn;have:=Ft (l:=l) (m:=a++b) hn.2 λy c=>by
   grind
  grind
theorem Gd.ids{s:Sv}(h:Gd s):(s.all.map aI.id).Nodup:=Mq h.v.lQ
theorem Zn{k t k' t':V4}{l:List aI}(h:follow k t l=some (k',t')){r:Int}(j:0<=r/\r<=3):(k'.get r=k.get r/\t'.get r=t.get r)\/∃x∈l,x.id=⟨r,k'.get r⟩/\x.time=t'.get r:=by
 induction l generalizing k t with
 |nil=>injection h with h;injection h with g d;subst g d;exact .inl ⟨rfl,rfl⟩
 |cons c l m =>
  rw[follow] at h;split at h
  ·rename_i i;have⟨_,f,_⟩:=sN.1 i;rcases m h with⟨a,b⟩|⟨x,n,d⟩
   ·rw[V4.uP f j] at a b;by_cases e:r=c.id.rep
    ·rw[c! e] at a b;exact .inr ⟨c,.head _,by rw[a,e],b.symm⟩
    ·grind
   ·grind
  ·cases h
theorem RY{a b:List aI}(h:follow kZ kZ (a++c::b)=some z):∃k t,follow kZ kZ a=some (k,t)/\oL k t c=true:=by
 rw[Br] at h;cases d:follow kZ kZ a with
 |none=>rw[d] at h;cases h
 |some p =>
  grind [follow]
structure Pb(U:aI->Prop):Prop where
 one:∀x y,U x->U y->x.id=y.id->x=y
 room:∀t:Sv,Gd t->(∀x∈t.all,U x)->∀c,U c->c∉t.all->t.v.l.length+t.v.t.length<48
theorem CK{s:Sv}(h:Gd s)(a:c∈s.all):(0<=c.id.rep/\c.id.rep<=3)/\1<=c.id.seq/\c.id.seq<=s.v.known.get c.id.rep:=by
 have⟨_,b,d,e,_⟩:=yF h.v.lQ a
 grind [vC]
section
variable {U:aI->Prop} (hU:Pb U) {s:Sv} (gs:Gd s) (us:∀x∈s.all,U x)
include hU gs us
theorem Rn(gt:Gd t)(f:∀x∈t.all,U x)(b:c∈s.all)(h:c.id.seq<=t.v.known.get c.id.rep):c∈t.all:=by
 have⟨e,g,_⟩:=CK gs b;have⟨x,d,a⟩:=Cz gt.v.lQ e (q:=c.id.seq) (by grind [vC]) h;rw[<-hU.one x c (f x d) (us c b) a];exact d
theorem aBb(gt:Gd t)(m:∀x∈t.all,U x){a b:List aI}(z:s.v.l++s.v.t=a++c::b)(J:∀y∈a,y.id.seq<=t.v.known.get y.id.rep):c∈(t.doc (.cB c)).1.all:=by
 have d:c∈s.all:=by grind [Sv.all]
 by_cases i:c∈t.all
 ·exact(Dz gt _).2 c i
 have o:=gs.v.lQ;rw[z] at o;have⟨k,O,j,v⟩:=RY o;have⟨D,h,M,N⟩:=sN.1 v;have u:=Mp j h;rw[vC] at u;have lo:t.v.known.get c.id.rep<c.id.seq:=by
  refine LQ λhh=>i (Rn hU gs us gt m d o_)
 have F:=(gt.v.count h).1;have E:1<=k.get c.id.rep->∃y∈a,y.id=⟨c.id.rep,k.get c.id.rep⟩:=λh1=>Cz j h (by grind [vC]) (dV _);have up:k.get c.id.rep<=t.v.known.get c.id.rep:=by
  grind
 have A:t.v.times.get c.id.rep<c.time:=by
  rcases Zn gt.v.lQ h with⟨_,e⟩|⟨x,p,q,n⟩
  ·grind [vC]
  ·have g:=(CK gt p).2.1;rw[q] at g;dsimp only at g;have⟨y,B,r⟩:=E o_;have l:y∈s.all:=by grind [Sv.all,List.mem_append_left]
   have:x=y:=hU.one x y (m x p) (us y l) (by grind);have H:=(yF j B).2.2.2.2.2
   grind
 have f:oL t.v.known t.v.times c=true:=sN.2 ⟨D,h,o_,A⟩;have K:=hU.room t gt m c (us c d) i;have w:=(fI _ _).mp f;have e:nD t.v c=(⟨t.v.l,yZ t.v.t c,t.v.known.set c.id.rep c.id.seq,t.v.times.set c.id.rep c.time⟩,0):=by
  grind [nD]
 have n:t.doc (.cB c)=(Sv.again ⟨(nD t.v c).1,t.ps,t.r⟩,0):=by
  show t.dB c=_
  grind [Sv.dB]
 rw[n,e,IH gt.v f];exact tJ _ (Sx.2 (.inr rfl))
omit hU in
theorem QO(gt:Gd t)(e:∀x∈t.all,U x)(b:c∈s.all):Gd (t.doc (.cB c)).1/\(∀x∈(t.doc (.cB c)).1.all,U x)/\(∀x∈t.all,x∈(t.doc (.cB c)).1.all):=by
 have a:c.ok:=(eL.1 b).elim (gs.v.qE c) (gs.v.vS c);refine⟨gt.doc (x:=.cB c) a,λx d=>?_,(Dz gt _).2⟩;rcases JM gt d with h|h
 all_goals grind
theorem Oo:∀ {l:List aI} {z:Sv×List Rc},(∀c∈l,c∈s.all)->Gd z.1->(∀x∈z.1.all,U x)->∀x∈z.1.all,x∈(l.foldl (λz c=>fP z (.cB c)) z).1.all
 | [],_,_,_,_,x,a=>a
 |c::l,z,b,gt,ut,x,a=>by
  have⟨e,f,g⟩:=QO gs us gt ut (b c (.head _));exact Oo (l:=l) (z:=fP z (.cB c)) (λd h=>b d (.tail _ h)) e f x (g x a)
theorem NJ{K:V4}:∀ {b a:List aI} {k:Nat} {z:Sv×List Rc},s.v.l++s.v.t=a++b->Gd z.1->(∀x∈z.1.all,U x)->(∀j,0<=j/\j<=3->K.get j<=z.1.v.known.get j)->(∀y∈a,y.id.seq<=z.1.v.known.get y.id.rep) ->
  ∀c∈(b.filter λx => !kR K x.id).take k,c∈(((b.filter λx => !kR K x.id).take k).foldl (λz c=>fP z (.cB c)) z).1.all
 | [],_,k,_,_,_,_,_,_,c,f=>by rw[List.filter_nil,List.take_nil] at f;cases f
 |d::b,a,k,z,A,gt,ut,r,n,c,f=>by
  have o:d∈s.all:=by grind [Sv.all]
  have i:s.v.l++s.v.t=(a++[d])++b:=by grind
  by_cases w:kR K d.id=true
  ·have e:(d::b).filter (λx => !kR K x.id)=b.filter λx => !kR K x.id:=List.filter_cons_of_neg (by grind);rw[e] at f⊢;refine NJ i gt ut r (λy g=>?_) c f;rcases eL.1 g with g|g
   ·exact n y g
   ·rw[eM.1 g];have h:=of_decide_eq_true w
    grind
  ·have e:(d::b).filter (λx => !kR K x.id)=d::b.filter λx => !kR K x.id:=List.filter_cons_of_pos (by grind);rw[e] at f⊢;cases k with
   |zero=>cases f
   |succ k =>
    rw[E7] at f⊢;rw[CX];obtain⟨l,q,v⟩:=QO gs us gt ut o;have t:d∈(z.1.doc (.cB d)).1.all:=aBb hU gs us gt ut A n;have mono:∀j,0<=j/\j<=3->z.1.v.known.get j<=(z.1.doc (.cB d)).1.v.known.get j:=λj m=>Jw gt l m λx u _=>v x u;rcases tK.1 f with rfl|f
    ·refine Oo hU gs us (λx u=>?_) l q c t
     grind [Sv.all]
    ·refine NJ (z:=fP z (.cB d)) i l q (λj m=>BX (r j m) (mono j m)) (λy g=>?_) c f;rcases eL.1 g with g|g
     ·have p:y∈s.all:=by grind [Sv.all,List.mem_append_left]
      exact BX (n y g) (mono _ (CK gs p).1)
     ·rw[eM.1 g];exact(CK l t).2.2
theorem aAc{B:Sv}(gB:Gd B)(gt:Gd t)(ut:∀x∈t.all,U x)(hB:∀c∈B.all,c∈t.all) :
  (∀c∈s.all,c∈(tryAll t ((s.all.filter λx => !kR B.v.known x.id).take 8)).1.all)\/B.all.length+8<=(tryAll t ((s.all.filter λx => !kR B.v.known x.id).take 8)).1.all.length:=by
 have key:=NJ hU gs us (K:=B.v.known) (b:=s.all) (a:=[]) (k:=8) (z:=(t,[])) rfl gt ut (λj hj=>Jw gB gt hj λx hx _=>hB x hx) λy hy=>(cZ hy).elim;have jQ:=Oo hU gs us (l:=(s.all.filter λx => !kR B.v.known x.id).take 8) (z:=(t,[])) (λc hc=>(uI.1 (mD hc)).1) gt ut;change ∀c∈_,c∈(tryAll t _).1.all at key;change ∀x∈t.all,x∈(tryAll t _).1.all at jQ;by_cases hl:(s.all.filter λx => !kR B.v.known x.id).length<=8
 ·refine .inl λc hc=>?_;by_cases hp:kR B.v.known c.id=true
  ·have h:=of_decide_eq_true hp;exact jQ c (hB c (Rn hU gs us gB (λx hx=>ut x (hB x hx)) hc h.2.2))
  ·refine key c ?_;rw[fX hl];exact uI.2 ⟨hc,by simpa using hp⟩
 ·refine .inr ?_;have h8:((s.all.filter λx => !kR B.v.known x.id).take 8).length=8:=by rw[dR];omega
  have:=Ft (l:=B.all.map aI.id++((s.all.filter λx => !kR B.v.known x.id).take 8).map aI.id) (m:=(tryAll t ((s.all.filter λx => !kR B.v.known x.id).take 8)).1.all.map aI.id) (Ab.2 ⟨gB.ids,gs.ids.sublist (((Iq _ _).trans List.filter_sublist).map _),λa ha b hb e=>?_⟩) λa ha=>?_
  ·rw[bR,fB,fB,fB,h8] at this;exact this
  ·obtain⟨x,hx,rfl⟩:=jX.1 ha;obtain⟨y,hy,rfl⟩:=jX.1 hb;obtain⟨h1,h2,h3⟩:=CK gB hx;have hv:kR B.v.known x.id=true:=decide_eq_true ⟨h1,h2,h3⟩;have:=(uI.1 (mD hy)).2;rw[<-e,hv] at this;cases this
  ·rcases eL.1 ha with ha|ha
   ·obtain⟨x,hx,rfl⟩:=jX.1 ha;exact xV (jQ x (hB x hx))
   ·obtain⟨x,hx,rfl⟩:=jX.1 ha;exact xV (key x hx)
end
theorem QX(gt:Gd t){b:List aI}(j:follow kZ kZ (t.v.l++c::b)=some z)(e:c∈t.all):(t.doc (.cD c.id)).2=0/\(t.doc (.cD c.id)).1.v.l=t.v.l++[c]:=by
 have a:=gt.ids;have l:=(aI.eY c).1 (gt.v.may e);unfold Sv.all at a;rw[gP,Ab] at a;have f:c∈t.v.t:=by
  rcases eL.1 e with h|h
  ·have:=Mq j;grind
  ·exact h
 have o:0<=eH t.v.t c.id:=OY.2 ⟨c,f,rfl⟩;have⟨k,M,w,A⟩:=RY j;have⟨_,D,K,_⟩:=sN.1 A;have v:qL t.v.t c.id=true:=by
  unfold qL;rw[fI];refine⟨d! o,?_⟩;rw[Ic,List.any_eq_false];intro y m g;have g:=g! g;have J:=CK gt (tJ _ m);have⟨x,B,i⟩:=Cz w D (q:=y.id.seq) (by grind [vC]) o_;exact a.2.2 _ (xV B) _ (xV m) (by rw[i,<-g.1])
 have F:(pM t.v c.id).2=0:=by
  grind [pM]
 rcases HQ t.v c.id with⟨E,_⟩|⟨_,x,d,y,H,p,_,r⟩
 ·grind
 have u:d=c:=gt.uniq (tJ _ (by grind)) e p;subst u;have n:t.doc (.cD d.id)=(Sv.again ⟨(pM t.v d.id).1,t.ps,t.r⟩,0):=by
  show t.nS d.id=_;grind [Sv.nS,aL.eY]
 rw[n,r];exact⟨rfl,rfl⟩
theorem QZ{D R:List aI}(j:follow kZ kZ (D++R)=some z){s:Sv}(gs:Gd s):∀ {ids:List aL} {out:List Rc},(∀x∈out,x.ok)->(fW s out).v.l <+: D->ids <+: (D.drop (fW s out).v.l.length).map aI.id->(∀c∈D.take ((fW s out).v.l.length+ids.length),c∈(fW s out).all) ->
  (fW s out).v.l.length+ids.length<=(fW s (comms (fW s out) out ids)).v.l.length
 | [],out,_,_,_,_=>bM _
 |a::ids,out,p,o,f,hk=>by
  have gt:=(H5 gs p).2.2.1;have⟨t,k⟩:∃t,fW s out=t:=⟨_,rfl⟩
  rw[k] at o f hk gt;have⟨w,l⟩:=o;have m:D.drop t.v.l.length=w:=by grind
  rw[m] at f;cases w with
  |nil=>exact i! f s_
  |cons c w =>
   rw[jL,List.cons_prefix_cons] at f;obtain⟨rfl,f⟩:=f;have r:c∈t.all:=hk c (by
    rw[<-l,gL,Gc,fX o_,Lr,E7];simp)
   have⟨q,g⟩:=QX gt (b:=w++R) (by rw[<-l,bF] at j;exact j) r;have e:fW s (out++[.cD c.id])=(t.doc (.cD c.id)).1:=by rw[F6,k];rfl
   have n:(t.doc (.cD c.id)).1.v.l++w=D:=by rw[g,bF];exact l
   have:=QZ j gs (ids:=ids) (out:=out++[.cD c.id]) (λx u=>(eL.1 u).elim (p x) λh=>by rw[eM.1 h];trivial) (by rw[e];exact⟨w,n⟩) (by
    rw[e,<-n,List.drop_left];exact f) (λd i=>by
    rw[e] at i⊢;refine(Dz gt _).2 d (hk d ?_);rw[g,bR,xU] at i;rw[gL,show t.v.l.length+(ids.length+1)=t.v.l.length+1+ids.length by omega];exact i)
   rw[e,g,bR,xU] at this;rw[k];unfold comms;rw[c! q,gL];omega
theorem aHs(gt:Gd t)(n:m.ok)(f:m.check=0)(v:m.kind=2)(o:m.to=t.r):(∀c∈(tryAll t m.cL).1.all,c∈(fW t (gS t m)).all) /\
  ∀ {D R:List aI} {z:V4×V4},follow kZ kZ (D++R)=some z->t.v.l <+: D->m.ids <+: (D.drop m.base.toNat).map aI.id->m.base.toNat<=t.v.l.length->(∀c∈D,c∈t.all)->m.base.toNat+m.ids.length<=(fW t (gS t m)).v.l.length:=by
 have⟨k,y⟩:=K5 t (l:=m.cL) (t:=t) (out:=[]) rfl trivial;have e:tryAll t m.cL=m.cL.foldl (λz c=>fP z (.cB c)) (t,[]):=rfl;rw[<-e] at k y;have⟨_,_,_,r,N,_⟩:=Mg.D4 f v;have H:=K0 (s:=t) (m:=m) n f;have g:∀x∈(tryAll t m.cL).2,x.ok:=λx p=>by
  obtain⟨c,b,rfl⟩:=VZ p;exact EE (qR.1 r c b) (n.1 c b)
 have⟨_,M,O,_⟩:=H5 gt g;have j:(tryAll t m.cL).1.v.l=t.v.l:=by
  have:∀(l:List aI) (z:Sv×List Rc),(∀c∈l,c.ok)->Gd z.1->(l.foldl (λz c=>fP z (.cB c)) z).1.v.l=z.1.v.l:=by
   intro l
   induction l with
   |nil=>exact λ_ _ _=>rfl
   |cons c l q=>exact λz w u=>(q _ (λd A=>w d (.tail _ A)) (u.doc (x:=.cB c) (w c (.head _)))).trans (Qn u c)
  exact this m.cL (t,[]) (λc b=>EE (qR.1 r c b) (n.1 c b)) gt
 have grow:∀(ids:List aL) (out:List Rc),(∀x∈out,x.ok)->∀c∈(fW t out).all,c∈(fW t (comms (fW t out) out ids)).all:=by
  intro ids
  induction ids with
  |nil=>exact λ_ _ _ h=>h
  |cons a ids q =>
   intro out g c f;unfold comms;split
   ·have:=q (out++[.cD a]) (λx p=>(eL.1 p).elim (g x) λh=>by rw[eM.1 h];trivial) c;rw[F6] at this;exact this ((Dz (H5 gt g).2.2.1 _).2 c f)
   ·exact f
 unfold gS;rw[c! ⟨f,v,o⟩];refine⟨?_,λ{D R z} B K E hb i=>?_⟩
 ·rw[k];split
  ·exact λc f=>f
  ·exact grow _ _ g
 ·rw[j,b! o_];rw[k] at j⊢;have F:min (t.v.l.length - m.base.toNat) m.ids.length<=m.ids.length:=Nat.min_le_right _ _;have:=QZ B gt (ids:=m.ids.drop (min (t.v.l.length - m.base.toNat) m.ids.length)) (out:=(tryAll t m.cL).2) g (by grind) (by
   rw[j];by_cases J:t.v.l.length - m.base.toNat<=m.ids.length
   ·rw[nM J];have:=KT E (t.v.l.length - m.base.toNat);rw[<-List.map_drop,pU,show m.base.toNat+(t.v.l.length - m.base.toNat)=t.v.l.length by omega] at this;exact this
   ·rw[E9 o_,uF];exact Ln) λc f=>M c (i c (mD f))
  rw[j,lB] at this;omega
end
end Go.Proofs.YtmilalkjbojciaaGreat.Sep
