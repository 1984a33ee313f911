/- 'TopConverges' of any input returns true. -/
import Derived.Test.YtmilalkjbojciaaGreatCZE
import Derived.Test.YtmilalkjbojciaaGreatCZG
set_option linter.all false
set_option maxRecDepth 100000
set_option maxHeartbeats 8000000
open Go.Proofs.Tryz
namespace Go.Proofs.YtmilalkjbojciaaGreat.Sep
section
open Go.RowKit Reg Oct
open Mem hiding Rd
def VL(E:Env):G E 7 [] [] (bL (.bool true) []):=by
 refine aF.pre (aB.pK dZ) ?_;have D:(Wv.new IL).run EZ=aw:=rfl;have i:aw.fair 40=fw:=rfl;have d:IL.dI:=sD;have h:∀st∈EZ,bQ st.c.n:=g! aCb;have a1:=XA;have J:(1<=aw.aD.length/\aw.aD.length<=4)/\(aw.aD.length:Int)=aw.cf.eD:=by rw[XB,XC];decide
 have w:=g! Zz;have p:=Z5;have q:(1<=fw.1.aD.length/\fw.1.aD.length<=4)/\(fw.1.aD.length:Int)=fw.1.cf.eD:=by rw[Z0,Z4];decide
 have r:=Z3;have s:=Zw;have l:=g! Z2;have m:=g! Zy;have o:=g! Z1;have x:=Zx;have j:=λM A c hr=>Tx M [] IL d A 10 c EZ hr sD h;rw[D] at j;have fr:=λM P g=>Uu M P g 11 aw sD J;rw[i] at fr;clear D i;generalize aw=v at *;have⟨⟨a,n,sh⟩,hf⟩:∃z,fw=z:=⟨_,rfl⟩
 rw[hf] at w p q r s l m o x fr;dsimp only at w p q r s l m o x fr;subst p;have⟨b,f⟩:∃b,a.aD[0]?=some b:=⟨_,bS o_⟩
 have t:a.state 0=b.state:=by unfold Wv.state;rw[f]
 rw[t] at s l m o;have F:=λM P g=>OW M P g (11+50000) a sD q;rw[r] at F;have u:=λM P g=>IW M P g (11+50000) a 0 b f sD;refine p_ func7 ntmps7 ?_
 refine r_ aLc ?_
 refine u_ aBw ?_;intro A c
 refine C_ (λM=>j M A c) ?_;intro Q g
 refine cl sD sK aH (λM y=>LG M _ g _ v sD) (b_ ?_);intro N
 refine u_ (λM=>Jh M N v.ref v.app o_) ?_;intro A2 c2 a8
 refine u_ (λM=>fr M _ g) ?_;intro Q2
 refine u_ (λM=>u M _ g) ?_;intro Q3 O
 refine u_ (λM=>uW M _ O b.state) ?_;intro R
 refine u_ (λM=>BB M _ R b.state.v) ?_;intro B k hk
 refine u_ (λM=>F M _ g) ?_;intro Q4
 refine cl sD sK aH (λM y=>LG M _ g _ a sD) (b_ ?_);intro U
 refine u_ (λM=>Jh M U a.ref a.app o_) ?_;intro H K a9
 refine rO (λM X Z=>S4 M H a.app.length K a.app X o_ (BK.fK (Nat.lt_of_le_of_lt (NT a.app ([],[])) (by rw[tH];omega))) B b.state.v.l.length k b.state.v.l Z l o_ o_ (BK.fK m)) ?_;rintro e H' ⟨rfl,rfl⟩;rw[d! o];refine a_ ?_
 refine cl sD sK aH (λM y=>LG M _ g _ a sD) (b_ ?_);intro W
 refine u_ (λM=>Jh M W a.ref a.app o_) ?_;intro A6 c6 b0
 exact aX rfl aJ aC (⟨iK,rfl⟩)
def aOq(E:Env)(A:n!)(n c:Nat)(B:n!)(m d:Nat)(l k:List aI)(g:Rd E bO A n c l)(j:Rd E bO B m d k)(h:l=k):G E 15 [.slice A n c,.slice B m d] [] (bL (.bool true) []):=by
 subst h;have f:=g.len;have b:=g.cap;have o:=j.len;have a:=j.cap;have e:=cS;have p:n=m:=f.trans o.symm;refine p_ func15 ntmps15 ?_;refine C.scan (Y:=Unit) f (λi _=>[(0,.slice A n c),(1,.slice B m d),(5,a! i)]) (λ_ _=>[]) (λ_ _=>True) () aK aB.refl trivial ?_ ?_
 ·intro i _ x G r s _;have q:(!decide (x=x))=false:=s_
  refine a_ ?_;refine rA (l_ [0,1,2,3,4,5,6,7,8] .nil) (a_ ?_);exact⟨(),aK,aB.refl,trivial⟩
 ·intro _ G _;refine a_ ?_;exact aS
def aCd(E:Env)(Z:n!)(n k:Nat)(l:List aI)(d:Rd E bO Z n k l)(b:∀c∈l,c.ok)(g:n<=1000000):G E 44 [.slice Z n k] [] λe f=>∃y:Bh,y.b=(fM fY l).1/\e=.returned (.agg y.cs.toArray)/\f=[gQ y]:=by
 have a:=λM d=>Lb M ⟨fY,none,0,0⟩ (Rd.nil _ _) Bf Z n k l d b g;dsimp only[Bh.cs,Bk.cs,G] at a⊢;refine p_ func44 ntmps44 ?_;intros
 refine C_ a ?_;intro y h
 exact eP rfl aJ rfl rfl rfl aV rfl aC (⟨y,h,rfl,rfl⟩)
def aDz(E:Env)(cf:bW)(d:¬bW.dI ⟨cf.eD,64,cf.cO,cf.base,cf.cap⟩)(A:n!)(m c:Nat)(l:List cK)(g:Rd E nK A m c l):G E 6 [.agg cf.cs.toArray,.slice A m c] [] (bL (.bool true) []):=by
 have b:=λM f=>aHr M ⟨cf.eD,64,cf.cO,cf.base,cf.cap⟩ d f;have a:=λM=>aAt M ⟨cf.eD,64,cf.cO,cf.base,cf.cap⟩;rw[e! d] at a;dsimp only[bW.cs] at b a⊢;refine p_ func6 ntmps6 ?_;intros
 refine r_ VL ?_
 refine z_ (λM e=>VO M A m c l e 80) ?_
 refine r_ (λM=>b M _) ?_
 refine r_ a ?_
 exact aS
def L.Vt{N:Nat}{E:Env}{F:Nat->p!}{H R:List aG}{Q:QF}{b os:List Oper}{P:List Ov}{g t:Nat}{v:Wv}(e:Has (dD P g t v) H R)(h:v.ok t->L prog N E b Q os F H):L prog N E b Q os F H:=⟨λa w d c=>by
 have⟨x,f,_⟩:=c.Jf e;exact(h f.1).get a w d c⟩
def aGq(l:List cK):∀v:Wv,(v.run l).cf=v.cf/\(v.run l).aD.length=v.aD.length:=by
 induction l with
 |nil=>exact λv=>⟨rfl,rfl⟩
 |cons st l a=>exact λv=>⟨(a (v.step st).1).1.trans (Oa v st).1,(a (v.step st).1).2.trans (Oa v st).2⟩
def RL:∀(k:Nat) (v:Wv) (a:Bool) (m:Nat),(vM k v a m).1.cf=v.cf/\(vM k v a m).1.aD.length=v.aD.length
 |0,_,_,_=>⟨rfl,rfl⟩
 |k+1,v,a,m=>by
  cases d:v.quiet with
  |true=>rw[Mi d];exact⟨rfl,rfl⟩
  |false =>
   rw[Mh d];have b:=UC v;have c:=RL k v.round.w (v.round.short||a) (m+1);exact⟨c.1.trans b.1,c.2.trans b.2⟩
def aAb(E:Env)(cf:bW)(hf:bW.dI ⟨cf.eD,64,cf.cO,cf.base,cf.cap⟩)(A:n!)(m c:Nat)(l:List cK)(hr:Rd E nK A m c l)(hl:∀st∈l,bQ st.c.n):G E 6 [.agg cf.cs.toArray,.slice A m c] [aQ []] (bL (.bool true) []):=by
 have hlen:=hr.len;have hcap:=hr.cap;have hmax:=cS;have hr2:Rd E nK A (min m 80) c (l.take 80):=by
  have h:=hr.upto (k:=min m 80) (m:=c) o_ o_ (bM _);by_cases h60:m<=80
  ·rw[nM h60,fX o_] at h⊢;exact h
  ·rw[E9 o_] at h⊢;exact h
 have hl2:∀st∈l.take 80,bQ st.c.n:=λst h=>hl st (mD h);have fK:=λM hr=>VO M A m c l hr 80;have wld:=λM hr=>Tx M [] ⟨cf.eD,64,cf.cO,cf.base,cf.cap⟩ hf A (min m 80) c (l.take 80) hr o_ hl2;have hrc:=aGq (l.take 80) (Wv.new ⟨cf.eD,64,cf.cO,cf.base,cf.cap⟩);have hfr:=hf.1;have hnl:(Wv.new ⟨cf.eD,64,cf.cO,cf.base,cf.cap⟩).aD.length=cf.eD.toNat:=KC _ _;rw[hnl] at hrc;obtain⟨hwi,hnow⟩:=(WI.new hf).run hl2;have hwi:=hwi.more (T':=80) (by rw[dR];omega);have hnow:((Wv.new ⟨cf.eD,64,cf.cO,cf.base,cf.cap⟩).run (l.take 80)).now<=80000:=by
  have e:(Wv.new ⟨cf.eD,64,cf.cO,cf.base,cf.cap⟩).now=0:=rfl;rw[e,dR] at hnow;omega
 have hm2:min m 80<=80:=Nat.min_le_right _ _;clear hnl;generalize (Wv.new ⟨cf.eD,64,cf.cO,cf.base,cf.cap⟩).run (l.take 80)=v at *;generalize min m 80=m2 at *;dsimp only at hrc hfr;dsimp only[bW.cs,G] at wld⊢;refine t_ func6 ntmps6 ?_;repeat first|refine v_ ?_|intro
 refine aP VL ?_;repeat first|refine v_ ?_|intro
 refine cV fK ?_;repeat first|refine v_ ?_|intro
 refine cl sD sK aH (λM hE=>wld M (hr2.sub hE)) ?_;rintro e H' ⟨Q1,g1,rfl,rfl⟩;repeat first|refine v_ ?_|intro
 rename_i g2;generalize hP0:[]++Q1=P0 at *;have cfg2:v.aD.length<=4:=o_;refine C.loop (X:=Nat×List Ov×n!×Nat) (λx=>[(2,pt g2),(5,pt g1),(7,.slice x.2.2.1 (v.AO x.1).length x.2.2.2),(8,a! x.1)])
  (λx=>[own bO x.2.2.1 (v.AO x.1).length x.2.2.2 (v.AO x.1),aE g2 23 [a! cf.eD,a! 64,a! cf.cO,a! cf.base,a! cf.cap],dD (P0++x.2.1) g1 (m2+1) v,aQ (P0++x.2.1)])
  (λx=>x.1<=v.aD.length/\(v.AO x.1).length<=48*x.1) (λx=>v.aD.length - x.1) (0,[],none,0) (show rP _ [(2,pt g2),(5,pt g1),(7,.slice none 0 0),(8,a! ((0:Nat):Int))] from aK) (by dsimp only;rw[aY];show aB _ _ [own bO none 0 0 [],aE g2 23 [a! cf.eD,a! 64,a! cf.cO,a! cf.base,a! cf.cap],dD P0 g1 (m2+1) v,aQ P0];exact(aB.mR bO none).trans aC) ⟨bY _,bM _⟩ ?_
 rintro⟨i,Q,O,oc⟩ G1 ⟨h1,hs⟩;dsimp only at h1 hs⊢;by_cases hi:i<v.aD.length
 ·obtain⟨nd,hnd⟩:∃nd,v.aD[i]?=some nd:=⟨_,bS hi⟩;have es:v.stored i=nd.stored:=by unfold Wv.stored;rw[hnd]
  have e:v.AO (i+1)=v.AO i++nd.stored.v.l++nd.stored.v.t:=by rw[<-es];rfl
  have hir:(i:Int)<cf.eD:=o_;repeat first|refine v_ ?_|intro
  refine cl sD sK aH (λM hE=>aAd M _ g1 (m2+1) v i nd hnd o_) ?_;rintro e H' ⟨Q3,gs,rfl,rfl⟩;repeat first|refine v_ ?_|intro
  refine L.Ms (g:=gs) (s:=nd.stored) aV λhg=>?_;have hlen3:=hg.v.len;refine aU (λM=>uW M _ gs nd.stored) ?_;rintro e H' ⟨gl,rfl,rfl⟩;repeat first|refine v_ ?_|intro
  generalize nd.stored.v=vr at *;refine aU (λM=>BB M _ gl vr) ?_;rintro e H' ⟨B1,c1,hc1,rfl,rfl⟩;repeat first|refine v_ ?_|intro
  rename_i O2 oc2 _ _;refine aU (λM=>Tz M _ gl vr) ?_;rintro e H' ⟨B2,c2,hc2,rfl,rfl⟩;repeat first|refine v_ ?_|intro
  rename_i O3 oc3 _ _;refine⟨(i+1,Q++Q3,O3,oc3),?_,?_,⟨by dsimp only;omega,?_⟩,d_⟩
  ·dsimp only;rw[e,bR,bR];exact aK
  ·dsimp only;rw[e,bR,bR,<-bF];exact aC
  ·dsimp only;rw[e,bR,bR];omega
 obtain rfl:i=v.aD.length:=o_;have hir:¬((v.aD.length:Nat):Int)<cf.eD:=o_;repeat first|refine v_ ?_|intro
 refine L.Vt (g:=g1) (t:=m2+1) (v:=v) aV λhok=>?_;have cv:=Yd hwi (dV _) hnow hok;have hvl:(v.aD.length:Int)=cf.eD:=o_;have fr:=λM P=>Uu M P g1 (m2+1) v o_ ⟨⟨o_,o_⟩,by rw[hrc.1];exact hvl⟩;have hfc:=RL 40 v.start false 0;have hsc:=U7 v;have hfa:vM 40 v.start false 0=v.fair 40:=rfl;rw[hfa,hsc.1,hsc.2] at hfc;clear hfa hsc;generalize v.fair 40=fw at *;obtain⟨w,fn,sh⟩:=fw;dsimp only at fr hfc cv;have hwn:(1<=w.aD.length/\w.aD.length<=4)/\(w.aD.length:Int)=w.cf.eD:=by rw[hfc.1,hfc.2,hrc.1];exact⟨⟨o_,o_⟩,hvl⟩
 refine aU (λM=>fr M _) ?_;rintro e H' ⟨Q2,rfl,rfl⟩;refine gk bU ?_;cases sh with
 |true =>
  repeat first|refine v_ ?_|intro
  exact aS
 |false =>
  repeat first|refine v_ ?_|intro
  refine cl sD sK aH (λM hE=>aMl M _ g1 (m2+1+50000) w o_ hwn) ?_;rintro e H' ⟨Q3,O2,c2,rfl,rfl⟩;by_cases hd:w.dead w.aD.length=[];case neg =>
   have fZ:0<(w.dead w.aD.length).length:=List.length_pos_iff.2 hd;repeat first|refine v_ ?_|intro
   exact aS
  case pos =>
   have cv:=cv rfl hd;have hz:(w.dead w.aD.length).length=0:=by rw[hd];rfl
   repeat first|refine v_ ?_|intro
   obtain⟨nd0,hnd0⟩:∃nd,w.aD[0]?=some nd:=⟨_,bS o_⟩;have hst:w.state 0=nd0.state:=pE hnd0;refine cl sD sK aH (λM hE=>IW M _ g1 (m2+1+50000) w 0 nd0 hnd0 o_) ?_;rintro e H' ⟨Q4,gs,rfl,rfl⟩;repeat first|refine v_ ?_|intro
   refine L.Ms (g:=gs) (s:=nd0.state) aV λhg0=>?_;have hlen0:=hg0.v.len;have okl0:=hg0.v.qE;refine aU (λM=>uW M _ gs nd0.state) ?_;rintro e H' ⟨gp,rfl,rfl⟩;repeat first|refine v_ ?_|intro
   obtain⟨cq,ca,cn,cm,cs,cx1,cx2⟩:=cv;rw[hst] at ca cn cm cs cx1 cx2;have hmem:∀c∈v.AO v.aD.length,c∈nd0.state.v.l:=cs _ (bM _);clear hst cs;generalize nd0.state.v=v0 at *;refine aU (λM=>BB M _ gp v0) ?_;rintro e H' ⟨B0,c0,hc0,rfl,rfl⟩;repeat first|refine v_ ?_|intro
   generalize hP1:P0++Q++Q2++Q3++Q4=P1 at *;generalize v.AO v.aD.length=S at *;refine C.loop (X:=Nat) (λx=>[(2,pt g2),(5,pt g1),(7,.slice O S.length oc),(12,.slice B0 v0.l.length c0),(13,a! x)]) (λ_=>[own bO O S.length oc S,own bO B0 v0.l.length c0 v0.l,aE g2 23 [a! cf.eD,a! 64,a! cf.cO,a! cf.base,a! cf.cap],dD P1 g1 (m2+1+50000) w,aQ P1]) (λx=>x<=S.length) (λx=>S.length - x) 0 aK aC (bY _) ?_;rintro j G2 hj;by_cases hjl:j<S.length
   ·obtain⟨x,hx⟩:∃x,S[j]?=some x:=⟨_,bS hjl⟩;have kL:=YO cn (hmem x (dG hx));repeat ((fail_if_success (refine C.seq (x:=Code.region 23 _ _) ?_));first|refine mV ?_|refine k_ ?_|intro _|refine Dr.two ?_ ?_)
    refine C.cW (X:=Unit) (λ_=>[(2,pt g2),(5,pt g1),(7,.slice O S.length oc),(12,.slice B0 v0.l.length c0),(13,a! j),(14,a! 1)]) (λ_=>[own bO O S.length oc S,own bO B0 v0.l.length c0 v0.l,aE g2 23 [a! cf.eD,a! 64,a! cf.cO,a! cf.base,a! cf.cap],dD P1 g1 (m2+1+50000) w,aQ P1]) (λ_=>True) ?_ ?_
    ·repeat first|refine v_ ?_|intro
     refine C.loop (X:=Nat) (λk=>[(2,pt g2),(5,pt g1),(7,.slice O S.length oc),(12,.slice B0 v0.l.length c0),(13,a! j),(14,a! (Cr x (v0.l.take k))),(15,a! k)]) (λ_=>[own bO O S.length oc S,own bO B0 v0.l.length c0 v0.l,aE g2 23 [a! cf.eD,a! 64,a! cf.cO,a! cf.base,a! cf.cap],dD P1 g1 (m2+1+50000) w,aQ P1]) (λk=>k<=v0.l.length) (λk=>v0.l.length - k) 0 aK aC (bY _) ?_;rintro k G3 hk;by_cases hkl:k<v0.l.length
     ·obtain⟨y,hy⟩:∃y,v0.l[k]?=some y:=⟨_,bS hkl⟩;have hc:=YP (c:=x) hy;have hb:Cr x (v0.l.take k)<=48:=by
       have:=List.countP_le_length (p:=λz=>decide (z=x)) (l:=v0.l.take k);rw[dR] at this;unfold Cr;omega
      by_cases hyx:y=x;have hd2:decide (y=x)=true:=d! hyx;rw[c! hyx] at hc;rotate_left;have hd2:decide (y=x)=false:=e! hyx;rw[b! hyx] at hc;all_goals
       repeat first|refine v_ ?_|intro
       refine rA (l_ [0,1,2,3,4,5,6,7,8] .nil) ?_;repeat first|refine v_ ?_|intro
       refine⟨k+1,?_,aC,o_,o_⟩;rw[hc];exact aK
     ·obtain rfl:k=v0.l.length:=o_;rw[gY,kL];repeat first|refine v_ ?_|intro
      exact⟨(),aK,aC,trivial⟩
    ·rintro⟨⟩ G3 -;repeat first|refine v_ ?_|intro
     exact⟨j+1,aK,aC,o_,o_⟩
   obtain rfl:j=S.length:=o_;repeat first|refine v_ ?_|intro
   refine C.loop (X:=Nat×List Ov) (λx=>[(2,pt g2),(5,pt g1),(12,.slice B0 v0.l.length c0),(16,a! x.1)]) (λx=>[own bO B0 v0.l.length c0 v0.l,aE g2 23 [a! cf.eD,a! 64,a! cf.cO,a! cf.base,a! cf.cap],dD (P1++x.2) g1 (m2+1+50000) w,aQ (P1++x.2)]) (λx=>x.1<=w.aD.length) (λx=>w.aD.length - x.1) (0,[]) aK (by dsimp only;rw[aY];exact aC) (bY _) ?_;rintro⟨i,Q5⟩ G4 hi2;dsimp only at hi2⊢;by_cases hi3:i<w.aD.length
   ·obtain⟨nd,hnd⟩:∃nd,w.aD[i]?=some nd:=⟨_,bS hi3⟩;have hli:(i:Int)<cf.eD:=o_;obtain⟨e1,e2⟩:=ca i hi3;rw[pE hnd] at e1 e2;repeat first|refine v_ ?_|intro
    refine cl sD sK aH (λM hE=>IW M _ g1 (m2+1+50000) w i nd hnd o_) ?_;rintro e H' ⟨Q6,gs6,rfl,rfl⟩;repeat first|refine v_ ?_|intro
    refine aU (λM=>uW M _ gs6 nd.state) ?_;rintro e H' ⟨gl,rfl,rfl⟩;repeat first|refine v_ ?_|intro
    generalize nd.state.v=vr at *;have sen:=λM P=>aNd M P gl vr;have boo:=λM x y hx hy=>aAj M x y hx hy;have mbk:=λM hr=>aCd M B0 v0.l.length c0 v0.l hr okl0 o_;dsimp only[Bh.cs,Bk.cs,G] at sen boo mbk;refine aU (λM=>BB M _ gl vr) ?_;rintro e H' ⟨B1,c1,hc1,rfl,rfl⟩;repeat first|refine v_ ?_|intro
    refine oE (λM h1 h2=>aOq M B1 vr.l.length c1 B0 v0.l.length c0 vr.l v0.l h1 h2 e1) ?_;repeat first|refine v_ ?_|intro
    refine aU (λM=>sen M _) ?_;rintro e H' ⟨z1,hz1,rfl,rfl⟩;repeat first|refine v_ ?_|intro
    refine cU mbk ?_;rintro e H' ⟨z2,hz2,rfl,rfl⟩;refine gk bU ?_;have hzz:z1.b=z2.b:=by rw[hz1,hz2,e1,e2,aY]
    have boo2:=λM=>boo M z1 z2;rw[d! hzz] at boo2;repeat first|refine v_ ?_|intro
    refine oE boo2 ?_;repeat first|refine v_ ?_|intro
    exact⟨(i+1,Q5++Q6),aK,(by dsimp only;rw[<-bF];exact aC),by dsimp only;omega,d_⟩
   obtain rfl:i=w.aD.length:=o_;have hli:¬((w.aD.length:Nat):Int)<cf.eD:=o_;have qui:=λM P=>OW M P g1 (m2+1+50000) w o_ hwn;rw[cq] at qui;repeat first|refine v_ ?_|intro
   refine L.Vt (g:=g1) (t:=m2+1+50000) (v:=w) aV λhok2=>?_;have happ:=hok2.app;have hb1:=BK.net w.app o_;have hb2:BK (wU v0.l):=BK.Ql o_ cx2;refine aU (λM=>qui M _) ?_;rintro e H' ⟨Q7,rfl,rfl⟩;repeat first|refine v_ ?_|intro
   refine cl sD sK aH (λM hE=>LG M _ g1 _ w o_) ?_;rintro e H' ⟨g5,rfl,rfl⟩;repeat first|refine v_ ?_|intro
   refine aU (λM=>Jh M g5 w.ref w.app o_) ?_;rintro e H' ⟨A5,c5,hc5,rfl,rfl⟩;repeat first|refine v_ ?_|intro
   refine rO (λM h1 h2=>S4 M A5 w.app.length c5 w.app h1 o_ hb1 B0 v0.l.length c0 v0.l h2 okl0 o_ o_ hb2) ?_;rintro e H' ⟨rfl,rfl⟩;rw[d! cm];repeat first|refine v_ ?_|intro
   exact aS
def Oh(E:Env)(cf:bW)(A:n!)(m c:Nat)(l:List cK)(d:Rd E nK A m c l)(f:∀x∈l,x.ok):aF prog E 6 #[.agg cf.cs.toArray,.slice A m c] [] λe _=>e=.returned (.bool true):=by
 by_cases b:bW.dI ⟨cf.eD,64,cf.cO,cf.base,cf.cap⟩
 ·exact aF.pre (aB.pK dZ) (aF.post (aAb E cf b A m c l d λx h=>(f x h).2.2.2.2.2.2.2.2.2.1) λe a h=>⟨a,aB.refl,h.1⟩)
 ·exact aF.post (aDz E cf b A m c l d) λe a h=>⟨a,aB.refl,h.1⟩
end
section
open Go.RowKit Reg Go.ChangeShapes Go.WideShapes Go.ChangeAt Go.Deep Go.Proofs.YtmilalkjbojciaaGreat.Open
open Mem hiding Rd
section
variable {H:Type} {enc:q!×p!->H} {W:World} {α:Type}
def K4{n:Nat}{t:q!}{a:Array Field}{cs:List p!}{y:DataW H×List MemPlace}(r:prog.underlying t=some (.struct a))(h:DataW.trod enc prog W 0 (λ_=>true) true n t cs=some y) :
  ∃c,∀(j:Nat) (f:Field) (xF:List p!) (k:Nat),a[j]?=some f->prog.cellsOf f.type=k->(cs.drop f.offset).take k=xF->∃z:DataW H×List MemPlace,DataW.trod enc prog W 0 (λ_=>true) true c f.type xF=some z:=by
 have⟨i,c,p,u,g,s,l⟩:=DataW.trod_struct r h;refine⟨c,λj f xF k e o q=>?_⟩;have m:j<a.size:=(xO.1 e).1;have d:=l j f e;rw[o,q] at d;have b:i[j]?=some (i[j]'o_):=bS o_;exact⟨_,d.trans b⟩
def aGv(T:Ty α)(R:DataW H->α->Prop)(f:prog.cellsOf T.tid=T.size)
  (dec:∀n cs y,cs.length=T.size->DataW.trod enc prog W 0 (λ_=>true) true n T.tid cs=some y->∃a,cs=T.enc a/\R y.1 a)
  {l:Array Field} {v:p!} {d:DataW H} {p:List MemPlace} {base:Nat} (k:prog.underlying T.tid=some (.struct l)) (g:Value.okWide prog W .any base T.tid v) (h:DataW.Trod enc prog W 0 (λ_=>true) true T.tid v d p) :
  ∃a,v=T.val a/\R d a:=by
 unfold Value.okWide at g;rw[k] at g;obtain⟨cs,rfl,s,_⟩:=g;have⟨i,j⟩:=h;have r:(Value.agg cs).cells.toList=cs.toList:=rfl;rw[r] at j;have⟨a,q,o⟩:=dec _ _ _ (by rw[Db,s,f]) j;refine⟨a,?_,o⟩;rcases T.mQ with⟨_,c⟩|⟨c,_⟩
 ·have⟨b,e⟩:=c a;have m:T.enc a=b.toList:=by unfold Ty.enc;rw[e];rfl
  rw[e,show cs=b from Array.ext' (q.trans m)]
 ·rw[k] at c;simp[lY] at c
end
section
variable {H:Type} {enc:q!×p!->H} {W:World}
def Rr:∀n cs y,cs.length=gJ.size->DataW.trod enc prog W 0 (λ_=>true) true n gJ.tid cs=some y->∃x,cs=gJ.enc x/\(λ_ x=>x.ok:DataW H->aL->Prop) y.1 x:=by
 intro n cs y f h
 match cs,f with
 | [b,c],_ =>
  have⟨m,a⟩:=K4 underlying32 h;have⟨o,d⟩:=a 0 _ [b] 1 rfl q_ rfl;obtain⟨g,rfl,j⟩:=tP (k:=.i64) q_ d;have⟨p,e⟩:=a 1 _ [c] 1 rfl q_ rfl;obtain⟨i,rfl,l⟩:=tP (k:=.i64) q_ e;exact⟨⟨g,i⟩,rfl,bounds_i64 j,bounds_i64 l⟩
def X5:∀n cs y,cs.length=bO.size->DataW.trod enc prog W 0 (λ_=>true) true n bO.tid cs=some y->∃x,cs=bO.enc x/\(λ_ x=>x.ok:DataW H->aI->Prop) y.1 x:=by
 intro n cs y A h
 match cs,A with
 | [f,g,i,j,l,m,o,p,q],_ =>
  have⟨U,a⟩:=K4 underlying34 h;have⟨X,r⟩:=a 0 _ [f,g] 2 rfl q_ rfl;have⟨d,b,K⟩:=Rr _ _ _ rfl r;change _=d.cs at b;simp only[aL.cs,GW,and_true] at b;obtain⟨rfl,rfl⟩:=b;have⟨Z,s⟩:=a 1 _ [i] 1 rfl q_ rfl;obtain⟨B,rfl,M⟩:=tP (k:=.i64) q_ s;have⟨z2,t⟩:=a 2 _ [j] 1 rfl q_ rfl;obtain⟨D,rfl,N⟩:=tP (k:=.i64) q_ t;have⟨z3,u⟩:=a 3 _ [l] 1 rfl q_ rfl;obtain⟨E,rfl,O⟩:=tP (k:=.i64) q_ u;have⟨z4,v⟩:=a 4 _ [m] 1 rfl q_ rfl;obtain⟨F,rfl,P⟩:=tP (k:=.i64) q_ v;have⟨z5,w⟩:=a 5 _ [o] 1 rfl q_ rfl;obtain⟨J,rfl,Q⟩:=tP (k:=.i64) q_ w;have⟨z6,z⟩:=a 6 _ [p,q] 2 rfl q_ rfl;have⟨e,c,R⟩:=Rr _ _ _ rfl z;change _=e.cs at c;simp only[aL.cs,GW,and_true] at c;obtain⟨rfl,rfl⟩:=c;exact⟨⟨d,B,D,E,F,J,e⟩,rfl,K,bounds_i64 M,bounds_i64 N,bounds_i64 O,bounds_i64 P,bounds_i64 Q,R⟩
def Xt:∀n cs y,cs.length=JG.size->DataW.trod enc prog W 0 (λ_=>true) true n JG.tid cs=some y->∃x,cs=JG.enc x/\(λ_ x=>x.ok:DataW H->bW->Prop) y.1 x:=by
 intro n cs y o h
 match cs,o with
 | [b,c,d,e,f],_ =>
  have⟨B,a⟩:=K4 underlying23 h;have⟨D,g⟩:=a 0 _ [b] 1 rfl q_ rfl;obtain⟨p,rfl,u⟩:=tP (k:=.i64) q_ g;have⟨E,i⟩:=a 1 _ [c] 1 rfl q_ rfl;obtain⟨q,rfl,v⟩:=tP (k:=.i64) q_ i;have⟨F,j⟩:=a 2 _ [d] 1 rfl q_ rfl;obtain⟨r,rfl,w⟩:=tP (k:=.i64) q_ j;have⟨J,l⟩:=a 3 _ [e] 1 rfl q_ rfl;obtain⟨s,rfl,z⟩:=tP (k:=.i64) q_ l;have⟨K,m⟩:=a 4 _ [f] 1 rfl q_ rfl;obtain⟨t,rfl,A⟩:=tP (k:=.i64) q_ m;exact⟨⟨p,q,r,s,t⟩,rfl,bounds_i64 u,bounds_i64 v,bounds_i64 w,bounds_i64 z,bounds_i64 A⟩
def aAz{v:p!}{d:DataW H}{p:List MemPlace}{base:Nat}(a:Value.okWide prog W .any base 23 v)(h:DataW.Trod enc prog W 0 (λ_=>true) true 23 v d p):∃x:bW,v=.agg x.cs.toArray/\x.ok:=aGv JG (λ_ x=>x.ok) q_ Xt underlying23 a h
def aJx:∀n cs y,cs.length=nK.size->DataW.trod enc prog W 0 (λ_=>true) true n nK.tid cs=some y->∃x,cs=nK.enc x/\(λ_ x=>x.ok:DataW H->cK->Prop) y.1 x:=by
 intro n cs y A h
 match cs,A with
 | [g,i,j,l,m,o,p,q,r,s,b,c,d],_ =>
  have⟨P,a⟩:=K4 underlying39 h;have⟨Q,t⟩:=a 0 _ [g] 1 rfl q_ rfl;obtain⟨B,rfl,J⟩:=tP (k:=.i64) q_ t;have⟨R,u⟩:=a 1 _ [i] 1 rfl q_ rfl;obtain⟨D,rfl,K⟩:=tP (k:=.i64) q_ u;have⟨U,v⟩:=a 2 _ [j] 1 rfl q_ rfl;obtain⟨E,rfl,M⟩:=tP (k:=.i64) q_ v;have⟨X,w⟩:=a 3 _ [l] 1 rfl q_ rfl;obtain⟨F,rfl,N⟩:=tP (k:=.i64) q_ w;have⟨Z,z⟩:=a 4 _ [m,o,p,q,r,s,b,c,d] 9 rfl q_ rfl;have⟨f,e,O⟩:=X5 _ _ _ rfl z;change _=f.cs at e;simp only[aI.cs,GW,and_true] at e;obtain⟨rfl,rfl,rfl,rfl,rfl,rfl,rfl,rfl,rfl⟩:=e;exact⟨⟨B,D,E,F,f⟩,rfl,bounds_i64 J,bounds_i64 K,bounds_i64 M,bounds_i64 N,O⟩
def aGe{v:p!}{d:DataW H}{p:List MemPlace}{base:Nat}(a:Value.okWide prog W .any base 64 v)(h:DataW.Trod enc prog W 0 (λ_=>true) true 64 v d p) :
  ∃A n c l,v=.slice A n c/\Rd (top W) nK A n c l/\Sh (λ_ x=>x.ok) d l c:=aMa nK (λ_ x=>x.ok) q_ aJx underlying64 a h
end
end
end Go.Proofs.YtmilalkjbojciaaGreat.Sep
namespace Go.Proofs.YtmilalkjbojciaaGreat.Oh
open Go.ChangeShapes Go.WideShapes Go.ChangeAt Go.RowKit Go.Proofs.YtmilalkjbojciaaGreat.Open Go.Proofs.YtmilalkjbojciaaGreat.Sep
theorem own:ownKnob prog.godebug=none:=q_
theorem YT(H:Type)(enc:TypeId×Value->H)(W:World)(base:Nat)(args:Array Value)(ds gs:List (DataW H))(before:List MemPlace)
  (hval:∀(j:Nat) t v,Tryz.f6.params[j]?=some t->args[j]?=some v->Value.okWide prog W .any base t v)
  (hW:DataW.Whole enc prog Tryz.f6.params.toList Rows.topConvergesSpec.vars false W args.toList ds gs before) :
  Calls prog 6 args W λe W'=>∃v,e=.returned v/\Rows.topConvergesSpec.post enc prog Tryz.f6 false true false false W args v W':=by
 have hW':=hW;obtain⟨p,q,hA0,hV,rfl,hfz,hnd⟩:=hW;have hA:DataW.TrodAll enc prog W 0 (λ_=>true) true Tryz.f6.params.toList args.toList ds p:=hA0;rw[Tryz.params6] at hA hval;obtain⟨v0,vs0,d0,ds0,p0,q0,hargs,rfl,rfl,h0,r0⟩:=trodAll_cons hA;obtain⟨v1,vs1,d1,ds1,p1,q1,rfl,rfl,rfl,h1,r1⟩:=trodAll_cons r0;obtain⟨rfl,rfl,rfl⟩:=trodAll_nil r1;obtain rfl:args=#[v0,v1]:=by cases args;simp_all
 obtain⟨rfl,rfl⟩:=trodVars_none hV;obtain⟨x0,rfl,hs0⟩:=aAz (hval 0 23 v0 rfl rfl) h0;obtain⟨A1,n1,c1,l1,rfl,hr1,hs1⟩:=aGe (hval 1 64 v1 rfl rfl) h1;clear hA0;simp only[aY] at hW';refine(aHz (Oh (top W) x0 A1 n1 c1 l1 hr1 (aKr hs1))).mono λe W' ⟨he,hb⟩=>?_;subst he;exact⟨_,rfl,N? hW' rfl rfl rfl rfl q_ q_ hb⟩
theorem lifted(os:Os)(started:os.Started)(H:Type)(enc:TypeId×Value->H) :
  ReturnsInHanded {} Tryz.checked os 6 .any (Rows.topConvergesSpec.pre6 enc prog Tryz.f6 Rows.topConvergesRow.domain false) (Rows.topConvergesSpec.post enc prog Tryz.f6 false true false false):=by
 refine returnsInHanded_of_change (C:=Tryz.checked) own started q_ func6
  (ChangeSpec.witness6 (enc:=enc) (C:=Tryz.checked) false ⟨#[],#[.agg #[.int .i64 0,.int .i64 0,.int .i64 0,.int .i64 0,.int .i64 0],.slice none 0 0],[]⟩ 8 q_ q_ q_ q_) ?_
 intro W base args ds gs before hval hW _ _;exact YT H enc W base args ds gs before hval hW
theorem k1:Rows.topConvergesRow.wf (OpenSpec.ofChange Rows.topConvergesSpec)=true:=q_
theorem k2:laidOutB prog=true:=q_
theorem k3:mapsRowed prog=true:=q_
theorem k4:Tryz.f6.params.all (prog.readableRec ·)=true:=q_
theorem k5:namedTie prog Rows.topConvergesRow.named Rows.topConvergesSpec.vars=true:=q_
theorem k6:(Rows.topConvergesRow.stops == [])=true:=q_
theorem k7:(prog.stops == [])=true:=q_
theorem k8:(Rows.topConvergesRow.knobs == [])=true:=q_
theorem k9:(prog.stopKnobs == [])=true:=q_
theorem z8:(Rows.topConvergesRow.inPlace == prog.inPlace 6)=true:=q_
theorem z9:(Rows.topConvergesRow.unfollowed == prog.unfollowed 6)=true:=q_
theorem G':(Rows.topConvergesRow.recurses == prog.recurses 6)=true:=q_
theorem I':(Rows.topConvergesRow.named == prog.varsNamed 6)=true:=q_
theorem J':(Rows.topConvergesRow.maps == (Tryz.f6.params.toList++Rows.topConvergesSpec.plain.varTypes prog).any (prog.mapsRec ·))=true:=q_
theorem SC:(Rows.topConvergesRow.ifaces == (Tryz.f6.params.toList++Rows.topConvergesSpec.plain.varTypes prog).any (prog.ifacesRec ·))=true:=q_
theorem L':(Rows.topConvergesRow.mapsOut == prog.mapsAmong Tryz.f6.resultTypes.toList)=true:=q_
theorem M':(Rows.topConvergesRow.loops == (Tryz.f6.params.toList++Rows.topConvergesSpec.plain.varTypes prog).any (prog.loopsFrom ·))=true:=q_
theorem N':(Rows.topConvergesRow.wideKeys == (Tryz.f6.params.toList++Rows.topConvergesSpec.plain.varTypes prog++Tryz.f6.resultTypes.toList).any (prog.wideKeysFrom ·))=true:=q_
theorem P':Rows.topConvergesSpec.vars.all (prog.varReadable ·)=true:=q_
theorem U':Tryz.f6.resultTypes.all (λt=>prog.readableRec t&&decide (t<prog.types.size))=true:=q_
theorem V':(Rows.topConvergesRow.ifacesOut == Tryz.f6.resultTypes.toList.any (prog.ifacesRec ·))=true:=q_
theorem Y':(Rows.topConvergesRow.loopsOut == Tryz.f6.resultTypes.toList.any (prog.loopsFrom ·))=true:=q_
theorem Z':(Rows.topConvergesRow.plainKeys == prog.plainKeys)=true:=q_
theorem b?:Rows.topConvergesRow.shortTexts.isNone=true:=q_
theorem d?:prog.stopsHeard=true:=q_
theorem e?:prog.mayEnter=true:=q_
theorem f?:(Rows.topConvergesRow.lifted == prog.liftsFinal)=true:=q_
theorem i?:(prog.make == some Rows.topConvergesRow.make)=true:=q_
theorem j?:(Rows.topConvergesRow.kinds == (if Rows.topConvergesRow.domain.isEmpty then[] else Tryz.f6.params.toList.map λt=>match prog.underlying t with|some (.int k)=>some k|_=>none))=true:=q_
theorem k?:(Rows.topConvergesRow.pinned == Rows.topConvergesRow.pinnedBy)=true:=q_
theorem l?:(Rows.topConvergesRow.veiled == (Tryz.f6.params.toList++Rows.topConvergesSpec.plain.varTypes prog++Tryz.f6.resultTypes.toList).any (prog.veiledRec ·))=true:=q_
theorem m?:Rows.topConvergesRow.veiledFits prog Tryz.f6.params.toList (Tryz.f6.params.toList++Rows.topConvergesSpec.plain.varTypes prog++Tryz.f6.resultTypes.toList)=true:=q_
theorem kG{a b:Bool}(h:a=true)(k:b=true):(a&&b)=true:=by rw[h,k];rfl
theorem closed:joinedFacts prog 6 Tryz.f6 Rows.topConvergesSpec Rows.topConvergesRow=true:=(kG (kG (kG (kG (kG (kG (kG (kG (kG (kG (kG (kG (kG (kG (kG (kG (kG (kG (kG (kG (kG (kG (kG (kG (kG (kG (kG (kG (kG (kG (kG k1 k2) k3) k4) k5) k6) k7) k8) k9) z8) z9) G') I') J') SC) L') M') N') P') U') V') Y') Z') b?) d?) e?) f?) i?) j?) k?) l?) m?)
theorem called:prog.funcNamed Rows.topConvergesRow.func=some 6:=q_
theorem proved:Rows.TopConvergesSaid :=
 OpenClaim.holds_of_wide 6 Tryz.f6 rfl rfl rfl rfl rfl rfl rfl ⟨rfl,rfl,rfl,rfl,rfl⟩ rfl rfl rfl rfl rfl called func6 closed
  (of_decide_eq_true q_) (by unfold Func.isWrapper;first|(rw[if_pos (by decide +kernel)];kernel_rfl)|(rw[if_neg (by decide +kernel)];exact⟨rfl,rfl⟩))
  (λos started H enc _=>lifted os started H enc)
#print axioms proved
end Go.Proofs.YtmilalkjbojciaaGreat.Oh
