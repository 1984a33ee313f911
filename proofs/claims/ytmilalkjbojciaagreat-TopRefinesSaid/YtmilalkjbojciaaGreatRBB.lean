/- Part BB: what it needs. No condition. -/
import Derived.Test.YtmilalkjbojciaaGreatRAA
import Derived.Test.YtmilalkjbojciaaGreatRBA
import Derived.Test.YtmilalkjbojciaaGreatRAZ
set_option maxRecDepth 100000
set_option maxHeartbeats 8000000
open Go.Proofs.Tryz
namespace Go.Proofs.YtmilalkjbojciaaGreat.Sep
open Go.RowKit Reg Oct
open Mem hiding Rd
theorem L.gdR{N:Nat}{E:Env}{F:Nat→Value}{H R:List aL}{Q:QF}{ops os:List Oper}{P:List Ov}{g:Nat}{s:Sv}(hh:Has (dI P g s) H R)(h:Gd s→L prog N E ops Q os F H):L prog N E ops Q os F H:=⟨λa w ha hw=>by
 obtain⟨x,hx,_⟩:=hw.Jn hh;exact(h hx.2).get a w ha hw⟩
theorem aHo(E:Env)(cf:fU)(hf:¬cf.cV)(A:Option Addr)(m c:Nat)(l:List cH)(hr:Rd E mX A m c l):G E 5 [.agg cf.cs.toArray,.slice A m c] [] (cM (.bool true) []):=by
 have wld:=λM sl=>LW M cf hf sl;have fin:=λM=>XW M cf;rw[decide_eq_false hf] at fin;refine t_ func5 ntmps5 ?_;repeat first|refine v_ ?_|intro
 refine bK OE ?_;repeat first|refine v_ ?_|intro
 refine eV (λM h1=>XQ M A m c l h1 150) ?_;repeat first|refine v_ ?_|intro
 refine bK (λM=>wld M _) ?_;repeat first|refine v_ ?_|intro
 refine bK fin ?_;repeat first|refine v_ ?_|intro
 exact B7
theorem aIu(l:List cH):∀v:Wv,(v.run l).cf=v.cf∧(v.run l).bU.length=v.bU.length:=by
 induction l with
 |nil=>exact λv=>⟨rfl,rfl⟩
 |cons st l ih=>exact λv=>⟨(ih (v.step st).1).1.trans (Eg v st).1,(ih (v.step st).1).2.trans (Eg v st).2⟩
theorem aHw{l m:List aX}(h:l <+: m):(gH (gH sY (m.take l.length)).1 (m.drop l.length)).1=(gH sY m).1∧(gH sY (m.take l.length)).1=(gH sY l).1:=by
 have e:=List.prefix_iff_eq_take.1 h;refine⟨?_,by rw[←e]⟩;have h2:gH sY m=gH sY (m.take l.length++m.drop l.length):=by rw[aAx]
 rw[h2,pO]
theorem aIo(E:Env)(cf:fU)(hf:cf.cV)(A:Option Addr)(m c:Nat)(l:List cH)(hr:Rd E mX A m c l)(hl:∀st∈l,dQ st.c.n):G E 5 [.agg cf.cs.toArray,.slice A m c] [aI []] (cM (.bool true) []):=by
 have hlen:=hr.len;have hcap:=hr.cap;have hmax:=fX;have hr2:Rd E mX A (min m 150) c (l.take 150):=by
  have h:=hr.upto (k:=min m 150) (m:=c) o_ o_ (aAf _);by_cases h60:m≤150
  ·rw[aBr h60,aAj o_] at h⊢;exact h
  ·rw[aFe o_] at h⊢;exact h
 have hl2:∀st∈l.take 150,dQ st.c.n:=λst h=>hl st (aBs h);have rK:=λM hr=>XQ M A m c l hr 150;have wld:=λM hr=>Is M [] cf hf A (min m 150) c (l.take 150) hr o_ hl2;have hrc:=aIu (l.take 150) (Wv.new cf);have hfr:=hf.1;have hnl:(Wv.new cf).bU.length=cf.bN.toNat:=rX _ _;rw[hnl] at hrc;have ref:=aIx hf hl2;have hm2:min m 150≤150:=Nat.min_le_right _ _;clear hnl;generalize (Wv.new cf).run (l.take 150)=v at *;generalize min m 150=m2 at *;obtain⟨nd0,hnd0⟩:∃nd,v.bU[0]?=some nd:=⟨_,aAa o_⟩
 have ref:∀(r:Nat) (n:Nd),v.bU[r]?=some n→n.state.v.l <+: nd0.state.v.l:=λr n hn=>by
  have:=ref r;unfold Wv.state at this;rw[hn,hnd0] at this;exact this
 refine t_ func5 ntmps5 ?_;repeat first|refine v_ ?_|refine Dr.two ?_ ?_|intro
 refine bK OE ?_;repeat first|refine v_ ?_|refine Dr.two ?_ ?_|intro
 refine eV rK ?_;repeat first|refine v_ ?_|refine Dr.two ?_ ?_|intro
 refine cl sD sK aC (λM hE=>wld M (hr2.sub hE)) ?_;rintro e H' ⟨Q1,g1,rfl,rfl⟩;repeat first|refine v_ ?_|refine Dr.two ?_ ?_|intro
 refine cl sD sK aC (λM hE=>FH M _ g1 (m2+1) v 0 nd0 hnd0 o_) ?_;rintro e H' ⟨Q2,gs,rfl,rfl⟩;repeat first|refine v_ ?_|refine Dr.two ?_ ?_|intro
 refine L.gdR (g:=gs) (s:=nd0.state) aS λhg0=>?_;have hall0:=hg0.v.len;have okl0:=hg0.v.T4;refine bW (λM=>qQ M _ gs nd0.state) ?_;rintro e H' ⟨gp,rfl,rfl⟩;repeat first|refine v_ ?_|refine Dr.two ?_ ?_|intro
 refine bW (λM=>iV M _ gp nd0.state.v) ?_;rintro e H' ⟨B0,c0,hc0,rfl,rfl⟩;repeat first|refine v_ ?_|refine Dr.two ?_ ?_|intro
 rename_i g2;generalize hP0:[]++Q1++Q2=P0 at *;generalize nd0.state.v=v0 at *;refine C.loop (X:=Nat×List Ov) (λx=>[(2,pt g2),(5,pt g1),(7,pt gp),(8,.slice B0 v0.l.length c0),(9,.int .i64 x.1)])
  (λx=>[aJ g2 23 cf.cs,AT P0 gp v0,own bE B0 v0.l.length c0 v0.l,aQ (P0++x.2) g1 (m2+1) v,aI (P0++x.2)])
  (λx=>x.1≤cf.bN.toNat) (λx=>cf.bN.toNat - x.1) (0,[]) aD (by dsimp only;rw[aAc];exact aA) (aAh _) ?_
 rintro⟨i,Q⟩ G1 h1;dsimp only at h1⊢;by_cases hi:i<cf.bN.toNat
 case neg =>
  obtain rfl:i=cf.bN.toNat:=o_;repeat first|refine v_ ?_|refine Dr.two ?_ ?_|intro
  exact B7
 obtain⟨nd,hnd⟩:∃nd,v.bU[i]?=some nd:=⟨_,aAa o_⟩
 have hpre:=ref i nd hnd;repeat first|refine v_ ?_|refine Dr.two ?_ ?_|intro
 refine cl sD sK aC (λM hE=>FH M _ g1 (m2+1) v i nd hnd o_) ?_;rintro e H' ⟨Q3,gs3,rfl,rfl⟩;repeat first|refine v_ ?_|refine Dr.two ?_ ?_|intro
 refine L.gdR (g:=gs3) (s:=nd.state) aS λhg=>?_;have hlen3:=hg.v.len;have T4:=hg.v.T4;have TZ:=hg.v.TZ;refine bW (λM=>qQ M _ gs3 nd.state) ?_;rintro e H' ⟨gl,rfl,rfl⟩;repeat first|refine v_ ?_|refine Dr.two ?_ ?_|intro
 generalize nd.state.v=vr at *;refine bW (λM=>iV M _ gl vr) ?_;rintro e H' ⟨B1,c1,hc1,rfl,rfl⟩;repeat first|refine v_ ?_|refine Dr.two ?_ ?_|intro
 have hle:=hpre.length_le;obtain⟨b1,b2⟩:=aHw hpre;have fit0:=(mG pS T4).1;refine DY (λM h1 h2=>aIy M B1 vr.l.length c1 vr.l h1 B0 v0.l.length c0 v0.l h2 hpre) ?_;repeat first|refine v_ ?_|refine Dr.two ?_ ?_|intro
 refine dX (λM h1=>aJt M B0 v0.l.length c0 v0.l h1 okl0 (by omega) vr.l.length hle) ?_;rintro e H' ⟨ya,B2,c2,hya,rfl,rfl⟩;refine gk bG ?_;rw[b2] at hya;dsimp only[P3,Bh.cs,Bk.cs,V4.cs,List.cons_append,List.nil_append];repeat first|refine v_ ?_|refine Dr.two ?_ ?_|intro
 have run1:=λM hr hl=>aJo M vr.l.length (aGy FR (L0 (v0.l.take vr.l.length))) ya hr (by rw[hya];exact fit0) B2 (v0.l.length - vr.l.length) c2 (v0.l.drop vr.l.length) hl (λx hx=>okl0 x (aDw hx)) o_;dsimp only[P3,Bh.cs,Bk.cs,V4.cs,G,List.cons_append,List.nil_append] at run1;refine C1 run1 ?_;rintro e H' ⟨yb,O2,k2,os2,ho2,hyb,rfl,rfl⟩;refine gk bG ?_;rw[hya,←b2,b1] at hyb;dsimp only[Bh.cs,Bk.cs];repeat ((fail_if_success (refine C.seq (x:=Code.region 18 _ _) ?_));first|refine Cx ?_|refine k_ ?_|intro _|refine Dr.two ?_ ?_)
 rename_i gc gb;refine T.n ?_;refine C.cut (X:=Nat×Bh) (λx=>[(2,pt g2),(5,pt g1),(7,pt gp),(8,.slice B0 v0.l.length c0),(9,.int .i64 i),(10,pt gl),(12,pt gc),(14,pt gb),(16,pt x.1)])
  (λx=>[aJ gb 45 yb.cs,iR yb,aJ gc 100 (P3 vr.l.length (aGy FR (L0 (v0.l.take vr.l.length))) ya),iR ya,aJ x.1 45 x.2.cs,iR x.2,AT (P0++Q++Q3) gl vr,aQ (P0++Q++Q3) g1 (m2+1) v,aI (P0++Q++Q3),aJ g2 23 cf.cs,AT P0 gp v0,own bE B0 v0.l.length c0 v0.l])
  (λx=>x.2.b=(gH sY (vr.l++vr.t)).1) ?_ ?_
 ·have run2:=λM B c hr hl=>aJo M vr.l.length (aGy FR (L0 (v0.l.take vr.l.length))) ya hr (by rw[hya];exact fit0) B vr.t.length c vr.t hl TZ o_;dsimp only[P3,Bh.cs,Bk.cs,V4.cs,G,List.cons_append,List.nil_append] at run2;refine rA (l_ [0,1] (.two 2 (.two 3 (l_ [4,5,6] (g_ 7 (g_ 8 (n_ 9 .nil)))) 7 (g_ 3 (l_ [4,5,6] (g_ 8 (n_ 9 .nil))))) 7 (g_ 2 (g_ 3 (l_ [4,5,6] (g_ 8 (n_ 9 .nil))))))) ?_;repeat first|refine v_ ?_|intro
  refine Dr.two ?_ ?_
  ·refine yB rfl sD bA sK aC (λM hE=>IZ M _ gl vr) ?_;rintro e H' ⟨B4,c4,hc4,rfl,rfl⟩;repeat first|refine v_ ?_|intro
   refine Dr.two ?_ ?_
   ·refine yB rfl sD bA sK aC (λM hE=>run2 M B4 c4 dB dB) ?_;rintro e H' ⟨yc,O3,k3,os3,ho3,hyc,rfl,rfl⟩;repeat first|refine v_ ?_|refine Dr.two ?_ ?_|intro
    rename_i gz;exact⟨(gz,yc),aD,(by dsimp only[P3,Bh.cs,Bk.cs,V4.cs,List.cons_append,List.nil_append];exact aA),hyc.trans (by rw[hya,pO])⟩
   ·repeat first|refine v_ ?_|intro
    refine OW (λM=>run2 M B4 c4) ?_;rintro e H' ⟨yc,O3,k3,os3,ho3,hyc,rfl,rfl⟩;repeat first|refine v_ ?_|refine Dr.two ?_ ?_|intro
    rename_i gz;exact⟨(gz,yc),aD,(by dsimp only[P3,Bh.cs,Bk.cs,V4.cs,List.cons_append,List.nil_append];exact aA),hyc.trans (by rw[hya,pO])⟩
  ·repeat first|refine v_ ?_|intro
   refine iO (λM=>IZ M _ gl vr) ?_;rintro e H' ⟨B4,c4,hc4,rfl,rfl⟩;repeat first|refine v_ ?_|intro
   refine OW (λM=>run2 M B4 c4) ?_;rintro e H' ⟨yc,O3,k3,os3,ho3,hyc,rfl,rfl⟩;repeat first|refine v_ ?_|refine Dr.two ?_ ?_|intro
   rename_i gz;exact⟨(gz,yc),aD,(by dsimp only[P3,Bh.cs,Bk.cs,V4.cs,List.cons_append,List.nil_append];exact aA),hyc.trans (by rw[hya,pO])⟩
 ·rintro⟨gz,yc⟩ G2 hyc;dsimp only[P3,Bh.cs,Bk.cs,V4.cs,List.cons_append,List.nil_append] at hyc⊢;have bas:=λM=>aJa M (P0++Q++Q3) gl vr;have bas0:=λM=>aJa M P0 gp v0;have sen:=λM=>aJk M (P0++Q++Q3) gl vr;have boo:=λM x y hx hy=>aJi M x y hx hy;dsimp only[Bh.cs,Bk.cs,G] at bas bas0 sen boo;repeat first|refine v_ ?_|refine Dr.two ?_ ?_|intro
  refine rA (l_ [0,1,2] (g_ 3 (g_ 4 (l_ [5,6,7,8] (g_ 9 (g_ 10 (l_ [11,12,13,14,15] (g_ 16 (g_ 17 (l_ [18,19] .nil)))))))))) ?_;repeat first|refine v_ ?_|refine Dr.two ?_ ?_|intro
  refine iO bas ?_;rintro e H' ⟨z1,hz1,rfl,rfl⟩;repeat first|refine v_ ?_|refine Dr.two ?_ ?_|intro
  have boo1:=λM=>boo M ya z1;rw[decide_eq_true (hya.trans hz1.symm)] at boo1;refine Ju boo1 ?_;repeat first|refine v_ ?_|refine Dr.two ?_ ?_|intro
  refine iO bas0 ?_;rintro e H' ⟨z2,hz2,rfl,rfl⟩;repeat first|refine v_ ?_|refine Dr.two ?_ ?_|intro
  have boo2:=λM=>boo M yb z2;rw[decide_eq_true (hyb.trans hz2.symm)] at boo2;refine Ju boo2 ?_;repeat first|refine v_ ?_|refine Dr.two ?_ ?_|intro
  refine iO sen ?_;rintro e H' ⟨z3,hz3,rfl,rfl⟩;repeat first|refine v_ ?_|refine Dr.two ?_ ?_|intro
  have boo3:=λM=>boo M yc z3;rw[decide_eq_true (hyc.trans hz3.symm)] at boo3;refine Ju boo3 ?_;repeat first|refine v_ ?_|refine Dr.two ?_ ?_|intro
  exact⟨(i+1,Q++Q3),aD,(by dsimp only;rw[←aAb];exact aA),by dsimp only;omega,by dsimp only;omega⟩
theorem RO(E:Env)(cf:fU)(A:Option Addr)(m c:Nat)(l:List cH)(hr:Rd E mX A m c l)(hl:∀st∈l,st.ok):aK prog E 5 #[.agg cf.cs.toArray,.slice A m c] [] λe _=>e=.returned (.bool true):=by
 by_cases hf:cf.cV
 ·exact aK.pre (aB.kP dM) (aK.post (aIo E cf hf A m c l hr λst h=>(hl st h).2.2.2.2.2.2.2.2.2.1) λe H' h=>⟨H',aB.refl,h.1⟩)
 ·exact aK.post (aHo E cf hf A m c l hr) λe H' h=>⟨H',aB.refl,h.1⟩
end Go.Proofs.YtmilalkjbojciaaGreat.Sep
