/- Part BB: what it needs. No condition. -/
import Derived.Test.YtmilalkjbojciaaGreatOAA
import Derived.Test.YtmilalkjbojciaaGreatOBA
import Derived.Test.YtmilalkjbojciaaGreatOAT
import Derived.Test.YtmilalkjbojciaaGreatOAV
import Derived.Test.YtmilalkjbojciaaGreatOAQ
set_option maxRecDepth 100000
set_option maxHeartbeats 8000000
open Go.Proofs.Tryz
namespace Go.Proofs.YtmilalkjbojciaaGreat.Sep
open Go.RowKit Reg
open Mem hiding Rd
def Sv.quiet(s:Sv):Bool:=s.v.t.isEmpty&&qG s.ps
def Sv.make(s:Sv)(c:aX):aX×Int :=
 if 48≤s.v.l.length+s.v.t.length then(dO,3)
 else if aX.may ⟨vK (L0 (s.v.l++s.v.t)) s.r,sF s.v+1,c.kind,c.a,c.b,c.n,c.ref⟩ then(⟨vK (L0 (s.v.l++s.v.t)) s.r,sF s.v+1,c.kind,c.a,c.b,c.n,c.ref⟩,0) else(dO,4)
section
variable (E:Env) (g:Nat) (s:Sv) (os:List Ov)
theorem Sw(hps:s.ps.length≤48):G E 139 [pt g] [aT g s os] λe H'=>∃g2,e=.returned (pt g2)∧H'=[aT g2 s os,aT g s os]:=by
 refine jJ λa b=>?_;have is:=λE' hb=>DI E' g a b s hb;dsimp only[pN];refine t_ func139 ntmps139 ?_;repeat first|refine v_ ?_|intro
 refine eV is ?_;repeat first|refine v_ ?_|intro
 refine rA (l_ [0,1,2,3,5,6,7,8,10,11,12,13] (g_ 4 (g_ 9 (n_ 14 (g_ 15 (n_ 16 .nil)))))) ?_;repeat first|refine v_ ?_|intro
 refine iO (λ(E':Env)=>RG E' a s.r s.ps (by omega)) ?_;rintro e H' ⟨a2,rfl,rfl⟩;repeat first|refine v_ ?_|intro
 refine iO (λ(E':Env)=>J0 E' b s.v os) ?_;rintro e H' ⟨b2,rfl,rfl⟩;repeat first|refine v_ ?_|intro
 rename_i g2;refine aR (H':=[aT g2 s os,aT g s os]) rfl aF ?_ ⟨g2,rfl,rfl⟩;have h1:=aT.mk (E:=E) (R:=pN g a b s os) (g:=g2) (a:=a2) (b:=b2) (s:=s) (os:=os);have h2:=aT.mk (E:=E) (R:=[aT g2 s os]) (g:=g) (a:=a) (b:=b) (s:=s) (os:=os);refine aB.trans (aB.aV (l:=pN g2 a2 b2 s os++pN g a b s os) aC) (aB.trans h1 ?_);refine aB.trans (aB.aV (l:=pN g a b s os++[aT g2 s os]) aC) (aB.trans h2 aA)
theorem Sc(hps:s.ps.length≤48)(cf:fU)(now:Int):G E 180 [pt g,.agg cf.cs.toArray,.int .i64 now] [aT g s os] λe H'=>∃O oc,e=.returned (.slice O (jP (fL s.r cf now) s.ps s.ps.length).length oc)∧H'=[own cP O (jP (fL s.r cf now) s.ps s.ps.length).length oc (jP (fL s.r cf now) s.ps s.ps.length),aT g s os]:=by
 refine jJ λa b=>?_;have book:=λE' hb=>It E' g a b s hb;have rdy:=λE'=>Ry E' a s.r s.ps o_ cf now;generalize jP (fL s.r cf now) s.ps s.ps.length=l at rdy⊢;dsimp only[pN,fU.cs] at rdy⊢;refine t_ func180 ntmps180 ?_;repeat first|refine v_ ?_|intro
 rename_i g4;refine rB (l_ [0,2,3] (g_ 1 (g_ 4 (n_ 5 .nil)))) ([aJ g4 23 _]) ?_;repeat first|refine v_ ?_|intro
 refine Ib book ?_;repeat first|refine v_ ?_|intro
 refine iO rdy ?_;rintro e H' ⟨O,oc,rfl,rfl⟩;repeat first|refine v_ ?_|intro
 have h2:=aT.mk (E:=E) (R:=[own cP O l.length oc l]) (g:=g) (a:=a) (b:=b) (s:=s) (os:=os);exact aR (H':=[own cP O l.length oc l,aT g s os]) rfl aF (aB.trans (aB.aV (l:=pN g a b s os++[own cP O l.length oc l]) aC) (aB.trans h2 aA)) ⟨O,oc,rfl,rfl⟩
theorem Sb:G E 79 [pt g] [aT g s os] (cM (.bool s.quiet) [aT g s os]):=by
 refine jJ λa b=>?_;have is:=λE' hb=>DI E' g a b s hb;have tn:=λE'=>pJ E' b s.v os;have qt:=λE'=>SK E' a s.r s.ps;have hmax:=fX;have mk:=aT.mk (E:=E) (R:=[]) (g:=g) (a:=a) (b:=b) (s:=s) (os:=os);rw[aAc] at mk;unfold Sv.quiet;generalize qG s.ps=qp at qt⊢;dsimp only[pN];refine t_ func79 ntmps79 ?_;repeat first|refine v_ ?_|intro
 refine eV is ?_;repeat first|refine v_ ?_|intro
 refine bW tn ?_;rintro e H' ⟨B,k,hk,rfl,rfl⟩;refine gk bG ?_;by_cases ht:s.v.t.length=0
 ·have he:s.v.t.isEmpty=true:=by rw[List.isEmpty_iff_length_eq_zero];exact ht
  rw[he,aCt];repeat first|refine v_ ?_|intro
  refine bK qt ?_;repeat first|refine v_ ?_|intro
  exact aR (H':=[aT g s os]) rfl aF (aB.trans (aB.aV (l:=pN g a b s os) aC) mk) ⟨rfl,rfl⟩
 ·have he:s.v.t.isEmpty=false:=by
   cases h:s.v.t.isEmpty
   ·rfl
   ·exact absurd (List.isEmpty_iff_length_eq_zero.1 h) ht
  rw[he,aCx];repeat first|refine v_ ?_|intro
  exact aR (H':=[aT g s os]) rfl aF (aB.trans (aB.aV (l:=pN g a b s os) aC) mk) ⟨rfl,rfl⟩
end
def V4.nn(v:V4):Prop:=0≤v.a∧0≤v.b∧0≤v.c∧0≤v.d
theorem Ut{v:V4}(c:aX)(h:v.nn):(Tu v c).nn:=by
 unfold Tu V4.nn V4.set V4.get at *;repeat' split
 all_goals (try dsimp only at *);omega
theorem Up(l:List aX):(L0 l).nn:=by
 unfold L0;have:∀(l:List aX) (v:V4),v.nn→(l.foldl Tu v).nn:=by
  intro l
  induction l with
  |nil=>exact λv h=>h
  |cons c l ih=>exact λv h=>ih _ (Ut c h)
 exact this l _ (by unfold V4.nn FR;decide)
theorem Rb(E:Env)(v:V4)(r:Int)(hv:v.nn):G E 95 [.agg v.cs.toArray,.int .i64 r] [] (cM (.agg (vK v r).cs.toArray) []):=by
 unfold V4.nn at hv;unfold vK;refine t_ func95 ntmps95 ?_;by_cases h:0≤r∧r≤3
 ·rw[if_pos h];rcases four h with rfl|rfl|rfl|rfl
  ·rw[show v.get 0=v.a from rfl];by_cases hk:65535≤v.a
   ·rw[if_pos hk];repeat first|refine v_ ?_|intro
    exact e5_
   ·rw[if_neg hk];repeat first|refine v_ ?_|intro
    exact e5_
  ·rw[show v.get 1=v.b from rfl];by_cases hk:65535≤v.b
   ·rw[if_pos hk];repeat first|refine v_ ?_|intro
    exact e5_
   ·rw[if_neg hk];repeat first|refine v_ ?_|intro
    exact e5_
  ·rw[show v.get 2=v.c from rfl];by_cases hk:65535≤v.c
   ·rw[if_pos hk];repeat first|refine v_ ?_|intro
    exact e5_
   ·rw[if_neg hk];repeat first|refine v_ ?_|intro
    exact e5_
  ·rw[show v.get 3=v.d from rfl];by_cases hk:65535≤v.d
   ·rw[if_pos hk];repeat first|refine v_ ?_|intro
    exact e5_
   ·rw[if_neg hk];repeat first|refine v_ ?_|intro
    exact e5_
 ·rw[if_neg h];repeat first|refine v_ ?_|intro
  exact e5_
theorem MV{v:Lg}(h:v.times.ok):0≤sF v∧sF v<9223372036854775807:=by
 unfold V4.ok at h;unfold sF;omega
section
variable (E:Env) (g:Nat) (s:Sv) (os:List Ov)
theorem WN(c:aX):G E 31 [pt g,.agg c.cs.toArray] [aT g s os] (cM (.tuple #[.agg (s.make c).1.cs.toArray,.int .i64 (s.make c).2]) [aT g s os]):=by
 refine jJ λa b=>?_;refine aK.fact (p:=∃h:Lh,h.os=os∧Lf h s.v) (λw hw=>EC hw (Has.aM (Has.aM Has.aN))) λhex=>?_;obtain⟨h0,_,hf⟩:=hex;have is:=λE' hb=>DI E' g a b s hb;have cm:=λE'=>uB E' b s.v os;have tn:=λE'=>pJ E' b s.v os;have kn:=λE'=>KS E' b s.v os;have ck:=λE'=>Rt E' b s.v os;have nx:=λE'=>Rb E' (L0 (s.v.l++s.v.t)) s.r (Up _);have hlen:=hf.len;have ht:=MV hf.times;have hmax:=fX;unfold Sv.make;generalize L0 (s.v.l++s.v.t)=vv at kn nx⊢;generalize sF s.v=t at ck ht⊢;generalize vK vv s.r=i at nx⊢;have cc:=λE'=>kF E' ⟨i,t+1,c.kind,c.a,c.b,c.n,c.ref⟩;dsimp only[pN,aX.cs,V4.cs] at kn nx cc⊢;have mk:=aT.mk (E:=E) (R:=[]) (g:=g) (a:=a) (b:=b) (s:=s) (os:=os);rw[aAc] at mk;have hm:decide (48≤((s.v.l.length:Int)+(s.v.t.length:Int)))=decide (48≤s.v.l.length+s.v.t.length):=by
  congr 1;exact propext o_
 by_cases h48:48≤s.v.l.length+s.v.t.length
 ·rw[if_pos h48];refine t_ func31 ntmps31 ?_;repeat first|refine v_ ?_|intro
  refine eV is ?_;repeat first|refine v_ ?_|intro
  refine rB (l_ [0,1,2,3,6,7,8,9] (g_ 4 (n_ 5 (g_ 10 (l_ [11,12,13] .nil))))) ([aJ g 147 _]) ?_;repeat first|refine v_ ?_|intro
  refine iO cm ?_;rintro e H' ⟨B,k,hk,rfl,rfl⟩;repeat first|refine v_ ?_|intro
  refine iO tn ?_;rintro e H' ⟨B2,k2,hk2,rfl,rfl⟩;repeat first|refine v_ ?_|intro
  exact gS (H':=[aT g s os]) rfl aF rfl rfl rfl aS rfl aF (aB.trans (aB.aV (l:=pN g a b s os) aC) mk) ⟨rfl,rfl⟩
 ·rw[if_neg h48];refine t_ func31 ntmps31 ?_;repeat first|refine v_ ?_|intro
  refine eV is ?_;repeat first|refine v_ ?_|intro
  rename_i g4 g5;refine rB (l_ [0,1,2,3,6,7,8,9] (g_ 4 (n_ 5 (g_ 10 (l_ [11,12,13] .nil))))) ([aJ g 147 _]) ?_;repeat first|refine v_ ?_|intro
  refine iO cm ?_;rintro e H' ⟨B,k,hk,rfl,rfl⟩;repeat first|refine v_ ?_|intro
  refine iO tn ?_;rintro e H' ⟨B2,k2,hk2,rfl,rfl⟩;repeat first|refine v_ ?_|intro
  refine rB (l_ [0,1,2,3,5,6,7,8,10,11,12,13] (g_ 4 (g_ 9 (n_ 16 (g_ 14 (n_ 15 (g_ 17 (n_ 18 (g_ 19 .nil))))))))) ([aJ g 147 _,cO b s.v os,eC a s.r s.ps]) ?_;repeat first|refine v_ ?_|intro
  refine eJ kn ?_;repeat first|refine v_ ?_|intro
  refine eJ nx ?_;repeat first|refine v_ ?_|intro
  refine eJ ck ?_;repeat first|refine v_ ?_|intro
  by_cases hmay:aX.may ⟨i,t+1,c.kind,c.a,c.b,c.n,c.ref⟩=true
  ·rw[if_pos hmay] at cc⊢;refine bK cc ?_;repeat first|refine v_ ?_|intro
   exact gS (H':=[aT g s os]) rfl aF rfl rfl rfl aS rfl aF (aB.trans (aB.aV (l:=pN g a b s os) aC) mk) ⟨rfl,rfl⟩
  ·rw[if_neg hmay] at cc⊢;refine bK cc ?_;repeat first|refine v_ ?_|intro
   exact gS (H':=[aT g s os]) rfl aF rfl rfl rfl aS rfl aF (aB.trans (aB.aV (l:=pN g a b s os) aC) mk) ⟨rfl,rfl⟩
end
theorem QT{l:List bH}{q:Int}(h:nB q l=true):q+l.length≤sL q l:=by
 induction l generalizing q with
 |nil=>show q+((0:Nat):Int)≤q;omega
 |cons x l ih =>
  change (x.may&&(decide (q<x.ord)&&nB x.ord l))=true at h;rw[aAv,aAv,decide_eq_true_eq] at h;have:=ih h.2.2;show q+((l.length+1:Nat):Int)≤sL x.ord l;omega
theorem N5{made:Int}{l:List bH}{w:List cQ}(h:pY made l=true)(hl:∀e∈l,e.ok)(hw:∀f∈w,f.ok)(h8:w.length≤8):(⟨made,settle w l,w⟩:dS).ok:=by
 unfold pY at h;rw[aAv,decide_eq_true_eq] at h;have:=QT h.1;exact⟨D0 hl,hw,by dsimp only;omega,h.2.2,by dsimp only;rw[dJ];omega,h8⟩
def pQ(r:Int)(ps:List dS)(id:bJ)(made:Int)(l:List bH):List dS×Bool :=
 if id.rep=r∧1≤id.seq∧id.seq≤(ps.length:Int) then
  (if pY made l then(ps.set (id.seq - 1).toNat ⟨made,settle (ps.getD (id.seq - 1).toNat s0).w l,(ps.getD (id.seq - 1).toNat s0).w⟩,true) else(ps,false))
 else(ps,false)
structure O9(r:Int)(ps:List dS)(chl:List Qc):Prop where
 len:chl.length=ps.length
 ok:∀s∈ps,s.ok
 at_:∀(i:Nat) (s:dS),ps[i]?=some s→∃v:Qc,chl[i]?=some v∧v.id=RT r i∧v.made=s.made∧v.l=s.l∧v.n=s.l.length∧v.n≤v.c∧v.c≤maxLen
section
variable (E:Env) (g:Nat) (r:Int) (ps:List dS)
theorem Nc(hps:ps.length≤1000):G E 100 [pt g] [eC g r ps] λe H'=>∃O oc chl,O9 r ps chl∧e=.returned (.slice O ps.length oc)∧H'=[own pZ O ps.length oc chl,aO mV chl,eC g r ps]:=by
 refine mI λx hf=>?_;have hl:x.ls.length=ps.length:=by rw[←hf.ps,aAw]
 refine aK.post (S9 E g x.B x.ls.length x.d r x.ls o_ rfl hf.ok) ?_;rintro e H' ⟨O,oc,chl,rfl,h1,h2,rfl⟩;have h4:=eC.mk (E:=E) (R:=[own pZ O x.ls.length oc chl,aO mV chl]) (g:=g) hf;rw[←hl];refine⟨[own pZ O x.ls.length oc chl,aO mV chl,eC g r ps],?_,O,oc,chl,⟨h1.trans hl,?_,?_⟩,rfl,rfl⟩
 ·refine aB.trans (aB.aV (l:=vM g x.B x.ls.length x.d r x.ls++[own pZ O x.ls.length oc chl,aO mV chl]) aC) (aB.trans h4 aA)
 ·intro s hs;rw[←hf.ps,aFn] at hs;obtain⟨e,he,rfl⟩:=hs;obtain⟨i,hi,rfl⟩:=aBm he;exact(hf.ok i _ (aAa hi)).s
 ·intro i s hs;rw[←hf.ps,aBf] at hs;cases he:x.ls[i]? with
  |none=>rw[he] at hs;cases hs
  |some e =>
   rw[he] at hs;injection hs with hs
   obtain⟨v,k1,k2,k3,k4,k5,k6,k7⟩:=h2 i e he;exact⟨v,k1,k2.trans (hf.ok i e he).id,by rw[k3,←hs];rfl,by rw[k4,←hs];rfl,by rw[k5,←hs];exact(hf.ok i e he).n,k6,k7⟩
theorem Uf(hps:ps.length≤1000)(id:bJ)(made:Int)(A:Option Addr)(m c:Nat)(l:List bH)(hr:Rd E fH A m c l)(hm:m≤1000000)(hlo:∀e∈l,e.ok) :
  G E 366 [pt g,.agg #[.int .i64 id.rep,.int .i64 id.seq,.int .i64 made,.slice A m c]] [eC g r ps] (cM (.bool (pQ r ps id made l).2) [eC g r (pQ r ps id made l).1]):=by
 refine mI λx hf=>?_;have hl:x.ls.length=ps.length:=by rw[←hf.ps,aAw]
 have h4:=eC.mk (E:=E) (R:=[]) (g:=g) hf;rw[aAc] at h4;unfold pQ;by_cases h:id.rep=r∧1≤id.seq∧id.seq≤(ps.length:Int)
 ·rw[if_pos h];obtain⟨e,he,hlt,hid,hsq,hs⟩:=Hv r ps hf (k:=⟨id,0,false⟩) h;dsimp only at he hlt hid hsq hs;rw[hs];obtain⟨h1,_,_⟩:=h;subst h1;by_cases hwh:pY made l=true
  ·rw[if_pos hwh];have hoe:=(hf.ok _ _ he).s;have law:=YY E g x.B x.ls.length x.d id.rep x.ls (id.seq - 1).toNat o_ hlt hf.ok he made A m c l hr hm hwh (N5 hwh hlo hoe.Lk hoe.wide);rw[←hsq] at law;refine aK.post law ?_;rintro e2 H' ⟨ls',rfl,k1,k2,k3,rfl⟩;rw[hf.ps] at k3;have h2:=eC.mk (E:=E) (R:=[]) (g:=g) (x:=⟨x.B,x.d,ls'⟩) (r:=id.rep) ⟨k1,k3,by dsimp only;rw[k2];exact hf.cap⟩;dsimp only at h2;rw[k2,aAc] at h2;exact⟨_,h2,rfl,rfl⟩
  ·rw[if_neg hwh];have law:=λE' hr=>NB E' g x.B x.ls.length x.d id.rep x.ls (id.seq - 1).toNat o_ hlt he made A m c l hr (by simpa using hwh);rw[←hsq] at law;refine aK.post (aK.dU (Hp:=[lg g x.B x.ls.length x.d id.rep,own eD x.B x.ls.length x.d x.ls]) (R:=[aO gJ x.ls,aO iD x.ls]) λE' hE=>law E' (hr.sub hE)) ?_;rintro e2 H' ⟨H1,⟨rfl,rfl⟩,rfl⟩;exact⟨_,h4,rfl,rfl⟩
 ·rw[if_neg h];refine aK.post (aK.dU (Hp:=[lg g x.B x.ls.length x.d r]) λE' hE=>N3 E' g x.B x.ls.length x.d r ⟨id,made,A,m,c,l⟩ o_ (by rw[hl];exact h)) ?_;rintro e H' ⟨H1,⟨rfl,rfl⟩,rfl⟩;exact⟨_,h4,rfl,rfl⟩
end
section
variable (E:Env) (g:Nat) (s:Sv) (os:List Ov)
theorem GO(hps:s.ps.length≤48):G E 32 [pt g] [aT g s os] λe H'=>∃O oc chl,O9 s.r s.ps chl∧e=.returned (.slice O s.ps.length oc)∧H'=[own pZ O s.ps.length oc chl,aO mV chl,aT g s os]:=by
 refine jJ λa b=>?_;have book:=λE' hb=>It E' g a b s hb;have law:=λE'=>Nc E' a s.r s.ps o_;have mk:=λO oc chl=>aT.mk (E:=E) (R:=[own pZ O s.ps.length oc chl,aO mV chl]) (g:=g) (a:=a) (b:=b) (s:=s) (os:=os);dsimp only[pN];refine t_ func32 ntmps32 ?_;repeat first|refine v_ ?_|intro
 refine eV book ?_;repeat first|refine v_ ?_|intro
 refine bW law ?_;rintro e H' ⟨O,oc,chl,hc,rfl,rfl⟩;repeat first|refine v_ ?_|intro
 exact aR (H':=[own pZ O s.ps.length oc chl,aO mV chl,aT g s os]) rfl aF (aB.trans (aB.aV (l:=pN g a b s os++[own pZ O s.ps.length oc chl,aO mV chl]) aC) (aB.trans (mk O oc chl) aA)) ⟨O,oc,chl,hc,rfl,rfl⟩
def Sv.load(s:Sv)(id:bJ)(made:Int)(l:List bH):Sv×Bool:=(⟨s.v,(pQ s.r s.ps id made l).1,s.r⟩,(pQ s.r s.ps id made l).2)
theorem WB(hps:s.ps.length≤48)(id:bJ)(made:Int)(A:Option Addr)(m c:Nat)(l:List bH)(hr:Rd E fH A m c l)(hm:m≤1000000)(hlo:∀e∈l,e.ok) :
  G E 329 [pt g,.agg #[.int .i64 id.rep,.int .i64 id.seq,.int .i64 made,.slice A m c]] [aT g s os] (cM (.bool (s.load id made l).2) [aT g (s.load id made l).1 os]):=by
 refine jJ λa b=>?_;have book:=λE' hb=>It E' g a b s hb;have law:=λE' hr=>Uf E' a s.r s.ps o_ id made A m c l hr hm hlo;unfold Sv.load;generalize pQ s.r s.ps id made l=q at law⊢;have mk:=aT.mk (E:=E) (R:=[]) (g:=g) (a:=a) (b:=b) (s:=⟨s.v,q.1,s.r⟩) (os:=os);rw[aAc] at mk;dsimp only[pN];refine t_ func329 ntmps329 ?_;repeat first|refine v_ ?_|intro
 rename_i g3;refine rB (l_ [0,2] (g_ 1 (g_ 3 (n_ 4 .nil)))) ([aJ g3 90 _]) ?_;repeat first|refine v_ ?_|intro
 refine Ib book ?_;repeat first|refine v_ ?_|intro
 refine Ib law ?_;repeat first|refine v_ ?_|intro
 exact aR (H':=[aT g ⟨s.v,q.1,s.r⟩ os]) rfl aF (aB.trans (aB.aV (l:=pN g a b ⟨s.v,q.1,s.r⟩ os) aC) mk) ⟨rfl,rfl⟩
end
def AU(l:List aX):List UInt8:=if 48<l.length then[] else if l.all aX.may then dP l else[]
def Gs(e:bH):List UInt8:=if e.may then e.put else[]
def NM(s:dS):List UInt8:=[UInt8.ofNat s.made.toNat,UInt8.ofNat s.l.length]++s.l.flatMap Gs
def fJ(s:Sv):List UInt8:=(AU s.v.l++AU s.v.t)++s.ps.flatMap NM
theorem Dy{α β:Type}{f:α→List β}{l:List α}{i:Nat}{x:α}(hx:l[i]?=some x):(l.take (i+1)).flatMap f=(l.take i).flatMap f++f x:=by
 rw[take_succ hx,aDz];simp
section
variable (E:Env)
theorem DV(A:Option Addr)(n c:Nat)(b:List UInt8)(hn:n≤1000000)(B:Option Addr)(k d:Nat)(l:List aX)(hr:Rd E bE B k d l) :
  G E 90 [.slice A n c,.slice B k d] [own aU A n c b] λe H'=>∃A' n' c',(n'≤n+1057∧n'≤c'∧c'≤maxLen)∧e=.returned (.slice A' n' c')∧H'=[own aU A' n' c' (b++AU l)]:=by
 have hk:=hr.len;have hmax:=fX;unfold AU;by_cases h48:48<k
 ·rw[if_pos o_];refine t_ func90 ntmps90 ?_;repeat first|refine v_ ?_|intro
  refine eV (λ(E':Env) h1=>MY E' _ _ _ l h1 h48) ?_;repeat first|refine v_ ?_|intro
  exact aR rfl aF aA (⟨_,_,_,⟨by omega,by omega,by omega⟩,rfl,by rw[aAc]⟩)
 ·rw[if_neg o_];have all:=λE' hr=>F6 E' B k d l hr o_;unfold xI at all;cases hm:l.all aX.may with
  |true =>
   rw[hm] at all;rw[if_pos rfl];refine t_ func90 ntmps90 ?_;repeat first|refine v_ ?_|intro
   refine dX all ?_;rintro e H' ⟨A',c',rfl,rfl⟩;repeat first|refine v_ ?_|intro
   exact aR rfl aF aA (⟨_,_,_,⟨by omega,by omega,by omega⟩,rfl,rfl⟩)
  |false =>
   rw[hm] at all;rw[if_neg sD];refine t_ func90 ntmps90 ?_;repeat first|refine v_ ?_|intro
   refine eV all ?_;repeat first|refine v_ ?_|intro
   exact aR rfl aF aA (⟨_,_,_,⟨by omega,by omega,by omega⟩,rfl,by rw[aAc]⟩)
end
end Go.Proofs.YtmilalkjbojciaaGreat.Sep
