/- Part AT: what it needs. No condition. -/
import Derived.Test.YtmilalkjbojciaaGreatRAA
import Derived.Test.YtmilalkjbojciaaGreatRAR
import Derived.Test.YtmilalkjbojciaaGreatRAS
import Derived.Test.YtmilalkjbojciaaGreatRAM
import Derived.Test.YtmilalkjbojciaaGreatRAK
set_option maxRecDepth 100000
set_option maxHeartbeats 8000000
open Go.Proofs.Tryz
namespace Go.Proofs.YtmilalkjbojciaaGreat.Sep
open Go.RowKit Reg
open Mem hiding Rd
def Sv.quiet(s:Sv):Bool:=s.v.t.isEmpty&&qG s.ps
def Sv.make(s:Sv)(c:aX):aX×Int :=
 if 48≤s.v.l.length+s.v.t.length then(dO,3)
 else if aX.may ⟨vK (L0 (s.v.l++s.v.t)) s.r,sF s.v+1,c.kind,c.a,c.b,c.n,c.ref⟩ then(⟨vK (L0 (s.v.l++s.v.t)) s.r,sF s.v+1,c.kind,c.a,c.b,c.n,c.ref⟩,0) else(dO,4)
section
variable (E:Env) (g:Nat) (s:Sv) (os:List Ov)
theorem Sw(hps:s.ps.length≤48):G E 139 [pt g] [aT g s os] λe H'=>∃g2,e=.returned (pt g2)∧H'=[aT g2 s os,aT g s os]:=by
 refine jJ λa b=>?_;have is:=λM hb=>DI M g a b s hb;dsimp only[pN];refine t_ func139 ntmps139 ?_;repeat first|refine v_ ?_|intro
 refine eV is ?_;repeat first|refine v_ ?_|intro
 refine rA (l_ [0,1,2,3,5,6,7,8,10,11,12,13] (g_ 4 (g_ 9 (n_ 14 (g_ 15 (n_ 16 .nil)))))) ?_;repeat first|refine v_ ?_|intro
 refine iO (λM=>RG M a s.r s.ps (by omega)) ?_;rintro e H' ⟨a2,rfl,rfl⟩;repeat first|refine v_ ?_|intro
 refine iO (λM=>J0 M b s.v os) ?_;rintro e H' ⟨b2,rfl,rfl⟩;repeat first|refine v_ ?_|intro
 rename_i g2;refine aR (H':=[aT g2 s os,aT g s os]) rfl aF ?_ ⟨g2,rfl,rfl⟩;have h1:=aT.mk (E:=E) (R:=pN g a b s os) (g:=g2) (a:=a2) (b:=b2) (s:=s) (os:=os);have h2:=aT.mk (E:=E) (R:=[aT g2 s os]) (g:=g) (a:=a) (b:=b) (s:=s) (os:=os);refine aB.trans (aB.aV (l:=pN g2 a2 b2 s os++pN g a b s os) aC) (aB.trans h1 ?_);refine aB.trans (aB.aV (l:=pN g a b s os++[aT g2 s os]) aC) (aB.trans h2 aA)
theorem Sc(hps:s.ps.length≤48)(cf:fU)(now:Int):G E 180 [pt g,.agg cf.cs.toArray,.int .i64 now] [aT g s os] λe H'=>∃O oc,e=.returned (.slice O (jP (fL s.r cf now) s.ps s.ps.length).length oc)∧H'=[own cP O (jP (fL s.r cf now) s.ps s.ps.length).length oc (jP (fL s.r cf now) s.ps s.ps.length),aT g s os]:=by
 refine jJ λa b=>?_;have book:=λM hb=>It M g a b s hb;have rdy:=λM=>Ry M a s.r s.ps o_ cf now;generalize jP (fL s.r cf now) s.ps s.ps.length=l at rdy⊢;dsimp only[pN,fU.cs] at rdy⊢;refine t_ func180 ntmps180 ?_;repeat first|refine v_ ?_|intro
 rename_i g4;refine rB (l_ [0,2,3] (g_ 1 (g_ 4 (n_ 5 .nil)))) ([aJ g4 23 _]) ?_;repeat first|refine v_ ?_|intro
 refine Ib book ?_;repeat first|refine v_ ?_|intro
 refine iO rdy ?_;rintro e H' ⟨O,oc,rfl,rfl⟩;repeat first|refine v_ ?_|intro
 have h2:=aT.mk (E:=E) (R:=[own cP O l.length oc l]) (g:=g) (a:=a) (b:=b) (s:=s) (os:=os);exact aR (H':=[own cP O l.length oc l,aT g s os]) rfl aF (aB.trans (aB.aV (l:=pN g a b s os++[own cP O l.length oc l]) aC) (aB.trans h2 aA)) ⟨O,oc,rfl,rfl⟩
theorem Sb:G E 79 [pt g] [aT g s os] (cM (.bool s.quiet) [aT g s os]):=by
 refine jJ λa b=>?_;have is:=λM hb=>DI M g a b s hb;have tn:=λM=>pJ M b s.v os;have qt:=λM=>SK M a s.r s.ps;have hmax:=fX;have mk:=aT.mk (E:=E) (R:=[]) (g:=g) (a:=a) (b:=b) (s:=s) (os:=os);rw[aAc] at mk;unfold Sv.quiet;generalize qG s.ps=qp at qt⊢;dsimp only[pN];refine t_ func79 ntmps79 ?_;repeat first|refine v_ ?_|intro
 refine eV is ?_;repeat first|refine v_ ?_|intro
 refine bW tn ?_;rintro e H' ⟨B,k,hk,rfl,rfl⟩;refine gk bG ?_;by_cases ht:s.v.t.length=0
 ·have he:s.v.t.isEmpty=true:=by rw[List.isEmpty_iff_length_eq_zero];exact ht
  rw[he,aCt];repeat first|refine v_ ?_|intro
  refine bK qt ?_;repeat first|refine v_ ?_|intro
  exact aR (H':=[aT g s os]) rfl aF (aB.trans (aB.aV (l:=pN g a b s os) aC) mk) ⟨rfl,rfl⟩
 ·have he:s.v.t.isEmpty=false:=by
   cases h:s.v.t.isEmpty
   ·rfl
   ·exact absurd (List.isEmpty_iff_length_eq_zero.1 h) ht
  rw[he,aCx];repeat first|refine v_ ?_|intro
  exact aR (H':=[aT g s os]) rfl aF (aB.trans (aB.aV (l:=pN g a b s os) aC) mk) ⟨rfl,rfl⟩
end
def V4.nn(v:V4):Prop:=0≤v.a∧0≤v.b∧0≤v.c∧0≤v.d
theorem Ut{v:V4}(c:aX)(h:v.nn):(Tu v c).nn:=by
 unfold Tu V4.nn V4.set V4.get at *;repeat' split
 all_goals (try dsimp only at *);omega
theorem Up(l:List aX):(L0 l).nn:=by
 unfold L0;have:∀(l:List aX) (v:V4),v.nn→(l.foldl Tu v).nn:=by
  intro l
  induction l with
  |nil=>exact λv h=>h
  |cons c l ih=>exact λv h=>ih _ (Ut c h)
 exact this l _ (by unfold V4.nn FR;decide)
theorem Rb(E:Env)(v:V4)(r:Int)(hv:v.nn):G E 95 [.agg v.cs.toArray,.int .i64 r] [] (cM (.agg (vK v r).cs.toArray) []):=by
 unfold V4.nn at hv;unfold vK;refine t_ func95 ntmps95 ?_;by_cases h:0≤r∧r≤3
 ·rw[if_pos h];rcases four h with rfl|rfl|rfl|rfl
  ·rw[show v.get 0=v.a from rfl];by_cases hk:65535≤v.a
   ·rw[if_pos hk];repeat first|refine v_ ?_|intro
    exact Kz
   ·rw[if_neg hk];repeat first|refine v_ ?_|intro
    exact Kz
  ·rw[show v.get 1=v.b from rfl];by_cases hk:65535≤v.b
   ·rw[if_pos hk];repeat first|refine v_ ?_|intro
    exact Kz
   ·rw[if_neg hk];repeat first|refine v_ ?_|intro
    exact Kz
  ·rw[show v.get 2=v.c from rfl];by_cases hk:65535≤v.c
   ·rw[if_pos hk];repeat first|refine v_ ?_|intro
    exact Kz
   ·rw[if_neg hk];repeat first|refine v_ ?_|intro
    exact Kz
  ·rw[show v.get 3=v.d from rfl];by_cases hk:65535≤v.d
   ·rw[if_pos hk];repeat first|refine v_ ?_|intro
    exact Kz
   ·rw[if_neg hk];repeat first|refine v_ ?_|intro
    exact Kz
 ·rw[if_neg h];repeat first|refine v_ ?_|intro
  exact Kz
theorem MV{v:Lg}(h:v.times.ok):0≤sF v∧sF v<9223372036854775807:=by
 unfold V4.ok at h;unfold sF;omega
section
variable (E:Env) (g:Nat) (s:Sv) (os:List Ov)
theorem WN(c:aX):G E 31 [pt g,.agg c.cs.toArray] [aT g s os] (cM (.tuple #[.agg (s.make c).1.cs.toArray,.int .i64 (s.make c).2]) [aT g s os]):=by
 refine jJ λa b=>?_;refine aK.fact (p:=∃h:Lh,h.os=os∧Lf h s.v) (λw hw=>EC hw (Has.aM (Has.aM Has.aN))) λhex=>?_;obtain⟨h0,_,hf⟩:=hex;have is:=λM hb=>DI M g a b s hb;have cm:=λM=>uB M b s.v os;have tn:=λM=>pJ M b s.v os;have kn:=λM=>KS M b s.v os;have ck:=λM=>Rt M b s.v os;have nx:=λM=>Rb M (L0 (s.v.l++s.v.t)) s.r (Up _);have hlen:=hf.len;have ht:=MV hf.times;have hmax:=fX;unfold Sv.make;generalize L0 (s.v.l++s.v.t)=vv at kn nx⊢;generalize sF s.v=t at ck ht⊢;generalize vK vv s.r=i at nx⊢;have cc:=λM=>kF M ⟨i,t+1,c.kind,c.a,c.b,c.n,c.ref⟩;dsimp only[pN,aX.cs,V4.cs] at kn nx cc⊢;have mk:=aT.mk (E:=E) (R:=[]) (g:=g) (a:=a) (b:=b) (s:=s) (os:=os);rw[aAc] at mk;have hm:decide (48≤((s.v.l.length:Int)+(s.v.t.length:Int)))=decide (48≤s.v.l.length+s.v.t.length):=by
  congr 1;exact propext o_
 by_cases h48:48≤s.v.l.length+s.v.t.length
 ·rw[if_pos h48];refine t_ func31 ntmps31 ?_;repeat first|refine v_ ?_|intro
  refine eV is ?_;repeat first|refine v_ ?_|intro
  refine rB (l_ [0,1,2,3,6,7,8,9] (g_ 4 (n_ 5 (g_ 10 (l_ [11,12,13] .nil))))) ([aJ g 147 _]) ?_;repeat first|refine v_ ?_|intro
  refine iO cm ?_;rintro e H' ⟨B,k,hk,rfl,rfl⟩;repeat first|refine v_ ?_|intro
  refine iO tn ?_;rintro e H' ⟨B2,k2,hk2,rfl,rfl⟩;repeat first|refine v_ ?_|intro
  exact gS (H':=[aT g s os]) rfl aF rfl rfl rfl aS rfl aF (aB.trans (aB.aV (l:=pN g a b s os) aC) mk) ⟨rfl,rfl⟩
 ·rw[if_neg h48];refine t_ func31 ntmps31 ?_;repeat first|refine v_ ?_|intro
  refine eV is ?_;repeat first|refine v_ ?_|intro
  rename_i g4 g5;refine rB (l_ [0,1,2,3,6,7,8,9] (g_ 4 (n_ 5 (g_ 10 (l_ [11,12,13] .nil))))) ([aJ g 147 _]) ?_;repeat first|refine v_ ?_|intro
  refine iO cm ?_;rintro e H' ⟨B,k,hk,rfl,rfl⟩;repeat first|refine v_ ?_|intro
  refine iO tn ?_;rintro e H' ⟨B2,k2,hk2,rfl,rfl⟩;repeat first|refine v_ ?_|intro
  refine rB (l_ [0,1,2,3,5,6,7,8,10,11,12,13] (g_ 4 (g_ 9 (n_ 16 (g_ 14 (n_ 15 (g_ 17 (n_ 18 (g_ 19 .nil))))))))) ([aJ g 147 _,cO b s.v os,eC a s.r s.ps]) ?_;repeat first|refine v_ ?_|intro
  refine eJ kn ?_;repeat first|refine v_ ?_|intro
  refine eJ nx ?_;repeat first|refine v_ ?_|intro
  refine eJ ck ?_;repeat first|refine v_ ?_|intro
  by_cases hmay:aX.may ⟨i,t+1,c.kind,c.a,c.b,c.n,c.ref⟩=true
  ·rw[if_pos hmay] at cc⊢;refine bK cc ?_;repeat first|refine v_ ?_|intro
   exact gS (H':=[aT g s os]) rfl aF rfl rfl rfl aS rfl aF (aB.trans (aB.aV (l:=pN g a b s os) aC) mk) ⟨rfl,rfl⟩
  ·rw[if_neg hmay] at cc⊢;refine bK cc ?_;repeat first|refine v_ ?_|intro
   exact gS (H':=[aT g s os]) rfl aF rfl rfl rfl aS rfl aF (aB.trans (aB.aV (l:=pN g a b s os) aC) mk) ⟨rfl,rfl⟩
end
theorem QT{l:List bH}{q:Int}(h:nB q l=true):q+l.length≤sL q l:=by
 induction l generalizing q with
 |nil=>show q+((0:Nat):Int)≤q;omega
 |cons x l ih =>
  change (x.may&&(decide (q<x.ord)&&nB x.ord l))=true at h;rw[aAv,aAv,decide_eq_true_eq] at h;have:=ih h.2.2;show q+((l.length+1:Nat):Int)≤sL x.ord l;omega
theorem N5{made:Int}{l:List bH}{w:List cQ}(h:pY made l=true)(hl:∀e∈l,e.ok)(hw:∀f∈w,f.ok)(h8:w.length≤8):(⟨made,settle w l,w⟩:dS).ok:=by
 unfold pY at h;rw[aAv,decide_eq_true_eq] at h;have:=QT h.1;exact⟨aHi hl,hw,by dsimp only;omega,h.2.2,by dsimp only;rw[dJ];omega,h8⟩
def pQ(r:Int)(ps:List dS)(id:bJ)(made:Int)(l:List bH):List dS×Bool :=
 if id.rep=r∧1≤id.seq∧id.seq≤(ps.length:Int) then
  (if pY made l then(ps.set (id.seq - 1).toNat ⟨made,settle (ps.getD (id.seq - 1).toNat s0).w l,(ps.getD (id.seq - 1).toNat s0).w⟩,true) else(ps,false))
 else(ps,false)
structure O9(r:Int)(ps:List dS)(chl:List Qc):Prop where
 len:chl.length=ps.length
 ok:∀s∈ps,s.ok
 at_:∀(i:Nat) (s:dS),ps[i]?=some s→∃v:Qc,chl[i]?=some v∧v.id=RT r i∧v.made=s.made∧v.l=s.l∧v.n=s.l.length∧v.n≤v.c∧v.c≤maxLen
section
variable (E:Env) (g:Nat) (r:Int) (ps:List dS)
theorem Nc(hps:ps.length≤1000):G E 100 [pt g] [eC g r ps] λe H'=>∃O oc chl,O9 r ps chl∧e=.returned (.slice O ps.length oc)∧H'=[own pZ O ps.length oc chl,aO mV chl,eC g r ps]:=by
 refine mI λx hf=>?_;have hl:x.ls.length=ps.length:=by rw[←hf.ps,aAw]
 refine aK.post (S9 E g x.B x.ls.length x.d r x.ls o_ rfl hf.ok) ?_;rintro e H' ⟨O,oc,chl,rfl,h1,h2,rfl⟩;have h4:=eC.mk (E:=E) (R:=[own pZ O x.ls.length oc chl,aO mV chl]) (g:=g) hf;rw[←hl];refine⟨[own pZ O x.ls.length oc chl,aO mV chl,eC g r ps],?_,O,oc,chl,⟨h1.trans hl,?_,?_⟩,rfl,rfl⟩
 ·refine aB.trans (aB.aV (l:=vM g x.B x.ls.length x.d r x.ls++[own pZ O x.ls.length oc chl,aO mV chl]) aC) (aB.trans h4 aA)
 ·intro s hs;rw[←hf.ps,aFn] at hs;obtain⟨e,he,rfl⟩:=hs;obtain⟨i,hi,rfl⟩:=aBm he;exact(hf.ok i _ (aAa hi)).s
 ·intro i s hs;rw[←hf.ps,aBf] at hs;cases he:x.ls[i]? with
  |none=>rw[he] at hs;cases hs
  |some e =>
   rw[he] at hs;injection hs with hs
   obtain⟨v,k1,k2,k3,k4,k5,k6,k7⟩:=h2 i e he;exact⟨v,k1,k2.trans (hf.ok i e he).id,by rw[k3,←hs];rfl,by rw[k4,←hs];rfl,by rw[k5,←hs];exact(hf.ok i e he).n,k6,k7⟩
theorem Uf(hps:ps.length≤1000)(id:bJ)(made:Int)(A:Option Addr)(m c:Nat)(l:List bH)(hr:Rd E fH A m c l)(hm:m≤1000000)(hlo:∀e∈l,e.ok) :
  G E 366 [pt g,.agg #[.int .i64 id.rep,.int .i64 id.seq,.int .i64 made,.slice A m c]] [eC g r ps] (cM (.bool (pQ r ps id made l).2) [eC g r (pQ r ps id made l).1]):=by
 refine mI λx hf=>?_;have hl:x.ls.length=ps.length:=by rw[←hf.ps,aAw]
 have h4:=eC.mk (E:=E) (R:=[]) (g:=g) hf;rw[aAc] at h4;unfold pQ;by_cases h:id.rep=r∧1≤id.seq∧id.seq≤(ps.length:Int)
 ·rw[if_pos h];obtain⟨e,he,hlt,hid,hsq,hs⟩:=Hv r ps hf (k:=⟨id,0,false⟩) h;dsimp only at he hlt hid hsq hs;rw[hs];obtain⟨h1,_,_⟩:=h;subst h1;by_cases hwh:pY made l=true
  ·rw[if_pos hwh];have hoe:=(hf.ok _ _ he).s;have law:=YY E g x.B x.ls.length x.d id.rep x.ls (id.seq - 1).toNat o_ hlt hf.ok he made A m c l hr hm hwh (N5 hwh hlo hoe.Lk hoe.wide);rw[←hsq] at law;refine aK.post law ?_;rintro e2 H' ⟨ls',rfl,k1,k2,k3,rfl⟩;rw[hf.ps] at k3;have h2:=eC.mk (E:=E) (R:=[]) (g:=g) (x:=⟨x.B,x.d,ls'⟩) (r:=id.rep) ⟨k1,k3,by dsimp only;rw[k2];exact hf.cap⟩;dsimp only at h2;rw[k2,aAc] at h2;exact⟨_,h2,rfl,rfl⟩
  ·rw[if_neg hwh];have law:=λM hr=>NB M g x.B x.ls.length x.d id.rep x.ls (id.seq - 1).toNat o_ hlt he made A m c l hr (by simpa using hwh);rw[←hsq] at law;refine aK.post (aK.dU (Hp:=[lg g x.B x.ls.length x.d id.rep,own eD x.B x.ls.length x.d x.ls]) (R:=[aO gJ x.ls,aO iD x.ls]) λM hE=>law M (hr.sub hE)) ?_;rintro e2 H' ⟨H1,⟨rfl,rfl⟩,rfl⟩;exact⟨_,h4,rfl,rfl⟩
 ·rw[if_neg h];refine aK.post (aK.dU (Hp:=[lg g x.B x.ls.length x.d r]) λM hE=>N3 M g x.B x.ls.length x.d r ⟨id,made,A,m,c,l⟩ o_ (by rw[hl];exact h)) ?_;rintro e H' ⟨H1,⟨rfl,rfl⟩,rfl⟩;exact⟨_,h4,rfl,rfl⟩
end
section
variable (E:Env) (g:Nat) (s:Sv) (os:List Ov)
theorem GO(hps:s.ps.length≤48):G E 32 [pt g] [aT g s os] λe H'=>∃O oc chl,O9 s.r s.ps chl∧e=.returned (.slice O s.ps.length oc)∧H'=[own pZ O s.ps.length oc chl,aO mV chl,aT g s os]:=by
 refine jJ λa b=>?_;have book:=λM hb=>It M g a b s hb;have law:=λM=>Nc M a s.r s.ps o_;have mk:=λO oc chl=>aT.mk (E:=E) (R:=[own pZ O s.ps.length oc chl,aO mV chl]) (g:=g) (a:=a) (b:=b) (s:=s) (os:=os);dsimp only[pN];refine t_ func32 ntmps32 ?_;repeat first|refine v_ ?_|intro
 refine eV book ?_;repeat first|refine v_ ?_|intro
 refine bW law ?_;rintro e H' ⟨O,oc,chl,hc,rfl,rfl⟩;repeat first|refine v_ ?_|intro
 exact aR (H':=[own pZ O s.ps.length oc chl,aO mV chl,aT g s os]) rfl aF (aB.trans (aB.aV (l:=pN g a b s os++[own pZ O s.ps.length oc chl,aO mV chl]) aC) (aB.trans (mk O oc chl) aA)) ⟨O,oc,chl,hc,rfl,rfl⟩
def Sv.load(s:Sv)(id:bJ)(made:Int)(l:List bH):Sv×Bool:=(⟨s.v,(pQ s.r s.ps id made l).1,s.r⟩,(pQ s.r s.ps id made l).2)
theorem WB(hps:s.ps.length≤48)(id:bJ)(made:Int)(A:Option Addr)(m c:Nat)(l:List bH)(hr:Rd E fH A m c l)(hm:m≤1000000)(hlo:∀e∈l,e.ok) :
  G E 329 [pt g,.agg #[.int .i64 id.rep,.int .i64 id.seq,.int .i64 made,.slice A m c]] [aT g s os] (cM (.bool (s.load id made l).2) [aT g (s.load id made l).1 os]):=by
 refine jJ λa b=>?_;have book:=λM hb=>It M g a b s hb;have law:=λM hr=>Uf M a s.r s.ps o_ id made A m c l hr hm hlo;unfold Sv.load;generalize pQ s.r s.ps id made l=q at law⊢;have mk:=aT.mk (E:=E) (R:=[]) (g:=g) (a:=a) (b:=b) (s:=⟨s.v,q.1,s.r⟩) (os:=os);rw[aAc] at mk;dsimp only[pN];refine t_ func329 ntmps329 ?_;repeat first|refine v_ ?_|intro
 rename_i g3;refine rB (l_ [0,2] (g_ 1 (g_ 3 (n_ 4 .nil)))) ([aJ g3 90 _]) ?_;repeat first|refine v_ ?_|intro
 refine Ib book ?_;repeat first|refine v_ ?_|intro
 refine Ib law ?_;repeat first|refine v_ ?_|intro
 exact aR (H':=[aT g ⟨s.v,q.1,s.r⟩ os]) rfl aF (aB.trans (aB.aV (l:=pN g a b ⟨s.v,q.1,s.r⟩ os) aC) mk) ⟨rfl,rfl⟩
end
def AU(l:List aX):List UInt8:=if 48<l.length then[] else if l.all aX.may then dP l else[]
def Gs(e:bH):List UInt8:=if e.may then e.put else[]
def NM(s:dS):List UInt8:=[UInt8.ofNat s.made.toNat,UInt8.ofNat s.l.length]++s.l.flatMap Gs
def fJ(s:Sv):List UInt8:=(AU s.v.l++AU s.v.t)++s.ps.flatMap NM
theorem Dy{α β:Type}{f:α→List β}{l:List α}{i:Nat}{x:α}(hx:l[i]?=some x):(l.take (i+1)).flatMap f=(l.take i).flatMap f++f x:=by
 rw[take_succ hx,aDz];simp
section
variable (E:Env)
theorem DV(A:Option Addr)(n c:Nat)(b:List UInt8)(hn:n≤1000000)(B:Option Addr)(k d:Nat)(l:List aX)(hr:Rd E bE B k d l) :
  G E 90 [.slice A n c,.slice B k d] [own aU A n c b] λe H'=>∃A' n' c',(n'≤n+1057∧n'≤c'∧c'≤maxLen)∧e=.returned (.slice A' n' c')∧H'=[own aU A' n' c' (b++AU l)]:=by
 have hk:=hr.len;have hmax:=fX;unfold AU;by_cases h48:48<k
 ·rw[if_pos o_];refine t_ func90 ntmps90 ?_;repeat first|refine v_ ?_|intro
  refine eV (λM h1=>MY M _ _ _ l h1 h48) ?_;repeat first|refine v_ ?_|intro
  exact aR rfl aF aA (⟨_,_,_,⟨by omega,by omega,by omega⟩,rfl,by rw[aAc]⟩)
 ·rw[if_neg o_];have all:=λM hr=>F6 M B k d l hr o_;unfold xI at all;cases hm:l.all aX.may with
  |true =>
   rw[hm] at all;rw[if_pos rfl];refine t_ func90 ntmps90 ?_;repeat first|refine v_ ?_|intro
   refine dX all ?_;rintro e H' ⟨A',c',rfl,rfl⟩;repeat first|refine v_ ?_|intro
   exact aR rfl aF aA (⟨_,_,_,⟨by omega,by omega,by omega⟩,rfl,rfl⟩)
  |false =>
   rw[hm] at all;rw[if_neg sD];refine t_ func90 ntmps90 ?_;repeat first|refine v_ ?_|intro
   refine eV all ?_;repeat first|refine v_ ?_|intro
   exact aR rfl aF aA (⟨_,_,_,⟨by omega,by omega,by omega⟩,rfl,by rw[aAc]⟩)
end
end Go.Proofs.YtmilalkjbojciaaGreat.Sep
namespace Go.Proofs.YtmilalkjbojciaaGreat.Sep
theorem V4.mE{v:V4}{i j x:Int}(hi:0≤i∧i≤3)(hj:0≤j∧j≤3):(v.set i x).get j=if j=i then x else v.get j:=by
 rcases four hi with rfl|rfl|rfl|rfl<;>rcases four hj with rfl|rfl|rfl|rfl<;>rfl
theorem V4.set_comm{v:V4}{i j x y:Int}(hi:0≤i∧i≤3)(hj:0≤j∧j≤3)(h:i≠j):(v.set i x).set j y=(v.set j y).set i x:=by
 rcases four hi with rfl|rfl|rfl|rfl<;>rcases four hj with rfl|rfl|rfl|rfl<;>first|exact absurd rfl h|rfl
def gT(k t:V4)(c:aX):Bool:=Ak k t c&&c.may
def follow(k t:V4):List aX→Option (V4×V4)
 | []=>some (k,t)
 |c::l=>if gT k t c then follow (k.set c.id.rep c.id.seq) (t.set c.id.rep c.time) l else none
theorem gY{k t:V4}{c:aX}:gT k t c=true↔c.may=true∧(0≤c.id.rep∧c.id.rep≤3)∧c.id.seq=k.get c.id.rep+1∧t.get c.id.rep<c.time:=by
 unfold gT Ak vK;rw[aAv,aAv,aAv,aAv,decide_eq_true_eq,decide_eq_true_eq,decide_eq_true_eq];constructor
 ·rintro⟨⟨⟨⟨_,h2⟩,h3⟩,h4⟩,h5⟩;have hm:=(aX.bY c).1 h5;refine⟨h5,⟨hm.1.1,hm.1.2.1⟩,?_,h4⟩;rw[if_pos ⟨hm.1.1,hm.1.2.1⟩] at h2;split at h2
  ·have:=congrArg bJ.seq h2;dsimp only at this;have:=hm.1.2.2.1;omega
  ·exact(congrArg bJ.seq h2).symm
 ·rintro⟨h5,h1,h2,h4⟩;have hm:=(aX.bY c).1 h5;refine⟨⟨⟨⟨(bJ.bY c.id).2 hm.1,?_⟩,hm.2.1⟩,h4⟩,h5⟩;rw[if_pos h1,if_neg o_,←h2]
theorem eU(k t:V4)(a b:List aX):follow k t (a++b)=(follow k t a).bind λp=>follow p.1 p.2 b:=by
 induction a generalizing k t with
 |nil=>rfl
 |cons c a ih =>
  rw[aCj,follow,follow];split
  ·exact ih _ _
  ·rfl
theorem Gy{k t:V4}{x c:aX}{l:List aX}(h:x.id.rep≠c.id.rep)(hx:0≤x.id.rep∧x.id.rep≤3)(hc:0≤c.id.rep∧c.id.rep≤3):follow k t (x::c::l)=follow k t (c::x::l):=by
 have key:∀ {x c:aX},x.id.rep≠c.id.rep→(0≤x.id.rep∧x.id.rep≤3)→(0≤c.id.rep∧c.id.rep≤3)→gT (k.set x.id.rep x.id.seq) (t.set x.id.rep x.time) c=gT k t c:=by
  intro x c h hx hc;rw[aBz,gY,gY,V4.mE hx hc,V4.mE hx hc,if_neg (aFh h),if_neg (aFh h)]
 simp only[follow];rw[key h hx hc,key (aFh h) hc hx,V4.set_comm hx hc h,V4.set_comm hx hc h];cases gT k t x<;>cases gT k t c<;>simp
theorem Ac{k t:V4}{a b:List aX}{c:aX}(h:∀x∈a,x.id.rep≠c.id.rep∧0≤x.id.rep∧x.id.rep≤3)(hc:0≤c.id.rep∧c.id.rep≤3):follow k t (a++c::b)=follow k t (c::(a++b)):=by
 induction a generalizing k t with
 |nil=>rfl
 |cons x a ih =>
  have hx:=h x aBo;rw[aCj,aCj,←Gy hx.1 hx.2 hc,follow,follow];split
  ·exact ih λy hy=>h y (aBl _ hy)
  ·rfl
theorem Ah{k t k' t':V4}{l:List aX}(h:follow k t l=some (k',t')){r:Int}(hr:0≤r∧r≤3):k.get r≤k'.get r∧t.get r≤t'.get r:=by
 induction l generalizing k t with
 |nil=>injection h with h;injection h with h1 h2;subst h1 h2;exact⟨aCd _,aCd _⟩
 |cons c l ih =>
  rw[follow] at h;split at h
  ·rename_i hn;obtain⟨_,h1,h2,h3⟩:=gY.1 hn;have:=ih h;rw[V4.mE h1 hr,V4.mE h1 hr] at this;split at this
   ·rename_i e;subst e;omega
   ·exact this
  ·cases h
theorem jF{k t k' t':V4}{l:List aX}(h:follow k t l=some (k',t')){x:aX}(hx:x∈l):x.may=true∧(0≤x.id.rep∧x.id.rep≤3)∧k.get x.id.rep<x.id.seq∧x.id.seq≤k'.get x.id.rep∧t.get x.id.rep<x.time∧x.time≤t'.get x.id.rep:=by
 induction l generalizing k t with
 |nil=>exact absurd hx (aAk)
 |cons c l ih =>
  rw[follow] at h;split at h
  ·rename_i hn;obtain⟨h0,h1,h2,h3⟩:=gY.1 hn;rcases aEj.1 hx with rfl|hx
   ·have:=Ah h h1;rw[V4.mE h1 h1,V4.mE h1 h1,if_pos rfl,if_pos rfl] at this;exact⟨h0,h1,by omega,this.1,h3,this.2⟩
   ·obtain⟨q0,q1,q2,q3,q4,q5⟩:=ih h hx;rw[V4.mE h1 q1] at q2 q4;refine⟨q0,q1,?_,q3,?_,q5⟩
    ·split at q2
     ·rename_i e;rw[e];omega
     ·exact q2
    ·split at q4
     ·rename_i e;rw[e];omega
     ·exact q4
  ·cases h
theorem BT{k t k' t':V4}{l:List aX}(h:follow k t l=some (k',t')){r q:Int}(hr:0≤r∧r≤3)(h1:k.get r<q)(h2:q≤k'.get r):∃x∈l,x.id=⟨r,q⟩:=by
 induction l generalizing k t with
 |nil=>injection h with h;injection h with h3 h4;subst h3;omega
 |cons c l ih =>
  rw[follow] at h;split at h
  ·rename_i hn;obtain⟨_,g1,g2,g3⟩:=gY.1 hn;by_cases e:r=c.id.rep∧q=c.id.seq
   ·exact⟨c,aBo,by cases hc:c.id;rw[hc] at e;rw[e.1,e.2]⟩
   ·obtain⟨x,hx,hid⟩:=ih h (by rw[V4.mE g1 hr];split;(rename_i e2;rw[e2] at h1;omega);exact h1);exact⟨x,aBl _ hx,hid⟩
  ·cases h
theorem aHl{k t k' t':V4}{l:List aX}(h:follow k t l=some (k',t')):(l.map aX.id).Nodup:=by
 induction l generalizing k t with
 |nil=>exact List.nodup_nil
 |cons c l ih =>
  rw[follow] at h;split at h
  ·rename_i hn;obtain⟨_,g1,g2,g3⟩:=gY.1 hn;rw[aCi,List.nodup_cons];refine⟨λhm=>?_,ih h⟩;obtain⟨x,hx,e⟩:=aFn.1 hm;have:=(jF h hx).2.2.1;rw[e,V4.mE g1 g1,if_pos rfl] at this;omega
  ·cases h
theorem MW{k t k' t':V4}{a b:List aX}{c x:aX}(h:follow k t (a++c::b)=some (k',t'))(hx:x∈a)(hr:x.id.rep=c.id.rep):x.id.seq<c.id.seq:=by
 rw[eU] at h;cases h1:follow k t a with
 |none=>rw[h1] at h;cases h
 |some p =>
  rw[h1] at h;have h2:follow p.1 p.2 (c::b)=some (k',t'):=h;have h3:=jF (l:=a) (k':=p.1) (t':=p.2) h1 hx;have h4:=(jF h2 (x:=c) aBo).2.2.1;rw[hr] at h3;omega
theorem wQ(a b:Int):(a<b∧sX a b = -1)∨(a=b∧sX a b=0)∨(b<a∧sX a b=1):=by
 unfold sX;rcases Int.lt_trichotomy a b with h|h|h
 ·exact .inl ⟨h,by rw[if_pos h]⟩
 ·exact .inr (.inl ⟨h,by rw[if_neg o_,if_neg o_]⟩)
 ·exact .inr (.inr ⟨h,by rw[if_neg o_,if_pos h]⟩)
theorem yQ(a b:aX):iP a b<0↔a.time<b.time∨a.time=b.time∧(a.id.rep<b.id.rep∨a.id.rep=b.id.rep∧a.id.seq<b.id.seq):=by
 unfold iP;rcases wQ a.time b.time with⟨h,e⟩|⟨h,e⟩|⟨h,e⟩<;>rcases wQ a.id.rep b.id.rep with⟨h2,e2⟩|⟨h2,e2⟩|⟨h2,e2⟩<;>rcases wQ a.id.seq b.id.seq with⟨h3,e3⟩|⟨h3,e3⟩|⟨h3,e3⟩<;>rw[e,e2,e3]<;>simp[DC]<;>omega
def HL(l:List aX):Prop:=l.Pairwise λx y=>iP x y<0
theorem zE{α:Type}{p:α→Bool}{l:List α}{x:α}(hx:x∈l.drop (behind p l)):p x=false:=by
 induction l with
 |nil=>simp at hx
 |cons a l ih =>
  rw[behind] at hx;split at hx
  ·exact ih hx
  ·rename_i h0;have h0:behind p l=0:=o_;rw[h0,aCh] at ih;split at hx
   ·exact ih hx
   ·rename_i ha;rcases aEj.1 hx with rfl|hx
    ·simpa using ha
    ·exact ih hx
theorem Gu{α:Type}{p:α→Bool}{l:List α}{n:Nat}(h:behind p l=n+1):∃x,l[n]?=some x∧p x=true:=by
 induction l generalizing n with
 |nil=>cases h
 |cons a l ih =>
  rw[behind] at h;split at h
  ·rename_i h0;obtain⟨m,hm⟩:∃m,behind p l=m+1:=⟨behind p l - 1,by omega⟩
   obtain⟨x,h1,h2⟩:=ih hm;obtain rfl:n=m+1:=o_;exact⟨x,by simpa using h1,h2⟩
  ·split at h
   ·rename_i ha;obtain rfl:n=0:=o_;exact⟨a,rfl,ha⟩
   ·cases h
theorem HL.put{l:List aX}(h:HL l){c:aX}(hd:∀x∈l,x.id≠c.id):HL (lG l c):=by
 unfold HL lG at *;have hle:=AJ (λx=>decide (¬iP c x<0)) l;have haft:∀y∈l.drop (uI l c),iP c y<0:=λy hy=>by
  have:=zE hy;simpa using this
 have hpre:∀y∈l.take (uI l c),iP y c<0:=by
  intro y hy;cases hn:uI l c with
  |zero=>rw[hn] at hy;simp at hy
  |succ n =>
   obtain⟨z,hz,hp⟩:=Gu hn;have hp:¬iP c z<0:=by simpa using hp
   have hzc:iP z c<0:=by
    rw[yQ] at hp⊢;have:=hd z (aAi hz);have:¬(z.id.rep=c.id.rep∧z.id.seq=c.id.seq):=λh=>this (bJ.eq_iff.2 h);omega
   rw[hn,take_succ hz] at hy;rcases aBg.1 hy with hy|hy
   ·obtain⟨i,hi,rfl⟩:=aBm hy;have hyz:iP (l.take n)[i] z<0:=by
     obtain⟨hnl,rfl⟩:=aAd.1 hz;rw[aAg] at hi;rw[List.getElem_take];exact List.pairwise_iff_getElem.1 h i n o_ hnl o_
    rw[yQ] at hyz hzc⊢;omega
   ·rw[aAp] at hy;subst hy;exact hzc
 rw[aAb,aFf];refine⟨h.sublist (aFt _ _),?_,?_⟩
 ·rw[List.singleton_append,List.pairwise_cons];exact⟨haft,h.sublist (List.drop_sublist _ _)⟩
 ·intro a ha b hb;rcases aBg.1 hb with hb|hb
  ·rw[aAp] at hb;subst hb;exact hpre a ha
  ·rw[←aAx (uI l c) l,aFf] at h;exact h.2.2 a ha b hb
theorem DW{l:List aX}{c:aX}(h:HL (l++[c])):lG l c=l++[c]:=by
 unfold HL at h;rw[aFf] at h;have e:uI l c=l.length:=by
  unfold uI;rcases List.eq_nil_or_concat l with rfl|⟨m,z,rfl⟩
  ·rfl
  ·have hz:iP z c<0:=h.2.2 z (by simp) c (by simp);rw[List.concat_eq_append,D4 (i:=m.length) (x:=z) (by simp) (by rw[decide_eq_true_eq];rw[yQ] at hz⊢;omega) (λj y hj hy=>by
    have:=(aAd.1 hy).1;simp at this;omega)]
   simp
 unfold lG;rw[e,aAo,aCy,aAc]
theorem JN{k t k' t':V4}{a l:List aX}{c:aX}(h:follow k t (a++l)=some (k',t'))(hn:gT k' t' c=true):follow k t (a++lG l c)=some (k'.set c.id.rep c.id.seq,t'.set c.id.rep c.time):=by
 obtain⟨_,g1,g2,g3⟩:=gY.1 hn;have haft:∀y∈l.drop (uI l c),y.id.rep≠c.id.rep∧0≤y.id.rep∧y.id.rep≤3:=λy hy=>by
  have h1:iP c y<0:=by simpa using zE hy
  have h2:=jF h (aCp _ (aDw hy));refine⟨λe=>?_,h2.2.1⟩;have h3:=h2.2.2.2.2.2;rw[yQ] at h1;rw[e] at h3;omega
 unfold lG;rw[aAb,List.singleton_append,←aAb,eU];have h5:follow k t ((a++l.take (uI l c))++l.drop (uI l c))=some (k',t'):=by rw[aAb,aAx];exact h
 rw[eU] at h5;cases h6:follow k t (a++l.take (uI l c)) with
 |none=>rw[h6] at h5;cases h5
 |some p =>
  rw[h6] at h5;have h5:follow p.1 p.2 (l.drop (uI l c))=some (k',t'):=h5;show follow p.1 p.2 (c::l.drop (uI l c))=_;have h7:=Ac (k:=p.1) (t:=p.2) (b:=[]) (c:=c) haft g1;rw[aAc] at h7;rw[←h7,eU,h5];show(if gT k' t' c then _ else none)=_;rw[if_pos hn];rfl
theorem Fe{k t k' t':V4}{a x y:List aX}{c:aX}(h:follow k t (a++(x++c::y))=some (k',t'))(hf:∀z∈x,¬(z.id.rep=c.id.rep∧z.id.seq<c.id.seq)):follow k t (a++[c]++(x++y))=some (k',t'):=by
 have hx:∀z∈x,z.id.rep≠c.id.rep∧0≤z.id.rep∧z.id.rep≤3:=λz hz=>by
  have h2:=jF h (aCp _ (aDn _ hz));refine⟨λe=>hf z hz ⟨e,?_⟩,h2.2.1⟩;rw[←aAb] at h;exact MW h (aCp _ hz) e
 have hc:=(jF h (x:=c) (by simp)).2.1;rw[←h,aAb,eU,eU,List.singleton_append];congr 1;funext p;exact(Ac hx hc).symm
def gw(e:bH):Bool×cQ:=(e.gone,e.bC)
theorem JZ{w:List cQ}{l l':List bH}(h:l'.map gw=l.map gw)(j:Nat):lost w l' j=lost w l j:=by
 induction j with
 |zero=>rfl
 |succ j ih =>
  have h1:(l'.map gw)[j]?=(l.map gw)[j]?:=by rw[h]
  rw[aBf,aBf] at h1;simp only[lost,ih];cases ha:l'[j]? with
  |none =>
   cases hb:l[j]? with
   |none=>rfl
   |some y=>rw[ha,hb] at h1;cases h1
  |some x =>
   cases hb:l[j]? with
   |none=>rw[ha,hb] at h1;cases h1
   |some y =>
    rw[ha,hb] at h1;have h2:gw x=gw y:=aDk h1;have h3:x.gone=y.gone:=congrArg Prod.fst h2;have h4:x.bC=y.bC:=congrArg Prod.snd h2;dsimp only;rw[h3,h4]
theorem CW{w:List cQ}{l m:List bH}{k:Nat}(h:∀j,j<k→m[j]?=l[j]?)(j:Nat)(hj:j≤k):lost w m j=lost w l j:=by
 induction j with
 |zero=>rfl
 |succ j ih=>simp only[lost,ih o_,h j o_]
theorem jG{w:List cQ}{l:List bH}:settle w l=l↔∀(i:Nat) (e:bH),l[i]?=some e→e.gone=lost w l (i+1):=by
 constructor
 ·intro h i e he;have h1:=lX (want:=w) he;rw[h,he] at h1;have h2:=aDk h1;exact congrArg bH.gone h2
 ·intro h;apply aCk;intro i;cases he:l[i]? with
  |none =>
   rw[aBx] at he⊢;rw[dJ];exact he
  |some e =>
   rw[lX he,←h i e he];rfl
theorem Hh(want:List cQ)(l:List bH):settle want (settle want l)=settle want l:=by
 rw[jG];have hl:∀j,j≤l.length→lost want (settle want l) j=lost want l j:=by
  intro j
  induction j with
  |zero=>intro _;rfl
  |succ j ih =>
   intro hj;have hx:l[j]?=some l[j]:=aAa o_;rw[nZ (lX hx),nZ hx,ih o_];show(lost want l j||((lost want l j||(l[j].gone||decide (want[j]?≠some l[j].bC)))||decide (want[j]?≠some l[j].bC)))=_;cases lost want l j<;>cases l[j].gone<;>cases decide (want[j]?≠some l[j].bC)<;>rfl
 intro i e he;have hi:=(aAd.1 he).1;rw[dJ] at hi;have hx:l[i]?=some l[i]:=aAa hi;rw[lX hx] at he;have he:=aDk he;subst he;rw[hl (i+1) hi];rfl
structure C3(s:dS):Prop where
 may:∀e∈s.l,e.may=true
 nB:(s.l.map bH.ord).Pairwise (· < ·)
 pos:∀e∈s.l,e.ord≤s.made
 gone:settle s.w s.l=s.l
 pF:∀f∈s.w,f.check=0
theorem C3.zero:C3 s0:=⟨λ_ he=>(aAk he).elim,List.Pairwise.nil,λ_ he=>(aAk he).elim,rfl,λ_ hf=>(aAk hf).elim⟩
theorem OT{e:bH}{g:Bool}(h:e.may=true)(hg:e.gone=true→g=true):(e.mark g).may=true:=by
 rw[bH.bY] at h⊢;obtain⟨h1,h2,h3,⟨h4,h5⟩,h6,h7,h8⟩:=h;refine⟨h1,h2,h3,⟨h4,?_⟩,h6,h7,h8⟩;rcases h5 with h5|h5
 ·left
  unfold bH.Ab bH.mark at *;dsimp only;cases ha:e.cX
  ·rw[ha] at h5;simp at h5
  ·rw[ha] at h5;rw[hg (by simpa using h5)];rfl
 ·exact .inr h5
theorem Qy{e:bH}(h:e.may=true)(ha:e.cX=false):e.qJ.may=true:=by
 rw[bH.bY] at h⊢;obtain⟨h1,h2,h3,⟨h4,h5⟩,h6,h7,h8⟩:=h;refine⟨h1,h2,h3,⟨h4,?_⟩,h6,h7,h8⟩;rcases h5 with h5|h5
 ·unfold bH.Ab at h5;rw[ha] at h5;simp at h5
 ·exact .inr h5
theorem Sk{e:bH}{now:Int}(h:e.may=true)(hnow:0≤now∧now≤1073741824):(e.gV now).may=true:=by
 unfold bH.gV;split
 ·rename_i hc;obtain⟨_,h8⟩:=hc;have hnt:e.nt=if e.Ab then e.back else e.aW:=rfl
  rw[bH.bY] at h;obtain⟨h1,h2,h3,⟨h4,h5⟩,h6,h7,h9⟩:=h;split
  ·rename_i hu;rw[if_pos hu] at hnt;rw[bH.bY];exact⟨h1,h2,h3,⟨by dsimp only;omega,.inl hu⟩,h6,hnow,.inl (by dsimp only;omega)⟩
  ·rename_i hu;rw[if_neg hu] at hnt;rw[bH.bY];refine⟨h1,h2,by dsimp only;omega,⟨h4,?_⟩,hnow,h7,h9⟩;rcases h5 with h5|h5
   ·exact absurd h5 hu
   ·exact .inr h5
 ·exact h
theorem OY(e:bH)(now:Int):(e.gV now).ord=e.ord∧gw (e.gV now)=gw e:=by
 unfold bH.gV;split
 ·split<;>exact⟨rfl,rfl⟩
 ·exact⟨rfl,rfl⟩
theorem yM{α:Type}{f:bH→α}{l:List bH}{k:Nat}{e e':bH}(he:l[k]?=some e)(h:f e'=f e):(l.set k e').map f=l.map f:=by
 rw[List.map_set,h];exact mN (by rw[aBf,he];rfl)
theorem JV(w:List cQ)(l:List bH):(settle w l).map bH.ord=l.map bH.ord:=by
 apply aCk;intro i;rw[aBf,aBf];cases he:l[i]? with
 |none =>
  have:(settle w l)[i]?=none:=by rw[aBx] at he⊢;rw[dJ];exact he
  rw[this]
 |some e=>rw[lX he];rfl
theorem C3.put{s:dS}{w:List cQ}(h:C3 s)(hw:∀f∈w,f.check=0):C3 (s.put w):=by
 have hat:∀e∈settle w s.l,∃(i:Nat) (x:bH),s.l[i]?=some x∧e=x.mark (lost w s.l (i+1)):=by
  intro e he;obtain⟨i,hi,rfl⟩:=aBm he;rw[dJ] at hi;have hx:s.l[i]?=some s.l[i]:=aAa hi;have hs:=lX (want:=w) hx;rw[aAa (by rw[dJ];exact hi)] at hs;exact⟨i,_,hx,aDk hs⟩
 refine⟨λe he=>?_,by show((settle w s.l).map bH.ord).Pairwise (· < ·);rw[JV];exact h.nB,λe he=>?_,Hh w s.l,hw⟩
 ·obtain⟨i,x,hx,rfl⟩:=hat e he;refine OT (h.may x (aAi hx)) λhg=>?_;rw[nZ hx,hg];simp
 ·obtain⟨i,x,hx,rfl⟩:=hat e he;exact h.pos x (aAi hx)
theorem C3.set{s:dS}(h:C3 s){k:Nat}{e e':bH}(he:s.l[k]?=some e)(ho:e'.ord=e.ord)(hg:gw e'=gw e)(hm:e'.may=true):C3 ⟨s.made,s.l.set k e',s.w⟩:=by
 refine⟨λx hx=>?_,?_,λx hx=>?_,?_,h.pF⟩
 ·rcases aCr hx with h1|rfl
  ·exact h.may x h1
  ·exact hm
 ·show((s.l.set k e').map bH.ord).Pairwise (· < ·);rw[yM he ho];exact h.nB
 ·rcases aCr hx with h1|rfl
  ·exact h.pos x h1
  ·show x.ord≤s.made;rw[ho];exact h.pos e (aAi he)
 ·show settle s.w (s.l.set k e')=s.l.set k e';rw[jG];intro i x hx;have hl:=JZ (w:=s.w) (yM he hg) (i+1);rw[hl];have hgs:=jG.1 h.gone;rw[aDr] at hx;split at hx
  ·rename_i hki;subst hki;split at hx
   ·have hx:=aDk hx;subst hx;rw[←hgs k e he];exact congrArg Prod.fst hg
   ·cases hx
  ·exact hgs i x hx
theorem C3.take{s:dS}(h:C3 s)(k:Nat):C3 ⟨s.made,s.l.take k,s.w⟩:=by
 refine⟨λx hx=>h.may x (aBs hx),?_,λx hx=>h.pos x (aBs hx),?_,h.pF⟩
 ·show((s.l.take k).map bH.ord).Pairwise (· < ·);exact h.nB.sublist ((aFt k s.l).map bH.ord)
 ·show settle s.w (s.l.take k)=s.l.take k;rw[jG];intro i x hx;have hi:=(aAd.1 hx).1;rw[aAg] at hi;rw[CW (l:=s.l) (k:=k) (λj hj=>by rw[aEd,if_pos hj]) (i+1) o_];rw[aEd,if_pos o_] at hx;exact jG.1 h.gone i x hx
theorem C3.push{s:dS}(h:C3 s)(hs:s.ok){id:bJ}{f:cQ}{now:Int}(ht:AP s.l=none)(hm:s.made<255)(hf:s.w[s.l.length]?=some f)(hnow:0≤now∧now≤1073741824) :
  C3 ⟨s.made+1,s.l++[rQ ⟨⟨id,s.made+1,false⟩,f⟩ now],s.w⟩:=by
 have h0:=hs.tS;have hgs:=jG.1 h.gone;have hz:lost s.w s.l s.l.length=false:=by
  cases hl:s.l.length with
  |zero=>rfl
  |succ k =>
   have hx:s.l[k]?=some s.l[k]:=aAa o_;rw[←hgs k _ hx];unfold AP at ht;rw[hl,show k+1 - 1=k from rfl,hx] at ht;dsimp only at ht;split at ht
   ·cases ht
   ·rename_i ho;unfold bH.pG at ho;cases hg:s.l[k].gone
    ·rfl
    ·rw[hg] at ho;simp at ho
 refine⟨λx hx=>?_,?_,λx hx=>?_,?_,h.pF⟩
 ·rcases aBg.1 hx with h1|h1
  ·exact h.may x h1
  ·rw[aAp] at h1;subst h1;rw[bH.bY];exact⟨by dsimp only;omega,h.pF f (aAi hf),by dsimp only;omega,⟨by dsimp only;omega,.inr rfl⟩,hnow,by dsimp only;omega,.inr rfl⟩
 ·show((s.l++[rQ ⟨⟨id,s.made+1,false⟩,f⟩ now]).map bH.ord).Pairwise (· < ·);rw[aBk,aFf];refine⟨h.nB,aFq _ _,λa ha b hb=>?_⟩;obtain⟨x,hx,rfl⟩:=aFn.1 ha;have hb:b=s.made+1:=by simpa using hb
  have:=h.pos x hx;omega
 ·show x.ord≤s.made+1;rcases aBg.1 hx with h1|h1
  ·have:=h.pos x h1;omega
  ·rw[aAp] at h1;subst h1;exact aCd _
 ·show settle s.w (s.l++[rQ ⟨⟨id,s.made+1,false⟩,f⟩ now])=s.l++[rQ ⟨⟨id,s.made+1,false⟩,f⟩ now];rw[jG];have hfr:∀j,j≤s.l.length→lost s.w (s.l++[rQ ⟨⟨id,s.made+1,false⟩,f⟩ now]) j=lost s.w s.l j :=
   λj hj=>CW (k:=s.l.length) (λi hi=>aBp hi) j hj
  intro i x hx;by_cases hi:i<s.l.length
  ·rw[hfr (i+1) o_];rw[aBp hi] at hx;exact hgs i x hx
  ·have hlt:=(aAd.1 hx).1;rw[aAe,aDa] at hlt;obtain rfl:i=s.l.length:=o_;have hx2:=hx;rw[aBc (aAf _),aEi] at hx2;have hx2:=aDk hx2;rw[nZ hx,hfr _ (aAf _),hz,←hx2];show false=(false||(false||decide (s.w[s.l.length]?≠some f)));rw[hf];simp
theorem C3.gV{s:dS}(h:C3 s)(hs:s.ok){id:bJ}{now:Int}(hnow:0≤now∧now≤1073741824):C3 (s.gV id now):=by
 rcases HJ (s:=s) (id:=id) (now:=now) with h1|⟨e,ht,_,h1⟩|⟨f,ht,hm,hf,h1⟩
 ·rw[h1];exact h
 ·rw[h1];obtain⟨he,_⟩:=yZ ht;exact h.set he (OY e now).1 (OY e now).2 (Sk (h.may e (aAi he)) hnow)
 ·rw[h1];exact h.push hs ht hm hf hnow
theorem C3.qJ{s:dS}(h:C3 s){id:bJ}{k:bP}:C3 (s.qJ id k):=by
 rcases G7 (s:=s) (id:=id) (k:=k) with h1|⟨i,e,he,_,ha,h1⟩|⟨i,e,he,_,_,hi,h1⟩
 ·rw[h1];exact h
 ·rw[h1];exact h.set he rfl rfl (Qy (h.may e (aAi he)) ha)
 ·rw[h1];exact h.take i
def JO(s:dS):Prop:=s.ok∧C3 s
def JL(ps:List dS):Prop:=∀s∈ps,JO s
theorem JO.zero:JO s0:=⟨dS.Kk,C3.zero⟩
theorem JL.getD{ps:List dS}(h:JL ps)(i:Nat):JO (ps.getD i s0):=by
 rw[aBb];cases hx:ps[i]? with
 |none=>exact JO.zero
 |some s=>exact h s (aAi hx)
theorem JL.set{ps:List dS}(h:JL ps){i:Nat}{s:dS}(hs:JO s):JL (ps.set i s):=by
 intro x hx;rcases aCr hx with h1|rfl
 ·exact h x h1
 ·exact hs
theorem Qx{l:List bH}{q:Int}(h1:∀e∈l,e.may=true)(h2:∀e∈l,q<e.ord)(h3:(l.map bH.ord).Pairwise (· < ·)):nB q l=true:=by
 induction l generalizing q with
 |nil=>rfl
 |cons x l ih =>
  rw[aCi,List.pairwise_cons] at h3;show(x.may&&(decide (q<x.ord)&&nB x.ord l))=true;rw[h1 x aBo,decide_eq_true (h2 x aBo),ih (λe he=>h1 e (aBl _ he)) (λe he=>h3.1 _ (aFi he)) h3.2];rfl
theorem OU{l:List bH}{q m:Int}(h:∀e∈l,e.ord≤m)(hq:q≤m):sL q l≤m:=by
 induction l generalizing q with
 |nil=>exact hq
 |cons x l ih=>exact ih (λe he=>h e (aBl _ he)) (h x aBo)
theorem JO.whole{s:dS}(h:JO s):pY s.made s.l=true:=by
 obtain⟨h1,h2⟩:=h;unfold pY;rw[Qx h2.may (λe he=>by have:=((bH.bY e).1 (h2.may e he)).1;omega) h2.nB,decide_eq_true ⟨OU h2.pos h1.tS,h1.nK⟩];rfl
structure Vd(v:Lg):Prop where
 MM:follow FR FR (v.l++v.t)=some (v.known,v.times)
 T4:∀c∈v.l,c.ok
 TZ:∀c∈v.t,c.ok
 len:v.l.length+v.t.length≤48
 HL:HL v.t
structure Gd(s:Sv):Prop where
 v:Vd s.v
 rep:0≤s.r∧s.r≤3
 n:(s.ps.length:Int)=s.v.known.get s.r
 w:∀(q:Nat) (p:dS),s.ps[q]?=some p→gI s.v s.r q=some p.w
 ch:JL s.ps
theorem BQ{r:Int}:FR.get r=0:=by unfold V4.get;split;rfl;split;rfl;split;rfl;rfl
theorem Vd.may{v:Lg}(h:Vd v){c:aX}(hc:c∈v.l++v.t):c.may=true:=(jF h.MM hc).1
theorem AH{l:List aX}{a:bJ}:0≤bI l a↔∃c∈l,c.id=a:=by
 have:=rC (λc:aX=>decide (c.id=a)) l;constructor
 ·intro h;rw[show place (λc:aX=>decide (c.id=a)) l=bI l a from rfl,decide_eq_true h] at this;obtain⟨c,h1,h2⟩:=aEm.1 this.symm;exact⟨c,h1,of_decide_eq_true h2⟩
 ·rintro⟨c,h1,h2⟩;rw[aEm.2 ⟨c,h1,by rw[h2];exact decide_eq_true rfl⟩] at this;exact of_decide_eq_true this
theorem EO{v:Lg}{a:bJ}:(cE v a).2.2=true↔∃c∈v.l++v.t,c.id=a:=by
 refine⟨tQ,?_⟩;rintro⟨c,hc,h2⟩;unfold cE;split
 ·rfl
 ·split
  ·rfl
  ·rename_i n1 n2;rcases aBg.1 hc with hc|hc
   ·exact absurd (AH.2 ⟨c,hc,h2⟩) n1
   ·exact absurd (AH.2 ⟨c,hc,h2⟩) n2
theorem HV{v:Lg}(h:Vd v){r:Int}(hr:0≤r∧r≤3)(q:Nat):(gI v r q).isSome=true↔(q:Int)<v.known.get r:=by
 have e:(gI v r q).isSome=(cE v ⟨r,((q+1:Nat):Int)⟩).2.2:=by
  unfold gI;split
  ·rename_i h;rw[h];rfl
  ·rename_i h;simpa using h
 rw[e,EO];constructor
 ·rintro⟨c,hc,hid⟩;have:=jF h.MM hc;rw[hid] at this;dsimp only at this;omega
 ·intro hq;exact BT h.MM hr (by rw[BQ];omega) o_
theorem JJ{v:Lg}(h:Vd v){r:Int}{q:Nat}{w:List cQ}(hw:gI v r q=some w):(∀f∈w,f.ok)∧w.length≤8∧∀f∈w,f.check=0:=by
 unfold gI at hw;split at hw
 ·injection hw with hw
  subst hw;have h1:=Dn (xH h.T4 h.TZ ⟨r,((q+1:Nat):Int)⟩) (cE v ⟨r,((q+1:Nat):Int)⟩).2.1;exact⟨h1.1,h1.2,Jb (C6 h.T4 h.TZ (λc hc=>h.may (aDn _ hc)) (λc hc=>h.may (aCp _ hc)) _) _⟩
 ·cases hw
theorem Vd.count{v:Lg}(h:Vd v){r:Int}(hr:0≤r∧r≤3):0≤v.known.get r∧v.known.get r≤48:=by
 have h0:=Ah h.MM hr;rw[BQ] at h0;refine⟨h0.1,?_⟩;have hp:=Ie (l:=v.l++v.t) (r:=r) (n:=(v.known.get r).toNat) λq hq=>BT h.MM hr (by rw[BQ];omega) o_;rw[aAe] at hp;have:=h.len;omega
theorem YK{p:dS}(h:JO p){w:List cQ}(hw:(∀f∈w,f.ok)∧w.length≤8∧∀f∈w,f.check=0):JO (p.put w):=⟨dS.OO h.1 hw.1 hw.2.1,h.2.put hw.2.2⟩
theorem Br{ps:List dS}{q:Nat}{w:List cQ}(hq:q≤ps.length)(i:Nat):(mQ ps q w)[i]?=if i=q then some ((ps.getD q s0).put w) else ps[i]?:=by
 unfold mQ;by_cases h:q<ps.length
 ·rw[if_pos h,aDr];by_cases e:q=i
  ·subst e;rw[if_pos rfl,if_pos h,if_pos rfl]
  ·rw[if_neg e,if_neg (aFh e)]
 ·obtain rfl:q=ps.length:=o_;rw[if_neg h];by_cases e:i=ps.length
  ·subst e;rw[if_pos rfl,aBc (aAf _),aEi,aBb,aBx.2 (aAf _)];rfl
  ·rw[if_neg e];by_cases h2:i<ps.length
   ·rw[aBp h2]
   ·rw[aBx.2 (by simp;omega),aBx.2 o_]
theorem Aa{v:Lg}{r:Int}{K:Nat}(hK:∀q:Nat,(gI v r q).isSome=true↔q<K):∀(n q:Nat) (ps:List dS),q≤K→K<q+n→q≤ps.length→ps.length≤K →
  (lU v r n q ps).length=K∧∀i,i<K→(lU v r n q ps)[i]?=if i<q then ps[i]? else some ((ps.getD i s0).put ((gI v r i).getD []))
 |0,q,ps,h1,h2,_,_=>by omega
 |n+1,q,ps,h1,h2,h3,h4=>by
  rw[lU];have hk:=hK q;cases hw:gI v r q with
  |none =>
   rw[hw] at hk;have:¬q<K:=λh=>by have:=hk.2 h;cases this
   exact⟨by dsimp only;omega,λi hi=>by dsimp only;rw[if_pos o_]⟩
  |some w =>
   rw[hw] at hk;have hq:q<K:=hk.1 rfl;have e:rW ps ((q+1:Nat):Int) w=mQ ps q w:=by
    unfold rW;rw[if_pos o_];congr 1;omega
   dsimp only;rw[e];have hl:(mQ ps q w).length=max ps.length (q+1):=by
    unfold mQ;split
    ·rw[aAt];omega
    ·rw[aAe];simp;omega
   obtain⟨g1,g2⟩:=Aa hK n (q+1) (mQ ps q w) o_ o_ o_ o_;refine⟨g1,λi hi=>?_⟩;rw[g2 i hi];by_cases e1:i<q
   ·rw[if_pos e1,if_pos o_,Br h3,if_neg o_]
   ·rw[if_neg e1];by_cases e2:i=q
    ·subst e2;rw[if_pos o_,Br h3,if_pos rfl,hw];rfl
    ·rw[if_neg o_,aBb,Br h3,if_neg e2,←aBb]
theorem Gd.JG{v:Lg}{r:Int}{ps:List dS}(hv:Vd v)(hr:0≤r∧r≤3)(hc:JL ps)(hn:(ps.length:Int)≤v.known.get r):Gd (Sv.again ⟨v,ps,r⟩)∧∀i,i<(v.known.get r).toNat→(Sv.again ⟨v,ps,r⟩).ps[i]?=some ((ps.getD i s0).put ((gI v r i).getD [])):=by
 have hcnt:=hv.count hr;have hK:∀q:Nat,(gI v r q).isSome=true↔q<(v.known.get r).toNat:=λq=>by rw[HV hv hr];omega
 obtain⟨h1,h2⟩:=Aa hK 49 0 ps (aAh _) o_ (aAh _) o_;have h3:∀i,i<(v.known.get r).toNat→(lU v r 49 0 ps)[i]?=some ((ps.getD i s0).put ((gI v r i).getD [])):=λi hi=>by rw[h2 i hi,if_neg o_]
 have hsome:∀i,i<(v.known.get r).toNat→∃w,gI v r i=some w:=λi hi=>by
  have:=(hK i).2 hi;cases hw:gI v r i with
  |none=>rw[hw] at this;cases this
  |some w=>exact⟨w,rfl⟩
 refine⟨⟨hv,hr,?_,?_,?_⟩,h3⟩
 ·show((lU v r 49 0 ps).length:Int)=_;rw[h1];show((v.known.get r).toNat:Int)=v.known.get r;omega
 ·intro q p hp;have hlt:=(aAd.1 hp).1;have hlt:q<(v.known.get r).toNat:=by rw[←h1];exact hlt
  have e:some ((ps.getD q s0).put ((gI v r q).getD []))=some p:=(h3 q hlt).symm.trans hp;injection e with e
  obtain⟨w,hw⟩:=hsome q hlt;show gI v r q=some p.w;rw[←e,hw];rfl
 ·intro p hp;obtain⟨i,hi,rfl⟩:=aBm hp;have hlt:i<(v.known.get r).toNat:=by rw[←h1];exact hi
  have e:some ((ps.getD i s0).put ((gI v r i).getD []))=some (Sv.again ⟨v,ps,r⟩).ps[i]:=(h3 i hlt).symm.trans (aAa hi);injection e with e
  obtain⟨w,hw⟩:=hsome i hlt;rw[←e,hw];exact YK (hc.getD i) (JJ hv hw)
theorem Hj(v:Lg)(c:aX):((sV v c).2≠0∧(sV v c).1=v)∨((sV v c).2=0∧v.l.length+v.t.length<48∧gT v.known v.times c=true∧(sV v c).1=⟨v.l,tP v.t c,v.known.set c.id.rep c.id.seq,v.times.set c.id.rep c.time⟩):=by
 unfold sV gT;split
 ·exact .inl ⟨(show(3:Int)≠0 by decide),rfl⟩
 split
 ·exact .inl ⟨(show(9:Int)≠0 by decide),rfl⟩
 split
 ·exact .inl ⟨(show(4:Int)≠0 by decide),rfl⟩
 ·rename_i h1 h2 h3;exact .inr ⟨rfl,by omega,by rw[show Ak v.known v.times c=true by simpa using h2,show c.may=true by simpa using h3];rfl,rfl⟩
theorem Vd.fresh{v:Lg}(h:Vd v){c:aX}(hn:gT v.known v.times c=true):∀x∈v.l++v.t,x.id≠c.id:=λx hx e=>by
 have h1:=jF h.MM hx;obtain⟨_,_,h2,_⟩:=gY.1 hn;rw[e] at h1;omega
theorem AA{v:Lg}(h:Vd v){c:aX}(hn:gT v.known v.times c=true):tP v.t c=lG v.t c:=by
 unfold tP;rw[if_pos];have:¬0≤bI v.t c.id:=λh0=>by
  obtain⟨x,hx,e⟩:=AH.1 h0;exact h.fresh hn x (aCp _ hx) e
 omega
theorem Vd.add{v:Lg}(h:Vd v){c:aX}(hc:c.ok)(hlt:v.l.length+v.t.length<48)(hn:gT v.known v.times c=true):Vd ⟨v.l,tP v.t c,v.known.set c.id.rep c.id.seq,v.times.set c.id.rep c.time⟩:=by
 rw[AA h hn];refine⟨JN h.MM hn,h.T4,λx hx=>?_,?_,h.HL.put λx hx=>h.fresh hn x (aCp _ hx)⟩
 ·rcases CE hx with rfl|hx
  ·exact hc
  ·exact h.TZ x hx
 ·show v.l.length+(lG v.t c).length≤48;rw[lA];omega
theorem Gd.pE{s:Sv}(h:Gd s){c:aX}(hc:c.ok):Gd (s.pE c).1:=by
 unfold Sv.pE;split
 ·rcases Hj s.v c with⟨h1,h2⟩|⟨h1,h2,h3,h4⟩
  ·rw[if_neg h1,h2];exact h
  ·rw[if_pos h1,h4];obtain⟨_,g1,g2,_⟩:=gY.1 h3;refine(Gd.JG (h.v.add hc h2 h3) h.rep h.ch ?_).1;dsimp only;rw[V4.mE g1 h.rep,h.n];split
   ·rename_i e;rw[e];omega
   ·exact aCd _
 ·exact h
theorem C4(v:Lg)(a:bJ):((fZ v a).2≠0∧(fZ v a).1=v)∨((fZ v a).2=0∧∃x c y,v.t=x++c::y∧c.id=a∧(∀z∈x,¬(z.id.rep=c.id.rep∧z.id.seq<c.id.seq))∧(fZ v a).1=⟨v.l++[c],x++y,v.known,v.times⟩):=by
 unfold fZ;split
 ·exact .inl ⟨(show(14:Int)≠0 by decide),rfl⟩
 split
 ·exact .inl ⟨(show(9:Int)≠0 by decide),rfl⟩
 ·rename_i h1 h2;have h2:lM v.t a=true:=by simpa using h2
  obtain⟨hlt,c,hx,hp⟩:=gZ (p:=λc:aX=>decide (c.id=a)) (l:=v.t) (show 0≤bI v.t a by omega);have hid:c.id=a:=of_decide_eq_true hp;have hx:v.t[(bI v.t a).toNat]?=some c:=hx;have hlt:(bI v.t a).toNat<v.t.length:=hlt;refine .inr ⟨rfl,v.t.take (bI v.t a).toNat,c,v.t.drop ((bI v.t a).toNat+1),?_,hid,?_,?_⟩
  ·obtain⟨_,rfl⟩:=aAd.1 hx;rw[←aAm hlt,aAx]
  ·intro z hz hh;unfold lM at h2;rw[aAv] at h2;have h3:(v.t.any λc=>decide (c.id.rep=a.rep∧c.id.seq<a.seq))=false:=by simpa using h2.2
   rw[List.any_eq_false] at h3;exact h3 z (aBs hz) (decide_eq_true (by rw[←hid];exact hh))
  ·rw[hx];unfold rF mD;rw[if_pos h2,if_pos ⟨by omega,by omega⟩];rfl
theorem Vd.qA{v:Lg}(h:Vd v){x y:List aX}{c:aX}(ht:v.t=x++c::y)(hf:∀z∈x,¬(z.id.rep=c.id.rep∧z.id.seq<c.id.seq)):Vd ⟨v.l++[c],x++y,v.known,v.times⟩:=by
 have hfol:=h.MM;have hokt:=h.TZ;have hlen:=h.len;have hsrt:=h.HL;rw[ht] at hfol hokt hlen hsrt;refine⟨Fe hfol hf,λz hz=>?_,λz hz=>?_,?_,?_⟩
 ·rcases aBg.1 hz with hz|hz
  ·exact h.T4 z hz
  ·rw[aAp] at hz;subst hz;exact hokt z (by simp)
 ·rcases aBg.1 hz with hz|hz
  ·exact hokt z (aDn _ hz)
  ·exact hokt z (aCp _ (aBl _ hz))
 ·simp only[aAe,aAs,aDh] at hlen⊢;omega
 ·exact hsrt.sublist (List.Sublist.append_left (List.sublist_cons_self c y) x)
theorem Gd.KE{s:Sv}(h:Gd s)(a:bJ):Gd (s.KE a).1:=by
 unfold Sv.KE;split
 ·rcases C4 s.v a with⟨h1,h2⟩|⟨h1,x,c,y,h2,h3,h4,h5⟩
  ·rw[if_neg h1,h2];exact h
  ·rw[if_pos h1,h5];exact(Gd.JG (h.v.qA h2 h4) h.rep h.ch (by dsimp only;rw[h.n];exact aCd _)).1
 ·exact h
theorem Gd.set{s:Sv}(h:Gd s){i:Nat}{p:dS}(hp:JO p)(hw:p.w=(s.ps.getD i s0).w):Gd ⟨s.v,s.ps.set i p,s.r⟩:=by
 refine⟨h.v,h.rep,by dsimp only;rw[aAt];exact h.n,λq x hx=>?_,h.ch.set hp⟩;dsimp only at hx⊢;rw[aDr] at hx;split at hx
 ·rename_i e;subst e;split at hx
  ·rename_i hlt;injection hx with hx
   subst hx;rw[hw,aBb,aAa hlt];exact h.w i _ (aAa hlt)
  ·cases hx
 ·exact h.w q x hx
theorem Gd.MO{s:Sv}(h:Gd s)(k:bP)(now:Int):Gd (s.MO k now).1:=by
 unfold Sv.MO;split
 ·rename_i hm;rw[aAv] at hm;have hnow:0≤now∧now≤1073741824:=of_decide_eq_true hm.2;have hI:dQ now:=by unfold dQ;omega
  unfold wJ;dsimp only;split
  ·have hg:=h.ch.getD (k.id.seq - 1).toNat;refine h.set ?_ ?_
   ·split
    ·exact⟨dS.FI hg.1 hI,hg.2.gV hg.1 hnow⟩
    ·exact hg
   ·split<;>rfl
  ·exact h
 ·exact h
theorem Gd.Ls{s:Sv}(h:Gd s)(k:bP):Gd (s.Ls k).1:=by
 unfold Sv.Ls;split
 ·unfold wZ;dsimp only;split
  ·have hg:=h.ch.getD (k.id.seq - 1).toNat;exact h.set ⟨dS.Ez hg.1,hg.2.qJ⟩ rfl
  ·exact h
 ·exact h
theorem Gd.new{r:Int}(hr:0≤r∧r≤3):Gd ⟨Hb,[],r⟩ :=
 ⟨⟨rfl,(λ_ h=>(aAk h).elim),(λ_ h=>(aAk h).elim),(show(0:Nat)+0≤48 by decide),List.Pairwise.nil⟩,hr,by show(0:Int)=FR.get r;rw[BQ],(λq p h=>by cases h),λ_ h=>(aAk h).elim⟩
theorem Gd.np{s:Sv}(h:Gd s):s.ps.length≤48:=by
 have:=h.v.count h.rep;have:=h.n;omega
end Go.Proofs.YtmilalkjbojciaaGreat.Sep
namespace Go.Proofs.YtmilalkjbojciaaGreat.Sep
open Go.RowKit Reg Oct
open Mem hiding Rd
inductive Rc
 |lI (c:aX)
 |rI (a:bJ)
 |DG (k:bP) (now:Int)
 |qJ (k:bP)
def Rc.r:Rc→pD
 | .lI c=>R1 c
 | .rI a=>R2 a
 | .DG k now=>R3 k now
 | .qJ k=>R4 k
def Rc.may:Rc→Bool
 | .lI c=>c.may
 | .rI a=>a.may
 | .DG k now=>k.may&&mZ now
 | .qJ k=>k.may
def Rc.ok:Rc→Prop
 | .lI c=>c.ok
 | .DG _ now=>dQ now
 |_=>True
def Rc.b(x:Rc):List UInt8:=tO x.r
def Sv.doc(s:Sv):Rc→Sv×Int
 | .lI c=>s.pE c
 | .rI a=>s.KE a
 | .DG k now=>s.MO k now
 | .qJ k=>s.Ls k
theorem Gd.doc{s:Sv}(h:Gd s){x:Rc}(hx:x.ok):Gd (s.doc x).1:=by
 cases x with
 |lI c=>exact h.pE hx
 |rI a=>exact h.KE a
 |DG k now=>exact h.MO k now
 |qJ k=>exact h.Ls k
theorem KG(s:Sv)(x:Rc):(s.doc x).1.r=s.r:=by
 cases x with
 |lI c=>show(s.pE c).1.r=_;unfold Sv.pE;split;(split<;>rfl);rfl
 |rI a=>show(s.KE a).1.r=_;unfold Sv.KE;split;(split<;>rfl);rfl
 |DG k now=>show(s.MO k now).1.r=_;unfold Sv.MO;split<;>rfl
 |qJ k=>show(s.Ls k).1.r=_;unfold Sv.Ls;split<;>rfl
theorem Ke{s:Sv}{x:Rc}(h:(s.doc x).2=0):x.may=true:=by
 cases x with
 |lI c=>change (s.pE c).2=0 at h;unfold Sv.pE at h;split at h;assumption;cases h
 |rI a=>change (s.KE a).2=0 at h;unfold Sv.KE at h;split at h;assumption;cases h
 |DG k now=>change (s.MO k now).2=0 at h;unfold Sv.MO at h;split at h;assumption;cases h
 |qJ k=>change (s.Ls k).2=0 at h;unfold Sv.Ls at h;split at h;assumption;cases h
theorem Rc.xW(x:Rc):1≤x.b.length∧x.b.length≤23∧x.b[0]?≠some 5:=by
 cases x with
 |lI c=>show 1≤([1]++c.put).length∧([1]++c.put).length≤23∧([1]++c.put)[0]?≠some 5;simp[c.bD]
 |rI a=>show 1≤([2]++kU a).length∧([2]++kU a).length≤23∧([2]++kU a)[0]?≠some 5;simp[iZ]
 |DG k now=>show 1≤([3]++eR k++be now.toNat 4).length∧([3]++eR k++be now.toNat 4).length≤23∧([3]++eR k++be now.toNat 4)[0]?≠some 5;simp[fO,aP]
 |qJ k=>show 1≤([4]++eR k).length∧([4]++eR k).length≤23∧([4]++eR k)[0]?≠some 5;simp[fO]
section
variable (E:Env) (g:Nat) (s:Sv) (os:List Ov)
theorem Xz(hro:Bw E os)(hps:s.ps.length≤48)(x:Rc)(hx:x.ok):G E 191 [pt g,.agg x.r.cs.toArray] [aT g s os] λe H'=>∃new,e=.returned (.int .i64 (s.doc x).2)∧H'=[aT g (s.doc x).1 (os++new),aO dM new]:=by
 cases x with
 |lI c =>
  refine aK.post (XR E g s os hro hps c hx) ?_;rintro e H' ⟨rfl,rfl⟩;exact⟨[aT g (s.pE c).1 (os++[]),aO dM []],by rw[aAc];exact aB.trans (aB.kP dM) (aB.aV (.cons (.aM .aN) (.cons .aN .nil))),[],rfl,rfl⟩
 |rI a=>exact XB E g s os hro hps a
 |DG k now =>
  refine aK.post (XT E g s os hps k now hx) ?_;rintro e H' ⟨rfl,rfl⟩;exact⟨[aT g (s.MO k now).1 (os++[]),aO dM []],by rw[aAc];exact aB.trans (aB.kP dM) (aB.aV (.cons (.aM .aN) (.cons .aN .nil))),[],rfl,rfl⟩
 |qJ k =>
  refine aK.post (Yj E g s os hps k) ?_;rintro e H' ⟨rfl,rfl⟩;exact⟨[aT g (s.Ls k).1 (os++[]),aO dM []],by rw[aAc];exact aB.trans (aB.kP dM) (aB.aV (.cons (.aM .aN) (.cons .aN .nil))),[],rfl,rfl⟩
theorem W2(x:Rc)(hm:x.may=true):G E 228 [.agg x.r.cs.toArray] [] λe H'=>∃A c,e=.returned (.tuple #[.slice A x.b.length c,.int .i64 0])∧H'=[own aU A x.b.length c x.b]:=by
 cases x with
 |lI c =>
  have hl:(Rc.lI c).b.length=23:=by show([1]++c.put).length=23;simp[c.bD]
  rw[hl];exact PG E c hm
 |rI a =>
  have hl:(Rc.rI a).b.length=4:=by show([2]++kU a).length=4;simp[iZ]
  rw[hl];exact NS E a hm
 |DG k now =>
  have hl:(Rc.DG k now).b.length=10:=by show([3]++eR k++be now.toNat 4).length=10;simp[fO,aP]
  have hm:(k.may&&mZ now)=true:=hm;rw[aAv] at hm;rw[hl];exact Ns E k now hm.1 hm.2
 |qJ k =>
  have hl:(Rc.qJ k).b.length=6:=by show([4]++eR k).length=6;simp[fO]
  rw[hl];exact Ph E k hm
end
theorem HM{a:bJ}(ha:a.may=true)(x:UInt8)(t:List UInt8):oE (x::(kU a++t))=a:=by
 obtain⟨r0,r1,s0,s1⟩:=(bJ.bY a).1 ha;have e1:bX ([x]++(be a.rep.toNat 1++(be a.seq.toNat 2++t))) 1 1=a.rep.toNat:=dL rfl o_;have e2:bX (([x]++be a.rep.toNat 1)++(be a.seq.toNat 2++t)) 2 2=a.seq.toNat:=dL (by simp[aP]) o_;have e3:x::(kU a++t)=[x]++(be a.rep.toNat 1++(be a.seq.toNat 2++t)):=by unfold kU;simp
 unfold oE;rw[e3,e1];rw[←aAb,e2];rw[bJ.eq_iff];exact⟨by dsimp only;omega,by dsimp only;omega⟩
theorem GU{k:bP}(hk:k.may=true)(x:UInt8)(t:List UInt8):keyOf (x::(eR k++t))=k∧bX (x::(eR k++t)) 5 1≤1:=by
 obtain⟨h1,h2,h3⟩:=(bP.bY k).1 hk;have hi:=HM (a:=k.id) ((bJ.bY _).2 h1) x ([UInt8.ofNat k.ord.toNat,UInt8.ofNat (gQ k.cD).toNat]++t);rw[←aAb] at hi;have hl:(x::kU k.id).length=4:=by simp[iZ]
 have e1:bX ((x::kU k.id)++(be k.ord.toNat 1++([UInt8.ofNat (gQ k.cD).toNat]++t))) 4 1=k.ord.toNat:=dL hl o_;have hu:(gQ k.cD).toNat<256 ^ 1:=by cases k.cD<;>decide
 have e2:bX (((x::kU k.id)++be k.ord.toNat 1)++(be (gQ k.cD).toNat 1++t)) 5 1=(gQ k.cD).toNat:=dL (by simp[iZ,aP]) hu;have e3:x::(eR k++t)=(x::kU k.id)++(be k.ord.toNat 1++([UInt8.ofNat (gQ k.cD).toNat]++t)):=by unfold eR;rw[nC];simp
 have e4:x::(eR k++t)=((x::kU k.id)++be k.ord.toNat 1)++(be (gQ k.cD).toNat 1++t):=by unfold eR;rw[nC,nC];simp
 have e5:bX (x::(eR k++t)) 4 1=k.ord.toNat:=by rw[e3];exact e1
 have e6:bX (x::(eR k++t)) 5 1=(gQ k.cD).toNat:=by rw[e4];exact e2
 have e7:oE (x::(eR k++t))=k.id:=by
  rw[show x::(eR k++t)=x::(kU k.id++[UInt8.ofNat k.ord.toNat,UInt8.ofNat (gQ k.cD).toNat]++t) by unfold eR;simp];exact hi
 refine⟨?_,by rw[e6];cases k.cD<;>decide⟩;unfold keyOf;rw[e7,e5,e6];obtain⟨id,o,u⟩:=k;dsimp only at h2 h3⊢;rw[show((o.toNat:Nat):Int)=o by omega];cases u<;>rfl
theorem Km{x:Rc}(hm:x.may=true)(hx:x.ok):vF x.b=some x.r:=by
 cases x with
 |lI c =>
  have hm:c.may=true:=hm;show vF ([1]++c.put)=_;rw[Uz (by rw[uY (by simp)];rfl) (by simp[c.bD])];show(tT c.put).map R1=_;rw[CJ hm hx.2.2.2.2.2.1];rfl
 |rI a =>
  have hm:a.may=true:=hm;show vF ([2]++kU a)=_;have e:=HM hm 2 [];rw[aAc] at e;rw[T9 (by rw[uY (by simp)];rfl) (by simp[iZ])];show(if (oE (2::kU a)).may=true then some (R2 (oE (2::kU a))) else none)=_;rw[e,if_pos hm];rfl
 |DG k now =>
  have hm:(k.may&&mZ now)=true:=hm;rw[aAv] at hm;have hnow:0≤now∧now≤1073741824:=of_decide_eq_true hm.2;show vF ([3]++eR k++be now.toNat 4)=_;obtain⟨e1,e2⟩:=GU hm.1 3 (be now.toNat 4);have e3:bX (([3]++eR k)++(be now.toNat 4++[])) 6 4=now.toNat:=dL (by simp[fO]) o_;rw[aAc] at e3;rw[UA (by rw[uY (by simp)];rfl) (by simp[fO,aP]),e3];rw[show([3]++eR k++be now.toNat 4:List UInt8)=3::(eR k++be now.toNat 4) by simp,e1];rw[show((now.toNat:Nat):Int)=now by omega,if_pos ⟨e2,by rw[hm.1,hm.2];rfl⟩];rfl
 |qJ k =>
  have hm:k.may=true:=hm;show vF ([4]++eR k)=_;obtain⟨e1,e2⟩:=GU hm 4 [];rw[aAc] at e1 e2;rw[UZ (by rw[uY (by simp)];rfl) (by simp[fO])];show(if bX (4::eR k) 5 1≤1∧(keyOf (4::eR k)).may=true then some (R4 (keyOf (4::eR k))) else none)=_;rw[e1,if_pos ⟨e2,hm⟩];rfl
end Go.Proofs.YtmilalkjbojciaaGreat.Sep
namespace Go.Proofs.YtmilalkjbojciaaGreat.Sep
def jX(r:Int)(l:List aX):Sv:=l.foldl (λs c=>((s.doc (.lI c)).1.doc (.rI c.id)).1) ⟨Hb,[],r⟩
def DF(s:Sv)(t:List aX):Sv:=t.foldl (λs c=>(s.doc (.lI c)).1) s
theorem DP{r:Int}{l:List aX}{i:Nat}{c:aX}(h:l[i]?=some c):jX r (l.take (i+1))=(((jX r (l.take i)).doc (.lI c)).1.doc (.rI c.id)).1:=iX h
theorem Db{s:Sv}{l:List aX}{i:Nat}{c:aX}(h:l[i]?=some c):DF s (l.take (i+1))=((DF s (l.take i)).doc (.lI c)).1:=iX h
def Em(ps:List dS):Prop:=∀p∈ps,p.made=0∧p.l=[]
theorem Em.again{v:Lg}{r:Int}{ps:List dS}(hv:Vd v)(hr:0≤r∧r≤3)(hc:JL ps)(hn:(ps.length:Int)≤v.known.get r)(he:Em ps):Em (Sv.again ⟨v,ps,r⟩).ps:=by
 obtain⟨h1,h2⟩:=Gd.JG hv hr hc hn;intro p hp;obtain⟨i,hi,rfl⟩:=aBm hp;have hlt:i<(v.known.get r).toNat:=by
  have:=h1.n;have e:(Sv.again ⟨v,ps,r⟩).v=v:=rfl;rw[e] at this;have e2:(Sv.again ⟨v,ps,r⟩).r=r:=rfl;rw[e2] at this;omega
 have h3:=h2 i hlt;rw[aAa hi] at h3;injection h3 with h3
 have h4:(ps.getD i s0).made=0∧(ps.getD i s0).l=[]:=by
  rw[aBb];cases hx:ps[i]? with
  |none=>exact⟨rfl,rfl⟩
  |some x=>exact he x (aAi hx)
 rw[h3];refine⟨h4.1,?_⟩;show settle _ (ps.getD i s0).l=[];rw[h4.2];rfl
theorem xJ{s:Sv}(h:Gd s)(he:Em s.ps){c:aX}(hc:c.ok)(hlt:s.v.l.length+s.v.t.length<48)(hn:gT s.v.known s.v.times c=true)(hs:HL (s.v.t++[c])) :
  (s.doc (.lI c)).2=0∧(s.doc (.lI c)).1.v=⟨s.v.l,s.v.t++[c],s.v.known.set c.id.rep c.id.seq,s.v.times.set c.id.rep c.time⟩∧Em (s.doc (.lI c)).1.ps:=by
 obtain⟨hm,g1,g2,g3⟩:=gY.1 hn;have e1:sV s.v c=(⟨s.v.l,s.v.t++[c],s.v.known.set c.id.rep c.id.seq,s.v.times.set c.id.rep c.time⟩,0):=by
  unfold gT at hn;rw[aAv] at hn;unfold sV;rw[if_neg o_,if_neg (by rw[hn.1];decide),if_neg (by rw[hm];decide),AA h.v (by unfold gT;rw[hn.1,hn.2];rfl),DW hs]
 have e2:s.doc (.lI c)=(Sv.again ⟨⟨s.v.l,s.v.t++[c],s.v.known.set c.id.rep c.id.seq,s.v.times.set c.id.rep c.time⟩,s.ps,s.r⟩,0):=by
  show s.pE c=_;unfold Sv.pE;rw[if_pos hm,e1,if_pos rfl]
 rw[e2];refine⟨rfl,rfl,?_⟩;have hv:=h.v.add hc hlt hn;rw[AA h.v hn,DW hs] at hv;refine Em.again hv h.rep h.ch ?_ he;show(s.ps.length:Int)≤(s.v.known.set c.id.rep c.id.seq).get s.r;rw[V4.mE g1 h.rep,h.n];split
 ·rename_i e;rw[e];omega
 ·exact aCd _
theorem KK{s:Sv}(h:Gd s)(he:Em s.ps){c:aX}(ht:s.v.t=[c]):(s.doc (.rI c.id)).2=0∧(s.doc (.rI c.id)).1.v=⟨s.v.l++[c],[],s.v.known,s.v.times⟩∧Em (s.doc (.rI c.id)).1.ps:=by
 have hmay:=(aX.bY c).1 (h.v.may (c:=c) (by rw[ht];simp));have hid:c.id.may=true:=(bJ.bY _).2 hmay.1;have f0:bI [c] c.id=0:=by show place (λx:aX=>decide (x.id=c.id)) [c]=0;unfold place;rw[if_pos (decide_eq_true rfl)]
 have fr:lM [c] c.id=true:=by
  unfold lM;rw[f0];simp
 have e1:fZ s.v c.id=(⟨s.v.l++[c],[],s.v.known,s.v.times⟩,0):=by
  unfold fZ;rw[ht,f0,if_neg sD,if_neg (by rw[fr];decide)];unfold rF mD;rw[fr,f0,if_pos rfl];rfl
 have e2:s.doc (.rI c.id)=(Sv.again ⟨⟨s.v.l++[c],[],s.v.known,s.v.times⟩,s.ps,s.r⟩,0):=by
  show s.KE c.id=_;unfold Sv.KE;rw[if_pos hid,e1,if_pos rfl]
 rw[e2];refine⟨rfl,rfl,?_⟩;have hv:=h.v.qA (x:=[]) (y:=[]) (c:=c) (by rw[ht];rfl) (λ_ h=>(aAk h).elim);exact Em.again hv h.rep h.ch (by dsimp only;rw[h.n];exact aCd _) he
theorem jL{k t k' t':V4}{l:List aX}(h:follow k t l=some (k',t')){i:Nat}{c:aX}(hc:l[i]?=some c):∃p,follow k t (l.take i)=some p∧gT p.1 p.2 c=true∧follow k t (l.take (i+1))=some (p.1.set c.id.rep c.id.seq,p.2.set c.id.rep c.time):=by
 obtain⟨hi,rfl⟩:=aAd.1 hc;have e:l=l.take i++(l[i]::l.drop (i+1)):=by rw[←aAm hi,aAx]
 rw[e,eU] at h;cases h1:follow k t (l.take i) with
 |none=>rw[h1] at h;cases h
 |some p =>
  rw[h1] at h;have h2:follow p.1 p.2 (l[i]::l.drop (i+1))=some (k',t'):=h;rw[follow] at h2;split at h2
  ·rename_i hn;refine⟨p,rfl,hn,?_⟩;rw[aAn hi,eU,h1];show(if gT p.1 p.2 l[i] then _ else none)=_;rw[if_pos hn];rfl
  ·cases h2
structure p5(r:Int)(R:Sv)(l t:List aX)(p:V4×V4):Prop where
 g:Gd R
 e:Em R.ps
 v:R.v=⟨l,t,p.1,p.2⟩
 r:R.r=r
theorem EX{v:Lg}(hv:Vd v){r:Int}(hr:0≤r∧r≤3):∀i,i≤v.l.length→∃p,follow FR FR (v.l.take i)=some p∧p5 r (jX r (v.l.take i)) (v.l.take i) [] p
 |0,_=>⟨(FR,FR),rfl,Gd.new hr,(λ_ h=>(aAk h).elim),rfl,rfl⟩
 |i+1,hi=>by
  obtain⟨p,h1,h2⟩:=EX hv hr i o_;have hx:v.l[i]?=some v.l[i]:=aAa o_;have hx2:(v.l++v.t)[i]?=some v.l[i]:=by rw[aBp o_];exact hx
  obtain⟨q,q1,q2,q3⟩:=jL hv.MM hx2;rw[aCw o_] at q1;rw[aCw o_] at q3;rw[h1] at q1;injection q1 with q1
  subst q1;have hlen:=hv.len;have hok:=hv.T4 _ (aAi hx);generalize v.l[i]=c at *;have hl:(v.l.take i).length=i:=by rw[aAg];omega
  obtain⟨a1,a2,a3⟩:=xJ h2.g h2.e (c:=c) hok (by rw[h2.v];dsimp only;rw[hl];show i+0<48;omega) (by rw[h2.v];exact q2) (by rw[h2.v];exact aFq _ _);have g1:=h2.g.doc (x:=.lI c) hok;rw[h2.v] at a2;obtain⟨b1,b2,b3⟩:=KK g1 a3 (c:=c) (by rw[a2];rfl);have g2:=g1.doc (x:=.rI c.id) trivial;refine⟨_,q3,?_⟩;rw[DP hx,take_succ hx];refine⟨g2,b3,by rw[b2,a2],?_⟩;rw[KG,KG];exact h2.r
theorem BP{v:Lg}(hv:Vd v){r:Int}(hr:0≤r∧r≤3):∀i,i≤v.t.length→∃p,follow FR FR (v.l++v.t.take i)=some p∧p5 r (DF (jX r v.l) (v.t.take i)) v.l (v.t.take i) p
 |0,_=>by
  obtain⟨p,h1,h2⟩:=EX hv hr v.l.length (aAf _);rw[aAo] at h1 h2;exact⟨p,by rw[aCg,aAc];exact h1,h2⟩
 |i+1,hi=>by
  obtain⟨p,h1,h2⟩:=BP hv hr i o_;have hx:v.t[i]?=some v.t[i]:=aAa o_;have hx2:(v.l++v.t)[v.l.length+i]?=some v.t[i]:=by rw[aBc o_,aEw];exact hx
  obtain⟨q,q1,q2,q3⟩:=jL hv.MM hx2;rw[aFc] at q1;rw[aDv,aFc] at q3;rw[h1] at q1;injection q1 with q1
  subst q1;have hlen:=hv.len;have hok:=hv.TZ _ (aAi hx);have hs:HL (v.t.take (i+1)):=hv.HL.sublist (aFt _ _);rw[take_succ hx] at hs;generalize v.t[i]=c at *;have hl:(v.t.take i).length=i:=by rw[aAg];omega
  obtain⟨a1,a2,a3⟩:=xJ h2.g h2.e (c:=c) hok (by rw[h2.v];dsimp only;rw[hl];omega) (by rw[h2.v];exact q2) (by rw[h2.v];exact hs);have g1:=h2.g.doc (x:=.lI c) hok;rw[h2.v] at a2;refine⟨_,q3,?_⟩;rw[Db hx,take_succ hx];exact⟨g1,a3,a2,by rw[KG];exact h2.r⟩
theorem LR{s:Sv}(h:Gd s){i:Nat}{c:aX}(hx:s.v.l[i]?=some c):((jX s.r (s.v.l.take i)).doc (.lI c)).2=0∧(((jX s.r (s.v.l.take i)).doc (.lI c)).1.doc (.rI c.id)).2=0:=by
 have hi:=(aAd.1 hx).1;obtain⟨p,h1,h2⟩:=EX h.v h.rep i o_;have hx2:(s.v.l++s.v.t)[i]?=some c:=by rw[aBp o_];exact hx
 obtain⟨q,q1,q2,q3⟩:=jL h.v.MM hx2;rw[aCw o_,h1] at q1;injection q1 with q1
 subst q1;have hlen:=h.v.len;have hok:=h.v.T4 _ (aAi hx);have hl:(s.v.l.take i).length=i:=by rw[aAg];omega
 obtain⟨a1,a2,a3⟩:=xJ h2.g h2.e (c:=c) hok (by rw[h2.v];dsimp only;rw[hl];show i+0<48;omega) (by rw[h2.v];exact q2) (by rw[h2.v];exact aFq _ _);have g1:=h2.g.doc (x:=.lI c) hok;rw[h2.v] at a2;exact⟨a1,(KK g1 a3 (c:=c) (by rw[a2];rfl)).1⟩
theorem NH{s:Sv}(h:Gd s){i:Nat}{c:aX}(hx:s.v.t[i]?=some c):((DF (jX s.r s.v.l) (s.v.t.take i)).doc (.lI c)).2=0:=by
 have hi:=(aAd.1 hx).1;obtain⟨p,h1,h2⟩:=BP h.v h.rep i o_;have hx2:(s.v.l++s.v.t)[s.v.l.length+i]?=some c:=by rw[aBc o_,aEw];exact hx
 obtain⟨q,q1,q2,q3⟩:=jL h.v.MM hx2;rw[aFc,h1] at q1;injection q1 with q1
 subst q1;have hlen:=h.v.len;have hok:=h.v.TZ _ (aAi hx);have hs:HL (s.v.t.take (i+1)):=h.v.HL.sublist (aFt _ _);rw[take_succ hx] at hs;have hl:(s.v.t.take i).length=i:=by rw[aAg];omega
 exact(xJ h2.g h2.e (c:=c) hok (by rw[h2.v];dsimp only;rw[hl];omega) (by rw[h2.v];exact q2) (by rw[h2.v];exact hs)).1
def part(s:Sv)(i:Nat):Sv:=⟨s.v,s.ps.take i++(s.ps.drop i).map (λp=>⟨0,[],p.w⟩),s.r⟩
theorem FZ{s:Sv}(h:Gd s):DF (jX s.r s.v.l) s.v.t=part s 0:=by
 obtain⟨p,h1,h2⟩:=BP h.v h.rep s.v.t.length (aAf _);rw[aAo] at h1 h2;rw[h.v.MM] at h1;injection h1 with h1
 subst h1;have hv:(DF (jX s.r s.v.l) s.v.t).v=s.v:=h2.v;have hr:=h2.r;have hn:=h2.g.n;have hw:=h2.g.w;have he:=h2.e;generalize DF (jX s.r s.v.l) s.v.t=R at *;obtain⟨v,ps,r⟩:=R;dsimp only at hv hr hn hw he;subst hv hr;have hlen:ps.length=s.ps.length:=by have:=h.n;omega
 unfold part;congr 1;rw[aCg,aCh,aBq];apply aCk;intro i;rw[aBf];by_cases hi:i<ps.length
 ·have h3:=hw i _ (aAa hi);have h4:=h.w i _ (aAa o_);rw[h3] at h4;injection h4 with h4
  have h5:=he _ (aCs hi);rw[aAa hi,aAa o_];show some ps[i]=some _;congr 1;generalize ps[i]=q at *;obtain⟨m,l,w⟩:=q;dsimp only at h4 h5;rw[h5.1,h5.2,h4]
 ·rw[aBx.2 o_,aBx.2 o_];rfl
theorem Nm(s:Sv):part s s.ps.length=s:=by
 unfold part;rw[aAo,aCy,aDo,aAc]
theorem Cb(s:Sv)(i:Nat):(part s i).ps.length=s.ps.length:=by
 unfold part;simp only[aAe,aAg,aAw,aBd];omega
theorem EP{s:Sv}{i:Nat}(hi:i<s.ps.length):(part s i).ps[i]?=some ⟨0,[],s.ps[i].w⟩:=by
 unfold part;dsimp only;rw[aBc (by rw[aAg];omega),aAg,aBr o_,aEi,aBf,aCv,aFb,aAa hi];rfl
theorem DO{s:Sv}(h:Gd s){i:Nat}(hi:i<s.ps.length):(part s i).load ⟨s.r,((i+1:Nat):Int)⟩ s.ps[i].made s.ps[i].l=(part s (i+1),true):=by
 have hj:=h.ch _ (aCs hi);have hlen:=Cb s i;have hg:((part s i).ps.getD i s0).w=s.ps[i].w:=by rw[aBb,EP hi];rfl
 have hs:(part s i).ps.set i s.ps[i]=(part s (i+1)).ps:=by
  unfold part;dsimp only;rw[List.set_append_right _ _ (by rw[aAg];omega),aAg,aBr o_,aEi,aAm hi,aCi,List.set_cons_zero,aAn hi,aAb];rfl
 unfold Sv.load pQ;have e1:(part s i).r=s.r:=rfl;rw[e1,if_pos ⟨rfl,by dsimp only;omega,by dsimp only;omega⟩,hj.whole,if_pos rfl];dsimp only;rw[show(((i+1:Nat):Int) - 1).toNat=i by omega,hg,hj.2.gone];rw[show(⟨s.ps[i].made,s.ps[i].l,s.ps[i].w⟩:dS)=s.ps[i] from rfl,hs];rfl
theorem Gd.part{s:Sv}(h:Gd s):∀i,i≤s.ps.length→Gd (part s i)
 |0,_=>by
  obtain⟨p,h1,h2⟩:=BP h.v h.rep s.v.t.length (aAf _);rw[aAo,FZ h] at h2;exact h2.g
 |i+1,hi=>by
  have hp:=Gd.part h i o_;have hj:=h.ch _ (aCs (show i<s.ps.length by omega));have e:=DO h (show i<s.ps.length by omega);have h2:=hp.set (i:=i) hj (by rw[aBb,EP o_];rfl);have hs:(Sep.part s (i+1)).ps=(Sep.part s i).ps.set i s.ps[i]:=by
   unfold Sv.load pQ at e;have hlen:=Cb s i;have e1:(Sep.part s i).r=s.r:=rfl;rw[e1,if_pos ⟨rfl,by dsimp only;omega,by dsimp only;omega⟩,hj.whole,if_pos rfl] at e;have e2:=congrArg (λz=>z.1.ps) e;dsimp only at e2;rw[←e2,show(((i+1:Nat):Int) - 1).toNat=i by omega,aBb,EP o_];dsimp only[Option.getD];rw[hj.2.gone]
  have e3:Sep.part s (i+1)=⟨(Sep.part s i).v,(Sep.part s i).ps.set i s.ps[i],(Sep.part s i).r⟩:=by rw[←hs];rfl
  rw[e3];exact h2
end Go.Proofs.YtmilalkjbojciaaGreat.Sep
